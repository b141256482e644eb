/- Part 3 of what the proof leans on: a symbolic execution of the model, walks of the program's functions, and the mathematics. No condition. -/
import Derived.WalkKit
import Derived.Orders
import Derived.Laws.StructEq
import Derived.WalkSpells
import Derived.OrdersHeld
import Derived.KernelRfl
import Derived.Laws.Externs
import Derived.Laws.Bits64
import Derived.Laws.MakeOwn
import Derived.Laws.BytesString
import Derived.Carry
import Derived.WideShapes
import GoSem.Claim
import Derived.Test.YtlmiolnccgjjjaaProg
import Derived.Laws.AppendOwn
import Derived.OpenShut
import Derived.Test.YtlmiolnccgjjjaaRows
import Derived.ProofKit
import Derived.Test.YtlmiolnccgjjjaaT2
set_option linter.unusedVariables false
set_option linter.unusedSimpArgs false
set_option maxRecDepth 20000
namespace Go.Proofs.Ytlmiolnccgjjjaa
open Go Go.RowKit
theorem c_n_Add (q r:NV) (A B:Nat) (w:World) (hq:(numT q A).holds w) (hr:(numT r B).holds w) (hA:D.nw A≤1000000) (hB:D.nw B≤1000000):Calls Try.prog 50 ([numV q A,numV r B]:List Value).toArray w (fun e w'=>NumR w ([]) (A+B) (fun v=>v) e w'):=by
  refine Ki (N:=47) (rs:=[.tmp 4]) [numT q A,numT r B] Try.func50 rfl Try.ntmps50 Try.results50 (Nb rfl) ⟨hq,hr,trivial⟩ rfl ?_
  show LCode _ _ _ ⟨_,_⟩ _
  refine KB (KA ?_)
  refine oA ?_
  refine KC ?_
  refine KB ?_
  obtain ⟨K,hK⟩:∃ K,K = (if D.nw A<D.nw B then D.nw B else D.nw A):=⟨_,rfl⟩
  have hAK:A<2^(32*K):=Nat.lt_of_lt_of_le (D.lt_nw A) (Nat.pow_le_pow_right (by decide) (by split at hK <;> omega))
  have hBK:B<2^(32*K):=Nat.lt_of_lt_of_le (D.lt_nw B) (Nat.pow_le_pow_right (by decide) (by split at hK <;> omega))
  have hKb:K≤1000000:=by split at hK <;> omega
  clear hA hB
  refine KA ?_
  refine oM ?_
  refine oP (KAC Try.underlying24 rfl) ?_
  refine oM ?_
  refine oP (KAC Try.underlying24 rfl) ?_
  refine oP (KK (Det.maxN rfl rfl) (vi (b:=K) (by rw [hK]))) ?_
  refine oA ?_
  refine KC ?_
  refine KB (KA ?_)
  refine oM ?_
  refine oP (KF rfl rfl (Kv (b:=1) (by omega))) ?_
  refine oS (mk (Makes.mkV Try.underlying24 inf_67 rfl rfl (by omega) (by omega)) (fun b17=>?_))
  refine oA ?_
  refine KC ?_
  refine KB (KA ?_)
  refine oP (KZ (v:=.int .u64 ((0:Nat):Int)) rfl) ?_
  refine KC ?_
  refine KB ?_
  refine KB (KA ?_)
  refine oP (KZ (v:=.int .i64 ((0:Nat):Int)) rfl) ?_
  refine KC ?_
  refine LCode.block ?_
  refine Ks (α:=Nat) (fun x=>x≤K) (fun x=>⟨[(0,numV q A),(1,numV r B),(5,.int .i64 ((K:Nat):Int)),(6,.slice (some ⟨b17,0,none⟩) (K+1) (K+1)),(7,.int .u64 ((D.carry A B x:Nat):Int)),(8,.int .i64 ((x:Nat):Int))],[.blk b17 ⟨true,vec .u32 (K+1) (fun j=>if j<x then D.limb (A+B) j else 0),67,(0,0)⟩,numT q A,numT r B]⟩) (fun x=>K-x) (0) (Nat.zero_le _) (Kq ⟨rfl,rfl,rfl,rfl,by rw [D.carry_zero]; rfl,rfl,trivial⟩ (by repeat (first|exact Sel.nil _|refine Sel.cons (by repeat (first|exact Ph _|apply Pt_)) ?_))) ?_
  intro x hx
  refine KB ?_
  refine KB (KA ?_)
  refine oM ?_
  refine oM ?_
  refine oP (KF rfl rfl (KAT)) ?_
  refine KC ?_
  first|refine KS rfl (fun h20=>?_) (fun h20=>?_)|refine KU rfl (fun h20=>?_) (fun h20=>?_)
  ·
    refine KT ?_
    refine KB ?_
    refine LCode.block ?_
    refine KB ?_
    have hs:=D.add_limb A B x
    have hc:=D.carry_le A B x
    have hc2:=D.carry_le A B (x+1)
    have hla:=D.limb_lt A x
    have hlb:=D.limb_lt B x
    have hls:=D.limb_lt (A+B) x
    refine KA ?_
    refine oM ?_
    refine oM ?_
    refine oS (cF rfl en_95 rfl (fun w hw=>c_n_digit q A (D.nw A) x w (mC hw)) ?_)
    refine oM ?_
    refine oM ?_
    refine oS (cF rfl en_95 rfl (fun w hw=>c_n_digit r B (D.nw B) x w (mC hw)) ?_)
    refine oP (KF rfl rfl (KAM)) ?_
    refine oM ?_
    refine oP (KF rfl rfl (KAM)) ?_
    refine oA ?_
    refine KC ?_
    refine KB (KA ?_)
    refine oM ?_
    refine oM ?_
    refine oM ?_
    refine oP (KF rfl rfl (br_and64 (b:=4294967295) (by omega) (by decide))) ?_
    refine oP (KAP Try.underlying30 Try.underlying67 rfl) ?_
    refine oP (Ko Try.underlying24 sz_67 rfl rfl (by omega)) ?_
    refine KV rfl (Kj rfl rfl rfl sz_67 (by repeat (first|exact Sh _|apply St_)) (by first|(simp only [KH,KD,KE,Kt]; omega)|(simp; done)|(simp; omega)) (by first|exact KAH _ _ _ _ _|exact KAJ _ _ _ _ (by omega)|exact KAI _ _ _ _|rfl) (by simp) ?_)
    refine KC ?_
    refine KA ?_
    refine oM ?_
    refine oP (KF rfl rfl (KAL (b:=32) (by omega))) ?_
    refine oA ?_
    refine KC ?_
    refine KA ?_
    refine oM ?_
    refine oP (KF rfl rfl (Kv (b:=1) (by omega))) ?_
    refine oA ?_
    refine KC ?_
    refine ⟨x+1,by omega,by omega,KAO (Sub.cells (b:=b17) (cs':=vec .u32 (K+1) (fun j=>if j<x+1 then D.limb (A+B) j else 0)) (by repeat (first|exact Sh _|apply St_)) (KAA fun j hj=>?_)) (Kq ⟨rfl,rfl,rfl,rfl,congrArg (fun n:Nat=>some (Value.int .u64 (n:Int))) ?_,rfl,trivial⟩ (by repeat (first|exact Sel.nil _|refine Sel.cons (by repeat (first|exact Ph _|apply Pt_)) ?_)))⟩
    · by_cases e:j = x
      · rw [if_pos e,if_pos (by omega),e,and32]
        omega
      · rw [if_neg e]
        by_cases e3:j<x
        · rw [if_pos e3,if_pos (by omega)]
        · rw [if_neg e3,if_neg (by omega)]
    · omega
  ·
    refine Kp ?_
    refine KB ?_
    obtain rfl:K = x:=by omega
    have hc:=D.carry_le A B K
    refine KA ?_
    refine oM ?_
    refine oM ?_
    refine oM ?_
    refine oP (KAP Try.underlying30 Try.underlying67 rfl) ?_
    refine oP (Ko Try.underlying24 sz_67 rfl rfl (by omega)) ?_
    refine KV rfl (Kj rfl rfl rfl sz_67 (by repeat (first|exact Sh _|apply St_)) (by first|(simp only [KH,KD,KE,Kt]; omega)|(simp; done)|(simp; omega)) (by first|exact KAH _ _ _ _ _|exact KAJ _ _ _ _ (by omega)|exact KAI _ _ _ _|rfl) (by simp) ?_)
    refine LOps.sub (Sub.cells (b:=b17) (cs':=vec .u32 (K+1) (D.limb (A+B))) (by repeat (first|exact Sh _|apply St_)) (KAA fun j hj=>?_)) ?_
    · by_cases e:j = K
      · rw [if_pos e,e,D.carry_top hAK hBK]; exact Nat.mod_eq_of_lt (D.limb_lt _ _)
      · rw [if_neg e,if_pos (by omega)]
    refine KC ?_
    refine KB (KA ?_)
    refine oM ?_
    refine oS (cF rfl en_87 rfl (fun w hw=>c_trim (A+B) b17 (K+1) (K+1) (K+1) _ true w (mC hw) (Nat.le_refl _) (Nat.le_refl _) (by omega) (D.add_lt hAK hBK)) ?_)
    refine oA ?_
    refine KC (KM ?_)
    refine ⟨[_],.cons rfl .nil,fun a w' hr=>hr.num (by repeat (first|exact Mh _|apply Mt)) (D.add_lt hAK hBK)⟩
theorem blen_half {x:Nat} (h:x≠0):blen (x/2)+1 = blen x:=by
  by_cases h1:x = 1
  · subst h1; rfl
  · have:=blen_shr (x:=x) (k:=1) (show 2^1≤x by omega)
    exact this
theorem c_n_Bits (q:NV) (A:Nat) (w:World) (hq:(numT q A).holds w) (hA:D.nw A≤1000000):Calls Try.prog 70 ([numV q A]:List Value).toArray w (fun e w'=>e = .returned (.int .i64 ((blen A:Nat):Int))∧Below w.heap.size w w'):=by
  refine Ki (N:=25) (rs:=[.tmp 2]) [numT q A] Try.func70 rfl Try.ntmps70 Try.results70 (Nb rfl) ⟨hq,trivial⟩ rfl ?_
  show LCode _ _ _ ⟨_,_⟩ _
  refine KB (KA ?_)
  refine oP (KZ (v:=.int .i64 ((0:Nat):Int)) rfl) ?_
  refine KC ?_
  refine KB ?_
  refine KB (KA ?_)
  refine oM ?_
  refine oP (KAC Try.underlying24 rfl) ?_
  refine oP (KF rfl rfl (br_eql (b:=0))) ?_
  refine KC ?_
  first|refine KS rfl (fun h7=>?_) (fun h7=>?_)|refine KU rfl (fun h7=>?_) (fun h7=>?_)
  ·
    have h7:D.nw A = 0:=by have:=h7; simpa using this
    refine KB (KA ?_)
    refine oP (KZ (v:=.int .i64 ((0:Nat):Int)) rfl) ?_
    refine KC (KM ?_)
    have hz:A = 0:=nw_eq_zero.1 h7
    refine ⟨[_],.cons rfl .nil,fun a w' hr=>⟨?_,hr.fr.below⟩⟩
    rw [hz]; rfl
  ·
    have h7:D.nw A≠0:=by have:=h7; simpa using this
    refine KT ?_
    refine KB (KA ?_)
    refine oM ?_
    refine oP (KAC Try.underlying24 rfl) ?_
    refine oP (KF rfl rfl (br_sub (b:=1) (by omega) (by omega))) ?_
    refine oP (KF rfl rfl (br_mul (a:=32) (by omega))) ?_
    refine oA ?_
    refine KC ?_
    refine KB ?_
    refine KB (KA ?_)
    refine oM ?_
    refine oM ?_
    refine oP (KAC Try.underlying24 rfl) ?_
    refine oP (KF rfl rfl (br_sub (b:=1) (by omega) (by omega))) ?_
    refine oP (KAW Try.underlying24 sz_67 rfl rfl (by omega)) ?_
    refine oD (Det.loadN Try.underlying67 rfl rfl (by repeat (first|exact Mh _|apply Mt)) (by omega)) ?_
    refine oA ?_
    refine KC ?_
    refine LCode.block ?_
    refine Ks (α:=Nat×Nat) (fun x=>x.1<4294967296∧x.2+blen x.1 = blen A∧blen A≤32000000) (fun x=>⟨[(3,.int .i64 ((x.2:Nat):Int)),(4,.int .u32 ((x.1:Nat):Int))],[]⟩) (fun x=>x.1) ((D.limb A (D.nw A-1),32*(D.nw A-1))) (⟨D.limb_lt _ _,D.bits_words h7,by have:=D.bits_words h7; have:=blen_le (n:=32) (D.limb_lt A (D.nw A-1)); omega⟩) (Kq ⟨rfl,rfl,trivial⟩ (by repeat (first|exact Sel.nil _|refine Sel.cons (by repeat (first|exact Ph _|apply Pt_)) ?_))) ?_
    rintro x ⟨hx1,hx2,hx3⟩
    refine KB ?_
    refine KB (KA ?_)
    refine oM ?_
    refine oP (KF rfl rfl (br_gtr (b:=0))) ?_
    refine KC ?_
    first|refine KS rfl (fun h19=>?_) (fun h19=>?_)|refine KU rfl (fun h19=>?_) (fun h19=>?_)
    ·
      have h19:0<x.1:=by have:=h19; simpa using this
      refine KT ?_
      refine KB ?_
      refine LCode.block ?_
      have hb1:=blen_ne (A:=x.1) (by omega)
      refine KA ?_
      refine oM ?_
      refine oP (KF rfl rfl (Kv (b:=1) (by omega))) ?_
      refine oA ?_
      refine KC ?_
      refine KA ?_
      refine oM ?_
      refine oP (KF rfl rfl (br_shr32 (b:=1) (by omega))) ?_
      refine oA ?_
      refine KC ?_
      have hh:=blen_half (x:=x.1) (by omega)
      refine ⟨(x.1/2,x.2+1),⟨by dsimp only; omega,by dsimp only; omega,hx3⟩,by dsimp only; omega,Kq ⟨rfl,rfl,trivial⟩ (by repeat (first|exact Sel.nil _|refine Sel.cons (by repeat (first|exact Ph _|apply Pt_)) ?_))⟩
    ·
      have h19:¬ 0<x.1:=by have:=h19; simpa using this
      refine Kp ?_
      refine KB (KA ?_)
      refine oM ?_
      refine oA ?_
      refine KC (KM ?_)
      have h0:x.1 = 0:=by omega
      rw [h0,blen_zero,Nat.add_zero] at hx2
      refine ⟨[_],.cons rfl .nil,fun a w' hr=>⟨?_,hr.fr.below⟩⟩
      rw [← hx2]; rfl
theorem D.bit_of (A i:Nat):D.limb A (i/32)/2^(i%32)%2 = A/2^i%2:=by
  have h1:A/2^i = A/2^(32*(i/32))/2^(i%32):=by
    rw [Nat.div_div_eq_div_mul,← Nat.pow_add]; congr 2; omega
  rw [h1]
  unfold D.limb
  generalize A/2^(32*(i/32)) = q
  have hr:i%32<32:=Nat.mod_lt _ (by decide)
  generalize i%32 = r at *
  have e:(4294967296:Nat) = 2^r*(2^(31-r)*2):=by
    rw [← Nat.pow_succ,← Nat.pow_add,show r+(31-r).succ = 32 by omega]
  rw [e,Nat.mod_mul_right_div_self,Nat.mod_mul_left_mod]
theorem and1 (x:Nat):x &&& 1 = x%2:=Nat.and_two_pow_sub_one_eq_mod x 1
theorem shift_dig {A k i:Nat}:D.limb (A/2^k) i = (D.limb A (i+k/32) ||| D.limb A (i+k/32+1)*4294967296%18446744073709551616)/2^(k%32)%4294967296:=by
  have h:=D.limb_shr A (k/32) (k%32) i (Nat.mod_lt _ (by decide))
  rw [show 32*(k/32)+k%32 = k by omega] at h
  rw [h,or_digits (D.limb_lt _ _) (D.limb_lt _ _)]
  have h1:=D.limb_lt A (i+k/32)
  have h2:=D.limb_lt A (i+k/32+1)
  have hr:k%32<32:=Nat.mod_lt _ (by decide)
  generalize D.limb A (i+k/32) = a at *
  generalize D.limb A (i+k/32+1) = b at *
  generalize k%32 = r at *
  have e:(4294967296:Nat) = 2^(32-r)*2^r:=by rw [← Nat.pow_add,show 32-r+r = 32 by omega]
  have hp:0<2^r:=Nat.pow_pos (by decide)
  have e2:(a+4294967296*b)/2^r = a/2^r+b*2^(32-r):=by
    rw [show a+4294967296*b = a+b*2^(32-r)*2^r by rw [e,Nat.mul_comm _ b,Nat.mul_assoc],Nat.add_mul_div_right _ _ hp]
  rw [e2]
  have h3:a/2^r<2^(32-r):=by rw [Nat.div_lt_iff_lt_mul hp,← e]; exact h1
  have h4:b*2^(32-r)%4294967296 = b%2^r*2^(32-r):=by
    rw [e,Nat.mul_comm (2^(32-r)),Nat.mul_mod_mul_right]
  have h5:b%2^r+1≤2^r:=Nat.mod_lt _ hp
  have h6:=Nat.mul_le_mul_right (2^(32-r)) h5
  rw [Nat.add_mul,Nat.mul_comm (2^r),← e,Nat.one_mul] at h6
  have h7:a/2^r+b*2^(32-r)%4294967296<4294967296:=by
    rw [h4]; exact Nat.lt_of_lt_of_le (Nat.add_lt_add_right h3 _) (by rw [Nat.add_comm]; exact h6)
  rw [Nat.add_mod (a/2^r),Nat.mod_eq_of_lt (show a/2^r<4294967296 by have:=Nat.div_le_self a (2^r); omega),Nat.mod_eq_of_lt h7]
theorem c_n_Bit (q:NV) (A n i:Nat) (w:World) (hq:(numI q A n).holds w) (hi:i<9223372036854775808):Calls Try.prog 86 ([slV q n,.int .i64 ((i:Nat):Int)]:List Value).toArray w (fun e w'=>e = .returned (.int .i64 ((A/2^i%2:Nat):Int))∧Below w.heap.size w w'):=by
  refine Ki (N:=14) (rs:=[.tmp 4]) [numI q A n] Try.func86 rfl Try.ntmps86 Try.results86 (Nb rfl) ⟨hq,trivial⟩ rfl ?_
  show LCode _ _ _ ⟨_,_⟩ _
  refine KB (KA ?_)
  refine oP (KZ (v:=.int .i64 ((0:Nat):Int)) rfl) ?_
  refine KC ?_
  refine KB (KA ?_)
  refine oM ?_
  refine oM ?_
  refine oP (KF rfl rfl (br_quo (b:=32) (by omega) (by omega))) ?_
  refine oS (cF rfl en_95 rfl (fun w hw=>c_n_digit q A n (i/32) w (mC hw)) ?_)
  refine oM ?_
  refine oP (KF rfl rfl (br_rem (b:=32) (by omega))) ?_
  refine oP (KF rfl rfl (KAL (Nat.lt_trans (D.limb_lt _ _) (by decide)))) ?_
  refine oP (KF rfl rfl (br_and64 (b:=1) (Nat.lt_of_le_of_lt (Nat.div_le_self _ _) (Nat.lt_trans (D.limb_lt _ _) (by decide))) (by decide))) ?_
  refine oP (Det.convi Try.underlying30 Try.underlying3 rfl (by rw [and1]; omega)) ?_
  refine oA ?_
  refine KC (KM ?_)
  refine ⟨[_],.cons rfl .nil,fun a w' hr=>⟨?_,hr.fr.below⟩⟩
  rw [and1,D.bit_of]; rfl
theorem c_n_Shr (q:NV) (A n k:Nat) (w:World) (hq:(numI q A n).holds w) (hn:n≤1000000) (hk:k<4294967296):Calls Try.prog 111 ([slV q n,.int .i64 ((k:Nat):Int)]:List Value).toArray w (fun e w'=>NumR w ([]) (A/2^k) (fun v=>v) e w'):=by
  have hA:=numI_lt hq
  refine Ki (N:=51) (rs:=[.tmp 4]) [numI q A n] Try.func111 rfl Try.ntmps111 Try.results111 (Nb rfl) ⟨hq,trivial⟩ rfl ?_
  show LCode _ _ _ ⟨_,_⟩ _
  refine KB (KA ?_)
  refine oA ?_
  refine KC ?_
  refine KB ?_
  refine KB (KA ?_)
  refine oM ?_
  refine oP (KF rfl rfl (br_quo (b:=32) (by omega) (by omega))) ?_
  refine oM ?_
  refine oP (KAC Try.underlying24 rfl) ?_
  refine oP (KF rfl rfl (br_geq)) ?_
  refine KC ?_
  first|refine KS rfl (fun h12=>?_) (fun h12=>?_)|refine KU rfl (fun h12=>?_) (fun h12=>?_)
  ·
    have h12:n≤k/32:=by have:=h12; omega
    refine KB (KA ?_)
    refine oA ?_
    refine KC (KM ?_)
    have hz:A/2^k = 0:=Nat.div_eq_of_lt (Nat.lt_of_lt_of_le hA (Nat.pow_le_pow_right (by decide) (by omega)))
    rw [hz]
    refine ⟨[_],.cons rfl .nil,fun a w' hr=>hr.numNil⟩
  ·
    have h12:¬ n≤k/32:=by have:=h12; omega
    refine KT ?_
    refine KB ?_
    have hAk:A/2^k<2^(32*(n-k/32)):=by
      rw [Nat.div_lt_iff_lt_mul (Nat.pow_pos (by decide)),← Nat.pow_add]
      exact Nat.lt_of_lt_of_le hA (Nat.pow_le_pow_right (by decide) (by omega))
    refine KA ?_
    refine oM ?_
    refine oP (KAC Try.underlying24 rfl) ?_
    refine oM ?_
    refine oP (KF rfl rfl (br_quo (b:=32) (by omega) (by omega))) ?_
    refine oP (KF rfl rfl (br_sub (by omega) (by omega))) ?_
    refine oS (mk (Makes.mkV Try.underlying24 inf_67 rfl rfl (by omega) (by omega)) (fun b18=>?_))
    refine oA ?_
    refine KC ?_
    refine KB ?_
    refine KB (KA ?_)
    refine oP (KZ (v:=.int .i64 ((0:Nat):Int)) rfl) ?_
    refine KC ?_
    refine LCode.block ?_
    refine Ks (α:=Nat) (fun x=>x≤n-k/32) (fun x=>⟨[(0,slV q n),(1,.int .i64 ((k:Nat):Int)),(5,.slice (some ⟨b18,0,none⟩) (n-k/32) (n-k/32)),(6,.int .i64 ((x:Nat):Int))],[.blk b18 ⟨true,vec .u32 (n-k/32) (fun j=>if j<x then D.limb (A/2^k) j else 0),67,(0,0)⟩,numI q A n]⟩) (fun x=>n-k/32-x) (0) (Nat.zero_le _) (Kq ⟨rfl,rfl,rfl,rfl,trivial⟩ (by repeat (first|exact Sel.nil _|refine Sel.cons (by repeat (first|exact Ph _|apply Pt_)) ?_))) ?_
    intro x hx
    refine KB ?_
    refine KB (KA ?_)
    refine oM ?_
    refine oM ?_
    refine oP (KAC Try.underlying24 rfl) ?_
    refine oP (KF rfl rfl (KAT)) ?_
    refine KC ?_
    first|refine KS rfl (fun h22=>?_) (fun h22=>?_)|refine KU rfl (fun h22=>?_) (fun h22=>?_)
    ·
      refine KT ?_
      refine KB ?_
      refine LCode.block ?_
      refine KB (KA ?_)
      refine oM ?_
      refine oM ?_
      refine oM ?_
      refine oP (KF rfl rfl (br_quo (b:=32) (by omega) (by omega))) ?_
      refine oP (KF rfl rfl (Kv (by omega))) ?_
      refine oS (cF rfl en_95 rfl (fun w hw=>c_n_digit q A n (x+k/32) w (mC hw)) ?_)
      refine oM ?_
      refine oM ?_
      refine oM ?_
      refine oP (KF rfl rfl (br_quo (b:=32) (by omega) (by omega))) ?_
      refine oP (KF rfl rfl (Kv (by omega))) ?_
      refine oP (KF rfl rfl (Kv (b:=1) (by omega))) ?_
      refine oS (cF rfl en_95 rfl (fun w hw=>c_n_digit q A n (x+k/32+1) w (mC hw)) ?_)
      refine oP (KF rfl rfl (br_shl64 (b:=32))) ?_
      refine oP (KF rfl rfl (br_or64 (Nat.lt_trans (D.limb_lt _ _) (by decide)) (Nat.mod_lt _ (by decide)))) ?_
      refine oA ?_
      refine KC ?_
      refine KA ?_
      refine oM ?_
      refine oM ?_
      refine oM ?_
      refine oM ?_
      refine oP (KF rfl rfl (br_rem (b:=32) (by omega))) ?_
      refine oP (KF rfl rfl (KAL (Nat.or_lt_two_pow (n:=64) (Nat.lt_trans (D.limb_lt _ _) (by decide)) (Nat.mod_lt _ (by decide))))) ?_
      refine oP (KF rfl rfl (br_and64 (b:=4294967295) (Nat.lt_of_le_of_lt (Nat.div_le_self _ _) (Nat.or_lt_two_pow (n:=64) (Nat.lt_trans (D.limb_lt _ _) (by decide)) (Nat.mod_lt _ (by decide)))) (by decide))) ?_
      refine oP (KAP Try.underlying30 Try.underlying67 rfl) ?_
      refine oP (Ko Try.underlying24 sz_67 rfl rfl (by omega)) ?_
      refine KV rfl (Kj rfl rfl rfl sz_67 (by repeat (first|exact Sh _|apply St_)) (by first|(simp only [KH,KD,KE,Kt]; omega)|(simp; done)|(simp; omega)) (by first|exact KAH _ _ _ _ _|exact KAJ _ _ _ _ (by omega)|exact KAI _ _ _ _|rfl) (by simp) ?_)
      refine KC ?_
      refine KA ?_
      refine oM ?_
      refine oP (KF rfl rfl (Kv (b:=1) (by omega))) ?_
      refine oA ?_
      refine KC ?_
      refine ⟨x+1,by omega,by omega,KAO (Sub.cells (b:=b18) (cs':=vec .u32 (n-k/32) (fun j=>if j<x+1 then D.limb (A/2^k) j else 0)) (by repeat (first|exact Sh _|apply St_)) (KAA fun j hj=>?_)) (Kq ⟨rfl,rfl,rfl,rfl,trivial⟩ (by repeat (first|exact Sel.nil _|refine Sel.cons (by repeat (first|exact Ph _|apply Pt_)) ?_)))⟩
      by_cases e:j = x
      · rw [if_pos e,if_pos (by omega),e,and32,Nat.mod_mod]
        exact shift_dig.symm
      · rw [if_neg e]
        by_cases e3:j<x
        · rw [if_pos e3,if_pos (by omega)]
        · rw [if_neg e3,if_neg (by omega)]
    ·
      refine Kp ?_
      refine KB ?_
      obtain rfl:x = n-k/32:=by omega
      refine LCode.sub (Sub.cells (b:=b18) (cs':=vec .u32 (n-k/32) (D.limb (A/2^k))) (by repeat (first|exact Sh _|apply St_)) (KAA fun j hj=>if_pos hj)) ?_
      refine KA ?_
      refine oM ?_
      refine oS (cF rfl en_87 rfl (fun w hw=>c_trim (A/2^k) b18 (n-k/32) (n-k/32) (n-k/32) _ true w (mC hw) (Nat.le_refl _) (Nat.le_refl _) (by omega) hAk) ?_)
      refine oA ?_
      refine KC (KM ?_)
      refine ⟨[_],.cons rfl .nil,fun a w' hr=>hr.num (by repeat (first|exact Mh _|apply Mt)) (hAk)⟩
end Go.Proofs.Ytlmiolnccgjjjaa
set_option linter.unusedVariables false
namespace Go.Proofs.Ytlmiolnccgjjjaa.D
open Go Go.RowKit
theorem mod_nw (A:Nat):A%2^(32*nw A) = A:=Nat.mod_eq_of_lt (lt_nw A)
theorem mod_zero_word (A B:Nat):A%2^(32*0)*B = 0:=by rw [Nat.mul_zero,Nat.pow_zero,Nat.mod_one,Nat.zero_mul]
theorem row_end {X c A B i : Nat} (h : X + c * 2 ^ (32 * (i + nw B)) = A % 2 ^ (32 * i) * B + limb A i * (B % 2 ^ (32 * nw B)) * 2 ^ (32 * i)) (hX : X < 2 ^ (32 * (i + nw B))) :
    setl X (i+nw B) c = A%2^(32*(i+1))*B:=by
  have h0:=limb_high hX (Nat.le_refl _)
  have h1:=setl_eq X (i+nw B) c
  rw [h0,Nat.zero_mul,Nat.add_zero] at h1
  rw [h1,h,mod_nw,mod_succ_limb,Nat.add_mul]
  congr 1
  rw [Nat.mul_assoc,Nat.mul_comm,Nat.mul_assoc,Nat.mul_assoc,Nat.mul_comm B]
  exact Nat.mul_assoc _ _ _
theorem row_zero (A B i:Nat):A%2^(32*i)*B+0*2^(32*(i+0)) = A%2^(32*i)*B+limb A i*(B%2^(32*0))*2^(32*i):=by
  rw [Nat.mul_zero,Nat.pow_zero,Nat.mod_one,Nat.mul_zero,Nat.zero_mul,Nat.zero_mul]
theorem row_lt (A B i:Nat):A%2^(32*i)*B<2^(32*(i+nw B)):=by
  rw [pow64_add]
  exact Nat.mul_lt_mul_of_lt_of_le (Nat.mod_lt _ (pow64_pos i)) (Nat.le_of_lt (lt_nw B)) (pow64_pos _)
theorem guess_facts {U m a : Nat} (hm : m ≠ 0) (hU : U < dnm m * 2 ^ (32 * (a + 1))) :
    limb U (a+nw m)*4294967296+limb U (a+nw m-1) = U/2^(32*a)/2^(32*(nw m-1))∧limb (dnm m) (nw m-1) = dnm m/2^(32*(nw m-1))∧2147483648≤limb (dnm m) (nw m-1) ∧
    U/2^(32*a)/dnm m≤U/2^(32*a)/2^(32*(nw m-1))/limb (dnm m) (nw m-1):=by
  have hn:=nw_pos hm
  have h1:=win_lt (dnm_lt m) hU
  rw [Nat.add_assoc] at h1
  have h2:=win_div h1
  obtain ⟨h3,h4⟩:=dnm_top hm
  refine ⟨?_,h3,h4,?_⟩
  · rw [show a+nw m-1 = a+(nw m-1) by omega,← limb_div,← limb_div]
    have:=two_words (R:=U/2^(32*a)) (j:=nw m-1) (by rw [show nw m-1+2 = nw m+1 by omega]; exact h2)
    rw [this,show nw m-1+1 = nw m by omega]
  · rw [h3]
    apply div_cut (pow64_pos _)
    rw [← h3]; omega
theorem guess_step {U m a q r : Nat} (hm : m ≠ 0) (hn : 2 ≤ nw m) (h1 : q * limb (dnm m) (nw m - 1) + r = U / 2 ^ (32 * a) / 2 ^ (32 * (nw m - 1)))
    (h2:r*4294967296+limb U (a+nw m-2)<q*limb (dnm m) (nw m-2)):U/2^(32*a)/dnm m<q:=by
  refine guess_more (k:=2^(32*(nw m-2))) (M:=4294967296) (pow64_pos _) (dnm_pos hm) (top:=limb (dnm m) (nw m-1)) (d2:=limb (dnm m) (nw m-2)) ?_ (R2:=U/2^(32*a)/2^(32*(nw m-1))) (u2:=limb U (a+nw m-2)) ?_ h1 h2
  · have:=two_words (R:=dnm m) (j:=nw m-2) (by rw [show nw m-2+2 = nw m by omega]; exact dnm_lt m)
    rw [this,show nw m-2+1 = nw m-1 by omega]
  · have:=next_word (U/2^(32*a)) (nw m-2)
    rw [this,limb_div,show nw m-2+1 = nw m-1 by omega,show a+(nw m-2) = a+nw m-2 by omega]
theorem two_le {a b r u:Nat} (hb:b<4294967296) (hu:u<4294967296) (h:r<a∨(a = r∧u<b)):r*4294967296+u<a*4294967296+b:=by omega
theorem guess_next {top r q d2 u R2:Nat} (h1:q*top+r = R2) (h0:0<q):(q-1)*top+(r+top) = R2:=by
  obtain ⟨p,rfl⟩:∃ p,q = p+1:=⟨q-1,by omega⟩
  rw [Nat.add_mul] at h1
  rw [Nat.add_sub_cancel]; omega
theorem take_pre {U q D a:Nat}:U+q*(D%2^(32*0))*2^(32*a) = U+(0+0)*2^(32*(a+0)):=by
  rw [Nat.mul_zero,Nat.pow_zero,Nat.mod_one,Nat.mul_zero,Nat.zero_mul,Nat.zero_mul]
theorem back_pre {U D a:Nat}:U+0*2^(32*(a+0)) = U+(D%2^(32*0))*2^(32*a):=by
  rw [Nat.mul_zero,Nat.pow_zero,Nat.mod_one,Nat.zero_mul,Nat.zero_mul]
theorem fill_zero (W s:Nat):W%2^(32*0)*2^s = 0:=by rw [Nat.mul_zero,Nat.pow_zero,Nat.mod_one,Nat.zero_mul]
theorem quo_store {K x y:Nat} (hx:x<4294967296) (j:Nat):(if j = y then x else limb (K*2^(32*(y+1))) j) = limb ((K*4294967296+x)*2^(32*y)) j:=by
  have h0:limb (K*2^(32*(y+1))) y = 0:=by
    unfold limb
    rw [pow64_succ,← Nat.mul_assoc,Nat.mul_div_cancel _ (pow64_pos y),Nat.mul_mod_left]
  have:=limb_addl (K*2^(32*(y+1))) x y j (by rw [h0]; omega)
  rw [h0,Nat.zero_add] at this
  rw [← this,Nat.add_mul,pow64_succ,Nat.mul_assoc]
theorem quo_sum {U U0 K x y D V:Nat} (h1:U+x*D*2^(32*y) = U0) (h2:U0+K*2^(32*(y+1))*D = V):U+(K*4294967296+x)*2^(32*y)*D = V:=by
  rw [← h2,← h1,pow64_succ]
  generalize 2^(32*y) = A
  grind
theorem guess_bound {U m a q r : Nat} (hm : m ≠ 0) (hn : 2 ≤ nw m) (hq : q < 4294967296) (h1 : q * limb (dnm m) (nw m - 1) + r = U / 2 ^ (32 * a) / 2 ^ (32 * (nw m - 1)))
    (h2:q*limb (dnm m) (nw m-2)≤r*4294967296+limb U (a+nw m-2)):q≤U/2^(32*a)/dnm m+1:=by
  have hD:=two_words (R:=dnm m) (j:=nw m-2) (by rw [show nw m-2+2 = nw m by omega]; exact dnm_lt m)
  rw [show nw m-2+1 = nw m-1 by omega] at hD
  have hR:=next_word (U/2^(32*a)) (nw m-2)
  rw [limb_div,show nw m-2+1 = nw m-1 by omega,show a+(nw m-2) = a+nw m-2 by omega] at hR
  obtain ⟨ht1,ht2⟩:=dnm_top hm
  have hDp:=dnm_pos hm
  have hk:0<2^(32*(nw m-2)):=pow64_pos _
  generalize hRe:U/2^(32*a) = R at *
  generalize dnm m = D at *
  generalize 2^(32*(nw m-2)) = k at *
  generalize limb D (nw m-1) = v1 at *
  generalize limb D (nw m-2) = v2 at *
  generalize limb U (a+nw m-2) = u2 at *
  generalize R/2^(32*(nw m-1)) = x at *
  have h3:q*(D/k)≤R/k:=by
    rw [hD,hR,← h1,Nat.mul_add,Nat.add_mul,← Nat.mul_assoc]
    omega
  have h4:q<D/k:=by rw [hD]; omega
  have hD2:=Nat.div_add_mod D k
  have hD3:=Nat.mod_lt D hk
  have hR2:=Nat.div_mul_le_self R k
  have h5:q*(D/k)*k≤R:=Nat.le_trans (Nat.mul_le_mul_right k h3) hR2
  generalize D/k = V at *
  generalize D%k = d0 at *
  refine Nat.le_of_not_lt fun h=>?_
  have h6:R<(R/D+1)*D:=by
    have e1:=Nat.div_add_mod R D
    have e2:=Nat.mod_lt R hDp
    rw [Nat.add_mul,Nat.one_mul,Nat.mul_comm (R/D)]; omega
  have h0:R/D+1≤q-1:=Nat.le_sub_one_of_lt h
  have h7:(R/D+1)*D≤(q-1)*D:=Nat.mul_le_mul_right D h0
  obtain ⟨p,rfl⟩:∃ p,q = p+1:=⟨q-1,(Nat.sub_add_cancel (Nat.lt_of_le_of_lt (Nat.zero_le _) h)).symm⟩
  rw [Nat.add_sub_cancel] at h7
  have e3:p*D = p*(k*V)+p*d0:=by rw [← Nat.mul_add,hD2]
  rw [e3] at h7
  have h8:p*d0≤p*k:=Nat.mul_le_mul_left p (by omega)
  have h9:p*k≤V*k:=Nat.mul_le_mul_right k (by omega)
  rw [Nat.mul_comm k V,← Nat.mul_assoc] at h7
  rw [Nat.add_mul,Nat.add_mul,Nat.one_mul] at h5
  generalize p*V*k = X at *
  generalize (R/D+1)*D = Y at *
  generalize p*d0 = Z at *
  omega
theorem guess_top {U m a:Nat} (hm:m≠0) (hU:U<dnm m*2^(32*(a+1))):U/2^(32*a)/2^(32*(nw m-1))<(limb (dnm m) (nw m-1)+1)*4294967296:=by
  have h1:U/2^(32*a)<dnm m*4294967296:=by
    rw [Nat.div_lt_iff_lt_mul (pow64_pos a),Nat.mul_assoc,← pow64_succ]; exact hU
  rw [(dnm_top hm).1,Nat.div_lt_iff_lt_mul (pow64_pos _)]
  refine Nat.lt_trans h1 ?_
  rw [Nat.mul_right_comm]
  refine Nat.mul_lt_mul_of_pos_right ?_ (by decide)
  rw [Nat.add_mul,Nat.one_mul]
  have:=Nat.div_add_mod (dnm m) (2^(32*(nw m-1)))
  have:=Nat.mod_lt (dnm m) (pow64_pos (nw m-1))
  rw [Nat.mul_comm]; omega
theorem guess_small {v q r x:Nat} (h1:q*v+r = x) (h2:x<(v+1)*4294967296) (h3:4294967296≤r):q<4294967296:=by
  refine Nat.lt_of_not_le fun h=>?_
  have:=Nat.mul_le_mul_right v h
  rw [Nat.add_mul,Nat.one_mul] at h2
  rw [Nat.mul_comm v] at h2
  omega
theorem back_enough {U' U0 D T d a c:Nat} (hD:0<D) (hc:c≤1) (hd:d-1≤U0/2^(32*a)/D) (h:U'+(d-1)*D*2^(32*a) = U0+(1-c)*T) (hU:U' < T):c = 1:=by
  rcases Nat.lt_or_ge c 1 with h0|h0
  · exfalso
    have hc0:c = 0:=by omega
    subst hc0
    have h1:(d-1)*D*2^(32*a)≤U0:=by
      have h2:(d-1)*D≤U0/2^(32*a):=Nat.le_trans (Nat.mul_le_mul_right D hd) (Nat.div_mul_le_self _ _)
      exact Nat.le_trans (Nat.mul_le_mul_right _ h2) (Nat.div_mul_le_self _ _)
    omega
  · omega
theorem nw_dnm {m:Nat} (hm:m≠0):nw (dnm m) = nw m:=nw_eq (dnm_lt m) (.inr (by
  have h1:=(dnm_top hm).2
  rw [(dnm_top hm).1] at h1
  have h2:=Nat.mul_le_mul_right (2^(32*(nw m-1))) (Nat.le_trans (show 1≤2147483648 by decide) h1)
  rw [Nat.one_mul] at h2
  exact Nat.le_trans h2 (Nat.div_mul_le_self _ _)))
theorem limb_up_w (X w j:Nat):limb (X*2^(32*w)) j = if j<w then 0 else limb X (j-w):=by
  unfold limb
  by_cases h:j<w
  · rw [if_pos h]
    obtain ⟨d,rfl⟩:∃ d,w = j+(d+1):=⟨w-j-1,by omega⟩
    rw [pow64_add,Nat.mul_comm (2^(32*j)),← Nat.mul_assoc,Nat.mul_div_cancel _ (pow64_pos j),pow64_succ,Nat.mul_comm 4294967296,← Nat.mul_assoc,Nat.mul_mod_left]
  · rw [if_neg h]
    obtain ⟨d,rfl⟩:∃ d,j = w+d:=⟨j-w,by omega⟩
    rw [pow64_add,← Nat.div_div_eq_div_mul,Nat.mul_div_cancel _ (pow64_pos w),Nat.add_sub_cancel_left]
theorem shl_high {z s:Nat} (hs:s<32):z*2^s/4294967296 = z/2^(32-s):=by
  have e1:(4294967296:Nat) = 2^s*2^(32-s):=by rw [← Nat.pow_add,show s+(32-s) = 32 by omega]
  rw [e1,← Nat.div_div_eq_div_mul,Nat.mul_div_cancel _ (Nat.pow_pos (by decide))]
theorem shl_small {z s:Nat} (hs:s<32) (hz:z<4294967296):z*2^s<18446744073709551616:=by
  have h1:2^s≤2^31:=Nat.pow_le_pow_right (by decide) (by omega)
  have h2:=Nat.mul_le_mul (Nat.le_of_lt hz) h1
  omega
theorem shl_split (X k:Nat):X*2^k = X*2^(k%32)*2^(32*(k/32)):=by
  rw [Nat.mul_assoc,← Nat.pow_add,show k%32+32*(k/32) = k by omega]
theorem shl_step {A k i : Nat} (j : Nat) : limb (A % 2 ^ (32 * (i + 1)) * 2 ^ k) j =
    if j = i+k/32+1 then limb A i*2^(k%32)/4294967296 else if j = i+k/32 then (limb (A%2^(32*i)*2^k) (i+k/32) ||| limb A i*2^(k%32)%4294967296) else limb (A%2^(32*i)*2^k) j:=by
  have hs:k%32<32:=Nat.mod_lt _ (by decide)
  rw [shl_split _ k,shl_split (A%2^(32*i)) k,limb_up_w,limb_up_w,limb_up_w,shl_high hs,fill_step hs,if_neg (show ¬ (i+k/32<k/32) by omega),Nat.add_sub_cancel]
  by_cases h:j<k/32
  · rw [if_pos h,if_pos h,if_neg (by omega),if_neg (by omega)]
  · rw [if_neg h,if_neg h]
    by_cases h1:j = i+k/32+1
    · rw [if_pos h1,if_pos (by omega)]
    · rw [if_neg h1,if_neg (show ¬ j-k/32 = i+1 by omega)]
      by_cases h2:j = i+k/32
      · rw [if_pos h2,if_pos (by omega)]
      · rw [if_neg h2,if_neg (by omega)]
theorem shl_lt {A k:Nat}:A*2^k<2^(32*(nw A+k/32+1)):=by
  have h1:=Nat.mul_lt_mul_of_pos_right (lt_nw A) (Nat.pow_pos (n:=k) (show 0<2 by decide))
  rw [← Nat.pow_add] at h1
  exact Nat.lt_of_lt_of_le h1 (Nat.pow_le_pow_right (by decide) (by omega))
theorem short_step {A m i K r : Nat} (hm : 0 < m) (h1 : K = A / 2 ^ (32 * (i + 1)) / m) (h2 : r = A / 2 ^ (32 * (i + 1)) % m) :
    (r*4294967296+limb A i)/m+K*4294967296 = A/2^(32*i)/m∧(r*4294967296+limb A i)%m = A/2^(32*i)%m:=by
  rw [div_pow_succ A i]
  generalize A/2^(32*(i+1)) = q at *
  have h3:=Nat.div_add_mod q m
  have e:limb A i+4294967296*q = (r*4294967296+limb A i)+m*(K*4294967296):=by
    rw [h2,h1]
    conv=>lhs; rw [← h3]
    rw [Nat.mul_add,← Nat.mul_assoc m (q/m)]
    omega
  rw [e,Nat.add_mul_div_left _ _ hm,Nat.add_mul_mod_self_left]
  exact ⟨rfl,rfl⟩
end Go.Proofs.Ytlmiolnccgjjjaa.D
set_option linter.unusedVariables false
set_option linter.unusedSimpArgs false
set_option maxRecDepth 20000
namespace Go.Proofs.Ytlmiolnccgjjjaa
open Go Go.RowKit
theorem c_n_Mul (q r:NV) (A B:Nat) (w:World) (hq:(numT q A).holds w) (hr:(numT r B).holds w) (hA:D.nw A≤100000) (hB:D.nw B≤100000):Calls Try.prog 104 ([numV q A,numV r B]:List Value).toArray w (fun e w'=>NumR w ([]) (A*B) (fun v=>v) e w'):=by
  refine Ki (N:=69) (rs:=[.tmp 4]) [numT q A,numT r B] Try.func104 rfl Try.ntmps104 Try.results104 (Nb rfl) ⟨hq,hr,trivial⟩ rfl ?_
  show LCode _ _ _ ⟨_,_⟩ _
  refine KB (KA ?_)
  refine oA ?_
  refine KC ?_
  refine KB (KA ?_)
  refine oM ?_
  refine oP (KAC Try.underlying24 rfl) ?_
  refine oM ?_
  refine oP (KAC Try.underlying24 rfl) ?_
  refine oP (KF rfl rfl (Kv (by omega))) ?_
  refine oS (mk (Makes.mkV Try.underlying24 inf_67 rfl rfl (by omega) (by omega)) (fun b15=>?_))
  refine oA ?_
  refine KC ?_
  refine KB ?_
  refine KB (KA ?_)
  refine oP (KZ (v:=.int .i64 ((0:Nat):Int)) rfl) ?_
  refine KC ?_
  refine LCode.block ?_
  refine Ks (α:=Nat) (fun x=>x≤D.nw A) (fun x=>⟨[(0,numV q A),(1,numV r B),(5,.slice (some ⟨b15,0,none⟩) (D.nw A+D.nw B) (D.nw A+D.nw B)),(6,.int .i64 ((x:Nat):Int))],[.blk b15 ⟨true,vec .u32 (D.nw A+D.nw B) (D.limb (A%2^(32*x)*B)),67,(0,0)⟩,numT q A,numT r B]⟩) (fun x=>D.nw A-x) (0) (Nat.zero_le _) (KAO (Sub.cells (b:=b15) (cs':=vec .u32 (D.nw A+D.nw B) (D.limb (A%2^(32*0)*B))) (by repeat (first|exact Sh _|apply St_)) (by rw [D.mod_zero_word]; exact D.vec_zeros _)) (Kq ⟨rfl,rfl,rfl,rfl,trivial⟩ (by repeat (first|exact Sel.nil _|refine Sel.cons (by repeat (first|exact Ph _|apply Pt_)) ?_)))) ?_
  intro i hi
  refine KB ?_
  refine KB (KA ?_)
  refine oM ?_
  refine oM ?_
  refine oP (KAC Try.underlying24 rfl) ?_
  refine oP (KF rfl rfl (KAT)) ?_
  refine KC ?_
  first|refine KS rfl (fun h19=>?_) (fun h19=>?_)|refine KU rfl (fun h19=>?_) (fun h19=>?_)
  ·
    have h19:i<D.nw A:=h19
    refine KT ?_
    refine KB ?_
    refine LCode.block ?_
    refine KB (KA ?_)
    refine oP (KZ (v:=.int .u64 ((0:Nat):Int)) rfl) ?_
    refine KC ?_
    refine KB ?_
    refine KB (KA ?_)
    refine oP (KZ (v:=.int .i64 ((0:Nat):Int)) rfl) ?_
    refine KC ?_
    refine LCode.block ?_
    refine Ks (α:=Nat×Nat×Nat) (fun x=>x.1≤D.nw B∧x.2.2<4294967296∧x.2.1<2^(32*(i+D.nw B))∧x.2.1+x.2.2*2^(32*(i+x.1)) = A%2^(32*i)*B+D.limb A i*(B%2^(32*x.1))*2^(32*i)) (fun x=>⟨[(0,numV q A),(1,numV r B),(5,.slice (some ⟨b15,0,none⟩) (D.nw A+D.nw B) (D.nw A+D.nw B)),(6,.int .i64 ((i:Nat):Int)),(7,.int .u64 ((x.2.2:Nat):Int)),(8,.int .i64 ((x.1:Nat):Int))],[.blk b15 ⟨true,vec .u32 (D.nw A+D.nw B) (D.limb x.2.1),67,(0,0)⟩,numT q A,numT r B]⟩) (fun x=>D.nw B-x.1) ((0,A%2^(32*i)*B,0)) (⟨Nat.zero_le _,show (0:Nat)<4294967296 by decide,D.row_lt A B i,D.row_zero A B i⟩) (Kq ⟨rfl,rfl,rfl,rfl,rfl,rfl,trivial⟩ (by repeat (first|exact Sel.nil _|refine Sel.cons (by repeat (first|exact Ph _|apply Pt_)) ?_))) ?_
    intro x ⟨hx1,hx2,hx3,hx4⟩
    refine KB ?_
    refine KB (KA ?_)
    refine oM ?_
    refine oM ?_
    refine oP (KAC Try.underlying24 rfl) ?_
    refine oP (KF rfl rfl (KAT)) ?_
    refine KC ?_
    first|refine KS rfl (fun h25=>?_) (fun h25=>?_)|refine KU rfl (fun h25=>?_) (fun h25=>?_)
    ·
      have h25:x.1<D.nw B:=h25
      refine KT ?_
      refine KB ?_
      refine LCode.block ?_
      refine KB ?_
      have hla:=D.limb_lt A i
      have hlb:=D.limb_lt B x.1
      have hlx:=D.limb_lt x.2.1 (i+x.1)
      have hw:=D.row_word hla hlb hlx hx2
      refine rD [] ?_
      refine aM 0 ?_
      refine aM 1 ?_
      refine aP 2 rfl (KAW Try.underlying24 sz_67 rfl rfl (by omega)) ?_
      refine aD 3 rfl (Det.loadN Try.underlying67 rfl rfl (by repeat (first|exact Mh _|apply Mt)) (by omega)) ?_
      refine aP 4 rfl (KAE Try.underlying67 Try.underlying30 rfl (by first|omega|exact Nat.lt_trans (D.limb_lt _ _) (by decide))) ?_
      refine aM 5 ?_
      refine aM 6 ?_
      refine aP 7 rfl (KAW Try.underlying24 sz_67 rfl rfl (by omega)) ?_
      refine aD 8 rfl (Det.loadN Try.underlying67 rfl rfl (by repeat (first|exact Mh _|apply Mt)) (by omega)) ?_
      refine aP 9 rfl (KAE Try.underlying67 Try.underlying30 rfl (by first|omega|exact Nat.lt_trans (D.limb_lt _ _) (by decide))) ?_
      refine aP 10 rfl (KK (KF rfl rfl br_mul64) (vi (b:=D.limb A i*D.limb B x.1) (by omega))) ?_
      refine aM 11 ?_
      refine aM 12 ?_
      refine aM 13 ?_
      refine aP 14 rfl (KF rfl rfl (Kv (by omega))) ?_
      refine aP 15 rfl (Ko Try.underlying24 sz_67 rfl rfl (by omega)) ?_
      refine aD 16 rfl (dL rfl (hv:=KL Try.underlying67 rfl (by exact Ke _ _ _ (show i+x.1<D.nw A+D.nw B by omega)))) ?_
      refine aP 17 rfl (KAE Try.underlying67 Try.underlying30 rfl (by first|omega|exact Nat.lt_trans (D.limb_lt _ _) (by decide))) ?_
      refine aP 18 rfl (KK (KF rfl rfl KAM) (vi (b:=D.limb A i*D.limb B x.1+D.limb x.2.1 (i+x.1)) (by omega))) ?_
      refine aM 19 ?_
      refine aP 20 rfl (KK (KF rfl rfl KAM) (vi (b:=D.limb A i*D.limb B x.1+D.limb x.2.1 (i+x.1)+x.2.2) (by omega))) ?_
      refine aA 21 ?_
      refine aE ?_
      refine KB (KA ?_)
      refine oM ?_
      refine oM ?_
      refine oM ?_
      refine oP (KF rfl rfl (Kv (by omega))) ?_
      refine oM ?_
      refine oP (KF rfl rfl (br_and64 (b:=4294967295) (by omega) (by decide))) ?_
      refine oP (KAP Try.underlying30 Try.underlying67 rfl) ?_
      refine oP (Ko Try.underlying24 sz_67 rfl rfl (by omega)) ?_
      refine KV rfl (Kj rfl rfl rfl sz_67 (by repeat (first|exact Sh _|apply St_)) (by first|(simp only [KH,KD,KE,Kt]; omega)|(simp; done)|(simp; omega)) (by first|exact KAH _ _ _ _ _|exact KAJ _ _ _ _ (by omega)|exact KAI _ _ _ _|rfl) (by simp) ?_)
      refine KC ?_
      refine KA ?_
      refine oM ?_
      refine oP (KF rfl rfl (KAL (b:=32) (by omega))) ?_
      refine oA ?_
      refine KC ?_
      refine KA ?_
      refine oM ?_
      refine oP (KF rfl rfl (Kv (b:=1) (by omega))) ?_
      refine oA ?_
      refine KC ?_
      refine ⟨(x.1+1,D.setl x.2.1 (i+x.1) ((D.limb A i*D.limb B x.1+D.limb x.2.1 (i+x.1)+x.2.2)%4294967296),(D.limb A i*D.limb B x.1+D.limb x.2.1 (i+x.1)+x.2.2)/4294967296),⟨by dsimp only; omega,by dsimp only; omega,D.setl_lt hx3 (by omega) (Nat.mod_lt _ (by decide)),D.row_step hx4 rfl rfl⟩,by dsimp only; omega,
        KAO (Sub.cells (b:=b15) (cs':=vec .u32 (D.nw A+D.nw B) (D.limb (D.setl x.2.1 (i+x.1) ((D.limb A i*D.limb B x.1+D.limb x.2.1 (i+x.1)+x.2.2)%4294967296)))) (by repeat (first|exact Sh _|apply St_)) ?_) (Kq ⟨rfl,rfl,rfl,rfl,rfl,rfl,trivial⟩ (by repeat (first|exact Sel.nil _|refine Sel.cons (by repeat (first|exact Ph _|apply Pt_)) ?_)))⟩
      rw [and32,Nat.mod_mod]
      exact D.vec_setl (Nat.mod_lt _ (by decide))
    ·
      have h25:¬ x.1<D.nw B:=h25
      refine Kp ?_
      refine KA ?_
      refine oM ?_
      refine oM ?_
      refine oM ?_
      refine oP (KAC Try.underlying24 rfl) ?_
      refine oP (KF rfl rfl (Kv (by omega))) ?_
      refine oM ?_
      refine oP (KK (KAP Try.underlying30 Try.underlying67 rfl) (vi (b:=x.2.2) (Nat.mod_eq_of_lt hx2))) ?_
      refine oP (Ko Try.underlying24 sz_67 rfl rfl (by omega)) ?_
      refine KV rfl (Kj rfl rfl rfl sz_67 (by repeat (first|exact Sh _|apply St_)) (by first|(simp only [KH,KD,KE,Kt]; omega)|(simp; done)|(simp; omega)) (by first|exact KAH _ _ _ _ _|exact KAJ _ _ _ _ (by omega)|exact KAI _ _ _ _|rfl) (by simp) ?_)
      refine KC ?_
      refine KA ?_
      refine oM ?_
      refine oP (KF rfl rfl (Kv (b:=1) (by omega))) ?_
      refine oA ?_
      refine KC ?_
      refine ⟨i+1,by omega,by omega,KAO (Sub.cells (b:=b15) (cs':=vec .u32 (D.nw A+D.nw B) (D.limb (A%2^(32*(i+1))*B))) (by repeat (first|exact Sh _|apply St_)) ?_) (Kq ⟨rfl,rfl,rfl,rfl,trivial⟩ (by repeat (first|exact Sel.nil _|refine Sel.cons (by repeat (first|exact Ph _|apply Pt_)) ?_)))⟩
      have hk:x.1 = D.nw B:=by omega
      rw [hk] at hx4
      rw [← D.row_end hx4 hx3]
      exact D.vec_setl hx2
  ·
    have h19:¬ i<D.nw A:=h19
    refine Kp ?_
    refine KB ?_
    have hi9:i = D.nw A:=by omega
    subst hi9
    have hAB:A*B<2^(32*(D.nw A+D.nw B)):=by
      rw [D.pow64_add]
      exact Nat.mul_lt_mul_of_lt_of_le (D.lt_nw A) (Nat.le_of_lt (D.lt_nw B)) (D.pow64_pos _)
    refine LCode.sub (Sub.cells (b:=b15) (cs':=vec .u32 (D.nw A+D.nw B) (D.limb (A*B))) (by repeat (first|exact Sh _|apply St_)) (by rw [D.mod_nw])) ?_
    refine KA ?_
    refine oM ?_
    refine oS (cF rfl en_87 rfl (fun w hw=>c_trim (A*B) b15 (D.nw A+D.nw B) (D.nw A+D.nw B) (D.nw A+D.nw B) _ true w (mC hw) (Nat.le_refl _) (Nat.le_refl _) (by omega) hAB) ?_)
    refine oA ?_
    refine KC (KM ?_)
    refine ⟨[_],.cons rfl .nil,fun a w' hr=>hr.num (by repeat (first|exact Mh _|apply Mt)) (hAB)⟩
theorem c_n_Shl (q:NV) (A k:Nat) (w:World) (hq:(numT q A).holds w) (hA:D.nw A≤1000000) (hk:k≤32000000):Calls Try.prog 133 ([numV q A,.int .i64 ((k:Nat):Int)]:List Value).toArray w (fun e w'=>NumR w ([]) (A*2^k) (fun v=>v) e w'):=by
  refine Ki (N:=58) (rs:=[.tmp 4]) [numT q A] Try.func133 rfl Try.ntmps133 Try.results133 (Nb rfl) ⟨hq,trivial⟩ rfl ?_
  show LCode _ _ _ ⟨_,_⟩ _
  refine KB (KA ?_)
  refine oA ?_
  refine KC ?_
  refine KB (KA ?_)
  refine oM ?_
  refine oP (KAC Try.underlying24 rfl) ?_
  refine oM ?_
  refine oP (KF rfl rfl (br_quo (b:=32) (by omega) (by omega))) ?_
  refine oP (KF rfl rfl (Kv (by omega))) ?_
  refine oP (KF rfl rfl (Kv (b:=1) (by omega))) ?_
  refine oS (mk (Makes.mkV Try.underlying24 inf_67 rfl rfl (by omega) (by omega)) (fun b14=>?_))
  refine oA ?_
  refine KC ?_
  refine KB ?_
  refine KB (KA ?_)
  refine oP (KZ (v:=.int .i64 ((0:Nat):Int)) rfl) ?_
  refine KC ?_
  refine LCode.block ?_
  refine Ks (α:=Nat) (fun x=>x≤D.nw A) (fun x=>⟨[(0,numV q A),(1,.int .i64 ((k:Nat):Int)),(5,.slice (some ⟨b14,0,none⟩) (D.nw A+k/32+1) (D.nw A+k/32+1)),(6,.int .i64 ((x:Nat):Int))],[.blk b14 ⟨true,vec .u32 (D.nw A+k/32+1) (D.limb (A%2^(32*x)*2^k)),67,(0,0)⟩,numT q A]⟩) (fun x=>D.nw A-x) (0) (Nat.zero_le _) (KAO (Sub.cells (b:=b14) (cs':=vec .u32 (D.nw A+k/32+1) (D.limb (A%2^(32*0)*2^k))) (by repeat (first|exact Sh _|apply St_)) (by rw [D.mod_zero_word]; exact D.vec_zeros _)) (Kq ⟨rfl,rfl,rfl,rfl,trivial⟩ (by repeat (first|exact Sel.nil _|refine Sel.cons (by repeat (first|exact Ph _|apply Pt_)) ?_)))) ?_
  intro x hx
  refine KB ?_
  refine KB (KA ?_)
  refine oM ?_
  refine oM ?_
  refine oP (KAC Try.underlying24 rfl) ?_
  refine oP (KF rfl rfl (KAT)) ?_
  refine KC ?_
  first|refine KS rfl (fun h18=>?_) (fun h18=>?_)|refine KU rfl (fun h18=>?_) (fun h18=>?_)
  ·
    have h18:x<D.nw A:=h18
    refine KT ?_
    refine KB ?_
    refine LCode.block ?_
    refine KB ?_
    have hla:=D.limb_lt A x
    have hsm:=D.shl_small (s:=k%32) (Nat.mod_lt _ (by decide)) hla
    have hst:=D.shl_step (A:=A) (k:=k) (i:=x)
    refine KA ?_
    refine oM ?_
    refine oM ?_
    refine oP (KAW Try.underlying24 sz_67 rfl rfl (by omega)) ?_
    refine oD (Det.loadN Try.underlying67 rfl rfl (by repeat (first|exact Mh _|apply Mt)) (by omega)) ?_
    refine oP (KAE Try.underlying67 Try.underlying30 rfl (by first|omega|exact Nat.lt_trans (D.limb_lt _ _) (by decide))) ?_
    refine oM ?_
    refine oP (KF rfl rfl (br_rem (b:=32) (by omega))) ?_
    refine oP (KK (KF rfl rfl br_shl64) (vi (b:=D.limb A x*2^(k%32)) (Nat.mod_eq_of_lt hsm))) ?_
    refine oA ?_
    refine KC ?_
    refine KB (KA ?_)
    refine oM ?_
    refine oM ?_
    refine oM ?_
    refine oP (KF rfl rfl (br_quo (b:=32) (by omega) (by omega))) ?_
    refine oP (KF rfl rfl (Kv (by omega))) ?_
    refine oM ?_
    refine oM ?_
    refine oM ?_
    refine oP (KF rfl rfl (br_quo (b:=32) (by omega) (by omega))) ?_
    refine oP (KF rfl rfl (Kv (by omega))) ?_
    refine oP (Ko Try.underlying24 sz_67 rfl rfl (by omega)) ?_
    refine oD (dL rfl (hv:=KL Try.underlying67 rfl (by exact Ke _ _ _ (show x+k/32<D.nw A+k/32+1 by omega)))) ?_
    refine oM ?_
    refine oP (KF rfl rfl (br_and64 (b:=4294967295) hsm (by decide))) ?_
    refine oP (KK (KAP Try.underlying30 Try.underlying67 rfl) (vi (b:=D.limb A x*2^(k%32)%4294967296) (by rw [and32,Nat.mod_mod]))) ?_
    refine oP (KF rfl rfl (br_or32 (D.limb_lt _ _) (Nat.mod_lt _ (by decide)))) ?_
    refine oP (Ko Try.underlying24 sz_67 rfl rfl (by omega)) ?_
    refine KV rfl (Kj rfl rfl rfl sz_67 (by repeat (first|exact Sh _|apply St_)) (by first|(simp only [KH,KD,KE,Kt]; omega)|(simp; done)|(simp; omega)) (by first|exact KAH _ _ _ _ _|exact KAJ _ _ _ _ (by omega)|exact KAI _ _ _ _|rfl) (by simp) ?_)
    refine KC ?_
    refine KA ?_
    refine oM ?_
    refine oM ?_
    refine oM ?_
    refine oP (KF rfl rfl (br_quo (b:=32) (by omega) (by omega))) ?_
    refine oP (KF rfl rfl (Kv (by omega))) ?_
    refine oP (KF rfl rfl (Kv (b:=1) (by omega))) ?_
    refine oM ?_
    refine oP (KF rfl rfl (KAL (b:=32) hsm)) ?_
    refine oP (KK (KAP Try.underlying30 Try.underlying67 rfl) (vi (b:=D.limb A x*2^(k%32)/4294967296) (by rw [show (2:Nat)^32 = 4294967296 from rfl]; omega))) ?_
    refine oP (Ko Try.underlying24 sz_67 rfl rfl (by omega)) ?_
    refine KV rfl (Kj rfl rfl rfl sz_67 (by repeat (first|exact Sh _|apply St_)) (by first|(simp only [KH,KD,KE,Kt]; omega)|(simp; done)|(simp; omega)) (by first|exact KAH _ _ _ _ _|exact KAJ _ _ _ _ (by omega)|exact KAI _ _ _ _|rfl) (by simp) ?_)
    refine KC ?_
    refine KA ?_
    refine oM ?_
    refine oP (KF rfl rfl (Kv (b:=1) (by omega))) ?_
    refine oA ?_
    refine KC ?_
    refine ⟨x+1,by omega,by omega,KAO (Sub.cells (b:=b14) (cs':=vec .u32 (D.nw A+k/32+1) (D.limb (A%2^(32*(x+1))*2^k))) (by repeat (first|exact Sh _|apply St_)) (KAA fun j hj=>(hst j).symm)) (Kq ⟨rfl,rfl,rfl,rfl,trivial⟩ (by repeat (first|exact Sel.nil _|refine Sel.cons (by repeat (first|exact Ph _|apply Pt_)) ?_)))⟩
  ·
    have h18:¬ x<D.nw A:=h18
    refine Kp ?_
    refine KB ?_
    obtain rfl:x = D.nw A:=by omega
    refine LCode.sub (Sub.cells (b:=b14) (cs':=vec .u32 (D.nw A+k/32+1) (D.limb (A*2^k))) (by repeat (first|exact Sh _|apply St_)) (by rw [D.mod_nw])) ?_
    refine KA ?_
    refine oM ?_
    refine oS (cF rfl en_87 rfl (fun w hw=>c_trim (A*2^k) b14 (D.nw A+k/32+1) (D.nw A+k/32+1) (D.nw A+k/32+1) _ true w (mC hw) (Nat.le_refl _) (Nat.le_refl _) (by omega) D.shl_lt) ?_)
    refine oA ?_
    refine KC (KM ?_)
    refine ⟨[_],.cons rfl .nil,fun a w' hr=>hr.num (by repeat (first|exact Mh _|apply Mt)) (D.shl_lt)⟩
theorem Rel.num2 {w : World} {N : Nat} {st : St} {a : Act} {w' : World} {old : List Nat} {A n b c A' n' b' c' : Nat} {ty ty' : TypeId} {fz fz' : Nat × Nat} {mk : Value → Value → Value} (hr : Rel ⟨w, NoW, N⟩ st a w') (hm : Item.blk b ⟨true, vec .u32 n (D.limb A), ty, fz⟩ ∈ st.H) (hA : A < 2 ^ (32 * n))
    (hm':Item.blk b' ⟨true,vec .u32 n' (D.limb A'),ty',fz'⟩∈st.H) (hA':A' < 2^(32*n')):Num2R w old A A' mk (.returned (mk (.slice (some ⟨b,0,none⟩) (D.nw A) c) (.slice (some ⟨b',0,none⟩) (D.nw A') c'))) w' :=
  ⟨⟨false,b,c⟩,⟨false,b',c'⟩,rfl,numT_blk (hr.hp _ hm) hA,NFr.blk _ (hr.new hm rfl),numT_blk (hr.hp _ hm') hA',NFr.blk _ (hr.new hm' rfl),hr.fr.below⟩
theorem shl32_eq {r:Nat} (h:r<4294967296):r*2^32%18446744073709551616 = r*4294967296:=by
  rw [show (2:Nat)^32 = 4294967296 from rfl]; omega
theorem shl32_lt {r:Nat} (h:r<4294967296):r*4294967296<18446744073709551616:=by omega
theorem shl32_or {r l:Nat} (h:r<4294967296) (hl:l<4294967296):(r*4294967296 ||| l) = r*4294967296+l:=by
  have:=or_digits hl h
  rw [Nat.or_comm,Nat.mod_eq_of_lt (by omega)] at this
  omega
theorem vec_one_digit {A:Nat} (h:A<4294967296):[Value.int .u32 ((A:Nat):Int)] = vec .u32 1 (D.limb A):=by
  have e:D.limb A 0 = A:=by unfold D.limb; rw [Nat.mul_zero,Nat.pow_zero,Nat.div_one,Nat.mod_eq_of_lt h]
  simp [vec,e]
theorem c_n_short (q:NV) (A m:Nat) (w:World) (hq:(numT q A).holds w) (hA:D.nw A≤1000000) (hm0:0<m) (hm:m<4294967296):Calls Try.prog 132 ([numV q A,.int .u64 ((m:Nat):Int)]:List Value).toArray w (fun e w'=>Num2R w ([]) (A/m) (A%m) (fun u v=>.tuple #[u,v]) e w'):=by
  refine Ki (N:=44) (rs:=[.tmp 4,.tmp 5]) [numT q A] Try.func132 rfl Try.ntmps132 Try.results132 (Nb rfl) ⟨hq,trivial⟩ rfl ?_
  show LCode _ _ _ ⟨_,_⟩ _
  refine KB (KA ?_)
  refine oA ?_
  refine oA ?_
  refine KC ?_
  refine KB (KA ?_)
  refine oM ?_
  refine oP (KAC Try.underlying24 rfl) ?_
  refine oS (mk (Makes.mkV Try.underlying24 inf_67 rfl rfl (by omega) (by omega)) (fun b12=>?_))
  refine oA ?_
  refine KC ?_
  refine KB (KA ?_)
  refine oP (KZ (v:=.int .u64 ((0:Nat):Int)) rfl) ?_
  refine KC ?_
  refine KB ?_
  refine KB (KA ?_)
  refine oM ?_
  refine oP (KAC Try.underlying24 rfl) ?_
  refine oP (KF (v:=.int .i64 ((D.nw A:Int)-1)) rfl rfl (br_subI (by omega) (by omega))) ?_
  refine oA ?_
  refine KC ?_
  refine LCode.block ?_
  refine Ks (α:=Nat) (fun x=>x≤D.nw A) (fun x=>⟨[(0,numV q A),(1,.int .u64 ((m:Nat):Int)),(6,.slice (some ⟨b12,0,none⟩) (D.nw A) (D.nw A)),(7,.int .u64 ((A/2^(32*x)%m:Nat):Int)),(8,.int .i64 ((x:Int)-1))],[.blk b12 ⟨true,vec .u32 (D.nw A) (D.limb (A/2^(32*x)/m*2^(32*x))),67,(0,0)⟩,numT q A]⟩) (fun x=>x) (D.nw A) (Nat.le_refl _) (KAO (Sub.cells (b:=b12) (cs':=vec .u32 (D.nw A) (D.limb (A/2^(32*(D.nw A))/m*2^(32*(D.nw A))))) (by repeat (first|exact Sh _|apply St_)) (by rw [Nat.div_eq_of_lt (D.lt_nw A),Nat.zero_div,Nat.zero_mul]; exact D.vec_zeros _)) (Kq ⟨rfl,rfl,rfl,by rw [Nat.div_eq_of_lt (D.lt_nw A),Nat.zero_mod]; rfl,rfl,trivial⟩ (by repeat (first|exact Sel.nil _|refine Sel.cons (by repeat (first|exact Ph _|apply Pt_)) ?_)))) ?_
  intro x hx
  refine KB ?_
  refine KB ?_
  rcases Nat.eq_zero_or_pos x with h0|h0
  ·
    refine KA ?_
    refine oM ?_
    refine oP (KF (v:=.bool false) rfl rfl (by subst h0; rfl)) ?_
    refine KC ?_
    refine KR rfl ?_
    refine Kp ?_
    refine KB ?_
    have hm1:A%m<m:=Nat.mod_lt _ hm0
    refine LCode.sub (Sub.cells (b:=b12) (cs':=vec .u32 (D.nw A) (D.limb (A/m))) (by repeat (first|exact Sh _|apply St_)) (by subst h0; rw [Nat.mul_zero,Nat.pow_zero,Nat.div_one,Nat.mul_one])) ?_
    have hAm:A/m<2^(32*D.nw A):=Nat.lt_of_le_of_lt (Nat.div_le_self _ _) (D.lt_nw A)
    refine KA ?_
    refine oM ?_
    refine oS (cF rfl en_87 rfl (fun w hw=>c_trim (A/m) b12 (D.nw A) (D.nw A) (D.nw A) _ true w (mC hw) (Nat.le_refl _) (Nat.le_refl _) (by omega) hAm) ?_)
    refine oM ?_
    refine oP (KAP Try.underlying30 Try.underlying67 rfl) ?_
    refine oS (mk (KAK Try.underlying24 inf_67 rfl rfl rfl rfl (by decide) rfl) (fun b42=>?_))
    refine LOps.sub (Sub.cells (b:=b42) (cs':=vec .u32 1 (D.limb (A%m))) (by repeat (first|exact Sh _|apply St_)) ?_) ?_
    · subst h0
      rw [Nat.mul_zero,Nat.pow_zero,Nat.div_one,Nat.mod_eq_of_lt (show A%m<2^32 by rw [show (2:Nat)^32 = 4294967296 from rfl]; omega)]
      exact vec_one_digit (by omega)
    refine oS (cF rfl en_87 rfl (fun w hw=>c_trim (A%m) b42 1 1 1 _ true w (mC hw) (Nat.le_refl _) (Nat.le_refl _) (by omega) (by omega)) ?_)
    refine oA ?_
    refine oA ?_
    refine KC (KM ?_)
    refine ⟨[_,_],.cons rfl (.cons rfl .nil),fun a w' hr=>hr.num2 (mk:=fun u v=>.tuple #[u,v]) (n:=D.nw A) (n':=1) (b:=b12) (b':=b42) (ty:=67) (ty':=67) (fz:=(0,0)) (fz':=(0,0)) (by repeat (first|exact Mh _|apply Mt)) hAm (by repeat (first|exact Mh _|apply Mt)) (by omega)⟩
  ·
    obtain ⟨x,rfl⟩:∃ y,x = y+1:=⟨x-1,by omega⟩
    have hla:=D.limb_lt A x
    have hrm:A/2^(32*(x+1))%m<m:=Nat.mod_lt _ hm0
    obtain ⟨hs1,hs2⟩:=D.short_step (A:=A) (i:=x) hm0 rfl rfl
    have hqs:(A/2^(32*(x+1))%m*4294967296+D.limb A x)/m<4294967296:=by rw [Nat.div_lt_iff_lt_mul hm0]; have:=Nat.mul_le_mul_left 4294967296 (show A/2^(32*(x+1))%m+1≤m from hrm); omega
    refine KA ?_
    refine oM ?_
    refine oP (KF (v:=.bool true) rfl rfl (by simp [Kw] <;> omega)) ?_
    refine KC ?_
    refine Kf rfl ?_
    refine KT ?_
    refine KB ?_
    refine LCode.block ?_
    refine KB (KA ?_)
    refine oM ?_
    refine oP (KK (KF rfl rfl br_shl64) (vi (b:=A/2^(32*(x+1))%m*4294967296) (shl32_eq (Nat.lt_trans hrm hm)))) ?_
    refine oM ?_
    refine oP (KAB (v:=.int .i64 ((x:Nat):Int)) (by show some _ = some _; congr 2; omega)) ?_
    refine oP (KAW Try.underlying24 sz_67 rfl rfl (by omega)) ?_
    refine oD (Det.loadN Try.underlying67 rfl rfl (by repeat (first|exact Mh _|apply Mt)) (by omega)) ?_
    refine oP (KAE Try.underlying67 Try.underlying30 rfl (by first|omega|exact Nat.lt_trans (D.limb_lt _ _) (by decide))) ?_
    refine oP (KK (KF rfl rfl (br_or64 (shl32_lt (Nat.lt_trans hrm hm)) (Nat.lt_trans hla (by decide)))) (vi (b:=A/2^(32*(x+1))%m*4294967296+D.limb A x) (shl32_or (Nat.lt_trans hrm hm) hla))) ?_
    refine oA ?_
    refine KC ?_
    refine KB (KA ?_)
    refine oM ?_
    refine oP (KAB (v:=.int .i64 ((x:Nat):Int)) (by show some _ = some _; congr 2; omega)) ?_
    refine oM ?_
    refine oM ?_
    refine oP (KF rfl rfl (br_quo64 (by omega) (by omega))) ?_
    refine oP (KK (KAP Try.underlying30 Try.underlying67 rfl) (vi (b:=(A/2^(32*(x+1))%m*4294967296+D.limb A x)/m) (Nat.mod_eq_of_lt hqs))) ?_
    refine oP (Ko Try.underlying24 sz_67 rfl rfl (by omega)) ?_
    refine KV rfl (Kj rfl rfl rfl sz_67 (by repeat (first|exact Sh _|apply St_)) (by first|(simp only [KH,KD,KE,Kt]; omega)|(simp; done)|(simp; omega)) (by first|exact KAH _ _ _ _ _|exact KAJ _ _ _ _ (by omega)|exact KAI _ _ _ _|rfl) (by simp) ?_)
    refine KC ?_
    refine KA ?_
    refine oM ?_
    refine oM ?_
    refine oP (KF rfl rfl (br_rem64 (by omega))) ?_
    refine oA ?_
    refine KC ?_
    refine KA ?_
    refine oP (KAB (v:=.int .i64 ((x:Nat):Int)) (by show some _ = some _; congr 2; omega)) ?_
    refine oP (KF rfl rfl rfl) ?_
    refine oA ?_
    refine KC ?_
    refine ⟨x,by omega,by omega,KAO (Sub.cells (b:=b12) (cs':=vec .u32 (D.nw A) (D.limb (A/2^(32*x)/m*2^(32*x)))) (by repeat (first|exact Sh _|apply St_)) (KAA fun j _=>?_)) (Kq ⟨rfl,rfl,rfl,congrArg (fun n:Nat=>some (Value.int .u64 (n:Int))) hs2,?_,trivial⟩ (by repeat (first|exact Sel.nil _|refine Sel.cons (by repeat (first|exact Ph _|apply Pt_)) ?_)))⟩
    · rw [← hs1,Nat.add_comm (_/m)]
      exact D.quo_store hqs j
    · exact congrArg (fun i:Int=>some (Value.int .i64 i)) (wrap_i64 (by omega) (by omega))
end Go.Proofs.Ytlmiolnccgjjjaa
set_option linter.unusedVariables false
set_option linter.unusedSimpArgs false
set_option maxRecDepth 20000
namespace Go.Proofs.Ytlmiolnccgjjjaa
open Go Go.RowKit
theorem br_add32d {a b:Nat}:Kw .add .u32 a .u32 b = some (.int .u32 (((a+b)%4294967296:Nat):Int)):=by
  simp only [Kw,if_true]
  rw [show ((a:Int)+b) = ((a+b:Nat):Int) by simp,wrap_u32_nat]
theorem guess_over {q v r u:Nat} (hq:q<4294967296) (hv:v<4294967296) (hr:4294967296≤r):q*v≤r*4294967296+u:=by
  have h1:=Nat.mul_le_mul (Nat.le_of_lt hq) (Nat.le_of_lt hv)
  have h2:=Nat.mul_le_mul_right 4294967296 hr
  omega
theorem mul_lt64 {q v:Nat} (hq:q<4294967296) (hv:v<4294967296):q*v<18446744073709551616:=by
  have h1:=Nat.mul_le_mul (show q≤4294967295 by omega) (show v≤4294967295 by omega)
  omega
theorem take_parts {l t b:Nat} (hl:l<4294967296) (hb:b≤1):(l+4294967296-t%4294967296-b)%4294967296+t%4294967296+b = l+(1-(l+4294967296-t%4294967296-b)/4294967296)*4294967296:=by omega
theorem take_parts2 {l c b:Nat} (hl:l<4294967296) (hc:c<4294967296) (hb:b≤1):(l+4294967296-c-b)%4294967296+c+b = l+(1-(l+4294967296-c-b)/4294967296)*4294967296:=by omega
theorem c_n_step (qv:NV) (m U bu a l c:Nat) (hm0:m≠0) (w:World) (hbu:(Item.blk bu ⟨true,vec .u32 l (D.limb U),67,(0,0)⟩).holds w) (hv:(numI qv (D.dnm m) (D.nw m)).holds w) (hne:bu ∉ fpz qv (D.nw m)) (hn:2≤D.nw m) (hat:a+D.nw m<l) (hl:l≤1000000) (hU:U<D.dnm m*2^(32*(a+1))):Calls Try.prog 134 ([.slice (some ⟨bu,0,none⟩) l c,slV qv (D.nw m),.int .i64 ((a:Nat):Int)]:List Value).toArray w (fun e w'=>∃ v cs',(∃ q U',q<4294967296∧U'+q*D.dnm m*2^(32*a) = U∧U' < D.dnm m*2^(32*a)∧v = .int .u64 ((q:Nat):Int)∧cs' = vec .u32 l (D.limb U'))∧e = .returned v∧(Item.blk bu ⟨true,cs',67,(0,0)⟩).holds w'∧Fr (fun k=>k = bu) w w'):=by
  refine calls_w1 (N:=200) (rs:=[.tmp 6]) bu (vec .u32 l (D.limb U)) 67 (0,0) [numI qv (D.dnm m) (D.nw m)] Try.func134 rfl Try.ntmps134 Try.results134 (Nb rfl) hbu ⟨hv,trivial⟩ rfl (by intro x hx; simp at hx; subst hx; exact hne) ?_
  show LCode _ _ _ ⟨_,_⟩ _
  refine KB (KA ?_)
  refine oP (KZ (v:=.int .u64 ((0:Nat):Int)) rfl) ?_
  refine KC ?_
  refine KB ?_
  obtain ⟨hf1,hf2,hf3,hf4⟩:=D.guess_facts hm0 hU
  have hgt:=D.guess_top hm0 hU
  have hql:=D.quo_lt (D.dnm_pos hm0) hU
  have hUw:=D.win_lt (D.dnm_lt m) hU
  have hqs:∀ q r,q*D.limb (D.dnm m) (D.nw m-1)+r = U/2^(32*a)/2^(32*(D.nw m-1))→r*4294967296+D.limb U (a+D.nw m-2)<q*D.limb (D.dnm m) (D.nw m-2)→U/2^(32*a)/D.dnm m<q:=fun q r=>D.guess_step hm0 hn
  have hqb:∀ q r,q<4294967296→q*D.limb (D.dnm m) (D.nw m-1)+r = U/2^(32*a)/2^(32*(D.nw m-1))→q*D.limb (D.dnm m) (D.nw m-2)≤r*4294967296+D.limb U (a+D.nw m-2)→q≤U/2^(32*a)/D.dnm m+1:=fun q r=>D.guess_bound hm0 hn
  have hXl:U/2^(32*a)/2^(32*(D.nw m-1))<18446744073709551616:=by
    rw [← hf1]
    have g1:=D.limb_lt U (a+D.nw m)
    have g2:=D.limb_lt U (a+D.nw m-1)
    omega
  have htl:=D.limb_lt (D.dnm m) (D.nw m-1)
  obtain ⟨XX,hX⟩:∃ XX,U/2^(32*a)/2^(32*(D.nw m-1)) = XX:=⟨_,rfl⟩
  rw [hX] at hf1 hf4 hgt hXl
  simp only [hX] at hqs hqb
  obtain ⟨QT,hQ⟩:∃ QT,U/2^(32*a)/D.dnm m = QT:=⟨_,rfl⟩
  rw [hQ] at hf4 hql
  simp only [hQ] at hqs hqb
  refine KA ?_
  refine oM ?_
  refine oP (KAC Try.underlying24 rfl) ?_
  refine oA ?_
  refine KC ?_
  refine KB ?_
  refine rD [] ?_
  refine aM 0 ?_
  refine aM 1 ?_
  refine aM 2 ?_
  refine aP 3 rfl (KF rfl rfl (Kv (by omega))) ?_
  refine aP 4 rfl (Ko Try.underlying24 sz_67 rfl rfl (by omega)) ?_
  refine aD 5 rfl (dL rfl (hv:=KL Try.underlying67 rfl (by exact Ke _ _ _ (show a+D.nw m<l by omega)))) ?_
  refine aP 6 rfl (KAE Try.underlying67 Try.underlying30 rfl (by first|omega|exact Nat.lt_trans (D.limb_lt _ _) (by decide))) ?_
  refine aP 7 rfl (KK (KF rfl rfl br_shl64) (vi (b:=D.limb U (a+D.nw m)*4294967296) (shl32_eq (D.limb_lt _ _)))) ?_
  refine aM 8 ?_
  refine aM 9 ?_
  refine aM 10 ?_
  refine aP 11 rfl (KF rfl rfl (Kv (by omega))) ?_
  refine aP 12 rfl (KF rfl rfl (br_sub (b:=1) (by omega) (by omega))) ?_
  refine aP 13 rfl (Ko Try.underlying24 sz_67 rfl rfl (by omega)) ?_
  refine aD 14 rfl (dL rfl (hv:=KL Try.underlying67 rfl (by exact Ke _ _ _ (show a+D.nw m-1<l by omega)))) ?_
  refine aP 15 rfl (KAE Try.underlying67 Try.underlying30 rfl (by first|omega|exact Nat.lt_trans (D.limb_lt _ _) (by decide))) ?_
  refine aP 16 rfl (KK (KF rfl rfl (br_or64 (shl32_lt (D.limb_lt _ _)) (Nat.lt_trans (D.limb_lt _ _) (by decide)))) (vi (b:=XX) ((shl32_or (D.limb_lt _ _) (D.limb_lt _ _)).trans hf1))) ?_
  refine aA 17 ?_
  refine aE ?_
  refine KB ?_
  refine rD [] ?_
  refine aM 0 ?_
  refine aM 1 ?_
  refine aM 2 ?_
  refine aP 3 rfl (KF rfl rfl (br_sub (b:=1) (by omega) (by omega))) ?_
  refine aP 4 rfl (KAW Try.underlying24 sz_67 rfl rfl (by omega)) ?_
  refine aD 5 rfl (Det.loadN Try.underlying67 rfl rfl (by repeat (first|exact Mh _|apply Mt)) (by omega)) ?_
  refine aP 6 rfl (KAE Try.underlying67 Try.underlying30 rfl (by first|omega|exact Nat.lt_trans (D.limb_lt _ _) (by decide))) ?_
  refine aP 7 rfl (KF rfl rfl (br_quo64 (by omega) hXl)) ?_
  refine aM 8 ?_
  refine aM 9 ?_
  refine aM 10 ?_
  refine aP 11 rfl (KF rfl rfl (br_sub (b:=1) (by omega) (by omega))) ?_
  refine aP 12 rfl (KAW Try.underlying24 sz_67 rfl rfl (by omega)) ?_
  refine aD 13 rfl (Det.loadN Try.underlying67 rfl rfl (by repeat (first|exact Mh _|apply Mt)) (by omega)) ?_
  refine aP 14 rfl (KAE Try.underlying67 Try.underlying30 rfl (by first|omega|exact Nat.lt_trans (D.limb_lt _ _) (by decide))) ?_
  refine aP 15 rfl (KF rfl rfl (br_rem64 (by omega))) ?_
  refine aA 16 ?_
  refine aA 17 ?_
  refine aE ?_
  refine LCode.cut (α:=Nat) (fun d=>d<4294967296∧QT≤d∧d≤QT+1) (fun d=>⟨[(0,.slice (some ⟨bu,0,none⟩) l c),(1,slV qv (D.nw m)),(2,.int .i64 ((a:Nat):Int)),(7,.int .i64 ((D.nw m:Nat):Int)),(9,.int .u64 ((d:Nat):Int))],[.blk bu ⟨true,vec .u32 l (D.limb U),67,(0,0)⟩,numI qv (D.dnm m) (D.nw m)]⟩) ?_ ?_
  ·
    refine LCode.block ?_
    refine Ks (α:=Nat×Nat) (fun x=>x.1*D.limb (D.dnm m) (D.nw m-1)+x.2 = XX∧QT≤x.1∧x.1<18446744073709551616∧x.2<4294967296) (fun x=>⟨[(0,.slice (some ⟨bu,0,none⟩) l c),(1,slV qv (D.nw m)),(2,.int .i64 ((a:Nat):Int)),(7,.int .i64 ((D.nw m:Nat):Int)),(9,.int .u64 ((x.1:Nat):Int)),(10,.int .u64 ((x.2:Nat):Int))],[.blk bu ⟨true,vec .u32 l (D.limb U),67,(0,0)⟩,numI qv (D.dnm m) (D.nw m)]⟩) (fun x=>x.1) ((XX/D.limb (D.dnm m) (D.nw m-1),XX%D.limb (D.dnm m) (D.nw m-1))) (⟨by rw [Nat.mul_comm]; exact Nat.div_add_mod _ _,hf4,Nat.lt_of_le_of_lt (Nat.div_le_self _ _) hXl,Nat.lt_trans (Nat.mod_lt _ (by omega)) htl⟩) (Kq ⟨rfl,rfl,rfl,rfl,rfl,rfl,trivial⟩ (by repeat (first|exact Sel.nil _|refine Sel.cons (by repeat (first|exact Ph _|apply Pt_)) ?_))) ?_
    intro x ⟨hx1,hx2,hx3,hx4⟩
    refine KB ?_
    refine KB ?_
    rcases Nat.lt_or_ge x.1 4294967296 with h4|h4
    ·
      refine rD [] ?_
      refine aM 0 ?_
      refine aP 1 rfl (KF rfl rfl (br_f (br_geq (b:=4294967296)) (Nat.not_le_of_lt h4))) ?_
      refine aM 2 ?_
      refine aGM 3 ?_
      refine aGM 4 ?_
      refine aGM 5 ?_
      refine aGP 6 rfl (KF rfl rfl (br_sub (b:=2) (by omega) (by omega))) ?_
      refine aGP 7 rfl (KAW Try.underlying24 sz_67 rfl rfl (by omega)) ?_
      refine aGD 8 rfl (Det.loadN Try.underlying67 rfl rfl (by repeat (first|exact Mh _|apply Mt)) (by omega)) ?_
      refine aGP 9 rfl (KAE Try.underlying67 Try.underlying30 rfl (by first|omega|exact Nat.lt_trans (D.limb_lt _ _) (by decide))) ?_
      refine aGP 10 rfl (KK (KF rfl rfl br_mul64) (vi (b:=x.1*D.limb (D.dnm m) (D.nw m-2)) (Nat.mod_eq_of_lt (mul_lt64 h4 (D.limb_lt _ _))))) ?_
      refine aGM 11 ?_
      refine aGP 12 rfl (KK (KF rfl rfl br_shl64) (vi (b:=x.2*4294967296) (shl32_eq hx4))) ?_
      refine aGM 13 ?_
      refine aGM 14 ?_
      refine aGM 15 ?_
      refine aGP 16 rfl (KF rfl rfl (Kv (by omega))) ?_
      refine aGP 17 rfl (KF rfl rfl (br_sub (b:=2) (by omega) (by omega))) ?_
      refine aGP 18 rfl (Ko Try.underlying24 sz_67 rfl rfl (by omega)) ?_
      refine aGD 19 rfl (dL rfl (hv:=KL Try.underlying67 rfl (by exact Ke _ _ _ (show a+D.nw m-2<l by omega)))) ?_
      refine aGP 20 rfl (KAE Try.underlying67 Try.underlying30 rfl (by first|omega|exact Nat.lt_trans (D.limb_lt _ _) (by decide))) ?_
      refine aGP 21 rfl (KK (KF rfl rfl (br_or64 (shl32_lt hx4) (Nat.lt_trans (D.limb_lt _ _) (by decide)))) (vi (b:=x.2*4294967296+D.limb U (a+D.nw m-2)) (shl32_or hx4 (D.limb_lt _ _)))) ?_
      refine aGP 22 rfl (KF rfl rfl (br_gtr)) ?_
      refine aP 23 rfl (Kh rfl rfl) ?_
      refine aE ?_
      first|refine KS rfl (fun h77=>?_) (fun h77=>?_)|refine KU rfl (fun h77=>?_) (fun h77=>?_)
      ·
        have hq:=hqs _ _ hx1 h77
        have hq0:0<x.1:=Nat.lt_of_le_of_lt (Nat.zero_le _) hq
        have hn1:=D.guess_next (d2:=0) (u:=0) hx1 hq0
        have hq1:QT≤x.1-1:=Nat.le_sub_one_of_lt hq
        refine KT ?_
        refine LCode.block ?_
        refine KB (KA ?_)
        refine oM ?_
        refine oP (KK (KF rfl rfl (br_sub64 (b:=1) (by decide))) (vi (b:=x.1-1) (by omega))) ?_
        refine oA ?_
        refine KC ?_
        refine KB (KA ?_)
        refine oM ?_
        refine oM ?_
        refine oM ?_
        refine oP (KF rfl rfl (br_sub (b:=1) (by omega) (by omega))) ?_
        refine oP (KAW Try.underlying24 sz_67 rfl rfl (by omega)) ?_
        refine oD (Det.loadN Try.underlying67 rfl rfl (by repeat (first|exact Mh _|apply Mt)) (by omega)) ?_
        refine oP (KAE Try.underlying67 Try.underlying30 rfl (by first|omega|exact Nat.lt_trans (D.limb_lt _ _) (by decide))) ?_
        refine oP (KK (KF rfl rfl KAM) (vi (b:=x.2+D.limb (D.dnm m) (D.nw m-1)) (by omega))) ?_
        refine oA ?_
        refine KC ?_
        refine KB (KA ?_)
        refine oM ?_
        refine oP (KF rfl rfl (br_geq (b:=4294967296))) ?_
        refine KC ?_
        first|refine KS rfl (fun h89=>?_) (fun h89=>?_)|refine KU rfl (fun h89=>?_) (fun h89=>?_)
        ·
          have h89:4294967296≤x.2+D.limb (D.dnm m) (D.nw m-1):=h89
          have hs1:=D.guess_small hn1 hgt h89
          refine Kp ?_
          exact ⟨x.1-1,⟨hs1,hq1,hqb _ _ hs1 hn1 (guess_over hs1 (D.limb_lt _ _) h89)⟩,Kq ⟨rfl,rfl,rfl,rfl,rfl,trivial⟩ (by repeat (first|exact Sel.nil _|refine Sel.cons (by repeat (first|exact Ph _|apply Pt_)) ?_))⟩
        ·
          have h89:¬ 4294967296≤x.2+D.limb (D.dnm m) (D.nw m-1):=h89
          refine KT ?_
          refine ⟨(x.1-1,x.2+D.limb (D.dnm m) (D.nw m-1)),⟨hn1,hq1,by dsimp only; omega,by dsimp only; omega⟩,by dsimp only; omega,Kq ⟨rfl,rfl,rfl,rfl,rfl,rfl,trivial⟩ (by repeat (first|exact Sel.nil _|refine Sel.cons (by repeat (first|exact Ph _|apply Pt_)) ?_))⟩
      ·
        have h77:¬ x.2*4294967296+D.limb U (a+D.nw m-2)<x.1*D.limb (D.dnm m) (D.nw m-2):=h77
        refine Kp ?_
        exact ⟨x.1,⟨h4,hx2,hqb _ _ h4 hx1 (Nat.le_of_not_lt h77)⟩,Kq ⟨rfl,rfl,rfl,rfl,rfl,trivial⟩ (by repeat (first|exact Sel.nil _|refine Sel.cons (by repeat (first|exact Ph _|apply Pt_)) ?_))⟩
    ·
      refine rD [] ?_
      refine aM 0 ?_
      refine aP 1 rfl (KF rfl rfl (br_t (br_geq (b:=4294967296)) h4)) ?_
      refine aM 2 ?_
      refine aK 3 ?_
      refine aK 4 ?_
      refine aK 5 ?_
      refine aK 6 ?_
      refine aK 7 ?_
      refine aK 8 ?_
      refine aK 9 ?_
      refine aK 10 ?_
      refine aK 11 ?_
      refine aK 12 ?_
      refine aK 13 ?_
      refine aK 14 ?_
      refine aK 15 ?_
      refine aK 16 ?_
      refine aK 17 ?_
      refine aK 18 ?_
      refine aK 19 ?_
      refine aK 20 ?_
      refine aK 21 ?_
      refine aK 22 ?_
      refine aP 23 rfl (Kn rfl rfl) ?_
      refine aE ?_
      have hq:QT<x.1:=Nat.lt_of_lt_of_le hql h4
      have hq0:0<x.1:=Nat.lt_of_le_of_lt (Nat.zero_le _) hq
      have hn1:=D.guess_next (d2:=0) (u:=0) hx1 hq0
      have hq1:QT≤x.1-1:=Nat.le_sub_one_of_lt hq
      refine Kf rfl ?_
      refine KT ?_
      refine LCode.block ?_
      refine KB (KA ?_)
      refine oM ?_
      refine oP (KK (KF rfl rfl (br_sub64 (b:=1) (by decide))) (vi (b:=x.1-1) (by omega))) ?_
      refine oA ?_
      refine KC ?_
      refine KB (KA ?_)
      refine oM ?_
      refine oM ?_
      refine oM ?_
      refine oP (KF rfl rfl (br_sub (b:=1) (by omega) (by omega))) ?_
      refine oP (KAW Try.underlying24 sz_67 rfl rfl (by omega)) ?_
      refine oD (Det.loadN Try.underlying67 rfl rfl (by repeat (first|exact Mh _|apply Mt)) (by omega)) ?_
      refine oP (KAE Try.underlying67 Try.underlying30 rfl (by first|omega|exact Nat.lt_trans (D.limb_lt _ _) (by decide))) ?_
      refine oP (KK (KF rfl rfl KAM) (vi (b:=x.2+D.limb (D.dnm m) (D.nw m-1)) (by omega))) ?_
      refine oA ?_
      refine KC ?_
      refine KB (KA ?_)
      refine oM ?_
      refine oP (KF rfl rfl (br_geq (b:=4294967296))) ?_
      refine KC ?_
      first|refine KS rfl (fun h89=>?_) (fun h89=>?_)|refine KU rfl (fun h89=>?_) (fun h89=>?_)
      ·
        have h89:4294967296≤x.2+D.limb (D.dnm m) (D.nw m-1):=h89
        have hs1:=D.guess_small hn1 hgt h89
        refine Kp ?_
        exact ⟨x.1-1,⟨hs1,hq1,hqb _ _ hs1 hn1 (guess_over hs1 (D.limb_lt _ _) h89)⟩,Kq ⟨rfl,rfl,rfl,rfl,rfl,trivial⟩ (by repeat (first|exact Sel.nil _|refine Sel.cons (by repeat (first|exact Ph _|apply Pt_)) ?_))⟩
      ·
        have h89:¬ 4294967296≤x.2+D.limb (D.dnm m) (D.nw m-1):=h89
        refine KT ?_
        refine ⟨(x.1-1,x.2+D.limb (D.dnm m) (D.nw m-1)),⟨hn1,hq1,by dsimp only; omega,by dsimp only; omega⟩,by dsimp only; omega,Kq ⟨rfl,rfl,rfl,rfl,rfl,rfl,trivial⟩ (by repeat (first|exact Sel.nil _|refine Sel.cons (by repeat (first|exact Ph _|apply Pt_)) ?_))⟩
  ·
    rintro d ⟨hd1,hd2,hd3⟩
    refine KB (KA ?_)
    refine oP (KZ (v:=.int .u64 ((0:Nat):Int)) rfl) ?_
    refine oP (KZ (v:=.int .u64 ((0:Nat):Int)) rfl) ?_
    refine KC ?_
    refine KB ?_
    refine KB (KA ?_)
    refine oP (KZ (v:=.int .i64 ((0:Nat):Int)) rfl) ?_
    refine KC ?_
    refine LCode.block ?_
    refine Ks (α:=Nat×Nat×Nat×Nat) (fun x=>x.1≤D.nw m∧x.2.2.1≤1∧x.2.2.2<4294967296∧x.2.1<2^(32*(a+D.nw m+1))∧x.2.1+d*(D.dnm m%2^(32*x.1))*2^(32*a) = U+(x.2.2.1+x.2.2.2)*2^(32*(a+x.1))) (fun x=>⟨[(0,.slice (some ⟨bu,0,none⟩) l c),(1,slV qv (D.nw m)),(2,.int .i64 ((a:Nat):Int)),(7,.int .i64 ((D.nw m:Nat):Int)),(9,.int .u64 ((d:Nat):Int)),(11,.int .u64 ((x.2.2.2:Nat):Int)),(12,.int .u64 ((x.2.2.1:Nat):Int)),(13,.int .i64 ((x.1:Nat):Int))],[.blk bu ⟨true,vec .u32 l (D.limb x.2.1),67,(0,0)⟩,numI qv (D.dnm m) (D.nw m)]⟩) (fun x=>D.nw m-x.1) ((0,U,0,0)) (⟨Nat.zero_le _,Nat.zero_le _,show (0:Nat)<4294967296 by decide,hUw,D.take_pre⟩) (Kq ⟨rfl,rfl,rfl,rfl,rfl,rfl,rfl,rfl,trivial⟩ (by repeat (first|exact Sel.nil _|refine Sel.cons (by repeat (first|exact Ph _|apply Pt_)) ?_))) ?_
    intro x ⟨hx1,hx2,hx3,hx4,hx5⟩
    refine KB ?_
    refine KB (KA ?_)
    refine oM ?_
    refine oM ?_
    refine oP (KF rfl rfl (KAT)) ?_
    refine KC ?_
    first|refine KS rfl (fun h92=>?_) (fun h92=>?_)|refine KU rfl (fun h92=>?_) (fun h92=>?_)
    ·
      have h92:x.1<D.nw m:=h92
      refine KT ?_
      refine KB ?_
      refine LCode.block ?_
      refine KB ?_
      have hlv:=D.limb_lt (D.dnm m) x.1
      have hlx:=D.limb_lt x.2.1 (a+x.1)
      have hw:d*D.limb (D.dnm m) x.1+x.2.2.2<18446744073709551616:=D.mul_word hd1 hlv hx3
      refine KA ?_
      refine oM ?_
      refine oM ?_
      refine oM ?_
      refine oP (KAW Try.underlying24 sz_67 rfl rfl (by omega)) ?_
      refine oD (Det.loadN Try.underlying67 rfl rfl (by repeat (first|exact Mh _|apply Mt)) (by omega)) ?_
      refine oP (KAE Try.underlying67 Try.underlying30 rfl (by first|omega|exact Nat.lt_trans (D.limb_lt _ _) (by decide))) ?_
      refine oP (KK (KF rfl rfl br_mul64) (vi (b:=d*D.limb (D.dnm m) x.1) (Nat.mod_eq_of_lt (mul_lt64 hd1 (D.limb_lt _ _))))) ?_
      refine oM ?_
      refine oP (KK (KF rfl rfl KAM) (vi (b:=d*D.limb (D.dnm m) x.1+x.2.2.2) (Nat.mod_eq_of_lt hw))) ?_
      refine oA ?_
      refine KC ?_
      refine KB (KA ?_)
      refine oM ?_
      refine oP (KF rfl rfl (KAL (b:=32) hw)) ?_
      refine oA ?_
      refine KC ?_
      refine KB (KA ?_)
      refine oM ?_
      refine oM ?_
      refine oM ?_
      refine oP (KK (KF rfl rfl (Kv (by omega))) (vi (b:=a+x.1) (by omega))) ?_
      refine oP (Ko Try.underlying24 sz_67 rfl rfl (by omega)) ?_
      refine oD (dL rfl (hv:=KL Try.underlying67 rfl (by exact Ke _ _ _ (show a+x.1<l by omega)))) ?_
      refine oP (KAE Try.underlying67 Try.underlying30 rfl (by first|omega|exact Nat.lt_trans (D.limb_lt _ _) (by decide))) ?_
      refine oP (KK (KF rfl rfl (KAM (b:=4294967296))) (vi (b:=D.limb x.2.1 (a+x.1)+4294967296) (by omega))) ?_
      refine oM ?_
      refine oP (KK (KF rfl rfl (br_and64 hw (by decide))) (vi (b:=(d*D.limb (D.dnm m) x.1+x.2.2.2)%4294967296) (and32 _))) ?_
      refine oP (KK (KF rfl rfl (br_sub64 (by omega))) (vi (b:=D.limb x.2.1 (a+x.1)+4294967296-(d*D.limb (D.dnm m) x.1+x.2.2.2)%4294967296) (by omega))) ?_
      refine oM ?_
      refine oP (KK (KF rfl rfl (br_sub64 (by omega))) (vi (b:=D.limb x.2.1 (a+x.1)+4294967296-(d*D.limb (D.dnm m) x.1+x.2.2.2)%4294967296-x.2.2.1) (by omega))) ?_
      refine oA ?_
      refine KC ?_
      refine KB (KA ?_)
      refine oM ?_
      refine oM ?_
      refine oM ?_
      refine oP (KK (KF rfl rfl (Kv (by omega))) (vi (b:=a+x.1) (by omega))) ?_
      refine oM ?_
      refine oP (KK (KF rfl rfl (br_and64 (by omega) (by decide))) (vi (b:=(D.limb x.2.1 (a+x.1)+4294967296-(d*D.limb (D.dnm m) x.1+x.2.2.2)%4294967296-x.2.2.1)%4294967296) (and32 _))) ?_
      refine oP (KK (KAP Try.underlying30 Try.underlying67 rfl) (vi (b:=(D.limb x.2.1 (a+x.1)+4294967296-(d*D.limb (D.dnm m) x.1+x.2.2.2)%4294967296-x.2.2.1)%4294967296) (Nat.mod_mod _ _))) ?_
      refine oP (Ko Try.underlying24 sz_67 rfl rfl (by omega)) ?_
      refine KV rfl (Kj rfl rfl rfl sz_67 (by repeat (first|exact Sh _|apply St_)) (by first|(simp only [KH,KD,KE,Kt]; omega)|(simp; done)|(simp; omega)) (by first|exact KAH _ _ _ _ _|exact KAJ _ _ _ _ (by omega)|exact KAI _ _ _ _|rfl) (by simp) ?_)
      refine KC ?_
      refine KA ?_
      refine oM ?_
      refine oP (KF rfl rfl (KAL (b:=32) (by omega))) ?_
      refine oP (KK (KF rfl rfl (br_sub64 (a:=1) (by omega))) (vi (b:=1-(D.limb x.2.1 (a+x.1)+4294967296-(d*D.limb (D.dnm m) x.1+x.2.2.2)%4294967296-x.2.2.1)/4294967296) (by rw [show (2:Nat)^32 = 4294967296 from rfl]; omega))) ?_
      refine oA ?_
      refine KC ?_
      refine KA ?_
      refine oM ?_
      refine oP (KF rfl rfl (Kv (b:=1) (by omega))) ?_
      refine oA ?_
      refine KC ?_
      refine ⟨(x.1+1,D.setl x.2.1 (a+x.1) ((D.limb x.2.1 (a+x.1)+4294967296-(d*D.limb (D.dnm m) x.1+x.2.2.2)%4294967296-x.2.2.1)%4294967296),1-(D.limb x.2.1 (a+x.1)+4294967296-(d*D.limb (D.dnm m) x.1+x.2.2.2)%4294967296-x.2.2.1)/4294967296,(d*D.limb (D.dnm m) x.1+x.2.2.2)/4294967296),⟨by dsimp only; omega,by dsimp only; omega,by dsimp only; omega,D.setl_lt hx4 (by omega) (Nat.mod_lt _ (by decide)),D.take_step hx5 rfl (take_parts hlx hx2)⟩,by dsimp only; omega,
        KAO (Sub.cells (b:=bu) (cs':=vec .u32 l (D.limb (D.setl x.2.1 (a+x.1) ((D.limb x.2.1 (a+x.1)+4294967296-(d*D.limb (D.dnm m) x.1+x.2.2.2)%4294967296-x.2.2.1)%4294967296)))) (by repeat (first|exact Sh _|apply St_)) (D.vec_setl (Nat.mod_lt _ (by decide)))) (Kq ⟨rfl,rfl,rfl,rfl,rfl,rfl,rfl,rfl,trivial⟩ (by repeat (first|exact Sel.nil _|refine Sel.cons (by repeat (first|exact Ph _|apply Pt_)) ?_)))⟩
    ·
      have h92:¬ x.1<D.nw m:=h92
      have he:x.1 = D.nw m:=by omega
      rw [he] at hx5
      refine Kp ?_
      refine KB ?_
      have hlx:=D.limb_lt x.2.1 (a+D.nw m)
      refine KA ?_
      refine oM ?_
      refine oM ?_
      refine oM ?_
      refine oP (KF rfl rfl (Kv (by omega))) ?_
      refine oP (Ko Try.underlying24 sz_67 rfl rfl (by omega)) ?_
      refine oD (dL rfl (hv:=KL Try.underlying67 rfl (by exact Ke _ _ _ (show a+D.nw m<l by omega)))) ?_
      refine oP (KAE Try.underlying67 Try.underlying30 rfl (by first|omega|exact Nat.lt_trans (D.limb_lt _ _) (by decide))) ?_
      refine oP (KK (KF rfl rfl (KAM (b:=4294967296))) (vi (b:=D.limb x.2.1 (a+D.nw m)+4294967296) (by omega))) ?_
      refine oM ?_
      refine oP (KK (KF rfl rfl (br_sub64 (by omega))) (vi (b:=D.limb x.2.1 (a+D.nw m)+4294967296-x.2.2.2) (by omega))) ?_
      refine oM ?_
      refine oP (KK (KF rfl rfl (br_sub64 (by omega))) (vi (b:=D.limb x.2.1 (a+D.nw m)+4294967296-x.2.2.2-x.2.2.1) (by omega))) ?_
      refine oA ?_
      refine KC ?_
      refine KB (KA ?_)
      refine oM ?_
      refine oM ?_
      refine oM ?_
      refine oP (KF rfl rfl (Kv (by omega))) ?_
      refine oM ?_
      refine oP (KK (KF rfl rfl (br_and64 (by omega) (by decide))) (vi (b:=(D.limb x.2.1 (a+D.nw m)+4294967296-x.2.2.2-x.2.2.1)%4294967296) (and32 _))) ?_
      refine oP (KK (KAP Try.underlying30 Try.underlying67 rfl) (vi (b:=(D.limb x.2.1 (a+D.nw m)+4294967296-x.2.2.2-x.2.2.1)%4294967296) (Nat.mod_mod _ _))) ?_
      refine oP (Ko Try.underlying24 sz_67 rfl rfl (by omega)) ?_
      refine KV rfl (Kj rfl rfl rfl sz_67 (by repeat (first|exact Sh _|apply St_)) (by first|(simp only [KH,KD,KE,Kt]; omega)|(simp; done)|(simp; omega)) (by first|exact KAH _ _ _ _ _|exact KAJ _ _ _ _ (by omega)|exact KAI _ _ _ _|rfl) (by simp) ?_)
      refine KC ?_
      refine KB ?_
      refine KB (KA ?_)
      refine oM ?_
      refine oP (KF rfl rfl (KAL (b:=32) (by omega))) ?_
      refine oP (KF rfl rfl (br_eql (b:=1))) ?_
      refine KC ?_
      first|refine KS rfl (fun h152=>?_) (fun h152=>?_)|refine KU rfl (fun h152=>?_) (fun h152=>?_)
      ·
        have h152:(D.limb x.2.1 (a+D.nw m)+4294967296-x.2.2.2-x.2.2.1)/2^32 = 1:=h152
        rw [show (2:Nat)^32 = 4294967296 from rfl] at h152
        have hfl:=D.take_last (D.dnm_lt m) hx5 (take_parts2 hlx hx3 hx2)
        rw [h152,Nat.sub_self,Nat.zero_mul] at hfl
        replace hfl:=hfl.trans (Nat.add_zero U)
        refine KB (KA ?_)
        refine oM ?_
        refine oA ?_
        refine KC (KM ?_)
        refine ⟨[_],.cons rfl .nil,fun a' w' hr=>⟨_,_,⟨d,_,hd1,hfl,D.quo_done (D.dnm_pos hm0) hfl (by rw [hQ]; exact hd2),rfl,D.vec_setl (Nat.mod_lt _ (by decide))⟩,rfl,hr.hp _ (by repeat (first|exact Mh _|apply Mt)),hr.fr⟩⟩
      ·
        have h152:¬ (D.limb x.2.1 (a+D.nw m)+4294967296-x.2.2.2-x.2.2.1)/2^32 = 1:=h152
        rw [show (2:Nat)^32 = 4294967296 from rfl] at h152
        have hfl:=D.take_last (D.dnm_lt m) hx5 (take_parts2 hlx hx3 hx2)
        rw [show 1-(D.limb x.2.1 (a+D.nw m)+4294967296-x.2.2.2-x.2.2.1)/4294967296 = 1 by omega,Nat.one_mul] at hfl
        obtain ⟨U1,hU1⟩:∃ U1,D.setl x.2.1 (a+D.nw m) ((D.limb x.2.1 (a+D.nw m)+4294967296-x.2.2.2-x.2.2.1)%4294967296) = U1:=⟨_,rfl⟩
        have hU1l:=D.setl_lt (y:=(D.limb x.2.1 (a+D.nw m)+4294967296-x.2.2.2-x.2.2.1)%4294967296) hx4 (show a+D.nw m<a+D.nw m+1 by omega) (Nat.mod_lt _ (by decide))
        have hU1v:=D.vec_setl (n:=l) (X:=x.2.1) (p:=a+D.nw m) (y:=(D.limb x.2.1 (a+D.nw m)+4294967296-x.2.2.2-x.2.2.1)%4294967296) (Nat.mod_lt _ (by decide))
        rw [hU1] at hfl hU1l hU1v
        have hqw:=D.quo_word hU1l hfl (by rw [hQ]; exact hd2) (D.dnm_pos hm0)
        refine KT ?_
        refine KB (KA ?_)
        refine oP (KZ (v:=.int .u64 ((0:Nat):Int)) rfl) ?_
        refine KC ?_
        refine KB ?_
        refine KB (KA ?_)
        refine oP (KZ (v:=.int .i64 ((0:Nat):Int)) rfl) ?_
        refine KC ?_
        refine LCode.block ?_
        refine Ks (α:=Nat×Nat×Nat) (fun x=>x.1≤D.nw m∧x.2.2≤1∧x.2.1<2^(32*(a+D.nw m+1))∧x.2.1+x.2.2*2^(32*(a+x.1)) = U1+(D.dnm m%2^(32*x.1))*2^(32*a)) (fun x=>⟨[(0,.slice (some ⟨bu,0,none⟩) l c),(1,slV qv (D.nw m)),(2,.int .i64 ((a:Nat):Int)),(7,.int .i64 ((D.nw m:Nat):Int)),(9,.int .u64 ((d:Nat):Int)),(11,.int .u64 ((x.2.2:Nat):Int)),(17,.int .i64 ((x.1:Nat):Int))],[.blk bu ⟨true,vec .u32 l (D.limb x.2.1),67,(0,0)⟩,numI qv (D.dnm m) (D.nw m)]⟩) (fun x=>D.nw m-x.1) ((0,U1,0)) (⟨Nat.zero_le _,Nat.zero_le _,hU1l,D.back_pre⟩) (KAO (Sub.cells (b:=bu) (cs':=vec .u32 l (D.limb U1)) (by repeat (first|exact Sh _|apply St_)) hU1v) (Kq ⟨rfl,rfl,rfl,rfl,rfl,rfl,rfl,trivial⟩ (by repeat (first|exact Sel.nil _|refine Sel.cons (by repeat (first|exact Ph _|apply Pt_)) ?_)))) ?_
        clear hx5
        intro x ⟨hx1,hx2,hx4,hx5⟩
        refine KB ?_
        refine KB (KA ?_)
        refine oM ?_
        refine oM ?_
        refine oP (KF rfl rfl (KAT)) ?_
        refine KC ?_
        first|refine KS rfl (fun h156=>?_) (fun h156=>?_)|refine KU rfl (fun h156=>?_) (fun h156=>?_)
        ·
          have h156:x.1<D.nw m:=h156
          refine KT ?_
          refine KB ?_
          refine LCode.block ?_
          refine KB ?_
          have hlv:=D.limb_lt (D.dnm m) x.1
          have hlx:=D.limb_lt x.2.1 (a+x.1)
          refine rD [] ?_
          refine aM 0 ?_
          refine aM 1 ?_
          refine aM 2 ?_
          refine aP 3 rfl (KK (KF rfl rfl (Kv (by omega))) (vi (b:=a+x.1) (by omega))) ?_
          refine aP 4 rfl (Ko Try.underlying24 sz_67 rfl rfl (by omega)) ?_
          refine aD 5 rfl (dL rfl (hv:=KL Try.underlying67 rfl (by exact Ke _ _ _ (show a+x.1<l by omega)))) ?_
          refine aP 6 rfl (KAE Try.underlying67 Try.underlying30 rfl (by first|omega|exact Nat.lt_trans (D.limb_lt _ _) (by decide))) ?_
          refine aM 7 ?_
          refine aM 8 ?_
          refine aP 9 rfl (KAW Try.underlying24 sz_67 rfl rfl (by omega)) ?_
          refine aD 10 rfl (Det.loadN Try.underlying67 rfl rfl (by repeat (first|exact Mh _|apply Mt)) (by omega)) ?_
          refine aP 11 rfl (KAE Try.underlying67 Try.underlying30 rfl (by first|omega|exact Nat.lt_trans (D.limb_lt _ _) (by decide))) ?_
          refine aP 12 rfl (KK (KF rfl rfl KAM) (vi (b:=D.limb x.2.1 (a+x.1)+D.limb (D.dnm m) x.1) (by omega))) ?_
          refine aM 13 ?_
          refine aP 14 rfl (KK (KF rfl rfl KAM) (vi (b:=D.limb x.2.1 (a+x.1)+D.limb (D.dnm m) x.1+x.2.2) (by omega))) ?_
          refine aA 15 ?_
          refine aE ?_
          refine KB (KA ?_)
          refine oM ?_
          refine oM ?_
          refine oM ?_
          refine oP (KK (KF rfl rfl (Kv (by omega))) (vi (b:=a+x.1) (by omega))) ?_
          refine oM ?_
          refine oP (KK (KF rfl rfl (br_and64 (by omega) (by decide))) (vi (b:=(D.limb x.2.1 (a+x.1)+D.limb (D.dnm m) x.1+x.2.2)%4294967296) (and32 _))) ?_
          refine oP (KK (KAP Try.underlying30 Try.underlying67 rfl) (vi (b:=(D.limb x.2.1 (a+x.1)+D.limb (D.dnm m) x.1+x.2.2)%4294967296) (Nat.mod_mod _ _))) ?_
          refine oP (Ko Try.underlying24 sz_67 rfl rfl (by omega)) ?_
          refine KV rfl (Kj rfl rfl rfl sz_67 (by repeat (first|exact Sh _|apply St_)) (by first|(simp only [KH,KD,KE,Kt]; omega)|(simp; done)|(simp; omega)) (by first|exact KAH _ _ _ _ _|exact KAJ _ _ _ _ (by omega)|exact KAI _ _ _ _|rfl) (by simp) ?_)
          refine KC ?_
          refine KA ?_
          refine oM ?_
          refine oP (KF rfl rfl (KAL (b:=32) (by omega))) ?_
          refine oA ?_
          refine KC ?_
          refine KA ?_
          refine oM ?_
          refine oP (KF rfl rfl (Kv (b:=1) (by omega))) ?_
          refine oA ?_
          refine KC ?_
          refine ⟨(x.1+1,D.setl x.2.1 (a+x.1) ((D.limb x.2.1 (a+x.1)+D.limb (D.dnm m) x.1+x.2.2)%4294967296),(D.limb x.2.1 (a+x.1)+D.limb (D.dnm m) x.1+x.2.2)/4294967296),⟨by dsimp only; omega,by dsimp only; omega,D.setl_lt hx4 (by omega) (Nat.mod_lt _ (by decide)),D.back_step hx5 D.add_word⟩,by dsimp only; omega,
            KAO (Sub.cells (b:=bu) (cs':=vec .u32 l (D.limb (D.setl x.2.1 (a+x.1) ((D.limb x.2.1 (a+x.1)+D.limb (D.dnm m) x.1+x.2.2)%4294967296)))) (by repeat (first|exact Sh _|apply St_)) (D.vec_setl (Nat.mod_lt _ (by decide)))) (Kq ⟨rfl,rfl,rfl,rfl,rfl,rfl,rfl,trivial⟩ (by repeat (first|exact Sel.nil _|refine Sel.cons (by repeat (first|exact Ph _|apply Pt_)) ?_)))⟩
        ·
          have h156:¬ x.1<D.nw m:=h156
          have he:x.1 = D.nw m:=by omega
          rw [he] at hx5
          refine Kp ?_
          refine KB ?_
          have hlx:=D.limb_lt x.2.1 (a+D.nw m)
          refine KA ?_
          refine oM ?_
          refine oM ?_
          refine oM ?_
          refine oP (KF rfl rfl (Kv (by omega))) ?_
          refine oM ?_
          refine oM ?_
          refine oM ?_
          refine oP (KF rfl rfl (Kv (by omega))) ?_
          refine oP (Ko Try.underlying24 sz_67 rfl rfl (by omega)) ?_
          refine oD (dL rfl (hv:=KL Try.underlying67 rfl (by exact Ke _ _ _ (show a+D.nw m<l by omega)))) ?_
          refine oM ?_
          refine oP (KK (KAP Try.underlying30 Try.underlying67 rfl) (vi (b:=x.2.2) (Nat.mod_eq_of_lt (by omega)))) ?_
          refine oP (KF rfl rfl (br_add32d)) ?_
          refine oP (Ko Try.underlying24 sz_67 rfl rfl (by omega)) ?_
          refine KV rfl (Kj rfl rfl rfl sz_67 (by repeat (first|exact Sh _|apply St_)) (by first|(simp only [KH,KD,KE,Kt]; omega)|(simp; done)|(simp; omega)) (by first|exact KAH _ _ _ _ _|exact KAJ _ _ _ _ (by omega)|exact KAI _ _ _ _|rfl) (by simp) ?_)
          refine KC ?_
          refine KB (KA ?_)
          refine oM ?_
          refine oP (KK (KF rfl rfl (br_sub64 (b:=1) (by decide))) (vi (b:=d-1) (by omega))) ?_
          refine oA ?_
          refine KC (KM ?_)
          have hb:=D.back_step (a:=a) (i:=D.nw m) (D:=D.dnm m) hx5 (lo:=(D.limb x.2.1 (a+D.nw m)+x.2.2)%4294967296) (c':=(D.limb x.2.1 (a+D.nw m)+x.2.2)/4294967296) (by rw [D.limb_high (D.dnm_lt m) (Nat.le_refl _)]; omega)
          rw [Nat.mod_eq_of_lt (Nat.lt_of_lt_of_le (D.dnm_lt m) (Nat.pow_le_pow_right (by decide) (by omega)))] at hb
          have hlt9:=D.limb_lt x.2.1 (a+D.nw m)
          have hc9:(D.limb x.2.1 (a+D.nw m)+x.2.2)/4294967296≤1:=by omega
          have hU9:=D.setl_lt (y:=(D.limb x.2.1 (a+D.nw m)+x.2.2)%4294967296) hx4 (show a+D.nw m<a+D.nw m+1 by omega) (Nat.mod_lt _ (by decide))
          have hqb9:=D.quo_back hqw.2 hfl (by rw [← Nat.add_assoc] at hb; exact hb) hc9
          have hce:=D.back_enough (D.dnm_pos hm0) hc9 (by rw [hQ]; omega) hqb9 hU9
          rw [hce,Nat.sub_self,Nat.zero_mul,Nat.add_zero] at hqb9
          refine ⟨[_],.cons rfl .nil,fun a' w' hr=>⟨_,_,⟨d-1,_,by omega,hqb9,D.quo_done (D.dnm_pos hm0) hqb9 (by rw [hQ]; rw [hQ] at hqw; exact hqw.1),rfl,D.vec_setl (Nat.mod_lt _ (by decide))⟩,rfl,hr.hp _ (by repeat (first|exact Mh _|apply Mt)),hr.fr⟩⟩
end Go.Proofs.Ytlmiolnccgjjjaa
set_option linter.unusedVariables false
set_option linter.unusedSimpArgs false
set_option maxRecDepth 20000
namespace Go.Proofs.Ytlmiolnccgjjjaa
open Go Go.RowKit
theorem cmp_lss {A B:Nat}:Kw .lss .i64 (cmpI A B) .i64 0 = some (.bool (decide (A<B))):=by
  unfold cmpI
  by_cases h:A<B
  · rw [if_pos h,decide_eq_true h]; rfl
  · rw [if_neg h,decide_eq_false h]
    split <;> rfl
theorem cmp_geq {A B:Nat}:Kw .geq .i64 (cmpI A B) .i64 0 = some (.bool (decide (B≤A))):=by
  unfold cmpI
  by_cases h:A<B
  · rw [if_pos h,decide_eq_false (Nat.not_le_of_lt h)]; rfl
  · rw [if_neg h,decide_eq_true (Nat.le_of_not_lt h)]
    split <;> rfl
theorem cmp_leq {A B:Nat}:Kw .leq .i64 (cmpI A B) .i64 0 = some (.bool (decide (A≤B))):=by
  unfold cmpI
  by_cases h:A<B
  · rw [if_pos h,decide_eq_true (Nat.le_of_lt h)]; rfl
  · rw [if_neg h]
    by_cases h2:B<A
    · rw [if_pos h2,decide_eq_false (Nat.not_le_of_lt h2)]; rfl
    · rw [if_neg h2,decide_eq_true (by omega)]; rfl
theorem cmp_neq {A B:Nat}:Kw .neq .i64 (cmpI A B) .i64 0 = some (.bool (decide (A≠B))):=by
  unfold cmpI
  by_cases h:A<B
  · rw [if_pos h,decide_eq_true (by omega)]; rfl
  · rw [if_neg h]
    by_cases h2:B<A
    · rw [if_pos h2,decide_eq_true (by omega)]; rfl
    · rw [if_neg h2,decide_eq_false (by omega)]; rfl
theorem cmp_eql {A B:Nat}:Kw .eql .i64 (cmpI A B) .i64 0 = some (.bool (decide (A = B))):=by
  unfold cmpI
  by_cases h:A<B
  · rw [if_pos h,decide_eq_false (by omega)]; rfl
  · rw [if_neg h]
    by_cases h2:B<A
    · rw [if_pos h2,decide_eq_false (by omega)]; rfl
    · rw [if_neg h2,decide_eq_true (by omega)]; rfl
theorem one_digit {m:Nat} (h:D.nw m = 1):D.limb m 0 = m:=by
  have h1:=D.lt_nw m
  rw [h] at h1
  unfold D.limb
  rw [Nat.mul_zero,Nat.pow_zero,Nat.div_one,Nat.mod_eq_of_lt (by omega)]
theorem splice_num {A n l:Nat} (hA:A<2^(32*n)) (h:n≤l):splice (vec .u32 l (fun _=>0)) 0 (vec .u32 n (D.limb A)) = vec .u32 l (D.limb A):=by
  apply List.ext_getElem?
  intro i
  simp only [splice,List.take_zero,List.nil_append,Nat.zero_add,KH]
  rcases Nat.lt_or_ge i n with h1|h1
  · rw [List.getElem?_append_left (by rw [KH]; exact h1),Ke _ _ _ h1,Ke _ _ _ (by omega)]
  · rw [List.getElem?_append_right (by rw [KH]; exact h1),KH,List.getElem?_drop,show n+(i-n) = i by omega]
    rcases Nat.lt_or_ge i l with h2|h2
    · rw [Ke _ _ _ h2,Ke _ _ _ h2,D.limb_high hA h1]
    · rw [List.getElem?_eq_none (by rw [KH]; exact h2),List.getElem?_eq_none (by rw [KH]; exact h2)]
theorem numV_dnm {q:NV} {m:Nat} (h:m≠0):numV q (D.dnm m) = slV q (D.nw m):=by unfold numV; rw [D.nw_dnm h]
theorem numT_dnm {q:NV} {m:Nat} (h:m≠0):numT q (D.dnm m) = numI q (D.dnm m) (D.nw m):=by unfold numT; rw [D.nw_dnm h]
theorem Rel.num2Q {w : World} {N : Nat} {st : St} {a : Act} {w' : World} {old : List Nat} {A B : Nat} {q r : NV} {mk : Value → Value → Value} (hr : Rel ⟨w, NoW, N⟩ st a w') (hm : numT q A ∈ st.H) (hn : NFr w.heap.size old q (D.nw A)) (hm' : numT r B ∈ st.H) (hn' : NFr w.heap.size old r (D.nw B)) :
    Num2R w old A B mk (.returned (mk (numV q A) (numV r B))) w':=⟨q,r,rfl,hr.hp _ hm,hn,hr.hp _ hm',hn',hr.fr.below⟩
theorem Rel.num2B {w : World} {N : Nat} {st : St} {a : Act} {w' : World} {old : List Nat} {A n b c B : Nat} {r : NV} {ty : TypeId} {fz : Nat × Nat} {mk : Value → Value → Value} (hr : Rel ⟨w, NoW, N⟩ st a w') (hm : Item.blk b ⟨true, vec .u32 n (D.limb A), ty, fz⟩ ∈ st.H) (hA : A < 2 ^ (32 * n)) (hm' : numT r B ∈ st.H) (hn' : NFr w.heap.size old r (D.nw B)) :
    Num2R w old A B mk (.returned (mk (.slice (some ⟨b,0,none⟩) (D.nw A) c) (numV r B))) w':=⟨⟨false,b,c⟩,r,rfl,numT_blk (hr.hp _ hm) hA,NFr.blk _ (hr.new hm rfl),hr.hp _ hm',hn',hr.fr.below⟩
theorem c_n_Div (q r:NV) (A m:Nat) (hm0:m≠0) (w:World) (hq:(numT q A).holds w) (hr:(numT r m).holds w) (hA:D.nw A≤900000):Calls Try.prog 99 ([numV q A,numV r m]:List Value).toArray w (fun e w'=>Num2R w (fpz q (D.nw A)) (A/m) (A%m) (fun u v=>.tuple #[u,v]) e w'):=by
  refine Ki (N:=78) (rs:=[.tmp 4,.tmp 5]) [numT q A,numT r m] Try.func99 rfl Try.ntmps99 Try.results99 (Nb rfl) ⟨hq,hr,trivial⟩ rfl ?_
  show LCode _ _ _ ⟨_,_⟩ _
  refine KB (KA ?_)
  refine oA ?_
  refine oA ?_
  refine KC ?_
  refine KB ?_
  refine KB (KA ?_)
  refine oM ?_
  refine oM ?_
  refine oS (cF rfl en_59 rfl (fun w hw=>c_n_Cmp q r A m w (mC hw) (mC hw) (by omega)) ?_)
  refine oP (KF rfl rfl cmp_lss) ?_
  refine KC ?_
  first|refine KS rfl (fun h15=>?_) (fun h15=>?_)|refine KU rfl (fun h15=>?_) (fun h15=>?_)
  ·
    have h15:A<m:=h15
    refine KB (KA ?_)
    refine oM ?_
    refine oA ?_
    refine oA ?_
    refine KC (KM ?_)
    refine ⟨[_,_],.cons rfl (.cons rfl .nil),fun a w' hr=>?_⟩
    rw [Nat.div_eq_of_lt h15,Nat.mod_eq_of_lt h15]
    exact ⟨⟨true,0,0⟩,q,rfl,numT_nil _ _ _,NFr.nil _ _ _ _,hr.hp _ (by repeat (first|exact Mh _|apply Mt)),NFr.self _ _ _,hr.fr.below⟩
  ·
    have h15:¬ A<m:=h15
    have hmA:=D.nw_mono (Nat.le_of_not_lt h15)
    have hm9:=D.nw_pos hm0
    refine KT ?_
    refine KB ?_
    refine KB (KA ?_)
    refine oM ?_
    refine oP (KAC Try.underlying24 rfl) ?_
    refine oP (KF rfl rfl (br_eql (b:=1))) ?_
    refine KC ?_
    first|refine KS rfl (fun h19=>?_) (fun h19=>?_)|refine KU rfl (fun h19=>?_) (fun h19=>?_)
    ·
      have h19:D.nw m = 1:=h19
      have hm1:m<4294967296:=by have:=D.lt_nw m; rw [h19] at this; omega
      refine KB (KA ?_)
      refine oM ?_
      refine oM ?_
      refine oP (KAW (i:=0) Try.underlying24 sz_67 rfl rfl (by omega)) ?_
      refine oD (Det.loadN Try.underlying67 rfl rfl (by repeat (first|exact Mh _|apply Mt)) (by omega)) ?_
      refine oP (KK (KAE Try.underlying67 Try.underlying30 rfl (Nat.lt_trans (D.limb_lt _ _) (by decide))) (vi (b:=m) (one_digit h19))) ?_
      refine oS (cZ rfl en_132 rfl (fun w hw hs=>(c_n_short q A m w (mC hw) (by omega) (Nat.pos_of_ne_zero hm0) hm1).mono fun e w' h=>Num2R.q (Old.nil _) hs h) ?_)
      rintro _ _ ⟨q25a,q25b,rfl,rfl,hn25a,hn25b⟩
      refine oP (KW rfl rfl) ?_
      refine oP (KW rfl rfl) ?_
      refine oA ?_
      refine oA ?_
      refine KC (KM ?_)
      refine ⟨[_,_],.cons rfl (.cons rfl .nil),fun a w' hr=>hr.num2Q (by repeat (first|exact Mh _|apply Mt)) hn25a.any (by repeat (first|exact Mh _|apply Mt)) hn25b.any⟩
    ·
      have h19:¬ D.nw m = 1:=h19
      have hs32:=D.dsh_lt hm0
      have hbl:=D.dsh_add m
      refine KT ?_
      refine KB (KA ?_)
      refine oM ?_
      refine oP (KAC Try.underlying24 rfl) ?_
      refine oP (KF rfl rfl (br_mul (a:=32) (by omega))) ?_
      refine oM ?_
      refine oS (cF rfl en_70 rfl (fun w hw=>c_n_Bits r m w (mC hw) (by omega)) ?_)
      refine oP (KK (KF rfl rfl (br_sub (by omega) (by omega))) (vi (b:=D.dsh m) rfl)) ?_
      refine oA ?_
      refine KC ?_
      refine KB (KA ?_)
      refine oM ?_
      refine oM ?_
      refine oS (cZ rfl en_133 rfl (fun w hw hs=>(c_n_Shl r m (D.dsh m) w (mC hw) (by omega) (by omega)).mono fun e w' h=>KAV (Old.nil _) hs h) ?_)
      rintro _ _ ⟨q36,rfl,rfl,hn36⟩
      rw [show numV q36 (m*2^D.dsh m) = slV q36 (D.nw m) from numV_dnm hm0,show numT q36 (m*2^D.dsh m) = numI q36 (D.dnm m) (D.nw m) from numT_dnm hm0]
      refine oA ?_
      refine KC ?_
      refine KB (KA ?_)
      refine oM ?_
      refine oP (KAC Try.underlying24 rfl) ?_
      refine oP (KF rfl rfl (Kv (b:=1) (by omega))) ?_
      refine oS (mk (Makes.mkV Try.underlying24 inf_67 rfl rfl (by omega) (by omega)) (fun b40=>?_))
      refine oA ?_
      refine KC ?_
      refine KB ?_
      have hle:D.nw (A*2^D.dsh m)≤D.nw A+1:=D.nw_le (Nat.lt_of_lt_of_le D.shl_lt (Nat.pow_le_pow_right (by decide) (by rw [Nat.div_eq_of_lt hs32]; omega)))
      refine KA ?_
      refine oM ?_
      refine oM ?_
      refine oM ?_
      refine oS (cZ rfl en_133 rfl (fun w hw hs=>(c_n_Shl q A (D.dsh m) w (mC hw) (by omega) (by omega)).mono fun e w' h=>KAV (Old.nil _) hs h) ?_)
      rintro _ _ ⟨q44,rfl,rfl,hn44⟩
      refine KV rfl (LStepW.copyN (ats:=[24,24]) (n:=D.nw (A*2^D.dsh m)) (A:=A*2^D.dsh m) (q:=q44) (l:=D.nw A+1) rfl rfl rfl Try.underlying24 sz_67 (by repeat (first|exact Mh _|apply Mt)) hle (by rw [KH]; exact Nat.le_refl _) (Nb rfl) (by repeat (first|exact Sh _|apply St_)) (splice_num (D.lt_nw _) hle) ?_)
      refine KC ?_
      refine KB (KA ?_)
      refine oM ?_
      refine oP (KAC Try.underlying24 rfl) ?_
      refine oA ?_
      refine KC ?_
      refine KB (KA ?_)
      refine oM ?_
      refine oP (KAC Try.underlying24 rfl) ?_
      refine oM ?_
      refine oP (KF rfl rfl (br_sub (by omega) (by omega))) ?_
      refine oS (mk (Makes.mkV Try.underlying24 inf_67 rfl rfl (by omega) (by omega)) (fun b52=>?_))
      refine oA ?_
      refine KC ?_
      refine KB ?_
      refine KB (KA ?_)
      refine oM ?_
      refine oP (KAC Try.underlying24 rfl) ?_
      refine oM ?_
      refine oP (KF rfl rfl (br_sub (by omega) (by omega))) ?_
      refine oP (KF (v:=.int .i64 (((D.nw A+1-D.nw m:Nat):Int)-1)) rfl rfl (br_subI (by omega) (by omega))) ?_
      refine oA ?_
      refine KC ?_
      refine LCode.block ?_
      refine Ks (α:=Nat×Nat×Nat) (fun x=>x.1≤D.nw A+1-D.nw m∧x.2.1+x.2.2*2^(32*x.1)*D.dnm m = A*2^D.dsh m∧x.2.1<D.dnm m*2^(32*x.1)) (fun x=>⟨[(6,.int .i64 ((D.dsh m:Nat):Int)),(7,slV q36 (D.nw m)),(8,.slice (some ⟨b40,0,none⟩) (D.nw A+1) (D.nw A+1)),(9,.int .i64 ((D.nw m:Nat):Int)),(10,.slice (some ⟨b52,0,none⟩) (D.nw A+1-D.nw m) (D.nw A+1-D.nw m)),(11,.int .i64 ((x.1:Int)-1))],[.blk b52 ⟨true,vec .u32 (D.nw A+1-D.nw m) (D.limb (x.2.2*2^(32*x.1))),67,(0,0)⟩,.blk b40 ⟨true,vec .u32 (D.nw A+1) (D.limb x.2.1),67,(0,0)⟩,numI q36 (D.dnm m) (D.nw m)]⟩) (fun x=>x.1) ((D.nw A+1-D.nw m,A*2^D.dsh m,0)) (⟨Nat.le_refl _,by dsimp only; rw [Nat.zero_mul,Nat.zero_mul,Nat.add_zero],by have:=D.div_begin hm0 hmA (D.lt_nw A); dsimp only; rwa [show D.nw A+1-D.nw m = D.nw A-D.nw m+1 by omega]⟩) (KAO (Sub.cells (b:=b52) (cs':=vec .u32 (D.nw A+1-D.nw m) (D.limb (0*2^(32*(D.nw A+1-D.nw m))))) (by repeat (first|exact Sh _|apply St_)) (by rw [Nat.zero_mul]; exact D.vec_zeros _)) (Kq ⟨rfl,rfl,rfl,rfl,rfl,rfl,trivial⟩ (by repeat (first|exact Sel.nil _|refine Sel.cons (by repeat (first|exact Ph _|apply Pt_)) ?_)))) ?_
      rintro x ⟨hx1,hx3,hx4⟩
      refine KB ?_
      refine KB ?_
      rcases Nat.eq_zero_or_pos x.1 with h0|h0
      ·
        refine KA ?_
        refine oM ?_
        refine oP (KF (v:=.bool false) rfl rfl (by rw [h0]; rfl)) ?_
        refine KC ?_
        rw [h0,Nat.mul_zero,Nat.pow_zero,Nat.mul_one] at hx3
        rw [h0,Nat.mul_zero,Nat.pow_zero,Nat.mul_one] at hx4
        have hU:x.2.1<D.dnm m:=hx4
        obtain ⟨he1,he2⟩:=D.div_end hm0 hx3 hx4
        refine KR rfl ?_
        refine Kp ?_
        refine KB ?_
        have hQl:A/m<2^(32*(D.nw A+1-D.nw m)):=by
          rw [← he1]
          refine Nat.lt_of_mul_lt_mul_right (a:=D.dnm m) (Nat.lt_of_le_of_lt (Nat.le_trans (Nat.le_add_left _ _) (Nat.le_of_eq hx3)) ?_)
          have:=D.div_begin hm0 hmA (D.lt_nw A)
          rw [show D.nw A-D.nw m+1 = D.nw A+1-D.nw m by omega] at this
          rw [Nat.mul_comm (2^_)]
          exact this
        refine LCode.sub (Sub.cells (b:=b52) (cs':=vec .u32 (D.nw A+1-D.nw m) (D.limb (A/m))) (by repeat (first|exact Sh _|apply St_)) (by rw [h0,Nat.mul_zero,Nat.pow_zero,Nat.mul_one,he1])) ?_
        refine rD [] ?_
        refine aM 0 ?_
        refine aM 2 ?_
        refine aM 3 ?_
        refine aP 4 rfl (Det.slH Try.underlying24 sz_67 rfl rfl (by omega) (by omega)) ?_
        refine aM 6 ?_
        refine aO 1 rfl (cF rfl en_87 rfl (fun w hw=>c_trim (A/m) b52 (D.nw A+1-D.nw m) (D.nw A+1-D.nw m) (D.nw A+1-D.nw m) _ true w (mC hw) (Nat.le_refl _) (Nat.le_refl _) (by omega) hQl) ?_)
        refine aO 5 rfl (cF rfl en_87 rfl (fun w hw=>c_trim x.2.1 b40 (D.nw m) (D.nw A+1) (D.nw A+1) _ true w (mC hw) (by omega) (by omega) (by omega) (Nat.lt_trans hU (D.dnm_lt m))) ?_)
        refine aO 7 rfl (cZ rfl en_111 rfl (fun w hw hs=>(c_n_Shr ⟨false,b40,D.nw A+1⟩ x.2.1 (D.nw x.2.1) (D.dsh m) w (numI_blk0 (mC hw) (by have:=D.nw_le (Nat.lt_trans hU (D.dnm_lt m)); omega) (D.lt_nw _)) (by have:=D.nw_le (Nat.lt_trans hU (D.dnm_lt m)); omega) (by omega)).mono fun e w' h=>KAV (Old.nil _) hs h) ?_)
        rintro _ _ ⟨q77,rfl,rfl,hn77⟩
        refine aA 8 ?_
        refine aA 9 ?_
        refine aE ?_
        refine KM ?_
        rw [he2] at *
        refine ⟨[_,_],.cons rfl (.cons rfl .nil),fun a w' hr=>hr.num2B (mk:=fun u v=>.tuple #[u,v]) (n:=D.nw A+1-D.nw m) (b:=b52) (ty:=67) (fz:=(0,0)) (by repeat (first|exact Mh _|apply Mt)) hQl (by repeat (first|exact Mh _|apply Mt)) hn77.any⟩
      ·
        obtain ⟨y,hy⟩:∃ y,x.1 = y+1:=⟨x.1-1,by omega⟩
        rw [hy] at hx1 hx3 hx4
        refine KA ?_
        refine oM ?_
        refine oP (KF (v:=.bool true) rfl rfl (by rw [hy]; simp [Kw] <;> omega)) ?_
        refine KC ?_
        refine Kf rfl ?_
        refine KT ?_
        refine KB ?_
        refine LCode.block ?_
        refine KA ?_
        refine oM ?_
        refine oP (KAB (v:=.int .i64 ((y:Nat):Int)) (by show some _ = some _; congr 2; omega)) ?_
        refine oM ?_
        refine oM ?_
        refine oP (KAB (v:=.int .i64 ((y:Nat):Int)) (by show some _ = some _; congr 2; omega)) ?_
        refine KV rfl (LStepW.callWF (Post:=fun v cs'=>∃ q U',q<4294967296∧U'+q*D.dnm m*2^(32*y) = x.2.1∧U' < D.dnm m*2^(32*y)∧v = .int .u64 ((q:Nat):Int)∧cs' = vec .u32 (D.nw A+1) (D.limb U')) (first:=[]) rfl en_134 rfl (Nb rfl) (fun cs'=>(by repeat (first|exact Sh _|apply St_))) (fun w hw hap=>c_n_step q36 m x.2.1 b40 y (D.nw A+1) (D.nw A+1) hm0 w (mC hw) (mC hw) (apart_mem hap (x:=Item.blk b40 _) (y:=numI q36 (D.dnm m) (D.nw m)) (by repeat (first|exact Mh _|apply Mt)) (by repeat (first|exact Mh _|apply Mt)) rfl rfl b40 (List.Mem.head _)) (by omega) (by omega) (by omega) hx4) ?_)
        rintro _ _ ⟨d,U',hd1,hd2,hd3,rfl,rfl⟩
        refine oP (KK (KAP Try.underlying30 Try.underlying67 rfl) (vi (b:=d) (Nat.mod_eq_of_lt hd1))) ?_
        refine oP (Ko Try.underlying24 sz_67 rfl rfl (by omega)) ?_
        refine KV rfl (Kj rfl rfl rfl sz_67 (by repeat (first|exact Sh _|apply St_)) (by first|(simp only [KH,KD,KE,Kt]; omega)|(simp; done)|(simp; omega)) (by first|exact KAH _ _ _ _ _|exact KAJ _ _ _ _ (by omega)|exact KAI _ _ _ _|rfl) (by simp) ?_)
        refine KC ?_
        refine KA ?_
        refine oP (KAB (v:=.int .i64 ((y:Nat):Int)) (by show some _ = some _; congr 2; omega)) ?_
        refine oP (KF rfl rfl rfl) ?_
        refine oA ?_
        refine KC ?_
        refine ⟨(y,U',x.2.2*4294967296+d),⟨by dsimp only; omega,D.quo_sum hd2 hx3,hd3⟩,by dsimp only; omega,KAO (Sub.cells (b:=b52) (cs':=vec .u32 (D.nw A+1-D.nw m) (D.limb ((x.2.2*4294967296+d)*2^(32*y)))) (by repeat (first|exact Sh _|apply St_)) (KAA fun j _=>?_)) (Kq ⟨rfl,rfl,rfl,rfl,rfl,?_,trivial⟩ (by repeat (first|exact Sel.nil _|refine Sel.cons (by repeat (first|exact Ph _|apply Pt_)) ?_)))⟩
        · rw [hy]
          exact D.quo_store hd1 j
        · exact congrArg (fun i:Int=>some (Value.int .i64 i)) (wrap_i64 (by omega) (by omega))
theorem c_n_Mod (q r:NV) (A m:Nat) (hm0:m≠0) (w:World) (hq:(numT q A).holds w) (hr:(numT r m).holds w) (hA:D.nw A≤900000):Calls Try.prog 60 ([numV q A,numV r m]:List Value).toArray w (fun e w'=>NumR w (fpz q (D.nw A)) (A%m) (fun v=>v) e w'):=by
  refine Ki (N:=14) (rs:=[.tmp 4]) [numT q A,numT r m] Try.func60 rfl Try.ntmps60 Try.results60 (Nb rfl) ⟨hq,hr,trivial⟩ rfl ?_
  show LCode _ _ _ ⟨_,_⟩ _
  refine KB (KA ?_)
  refine oA ?_
  refine KC ?_
  refine KB (KA ?_)
  refine oM ?_
  refine oM ?_
  refine oS (cZ rfl en_99 rfl (fun w hw hs=>(c_n_Div q r A m hm0 w (mC hw) (mC hw) hA).mono fun e w' h=>Num2R.q (Old.one (x:=numT q A) (by repeat (first|exact Mh _|apply Mt)) rfl) hs h) ?_)
  rintro _ _ ⟨q10a,q10b,rfl,rfl,hn10a,hn10b⟩
  refine oM ?_
  refine oP (KW rfl rfl) ?_
  refine oP (KW rfl rfl) ?_
  refine oA ?_
  refine oA ?_
  refine KC ?_
  refine KB (KA ?_)
  refine oM ?_
  refine oA ?_
  refine KC (KM ?_)
  refine ⟨[_],.cons rfl .nil,fun a w' hr=>hr.numQ (by repeat (first|exact Mh _|apply Mt)) hn10b⟩
theorem nw_mul_le (A B:Nat):D.nw (A*B)≤D.nw A+D.nw B:=D.nw_le (by
  rw [D.pow64_add]
  exact Nat.mul_lt_mul_of_lt_of_le (D.lt_nw A) (Nat.le_of_lt (D.lt_nw B)) (D.pow64_pos _))
theorem nw_add_le (A B:Nat):D.nw (A+B)≤D.nw A+D.nw B+1:=D.nw_le (D.add_lt (Nat.lt_of_lt_of_le (D.lt_nw A) (Nat.pow_le_pow_right (by decide) (by omega))) (Nat.lt_of_lt_of_le (D.lt_nw B) (Nat.pow_le_pow_right (by decide) (by omega))))
theorem c_n_MulMod (q r p:NV) (A B m:Nat) (hm0:m≠0) (w:World) (hq:(numT q A).holds w) (hr:(numT r B).holds w) (hp:(numT p m).holds w) (hA:D.nw A≤100000) (hB:D.nw B≤100000):Calls Try.prog 67 ([numV q A,numV r B,numV p m]:List Value).toArray w (fun e w'=>NumR w ([]) (A*B%m) (fun v=>v) e w'):=by
  refine Ki (N:=12) (rs:=[.tmp 6]) [numT q A,numT r B,numT p m] Try.func67 rfl Try.ntmps67 Try.results67 (Nb rfl) ⟨hq,hr,hp,trivial⟩ rfl ?_
  show LCode _ _ _ ⟨_,_⟩ _
  refine KB (KA ?_)
  refine oA ?_
  refine KC ?_
  refine KB ?_
  have hmb:=nw_mul_le A B
  refine KA ?_
  refine oM ?_
  refine oM ?_
  refine oS (cZ rfl en_104 rfl (fun w hw hs=>(c_n_Mul q r A B w (mC hw) (mC hw) (by omega) (by omega)).mono fun e w' h=>KAV (Old.nil _) hs h) ?_)
  rintro _ _ ⟨q9,rfl,rfl,hn9⟩
  refine oM ?_
  refine oS (cZ rfl en_60 rfl (fun w hw hs=>(c_n_Mod q9 p (A*B) m hm0 w (mC hw) (mC hw) (by omega)).mono fun e w' h=>KAV (Old.one (x:=numT q9 (A*B)) (by repeat (first|exact Mh _|apply Mt)) rfl) hs h) ?_)
  rintro _ _ ⟨q11,rfl,rfl,hn11⟩
  refine oA ?_
  refine KC (KM ?_)
  refine ⟨[_],.cons rfl .nil,fun a w' hr=>hr.numQ (by repeat (first|exact Mh _|apply Mt)) (hn11.old hn9)⟩
theorem c_n_AddMod (q r p:NV) (A B m:Nat) (w:World) (hq:(numT q A).holds w) (hr:(numT r B).holds w) (hp:(numT p m).holds w) (hA:D.nw A≤100000) (hB:D.nw B≤100000) (hAm:A<m) (hBm:B<m):Calls Try.prog 71 ([numV q A,numV r B,numV p m]:List Value).toArray w (fun e w'=>NumR w ([]) ((A+B)%m) (fun v=>v) e w'):=by
  refine Ki (N:=19) (rs:=[.tmp 6]) [numT q A,numT r B,numT p m] Try.func71 rfl Try.ntmps71 Try.results71 (Nb rfl) ⟨hq,hr,hp,trivial⟩ rfl ?_
  show LCode _ _ _ ⟨_,_⟩ _
  refine KB (KA ?_)
  refine oA ?_
  refine KC ?_
  refine KB ?_
  have hmb:=nw_add_le A B
  refine KA ?_
  refine oM ?_
  refine oM ?_
  refine oS (cZ rfl en_50 rfl (fun w hw hs=>(c_n_Add q r A B w (mC hw) (mC hw) (by omega) (by omega)).mono fun e w' h=>KAV (Old.nil _) hs h) ?_)
  rintro _ _ ⟨q10,rfl,rfl,hn10⟩
  refine oA ?_
  refine KC ?_
  refine KB ?_
  refine KB (KA ?_)
  refine oM ?_
  refine oM ?_
  refine oS (cF rfl en_59 rfl (fun w hw=>c_n_Cmp q10 p (A+B) m w (mC hw) (mC hw) (by omega)) ?_)
  refine oP (KF rfl rfl cmp_geq) ?_
  refine KC ?_
  first|refine KS rfl (fun h14=>?_) (fun h14=>?_)|refine KU rfl (fun h14=>?_) (fun h14=>?_)
  ·
    have h14:m≤A+B:=h14
    have he:(A+B)%m = A+B-m:=by rw [Nat.mod_eq_sub_mod h14,Nat.mod_eq_of_lt (by omega)]
    rw [he]
    refine KB (KA ?_)
    refine oM ?_
    refine oM ?_
    refine oS (cZ rfl en_65 rfl (fun w hw hs=>(c_n_Sub q10 p (A+B) m w (mC hw) (mC hw) h14 (by omega)).mono fun e w' h=>KAV (Old.nil _) hs h) ?_)
    rintro _ _ ⟨q17,rfl,rfl,hn17⟩
    refine oA ?_
    refine KC (KM ?_)
    refine ⟨[_],.cons rfl .nil,fun a w' hr=>hr.numQ (by repeat (first|exact Mh _|apply Mt)) hn17⟩
  ·
    have h14:¬ m≤A+B:=h14
    have he:(A+B)%m = A+B:=Nat.mod_eq_of_lt (by omega)
    rw [he]
    refine KT ?_
    refine KB (KA ?_)
    refine oM ?_
    refine oA ?_
    refine KC (KM ?_)
    refine ⟨[_],.cons rfl .nil,fun a w' hr=>hr.numQ (by repeat (first|exact Mh _|apply Mt)) hn10⟩
theorem c_n_SubMod (q r p:NV) (A B m:Nat) (w:World) (hq:(numT q A).holds w) (hr:(numT r B).holds w) (hp:(numT p m).holds w) (hA:D.nw A≤100000) (hm:D.nw m≤100000) (hBm:B<m):Calls Try.prog 105 ([numV q A,numV r B,numV p m]:List Value).toArray w (fun e w'=>NumR w ([]) (lessM A B m) (fun v=>v) e w'):=by
  refine Ki (N:=19) (rs:=[.tmp 6]) [numT q A,numT r B,numT p m] Try.func105 rfl Try.ntmps105 Try.results105 (Nb rfl) ⟨hq,hr,hp,trivial⟩ rfl ?_
  show LCode _ _ _ ⟨_,_⟩ _
  refine KB (KA ?_)
  refine oA ?_
  refine KC ?_
  refine KB ?_
  refine KB ?_
  have hmb:=nw_add_le A m
  refine KA ?_
  refine oM ?_
  refine oM ?_
  refine oS (cF rfl en_59 rfl (fun w hw=>c_n_Cmp q r A B w (mC hw) (mC hw) (by omega)) ?_)
  refine oP (KF rfl rfl cmp_geq) ?_
  refine KC ?_
  first|refine KS rfl (fun h14=>?_) (fun h14=>?_)|refine KU rfl (fun h14=>?_) (fun h14=>?_)
  ·
    have h14:B≤A:=h14
    have he:lessM A B m = A-B:=if_neg (by omega)
    rw [he]
    refine KB (KA ?_)
    refine oM ?_
    refine oM ?_
    refine oS (cZ rfl en_65 rfl (fun w hw hs=>(c_n_Sub q r A B w (mC hw) (mC hw) h14 (by omega)).mono fun e w' h=>KAV (Old.nil _) hs h) ?_)
    rintro _ _ ⟨q13,rfl,rfl,hn13⟩
    refine oA ?_
    refine KC (KM ?_)
    refine ⟨[_],.cons rfl .nil,fun a w' hr=>hr.numQ (by repeat (first|exact Mh _|apply Mt)) hn13⟩
  ·
    have h14:¬ B≤A:=h14
    have he:lessM A B m = A+m-B:=if_pos (by omega)
    rw [he]
    refine KT ?_
    refine KB (KA ?_)
    refine oM ?_
    refine oM ?_
    refine oS (cZ rfl en_50 rfl (fun w hw hs=>(c_n_Add q p A m w (mC hw) (mC hw) (by omega) (by omega)).mono fun e w' h=>KAV (Old.nil _) hs h) ?_)
    rintro _ _ ⟨q16,rfl,rfl,hn16⟩
    refine oM ?_
    refine oS (cZ rfl en_65 rfl (fun w hw hs=>(c_n_Sub q16 r (A+m) B w (mC hw) (mC hw) (by omega) (by omega)).mono fun e w' h=>KAV (Old.nil _) hs h) ?_)
    rintro _ _ ⟨q18,rfl,rfl,hn18⟩
    refine oA ?_
    refine KC (KM ?_)
    refine ⟨[_],.cons rfl .nil,fun a w' hr=>hr.numQ (by repeat (first|exact Mh _|apply Mt)) hn18⟩
theorem vec_two_digits {A:Nat} (h:A<18446744073709551616):[Value.int .u32 ((A%4294967296:Nat):Int),Value.int .u32 ((A/4294967296:Nat):Int)] = vec .u32 2 (D.limb A):=by
  have e:D.limb A 0 = A%4294967296:=by unfold D.limb; rw [Nat.mul_zero,Nat.pow_zero,Nat.div_one]
  have e1:D.limb A 1 = A/4294967296:=by unfold D.limb; rw [Nat.mul_one,show (2:Nat)^32 = 4294967296 from rfl,Nat.mod_eq_of_lt (by omega)]
  simp [vec,List.range_succ,e,e1]
theorem c_n_Small (x:Nat) (w:World) (hx:x<9223372036854775808):Calls Try.prog 39 ([.int .i64 ((x:Nat):Int)]:List Value).toArray w (fun e w'=>NumR w ([]) (x) (fun v=>v) e w'):=by
  refine Ki (N:=15) (rs:=[.tmp 2]) [] Try.func39 rfl Try.ntmps39 Try.results39 (Nb rfl) trivial rfl ?_
  show LCode _ _ _ ⟨_,_⟩ _
  refine KB (KA ?_)
  refine oA ?_
  refine KC ?_
  refine KB ?_
  refine KB (KA ?_)
  refine oM ?_
  refine oP (KF (v:=.bool false) rfl rfl (br_f (KAT (b:=0)) (Nat.not_lt_zero _))) ?_
  refine KC ?_
  refine KR rfl ?_
  refine KT ?_
  refine KB ?_
  have hx2:x<2^(32*2):=by rw [show (2:Nat)^(32*2) = 18446744073709551616 from rfl]; omega
  refine KA ?_
  refine oM ?_
  refine oP (KAE Try.underlying3 Try.underlying30 rfl (by first|omega|exact Nat.lt_trans (D.limb_lt _ _) (by decide))) ?_
  refine oP (KF rfl rfl (br_and64 (by omega) (by decide))) ?_
  refine oP (KK (KAP Try.underlying30 Try.underlying67 rfl) (vi (b:=x%4294967296) (by rw [and32,Nat.mod_mod]))) ?_
  refine oM ?_
  refine oP (KAE Try.underlying3 Try.underlying30 rfl (by first|omega|exact Nat.lt_trans (D.limb_lt _ _) (by decide))) ?_
  refine oP (KF rfl rfl (KAL (b:=32) (by omega))) ?_
  refine oP (KK (KAP Try.underlying30 Try.underlying67 rfl) (vi (b:=x/4294967296) (by rw [show (2:Nat)^32 = 4294967296 from rfl]; omega))) ?_
  refine oS (mk (KAK Try.underlying24 inf_67 rfl rfl rfl rfl (by decide) rfl) (fun b13=>?_))
  refine LOps.sub (Sub.cells (b:=b13) (cs':=vec .u32 2 (D.limb x)) (by repeat (first|exact Sh _|apply St_)) (vec_two_digits (by omega))) ?_
  refine oS (cF rfl en_87 rfl (fun w hw=>c_trim x b13 2 2 2 _ true w (mC hw) (Nat.le_refl _) (Nat.le_refl _) (by omega) hx2) ?_)
  refine oA ?_
  refine KC (KM ?_)
  refine ⟨[_],.cons rfl .nil,fun a w' hr=>hr.num (by repeat (first|exact Mh _|apply Mt)) (hx2)⟩
end Go.Proofs.Ytlmiolnccgjjjaa
set_option linter.unusedVariables false
set_option linter.unusedSimpArgs false
set_option maxRecDepth 20000
namespace Go.Proofs.Ytlmiolnccgjjjaa
open Go Go.RowKit
structure InvS where
  t:Nat
  u:Nat
  r:Nat
  s:Nat
  qt:NV
  qu:NV
  qr:NV
  qs:NV
theorem nw_one:D.nw 1 = 1:=by decide
theorem numV_one (b:Nat):some (Value.slice (some ⟨b,0,none⟩) 1 1) = some (numV ⟨false,b,1⟩ 1):=by
  unfold numV slV pz
  rw [nw_one]
  rfl
theorem numV_nil:some (Value.slice none 0 0) = some (numV ⟨true,0,0⟩ 0):=by
  unfold numV slV pz
  rw [nw_zero]
  rfl
theorem nfr_zero (lo:Nat) (old:List Nat):NFr lo old ⟨true,0,0⟩ (D.nw 0):=fun k hk=>by
  have:k∈fpz ⟨true,0,0⟩ (D.nw 0):=hk
  unfold fpz at this
  rw [nw_zero] at this
  cases this
theorem n1_blk {w:World} {b c n:Nat} {wr:Bool} {ty:TypeId} {fz:Nat×Nat} (h:(Item.blk b ⟨wr,[Value.int .u32 ((n:Nat):Int)],ty,fz⟩).holds w) (hn:n<4294967296):(numT ⟨false,b,c⟩ n).holds w:=by
  rw [vec_one_digit hn] at h
  exact numT_blk (n:=1) h (by omega)
theorem numT_zero_holds (w:World):(numT ⟨true,0,0⟩ 0).holds w:=numT_nil w 0 0
theorem LCode.zeroNum {P:Program} {C:Ctx} {co:Code} {Q:Exit→St→Prop} {T:List (Nat×Value)} {H:List Item} (h:LCode P C co ⟨T,numT ⟨true,0,0⟩ 0 :: H⟩ Q):LCode P C co ⟨T,H⟩ Q:=by
  unfold LCode at *
  intro a w hr
  refine h a w ⟨hr.size,hr.defers,hr.tm,?_,?_,List.pairwise_cons.2 ⟨?_,hr.dist⟩,hr.fr⟩
  · intro x hx
    rcases List.mem_cons.1 hx with rfl|hx
    · exact numT_zero_holds w
    · exact hr.hp x hx
  · intro x hx hw
    rcases List.mem_cons.1 hx with rfl|hx
    · cases hw
    · exact hr.own x hx hw
  · intro y _ _ k hk
    exact ((nfr_zero 0 [] k hk).elim (fun _=>absurd hk (by unfold numT numI Item.fp fpz; rw [nw_zero]; exact List.not_mem_nil)) (fun h=>by cases h))
theorem c_n_Inverse (q r:NV) (A m:Nat) (w:World) (hq:(numT q A).holds w) (hr:(numT r m).holds w) (hA:D.nw A≤900000) (hnm:D.nw m≤100000) (hm:1<m) (hg:Nat.gcd A m = 1):Calls Try.prog 106 ([numV q A,numV r m]:List Value).toArray w (fun e w'=>NumR w ([]) (invM A m) (fun v=>.tuple #[v,.bool true]) e w'):=by
  have hmp:0<m:=by omega
  have hm0:m≠0:=by omega
  refine Ki (N:=53) (rs:=[.tmp 4,.tmp 5]) [numT q A,numT r m] Try.func106 rfl Try.ntmps106 Try.results106 (Nb rfl) ⟨hq,hr,trivial⟩ rfl ?_
  show LCode _ _ _ ⟨_,_⟩ _
  refine KB (KA ?_)
  refine oA ?_
  refine oA ?_
  refine KC ?_
  refine KB ?_
  refine KB (KA ?_)
  refine oM ?_
  refine oS (mk (KAK Try.underlying24 inf_67 rfl rfl rfl rfl (by decide) rfl) (fun b14=>?_))
  refine oS (cF rfl en_59 rfl (fun w hw=>c_n_Cmp r ⟨false,b14,1⟩ m 1 w (mC hw) (n1_blk (mC hw) (by decide)) (by omega)) ?_)
  refine oP (KF (v:=.bool false) rfl rfl (br_f cmp_leq (by omega))) ?_
  refine KC ?_
  refine KR rfl ?_
  refine KT ?_
  refine KB (KA ?_)
  refine oS (mk (KAK Try.underlying24 inf_67 rfl rfl rfl rfl (by decide) rfl) (fun b17=>?_))
  refine oM ?_
  refine oS (LStep.appendN (q:=r) (A:=m) rfl rfl Try.underlying24 inf_67 rfl (by repeat (first|exact Pick.head _|apply Pick.tail)) (by repeat (first|exact Mh _|apply Mt)) (by omega) (by omega) (Nb rfl) ?_)
  intro q19 hf19
  refine oM ?_
  refine oM ?_
  refine oS (cZ rfl en_60 rfl (fun w hw hs=>(c_n_Mod q r (A) m hm0 w (mC hw) (mC hw) (by omega)).mono fun e w' h=>KAV (Old.one (x:=numT q (A)) (by repeat (first|exact Mh _|apply Mt)) rfl) hs h) ?_)
  rintro _ _ ⟨q22,rfl,rfl,hn22⟩
  refine oA ?_
  refine oA ?_
  refine KC ?_
  refine KB ?_
  refine LCode.zeroNum ?_
  refine KA ?_
  refine oA ?_
  refine KC ?_
  refine KB (KA ?_)
  refine oS (mk (KAK Try.underlying24 inf_67 rfl rfl rfl rfl (by decide) rfl) (fun b23=>?_))
  refine oA ?_
  refine LOps.sub (Sub.cells (b:=b23) (cs':=vec .u32 1 (D.limb 1)) (by repeat (first|exact Sh _|apply St_)) (vec_one_digit (by decide))) ?_
  refine LOps.toNum (b:=b23) (n:=1) (A:=1) (c:=1) (by repeat (first|exact Pick.head _|apply Pick.tail)) (by decide) (fun hb23=>?_)
  refine KC ?_
  refine KB ?_
  refine LCode.block ?_
  refine Ks (α:=InvS) (fun x=>(x.t<m∧x.u<m)∧A*x.t%m = x.r%m∧A*x.u%m = x.s%m∧Nat.gcd x.r x.s = 1∧(x.r≤m∧x.s≤m)∧NFr w.heap.size [] x.qt (D.nw x.t)∧NFr w.heap.size [] x.qu (D.nw x.u)) (fun x=>⟨[(1,numV r m),(6,numV x.qr x.r),(7,numV x.qs x.s),(8,numV x.qt x.t),(9,numV x.qu x.u)],[numT x.qr x.r,numT x.qs x.s,numT x.qt x.t,numT x.qu x.u,numT r m]⟩) (fun x=>x.s) (⟨0,1,m,A%m,⟨true,0,0⟩,⟨false,b23,1⟩,q19,q22⟩) (⟨⟨hmp,hm⟩,by dsimp only; rw [Nat.mul_zero,Nat.zero_mod,Nat.mod_self],by dsimp only; rw [Nat.mul_one,Nat.mod_mod],by dsimp only; rw [Nat.gcd_comm,← Nat.gcd_rec,Nat.gcd_comm]; exact hg,⟨Nat.le_refl _,Nat.le_of_lt (Nat.mod_lt _ hmp)⟩,nfr_zero _ _,NFr.blk _ (hb23.elim id (fun h=>h.elim))⟩) (Kq ⟨rfl,rfl,rfl,numV_nil,numV_one b23,trivial⟩ (by repeat (first|exact Sel.nil _|refine Sel.cons (by repeat (first|exact Ph _|apply Pt_)) ?_))) ?_
  rintro x ⟨⟨hx1,hx2⟩,hx3,hx4,hx5,⟨hx6,hx7⟩,hx8,hx9⟩
  have hnr:=D.nw_mono hx6
  have hns:=D.nw_mono hx7
  have hnt:=D.nw_mono (Nat.le_of_lt hx1)
  have hnu:=D.nw_mono (Nat.le_of_lt hx2)
  refine KB ?_
  refine KB (KA ?_)
  refine oM ?_
  refine oP (KAC Try.underlying24 rfl) ?_
  refine oP (KF rfl rfl (br_gtr (b:=0))) ?_
  refine KC ?_
  first|refine KS rfl (fun h26=>?_) (fun h26=>?_)|refine KU rfl (fun h26=>?_) (fun h26=>?_)
  ·
    have h26:x.s≠0:=by
      intro e
      rw [e] at h26
      exact absurd h26 (by decide)
    refine KT ?_
    refine LCode.block ?_
    refine KB (KA ?_)
    refine oM ?_
    refine oM ?_
    refine oS (cZ rfl en_99 rfl (fun w hw hs=>(c_n_Div x.qr x.qs x.r x.s h26 w (mC hw) (mC hw) (by omega)).mono fun e w' h=>Num2R.q (Old.one (x:=numT x.qr x.r) (by repeat (first|exact Mh _|apply Mt)) rfl) hs h) ?_)
    rintro _ _ ⟨q30a,q30b,rfl,rfl,hn30a,hn30b⟩
    refine oM ?_
    refine oP (KW rfl rfl) ?_
    refine oP (KW rfl rfl) ?_
    refine oA ?_
    refine oA ?_
    refine KC ?_
    refine KB (KA ?_)
    refine oM ?_
    refine oM ?_
    refine oM ?_
    refine oS (cZ rfl en_60 rfl (fun w hw hs=>(c_n_Mod q30a r (x.r/x.s) m hm0 w (mC hw) (mC hw) (by have:=D.nw_le (Nat.lt_of_le_of_lt (Nat.div_le_self x.r x.s) (D.lt_nw x.r)); omega)).mono fun e w' h=>KAV (Old.one (x:=numT q30a (x.r/x.s)) (by repeat (first|exact Mh _|apply Mt)) rfl) hs h) ?_)
    rintro _ _ ⟨q36,rfl,rfl,hn36⟩
    refine oM ?_
    refine oM ?_
    refine oS (cZ rfl en_67 rfl (fun w hw hs=>(c_n_MulMod q36 x.qu r (x.r/x.s%m) x.u m hm0 w (mC hw) (mC hw) (mC hw) (by have:=D.nw_mono (Nat.le_of_lt (Nat.mod_lt (x.r/x.s) hmp)); omega) (by omega)).mono fun e w' h=>KAV (Old.nil _) hs h) ?_)
    rintro _ _ ⟨q39,rfl,rfl,hn39⟩
    refine oM ?_
    refine oS (cZ rfl en_105 rfl (fun w hw hs=>(c_n_SubMod x.qt q39 r x.t ((x.r/x.s)%m*x.u%m) m w (mC hw) (mC hw) (mC hw) (by omega) (by omega) (Nat.mod_lt _ hmp)).mono fun e w' h=>KAV (Old.nil _) hs h) ?_)
    rintro _ _ ⟨q41,rfl,rfl,hn41⟩
    refine oA ?_
    refine KC ?_
    refine KB (KA ?_)
    refine oM ?_
    refine oA ?_
    refine KC ?_
    refine KB (KA ?_)
    have hnrest:=D.nw_mono (Nat.le_of_lt (Nat.mod_lt x.r (Nat.pos_of_ne_zero h26)))
    refine oS (mk (KAK Try.underlying24 inf_67 rfl rfl rfl rfl (by decide) rfl) (fun b43=>?_))
    refine oM ?_
    refine oS (LStep.appendN (q:=q30b) (A:=x.r%x.s) rfl rfl Try.underlying24 inf_67 rfl (by repeat (first|exact Pick.head _|apply Pick.tail)) (by repeat (first|exact Mh _|apply Mt)) (by omega) (by omega) (Nb rfl) ?_)
    intro q45 hf45
    refine oA ?_
    refine KC ?_
    refine KB (KA ?_)
    refine oM ?_
    refine oA ?_
    refine KC ?_
    refine KA ?_
    refine oM ?_
    refine oA ?_
    refine KC ?_
    have hlt:x.r%x.s<x.s:=Nat.mod_lt _ (Nat.pos_of_ne_zero h26)
    refine ⟨⟨x.u,lessM x.t ((x.r/x.s)%m*x.u%m) m,x.s,x.r%x.s,x.qu,q41,x.qs,q45⟩,⟨⟨hx2,lessM_lt hx1 (Nat.mod_lt _ hmp)⟩,hx4,?_,?_,⟨hx7,Nat.le_trans (Nat.le_of_lt hlt) hx7⟩,hx9,hn41⟩,hlt,Kq ⟨rfl,rfl,rfl,rfl,rfl,trivial⟩ (by repeat (first|exact Sel.nil _|refine Sel.cons (by repeat (first|exact Ph _|apply Pt_)) ?_))⟩
    · dsimp only
      rw [Nat.mod_mul_mod]
      exact inv_step rfl hx1 hmp hx3 hx4
    · dsimp only
      rw [Nat.gcd_comm,← Nat.gcd_rec,Nat.gcd_comm]; exact hx5
  ·
    have h26:x.s = 0:=nw_eq_zero.1 (by have:=h26; omega)
    have hr1:x.r = 1:=by rw [h26,Nat.gcd_zero_right] at hx5; exact hx5
    refine Kp ?_
    refine KB ?_
    refine KB (KA ?_)
    refine oM ?_
    refine oS (mk (KAK Try.underlying24 inf_67 rfl rfl rfl rfl (by decide) rfl) (fun b49=>?_))
    refine oS (cF rfl en_59 rfl (fun w hw=>c_n_Cmp x.qr ⟨false,b49,1⟩ x.r 1 w (mC hw) (n1_blk (mC hw) (by decide)) (by omega)) ?_)
    refine oP (KF (v:=.bool false) rfl rfl (br_f cmp_neq (by rw [hr1]; simp))) ?_
    refine KC ?_
    refine KR rfl ?_
    refine KT ?_
    refine KB (KA ?_)
    refine oM ?_
    refine oA ?_
    refine oA ?_
    refine KC (KM ?_)
    have he:invM A m = x.t:=invM_eq hx1 (by rw [hx3,hr1,Nat.mod_eq_of_lt hm])
    rw [he]
    refine ⟨[_,_],.cons rfl (.cons rfl .nil),fun a w' hr=>hr.numQ (mk:=fun v=>.tuple #[v,.bool true]) (by repeat (first|exact Mh _|apply Mt)) hx8⟩
end Go.Proofs.Ytlmiolnccgjjjaa
set_option linter.unusedVariables false
namespace Go.Proofs.Ytlmiolnccgjjjaa.Grp
section
variable {p:Nat} [NeZero p]
abbrev F (p:Nat):=Fin p
theorem eq_of_sub {x y:Fin p} (h:x-y = 0):x = y:=by grind -lia
theorem sub_of_eq {x y:Fin p} (h:x = y):x-y = 0:=by grind -lia
theorem lin1 {x c1 e1:Fin p} (h:x = c1*e1) (h1:e1 = 0):x = 0:=by rw [h,h1]; grind -lia
theorem lin2 {x c1 e1 c2 e2:Fin p} (h:x = c1*e1+c2*e2) (h1:e1 = 0) (h2:e2 = 0):x = 0:=by rw [h,h1,h2]; grind -lia
theorem lin3 {x c1 e1 c2 e2 c3 e3:Fin p} (h:x = c1*e1+c2*e2+c3*e3) (h1:e1 = 0) (h2:e2 = 0) (h3:e3 = 0):x = 0:=by rw [h,h1,h2,h3]; grind -lia
theorem lin4 {x c1 e1 c2 e2 c3 e3 c4 e4:Fin p} (h:x = c1*e1+c2*e2+c3*e3+c4*e4) (h1:e1 = 0) (h2:e2 = 0) (h3:e3 = 0) (h4:e4 = 0):x = 0:=by rw [h,h1,h2,h3,h4]; grind -lia
def Dom (p:Nat) [NeZero p]:Prop:=∀ x y:Fin p,x*y = 0→x = 0∨y = 0
theorem Dom.cancel (hd:Dom p) {x y c:Fin p} (hc:c≠0) (h:(x-y)*c = 0):x = y:=by
  rcases hd _ _ h with h|h
  · exact eq_of_sub h
  · exact absurd h hc
structure Slope (a x1 y1 x2 y2 l:Fin p):Prop where
  chord:l*(x1-x2)-(y1-y2) = 0
  tang:l*(y1+y2)-(x1*x1+x1*x2+x2*x2+a) = 0
theorem Slope.symm {a x1 y1 x2 y2 l:Fin p} (h:Slope a x1 y1 x2 y2 l):Slope a x2 y2 x1 y1 l :=
  ⟨lin1 (c1:=-1) (by grind -lia) h.chord,lin1 (c1:=1) (by grind -lia) h.tang⟩
def Opp (x1 y1 x2 y2:Fin p):Prop:=x1-x2 = 0∧y1+y2 = 0
theorem Slope.unique (hd:Dom p) {a x1 y1 x2 y2 l m:Fin p} (hn:¬ Opp x1 y1 x2 y2) (hl:Slope a x1 y1 x2 y2 l) (hm:Slope a x1 y1 x2 y2 m):l = m:=by
  by_cases h:x1-x2 = 0
  · have h2:y1+y2≠0:=fun e=>hn ⟨h,e⟩
    exact hd.cancel h2 (lin2 (c1:=1) (c2:=-1) (by grind -lia) hl.tang hm.tang)
  · exact hd.cancel h (lin2 (c1:=1) (c2:=-1) (by grind -lia) hl.chord hm.chord)
theorem slope_next (hd : Dom p) {a x1 y1 x2 y2 x3 y3 l m s x4 y4 : Fin p} (hA : Slope a x1 y1 x2 y2 l) (hC : Slope a x3 y3 x2 y2 m) (h4 : x4 - (l * l - x1 - x2) = 0) (h5 : y4 - (l * (x1 - x4) - y1) = 0)
    (hs:Slope a x3 y3 x4 y4 s) (hlm:l-m≠0) (hn:¬ Opp x3 y3 x4 y4):(s+l)*(l-m) = x1-x3:=by
  obtain ⟨hA1,hA2⟩:=hA
  obtain ⟨hC1,hC2⟩:=hC
  obtain ⟨hs1,hs2⟩:=hs
  obtain rfl:y1 = y2+l*(x1-x2):=eq_of_sub (lin1 (c1:=-1) (by grind -lia) hA1)
  obtain rfl:y3 = y2+m*(x3-x2):=eq_of_sub (lin1 (c1:=-1) (by grind -lia) hC1)
  obtain rfl:x4 = l*l-x1-x2:=eq_of_sub h4
  obtain rfl:y4 = _:=eq_of_sub h5
  have hK1:(s*(l-m)-(l*m-l*l+x1-x3))*(x3-(l*l-x1-x2)) = 0 :=
    lin3 (c1:=l-m) (c2:=1) (c3:=-1) (by clear hA1 hA2 hC1 hC2 hs1 hs2 h4 h5 hlm hn; grind -lia) hs1 hA2 hC2
  have hK2:(s*(l-m)-(l*m-l*l+x1-x3))*(y2+m*(x3-x2)+(l*(x1-(l*l-x1-x2))-(y2+l*(x1-x2)))) = 0 :=
    lin3 (c1:=l-m) (c2:=m) (c3:=-l) (by clear hA1 hA2 hC1 hC2 hs1 hs2 h4 h5 hlm hn hK1; grind -lia) hs2 hA2 hC2
  have hK:s*(l-m) = l*m-l*l+x1-x3:=by
    by_cases h:x3-(l*l-x1-x2) = 0
    · exact hd.cancel (fun e=>hn ⟨h,e⟩) hK2
    · exact hd.cancel h hK1
  clear hA1 hA2 hC1 hC2 hs1 hs2 h4 h5 hlm hn hK1 hK2
  have:(s+l)*(l-m) = s*(l-m)+l*(l-m):=by clear hK; grind -lia
  rw [this,hK]; clear hK this; grind -lia
inductive Pt (p:Nat) where
  | inf
  | aff (x y:Fin p)
def Pt.neg:Pt p→Pt p
  | .inf=>.inf
  | .aff x y=>.aff x (-y)
inductive Add (a:Fin p):Pt p→Pt p→Pt p→Prop where
  | left (q:Pt p):Add a .inf q q
  | right (q:Pt p):Add a q .inf q
  | opp {x1 y1 x2 y2:Fin p}:Opp x1 y1 x2 y2→Add a (.aff x1 y1) (.aff x2 y2) .inf
  | line {x1 y1 x2 y2:Fin p} (l x y:Fin p):¬ Opp x1 y1 x2 y2→Slope a x1 y1 x2 y2 l→x-(l*l-x1-x2) = 0→y-(l*(x1-x)-y1) = 0→Add a (.aff x1 y1) (.aff x2 y2) (.aff x y)
theorem Opp.symm {x1 y1 x2 y2:Fin p} (h:Opp x1 y1 x2 y2):Opp x2 y2 x1 y1:=⟨lin1 (c1:=-1) (by grind -lia) h.1,lin1 (c1:=1) (by grind -lia) h.2⟩
theorem Add.symm {a:Fin p} {A B R:Pt p} (h:Add a A B R):Add a B A R:=by
  cases h with
  | left q=>exact .right _
  | right q=>exact .left _
  | opp h=>exact .opp h.symm
  | line l x y hn hs hx hy =>
    refine .line l x y (fun h=>hn h.symm) hs.symm ?_ ?_
    · exact lin1 (c1:=1) (by clear hs hx hy hn; grind -lia) hx
    · exact lin2 (c1:=1) (c2:=1) (by clear hs hx hy hn; grind -lia) hy hs.chord
theorem Add.unique (hd:Dom p) {a:Fin p} {A B R S:Pt p} (h:Add a A B R) (k:Add a A B S):R = S:=by
  cases h with
  | left q=>cases k <;> rfl
  | right q=>cases k <;> rfl
  | opp h=>cases k with
    | opp _=>rfl
    | line _ _ _ hn _ _ _=>exact absurd h hn
  | line l x y hn hs hx hy=>cases k with
    | opp h=>exact absurd h hn
    | line m x' y' hn' hs' hx' hy' =>
      obtain rfl:=hs.unique hd hn hs'
      obtain rfl:=eq_of_sub hx
      obtain rfl:=eq_of_sub hy
      obtain rfl:=eq_of_sub hx'
      obtain rfl:=eq_of_sub hy'
      rfl
def On (a b:Fin p):Pt p→Prop
  | .inf=>True
  | .aff x y=>y*y-(x*x*x+a*x+b) = 0
theorem Add.on {a b:Fin p} {A B R:Pt p} (h:Add a A B R) (hA:On a b A) (hB:On a b B):On a b R:=by
  cases h with
  | left q=>exact hB
  | right q=>exact hA
  | opp h=>trivial
  | @line x1 y1 x2 y2 l x y hn hs hx hy =>
    obtain ⟨h1,h2⟩:=hs
    simp only [On] at hA hB ⊢
    obtain rfl:=eq_of_sub hy
    have hx':l*l-x1-x2-x = 0:=lin1 (c1:=-1) (by clear h1 h2 hA hB hn hx; grind -lia) hx
    exact lin4 (c1:=1) (c2:=x-x1) (c3:=-((x-x1)*l)) (c4:=(x-x1)*(x-x2)) (by clear h1 h2 hA hB hn hx hx'; grind -lia) hA h2 h1 hx'
structure Fine (a b:Fin p):Prop where
  dom:Dom p
  two:∀ y:Fin p,y+y = 0→y = 0
  sing:∀ x:Fin p,On a b (.aff x 0)→x*x+x*x+x*x+a = 0→False
theorem Opp.eq {x1 y1 x2 y2:Fin p} (h:Opp x1 y1 x2 y2):(.aff x2 y2:Pt p) = .aff x1 (-y1):=by
  have e1:x2 = x1:=eq_of_sub (lin1 (c1:=-1) (by grind -lia) h.1)
  have e2:y2 = -y1:=eq_of_sub (lin1 (c1:=1) (by grind -lia) h.2)
  rw [e1,e2]
theorem opp_neg (x y:Fin p):Opp x (-y) x y:=⟨by grind -lia,by grind -lia⟩
theorem opp_neg' (x y:Fin p):Opp x y x (-y):=⟨by grind -lia,by grind -lia⟩
theorem Pt.neg_neg (A:Pt p):A.neg.neg = A:=by
  cases A with
  | inf=>rfl
  | aff x y=>simp only [Pt.neg]; congr 1; grind -lia
theorem Add.cancel {a b:Fin p} (hf:Fine a b) {B C E:Pt p} (hB:On a b B) (h:Add a B C E):Add a B.neg E C:=by
  cases h with
  | left q=>exact .left _
  | right q =>
    cases B with
    | inf=>exact .right _
    | aff x y=>exact .opp (opp_neg x y)
  | opp h=>rw [h.eq]; exact .right _
  | @line x2 y2 x3 y3 m x y hn hs hx hy =>
    obtain ⟨h1,h2⟩:=hs
    have ht:-m*(-y2+y)-(x2*x2+x2*x+x*x+a) = 0:=by
      clear hB hn
      obtain rfl:y3 = y2-m*(x2-x3):=eq_of_sub (lin1 (c1:=1) (by clear h1 h2 hx hy; grind -lia) h1)
      obtain rfl:=eq_of_sub hx
      obtain rfl:=eq_of_sub hy
      exact lin1 (c1:=1) (by clear h1 h2 hx hy; grind -lia) h2
    refine .line (-m) x3 y3 ?_ ⟨?_,ht⟩ ?_ ?_
    · rintro ⟨o1,o2⟩
      obtain rfl:=eq_of_sub o1
      have e1:y2+y2 = 0:=lin2 (c1:=-1) (c2:=1) (by clear h1 h2 hx hy hB hn ht o1 o2; grind -lia) o2 hy
      have e2:=hf.two _ e1
      subst e2
      have e3:y = 0:=by
        have:y-0 = 0:=lin1 (c1:=1) (by clear h1 h2 hx hy hB hn ht o1 o2 e1; grind -lia) o2
        exact eq_of_sub this
      subst e3
      exact hf.sing _ hB (lin1 (c1:=-1) (by clear h1 h2 hx hy hB hn ht o1 o2 e1; grind -lia) ht)
    · exact lin1 (c1:=1) (by clear h1 h2 hx hB hn ht hy; grind -lia) hy
    · exact lin1 (c1:=1) (by clear h1 h2 hx hB hn ht hy; grind -lia) hx
    · exact lin1 (c1:=1) (by clear h1 h2 hx hB hn ht hy; grind -lia) h1
theorem Add.neg {a:Fin p} {A B R:Pt p} (h:Add a A B R):Add a A.neg B.neg R.neg:=by
  cases h with
  | left q=>exact .left _
  | right q=>exact .right _
  | opp h=>exact .opp ⟨h.1,lin1 (c1:=-1) (by grind -lia) h.2⟩
  | @line x1 y1 x2 y2 l x y hn hs hx hy =>
    refine .line (-l) x (-y) (fun h=>hn ⟨h.1,lin1 (c1:=-1) (by grind -lia) h.2⟩) ⟨lin1 (c1:=-1) (by clear hn hx hy; grind -lia) hs.1,lin1 (c1:=1) (by clear hn hx hy; grind -lia) hs.2⟩ ?_ ?_
    · exact lin1 (c1:=1) (by clear hn hx hy hs; grind -lia) hx
    · exact lin1 (c1:=-1) (by clear hn hx hy hs; grind -lia) hy
theorem neg_on {a b:Fin p} {A:Pt p} (h:On a b A):On a b A.neg:=by
  cases A with
  | inf=>trivial
  | aff x y =>
    simp only [On,Pt.neg] at h ⊢
    exact lin1 (c1:=1) (by clear h; grind -lia) h
theorem add_neg (a:Fin p) (A:Pt p):Add a A A.neg .inf:=by
  cases A with
  | inf=>exact .left _
  | aff x y=>exact .opp (opp_neg' x y)
theorem Add.assoc {a b:Fin p} (hf:Fine a b) {A B C D E R S:Pt p} (hA:On a b A) (hB:On a b B) (hC:On a b C) (h1:Add a A B D) (h2:Add a D C R) (h3:Add a B C E) (h4:Add a A E S):R = S:=by
  have hd:=hf.dom
  have hnA:∀ {A' B' D':Pt p},Add a A' B' D'→On a b A'→On a b B'→Add a B' D'.neg A'.neg:=by
    intro A' B' D' h hA hB
    have:=(Add.cancel hf hB h.symm).neg
    rwa [Pt.neg_neg] at this
  cases h1 with
  | left q =>
    have:=h2.unique hd h3
    subst this
    cases h4 <;> rfl
  | right q =>
    cases h3 <;> exact h2.unique hd h4
  | @opp x1 y1 x2 y2 h =>
    have e:R = C:=by cases h2 <;> rfl
    subst e
    have e2:=Add.cancel hf hB h3
    have e3:(Pt.aff x2 y2).neg = .aff x1 y1:=by
      have:=h.symm.eq
      simp only [Pt.neg]; exact this.symm
    rw [e3] at e2
    exact e2.unique hd h4
  | @line x1 y1 x2 y2 l x4 y4 hn hs hx hy =>
    have hAB:Add a (.aff x1 y1) (.aff x2 y2) (.aff x4 y4):=.line l x4 y4 hn hs hx hy
    cases h3 with
    | right q =>
      have e:R = .aff x4 y4:=by cases h2; rfl
      subst e
      exact hAB.unique hd h4
    | @opp _ _ x3 y3 h =>
      have e:S = .aff x1 y1:=by cases h4; rfl
      subst e
      have e2:=Add.cancel hf hB hAB.symm
      rw [show (Pt.aff x2 y2).neg = .aff x3 y3 from h.eq.symm] at e2
      exact h2.unique hd e2.symm
    | @line _ _ x3 y3 m x6 y6 hn' hs' hx' hy' =>
      have hBC:Add a (.aff x2 y2) (.aff x3 y3) (.aff x6 y6):=.line m x6 y6 hn' hs' hx' hy'
      cases h2 with
      | opp h =>
        have e:=hnA hAB hA hB
        rw [show (Pt.aff x4 y4).neg = .aff x3 y3 from h.eq.symm] at e
        have e2:=e.unique hd hBC
        rw [← e2] at h4
        exact (add_neg a _).unique hd h4
      | @line _ _ _ _ s xr yr ns ss hxr hyr =>
        cases h4 with
        | opp h =>
          have e:=Add.cancel hf hB hBC
          have e1:=e.neg
          rw [Pt.neg_neg,show (Pt.aff x6 y6).neg = Pt.aff x1 y1 from h.symm.eq.symm] at e1
          have e2:=hAB.unique hd e1.symm
          exact absurd (show Opp x4 y4 x3 y3 by injection e2 with e3 e4; rw [e3,e4]; exact opp_neg _ _) ns
        | @line _ _ _ _ t xs ys nt st hxs hys =>
          by_cases hlm:l-m = 0
          · obtain rfl:=eq_of_sub hlm
            clear hlm
            have hz:(x1-x3)*(x1+x3+x2-l*l) = 0:=by
              obtain rfl:y1 = y2+l*(x1-x2):=eq_of_sub (lin1 (c1:=-1) (by clear hA hB hC hAB hBC hn hs hx hy hn' hs' hx' hy' ns ss hxr hyr nt st hxs hys; grind -lia) hs.1)
              obtain rfl:y3 = y2-l*(x2-x3):=eq_of_sub (lin1 (c1:=1) (by clear hA hB hC hAB hBC hn hs hx hy hn' hs' hx' hy' ns ss hxr hyr nt st hxs hys; grind -lia) hs'.1)
              exact lin2 (c1:=-1) (c2:=1) (by clear hA hB hC hAB hBC hn hs hx hy hn' hs' hx' hy' ns ss hxr hyr nt st hxs hys; grind -lia) hs.2 hs'.2
            rcases hd _ _ hz with h|h
            · have hac : (Pt.aff x3 y3) = .aff x1 y1 := by
                obtain rfl:=eq_of_sub h
                have:y3-y1 = 0:=lin2 (c1:=1) (c2:=1) (by clear hA hB hC hAB hBC hn hs hx hy hn' hs' hx' hy' ns ss hxr hyr nt st hxs hys hz h; grind -lia) hs.1 hs'.1
                rw [eq_of_sub this]
              have h2':Add a (.aff x4 y4) (.aff x3 y3) (.aff xr yr):=.line s xr yr ns ss hxr hyr
              have h4':Add a (.aff x1 y1) (.aff x6 y6) (.aff xs ys):=.line t xs ys nt st hxs hys
              rw [hac] at hBC h2'
              have e:=hAB.symm.unique hd hBC
              rw [e] at h2'
              exact h2'.symm.unique hd h4'
            · have h':x4-x3 = 0:=lin2 (c1:=1) (c2:=-1) (by clear hA hB hC hAB hBC hn hs hx hy hn' hs' hx' hy' ns ss hxr hyr nt st hxs hys hz h; grind -lia) hx h
              exact absurd (show Opp x4 y4 x3 y3 from ⟨h',lin4 (c1:=1) (c2:=1) (c3:=1) (c4:=-l) (by clear hA hB hC hAB hBC hn hs hx hy hn' hs' hx' hy' ns ss hxr hyr nt st hxs hys hz h; clear h'; grind -lia) hy hs.1 hs'.1 h'⟩) ns
          · have e1:=slope_next hd hs hs'.symm hx hy ss.symm hlm (fun h=>ns h.symm)
            have hs3:Slope a x3 y3 x2 y2 m:=hs'.symm
            have hx3:x6-(m*m-x3-x2) = 0:=lin1 (c1:=1) (by clear hA hB hC hAB hBC hn hs hx hy hn' hs' hx' hy' ns ss hxr hyr nt st hxs hys hlm; grind -lia) hx'
            have hy3:y6-(m*(x3-x6)-y3) = 0:=lin2 (c1:=1) (c2:=1) (by clear hA hB hC hAB hBC hn hs hx hy hn' hs' hx' hy' ns ss hxr hyr nt st hxs hys hlm; clear hx3; grind -lia) hy' hs'.1
            have hml:m-l≠0:=fun e=>hlm (lin1 (c1:=-1) (by clear hA hB hC hAB hBC hn hs hx hy hn' hs' hx' hy' ns ss hxr hyr nt st hxs hys hlm; clear hx3 hy3 e; grind -lia) e)
            have e2:=slope_next hd hs3 hs hx3 hy3 st hml nt
            have e3:s = t+m-l:=by
              refine hd.cancel hlm (lin2 (c1:=1) (c2:=1) (by clear hA hB hC hAB hBC hn hs hx hy hn' hs' hx' hy' ns ss hxr hyr nt st hxs hys hlm; clear hx3 hy3 hml e1 e2; grind -lia) (sub_of_eq e1) (sub_of_eq e2))
            have e4:=sub_of_eq e2
            clear e1 e2 hx3 hy3 hml hs3
            subst e3
            have z0:=lin2 (c1:=1) (c2:=2) rfl hx' e4
            have hxx:xr = xs:=eq_of_sub (lin4 (c1:=1) (c2:=-1) (c3:=-1) (c4:=1) (by clear hA hB hC hAB hBC hn hs hx hy hn' hs' hx' hy' ns ss hxr hyr nt st hxs hys hlm e4; clear z0; grind -lia) hxr hxs hx z0)
            clear z0
            subst hxx
            have z1:=lin4 (c1:=1) (c2:=-1) (c3:=1) (c4:=-1) rfl hyr hys ss.1 hs.1
            have z2:=lin4 (c1:=-1) (c2:=m-l) (c3:=-(m-l)) (c4:=-(t-m)) rfl hs'.1 hx' hxs e4
            have hyy:yr = ys:=eq_of_sub (lin2 (c1:=1) (c2:=1) (by clear hA hB hC hAB hBC hn hs hx hy hn' hs' hx' hy' ns ss hxr hyr nt st hxs hys hlm e4; clear z1 z2; grind -lia) z1 z2)
            rw [hyy]
end
end Go.Proofs.Ytlmiolnccgjjjaa.Grp
set_option linter.unusedVariables false
namespace Go.Proofs.Ytlmiolnccgjjjaa.Grp
section
variable {p:Nat} [NeZero p]
def sum3 (A T X1 Y1 Z1 X2 Y2 Z2:Fin p):Fin p×Fin p×Fin p :=
  let t0:=X1*X2
  let t1:=Y1*Y2
  let t2:=Z1*Z2
  let t3:=(X1+Y1)*(X2+Y2)-(t0+t1)
  let t4:=(X1+Z1)*(X2+Z2)-(t0+t2)
  let t5:=(Y1+Z1)*(Y2+Z2)-(t1+t2)
  let z:=T*t2+A*t4
  let x:=t1-z
  let z:=t1+z
  let y:=x*z
  let t1:=t0+t0+t0
  let t2:=A*t2
  let t4:=T*t4
  let t1:=t1+t2
  let t2:=A*(t0-t2)
  let t4:=t4+t2
  let y:=y+t1*t4
  let x:=t3*x-t5*t4
  let z:=t5*z+t3*t1
  (x,y,z)
inductive Rep:Fin p→Fin p→Fin p→Pt p→Prop where
  | inf {Y:Fin p}:Y≠0→Rep 0 Y 0 .inf
  | aff {Z:Fin p} (x y:Fin p):Z≠0→Rep (x*Z) (y*Z) Z (.aff x y)
theorem sum3_scale (A T x1 y1 Z1 x2 y2 Z2 : Fin p) : sum3 A T (x1 * Z1) (y1 * Z1) Z1 (x2 * Z2) (y2 * Z2) Z2 =
    ((sum3 A T x1 y1 1 x2 y2 1).1*(Z1*Z1*(Z2*Z2)),(sum3 A T x1 y1 1 x2 y2 1).2.1*(Z1*Z1*(Z2*Z2)),(sum3 A T x1 y1 1 x2 y2 1).2.2*(Z1*Z1*(Z2*Z2))):=by
  simp only [sum3]
  refine Prod.ext ?_ (Prod.ext ?_ ?_)
  · dsimp only; grind -lia
  · dsimp only; grind -lia
  · dsimp only; grind -lia
theorem sum3_line {x1 x2 y2 l A B : Fin p} (hA : A = l * (y2 + l * (x1 - x2) + y2) - (x1 * x1 + x1 * x2 + x2 * x2)) (hB : B = (y2 + l * (x1 - x2)) * (y2 + l * (x1 - x2)) - x1 * x1 * x1 - A * x1) :
    (sum3 A (B+B+B) x1 (y2+l*(x1-x2)) 1 x2 y2 1).1 = (l*l-x1-x2)*(sum3 A (B+B+B) x1 (y2+l*(x1-x2)) 1 x2 y2 1).2.2 ∧
    (sum3 A (B+B+B) x1 (y2+l*(x1-x2)) 1 x2 y2 1).2.1 = (l*(x1-(l*l-x1-x2))-(y2+l*(x1-x2)))*(sum3 A (B+B+B) x1 (y2+l*(x1-x2)) 1 x2 y2 1).2.2 ∧
    (sum3 A (B+B+B) x1 (y2+l*(x1-x2)) 1 x2 y2 1).2.2 = -((y2+l*(x1-x2)+y2)*(x1*(x1-x2)*(x1-x2)-((y2+l*(x1-x2)+y2)*(y2+l*(x1-x2)+y2)-(x1+x2)*((x1-x2)*(x1-x2))))-(y2+l*(x1-x2))*((x1-x2)*(x1-x2)*(x1-x2))):=by
  subst hB hA
  simp only [sum3]
  refine ⟨?_,?_,?_⟩ <;> grind -lia
theorem sum3_opp {x y A B : Fin p} (hB : B = y * y - x * x * x - A * x) : sum3 A (B + B + B) x y 1 x (-y) 1 =
    (0,-(8*(y*y*(y*y))-12*x*(y*y)*(3*(x*x)+A)+(3*(x*x)+A)*(3*(x*x)+A)*(3*(x*x)+A)),0):=by
  subst hB
  simp only [sum3]
  refine Prod.ext ?_ (Prod.ext ?_ ?_)
  · dsimp only; grind -lia
  · dsimp only; grind -lia
  · dsimp only; grind -lia
theorem sum3_left (A T Y1 x2 y2 Z2:Fin p):sum3 A T 0 Y1 0 (x2*Z2) (y2*Z2) Z2 = (x2*(Y1*Y1*(y2*Z2)*Z2),y2*(Y1*Y1*(y2*Z2)*Z2),Y1*Y1*(y2*Z2)*Z2):=by
  simp only [sum3]
  refine Prod.ext ?_ (Prod.ext ?_ ?_)
  · dsimp only; grind -lia
  · dsimp only; grind -lia
  · dsimp only; grind -lia
theorem sum3_right (A T Y1 x2 y2 Z2:Fin p):sum3 A T (x2*Z2) (y2*Z2) Z2 0 Y1 0 = (x2*(Y1*Y1*(y2*Z2)*Z2),y2*(Y1*Y1*(y2*Z2)*Z2),Y1*Y1*(y2*Z2)*Z2):=by
  simp only [sum3]
  refine Prod.ext ?_ (Prod.ext ?_ ?_)
  · dsimp only; grind -lia
  · dsimp only; grind -lia
  · dsimp only; grind -lia
theorem sum3_none (A T Y1 Y2:Fin p):sum3 A T 0 Y1 0 0 Y2 0 = (0,Y1*Y2*(Y1*Y2),0):=by
  simp only [sum3]
  refine Prod.ext ?_ (Prod.ext ?_ ?_)
  · dsimp only; grind -lia
  · dsimp only; grind -lia
  · dsimp only; grind -lia
theorem Dom.mul (hd:Dom p) {x y:Fin p} (hx:x≠0) (hy:y≠0):x*y≠0:=fun h=>(hd _ _ h).elim hx hy
theorem neg_ne {x : Fin p} (h : x ≠ 0) : -x ≠ 0 := fun e => h (by have : x = -(-x) := by grind -lia
                                                                  rw [this,e]; grind -lia)
structure Good (a b:Fin p):Prop where
  dom:Dom p
  inv:∀ x:Fin p,x≠0→∃ y,x*y = 1
  two:∀ y:Fin p,y+y = 0→y = 0
  root:∀ x:Fin p,¬ On a b (.aff x 0)
theorem Good.fine {a b:Fin p} (h:Good a b):Fine a b:=⟨h.dom,h.two,fun x hx _=>h.root x hx⟩
theorem Good.y_ne {a b x y:Fin p} (h:Good a b) (hP:On a b (.aff x y)):y≠0:=fun e=>h.root x (e ▸ hP)
theorem Good.quot {a b:Fin p} (h:Good a b) {x:Fin p} (hx:x≠0) (y:Fin p):∃ l,l*x = y:=by
  obtain ⟨i,hi⟩:=h.inv x hx
  refine ⟨y*i,?_⟩
  have e:y*i*x = y*(x*i):=by clear hi; grind -lia
  rw [e,hi]; clear hi e; grind -lia
theorem Good.sum {a b:Fin p} (h:Good a b) {A B:Pt p} (hA:On a b A) (hB:On a b B):∃ R,Add a A B R:=by
  cases A with
  | inf=>exact ⟨_,.left _⟩
  | aff x1 y1=>cases B with
    | inf=>exact ⟨_,.right _⟩
    | aff x2 y2 =>
      by_cases ho:Opp x1 y1 x2 y2
      · exact ⟨_,.opp ho⟩
      · have key : ∃ l, Slope a x1 y1 x2 y2 l := by
          simp only [On] at hA hB
          by_cases hx:x1-x2 = 0
          · have hs:y1+y2≠0:=fun e=>ho ⟨hx,e⟩
            obtain ⟨l,hl⟩:=h.quot hs (x1*x1+x1*x2+x2*x2+a)
            refine ⟨l,?_,sub_of_eq hl⟩
            obtain rfl:=eq_of_sub hx
            have e:(y1-y2)*(y1+y2) = 0:=lin2 (c1:=1) (c2:=-1) (by clear hl hs hx ho hA hB; grind -lia) hA hB
            have e2:y1-y2 = 0:=(h.dom _ _ e).elim id (fun e=>absurd e hs)
            exact lin1 (c1:=-1) (by clear hl hs hx ho hA hB e e2; grind -lia) e2
          · obtain ⟨l,hl⟩:=h.quot hx (y1-y2)
            refine ⟨l,sub_of_eq hl,?_⟩
            have e:(l*(y1+y2)-(x1*x1+x1*x2+x2*x2+a))*(x1-x2) = 0:=lin3 (c1:=y1+y2) (c2:=1) (c3:=-1) (by clear hl hx ho hA hB; grind -lia) (sub_of_eq hl) hA hB
            exact (h.dom _ _ e).elim id (fun e=>absurd e hx)
        obtain ⟨l,hl⟩:=key
        exact ⟨_,.line l (l*l-x1-x2) (l*(x1-(l*l-x1-x2))-y1) ho hl (by clear hl ho hA hB; grind -lia) (by clear hl ho hA hB; grind -lia)⟩
theorem rep_scale {X Y Z k:Fin p} {P:Pt p} (hd:Dom p) (h:Rep X Y Z P) (hk:k≠0):Rep (X*k) (Y*k) (Z*k) P:=by
  cases h with
  | inf h =>
    have e:(0:Fin p)*k = 0:=by clear h hk; grind -lia
    rw [e]
    exact .inf (hd.mul h hk)
  | aff x y h =>
    have e1:x*Z*k = x*(Z*k):=by clear h hk; grind -lia
    have e2:y*Z*k = y*(Z*k):=by clear h hk; grind -lia
    rw [e1,e2]
    exact .aff x y (hd.mul h hk)
theorem Rep.sum {a b X1 Y1 Z1 X2 Y2 Z2 : Fin p} (h : Good a b) {P Q R : Pt p} (hP : Rep X1 Y1 Z1 P) (hQ : Rep X2 Y2 Z2 Q) (oP : On a b P) (oQ : On a b Q) (hR : Add a P Q R) :
    Rep (sum3 a (b+b+b) X1 Y1 Z1 X2 Y2 Z2).1 (sum3 a (b+b+b) X1 Y1 Z1 X2 Y2 Z2).2.1 (sum3 a (b+b+b) X1 Y1 Z1 X2 Y2 Z2).2.2 R:=by
  have hd:=h.dom
  cases hP with
  | inf h1=>cases hQ with
    | inf h2 =>
      have e:R = .inf:=by cases hR <;> rfl
      subst e
      rw [sum3_none]
      exact .inf (hd.mul (hd.mul h1 h2) (hd.mul h1 h2))
    | aff x2 y2 h2 =>
      have e:R = .aff x2 y2:=by cases hR; rfl
      subst e
      rw [sum3_left]
      exact .aff x2 y2 (hd.mul (hd.mul (hd.mul h1 h1) (hd.mul (h.y_ne oQ) h2)) h2)
  | aff x1 y1 h1=>cases hQ with
    | inf h2 =>
      have e:R = .aff x1 y1:=by cases hR; rfl
      subst e
      rw [sum3_right]
      exact .aff x1 y1 (hd.mul (hd.mul (hd.mul h2 h2) (hd.mul (h.y_ne oP) h1)) h1)
    | aff x2 y2 h2 =>
      rw [sum3_scale]
      refine rep_scale hd ?_ (hd.mul (hd.mul h1 h1) (hd.mul h2 h2))
      have hb:=oP
      simp only [On] at hb
      cases hR with
      | opp ho =>
        have e:=ho.eq
        injection e with e1 e2
        subst e1 e2
        have hB:b = y1*y1-x2*x2*x2-a*x2:=eq_of_sub (lin1 (c1:=-1) (by clear hb ho oP oQ h1 h2; grind -lia) hb)
        rw [sum3_opp hB]
        refine .inf (neg_ne ?_)
        intro hV
        have hy:=h.y_ne oP
        have hyy:y1+y1≠0:=fun e=>hy (h.two _ e)
        obtain ⟨l,hl⟩:=h.quot hyy (3*(x2*x2)+a)
        have hs:Slope a x2 y1 x2 y1 l:=⟨by clear hl hV hB hb; grind -lia,lin1 (c1:=1) (by clear hl hV hB hb; grind -lia) (sub_of_eq hl)⟩
        have hA:Add a (.aff x2 y1) (.aff x2 y1) (.aff (l*l-x2-x2) (l*(x2-(l*l-x2-x2))-y1)):=.line l _ _ (fun e=>hyy e.2) hs (by clear hl hV hB hb; grind -lia) (by clear hl hV hB hb; grind -lia)
        have hO:=hA.on oP oP
        have hy4:=h.y_ne hO
        apply hd.mul hy4 (hd.mul hyy (hd.mul hyy hyy))
        have hl':=hl.symm
        rw [hl'] at hV
        refine lin1 (c1:=-1) ?_ hV
        clear hV hl' hl hB hb hs hA hO hy4 hyy hy oP oQ ho
        grind -lia
      | line l x y hn hs hx hy =>
        obtain rfl:=eq_of_sub hx
        obtain rfl:=eq_of_sub hy
        have hs1:=hs.chord
        have hs2:=hs.tang
        obtain rfl:y1 = y2+l*(x1-x2):=eq_of_sub (lin1 (c1:=-1) (by clear hs1 hs2 hb hx hy oP oQ; grind -lia) hs1)
        have hA:a = l*(y2+l*(x1-x2)+y2)-(x1*x1+x1*x2+x2*x2):=eq_of_sub (lin1 (c1:=-1) (by clear hs1 hs2 hb hx hy oP oQ; grind -lia) hs2)
        have hB:b = (y2+l*(x1-x2))*(y2+l*(x1-x2))-x1*x1*x1-a*x1:=eq_of_sub (lin1 (c1:=-1) (by clear hs1 hs2 hb hx hy oP oQ hA; grind -lia) hb)
        obtain ⟨e1,e2,e3⟩:=sum3_line hA hB
        rw [e1,e2]
        refine .aff _ _ ?_
        rw [e3]
        refine neg_ne ?_
        clear e1 e2 e3
        by_cases hxx:x1-x2 = 0
        · have hss:y2+l*(x1-x2)+y2≠0:=fun e=>hn ⟨hxx,e⟩
          intro hV
          obtain rfl:=eq_of_sub hxx
          apply hd.mul hss (hd.mul hss hss)
          refine lin1 (c1:=-1) ?_ hV
          clear hV hss hA hB hb hs hs1 hs2 hx hy oP oQ hxx hn
          grind -lia
        · obtain ⟨n,hn'⟩:=h.quot hxx (y2+l*(x1-x2)+y2)
          have oQ':On a b (.aff x2 (-y2)):=neg_on oQ
          have hs':Slope a x1 (y2+l*(x1-x2)) x2 (-y2) n:=by
            have c1:n*(x1-x2)-(y2+l*(x1-x2) - -y2) = 0:=lin1 (c1:=1) (by clear hn' hA hB hb hs hs1 hs2 hx hy oP oQ oQ' hxx hn; grind -lia) (sub_of_eq hn')
            refine ⟨c1,?_⟩
            have e:(n*(y2+l*(x1-x2)+-y2)-(x1*x1+x1*x2+x2*x2+a))*(x1-x2) = 0:=lin2 (c1:=l*(x1-x2)) (c2:=x1-x2) (by clear hn' hA hB hb hs hs1 hs2 hx hy oP oQ oQ' hxx hn; grind -lia) (sub_of_eq hn') hs2
            exact (hd _ _ e).elim id (fun e=>absurd e hxx)
          have hA':Add a (.aff x1 (y2+l*(x1-x2))) (.aff x2 (-y2)) (.aff (n*n-x1-x2) (n*(x1-(n*n-x1-x2))-(y2+l*(x1-x2)))):=.line n _ _ (fun e=>hxx e.1) hs' (by clear hn' hA hB hb hs hs1 hs2 hx hy oP oQ oQ' hxx hn hs'; grind -lia) (by clear hn' hA hB hb hs hs1 hs2 hx hy oP oQ oQ' hxx hn hs'; grind -lia)
          have hO:=hA'.on oP oQ'
          have hy4:=h.y_ne hO
          intro hV
          apply hd.mul hy4 (hd.mul hxx (hd.mul hxx hxx))
          rw [← hn'] at hV
          refine lin1 (c1:=1) ?_ hV
          clear hV hA hB hb hs hs1 hs2 hx hy oP oQ oQ' hxx hn hs' hA' hO hy4 hn'
          grind -lia
end
end Go.Proofs.Ytlmiolnccgjjjaa.Grp
set_option linter.unusedVariables false
set_option linter.unusedSectionVars false
namespace Go.Proofs.Ytlmiolnccgjjjaa.Grp
section
def Pr (p:Nat):Prop:=2≤p∧∀ d,d ∣ p→d = 1∨d = p
theorem bez (a m:Nat):∃ s t:Int,(a:Int)*s+(m:Int)*t = ((Nat.gcd a m:Nat):Int):=by
  induction a,m using Nat.gcd.induction with
  | H0 n=>exact ⟨0,1,by simp⟩
  | H1 m n hm ih =>
    obtain ⟨s,t,h⟩:=ih
    refine ⟨t-((n/m:Nat):Int)*s,s,?_⟩
    rw [Nat.gcd_rec m n,← h]
    have e:((n:Nat):Int) = (m:Int)*((n/m:Nat):Int)+((n%m:Nat):Int):=by
      rw [← Int.natCast_mul,← Int.natCast_add,Nat.div_add_mod]
    generalize ((n/m:Nat):Int) = q at *
    generalize ((n%m:Nat):Int) = r at *
    rw [e]
    grind
theorem inv_mod {a m:Nat} (h:Nat.gcd a m = 1) (hm:1<m):∃ s,s<m∧a*s%m = 1:=by
  obtain ⟨s,t,e⟩:=bez a m
  rw [h] at e
  have hm':(m:Int)≠0:=by omega
  refine ⟨(s%(m:Int)).toNat,?_,?_⟩
  · have:=Int.emod_lt_of_pos s (show (0:Int)<m by omega)
    have:=Int.emod_nonneg s hm'
    omega
  · have h0:=Int.emod_nonneg s hm'
    have h1:((a*(s%(m:Int)).toNat%m:Nat):Int) = 1:=by
      rw [Int.natCast_emod,Int.natCast_mul,Int.toNat_of_nonneg h0,Int.mul_emod,Int.emod_emod,← Int.mul_emod]
      have e2:(a:Int)*s = 1+(m:Int)*(-t):=by
        rw [Int.mul_neg]; simp at e; omega
      rw [e2,Int.add_mul_emod_self_left]
      exact Int.emod_eq_of_lt (by decide) (by omega)
    omega
theorem Pr.cop {p x:Nat} (h:Pr p) (hx:¬ p ∣ x):Nat.gcd x p = 1:=by
  rcases h.2 _ (Nat.gcd_dvd_right x p) with e|e
  · exact e
  · exact absurd (e ▸ Nat.gcd_dvd_left x p) hx
theorem Pr.mul {p x y:Nat} (h:Pr p) (hd:p ∣ x*y):p ∣ x∨p ∣ y:=by
  by_cases hx:p ∣ x
  · exact .inl hx
  · refine .inr (Nat.Coprime.dvd_of_dvd_mul_left ?_ hd)
    rw [Nat.coprime_comm]
    exact h.cop hx
variable {p:Nat} [NeZero p]
structure Fld (p:Nat) [NeZero p]:Prop where
  dom:Dom p
  inv:∀ x:Fin p,x≠0→∃ y,x*y = 1
  two:∀ y:Fin p,y+y = 0→y = 0
theorem Pr.fld (h:Pr p) (h2:p≠2):Fld p:=by
  have hp:=h.1
  have zero_of:∀ x:Fin p,p ∣ x.val→x = 0:=fun x hx=>by
    apply Fin.ext
    rw [Fin.val_zero]
    exact Nat.eq_zero_of_dvd_of_lt hx x.isLt
  refine ⟨fun x y e=>?_,fun x hx=>?_,fun y e=>?_⟩
  · have e1:x.val*y.val%p = 0:=by rw [← Fin.val_mul,e,Fin.val_zero]
    exact (h.mul (Nat.dvd_of_mod_eq_zero e1)).imp (zero_of x) (zero_of y)
  · obtain ⟨s,hs,e⟩:=inv_mod (a:=x.val) (h.cop (fun hd=>hx (zero_of x hd))) (show 1<p by omega)
    refine ⟨⟨s,hs⟩,Fin.ext ?_⟩
    rw [Fin.val_mul]
    show x.val*s%p = _
    rw [e]
    have:(1:Fin p).val = 1%p:=rfl
    rw [this,Nat.mod_eq_of_lt (by omega)]
  · have e1:(y.val+y.val)%p = 0:=by rw [← Fin.val_add,e,Fin.val_zero]
    have e2:p ∣ 2*y.val:=by rw [Nat.two_mul]; exact Nat.dvd_of_mod_eq_zero e1
    rcases h.mul e2 with e3|e3
    · have:=Nat.le_of_dvd (by decide) e3
      exact absurd (show p = 2 by omega) h2
    · exact zero_of y e3
structure Crv (a b:Fin p):Prop where
  fld:Fld p
  sing:∀ x:Fin p,On a b (.aff x 0)→x*x+x*x+x*x+a = 0→False
theorem Crv.fine {a b:Fin p} (h:Crv a b):Fine a b:=⟨h.fld.dom,h.fld.two,h.sing⟩
theorem Fld.quot (h:Fld p) {x:Fin p} (hx:x≠0) (y:Fin p):∃ l,l*x = y:=by
  obtain ⟨i,hi⟩:=h.inv x hx
  refine ⟨y*i,?_⟩
  have e:y*i*x = y*(x*i):=by clear hi; grind -lia
  rw [e,hi]; clear hi e; grind -lia
theorem Fld.sum (h:Fld p) {a b:Fin p} {A B:Pt p} (hA:On a b A) (hB:On a b B):∃ R,Add a A B R:=by
  cases A with
  | inf=>exact ⟨_,.left _⟩
  | aff x1 y1=>cases B with
    | inf=>exact ⟨_,.right _⟩
    | aff x2 y2 =>
      by_cases ho:Opp x1 y1 x2 y2
      · exact ⟨_,.opp ho⟩
      · have key : ∃ l, Slope a x1 y1 x2 y2 l := by
          simp only [On] at hA hB
          by_cases hx:x1-x2 = 0
          · have hs:y1+y2≠0:=fun e=>ho ⟨hx,e⟩
            obtain ⟨l,hl⟩:=h.quot hs (x1*x1+x1*x2+x2*x2+a)
            refine ⟨l,?_,sub_of_eq hl⟩
            obtain rfl:=eq_of_sub hx
            have e:(y1-y2)*(y1+y2) = 0:=lin2 (c1:=1) (c2:=-1) (by clear hl hs hx ho hA hB; grind -lia) hA hB
            have e2:y1-y2 = 0:=(h.dom _ _ e).elim id (fun e=>absurd e hs)
            exact lin1 (c1:=-1) (by clear hl hs hx ho hA hB e e2; grind -lia) e2
          · obtain ⟨l,hl⟩:=h.quot hx (y1-y2)
            refine ⟨l,sub_of_eq hl,?_⟩
            have e:(l*(y1+y2)-(x1*x1+x1*x2+x2*x2+a))*(x1-x2) = 0:=lin3 (c1:=y1+y2) (c2:=1) (c3:=-1) (by clear hl hx ho hA hB; grind -lia) (sub_of_eq hl) hA hB
            exact (h.dom _ _ e).elim id (fun e=>absurd e hx)
        obtain ⟨l,hl⟩:=key
        exact ⟨_,.line l (l*l-x1-x2) (l*(x1-(l*l-x1-x2))-y1) ho hl (by clear hl ho hA hB; grind -lia) (by clear hl ho hA hB; grind -lia)⟩
instance:Nonempty (Pt p):=⟨.inf⟩
noncomputable def padd (a:Fin p) (A B:Pt p):Pt p:=Classical.epsilon (fun R=>Add a A B R)
theorem padd_spec (h:Fld p) {a b:Fin p} {A B:Pt p} (hA:On a b A) (hB:On a b B):Add a A B (padd a A B):=Classical.epsilon_spec (h.sum hA hB)
theorem padd_eq (h:Fld p) {a b:Fin p} {A B R:Pt p} (hA:On a b A) (hB:On a b B) (hR:Add a A B R):padd a A B = R:=(padd_spec h hA hB).unique h.dom hR
theorem padd_on (h:Fld p) {a b:Fin p} {A B:Pt p} (hA:On a b A) (hB:On a b B):On a b (padd a A B):=(padd_spec h hA hB).on hA hB
theorem padd_comm (h:Fld p) {a b:Fin p} {A B:Pt p} (hA:On a b A) (hB:On a b B):padd a A B = padd a B A:=padd_eq h hA hB (padd_spec h hB hA).symm
theorem padd_assoc {a b:Fin p} (h:Crv a b) {A B C:Pt p} (hA:On a b A) (hB:On a b B) (hC:On a b C):padd a (padd a A B) C = padd a A (padd a B C) :=
  Add.assoc h.fine hA hB hC (padd_spec h.fld hA hB) (padd_spec h.fld (padd_on h.fld hA hB) hC) (padd_spec h.fld hB hC) (padd_spec h.fld hA (padd_on h.fld hB hC))
theorem padd_inf (h:Fld p) {a b:Fin p} {A:Pt p} (hA:On a b A):padd a A .inf = A:=padd_eq h hA (b:=b) trivial (.right _)
theorem inf_padd (h:Fld p) {a b:Fin p} {A:Pt p} (hA:On a b A):padd a .inf A = A:=padd_eq h (b:=b) trivial hA (.left _)
theorem padd_neg (h:Fld p) {a b:Fin p} {A:Pt p} (hA:On a b A):padd a A A.neg = .inf:=padd_eq h hA (neg_on hA) (add_neg a A)
theorem padd_cancel {a b:Fin p} (h:Crv a b) {A B C:Pt p} (hA:On a b A) (hB:On a b B) (hC:On a b C) (e:padd a A C = padd a B C):A = B:=by
  have e1:=congrArg (fun X=>padd a X C.neg) e
  simp only [padd_assoc h hA hC (neg_on hC),padd_assoc h hB hC (neg_on hC),padd_neg h.fld hC,padd_inf h.fld hA,padd_inf h.fld hB] at e1
  exact e1
noncomputable def pmul (a:Fin p) (P:Pt p):Nat→Pt p
  | 0=>.inf
  | k+1=>padd a (pmul a P k) P
theorem pmul_on (h:Fld p) {a b:Fin p} {P:Pt p} (hP:On a b P):∀ k,On a b (pmul a P k)
  | 0=>trivial
  | k+1=>padd_on h (pmul_on h hP k) hP
theorem pmul_one (h:Fld p) {a b:Fin p} {P:Pt p} (hP:On a b P):pmul a P 1 = P:=inf_padd h hP
theorem pmul_add {a b:Fin p} (h:Crv a b) {P:Pt p} (hP:On a b P) (i:Nat):∀ j,pmul a P (i+j) = padd a (pmul a P i) (pmul a P j)
  | 0=>(padd_inf h.fld (pmul_on h.fld hP i)).symm
  | j+1=>by
    show padd a (pmul a P (i+j)) P = _
    rw [pmul_add h hP i j,padd_assoc h (pmul_on h.fld hP i) (pmul_on h.fld hP j) hP]
    rfl
theorem pmul_mul {a b:Fin p} (h:Crv a b) {P:Pt p} (hP:On a b P) (i:Nat):∀ j,pmul a P (i*j) = pmul a (pmul a P i) j
  | 0=>rfl
  | j+1=>by
    rw [Nat.mul_succ,pmul_add h hP,pmul_mul h hP i j]
    rfl
theorem pmul_inf {a b:Fin p} (h:Fld p):∀ j,pmul a (.inf:Pt p) j = .inf
  | 0=>rfl
  | j+1=>by
    show padd a (pmul a .inf j) .inf = _
    rw [pmul_inf (b:=b) h j,padd_inf h (show On a b (.inf:Pt p) from trivial)]
theorem pmul_order {a b:Fin p} (h:Crv a b) {P:Pt p} (hP:On a b P) {q:Nat} (hq:Pr q) (h0:P≠.inf) (hqP:pmul a P q = .inf) {k:Nat} (hk:pmul a P k = .inf):q ∣ k:=by
  refine Classical.byContradiction fun hn=>h0 ?_
  have hq2:=hq.1
  obtain ⟨s,_,hs⟩:=inv_mod (hq.cop hn) (show 1<q by omega)
  have e1:k*s = q*(k*s/q)+1:=by
    have:=Nat.div_add_mod (k*s) q
    omega
  have e2:pmul a P (k*s) = .inf:=by rw [pmul_mul h hP,hk,pmul_inf (b:=b) h.fld]
  rw [e1,pmul_add h hP,pmul_mul h hP,hqP,pmul_inf (b:=b) h.fld,pmul_one h.fld hP,inf_padd h.fld hP] at e2
  exact e2
theorem pmul_inj {a b:Fin p} (h:Crv a b) {P:Pt p} (hP:On a b P) {q:Nat} (hq:Pr q) (h0:P≠.inf) (hqP:pmul a P q = .inf) {i j:Nat} (hj:j<q) (hi:i≤j) (e:pmul a P i = pmul a P j):i = j:=by
  have e1:pmul a P j = padd a (pmul a P (j-i)) (pmul a P i):=by rw [← pmul_add h hP,Nat.sub_add_cancel hi]
  have e2:padd a .inf (pmul a P i) = padd a (pmul a P (j-i)) (pmul a P i):=by rw [inf_padd h.fld (pmul_on h.fld hP i),← e1,e]
  have e3:=padd_cancel h (show On a b (.inf:Pt p) from trivial) (pmul_on h.fld hP _) (pmul_on h.fld hP i) e2
  have e4:=pmul_order h hP hq h0 hqP e3.symm
  have:=Nat.eq_zero_of_dvd_of_lt e4 (by omega)
  omega
theorem doves:∀ (M N:Nat) (f:Nat→Nat),(∀ i,i<N→f i<M)→(∀ i j,i<j→j<N→f i≠f j)→N≤M
  | 0,N,f,h,_=>Nat.le_of_not_lt fun hN=>Nat.not_lt_zero _ (h 0 hN)
  | M+1,N,f,h,hi=>by
    by_cases hex:∃ i0,i0<N∧f i0 = M
    · obtain ⟨i0,h0,e0⟩:=hex
      have:=doves M (N-1) (fun i=>if i<i0 then f i else f (i+1)) (fun i hiN=>by
        split
        · have:=h i (by omega)
          have:=hi i i0 (by omega) h0
          omega
        · have:=h (i+1) (by omega)
          have:=hi i0 (i+1) (by omega) (by omega)
          omega) (fun i j hij hj=>by
        split
        · split
          · exact hi i j hij (by omega)
          · exact hi i (j+1) (by omega) (by omega)
        · split
          · omega
          · exact hi (i+1) (j+1) (by omega) (by omega))
      omega
    · have := doves M N f (fun i hiN => by
        have:=h i hiN
        have:f i≠M:=fun e=>hex ⟨i,hiN,e⟩
        omega) hi
      omega
def pcode:Pt p→Nat
  | .inf=>2*p
  | .aff x y=>2*x.val+(if 2*y.val<p then 0 else 1)
theorem pcode_lt (P:Pt p):pcode P<2*p+1:=by
  cases P with
  | inf=>simp [pcode]
  | aff x y=>have:=x.isLt; simp only [pcode]; split <;> omega
theorem pcode_inj (h:Fld p) {a b:Fin p} {P Q:Pt p} (hP:On a b P) (hQ:On a b Q) (e:pcode P = pcode Q):P = Q:=by
  cases P with
  | inf=>cases Q with
    | inf=>rfl
    | aff x y=>have:=x.isLt; simp only [pcode] at e; split at e <;> omega
  | aff x y=>cases Q with
    | inf=>have:=x.isLt; simp only [pcode] at e; split at e <;> omega
    | aff x' y' =>
      simp only [pcode] at e
      have hx:x = x':=Fin.ext (by split at e <;> split at e <;> omega)
      subst hx
      simp only [On] at hP hQ
      have hm:(y-y')*(y+y') = 0:=lin2 (c1:=1) (c2:=-1) (by clear hP hQ e; grind -lia) hP hQ
      rcases h.dom _ _ hm with h1|h1
      · rw [eq_of_sub h1]
      · have h2:(y.val+y'.val)%p = 0:=by rw [← Fin.val_add,h1,Fin.val_zero]
        have h3:=y.isLt
        have h4:=y'.isLt
        have h5:y.val+y'.val = 0∨y.val+y'.val = p:=by
          rcases Nat.lt_or_ge (y.val+y'.val) p with h6|h6
          · rw [Nat.mod_eq_of_lt h6] at h2; exact .inl h2
          · have:(y.val+y'.val-p)%p = 0:=by rw [← Nat.mod_eq_sub_mod h6]; exact h2
            rw [Nat.mod_eq_of_lt (by omega)] at this
            omega
        have h7:y = y':=Fin.ext (by split at e <;> split at e <;> omega)
        rw [h7]
theorem order_le {a b:Fin p} (h:Crv a b) {P:Pt p} (hP:On a b P) {q:Nat} (hq:Pr q) (h0:P≠.inf) (hqP:pmul a P q = .inf):q≤2*p+1 :=
  doves (2*p+1) q (fun i=>pcode (pmul a P i)) (fun i _=>pcode_lt _) (fun i j hij hj e =>
    absurd (pmul_inj h hP hq h0 hqP hj (Nat.le_of_lt hij) (pcode_inj h.fld (pmul_on h.fld hP i) (pmul_on h.fld hP j) e)) (by omega))
end
end Go.Proofs.Ytlmiolnccgjjjaa.Grp
set_option linter.unusedVariables false
set_option linter.unusedSectionVars false
namespace Go.Proofs.Ytlmiolnccgjjjaa.Grp
section
variable {p:Nat} [NeZero p]
def c (p:Nat) [NeZero p] (k:Nat):Fin p:=Fin.ofNat p k
theorem c_val (k:Nat):(c p k).val = k%p:=rfl
theorem c_add (i j:Nat):c p (i+j) = c p i+c p j:=Fin.ext (by rw [Fin.val_add,c_val,c_val,c_val,← Nat.add_mod])
theorem c_mul (i j:Nat):c p (i*j) = c p i*c p j:=Fin.ext (by rw [Fin.val_mul,c_val,c_val,c_val,← Nat.mul_mod])
theorem c_mod {n:Nat} (hn:p ∣ n) (i:Nat):c p (i%n) = c p i:=Fin.ext (by rw [c_val,c_val,Nat.mod_mod_of_dvd _ hn])
theorem c_zero_iff {k:Nat}:c p k = 0↔p ∣ k:=by
  constructor
  · intro h
    have:=congrArg Fin.val h
    rw [c_val,Fin.val_zero] at this
    exact Nat.dvd_of_mod_eq_zero this
  · intro h
    apply Fin.ext
    rw [c_val,Fin.val_zero]
    exact Nat.mod_eq_zero_of_dvd h
theorem c_sub {n j:Nat} (hn:p ∣ n) (hj:j≤n):c p (n-j) = -c p j:=by
  have h1:c p (n-j)+c p j = 0:=by rw [← c_add,Nat.sub_add_cancel hj]; exact c_zero_iff.2 hn
  have h2:c p (n-j) - -c p j = 0:=by rw [← h1]; grind -lia
  exact eq_of_sub h2
theorem c_one:c p 1 = 1:=rfl
theorem c_two:c p 2 = 2:=rfl
theorem c_three:c p 3 = 3:=rfl
theorem c_four:c p 4 = 4:=rfl
theorem c_six:c p 6 = 6:=rfl
def RZ (X Y Z:Fin p) (A:Pt p):Prop:=Z≠0→∃ x y,A = .aff x y∧X = x*Z∧Y = y*Z
theorem RZ.dbl {a b X Y Z W S : Fin p} {A : Pt p} (h : Fld p) (hA : On a b A) (hr : RZ X Y Z A) (hW : W = 3 * X * X + a * (Z * Z)) (hS : S = 2 * Y * Z) :
    RZ (S*(W*W-4*(X*Y*S))) (W*(6*(X*Y*S)-W*W)-2*(Y*S)*(Y*S)) (S*S*S) (padd a A A):=by
  intro hz
  have hS0:S≠0:=fun e=>hz (by rw [e]; clear hr hW hS e hz; grind -lia)
  have hZ0:Z≠0:=fun e=>hS0 (by rw [hS,e]; clear hr hW hS e hz hS0; grind -lia)
  obtain ⟨x,y,rfl,hX,hY⟩:=hr hZ0
  have hy0:y≠0:=fun e=>hS0 (by rw [hS,hY,e]; clear hr hW hS e hz hS0 hX hY; grind -lia)
  have hsp:=padd_spec h hA hA
  generalize padd a (.aff x y) (.aff x y) = R at hsp
  cases hsp with
  | opp ho=>exact absurd (h.two _ ho.2) hy0
  | line l x4 y4 hn hs hx hy =>
    have ha:a = l*(y+y)-(x*x+x*x+x*x):=eq_of_sub (lin1 (c1:=-1) (by clear hr hW hS hz hS0 hX hY hx hy hs hA; grind -lia) hs.tang)
    obtain rfl:=eq_of_sub hx
    obtain rfl:=eq_of_sub hy
    refine ⟨_,_,rfl,?_,?_⟩
    · rw [hW,hS,hX,hY,ha]; clear hr hW hS hz hS0 hX hY hx hy hs hA ha; grind -lia
    · rw [hW,hS,hX,hY,ha]; clear hr hW hS hz hS0 hX hY hx hy hs hA ha; grind -lia
theorem RZ.add {a b X Y Z x2 y2 u v : Fin p} {A : Pt p} (h : Fld p) (hA : On a b A) (hQ : On a b (.aff x2 y2)) (hr : RZ X Y Z A) (hu : u = y2 * Z - Y) (hv : v = x2 * Z - X) :
    RZ (v*(u*u*Z-v*v*v-2*(v*v*X))) (u*(v*v*X-(u*u*Z-v*v*v-2*(v*v*X)))-v*v*v*Y) (v*v*v*Z) (padd a A (.aff x2 y2)):=by
  intro hz
  have hv0:v≠0:=fun e=>hz (by rw [e]; clear hr hu hv e hz; grind -lia)
  have hZ0:Z≠0:=fun e=>hz (by rw [e]; clear hr hu hv e hz hv0; grind -lia)
  obtain ⟨x,y,rfl,hX,hY⟩:=hr hZ0
  have hx0:x-x2≠0:=fun e=>hv0 (by
    obtain rfl:=eq_of_sub e
    rw [hv,hX]; clear hr hu hv e hz hv0 hX hY; grind -lia)
  have hsp:=padd_spec h hA hQ
  generalize padd a (.aff x y) (.aff x2 y2) = R at hsp
  cases hsp with
  | opp ho=>exact absurd ho.1 hx0
  | line l x4 y4 hn hs hx hy =>
    have e:y = y2+l*(x-x2):=eq_of_sub (lin1 (c1:=-1) (by clear hr hu hv hz hv0 hX hY hx hy hs hA hQ; grind -lia) hs.chord)
    obtain rfl:=eq_of_sub hx
    obtain rfl:=eq_of_sub hy
    refine ⟨_,_,rfl,?_,?_⟩
    · rw [hu,hv,hX,hY,e]; clear hr hu hv hz hv0 hX hY hx hy hs hA hQ e; grind -lia
    · rw [hu,hv,hX,hY,e]; clear hr hu hv hz hv0 hX hY hx hy hs hA hQ e; grind -lia
end
@[reducible] noncomputable def force (m:Nat) (f:Nat→Bool):Bool:=Nat.rec (motive:=fun _=>Bool) (f 0) (fun m _=>f (Nat.succ m)) m
theorem force_eq (m:Nat) (f:Nat→Bool):force m f = f m:=by cases m <;> rfl
noncomputable def lad (n a x y k:Nat) (fin:Nat→Nat→Nat→Bool):Nat→Nat→Nat→Nat→Bool :=
  Nat.rec (motive:=fun _=>Nat→Nat→Nat→Bool) fin (fun i ih X Y Z =>
    force ((3*X*X+a*(Z*Z))%n) fun W=>force (2*Y*Z%n) fun S=>force (X*Y%n*S%n) fun B=>force (Y*S%n) fun E =>
    force (S*(W*W+4*(n-B))%n) fun X1=>force ((W*(6*B+(n-W)*W)+2*(n-E)*E)%n) fun Y1=>force (S*S%n*S%n) fun Z1 =>
    Bool.rec (ih X1 Y1 Z1) (
      force ((y*Z1+(n-Y1))%n) fun u=>force ((x*Z1+(n-X1))%n) fun v=>force (v*v%n) fun vv=>force (vv*v%n) fun v3 =>
      force (vv*X1%n) fun R=>force ((u*u%n*Z1+(n-v3)+2*(n-R))%n) fun A =>
      force (v*A%n) fun X2=>force ((u*(R+(n-A))+(n-v3)*Y1)%n) fun Y2=>force (v3*Z1%n) fun Z2=>ih X2 Y2 Z2)
      (Nat.testBit k i))
theorem lad_unf (n a x y k : Nat) (fin : Nat → Nat → Nat → Bool) (i X Y Z : Nat) : lad n a x y k fin (i + 1) X Y Z =
    force ((3*X*X+a*(Z*Z))%n) fun W=>force (2*Y*Z%n) fun S=>force (X*Y%n*S%n) fun B=>force (Y*S%n) fun E =>
    force (S*(W*W+4*(n-B))%n) fun X1=>force ((W*(6*B+(n-W)*W)+2*(n-E)*E)%n) fun Y1=>force (S*S%n*S%n) fun Z1 =>
    Bool.rec (lad n a x y k fin i X1 Y1 Z1) (
      force ((y*Z1+(n-Y1))%n) fun u=>force ((x*Z1+(n-X1))%n) fun v=>force (v*v%n) fun vv=>force (vv*v%n) fun v3 =>
      force (vv*X1%n) fun R=>force ((u*u%n*Z1+(n-v3)+2*(n-R))%n) fun A =>
      force (v*A%n) fun X2=>force ((u*(R+(n-A))+(n-v3)*Y1)%n) fun Y2=>force (v3*Z1%n) fun Z2=>lad n a x y k fin i X2 Y2 Z2)
      (Nat.testBit k i):=rfl
theorem lad_succ (n a x y k : Nat) (fin : Nat → Nat → Nat → Bool) (i X Y Z W S B E X1 Y1 Z1 u v vv v3 R A : Nat) (hW : W = (3 * X * X + a * (Z * Z)) % n) (hS : S = 2 * Y * Z % n) (hB : B = X * Y % n * S % n) (hE : E = Y * S % n)
    (hX1:X1 = S*(W*W+4*(n-B))%n) (hY1:Y1 = (W*(6*B+(n-W)*W)+2*(n-E)*E)%n) (hZ1:Z1 = S*S%n*S%n)
    (hu:u = (y*Z1+(n-Y1))%n) (hv:v = (x*Z1+(n-X1))%n) (hvv:vv = v*v%n) (hv3:v3 = vv*v%n) (hR:R = vv*X1%n) (hA:A = (u*u%n*Z1+(n-v3)+2*(n-R))%n) :
    lad n a x y k fin (i+1) X Y Z = if k.testBit i then lad n a x y k fin i (v*A%n) ((u*(R+(n-A))+(n-v3)*Y1)%n) (v3*Z1%n) else lad n a x y k fin i X1 Y1 Z1:=by
  subst hA hR hv3 hvv hv hu hZ1 hY1 hX1 hE hB hS hW
  rw [lad_unf]
  simp only [force_eq]
  cases k.testBit i <;> rfl
section
variable {p:Nat} [NeZero p]
theorem lad_spec {n a b x y k : Nat} {fin : Nat → Nat → Nat → Bool} (hn : 0 < n) : ∀ (i X Y Z : Nat), lad n a x y k fin i X Y Z = true → ∃ X' Y' Z', fin X' Y' Z' = true ∧
    ∀ (p:Nat) [NeZero p],p ∣ n→Crv (c p a) (c p b)→On (c p a) (c p b) (.aff (c p x) (c p y))→RZ (c p X) (c p Y) (c p Z) (pmul (c p a) (.aff (c p x) (c p y)) (k >>> i))→RZ (c p X') (c p Y') (c p Z') (pmul (c p a) (.aff (c p x) (c p y)) k)
  | 0,X,Y,Z,h=>⟨X,Y,Z,h,fun p _ _ _ _ hr=>by simpa using hr⟩
  | i+1,X,Y,Z,h=>by
    have hlt:∀ z,z%n≤n:=fun z=>Nat.le_of_lt (Nat.mod_lt _ hn)
    obtain ⟨W,hW⟩:∃ W,W = (3*X*X+a*(Z*Z))%n:=⟨_,rfl⟩
    obtain ⟨S,hS⟩:∃ S,S = 2*Y*Z%n:=⟨_,rfl⟩
    obtain ⟨B,hB⟩:∃ B,B = X*Y%n*S%n:=⟨_,rfl⟩
    obtain ⟨E,hE⟩:∃ E,E = Y*S%n:=⟨_,rfl⟩
    obtain ⟨X1,hX1⟩:∃ X1,X1 = S*(W*W+4*(n-B))%n:=⟨_,rfl⟩
    obtain ⟨Y1,hY1⟩:∃ Y1,Y1 = (W*(6*B+(n-W)*W)+2*(n-E)*E)%n:=⟨_,rfl⟩
    obtain ⟨Z1,hZ1⟩:∃ Z1,Z1 = S*S%n*S%n:=⟨_,rfl⟩
    obtain ⟨u,hu⟩:∃ u,u = (y*Z1+(n-Y1))%n:=⟨_,rfl⟩
    obtain ⟨v,hv⟩:∃ v,v = (x*Z1+(n-X1))%n:=⟨_,rfl⟩
    obtain ⟨vv,hvv⟩:∃ vv,vv = v*v%n:=⟨_,rfl⟩
    obtain ⟨v3,hv3⟩:∃ v3,v3 = vv*v%n:=⟨_,rfl⟩
    obtain ⟨R,hR⟩:∃ R,R = vv*X1%n:=⟨_,rfl⟩
    obtain ⟨A,hA⟩:∃ A,A = (u*u%n*Z1+(n-v3)+2*(n-R))%n:=⟨_,rfl⟩
    rw [lad_succ n a x y k fin i X Y Z W S B E X1 Y1 Z1 u v vv v3 R A hW hS hB hE hX1 hY1 hZ1 hu hv hvv hv3 hR hA] at h
    have key1 : ∀ (p : Nat) [NeZero p], p ∣ n → Crv (c p a) (c p b) → On (c p a) (c p b) (.aff (c p x) (c p y)) → RZ (c p X) (c p Y) (c p Z) (pmul (c p a) (.aff (c p x) (c p y)) (k >>> (i + 1))) →
        RZ (c p X1) (c p Y1) (c p Z1) (pmul (c p a) (.aff (c p x) (c p y)) (k >>> (i+1)+k >>> (i+1))):=by
      intro p _ hp hc hP hr
      rw [pmul_add hc hP]
      have h1:=RZ.dbl (W:=c p W) (S:=c p S) hc.fld (pmul_on hc.fld hP _) hr (by rw [hW,c_mod hp]; simp only [c_add,c_mul,c_three]) (by rw [hS,c_mod hp]; simp only [c_mul,c_two])
      have eB:c p B = c p X*c p Y*c p S:=by rw [hB,c_mod hp,c_mul,c_mod hp,c_mul]
      have eE:c p E = c p Y*c p S:=by rw [hE,c_mod hp,c_mul]
      have e1:c p X1 = c p S*(c p W*c p W-4*(c p X*c p Y*c p S)):=by
        rw [hX1,c_mod hp]; simp only [c_add,c_mul,c_four,c_sub hp (show B≤n by rw [hB]; exact hlt _),eB]
        clear h1 eB eE hr hP; grind -lia
      have e2:c p Y1 = c p W*(6*(c p X*c p Y*c p S)-c p W*c p W)-2*(c p Y*c p S)*(c p Y*c p S):=by
        rw [hY1,c_mod hp]; simp only [c_add,c_mul,c_six,c_two,c_sub hp (show W≤n by rw [hW]; exact hlt _),c_sub hp (show E≤n by rw [hE]; exact hlt _),eB,eE]
        clear h1 eB eE hr hP e1; grind -lia
      have e3:c p Z1 = c p S*c p S*c p S:=by rw [hZ1,c_mod hp,c_mul,c_mod hp,c_mul]
      rw [e1,e2,e3]
      exact h1
    have hsh:k >>> i = k >>> (i+1)+k >>> (i+1)+(if k.testBit i then 1 else 0):=by
      have e1:k >>> (i+1) = k >>> i/2:=by rw [Nat.shiftRight_add]; rfl
      have e2:k.testBit i = decide (k >>> i%2 = 1):=by rw [Nat.testBit_eq_decide_div_mod_eq,Nat.shiftRight_eq_div_pow]
      rw [e1,e2]
      generalize k >>> i = z
      have:=Nat.mod_two_eq_zero_or_one z
      have:=Nat.div_add_mod z 2
      by_cases hz:z%2 = 1
      · rw [if_pos (by rw [hz]; rfl)]; omega
      · rw [if_neg (by simp [hz])]; omega
    by_cases hb:k.testBit i = true
    · rw [if_pos hb] at h hsh
      obtain ⟨X',Y',Z',hf,hk⟩:=lad_spec hn i _ _ _ h
      refine ⟨X',Y',Z',hf,fun p _ hp hc hP hr=>hk p hp hc hP ?_⟩
      have h1:=key1 p hp hc hP hr
      rw [hsh,pmul_add hc hP,pmul_one hc.fld hP]
      have h2:=RZ.add (u:=c p u) (v:=c p v) hc.fld (pmul_on hc.fld hP _) hP h1 (by rw [hu,c_mod hp]; simp only [c_add,c_mul,c_sub hp (show Y1≤n by rw [hY1]; exact hlt _)]; clear h1 hr hP; grind -lia)
        (by rw [hv,c_mod hp]; simp only [c_add,c_mul,c_sub hp (show X1≤n by rw [hX1]; exact hlt _)]; clear h1 hr hP; grind -lia)
      have evv:c p vv = c p v*c p v:=by rw [hvv,c_mod hp,c_mul]
      have ev3:c p v3 = c p v*c p v*c p v:=by rw [hv3,c_mod hp,c_mul,evv]
      have eR:c p R = c p v*c p v*c p X1:=by rw [hR,c_mod hp,c_mul,evv]
      have eA:c p A = c p u*c p u*c p Z1-c p v*c p v*c p v-2*(c p v*c p v*c p X1):=by
        rw [hA,c_mod hp]; simp only [c_add,c_mul,c_mod hp,c_two,c_sub hp (show v3≤n by rw [hv3]; exact hlt _),c_sub hp (show R≤n by rw [hR]; exact hlt _),ev3,eR]
        clear h1 h2 hr hP evv ev3 eR; grind -lia
      have e1:c p (v*A%n) = c p v*(c p u*c p u*c p Z1-c p v*c p v*c p v-2*(c p v*c p v*c p X1)):=by rw [c_mod hp,c_mul,eA]
      have e2:c p ((u*(R+(n-A))+(n-v3)*Y1)%n) = c p u*(c p v*c p v*c p X1-(c p u*c p u*c p Z1-c p v*c p v*c p v-2*(c p v*c p v*c p X1)))-c p v*c p v*c p v*c p Y1:=by
        rw [c_mod hp]; simp only [c_add,c_mul,c_sub hp (show A≤n by rw [hA]; exact hlt _),c_sub hp (show v3≤n by rw [hv3]; exact hlt _),ev3,eR,eA]
        clear h1 h2 hr hP evv ev3 eR eA e1; grind -lia
      have e3:c p (v3*Z1%n) = c p v*c p v*c p v*c p Z1:=by rw [c_mod hp,c_mul,ev3]
      rw [e1,e2,e3]
      exact h2
    · rw [if_neg hb] at h hsh
      obtain ⟨X',Y',Z',hf,hk⟩:=lad_spec hn i _ _ _ h
      refine ⟨X',Y',Z',hf,fun p _ hp hc hP hr=>hk p hp hc hP ?_⟩
      rw [hsh,Nat.add_zero]
      exact key1 p hp hc hP hr
noncomputable def gkOK (n a b x y q l:Nat):Bool :=
  Nat.ble 2 n && Nat.beq (Nat.gcd 6 n) 1 && Nat.beq (Nat.gcd (4*(a*(a*a))+27*(b*b)) n) 1 && Nat.beq (y*y%n) ((x*x*x+a*x+b)%n) && Nat.ble (4*n+1) ((q-1)*(q-1)) && Nat.beq ((q-1) >>> l) 1 &&
    lad n a x y (q-1) (fun X Y Z=>Nat.beq (Nat.gcd Z n) 1 && Nat.beq (X%n) (x*Z%n) && Nat.beq ((Y+y*Z)%n) 0) l x y 1
theorem prime_of {n:Nat} (hn:1<n) (h:∀ p,Pr p→p ∣ n→n<p*p):Pr n:=by
  refine ⟨hn,fun d hd=>?_⟩
  refine Classical.byContradiction fun hne=>?_
  have hd0:d≠0:=fun e=>by rw [e] at hd; have:=Nat.eq_zero_of_zero_dvd hd; omega
  have hd2:2≤d:=by omega
  have least:∃ e,(2≤e∧e ∣ n)∧∀ f,2≤f→f ∣ n→e≤f:=by
    have main:∀ m e,e≤m→2≤e→e ∣ n→∃ e,(2≤e∧e ∣ n)∧∀ f,2≤f→f ∣ n→e≤f:=by
      intro m
      induction m with
      | zero=>intro e h1 h2; omega
      | succ m ih =>
        intro e h1 h2 h3
        by_cases hx:∃ f,2≤f∧f ∣ n∧f<e
        · obtain ⟨f,f1,f2,f3⟩:=hx
          exact ih f (by omega) f1 f2
        · exact ⟨e,⟨h2,h3⟩,fun f f1 f2=>Nat.le_of_not_lt fun f3=>hx ⟨f,f1,f2,f3⟩⟩
    exact main d d (Nat.le_refl _) hd2 hd
  obtain ⟨e,⟨e1,e2⟩,e3⟩:=least
  have hp:Pr e:=⟨e1,fun f hf=>by
    have hf0:f≠0:=fun z=>by rw [z] at hf; have:=Nat.eq_zero_of_zero_dvd hf; omega
    by_cases h1:f = 1
    · exact .inl h1
    · have h2:=e3 f (by omega) (Nat.dvd_trans hf e2)
      have h3:=Nat.le_of_dvd (by omega) hf
      exact .inr (by omega)⟩
  have h1:=h e hp e2
  obtain ⟨g,rfl⟩:=hd
  have hg2:2≤g:=by
    have:g≠0:=fun z=>by rw [z] at hn; omega
    have:g≠1:=fun z=>by rw [z] at hne; omega
    omega
  have h2:=e3 d hd2 (Nat.dvd_mul_right d g)
  have h3:=e3 g hg2 (Nat.dvd_mul_left g d)
  have:=Nat.mul_le_mul h2 h3
  omega
theorem crv_of {n a b p:Nat} [NeZero p] (hp:Pr p) (hd:p ∣ n) (h6:Nat.gcd 6 n = 1) (hg:Nat.gcd (4*(a*(a*a))+27*(b*b)) n = 1):Crv (c p a) (c p b):=by
  have no:∀ z,Nat.gcd z n = 1→¬ p ∣ z:=fun z hz hpz=>by
    have:=Nat.dvd_gcd hpz hd
    rw [hz] at this
    have:=Nat.le_of_dvd (by decide) this
    have:=hp.1
    omega
  have h2:p≠2:=fun e=>no 6 h6 (by rw [e]; decide)
  refine ⟨hp.fld h2,fun x hx h3=>no _ hg (c_zero_iff.1 ?_)⟩
  simp only [On] at hx
  have e4:c p (4*(a*(a*a))+27*(b*b)) = 4*(c p a*(c p a*c p a))+27*(c p b*c p b):=by simp only [c_add,c_mul]; rfl
  rw [e4]
  generalize c p a = A at *
  generalize c p b = B at *
  have hA:A = -(x*x+x*x+x*x):=eq_of_sub (lin1 (c1:=1) (by clear hx h3 e4; grind -lia) h3)
  subst hA
  have hB:B = x*x*x+x*x*x:=eq_of_sub (lin1 (c1:=-1) (by clear hx h3 e4; grind -lia) hx)
  subst hB
  clear hx h3 e4
  grind -lia
theorem beq_eq {i j:Nat} (h:Nat.beq i j = true):i = j:=Nat.eq_of_beq_eq_true h
theorem gk_mul {n a b x y q l:Nat} (h:gkOK n a b x y q l = true) (hn:0<n):∀ (p:Nat) [NeZero p],Pr p→p ∣ n→Crv (c p a) (c p b)∧On (c p a) (c p b) (.aff (c p x) (c p y))∧pmul (c p a) (.aff (c p x) (c p y)) q = .inf:=by
  intro p _ hp hd
  simp only [gkOK,Bool.and_eq_true] at h
  obtain ⟨⟨⟨⟨⟨⟨_,h1⟩,h2⟩,h3⟩,h4⟩,h5⟩,h6⟩:=h
  have hc:=crv_of hp hd (beq_eq h1) (beq_eq h2)
  have hP:On (c p a) (c p b) (.aff (c p x) (c p y)):=by
    have:=congrArg (c p) (beq_eq h3)
    rw [c_mod hd,c_mod hd] at this
    simp only [c_add,c_mul] at this
    exact sub_of_eq this
  refine ⟨hc,hP,?_⟩
  obtain ⟨X,Y,Z,hf,hk⟩:=lad_spec (b:=b) hn _ _ _ _ h6
  simp only [Bool.and_eq_true] at hf
  obtain ⟨⟨f1,f2⟩,f3⟩:=hf
  have hZ:c p Z≠0:=fun e=>by
    have h1:=Nat.dvd_gcd (c_zero_iff.1 e) hd
    rw [beq_eq f1] at h1
    have h2:=Nat.le_of_dvd (by decide) h1
    have h3:=hp.1
    omega
  have hr:=hk p hd hc hP (by
    rw [beq_eq h5,pmul_one hc.fld hP]
    intro _
    refine ⟨_,_,rfl,?_,?_⟩ <;> rw [c_one] <;> grind -lia)
  obtain ⟨x',y',e1,e2,e3⟩:=hr hZ
  have g2:=congrArg (c p) (beq_eq f2)
  rw [c_mod hd,c_mod hd,c_mul,e2] at g2
  have g3:=congrArg (c p) (beq_eq f3)
  rw [c_mod hd,c_add,c_mul,e3] at g3
  have hx:x' = c p x:=hc.fld.dom.cancel hZ (lin1 (c1:=1) (by clear g2 g3 e1 e2 e3 hZ hk hP; grind -lia) (sub_of_eq g2))
  have hy:y' = -c p y:=hc.fld.dom.cancel hZ (lin1 (c1:=1) (by clear g2 g3 e1 e2 e3 hZ hk hP hx; grind -lia) (show y'*c p Z+c p y*c p Z = 0 from g3))
  have hq:q = q-1+1:=by
    have:q≠0:=fun e=>by rw [e] at h5; simp at h5
    omega
  rw [hq]
  show padd (c p a) (pmul _ _ (q-1)) _ = _
  rw [e1,hx,hy]
  exact (padd_comm hc.fld (neg_on hP) hP).trans (padd_neg hc.fld hP)
theorem gk {n a b x y q l:Nat} (h:gkOK n a b x y q l = true) (hq:Pr q):Pr n:=by
  have h':=h
  simp only [gkOK,Bool.and_eq_true] at h'
  obtain ⟨⟨⟨⟨⟨⟨h0,h1⟩,h2⟩,h3⟩,h4⟩,h5⟩,h6⟩:=h'
  have h4:=Nb h4
  have hn2:=Nb h0
  · refine prime_of hn2 fun p hp hd=>?_
    have:NeZero p:=⟨by have:=hp.1; omega⟩
    obtain ⟨hc,hP,hm⟩:=gk_mul h (by omega) p hp hd
    have:=order_le hc hP hq (fun e=>by cases e) hm
    refine Nat.lt_of_not_le fun hle=>?_
    have h7:(q-1)*(q-1)≤(2*p)*(2*p):=Nat.mul_le_mul (by omega) (by omega)
    have h8:(2*p)*(2*p) = 4*(p*p):=by rw [Nat.mul_mul_mul_comm]
    omega
end
end Go.Proofs.Ytlmiolnccgjjjaa.Grp
set_option linter.unusedVariables false
set_option linter.unusedSectionVars false
namespace Go.Proofs.Ytlmiolnccgjjjaa.Grp
section
variable {p:Nat} [NeZero p]
def fpow (x:Fin p):Nat→Fin p
  | 0=>1
  | k+1=>fpow x k*x
theorem fpow_one (x:Fin p):fpow x 1 = x:=by show (1:Fin p)*x = x; grind -lia
theorem fpow_add (x:Fin p) (i:Nat):∀ j,fpow x (i+j) = fpow x i*fpow x j
  | 0=>by show fpow x i = fpow x i*1; grind -lia
  | j+1=>by
    show fpow x (i+j)*x = fpow x i*(fpow x j*x)
    rw [fpow_add x i j]; grind -lia
theorem fpow_mul (x:Fin p) (i:Nat):∀ j,fpow x (i*j) = fpow (fpow x i) j
  | 0=>rfl
  | j+1=>by
    rw [Nat.mul_succ,fpow_add,fpow_mul x i j]; rfl
theorem mul_fpow (x y:Fin p):∀ j,fpow (x*y) j = fpow x j*fpow y j
  | 0=>by show (1:Fin p) = 1*1; grind -lia
  | j+1=>by
    show fpow (x*y) j*(x*y) = fpow x j*x*(fpow y j*y)
    rw [mul_fpow x y j]; grind -lia
def prodL:List (Fin p)→Fin p
  | []=>1
  | x :: l=>x*prodL l
theorem prodL_perm {l m:List (Fin p)} (h:l.Perm m):prodL l = prodL m:=by
  induction h with
  | nil=>rfl
  | cons x _ ih=>simp only [prodL,ih]
  | swap x y l=>simp only [prodL]; grind -lia
  | trans _ _ ih1 ih2=>exact ih1.trans ih2
theorem prodL_map (x:Fin p):∀ l:List (Fin p),prodL (l.map fun y=>x*y) = fpow x l.length*prodL l
  | []=>by show (1:Fin p) = 1*1; grind -lia
  | y :: l=>by
    show x*y*prodL (l.map fun y=>x*y) = fpow x l.length*x*(y*prodL l)
    rw [prodL_map x l]; grind -lia
theorem prodL_ne (hd:Dom p) (h1:(1:Fin p)≠0):∀ l:List (Fin p),(∀ x,x∈l→x≠0)→prodL l≠0
  | [],_=>h1
  | x :: l,h=>hd.mul (h x (.head _)) (prodL_ne hd h1 l fun y hy=>h y (.tail _ hy))
end
theorem one_ne {p:Nat} [NeZero p] (hp:2≤p):(1:Fin p)≠0:=fun e=>by
  have:=congrArg Fin.val e
  rw [Fin.val_zero] at this
  have h1:(1:Fin p).val = 1%p:=rfl
  rw [h1,Nat.mod_eq_of_lt (by omega)] at this
  cases this
theorem fermat {p:Nat} [NeZero p] (h:Fld p) (hp:2≤p) {x:Fin p} (hx:x≠0):fpow x (p-1) = 1:=by
  obtain ⟨k,rfl⟩:∃ k,p = k+1:=⟨p-1,by omega⟩
  have hd:=h.dom
  obtain ⟨xi,hxi⟩:=h.inv x hx
  have hU:∀ y:Fin (k+1),y∈(List.finRange k).map Fin.succ↔y≠0:=fun y=>by
    constructor
    · intro hy e
      obtain ⟨z,_,hz⟩:=List.mem_map.1 hy
      exact Fin.succ_ne_zero z (hz.trans e)
    · intro hy
      obtain ⟨z,hz⟩:∃ z:Fin k,z.succ = y:=⟨y.pred hy,Fin.succ_pred y hy⟩
      exact List.mem_map.2 ⟨z,List.mem_finRange z,hz⟩
  have hn:((List.finRange k).map Fin.succ).Nodup:=by
    have:=List.nodup_finRange (k+1)
    rw [List.finRange_succ] at this
    exact (List.nodup_cons.1 this).2
  have hcan:∀ y z:Fin (k+1),x*y = x*z→y = z:=fun y z e=>by
    have:(y-z)*x = 0:=lin1 (c1:=1) (by clear hU hn hxi e; grind -lia) (sub_of_eq e)
    exact hd.cancel hx this
  have hn2:(((List.finRange k).map Fin.succ).map fun y=>x*y).Nodup:=by
    rw [List.nodup_iff_pairwise_ne] at hn ⊢
    exact List.Pairwise.map _ (fun y z hne e=>hne (hcan y z e)) hn
  have hperm:(((List.finRange k).map Fin.succ).map fun y=>x*y).Perm ((List.finRange k).map Fin.succ):=by
    rw [List.perm_ext_iff_of_nodup hn2 hn]
    intro y
    rw [hU]
    constructor
    · intro hy e
      obtain ⟨z,hz,e2⟩:=List.mem_map.1 hy
      exact hd.mul hx ((hU z).1 hz) (e2.trans e)
    · intro hy
      refine List.mem_map.2 ⟨xi*y,(hU _).2 ?_,?_⟩
      · refine hd.mul (fun e=>?_) hy
        rw [e] at hxi
        exact one_ne hp (by rw [← hxi]; clear hU hn hcan hn2 hxi; grind -lia)
      · have:x*(xi*y) = x*xi*y:=by clear hU hn hcan hn2 hxi; grind -lia
        rw [this,hxi]; clear this hU hn hcan hn2 hxi; grind -lia
  have e:=prodL_perm hperm
  rw [prodL_map,List.length_map,List.length_finRange] at e
  have hP:=prodL_ne hd (one_ne hp) _ fun y hy=>(hU y).1 hy
  generalize prodL ((List.finRange k).map Fin.succ) = P at e hP
  rw [Nat.add_sub_cancel]
  exact hd.cancel hP (lin1 (c1:=1) (by clear hU hn hcan hn2 hperm hxi hP e; grind -lia) (sub_of_eq e))
theorem fermat' {p:Nat} [NeZero p] (h:Fld p) (hp:2≤p) (x:Fin p):fpow x p = x:=by
  by_cases hx:x = 0
  · obtain ⟨k,rfl⟩:∃ k,p = k+1:=⟨p-1,by omega⟩
    rw [hx]
    show fpow 0 k*0 = 0
    grind -lia
  · have e:=fermat h hp hx
    obtain ⟨k,rfl⟩:∃ k,p = k+1:=⟨p-1,by omega⟩
    show fpow x k*x = x
    rw [Nat.add_sub_cancel] at e
    rw [e]; clear e hx; grind -lia
end Go.Proofs.Ytlmiolnccgjjjaa.Grp
set_option linter.unusedVariables false
set_option linter.unusedSectionVars false
namespace Go.Proofs.Ytlmiolnccgjjjaa.Grp
noncomputable def lad3 (p a b k:Nat) (fin:Nat→Nat→Nat→Bool):Nat→Nat→Nat→Nat→Bool :=
  Nat.rec (motive:=fun _=>Nat→Nat→Nat→Bool) fin (fun i ih A B C =>
    force (A*A%p) fun AA=>force (A*B%p) fun AB =>
    force ((B*B+2*A*C+a*(p-AA))%p) fun A1=>force ((2*B*C+b*(p-AA)+2*a*(p-AB))%p) fun B1=>force ((C*C+2*b*(p-AB))%p) fun C1 =>
    Bool.rec (ih A1 B1 C1) (force ((C1+a*(p-A1))%p) fun B2=>force (b*(p-A1)%p) fun C2=>ih B1 B2 C2) (Nat.testBit k i))
theorem lad3_unf (p a b k : Nat) (fin : Nat → Nat → Nat → Bool) (i A B C : Nat) : lad3 p a b k fin (i + 1) A B C =
    force (A*A%p) fun AA=>force (A*B%p) fun AB =>
    force ((B*B+2*A*C+a*(p-AA))%p) fun A1=>force ((2*B*C+b*(p-AA)+2*a*(p-AB))%p) fun B1=>force ((C*C+2*b*(p-AB))%p) fun C1 =>
    Bool.rec (lad3 p a b k fin i A1 B1 C1) (force ((C1+a*(p-A1))%p) fun B2=>force (b*(p-A1)%p) fun C2=>lad3 p a b k fin i B1 B2 C2) (Nat.testBit k i):=rfl
theorem lad3_succ (p a b k : Nat) (fin : Nat → Nat → Nat → Bool) (i A B C AA AB A1 B1 C1 : Nat) (hAA : AA = A * A % p) (hAB : AB = A * B % p) (hA1 : A1 = (B * B + 2 * A * C + a * (p - AA)) % p) (hB1 : B1 = (2 * B * C + b * (p - AA) + 2 * a * (p - AB)) % p) (hC1 : C1 = (C * C + 2 * b * (p - AB)) % p) :
    lad3 p a b k fin (i+1) A B C = if k.testBit i then lad3 p a b k fin i B1 ((C1+a*(p-A1))%p) (b*(p-A1)%p) else lad3 p a b k fin i A1 B1 C1:=by
  subst hC1 hB1 hA1 hAB hAA
  rw [lad3_unf]
  simp only [force_eq]
  cases k.testBit i <;> rfl
theorem shift_bit (k i:Nat):k >>> i = k >>> (i+1)+k >>> (i+1)+(if k.testBit i then 1 else 0):=by
  have e1:k >>> (i+1) = k >>> i/2:=by rw [Nat.shiftRight_add]; rfl
  have e2:k.testBit i = decide (k >>> i%2 = 1):=by rw [Nat.testBit_eq_decide_div_mod_eq,Nat.shiftRight_eq_div_pow]
  rw [e1,e2]
  generalize k >>> i = z
  have:=Nat.mod_two_eq_zero_or_one z
  have:=Nat.div_add_mod z 2
  by_cases hz:z%2 = 1
  · rw [if_pos (by rw [hz]; rfl)]; omega
  · rw [if_neg (by simp [hz])]; omega
section
variable {p:Nat} [NeZero p]
theorem lad3_spec {a b k : Nat} {fin : Nat → Nat → Nat → Bool} (hp : 0 < p) {r : Fin p} (hr : r * r * r + c p a * r + c p b = 0) : ∀ (i A B C : Nat), lad3 p a b k fin i A B C = true → c p A * (r * r) + c p B * r + c p C = fpow r (k >>> i) →
    ∃ A' B' C',fin A' B' C' = true∧c p A'*(r*r)+c p B'*r+c p C' = fpow r k
  | 0,A,B,C,h,e=>⟨A,B,C,h,by simpa using e⟩
  | i+1,A,B,C,h,e=>by
    have hlt:∀ z,z%p≤p:=fun z=>Nat.le_of_lt (Nat.mod_lt _ hp)
    have hd:p ∣ p:=Nat.dvd_refl p
    obtain ⟨AA,hAA⟩:∃ z,z = A*A%p:=⟨_,rfl⟩
    obtain ⟨AB,hAB⟩:∃ z,z = A*B%p:=⟨_,rfl⟩
    obtain ⟨A1,hA1⟩:∃ z,z = (B*B+2*A*C+a*(p-AA))%p:=⟨_,rfl⟩
    obtain ⟨B1,hB1⟩:∃ z,z = (2*B*C+b*(p-AA)+2*a*(p-AB))%p:=⟨_,rfl⟩
    obtain ⟨C1,hC1⟩:∃ z,z = (C*C+2*b*(p-AB))%p:=⟨_,rfl⟩
    rw [lad3_succ p a b k fin i A B C AA AB A1 B1 C1 hAA hAB hA1 hB1 hC1] at h
    have eAA:c p AA = c p A*c p A:=by rw [hAA,c_mod hd,c_mul]
    have eAB:c p AB = c p A*c p B:=by rw [hAB,c_mod hd,c_mul]
    have eA1:c p A1 = c p B*c p B+2*c p A*c p C-c p a*(c p A*c p A):=by
      rw [hA1,c_mod hd]; simp only [c_add,c_mul,c_two,c_sub hd (show AA≤p by rw [hAA]; exact hlt _),eAA]
      clear eAA eAB hr e; grind -lia
    have eB1:c p B1 = 2*c p B*c p C-c p b*(c p A*c p A)-2*c p a*(c p A*c p B):=by
      rw [hB1,c_mod hd]; simp only [c_add,c_mul,c_two,c_sub hd (show AA≤p by rw [hAA]; exact hlt _),c_sub hd (show AB≤p by rw [hAB]; exact hlt _),eAA,eAB]
      clear eAA eAB hr e eA1; grind -lia
    have eC1:c p C1 = c p C*c p C-2*c p b*(c p A*c p B):=by
      rw [hC1,c_mod hd]; simp only [c_add,c_mul,c_two,c_sub hd (show AB≤p by rw [hAB]; exact hlt _),eAB]
      clear eAA eAB hr e eA1 eB1; grind -lia
    have key:c p A1*(r*r)+c p B1*r+c p C1 = fpow r (k >>> (i+1)+k >>> (i+1)):=by
      rw [fpow_add,← e,eA1,eB1,eC1]
      clear eAA eAB e eA1 eB1 eC1 h
      refine eq_of_sub (lin1 (c1:=-(c p A*c p A*r+2*c p A*c p B)) ?_ hr)
      clear hr; grind -lia
    have hsh:=shift_bit k i
    by_cases hb:k.testBit i = true
    · rw [if_pos hb] at h hsh
      refine lad3_spec hp hr i _ _ _ h ?_
      rw [hsh,fpow_add,← key,fpow_one,c_mod hd,c_mod hd,c_add,c_mul,c_mul,c_sub hd (show A1≤p by rw [hA1]; exact hlt _)]
      generalize c p A1 = A1' at *
      generalize c p B1 = B1' at *
      generalize c p C1 = C1' at *
      clear eAA eAB e eA1 eB1 eC1 h key
      refine eq_of_sub (lin1 (c1:=-A1') ?_ hr)
      clear hr; grind -lia
    · rw [if_neg hb] at h hsh
      rw [Nat.add_zero] at hsh
      exact lad3_spec hp hr i _ _ _ h (by rw [hsh]; exact key)
noncomputable def rootOK (p a b l u1 u0 v2 v1 v0:Nat):Bool:=Nat.beq (p >>> l) 1 &&
  lad3 p a b p (fun A B C=>Nat.beq ((u1+v2*A)%p) 0 && Nat.beq ((u0+v2*(B+(p-1))+v1*A)%p) 0 && Nat.beq ((u1*a+v2*C+v1*(B+(p-1))+v0*A)%p) 0 &&
    Nat.beq ((u1*b+u0*a+v1*C+v0*(B+(p-1)))%p) 0 && Nat.beq ((u0*b+v0*C)%p) 1) l 0 1 0
theorem noroot {a b l u1 u0 v2 v1 v0:Nat} (h:Fld p) (hp:2≤p) (hok:rootOK p a b l u1 u0 v2 v1 v0 = true) (x:Fin p):¬ On (c p a) (c p b) (.aff x 0):=by
  intro hx
  simp only [On] at hx
  have hr:x*x*x+c p a*x+c p b = 0:=lin1 (c1:=-1) (by clear hx; grind -lia) hx
  simp only [rootOK,Bool.and_eq_true] at hok
  obtain ⟨h1,h2⟩:=hok
  obtain ⟨A,B,C,hf,e⟩:=lad3_spec (by omega) hr _ _ _ _ h2 (by
    rw [beq_eq h1,fpow_one,c_one]
    have:c p 0 = 0:=c_zero_iff.2 (Nat.dvd_zero p)
    rw [this]; clear hx hr; grind -lia)
  rw [fermat' h hp] at e
  simp only [Bool.and_eq_true] at hf
  obtain ⟨⟨⟨⟨f1,f2⟩,f3⟩,f4⟩,f5⟩:=hf
  have hd:p ∣ p:=Nat.dvd_refl p
  have z:c p 0 = 0:=c_zero_iff.2 (Nat.dvd_zero p)
  have g1:=congrArg (c p) (beq_eq f1)
  have g2:=congrArg (c p) (beq_eq f2)
  have g3:=congrArg (c p) (beq_eq f3)
  have g4:=congrArg (c p) (beq_eq f4)
  have g5:=congrArg (c p) (beq_eq f5)
  rw [c_mod hd] at g1 g2 g3 g4 g5
  simp only [c_add,c_mul,c_sub hd (show 1≤p by omega),c_one,z] at g1 g2 g3 g4 g5
  generalize c p A = A' at *
  generalize c p B = B' at *
  generalize c p C = C' at *
  generalize c p u1 = U1 at *
  generalize c p u0 = U0 at *
  generalize c p v2 = V2 at *
  generalize c p v1 = V1 at *
  generalize c p v0 = V0 at *
  generalize c p a = a' at *
  generalize c p b = b' at *
  clear h1 h2 f1 f2 f3 f4 f5 hx
  apply one_ne hp
  have s1:=lin4 (c1:=x*x*x*x) (c2:=x*x*x) (c3:=x*x) (c4:=x) rfl g1 g2 g3 g4
  have s2:=lin2 (c1:=U1*x+U0) (c2:=V2*(x*x)+V1*x+V0) rfl hr (sub_of_eq e)
  have s3:=sub_of_eq g5
  refine lin3 (c1:=1) (c2:=-1) (c3:=-1) ?_ s2 s1 s3
  clear s1 s2 s3 g1 g2 g3 g4 g5 e hr z
  grind -lia
end
end Go.Proofs.Ytlmiolnccgjjjaa.Grp
set_option linter.unusedVariables false
set_option maxRecDepth 100000
namespace Go.Proofs.Ytlmiolnccgjjjaa.Grp
noncomputable def noDiv (q:Nat):Nat→Bool:=Nat.rec (motive:=fun _=>Bool) true (fun i ih=>Bool.rec ih false (Nat.beq (q%(i+2)) 0))
theorem noDiv_spec {q:Nat}:∀ {k:Nat},noDiv q k = true→∀ i,i<k→q%(i+2)≠0
  | 0,_,i,hi=>absurd hi (Nat.not_lt_zero _)
  | k+1,h,i,hi=>by
    have h':Bool.rec (motive:=fun _=>Bool) (noDiv q k) false (Nat.beq (q%(k+2)) 0) = true:=h
    cases hb:Nat.beq (q%(k+2)) 0 with
    | true=>rw [hb] at h'; cases h'
    | false =>
      rw [hb] at h'
      rcases Nat.lt_or_ge i k with hik|hik
      · exact noDiv_spec h' i hik
      · have:i = k:=by omega
        subst this
        intro e; rw [e] at hb; cases hb
theorem prime_small {q:Nat} (k:Nat) (hq:1<q) (hk:q<(k+2)*(k+2)) (h:noDiv q k = true):Pr q:=by
  refine prime_of hq fun p hp hd=>Nat.lt_of_not_le fun hle=>?_
  have h2:=hp.1
  have hlt:p<k+2:=by
    refine Nat.lt_of_not_le fun h=>?_
    have:=Nat.mul_le_mul h h
    omega
  refine noDiv_spec h (p-2) (by omega) ?_
  rw [show p-2+2 = p by omega]
  exact Nat.mod_eq_zero_of_dvd hd
theorem pr_1067060299:Pr 1067060299:=prime_small 32664 (by decide) (by decide) (by kernel_rfl)
theorem pr_2028763398056081:Pr 2028763398056081:=gk (a:=1094888183077883) (b:=1406179921403949) (x:=631653290482917) (y:=824653661648458) (l:=29) (by kernel_rfl) pr_1067060299
theorem pr_72727110308835084379:Pr 72727110308835084379:=gk (a:=54256733087543634376) (b:=60413525494640784377) (x:=7867509725727419950) (y:=33941602492557132933) (l:=50) (by kernel_rfl) pr_2028763398056081
theorem pr_2327267529786287602427:Pr 2327267529786287602427:=gk (a:=2031741494257870129095) (b:=381721129224205903033) (x:=463999434187307520481) (y:=2041383020318836882286) (l:=65) (by kernel_rfl) pr_72727110308835084379
theorem pr_66232767864181823809014226993:Pr 66232767864181823809014226993:=gk (a:=27334158166170276492609046011) (b:=24881092689719097833015926377) (x:=40470426530123362647329866870) (y:=23366955423390475729287663482) (l:=70) (by kernel_rfl) pr_2327267529786287602427
theorem pr_4706194902318598281262820721813638026946893:Pr 4706194902318598281262820721813638026946893:=gk (a:=4631493395932588784734839440515008851915982) (b:=1469129625591520098383631865539707108941083) (x:=1315526153324182762814492935076579684233270) (y:=183741848832019324647956107262265655740605) (l:=95) (by kernel_rfl) pr_66232767864181823809014226993
theorem pr_19682888362983557061263611745984661633896542698259:Pr 19682888362983557061263611745984661633896542698259:=gk (a:=6248535988248748273417019601899892582189378634360) (b:=1770418530003812010801488887204969564953657279727) (x:=19590331558951965839584098370054108429673814287223) (y:=5006708415167314541652486334466029253520521699669) (l:=141) (by kernel_rfl) pr_4706194902318598281262820721813638026946893
theorem pr_87181968547037232831052630876142953606158212828789871587:Pr 87181968547037232831052630876142953606158212828789871587:=gk (a:=84414287005861447661812864816582859840883348929463208989) (b:=25370414127444697384697855545967526181686252410494407065) (x:=54011576197335600030104046928481499089389958568710318145) (y:=13791727602273275515725808602781190196051061506672362892) (l:=163) (by kernel_rfl) pr_19682888362983557061263611745984661633896542698259
theorem pr_6277101735386680763835789423176059013767194773182842284081:Pr 6277101735386680763835789423176059013767194773182842284081:=gk (a:=5188216740472664712966315747727150817501456904365410459257) (b:=4099331745558648662096842072278242621235719035547978634433) (x:=637507596356191217853072638364835878936239591368709223515) (y:=2026967390886266289375362533000027120945416694042829453031) (l:=185) (by kernel_rfl) pr_87181968547037232831052630876142953606158212828789871587
theorem gk_P192:gkOK 6277101735386680763835789423207666416083908700390324961279 6277101735386680763835789423207666416083908700390324961276 2455155546008943817740293915197451784769108058161191238065 602046282375688656758213480587526111916698976636884684818 174050332293622031404857552280219410364023488927386650641 6277101735386680763835789423176059013767194773182842284081 191 = true:=by kernel_rfl
theorem pr_6277101735386680763835789423207666416083908700390324961279:Pr 6277101735386680763835789423207666416083908700390324961279:=gk gk_P192 pr_6277101735386680763835789423176059013767194773182842284081
theorem pr_171249037:Pr 171249037:=prime_small 13085 (by decide) (by decide) (by kernel_rfl)
theorem pr_19864625369:Pr 19864625369:=gk (a:=10720591467) (b:=7147060978) (x:=16131142552) (y:=3357218660) (l:=27) (by kernel_rfl) pr_171249037
theorem pr_24473223790919:Pr 24473223790919:=gk (a:=19034729615062) (b:=7251325567226) (x:=22592626777813) (y:=3973467756736) (l:=34) (by kernel_rfl) pr_19864625369
theorem pr_1566286334687981:Pr 1566286334687981:=gk (a:=845297386974458) (b:=604967737736617) (x:=61923051186561) (y:=1409794424466746) (l:=44) (by kernel_rfl) pr_24473223790919
theorem pr_30223061121088658503:Pr 30223061121088658503:=gk (a:=12952740480466567912) (b:=25905480960933135824) (x:=7261055813175102747) (y:=5995202229066982566) (l:=50) (by kernel_rfl) pr_1566286334687981
theorem pr_504286523659196274188507723:Pr 504286523659196274188507723:=gk (a:=80045479945904170506112335) (b:=53363653297269447004074890) (x:=151839159242188611163491846) (y:=375126402496671022952203488) (l:=64) (by kernel_rfl) pr_30223061121088658503
theorem pr_14065974014366717342127276088525292866153:Pr 14065974014366717342127276088525292866153:=gk (a:=9154046580778339857574893962373603293796) (b:=2381540573861031507661761030861425247014) (x:=12140571174558814320794545198727645577119) (y:=10504188947994686200316758733383057455335) (l:=88) (by kernel_rfl) pr_504286523659196274188507723
theorem pr_90932928698806560620666715511717680605026184267009833:Pr 90932928698806560620666715511717680605026184267009833:=gk (a:=67838851568950926177322787762710015689463978738880302) (b:=13952671599287779142853623015025464219818832506578063) (x:=3786312668282985969820453234366066109628971377260894) (y:=23425497836883685685965349550433541420810952807811118) (l:=133) (by kernel_rfl) pr_14065974014366717342127276088525292866153
theorem pr_58924537796826651282192031655526989939923483192356919129:Pr 58924537796826651282192031655526989939923483192356919129:=gk (a:=19841936196890607064411602496248884367525254544365085009) (b:=13227957464593738042941068330832589578350169696243390006) (x:=7463954940591628528771689192296373182984197547115244215) (y:=32180056676346378443105739691837088349254497432294254341) (l:=175) (by kernel_rfl) pr_90932928698806560620666715511717680605026184267009833
theorem pr_441462637173825271406182701164239107765894953492410418126449:Pr 441462637173825271406182701164239107765894953492410418126449:=gk (a:=265778526461792765438416116007041911818242880163798108872042) (b:=324339896699136934094338311059440977134126904606668878623511) (x:=284656767888687020884054252447427371152513340440480334463120) (y:=225409623596218489265534619992256717671797292995429876895902) (l:=185) (by kernel_rfl) pr_58924537796826651282192031655526989939923483192356919129
theorem pr_26959946667150639794667015087019625940457807714424391721682722368061:Pr 26959946667150639794667015087019625940457807714424391721682722368061:=gk (a:=11533226570287489558320479830689348204554404918495654652304155240745) (b:=15377635427049986077760639774252464272739206557994206203072206987660) (x:=13140310575960074103051736051114866200217262074812120228402493826483) (y:=17285079109652194990133883764569118940546108779267010215337665256550) (l:=198) (by kernel_rfl) pr_441462637173825271406182701164239107765894953492410418126449
theorem gk_P224:gkOK 26959946667150639794667015087019630673557916260026308143510066298881 26959946667150639794667015087019630673557916260026308143510066298878 18958286285566608000408668544493926415504680968679321075787234672564 19277929113566293071110308034699488026831934219452440156649784352033 19926808758034470970197974370888749184205991990603949537637343198772 26959946667150639794667015087019625940457807714424391721682722368061 223 = true:=by kernel_rfl
theorem pr_26959946667150639794667015087019630673557916260026308143510066298881:Pr 26959946667150639794667015087019630673557916260026308143510066298881:=gk gk_P224 pr_26959946667150639794667015087019625940457807714424391721682722368061
theorem pr_10148317:Pr 10148317:=prime_small 3184 (by decide) (by decide) (by kernel_rfl)
theorem pr_2669100319:Pr 2669100319:=gk (a:=2656086841) (b:=2660424667) (x:=1014912074) (y:=1574990172) (l:=23) (by kernel_rfl) pr_10148317
theorem pr_18984520547593253:Pr 18984520547593253:=gk (a:=3013415959935435) (b:=2008943973290290) (x:=4550174085726287) (y:=7193660781959983) (l:=31) (by kernel_rfl) pr_2669100319
theorem pr_7453641876424041653396968427:Pr 7453641876424041653396968427:=gk (a:=1538053085611310182446993477) (b:=2050737447481746909929324636) (x:=1837142938857471296110576674) (y:=1868592113904493932535162540) (l:=54) (by kernel_rfl) pr_18984520547593253
theorem pr_153075443216120565531813097756739:Pr 153075443216120565531813097756739:=gk (a:=35807121220145161527909496551272) (b:=149793123770940592391754727239522) (x:=56330454237957069405406895907029) (y:=6126203659960772808262945668457) (l:=92) (by kernel_rfl) pr_7453641876424041653396968427
theorem pr_31481738123329409841898295821531151369479:Pr 31481738123329409841898295821531151369479:=gk (a:=22486955802378149887070211301093679549610) (b:=13492173481426889932242126780656207729741) (x:=1663175110460944878097189378336291689282) (y:=7612695441845998846220073429001147844746) (l:=106) (by kernel_rfl) pr_153075443216120565531813097756739
theorem pr_7635895581813548357152481816648718297912182623:Pr 7635895581813548357152481816648718297912182623:=gk (a:=6814808223897700820317846958302464124257490839) (b:=4543205482598467213545231305534976082838327226) (x:=4408029632972800677753031207720455063542023390) (y:=4362496884260868354462352528812505441185264379) (l:=134) (by kernel_rfl) pr_31481738123329409841898295821531151369479
theorem pr_104950329809152061600048427338973527887236524188292861:Pr 104950329809152061600048427338973527887236524188292861:=gk (a:=36388921786110100548962086751814309638767963056356245) (b:=83502005651197487931965591448743588814102792137905947) (x:=19552555464879036666364674680913576026561744419629509) (y:=16949326352910203965254927468790574073626514184058990) (l:=152) (by kernel_rfl) pr_7635895581813548357152481816648718297912182623
theorem pr_55833575458468896771225763332570298550173497738301901693:Pr 55833575458468896771225763332570298550173497738301901693:=gk (a:=13663254405283836012448524222799522305437571342473079672) (b:=9108836270189224008299016148533014870291714228315386448) (x:=8626023615062656468768128158466785299928822100076448871) (y:=39705340040645847887936780640940112462758500929354711451) (l:=176) (by kernel_rfl) pr_104950329809152061600048427338973527887236524188292861
theorem pr_242636783370067072842981898355787086652280508137700038677351863023:Pr 242636783370067072842981898355787086652280508137700038677351863023:=gk (a:=11925195491267337018913628079290912026574140884055077574608022772) (b:=23850390982534674037827256158581824053148281768110155149216045544) (x:=234064658209011314086597756993363522613564240055499292685711839004) (y:=163162272447866305733668023051646516870465917305439671877446351344) (l:=185) (by kernel_rfl) pr_55833575458468896771225763332570298550173497738301901693
theorem pr_115792089210356248762697446949407573529996955224135760342422259061068512044369:Pr 115792089210356248762697446949407573529996955224135760342422259061068512044369:=gk (a:=72222237929191380838912943625870633647862498067155797445138558768531075133084) (b:=28258205775276447214400545055642760943366443715698360497520583423628985169408) (x:=83347507197363762264470290872962010169191052586659670548396865454756108950004) (y:=88789276620978062908578620348881442174949654258834320423197461947724475403279) (l:=217) (by kernel_rfl) pr_242636783370067072842981898355787086652280508137700038677351863023
theorem gk_P256:gkOK 115792089210356248762697446949407573530086143415290314195533631308867097853951 115792089210356248762697446949407573530086143415290314195533631308867097853948 41058363725152142129326129780047268409114441015993725554835256314039467401291 48439561293906451759052585252797914202762949526041747995844080717082404635286 36134250956749795798585127919587881956611106672985015071877198253568414405109 115792089210356248762697446949407573529996955224135760342422259061068512044369 255 = true:=by kernel_rfl
theorem pr_115792089210356248762697446949407573530086143415290314195533631308867097853951:Pr 115792089210356248762697446949407573530086143415290314195533631308867097853951:=gk gk_P256 pr_115792089210356248762697446949407573529996955224135760342422259061068512044369
theorem pr_46774139:Pr 46774139:=prime_small 6838 (by decide) (by decide) (by kernel_rfl)
theorem pr_85877768153:Pr 85877768153:=gk (a:=44691491586) (b:=29794327724) (x:=81991227574) (y:=61777581504) (l:=25) (by kernel_rfl) pr_46774139
theorem pr_1144145383486009081:Pr 1144145383486009081:=gk (a:=268523916532430056) (b:=420298304137712017) (x:=1065819025053881079) (y:=892828502865668173) (l:=36) (by kernel_rfl) pr_85877768153
theorem pr_385116745736243115504514471729:Pr 385116745736243115504514471729:=gk (a:=13575543912780369563238914585) (b:=265794859766015656711835590876) (x:=282326685797468079836360112806) (y:=82491315742090516008239204034) (l:=59) (by kernel_rfl) pr_1144145383486009081
theorem pr_823207070081997943675371026341953107:Pr 823207070081997943675371026341953107:=gk (a:=797073512301617056574565596934272054) (b:=805784698228410685608167406736832405) (x:=331540723823433407547846520030375570) (y:=573789245172884535924302309900877848) (l:=98) (by kernel_rfl) pr_385116745736243115504514471729
theorem pr_66719286616005769339030211149899808014761:Pr 66719286616005769339030211149899808014761:=gk (a:=34721261402207084043781028251478471517882) (b:=23147507601471389362520685500985647678588) (x:=21078757333802663388388298761455260676008) (y:=47390957898900727762543690021088871124261) (l:=119) (by kernel_rfl) pr_823207070081997943675371026341953107
theorem pr_12217855126394775463915783741625331982960284141247273:Pr 12217855126394775463915783741625331982960284141247273:=gk (a:=5042289417242288286695402814004105262809006153530571) (b:=517157888947927003763631057846574898749641656772206) (x:=4341483596836694584954200814536773275773119476227501) (y:=8429136540211482244951296134909031538411588304816570) (l:=135) (by kernel_rfl) pr_66719286616005769339030211149899808014761
theorem pr_1009500279818368322706041631605241702713436613224493711199:Pr 1009500279818368322706041631605241702713436613224493711199:=gk (a:=427750715909590691567472888142928695628464786739501737382) (b:=621667237212516568613662469297033031323455395567832395321) (x:=675540061701952090002093566491650418333022920528869556573) (y:=938781060268160510538939537986720378179757244464322638665) (l:=173) (by kernel_rfl) pr_12217855126394775463915783741625331982960284141247273
theorem pr_427293796025444929889005404645294274481705878264177066786963152049:Pr 427293796025444929889005404645294274481705878264177066786963152049:=gk (a:=115301500514802600128779236174127026447444443341127145006005929916) (b:=361730197693498353345189760546280867286100214403536141195312721310) (x:=341104239269128821793954361142449933175848148791985986151511970746) (y:=136440623087095024705055756494620850310217863365377714355208426110) (l:=189) (by kernel_rfl) pr_1009500279818368322706041631605241702713436613224493711199
theorem pr_146989065832753055881817859197981232999801736277361139462682401668391:Pr 146989065832753055881817859197981232999801736277361139462682401668391:=gk (a:=137656426732260798365511963375887186460131784767687416322194630133888) (b:=42774595877256180283068689184597713306820611086004564393902286199795) (x:=6139617699893360641692633696683168522416323196629381583294434700042) (y:=137269921099613662440082159458322266366657318846217980008139087067984) (l:=218) (by kernel_rfl) pr_427293796025444929889005404645294274481705878264177066786963152049
theorem pr_739501990204580624141425649625043582378868203542375995214773836064359807:Pr 739501990204580624141425649625043582378868203542375995214773836064359807:=gk (a:=190083052685977015452230710456276420866841594379846817524109284353088238) (b:=380166105371954030904461420912552841733683188759693635048218568706176476) (x:=268604794526580857534152391549028400313765045342340074386136207726650010) (y:=723477971295772881859216302137710455409892579733207449145923053651315249) (l:=226) (by kernel_rfl) pr_146989065832753055881817859197981232999801736277361139462682401668391
theorem pr_34756593539615289334647005532377048371984181409184678689236972862981442607:Pr 34756593539615289334647005532377048371984181409184678689236972862981442607:=gk (a:=21818371774878171059534564328642743132521244308656122744148375119529949027) (b:=14800250016901754640703538541514063155097178680212611331766295626797425745) (x:=32135966051699534296756915716359061974568834259533968030440686991823933367) (y:=2615735624390604438589469049186987338161912634573740490836005317056337124) (l:=238) (by kernel_rfl) pr_739501990204580624141425649625043582378868203542375995214773836064359807
theorem pr_48266481448463752299024296582812007074160784034537146889746651694580215824244951:Pr 48266481448463752299024296582812007074160784034537146889746651694580215824244951:=gk (a:=5462440386560832820483269186552008221751034927841866345592849264136165427233633) (b:=10924880773121665640966538373104016443502069855683732691185698528272330854467266) (x:=26954418485091640344585119180706287062069321654585908641650432167851898235870276) (y:=27806346524057364939309282041338135837787962528180916927643220401281130229205) (l:=244) (by kernel_rfl) pr_34756593539615289334647005532377048371984181409184678689236972862981442607
theorem pr_27222295536933556296649703272705971989826493345183189960937150067954811981795261799:Pr 27222295536933556296649703272705971989826493345183189960937150067954811981795261799:=gk (a:=17777825656772934724342663361767165381111179327466573035714057187235795579947925728) (b:=3333342310644925260814249380331343508958346123899982444196385722606711671240233610) (x:=2279332395906987676240416565015669391024018464103109027405187918997863994210261561) (y:=24513230933145264595889367932333154370541990865213202901446973984839355536726830178) (l:=264) (by kernel_rfl) pr_48266481448463752299024296582812007074160784034537146889746651694580215824244951
theorem pr_110440852993339437895507846177368128362726065133959560551840367328300237507710918963617:Pr 110440852993339437895507846177368128362726065133959560551840367328300237507710918963617:=gk (a:=791419332447714745945063169065614447946082005653304637422001729933210230870235334773) (b:=39451682105938861784986159289341424280728961730164202308686794875877446605471090770449) (x:=98638282888942696496369413530622512748664372347890666298366171275914838902688005756213) (y:=77686736206765938526401039683629594466182841508289937769184121096807141110641996924012) (l:=273) (by kernel_rfl) pr_27222295536933556296649703272705971989826493345183189960937150067954811981795261799
theorem pr_42724043980473361549877210293714860457120578297861808182087302347596827153467453182540348491:Pr 42724043980473361549877210293714860457120578297861808182087302347596827153467453182540348491:=gk (a:=26157577947228588704006455281866241096196272427262331540053450416896016624571910111759397020) (b:=34876770596304784938675273709154988128261696569683108720071267222528022166095880149012529360) (x:=11109230358188136017980704707053331507043326741249951804183975387691804715190358932205518704) (y:=1747934223533104411394127329486472398425865635836316298046660326538001199351388833472175127) (l:=285) (by kernel_rfl) pr_110440852993339437895507846177368128362726065133959560551840367328300237507710918963617
theorem pr_128172131941420084649631630881144581371361734890957890335071169249118039577236245910161674513:Pr 128172131941420084649631630881144581371361734890957890335071169249118039577236245910161674513:=gk (a:=124367393330914108110867055567418582666460458901615912143306533427251826899618843434164296417) (b:=40187551573469377190700826751230861320519727637424644650513965868461871407333813652722306107) (x:=76292618052168683383193349758418354850105476803517059454828950166862174325869084093975337126) (y:=6621972770933684119976371440091886595415343889149996340087614912327360026100178352757504587) (l:=304) (by kernel_rfl) pr_42724043980473361549877210293714860457120578297861808182087302347596827153467453182540348491
theorem pr_2178926243004141439043737724979457883313149493142810742078144540252874473675852554824576997217:Pr 2178926243004141439043737724979457883313149493142810742078144540252874473675852554824576997217:=gk (a:=1962307844576829132238219939455184292574415333005806165380317305256974672199305809608098582286) (b:=1308205229717886088158813292970122861716276888670537443586878203504649781466203873072065721524) (x:=1615101564541748603385887097373974137756799270634464537722380193757417891742497876957313984334) (y:=1268747825197754204147233976109861710633361558081412118901562574865699062856862483471093445211) (l:=305) (by kernel_rfl) pr_128172131941420084649631630881144581371361734890957890335071169249118039577236245910161674513
theorem pr_4357852486008282878087475449958915766626298986302126082436016565321759805355054055391215553747:Pr 4357852486008282878087475449958915766626298986302126082436016565321759805355054055391215553747:=gk (a:=3779770013374531067728932788229671838400361365670211398031238857677036565869179537839319612940) (b:=1067229180246926419123463375500142636724807915012765571208820383344104442127768340095807890711) (x:=1206471288973727118397460494304111146638651512296385059189675568810239477215894243466395623796) (y:=2805342785450831221794495101320614910103778702826069562071678320546327817567371282690097603117) (l:=310) (by kernel_rfl) pr_2178926243004141439043737724979457883313149493142810742078144540252874473675852554824576997217
theorem pr_109085763429759337004285685463371579470189516225114974299419437879917690947926974242568098437415549:Pr 109085763429759337004285685463371579470189516225114974299419437879917690947926974242568098437415549:=gk (a:=20460382889042608757722800156227913145079498771062463255293915310582664817496122720294139847005322) (b:=13640255259361739171815200104151942096719665847374975503529276873721776544997415146862759898003548) (x:=77471843853364076985274760654960930466603260648687209865165708118710743787533356216815727728334233) (y:=86955943474447810512202383499897080428111482836733998979484785930512541536499617358207050690639995) (l:=311) (by kernel_rfl) pr_4357852486008282878087475449958915766626298986302126082436016565321759805355054055391215553747
theorem pr_198168361333640274622758500497639249041350910670514362558966650132552687573128910501220327570831891558019:Pr 198168361333640274622758500497639249041350910670514362558966650132552687573128910501220327570831891558019:=gk (a:=189712197491945049546091625708315125241812745651178870279084956342109808511566823411186807099349269098212) (b:=126474798327963366364061083805543416827875163767452580186056637561406539007711215607457871399566179398808) (x:=151734365723809097625667313952620492825703905891263454775445204364751123094972393482147305388536701997290) (y:=51330001261695480933222323393933140773878707435101141681499783798989970014895140892028984275333532616345) (l:=325) (by kernel_rfl) pr_109085763429759337004285685463371579470189516225114974299419437879917690947926974242568098437415549
theorem pr_1783515252002762471604826504478753241372158196034629247043753501131233301740815381681465826258182983441619:Pr 1783515252002762471604826504478753241372158196034629247043753501131233301740815381681465826258182983441619:=gk (a:=908698801359783972230723579770783410759927714129694626662835972761388296431832360180858045890687903372164) (b:=605799200906522648153815719847188940506618476086463084441890648507592197621221573453905363927125268914776) (x:=1098677001720872649519518668595312649995009775534804691791322880185344400263453873058506342047724886328948) (y:=380734451309756589098753710871656472761712065604181807964052614212480586231956149472644906940298825684027) (l:=346) (by kernel_rfl) pr_198168361333640274622758500497639249041350910670514362558966650132552687573128910501220327570831891558019
theorem pr_2274811280895703435845450037534993003006739753505308392583256062817130559596950684505191689834369037149667664303:Pr 2274811280895703435845450037534993003006739753505308392583256062817130559596950684505191689834369037149667664303:=gk (a:=172943352492839968602777019228359380177149363991858361606083155122059726422647035688133873806321257377959975139) (b:=873565995293794457683668025330570587787012827163008371931807457687083337480748251960486479149003850635195871527) (x:=825140644720418089606493284687503223447815628105241647038292864975456764770917240727095451675364152882980980628) (y:=1541012769267508936053439332391115394153027278020596950503739976867510251108027663980421828784769052270038605160) (l:=349) (by kernel_rfl) pr_1783515252002762471604826504478753241372158196034629247043753501131233301740815381681465826258182983441619
theorem pr_39402006196394479212279040100143613805079739270465446667946905279627659399113263569398956308152294913554433653942643:Pr 39402006196394479212279040100143613805079739270465446667946905279627659399113263569398956308152294913554433653942643:=gk (a:=29106117697426369186393718950687922262027075121617643947114978101815466025152493070709926849642165310078518657110635) (b:=12540152798972172773672265200821487145982940648513227484188700616002181767461148381347264927421357137735069106852418) (x:=23883732269191656775024628574354094116366653693789432577203744683882873793094228294521757608263048686960569550440646) (y:=29079368831774639807203938883850872500149107232939181912527794112010421029291621453316062592604329979680467118341037) (l:=369) (by kernel_rfl) pr_2274811280895703435845450037534993003006739753505308392583256062817130559596950684505191689834369037149667664303
theorem gk_P384:gkOK 39402006196394479212279040100143613805079739270465446667948293404245721771496870329047266088258938001861606973112319 39402006196394479212279040100143613805079739270465446667948293404245721771496870329047266088258938001861606973112316 27580193559959705877849011840389048093056905856361568521428707301988689241309860865136260764883745107765439761230575 26247035095799689268623156744566981891852923491109213387815615900925518854738050089022388053975719786650872476732087 8325710961489029985546751289520108179287853048861315594709205902480503199884419224438643760392947333078086511627871 39402006196394479212279040100143613805079739270465446667946905279627659399113263569398956308152294913554433653942643 383 = true:=by kernel_rfl
theorem pr_39402006196394479212279040100143613805079739270465446667948293404245721771496870329047266088258938001861606973112319:Pr 39402006196394479212279040100143613805079739270465446667948293404245721771496870329047266088258938001861606973112319:=gk gk_P384 pr_39402006196394479212279040100143613805079739270465446667946905279627659399113263569398956308152294913554433653942643
theorem pr_11228257:Pr 11228257:=prime_small 3349 (by decide) (by decide) (by kernel_rfl)
theorem pr_3897542815469:Pr 3897542815469:=gk (a:=3445829120263) (b:=998038475019) (x:=3504649604447) (y:=2617814644572) (l:=23) (by kernel_rfl) pr_11228257
theorem pr_2196146158516828290697:Pr 2196146158516828290697:=gk (a:=1429237976177618411404) (b:=1684874036957355037835) (x:=2134502666306786104986) (y:=2150464755507910057504) (l:=41) (by kernel_rfl) pr_3897542815469
theorem pr_281106708290365922417483:Pr 281106708290365922417483:=gk (a:=44620112427042209907535) (b:=217151213811605421550012) (x:=267861919619787174397086) (y:=95631390049673947040763) (l:=70) (by kernel_rfl) pr_2196146158516828290697
theorem pr_117803860614956257905181628389288811:Pr 117803860614956257905181628389288811:=gk (a:=63576686681087504266288497860886023) (b:=81652411325710422145919541370353619) (x:=27915901747281401966140906647371281) (y:=106219115673835360905127748136269130) (l:=77) (by kernel_rfl) pr_281106708290365922417483
theorem pr_42397857483795139414954936246823134664928283620433:Pr 42397857483795139414954936246823134664928283620433:=gk (a:=3364909324110725350393248908478026560708593938080) (b:=39481602736232510777947453859475511645647502207222) (x:=28267737316345465148965384090741998001342580106071) (y:=27038786647464654801565906236370365154435681812919) (l:=116) (by kernel_rfl) pr_117803860614956257905181628389288811
theorem pr_38327663165350806031119262753451559585406518416019539:Pr 38327663165350806031119262753451559585406518416019539:=gk (a:=37110911953752367744417063935881668804917422593288758) (b:=24740607969168245162944709290587779203278281728859172) (x:=16089548850713737471729178983198296639515839121470620) (y:=16655074654598766391188725958329894517600676914352859) (l:=164) (by kernel_rfl) pr_42397857483795139414954936246823134664928283620433
theorem pr_689897936976314508560146730477862955506330993402271163:Pr 689897936976314508560146730477862955506330993402271163:=gk (a:=112636397873684001397574976404549053960217305045268746) (b:=380147842823683504716815545365353057115733404527782049) (x:=634081070921413143377105062230200149774706832346111249) (y:=72200319920872552466984400032537864802560153246909109) (l:=174) (by kernel_rfl) pr_38327663165350806031119262753451559585406518416019539
theorem pr_17038827753035930264137153439820936197194004180661929938290759428507:Pr 17038827753035930264137153439820936197194004180661929938290759428507:=gk (a:=15647903038502384936452487852896778140280207921016058106593554577185) (b:=3825042964967249651132830364041434656512939714026147537167313341073) (x:=6574011871561324606029994703978905920543744730590567714144689718595) (y:=10758816455551712937445270126082340795853602572906651544437943502003) (l:=178) (by kernel_rfl) pr_689897936976314508560146730477862955506330993402271163
theorem pr_1647307065031746668552129899417969648245342812431472890901254806414774214908070417:Pr 1647307065031746668552129899417969648245342812431472890901254806414774214908070417:=gk (a:=520941071202091562884193185108867842973855747257749482335745029014179587080114748) (b:=347294047468061041922795456739245228649237164838499654890496686009453058053409832) (x:=189019383143990923400729967797722246120331848446494002700937348126418733345810898) (y:=1373373351211491275264493594104766464940252573907964664943100158940620067866601781) (l:=223) (by kernel_rfl) pr_17038827753035930264137153439820936197194004180661929938290759428507
theorem pr_6589228260126986674208519597671878592981210367942840009946598553045116433316689039:Pr 6589228260126986674208519597671878592981210367942840009946598553045116433316689039:=gk (a:=2702814534043138227132079341718574249053051130312544525216978157225865031190510886) (b:=3998285776071087709490892760369675697029104209522643020126851622498948831899236937) (x:=3677925139333102556310257486957219314111730054665434516858948851281076041365705971) (y:=1681327768923786968245601260539381007539230514165770090381478168480502693016358759) (l:=269) (by kernel_rfl) pr_1647307065031746668552129899417969648245342812431472890901254806414774214908070417
theorem pr_10009037727132892758122741268863583582738461649468564377809154042523133720997480850767:Pr 10009037727132892758122741268863583582738461649468564377809154042523133720997480850767:=gk (a:=554063665865118111107617046400449281531494198620827052621535496114128417633165528467) (b:=8519570704305655542440551000577219993597288428381799760611221015395850539442205662068) (x:=8365557956057764459863798964313550134911309604403845941865196056277065785411655307426) (y:=9045327370189618551111057088651808628034768057218038095541095316601821312797957601341) (l:=271) (by kernel_rfl) pr_6589228260126986674208519597671878592981210367942840009946598553045116433316689039
theorem pr_272410634993229653233093811570822581217759528378732360155551381775158558143463178963156638407:Pr 272410634993229653233093811570822581217759528378732360155551381775158558143463178963156638407:=gk (a:=14953946607252593404488545551635342131598203378839939724968262608803974888340746939133302546) (b:=100772842735911613347356967558031088493651978378804079868495968997588835973381557613807747833) (x:=87805643510461783914576777741982160429878374836477509443106689371823691180211888573503329864) (y:=234615479854530694647956803320523260400632794913518814971139271452796926058308466058284595030) (l:=282) (by kernel_rfl) pr_10009037727132892758122741268863583582738461649468564377809154042523133720997480850767
theorem pr_34596150644140165960602914069494467814655460103962194757980939325666172338379047564308171139247:Pr 34596150644140165960602914069494467814655460103962194757980939325666172338379047564308171139247:=gk (a:=11149324210689888287366582139310869617008683896332150153446058169699528031673136378811878815088) (b:=22298648421379776574733164278621739234017367792664300306892116339399056063346272757623757630176) (x:=24179658202450526350323734664667372229338618186668834328891610826623042322197897105393579966424) (y:=13265021684357514001294785776575048347788159045830445056045424280685288028548387294012339321222) (l:=307) (by kernel_rfl) pr_272410634993229653233093811570822581217759528378732360155551381775158558143463178963156638407
theorem pr_597146473311005418503640286589090238588906131082445851943866964268587790312770226177927622976128816346691:Pr 597146473311005418503640286589090238588906131082445851943866964268587790312770226177927622976128816346691:=gk (a:=433018495266460069558195295538287658391955323124112781526546804498858982449026362842473831865730837584732) (b:=487727821281308519206676959221888518457605592443557138332320191088768585070274317287625095569196830505385) (x:=247664566500777713405406614532373187754305906486319016624636891318366885314964931261304658771542034932330) (y:=486661011802693745770612507898585308563311809734623022166844826160905682897681070305361482759464543438116) (l:=314) (by kernel_rfl) pr_34596150644140165960602914069494467814655460103962194757980939325666172338379047564308171139247
theorem pr_1427206217455557986375739135736995181813022062027378119410888211611316679435300519994972831353755882463484571265776499:Pr 1427206217455557986375739135736995181813022062027378119410888211611316679435300519994972831353755882463484571265776499:=gk (a:=14040671243461722882132257606346949968441843133962440673890566467421356822185129949384235873619130392262069381633463) (b:=485095853314160477380001216983229693916635249431767666919556448182053131026556926631247101033664714416002903343014475) (x:=806692581998827836411874150788908160273810707103511358539174461447780152339119879002302444302173697786394062283259562) (y:=49869322337316562574985265364431203530554269695329705651329354906389641340018647857848686469735636421085752357049259) (l:=348) (by kernel_rfl) pr_597146473311005418503640286589090238588906131082445851943866964268587790312770226177927622976128816346691
theorem pr_3904836210958406650724022275376418817440428361706906534708193099176046718599672310454135004594239000001520907147762367193:Pr 3904836210958406650724022275376418817440428361706906534708193099176046718599672310454135004594239000001520907147762367193:=gk (a:=119535802376277754614000681899278127064502909031844077593107952015593266895908336034310255242680785714332272667788643798) (b:=398452674587592515380002272997593756881676363439480258643693173385310889653027786781034184142269285714440908892628812660) (x:=3258487418749004613828377770131159852742478663205453680243998762742429594577566612194703544121423952705078830918758859638) (y:=3484690346315908322241962150208955493218357506005261791554855816236661451558939280751898023064752299096849909093371132770) (l:=389) (by kernel_rfl) pr_1427206217455557986375739135736995181813022062027378119410888211611316679435300519994972831353755882463484571265776499
theorem pr_248654272757799547202802332147470576099551832488516077753583597326683212129987928381963200320828104420264179279098332956244815317:Pr 248654272757799547202802332147470576099551832488516077753583597326683212129987928381963200320828104420264179279098332956244815317:=gk (a:=62211270989048085385900244448276056489498901767109386371648975890796283316790584846935434305245374997176018392360425302164890459) (b:=124358938245298572658200940348007563026183212007578283498960516369425259587856366025278022977106284804872072021273061186858198745) (x:=55455263373938467002112316914786995682422834873410465421505420133478149799088042422341124051484440368036710491697409397140645257) (y:=73746577061610864984289239028613286779359912718231690890995766725006511372990735605015831169317873831451389224643683345335059993) (l:=400) (by kernel_rfl) pr_3904836210958406650724022275376418817440428361706906534708193099176046718599672310454135004594239000001520907147762367193
theorem pr_578121184161883947246515422242869089431458010535799880777081863784562808338666345356464095915019125194193720750181020744612658782559:Pr 578121184161883947246515422242869089431458010535799880777081863784562808338666345356464095915019125194193720750181020744612658782559:=gk (a:=391492082039123637745785026194150682082527224203278212400064712952440491732120994536381066807016661773433595684259874901268312533641) (b:=453701782746710407579361824877056817865504152980785435192403763229814597267636111476408743176350816247020304039566923515716427949947) (x:=563844430100281484773482392026121718592898562647948423225221013683423790495803599157829690404191357295616781873908268803366871133670) (y:=43908123617830077021163246390931670681014077472306629757403261428945453370162748199594662631218109257181585119241452880611299231372) (l:=426) (by kernel_rfl) pr_248654272757799547202802332147470576099551832488516077753583597326683212129987928381963200320828104420264179279098332956244815317
theorem pr_10401208575955469265124092119820292753438538333550462741506762816947792702117665710266933807596832460506173818787985946584266012961314508052746074000588401:Pr 10401208575955469265124092119820292753438538333550462741506762816947792702117665710266933807596832460506173818787985946584266012961314508052746074000588401:=gk (a:=1468808812977800163211159891255505764348250926048913762591396994365720311516841276007898126687268392517613782755896064738703885661616711819552572277192945) (b:=2937617625955600326422319782511011528696501852097827525182793988731440623033682552015796253374536785035227565511792129477407771323233423639105144554385890) (x:=6241886602883603041121874869773459387843865377521201035329341705395457744528545478789166759479488150359481789070274471200466890799503832051757467532781071) (y:=2162761136508678231674419196011890242683460996526509956174330150051689641779383096272280390599595522966240303035271693891197499202650084151924202968455117) (l:=437) (by kernel_rfl) pr_578121184161883947246515422242869089431458010535799880777081863784562808338666345356464095915019125194193720750181020744612658782559
theorem pr_6864797660130609714981900799081393217269435300143305409394463459185543183397655394245057746333217197532963996371363321113864768612440380340372808892707005449:Pr 6864797660130609714981900799081393217269435300143305409394463459185543183397655394245057746333217197532963996371363321113864768612440380340372808892707005449:=gk (a:=522183124425519477391944216627712656601200087766002823349115031218195307085906996593779902782304091092488912525465484537418284810964852678952291585530588515) (b:=1044366248851038954783888433255425313202400175532005646698230062436390614171813993187559805564608182184977825050930969074836569621929705357904583171061177030) (x:=6264729563123633128099919003609374058301477501217935842890063915706662276632469367606846353516570763407743864274993763739948289939173913331717825956593201359) (y:=234682765360316763563440081912666664244843663859497066925627742757374803786685121415579078004267651409684376267000024569229596792705064454881740755915576578) (l:=511) (by kernel_rfl) pr_10401208575955469265124092119820292753438538333550462741506762816947792702117665710266933807596832460506173818787985946584266012961314508052746074000588401
theorem gk_P521:gkOK 6864797660130609714981900799081393217269435300143305409394463459185543183397656052122559640661454554977296311391480858037121987999716643812574028291115057151 6864797660130609714981900799081393217269435300143305409394463459185543183397656052122559640661454554977296311391480858037121987999716643812574028291115057148 1093849038073734274511112390766805569936207598951683748994586394495953116150735016013708737573759623248592132296706313309438452531591012912142327488478985984 2661740802050217063228768716723360960729859168756973147706671368418802944996427808491545080627771902352094241225065558662157113545570916814161637315895999846 3757180025770020463545507224491183603594455134769762486694567779615544477440556316691234405012945539562144444537289428522585666729196580810124344277578376784 6864797660130609714981900799081393217269435300143305409394463459185543183397655394245057746333217197532963996371363321113864768612440380340372808892707005449 520 = true:=by kernel_rfl
theorem pr_6864797660130609714981900799081393217269435300143305409394463459185543183397656052122559640661454554977296311391480858037121987999716643812574028291115057151:Pr 6864797660130609714981900799081393217269435300143305409394463459185543183397656052122559640661454554977296311391480858037121987999716643812574028291115057151:=gk gk_P521 pr_6864797660130609714981900799081393217269435300143305409394463459185543183397655394245057746333217197532963996371363321113864768612440380340372808892707005449
theorem pr_19207723:Pr 19207723:=prime_small 4381 (by decide) (by decide) (by kernel_rfl)
theorem pr_398714767027:Pr 398714767027:=gk (a:=97644432726) (b:=130192576968) (x:=230885203184) (y:=210182924534) (l:=24) (by kernel_rfl) pr_19207723
theorem pr_15379074261212780485267:Pr 15379074261212780485267:=gk (a:=9729618410155024388623) (b:=7846466459802439023075) (x:=10089253749848905338941) (y:=7603866188255693797446) (l:=38) (by kernel_rfl) pr_398714767027
theorem pr_26172539191811425823760424681:Pr 26172539191811425823760424681:=gk (a:=13086269595905712911880212153) (b:=26172539191811425823760423806) (x:=10977456060214445069282677012) (y:=10437585633142702636124013105) (l:=73) (by kernel_rfl) pr_15379074261212780485267
theorem pr_714411606646717470683203577119651126151875393:Pr 714411606646717470683203577119651126151875393:=gk (a:=710233760993812690152892445089711645881981310) (b:=700485454470368202248833137019852858585561783) (x:=474605045432443342969789378317540711769436675) (y:=288632409512197012467538159853436771560244612) (l:=94) (by kernel_rfl) pr_26172539191811425823760424681
theorem pr_19874475354852571201488346953090538405866906748476419336051:Pr 19874475354852571201488346953090538405866906748476419336051:=gk (a:=7752077713795800010236928097305809421973729663087901821109) (b:=5168051809197200006824618731537206281315819775391934547406) (x:=18446730557286794716640675289836961248127070397876919507221) (y:=10297804061497760113816609328023333981343916054583541793105) (l:=149) (by kernel_rfl) pr_714411606646717470683203577119651126151875393
theorem pr_2030932887561674545937691198442326251059594451420095732127103913:Pr 2030932887561674545937691198442326251059594451420095732127103913:=gk (a:=996676608650439308986780369526656454381405637172061751335850751) (b:=1341428701620851054637083979165213053274135241921406411599601805) (x:=862001187472069009834520623908953608479753216608000384194315547) (y:=1135982276414547164950504848610487326718898367504870972910398427) (l:=193) (by kernel_rfl) pr_19874475354852571201488346953090538405866906748476419336051
theorem pr_50773322189041863648442279961058036700471899040180850079637704251:Pr 50773322189041863648442279961058036700471899040180850079637704251:=gk (a:=3437543532708758469481492776588540242571067676628138330143034025) (b:=36140577147833748078615848491764384628695311144539325606520492184) (x:=45620111550860444439426623622766128938067675430431255439585820867) (y:=19179888295134064893747597222263180711661861362881514962598584804) (l:=210) (by kernel_rfl) pr_2030932887561674545937691198442326251059594451420095732127103913
theorem pr_115792089237316195423570985008687907852837564279074904382605163141518161494337:Pr 115792089237316195423570985008687907852837564279074904382605163141518161494337:=gk (a:=17973160913672451815133432440426861305947051512348505202979581222501990380411) (b:=59910536378908172717111441468089537686490171707828350676598604075006634601370) (x:=14226390859196790899904335957443581290174745359476271513595033997116891299834) (y:=96809468467820208789147583328515629134686310913698268316922910233287392495667) (l:=214) (by kernel_rfl) pr_50773322189041863648442279961058036700471899040180850079637704251
theorem gk_K256:gkOK 115792089237316195423570985008687907853269984665640564039457584007908834671663 0 7 55066263022277343669578718895168534326250603453777594175500187360389116729240 32670510020758816978083085130507043184471273380659243275938904335757337482424 115792089237316195423570985008687907852837564279074904382605163141518161494337 255 = true:=by kernel_rfl
theorem pr_115792089237316195423570985008687907853269984665640564039457584007908834671663:Pr 115792089237316195423570985008687907853269984665640564039457584007908834671663:=gk gk_K256 pr_115792089237316195423570985008687907852837564279074904382605163141518161494337
theorem pr_31220081:Pr 31220081:=prime_small 5586 (by decide) (by decide) (by kernel_rfl)
theorem pr_2747386471:Pr 2747386471:=gk (a:=1962418890) (b:=1177451309) (x:=299107899) (y:=1622390687) (l:=24) (by kernel_rfl) pr_31220081
theorem pr_98906029021:Pr 98906029021:=gk (a:=7849684835) (b:=43434922787) (x:=40184926807) (y:=75103817221) (l:=31) (by kernel_rfl) pr_2747386471
theorem pr_791249751667:Pr 791249751667:=gk (a:=326547516559) (b:=481448261595) (x:=739739561759) (y:=757407920146) (l:=36) (by kernel_rfl) pr_98906029021
theorem pr_4127158584570443:Pr 4127158584570443:=gk (a:=1244698620743459) (b:=283878632801131) (x:=901197097313581) (y:=596657473185098) (l:=39) (by kernel_rfl) pr_791249751667
theorem pr_14048847829330542089:Pr 14048847829330542089:=gk (a:=12264867152590155790) (b:=3493628825283256497) (x:=4778419207922732996) (y:=913858594416141402) (l:=51) (by kernel_rfl) pr_4127158584570443
theorem pr_4945194435791245689419:Pr 4945194435791245689419:=gk (a:=1491407845714820128547) (b:=340145649022678274923) (x:=4584778223392076601285) (y:=3401755369757050313316) (l:=63) (by kernel_rfl) pr_14048847829330542089
theorem pr_26424270632873662079294647291:Pr 26424270632873662079294647291:=gk (a:=10905254546900241493042235382) (b:=14540339395866988657389647176) (x:=8724848582814623556201509608) (y:=16324333278126446893576536165) (l:=72) (by kernel_rfl) pr_4945194435791245689419
theorem pr_3099169312811597081000502686392188473:Pr 3099169312811597081000502686392188473:=gk (a:=1739329716373855504643139262771126180) (b:=126496706645371309428591946383354629) (x:=1232057742793550095082530843282400881) (y:=136912279967592606784440785967635958) (l:=94) (by kernel_rfl) pr_26424270632873662079294647291
theorem pr_1332297598440044874827085038830181364212942568457:Pr 1332297598440044874827085038830181364212942568457:=gk (a:=231112848708987376245514751633806971343061465953) (b:=598174431952673209106038180699265102299688500121) (x:=237401830832396359179011508444514734985029764907) (y:=819810017526328514624195071405629276559517135778) (l:=121) (by kernel_rfl) pr_3099169312811597081000502686392188473
theorem gk_B160:gkOK 1332297598440044874827085558802491743757193798159 297190522446607939568481567949428902921613329152 173245649450172891208247283053495198538671808088 1089473557631435284577962539738532515920566082499 127912481829969033206777085249718746721365418785 1332297598440044874827085038830181364212942568457 159 = true:=by kernel_rfl
theorem pr_1332297598440044874827085558802491743757193798159:Pr 1332297598440044874827085558802491743757193798159:=gk gk_B160 pr_1332297598440044874827085038830181364212942568457
theorem pr_304792727:Pr 304792727:=prime_small 17457 (by decide) (by decide) (by kernel_rfl)
theorem pr_4876704403:Pr 4876704403:=gk (a:=387040030) (b:=1883594821) (x:=2485872409) (y:=2204406213) (l:=28) (by kernel_rfl) pr_304792727
theorem pr_229556259663509:Pr 229556259663509:=gk (a:=222268759356723) (b:=66802086145455) (x:=21844667186809) (y:=67395117711302) (l:=32) (by kernel_rfl) pr_4876704403
theorem pr_106514104232153843:Pr 106514104232153843:=gk (a:=52411702082488391) (b:=34377568032599907) (x:=4232229544358122) (y:=12022343860860229) (l:=47) (by kernel_rfl) pr_229556259663509
theorem pr_12986018087953595408168777:Pr 12986018087953595408168777:=gk (a:=12853507699301007699922153) (b:=4240332436882806663891843) (x:=2324211586291088046050708) (y:=3766711524693019844586503) (l:=56) (by kernel_rfl) pr_106514104232153843
theorem pr_2135271582795896234764100961508885367565401:Pr 2135271582795896234764100961508885367565401:=gk (a:=1416251560017686278159862882633444376446405) (b:=697231537239476321555624803758003385327409) (x:=1343648669033516435103810723794563460104812) (y:=666800724198284335577863209966254634266046) (l:=83) (by kernel_rfl) pr_12986018087953595408168777
theorem pr_305755694595216890551485446636669286383490471641099313006403727:Pr 305755694595216890551485446636669286383490471641099313006403727:=gk (a:=82250069891110976405662751726823316804915565470705078352599830) (b:=54833379927407317603775167817882211203277043647136718901733220) (x:=121669372878178425881198728154234961540668677445178991087993249) (y:=176114437031143309127094896668983962672912051935209394904392770) (l:=140) (by kernel_rfl) pr_2135271582795896234764100961508885367565401
theorem pr_109766294359682863707983275342564852050750699085473957997752346213:Pr 109766294359682863707983275342564852050750699085473957997752346213:=gk (a:=62906999106718834171826672418545938602184611171792092887600759806) (b:=83875998808958445562435563224727918136246148229056123850134346408) (x:=23919253324695218212217048608720132028135638562134999976652748090) (y:=66011888317594785364657008208756082223057442640077142073089512065) (l:=207) (by kernel_rfl) pr_305755694595216890551485446636669286383490471641099313006403727
theorem pr_22721622932454352787552537995910923612567546342330757191396560966559:Pr 22721622932454352787552537995910923612567546342330757191396560966559:=gk (a:=15546373585363504538851736523518000366493584339489465446745015398145) (b:=8371124238272656290150935051125077120419622336648173702093469829731) (x:=22434089712609954120643745523193271445805908389743107035804568687084) (y:=9405003259577041309615864397718031461661893761087993305651285112248) (l:=216) (by kernel_rfl) pr_109766294359682863707983275342564852050750699085473957997752346213
theorem gk_B224:gkOK 22721622932454352787552537995910928073340732145944992304435472941311 11020725272625742361946480833014344015343456918668456061589001510723 3949606626053374030787926457695139766118442946052311411513528958987 1428364927244201726431498207475486496993067267318520844137448783997 9337555360448823227812410753177468631215558779020518084752618816205 22721622932454352787552537995910923612567546342330757191396560966559 223 = true:=by kernel_rfl
theorem pr_22721622932454352787552537995910928073340732145944992304435472941311:Pr 22721622932454352787552537995910928073340732145944992304435472941311:=gk gk_B224 pr_22721622932454352787552537995910923612567546342330757191396560966559
theorem pr_13610843:Pr 13610843:=prime_small 3688 (by decide) (by decide) (by kernel_rfl)
theorem pr_2403294694081:Pr 2403294694081:=gk (a:=1792934136614) (b:=1932808429458) (x:=914053108977) (y:=779244376235) (l:=23) (by kernel_rfl) pr_13610843
theorem pr_174111606086616998377:Pr 174111606086616998377:=gk (a:=1776649041700173449) (b:=117258836752211447884) (x:=49573573634742498269) (y:=142323256098489605683) (l:=41) (by kernel_rfl) pr_2403294694081
theorem pr_3522765742006809660568032473309737:Pr 3522765742006809660568032473309737:=gk (a:=2911673725536240637816435003449789) (b:=2660047601107182804918718398213156) (x:=2072372769539320928285794080496008) (y:=857556537407993296755243053995019) (l:=67) (by kernel_rfl) pr_174111606086616998377
theorem pr_1676441182895195062414318133510415259125904969:Pr 1676441182895195062414318133510415259125904969:=gk (a:=838220591447597531207159066755207629562952297) (b:=1676441182895195062414318133510415259125904094) (x:=526597013971524343811724755741453913101000992) (y:=637186162734422923117392238306737888643545472) (l:=111) (by kernel_rfl) pr_3522765742006809660568032473309737
theorem pr_650459178963335684216755474438085836008922036633:Pr 650459178963335684216755474438085836008922036633:=gk (a:=219032172508062016113805414861804414166269665393) (b:=146021448338708010742536943241202942777513110262) (x:=417226870600184138929567804397383907250970740544) (y:=56498630326698415733006042394596183619980249553) (l:=150) (by kernel_rfl) pr_1676441182895195062414318133510415259125904969
theorem pr_76884956397045344220809746629001649092737531784414529538755519063063536359079:Pr 76884956397045344220809746629001649092737531784414529538755519063063536359079:=gk (a:=55130968517384522218454580231052167704240744608747630403784824434100915032535) (b:=33376980637723700216099413833102686315743957433080731268814129805138293705991) (x:=46531436418877884993397308205521154028535336659462183926892181490419380240484) (y:=1751031365388506237108243735506293931014544587296166088496165562371094619464) (l:=158) (by kernel_rfl) pr_650459178963335684216755474438085836008922036633
theorem gk_B256:gkOK 76884956397045344220809746629001649093037950200943055203735601445031516197751 56698187605326110043627228396178346077120614539475214109386828188763884139993 17577232497321838841075697789794520262950426058923084567046852300633325438902 63243729749562333355292243550312970334778175571054726587095381623627144114786 38218615093753523893122277964030810387585405539772602581557831887485717997975 76884956397045344220809746629001649092737531784414529538755519063063536359079 255 = true:=by kernel_rfl
theorem pr_76884956397045344220809746629001649093037950200943055203735601445031516197751:Pr 76884956397045344220809746629001649093037950200943055203735601445031516197751:=gk gk_B256 pr_76884956397045344220809746629001649092737531784414529538755519063063536359079
theorem pr_41365759:Pr 41365759:=prime_small 6430 (by decide) (by decide) (by kernel_rfl)
theorem pr_9307105399:Pr 9307105399:=gk (a:=5823744311) (b:=780127741) (x:=6033334123) (y:=6905001455) (l:=25) (by kernel_rfl) pr_41365759
theorem pr_111536333958659:Pr 111536333958659:=gk (a:=17704179993430) (b:=60784351310793) (x:=107596675140875) (y:=106253956817197) (l:=33) (by kernel_rfl) pr_9307105399
theorem pr_2352078213103871723:Pr 2352078213103871723:=gk (a:=2277409063481526581) (b:=2252519346940744867) (x:=688118898972044828) (y:=1810138060694108523) (l:=46) (by kernel_rfl) pr_111536333958659
theorem pr_73615864325141763343732604287:Pr 73615864325141763343732604287:=gk (a:=54919771798121632970721149228) (b:=12074559757033834199236564723) (x:=8748447925099954828433761417) (y:=51281653064856729194379577091) (l:=61) (by kernel_rfl) pr_2352078213103871723
theorem pr_339779984677702146066364452530607581:Pr 339779984677702146066364452530607581:=gk (a:=290609597284639497841547333240463995) (b:=306999726415660380583153039670511857) (x:=60568856912637120755291693269300108) (y:=152671333092675660424826571439761717) (l:=95) (by kernel_rfl) pr_73615864325141763343732604287
theorem pr_20299942766800765005647651722096535281750480932913:Pr 20299942766800765005647651722096535281750480932913:=gk (a:=8377754157727299843600618171023966941674801654851) (b:=19118464616352043232832179928747001482283521725176) (x:=15117443592936852109548819648490827682426191993089) (y:=8805364490395309196123161411546735805721320661088) (l:=118) (by kernel_rfl) pr_339779984677702146066364452530607581
theorem pr_5373447590110669271785636443576937430086444094483329285720873:Pr 5373447590110669271785636443576937430086444094483329285720873:=gk (a:=4770305513669675782095411944808097514464496287959690284262312) (b:=5154123198677580730080100262206450188042099437565642376099294) (x:=1714184793031426675492011114123873496602465406473998109904183) (y:=4495213920387475250763729416587454246450435254841863832481792) (l:=163) (by kernel_rfl) pr_20299942766800765005647651722096535281750480932913
theorem pr_126727387965170024105792449885318942511946068371092050205019986529:Pr 126727387965170024105792449885318942511946068371092050205019986529:=gk (a:=63363693982585012052896224942659471255973034185546025102509993077) (b:=126727387965170024105792449885318942511946068371092050205019985654) (x:=109501200615286630465982311046923038716671365577896519841681008353) (y:=16546546007335145811288708686174906581102162772653442213737053101) (l:=201) (by kernel_rfl) pr_5373447590110669271785636443576937430086444094483329285720873
theorem pr_1085807610274078746399827846579506050006615279238110456352260985045581031:Pr 1085807610274078746399827846579506050006615279238110456352260985045581031:=gk (a:=37996678993644082226296405688914814723779857329170486634985494835570451) (b:=75993357987288164452592811377829629447559714658340973269970989671140902) (x:=774134973358633599659660525532802626263512120714532845946109451351318092) (y:=133733027907676995229389887554119909392274523578768154258691518107683939) (l:=216) (by kernel_rfl) pr_126727387965170024105792449885318942511946068371092050205019986529
theorem pr_2908522885390911102303853465116756164867352602044090862297284214465071394468651912174371:Pr 2908522885390911102303853465116756164867352602044090862297284214465071394468651912174371:=gk (a:=1149836568708408003160584024364701922117347864207290840587296589012712533442421454372505) (b:=2705572969399546070309624992987638724656466977500921135256387202318522618607382244364584) (x:=2523790944524472760613384805615114883687475581731646362217287118425573031522530701312215) (y:=931971639293181819144229895298799754520127643587958856228573877569303974000335614840998) (l:=239) (by kernel_rfl) pr_1085807610274078746399827846579506050006615279238110456352260985045581031
theorem pr_1763593322239166354161909842446019520889512772717686063760686124016784784845843468355685258203921:Pr 1763593322239166354161909842446019520889512772717686063760686124016784784845843468355685258203921:=gk (a:=1243068211817333680689173576832117918988654746758553020823244423571614331386872883465806084731243) (b:=722543101395501007216437311218216317087796720799419977885802723126443877927902298575926911258565) (x:=174456353879109871331254157149321536135575119617983756294482383722346816228336584086874744440338) (y:=694214812355571585029341852065324273670321698164147347458998734246672192716120674401902528367350) (l:=290) (by kernel_rfl) pr_2908522885390911102303853465116756164867352602044090862297284214465071394468651912174371
theorem gk_B320:gkOK 1763593322239166354161909842446019520889512772719515192772960415288640868802149818095501499903527 524709318439392693105919717518043758943240164412117372990311331314771510648804065756354311491252 684460840191207052139729091116995410883497412720006364295713596062999867796741135919289734394278 565203972584199378547773331021708157952136817703497461781479793049434111597020229546183313458705 175146432689526447697480803229621572834859050903464782210773312572877763380340633688906597830369 1763593322239166354161909842446019520889512772717686063760686124016784784845843468355685258203921 319 = true:=by kernel_rfl
theorem pr_1763593322239166354161909842446019520889512772719515192772960415288640868802149818095501499903527:Pr 1763593322239166354161909842446019520889512772719515192772960415288640868802149818095501499903527:=gk gk_B320 pr_1763593322239166354161909842446019520889512772717686063760686124016784784845843468355685258203921
theorem pr_9416711:Pr 9416711:=prime_small 3067 (by decide) (by decide) (by kernel_rfl)
theorem pr_14789187718351:Pr 14789187718351:=gk (a:=10118917912529) (b:=5448648106707) (x:=8936626851284) (y:=4069542967429) (l:=23) (by kernel_rfl) pr_9416711
theorem pr_236627011144171:Pr 236627011144171:=gk (a:=97655591900767) (b:=143979398315235) (x:=175604314632134) (y:=144222238434089) (l:=43) (by kernel_rfl) pr_14789187718351
theorem pr_47325401796378451:Pr 47325401796378451:=gk (a:=46574204942467674) (b:=14773538126911781) (x:=662230612787287) (y:=35958816957736972) (l:=47) (by kernel_rfl) pr_236627011144171
theorem pr_86961183007850268706481:Pr 86961183007850268706481:=gk (a:=62115130719893049076040) (b:=37269078431935829445599) (x:=31873329103188573330392) (y:=48454469259293055342094) (l:=55) (by kernel_rfl) pr_47325401796378451
theorem pr_1537167786136972134453683304667:Pr 1537167786136972134453683304667:=gk (a:=1521482400564145888183747760738) (b:=501932338330439880637937405603) (x:=1064457515284869379993585731426) (y:=920539263418650530649659041048) (l:=76) (by kernel_rfl) pr_86961183007850268706481
theorem pr_6148671144547890539751550468321:Pr 6148671144547890539751550468321:=gk (a:=4203683333517435369013815115634) (b:=2133212437904370187260741995818) (x:=921437913603668495222097530671) (y:=246072858769098931259395579519) (l:=100) (by kernel_rfl) pr_1537167786136972134453683304667
theorem pr_22582229883085621977998568059601352520914542971:Pr 22582229883085621977998568059601352520914542971:=gk (a:=5069480177835547790979270380726834239388979019) (b:=14286716864809271047305216527502896492823486349) (x:=20679569387553435227430509626420723655873556692) (y:=439393192501255045651365381390155889910317361) (l:=102) (by kernel_rfl) pr_6148671144547890539751550468321
theorem pr_12771447857068722766523024257213514946924082180287887:Pr 12771447857068722766523024257213514946924082180287887:=gk (a:=6288147296342823337678649310120356041041738565763407) (b:=12706396768941030736134449044889247325310547164034196) (x:=7430881645450904186627838771456210613963597281123189) (y:=4652272512703888823073434894235650281891854238205124) (l:=153) (by kernel_rfl) pr_22582229883085621977998568059601352520914542971
theorem pr_5390178273196040156707655356953621728564060775175623408516184890180997:Pr 5390178273196040156707655356953621728564060775175623408516184890180997:=gk (a:=3393837982362569128969114329323815819568412449123633901241534471536925) (b:=2728391218751412119722933986780547183236529673772970732149984331988901) (x:=3628469786843124653898425509553338666872827672207983810076461290687090) (y:=3919405027745060005081387386897526419544313074629345116722593304951790) (l:=173) (by kernel_rfl) pr_12771447857068722766523024257213514946924082180287887
theorem pr_6754187114031124530104267584531196315294382507137538974164156923802132182988420073:Pr 6754187114031124530104267584531196315294382507137538974164156923802132182988420073:=gk (a:=3416253254844280164367983797098949764893957127995651044822798303909786053731004737) (b:=2277502169896186776245322531399299843262638085330434029881865535939857369154003158) (x:=4083600345807704844911497246388932867188096090483098568443406929362096097200091193) (y:=6741878945778980293764728088827075629876396919725368352459917865671869498918355277) (l:=231) (by kernel_rfl) pr_5390178273196040156707655356953621728564060775175623408516184890180997
theorem pr_285333355267108047884405690131288899607317843392165401609615673407919140780243170468628764611600503:Pr 285333355267108047884405690131288899607317843392165401609615673407919140780243170468628764611600503:=gk (a:=206985792039775967945830472803959108991579363202850968514582056219844868358209795275016413660734291) (b:=128638228812443888007255255476629318375840883013536535419548439031770595936176420081404062709868079) (x:=205747072827792253035337453325585506185283934750776785569545596230308495801518353374056244894755440) (y:=155344955679666671469868205604208015956185036047647401709764721426915259734373239727913658913834995) (l:=271) (by kernel_rfl) pr_6754187114031124530104267584531196315294382507137538974164156923802132182988420073
theorem pr_283126016430761700025971927712433248679955632555683635836204865901407138583221994673762880635411800749437:Pr 283126016430761700025971927712433248679955632555683635836204865901407138583221994673762880635411800749437:=gk (a:=179998827819046305283818491580497027969181375262750311068082467792268283818988311926122897679661120468749) (b:=145623098281807840369767346203184954398923289498439202812041668422555332230910417676909570027744227041853) (x:=245982864445089828204184369927481183477975209268874987826333321241843107180073982632352948207356689943152) (y:=87360561839262974100711466874948997670815910167831178142866481288933426993213530395039573284387226110231) (l:=327) (by kernel_rfl) pr_285333355267108047884405690131288899607317843392165401609615673407919140780243170468628764611600503
theorem pr_21659270770119316173069236842332604979796116387017648600075645274821611501358515537962695117368903252229601718723941:Pr 21659270770119316173069236842332604979796116387017648600075645274821611501358515537962695117368903252229601718723941:=gk (a:=14413203652650251280926414065324903038346920438713350774580251409519809147182891346185590465991182221415767759997682) (b:=9608802435100167520617609376883268692231280292475567183053500939679872764788594230790393643994121480943845173331788) (x:=9209886422888822265187926649274423562486774485678910750147172750927031483569515295235181505271168057331917538863865) (y:=8643259543005332216257847926933040818095105418874354019636815564821136493452413486860118778094064510447762362850501) (l:=346) (by kernel_rfl) pr_283126016430761700025971927712433248679955632555683635836204865901407138583221994673762880635411800749437
theorem gk_B384:gkOK 21659270770119316173069236842332604979796116387017648600081618503821089934025961822236561982844534088440708417973331 19048979039598244295279281525021548448223459855185222892089532512446337024935426033638342846977861914875721218402342 717131854892629093329172042053689661426642816397448020844407951239049616491589607702456460799758882466071646850065 4480579927441533893329522230328287337018133311029754539518372936441756157459087304048546502931308754738349656551198 21354446258743982691371413536748675410974765754620216137225614281636810686961198361153695003859088327367976229294869 21659270770119316173069236842332604979796116387017648600075645274821611501358515537962695117368903252229601718723941 383 = true:=by kernel_rfl
theorem pr_21659270770119316173069236842332604979796116387017648600081618503821089934025961822236561982844534088440708417973331:Pr 21659270770119316173069236842332604979796116387017648600081618503821089934025961822236561982844534088440708417973331:=gk gk_B384 pr_21659270770119316173069236842332604979796116387017648600075645274821611501358515537962695117368903252229601718723941
theorem pr_456549529:Pr 456549529:=prime_small 21366 (by decide) (by decide) (by kernel_rfl)
theorem pr_12272792682763103:Pr 12272792682763103:=gk (a:=6623411924030879) (b:=8506538843608287) (x:=8381244792724580) (y:=11338520496325900) (l:=28) (by kernel_rfl) pr_456549529
theorem pr_9325726175272292108648662009:Pr 9325726175272292108648662009:=gk (a:=2960547992149934002745606985) (b:=1973698661433289335163737990) (x:=1639467869904877281780971315) (y:=7372379292856598158231319870) (l:=53) (by kernel_rfl) pr_12272792682763103
theorem pr_2183172483632312713393248075505595812981:Pr 2183172483632312713393248075505595812981:=gk (a:=589110035265862160756908210850716330479) (b:=785480047021149547675877614467621773972) (x:=1995982833954045132735641780578306031812) (y:=644137588753998720581653084412214333829) (l:=92) (by kernel_rfl) pr_9325726175272292108648662009
theorem pr_241441745946543018760478807801450288540006471011897:Pr 241441745946543018760478807801450288540006471011897:=gk (a:=201907424972840068320166488395364861176730557629829) (b:=54124367999712372626618056329759811271151548082587) (x:=134821618078739812861285860610527817223526971941973) (y:=230009372407538883486196693171261696055814186185242) (l:=130) (by kernel_rfl) pr_2183172483632312713393248075505595812981
theorem pr_35980777479674394797756238416163026630448354718121391629491:Pr 35980777479674394797756238416163026630448354718121391629491:=gk (a:=23497650598971033337310196516677894942333619407752745553938) (b:=7343015812178447917909436411461842169479256064922732985590) (x:=19721487023374281698357954623542192352411227922392790840877) (y:=31508872929452978604031872373344003010951988467180297081408) (l:=167) (by kernel_rfl) pr_241441745946543018760478807801450288540006471011897
theorem pr_63930069733445789886336520318023443465681973444989237930397821647:Pr 63930069733445789886336520318023443465681973444989237930397821647:=gk (a:=59871017686877803226886582520053701023416451321497857744340817096) (b:=61224035035733798780036561786043615170838292029328317806359818613) (x:=47423401436608055128067989075693878533872639774289395931850962032) (y:=1306038024327238067005997438933578884413102175147867943372215626) (l:=194) (by kernel_rfl) pr_35980777479674394797756238416163026630448354718121391629491
theorem pr_8431928687353365565478582674305065924466391668395289759322336135748003:Pr 8431928687353365565478582674305065924466391668395289759322336135748003:=gk (a:=8039985856464368170430746116704548865400470213724101984855629395607088) (b:=7909338246168035705414800597504376512378496395500372726700060482226783) (x:=1914911811186512215518283626497718605700263949643874462924798758552388) (y:=6531928556352883290426340605366916013691210956592554082538858402881034) (l:=215) (by kernel_rfl) pr_63930069733445789886336520318023443465681973444989237930397821647
theorem pr_308406223668636698922944639895382091222686359097171987388035394469962435869:Pr 308406223668636698922944639895382091222686359097171987388035394469962435869:=gk (a:=186022801577907850143998354222611420102572724534802151122941983966009088294) (b:=145228327547664900551016258998354529729201513014012205701244180464691305769) (x:=157025539892832456661680114691916946812166331286471632128443657313725560263) (y:=100400024944243796411323213292089057836501391519749713244527526423629914208) (l:=232) (by kernel_rfl) pr_8431928687353365565478582674305065924466391668395289759322336135748003
theorem pr_1233624894674546795691778559581528364913984390129460061609467442957708963179:Pr 1233624894674546795691778559581528364913984390129460061609467442957708963179:=gk (a:=949822507031422857536341562572048741074774623198007283057382168511037513391) (b:=222006706462766306460301521854189705745188285422184834835098964688122021201) (x:=948439180269337015782826603734937248162314165895312127248966320677028222821) (y:=968536702207677115720751620753037210350208833098936388138340270221294091504) (l:=247) (by kernel_rfl) pr_308406223668636698922944639895382091222686359097171987388035394469962435869
theorem pr_57970501050546303023148058071855180924050662997466832542309081591644081357451257:Pr 57970501050546303023148058071855180924050662997466832542309081591644081357451257:=gk (a:=47914393725451536172193803100206833212735752069334830978847302131869087652587229) (b:=37858286400356769321239548128558485501420841141202829415385522672094093947723201) (x:=43659951787416504056224181965292377747778059493053935344145636311266479005296072) (y:=20626846714733208887589467300507051281787212301252461976073442410218196852617895) (l:=249) (by kernel_rfl) pr_1233624894674546795691778559581528364913984390129460061609467442957708963179
theorem pr_1400683246383299773645303379132164881486913666671826971663293911206160210313306412491:Pr 1400683246383299773645303379132164881486913666671826971663293911206160210313306412491:=gk (a:=385902527064786672330848890169065834695374173470809471784785057169044139576115032009) (b:=257268351376524448220565926779377223130249448980539647856523371446029426384076688006) (x:=1269621531051630507039218564215762190671090065359260316191349516934971468023509909579) (y:=742713940945947299607280334550298238504076937842789057569732682545524909104371141411) (l:=264) (by kernel_rfl) pr_57970501050546303023148058071855180924050662997466832542309081591644081357451257
theorem pr_83118090194689015731062406932633225977462618517967742433791823166381958577503815820541835049:Pr 83118090194689015731062406932633225977462618517967742433791823166381958577503815820541835049:=gk (a:=46647907762325468012330942666273749273065755290696181978148472185214364507782753776834703340) (b:=3392575109987306764533159466638090856222964021141540507501707068015590146020563911042523877) (x:=45249455428626460554921336781218169093634406782153797765986286955741228042038968921733526141) (y:=71198455347892843451282863039660634326675164331337487548413218846837191247835436973358284035) (l:=279) (by kernel_rfl) pr_1400683246383299773645303379132164881486913666671826971663293911206160210313306412491
theorem pr_300222023708160541323962362128688801127697460562398690539683663957607765416862107631471551133763984751:Pr 300222023708160541323962362128688801127697460562398690539683663957607765416862107631471551133763984751:=gk (a:=104972090778262663659555183543799593145183256958627247598257886024479724768872433317205160595521667680) (b:=69981393852175109106370122362533062096788837972418165065505257349653149845914955544803440397014445120) (x:=251978399825599381337658748837544516935849777771038912146814624220664193015046465644368454699283002254) (y:=21902360515154845463224204021060637201446602611932486212751682192946992476210866436791087039309987273) (l:=305) (by kernel_rfl) pr_83118090194689015731062406932633225977462618517967742433791823166381958577503815820541835049
theorem pr_36326864868687425500199445817571344936451392728050244723934989847489750750012840922491422752149453467773:Pr 36326864868687425500199445817571344936451392728050244723934989847489750750012840922491422752149453467773:=gk (a:=10837162415255155255070720082709764958043946453362103745155338015521999974723606688625969273514723255566) (b:=19333729899732578670113628660996958284179761878258150738081888626177916899820018099914453766392966659635) (x:=19174336234833897593628928390286234156992086707028728534939266541783317357889759276056569241156030121833) (y:=6577544370783369075971748345790001429910413173465522059830153094813353546874101547751068971692569337707) (l:=337) (by kernel_rfl) pr_300222023708160541323962362128688801127697460562398690539683663957607765416862107631471551133763984751
theorem pr_227812254060438509921281272317249007219983893848098572012996979864871653169211226212021954079872378786476708280607184197:Pr 227812254060438509921281272317249007219983893848098572012996979864871653169211226212021954079872378786476708280607184197:=gk (a:=89259772058768305056876287983951365401981993496038621782870161701440940130626620796523221773985084085929470495910417197) (b:=211381350746137876652105040200800248414643924896091462530578094377541728866558564672363450569238308581604119184345067596) (x:=105025708473161624263203042778328480306762763064311014554202159800510076664379660638056495692553476933988190106347796617) (y:=126876543192983605549289717397311299667961119647688133094035203727914036183210301286568267616875372055426940561840209890) (l:=344) (by kernel_rfl) pr_36326864868687425500199445817571344936451392728050244723934989847489750750012840922491422752149453467773
theorem pr_109820997690407471600732220383431594412523195739565182413161428749221568841299934875249460145717113359745565612438644378963097:Pr 109820997690407471600732220383431594412523195739565182413161428749221568841299934875249460145717113359745565612438644378963097:=gk (a:=65445007287383650020042217665650951229790895435569889279278382413981960119228304317142186122360457173723691705547434604517690) (b:=21069016884359828439352214947870308047058595131574596145395336078742351397156673759034912099003800987701817798656224830072283) (x:=31074747246443374782787228657785382041293949209115479439323680716921530710860974373498959645318300854145966501246487838320106) (y:=49020649845424472808043906613452132927461309516748217177080592714493294909776678081987930560317289375212938265229418769990005) (l:=396) (by kernel_rfl) pr_227812254060438509921281272317249007219983893848098572012996979864871653169211226212021954079872378786476708280607184197
theorem pr_1432157839878977991134749567400629306815420166881959734290487260168864456764278957500102075888620710317131223921599818519094664069499:Pr 1432157839878977991134749567400629306815420166881959734290487260168864456764278957500102075888620710317131223921599818519094664069499:=gk (a:=43841566526907489524533150022468244086186331639243665335423079392924422145845274209186798241488389091340751752702035260788612165389) (b:=29227711017938326349688766681645496057457554426162443556948719595282948097230182806124532160992259394227167835134690173859074776926) (x:=341851753058006481566831045811084570905552583896392802066305819862256167018054662085589049776480944971080038977837508768926685697400) (y:=830591413930174280035495796689225046998089815279767187408458885963326443025923011470550706084097371472561166213311267343007639563127) (l:=415) (by kernel_rfl) pr_109820997690407471600732220383431594412523195739565182413161428749221568841299934875249460145717113359745565612438644378963097
theorem pr_385250458927445079615247633630769283533348024891247168524141072985386396806436124662071583802130732126494594364091805043330307776719683:Pr 385250458927445079615247633630769283533348024891247168524141072985386396806436124662071583802130732126494594364091805043330307776719683:=gk (a:=103802975113985492134432329814849534492790105437044074393893530918296996239132141495340996098489934883936870759038136575421986694044265) (b:=138403966818647322845909773086466045990386807249392099191858041224395994985509521993787994797986579845249161012050848767229315592059020) (x:=233716624566556845756656642070166956047565901641364662305922305455062798670152215204771990521883097142341327688128904069083549879351) (y:=265543133027183912882468883373110564112424688434743040475903714646597166083614449662116249245318719543866459509342439384980531581799027) (l:=439) (by kernel_rfl) pr_1432157839878977991134749567400629306815420166881959734290487260168864456764278957500102075888620710317131223921599818519094664069499
theorem pr_1508646961167217770894583577260230606625127399042522171895232828067940874570490759536360939028480357950133389684644422905478858665398719168329:Pr 1508646961167217770894583577260230606625127399042522171895232828067940874570490759536360939028480357950133389684644422905478858665398719168329:=gk (a:=1115783684170758822229241256107480345296103410833631098134401310681313721761006085720834274745152283112128513301074944991247068596631381159088) (b:=1183931963017627114684236322474293327048142853110219332906585241664955036030053041266930778068096366656244022912631282211209363676549860960200) (x:=244998663015930054299212147820010431384347543730561942057790203507945151208255123141701881435641729652075684372304198745201960422035496156865) (y:=661545489551484960585037645498549675068917669498431570308328750158700624939214678552597748509921284933003070673767093952071051787696690838920) (l:=447) (by kernel_rfl) pr_385250458927445079615247633630769283533348024891247168524141072985386396806436124662071583802130732126494594364091805043330307776719683
theorem pr_962771619973128838263217086084900852303669676610904197024701149779457451362410718913148632649671645698140544065815797656896480288898037600728706535001:Pr 962771619973128838263217086084900852303669676610904197024701149779457451362410718913148632649671645698140544065815797656896480288898037600728706535001:=gk (a:=455218062110878715702380438665273213166054389359446674219181921722424213370522407515626479369261271304746684301386732911630781226668330430033380240052) (b:=910436124221757431404760877330546426332108778718893348438363843444848426741044815031252958738522542609493368602773465823261562453336660860066760480104) (x:=624746907044884636307055847641166801294955764864821564718810047847604329138391960745729953122133357986715819736333667748213449744991132335520480749733) (y:=239640083263552350562505379590045361378519253306472781116446707295276725016176234904459555537770092110730443172823600886990552844315871474675446907454) (l:=468) (by kernel_rfl) pr_1508646961167217770894583577260230606625127399042522171895232828067940874570490759536360939028480357950133389684644422905478858665398719168329
theorem pr_8948962207650232551656602815159153422162609644098354511344597187200057010413418528378981730643524959857451398370029280583094215613882043973354392115544169:Pr 8948962207650232551656602815159153422162609644098354511344597187200057010413418528378981730643524959857451398370029280583094215613882043973354392115544169:=gk (a:=4160570149464121631464978887136647896239326441332468784924302239225581244164581071250041630814046853698050181344349114620116476546961294599880224827490950) (b:=8739688238076236122081054468197200878934624056953882197512599617617092169718666399752682240971714542370334386476252263468807128107228892382156411295356746) (x:=495415968440108982613841800779463488839660554110016336429329852536055212859880763428827289792689711130503506128553242651204760012749835007402435645062676) (y:=8807215635035315774825765858169442244658272221681088128125181121916882663740741324323816979009597812687825468134578617301091569561135387443059564690623100) (l:=498) (by kernel_rfl) pr_962771619973128838263217086084900852303669676610904197024701149779457451362410718913148632649671645698140544065815797656896480288898037600728706535001
theorem gk_B512:gkOK 8948962207650232551656602815159153422162609644098354511344597187200057010413552439917934304191956942765446530386427345937963894309923928536070534607816947 6294860557973063227666421306476379324074715770622746227136910445450301914281276098027990968407983962691151853678563877834221834027439718238065725844264138 3245789008328967059274849584342077916531909009637501918328323668736179176583263496463525128488282611559800773506973771797764811498834995234341530862286627 6792059140424575174435640431269195087843153390102521881468023012732047482579853077545647446272866794936371522410774532686582484617946013928874296844351522 6592244555240112873324748381429610341312712940326266331327445066687010545415256461097707483288650216992613090185042957716318301180159234788504307628509330 8948962207650232551656602815159153422162609644098354511344597187200057010413418528378981730643524959857451398370029280583094215613882043973354392115544169 511 = true:=by kernel_rfl
theorem pr_8948962207650232551656602815159153422162609644098354511344597187200057010413552439917934304191956942765446530386427345937963894309923928536070534607816947:Pr 8948962207650232551656602815159153422162609644098354511344597187200057010413552439917934304191956942765446530386427345937963894309923928536070534607816947:=gk gk_B512 pr_8948962207650232551656602815159153422162609644098354511344597187200057010413418528378981730643524959857451398370029280583094215613882043973354392115544169
theorem pr_223:Pr 223:=prime_small 13 (by decide) (by decide) (by kernel_rfl)
theorem pr_251:Pr 251:=prime_small 14 (by decide) (by decide) (by kernel_rfl)
theorem gk_Tiny1:gkOK 251 248 26 2 84 223 7 = true:=by kernel_rfl
theorem pr_211:Pr 211:=prime_small 13 (by decide) (by decide) (by kernel_rfl)
theorem pr_241:Pr 241:=prime_small 14 (by decide) (by decide) (by kernel_rfl)
theorem gk_Tiny2:gkOK 241 0 13 3 47 211 7 = true:=by kernel_rfl
theorem pr_229:Pr 229:=prime_small 14 (by decide) (by decide) (by kernel_rfl)
theorem pr_239:Pr 239:=prime_small 14 (by decide) (by decide) (by kernel_rfl)
theorem gk_Tiny3:gkOK 239 117 8 0 41 229 7 = true:=by kernel_rfl
end Go.Proofs.Ytlmiolnccgjjjaa.Grp
set_option linter.unusedVariables false
set_option maxRecDepth 100000
namespace Go.Proofs.Ytlmiolnccgjjjaa.Grp
theorem root_P192:rootOK 6277101735386680763835789423207666416083908700390324961279 6277101735386680763835789423207666416083908700390324961276 2455155546008943817740293915197451784769108058161191238065 191 2485386128265731073471082885137078098950830510687347950792 204494219645392091515820350663098725742005806122466179303 105597762148406811168096478311383789005400348177979944870 4871298686935519674170250204910228760438566091784467946767 3076984081099336410538445874700673783096882824010410041625 = true:=by kernel_rfl
theorem root_P224:rootOK 26959946667150639794667015087019630673557916260026308143510066298881 26959946667150639794667015087019630673557916260026308143510066298878 18958286285566608000408668544493926415504680968679321075787234672564 223 19210574226754847695534190008803229529388947295036747370397045658491 9070461458155291254317755508530519593526533612090375268405278768450 9439789507511725786058244597052783711805086828869674293526675889612 4447412785031720342771701563499662000791675740805516550464163634437 1261710631285627074303005901530361786216288604486499842249704943048 = true:=by kernel_rfl
theorem root_P256:rootOK 115792089210356248762697446949407573530086143415290314195533631308867097853951 115792089210356248762697446949407573530086143415290314195533631308867097853948 41058363725152142129326129780047268409114441015993725554835256314039467401291 255 6389611969556882025875921584714237703390037729321797349080302270353162149340 107286402702237026811154678719514266289498743974321057492273529440068429825344 34768139465301476436978405170953382516735956999154666452188405812258086013549 74462945259064871768191128030512052509059297803194871526163573358218695456204 76626890310466861426869089647039036757962535851890885406097439786770458211455 = true:=by kernel_rfl
theorem root_P384:rootOK 39402006196394479212279040100143613805079739270465446667948293404245721771496870329047266088258938001861606973112319 39402006196394479212279040100143613805079739270465446667948293404245721771496870329047266088258938001861606973112316 27580193559959705877849011840389048093056905856361568521428707301988689241309860865136260764883745107765439761230575 383 32869823982379043685874326169836433808330785959775282655386939942853122566550201179306892395623670448475897125153980 33047296559504255592651188709346863485400206543726318781804127838965342233844565497607730041700790082657763121017919 12157362177932134139146813183752135342286725243554133716818896354380897714709611791313184492360272402950851405460538 8235438212423615602427778915669574859600037698862346933589434399495169446996583974901273360826717582835190849638831 23037766613497683937702734290281044719364893268180251583910224888989381657771069200037813904257325918671976092329602 = true:=by kernel_rfl
theorem root_P521:rootOK 6864797660130609714981900799081393217269435300143305409394463459185543183397656052122559640661454554977296311391480858037121987999716643812574028291115057151 6864797660130609714981900799081393217269435300143305409394463459185543183397656052122559640661454554977296311391480858037121987999716643812574028291115057148 1093849038073734274511112390766805569936207598951683748994586394495953116150735016013708737573759623248592132296706313309438452531591012912142327488478985984 520 3792397057851446492329021792088708927416161011315554599024045281896889645332597344606863178928498046894403056022861285059806575182932135587373953183502137441 4217347365266914139557443960212267452818938426834944779036201887205476139519633692529201977572576696298383780904887696008132175920949239907070655655305564393 3919380404691066388712376322317341026252002696138380915147944189379687824774581460974855590730258562532022938584569429027963361353339635641909491533809725330 2592645775458497527836362227091103884154287512470494672274301275565663408730650270660448980645397363205839490313252565391972848223674401530161387302727484004 5556850081864827842302249485475501585472702946772625307642304195702912034363837867267334216347521692509406916620096684956176894315447091116492501000392161958 = true:=by kernel_rfl
theorem root_K256:rootOK 115792089237316195423570985008687907853269984665640564039457584007908834671663 0 7 255 0 99250362203413881791632272864589635302802843999120483462392214863921858289997 46758632835564736012269203954919337884311706168562511263687580192619680188360 0 0 = true:=by kernel_rfl
theorem root_B160:rootOK 1332297598440044874827085558802491743757193798159 297190522446607939568481567949428902921613329152 173245649450172891208247283053495198538671808088 159 62852999214913352478784562928072849602226389215 332628450875681639623770945460855297588036970832 866276026852477386583739955587856805174089846777 452762556115001297277164478576350244468511252619 351750380667266526775263869464366639180417248434 = true:=by kernel_rfl
theorem root_B224:rootOK 22721622932454352787552537995910928073340732145944992304435472941311 11020725272625742361946480833014344015343456918668456061589001510723 3949606626053374030787926457695139766118442946052311411513528958987 223 11758666007018848293513997618888282671959123242788684090200373923565 268476309152433713029873885645243206835950998139016545725225821201 6959669552391944620225386365448164800752207546902971350913933966495 2334923022141376185092217891892732897499336396810527250141559708482 21213892938015945545597082772589297824092146818263170675852146397638 = true:=by kernel_rfl
theorem root_B256:rootOK 76884956397045344220809746629001649093037950200943055203735601445031516197751 56698187605326110043627228396178346077120614539475214109386828188763884139993 17577232497321838841075697789794520262950426058923084567046852300633325438902 255 15753133352049499928809741573826840914120852639970811939764947606343843841305 30879465705171218781180964745681405181399714776702708610237084133626748968277 57300115342307814829368171194017451425362166738975514114819334576929185469628 36567706687211352878623830248023275230139348886519930341788893933933071887964 5347744486777530706669047377084680431416082047222058099865314757079289018413 = true:=by kernel_rfl
theorem root_B320:rootOK 1763593322239166354161909842446019520889512772719515192772960415288640868802149818095501499903527 524709318439392693105919717518043758943240164412117372990311331314771510648804065756354311491252 684460840191207052139729091116995410883497412720006364295713596062999867796741135919289734394278 319 1515153623756246495274968117718632301573060547001699921971601066746968619846309147336513369256574 1698905138133859904422703592576659888411468285208991445123739633581809689954499335736908823335669 591398295572457992264474255279168440779894522159829821427394627523920432340975599627340802408935 723011386214059723890258847105443730712169077323097966906237591005955893472217848824699974159717 122870849904181773089670971022562028177776873262791750757648614230269868632418475396154339683393 = true:=by kernel_rfl
theorem root_B384:rootOK 21659270770119316173069236842332604979796116387017648600081618503821089934025961822236561982844534088440708417973331 19048979039598244295279281525021548448223459855185222892089532512446337024935426033638342846977861914875721218402342 717131854892629093329172042053689661426642816397448020844407951239049616491589607702456460799758882466071646850065 383 5318736062408103830530398522599134326283166458441988961563257683291536000831355264396545316195635205581114333439290 17957081898686030068453244536954453147072410901978348095914738612777059989082143497551094759613635827317327533497772 4643256948357306801182104578797069499791313285794868896678261438458615860465573791712519540292328347437871877550575 1976113098210081074617925902571799281931794102930411075466637102904693541261693854282593756972459711385728480861278 18045346159989301294719205289786962596468003789292587159741834949006371209014629163014746348076599162029150578683262 = true:=by kernel_rfl
theorem root_B512:rootOK 8948962207650232551656602815159153422162609644098354511344597187200057010413552439917934304191956942765446530386427345937963894309923928536070534607816947 6294860557973063227666421306476379324074715770622746227136910445450301914281276098027990968407983962691151853678563877834221834027439718238065725844264138 3245789008328967059274849584342077916531909009637501918328323668736179176583263496463525128488282611559800773506973771797764811498834995234341530862286627 511 1094243395426691550834966689663674906337274022479743561213870777480032843430748247411057374235432339728310212643531332425208035661911035219991667991224939 8575653026055259116208388035495114438228822483834604952796293679140902362387385097509835033174327084053052054098390708357998950852989645833149710930991394 1980640283309979095730852824049519563548238190526698414050554203846063330593484879663419473345296546803597274808794758955751942903882298593095810355797106 5423510712171489546644718125848465800445423157029586731376840833885116518002476487579816819625716701205282987784671943974892074197635932083426899437475869 1803314254406975735450288165685996255159518649509801042516748854645051387409671406770237299640480790704019033082794117735071555073817603589011800439246700 = true:=by kernel_rfl
theorem root_Tiny1:rootOK 251 248 26 7 27 108 119 220 224 = true:=by kernel_rfl
theorem root_Tiny2:rootOK 241 0 13 7 0 204 12 0 0 = true:=by kernel_rfl
theorem root_Tiny3:rootOK 239 117 8 7 105 51 6 117 195 = true:=by kernel_rfl
end Go.Proofs.Ytlmiolnccgjjjaa.Grp
set_option linter.unusedVariables false
set_option linter.unusedSectionVars false
namespace Go.Proofs.Ytlmiolnccgjjjaa.Grp
section
variable {p:Nat} [NeZero p]
theorem neg_one_sq:(-1:Fin p)*-1 = 1:=by grind -lia
theorem sq_one (hd:Dom p) {x:Fin p} (h:x*x = 1) (h1:x≠1):x = -1:=by
  have e:(x-1)*(x+1) = 0:=lin1 (c1:=1) (by clear h; grind -lia) (sub_of_eq h)
  rcases hd _ _ e with e|e
  · exact absurd (eq_of_sub e) h1
  · exact eq_of_sub (lin1 (c1:=1) (by clear h e; grind -lia) e)
structure TS (a x c t:Fin p) (m:Nat):Prop where
  pos:0<m
  root:x*x = a*t
  cc:fpow c (2^(m-1)) = -1
  tt:fpow t (2^(m-1)) = 1
theorem TS.less (hd:Dom p) {a x c t:Fin p} {m k:Nat} (h:TS a x c t m) (hk:∀ j,j<k→fpow t (2^j)≠1):k≤m-1:=by
  refine Nat.le_of_not_lt fun hlt=>?_
  exact hk (m-1) (by omega) h.tt
theorem TS.next (hd : Dom p) {a x c t : Fin p} {m k : Nat} (h : TS a x c t m) (h1 : t ≠ 1) (hk : ∀ j, j < k → fpow t (2 ^ j) ≠ 1) (he : fpow t (2 ^ k) = 1) :
    0<k∧k<m∧TS a (x*fpow c (2^(m-k-1))) (fpow c (2^(m-k-1))*fpow c (2^(m-k-1))) (t*(fpow c (2^(m-k-1))*fpow c (2^(m-k-1)))) k:=by
  have hk0:0<k:=Nat.pos_of_ne_zero fun e=>h1 (by rw [e,Nat.pow_zero,fpow_one] at he; exact he)
  have hpos:=h.pos
  have hle:=h.less hd hk
  have hb:fpow (fpow c (2^(m-k-1))*fpow c (2^(m-k-1))) (2^(k-1)) = -1:=by
    rw [← fpow_add,← Nat.mul_two,← Nat.pow_succ,← fpow_mul,← Nat.pow_add,show (m-k-1).succ+(k-1) = m-1 by omega]
    exact h.cc
  refine ⟨hk0,by omega,hk0,?_,hb,?_⟩
  · have:=h.root
    refine eq_of_sub (lin1 (c1:=fpow c (2^(m-k-1))*fpow c (2^(m-k-1))) ?_ (sub_of_eq this))
    clear this he hb; grind -lia
  · rw [mul_fpow,hb]
    have e1:fpow t (2^(k-1)) = -1:=by
      refine sq_one hd ?_ (hk (k-1) (by omega))
      rw [← fpow_add,← Nat.mul_two,← Nat.pow_succ,show (k-1).succ = k by omega]
      exact he
    rw [e1]; exact neg_one_sq
theorem TS.done {a x c t:Fin p} {m:Nat} (h:TS a x c t m) (h1:t = 1):x*x = a:=by
  rw [h.root,h1]; grind -lia
end
end Go.Proofs.Ytlmiolnccgjjjaa.Grp
