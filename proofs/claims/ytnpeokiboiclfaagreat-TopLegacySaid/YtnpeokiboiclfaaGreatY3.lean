/- Part 3 of what the proof leans on: a symbolic execution of the model, walks of the program's functions, and the mathematics. No condition. -/
import Derived.WalkKit
import Derived.Orders
import Derived.Laws.StructEq
import Derived.WalkSpells
import Derived.OrdersHeld
import Derived.KernelRfl
import Derived.Laws.Externs
import Derived.Laws.Bits64
import Derived.Laws.MakeOwn
import Derived.Laws.BytesString
import Derived.Carry
import Derived.WideShapes
import GoSem.Claim
import Derived.Test.YtnpeokiboiclfaaGreatProg
import Derived.Deep.Upon
import Derived.Shelf.Strings.Repeat
import Derived.Ground.NamesProg
import Derived.Lib.Agree
import Derived.Shelf.Strings.Builder1
import Derived.Laws.AppendOwn
import Derived.Lib.ConvBytes
import Derived.Laws.CopyRow
import Derived.MapKept
import Derived.Test.YtnpeokiboiclfaaGreatRows
import Derived.ProofKit
import Derived.OpenShut
import Derived.SizedLaws
import Derived.ChangeMaps5
import Derived.Test.YtnpeokiboiclfaaGreatY2
set_option linter.unusedVariables false
set_option linter.unusedSimpArgs false
set_option maxRecDepth 20000
namespace Go.Proofs.YtnpeokiboiclfaaGreat
open Go Go.RowKit
theorem dvL_m (m:Nat) {i:Nat} (h:i<9):(dvL m)[i]? = some (.int .u64 (limb (dnm m) i:Int)):=dv_m _ _ _ h
theorem dvL_n (m:Nat):(dvL m)[9]? = some (.int .i64 (nw m:Int)):=dv_n _ _ _
theorem dvL_s (m:Nat):(dvL m)[10]? = some (.int .i64 (dsh m:Int)):=dv_s _ _ _
theorem guess_facts {U m a : Nat} (hm : m ≠ 0) (hU : U < dnm m * 2 ^ (64 * (a + 1))) :
    limb U (a+nw m)*18446744073709551616+limb U (a+nw m-1) = U/2^(64*a)/2^(64*(nw m-1))∧limb (dnm m) (nw m-1) = dnm m/2^(64*(nw m-1))∧9223372036854775808≤limb (dnm m) (nw m-1) ∧
    U/2^(64*a)/dnm m≤U/2^(64*a)/2^(64*(nw m-1))/limb (dnm m) (nw m-1):=by
  have hn:=nw_pos hm
  have h1:=win_lt (dnm_lt m) hU
  rw [Nat.add_assoc] at h1
  have h2:=win_div h1
  obtain ⟨h3,h4⟩:=dnm_top hm
  refine ⟨?_,h3,h4,?_⟩
  · rw [show a+nw m-1 = a+(nw m-1) by omega,← limb_div,← limb_div]
    have:=two_words (R:=U/2^(64*a)) (j:=nw m-1) (by rw [show nw m-1+2 = nw m+1 by omega]; exact h2)
    rw [this,show nw m-1+1 = nw m by omega]
  · rw [h3]
    apply div_cut (pow64_pos _)
    rw [← h3]; omega
theorem guess_step {U m a q r : Nat} (hm : m ≠ 0) (hn : 2 ≤ nw m) (h1 : q * limb (dnm m) (nw m - 1) + r = U / 2 ^ (64 * a) / 2 ^ (64 * (nw m - 1)))
    (h2:r*18446744073709551616+limb U (a+nw m-2)<q*limb (dnm m) (nw m-2)):U/2^(64*a)/dnm m<q:=by
  refine guess_more (k:=2^(64*(nw m-2))) (M:=18446744073709551616) (pow64_pos _) (dnm_pos hm) (top:=limb (dnm m) (nw m-1)) (d2:=limb (dnm m) (nw m-2)) ?_ (R2:=U/2^(64*a)/2^(64*(nw m-1))) (u2:=limb U (a+nw m-2)) ?_ h1 h2
  · have:=two_words (R:=dnm m) (j:=nw m-2) (by rw [show nw m-2+2 = nw m by omega]; exact dnm_lt m)
    rw [this,show nw m-2+1 = nw m-1 by omega]
  · have:=next_word (U/2^(64*a)) (nw m-2)
    rw [this,limb_div,show nw m-2+1 = nw m-1 by omega,show a+(nw m-2) = a+nw m-2 by omega]
theorem two_le {a b r u:Nat} (hb:b<18446744073709551616) (hu:u<18446744073709551616) (h:r<a∨(a = r∧u<b)):r*18446744073709551616+u<a*18446744073709551616+b:=by omega
theorem prod_parts (p:Nat):p/18446744073709551616*18446744073709551616+p%18446744073709551616 = p:=by omega
theorem guess_next {top r q d2 u R2:Nat} (h1:q*top+r = R2) (h0:0<q):(q-1)*top+(r+top) = R2:=by
  obtain ⟨p,rfl⟩:∃ p,q = p+1:=⟨q-1,by omega⟩
  rw [Nat.add_mul] at h1
  rw [Nat.add_sub_cancel]; omega
theorem c_guess (m U bd bu at_:Nat) (wu:Bool) (hm0:m≠0) (w:World) (hbd:(Item.blk bd ⟨false,dvL m,269,(0,0)⟩).holds w) (hbu:(Item.blk bu ⟨wu,vec .u64 19 (limb U),270,(0,0)⟩).holds w) (hm:m<W9) (hat:at_+nw m<19) (hU:U<dnm m*2^(64*(at_+1))):Calls Tryz.prog 179 ([Pz bd,.slice (some ⟨bu,0,none⟩) 19 19,Iz at_]:List Value).toArray w (fun e w'=>∃ q,(q<18446744073709551616∧U/2^(64*at_)/dnm m≤q)∧e = .returned (.int .u64 ((q:Nat):Int))∧Below w.heap.size w w'):=by
  refine KV (N:=108) (rs:=[.tmp 6]) [.blk bd ⟨false,dvL m,269,(0,0)⟩,.blk bu ⟨false,vec .u64 19 (limb U),270,(0,0)⟩] Tryz.func179 rfl Tryz.ntmps179 Tryz.results179 (Nb rfl) ⟨hbd,hbu,trivial⟩ rfl ?_
  refine KB (KA (oP (KO (v:=.int .u64 ((0:Nat):Int)) rfl) (KC (KB ?_))))
  have hn0:=nw_pos hm0
  have hn9:=nw_w9 hm
  obtain ⟨hf1,hf2,hf3,hf4⟩:=guess_facts hm0 hU
  have hlt:=limb_lt (dnm m) (nw m-1)
  have hlu:=limb_lt U (at_+nw m-1)
  refine rD [] (aM 0 ?_);refine aM 1 ?_;refine aP 2 rfl (KF rfl) (aP 3 rfl (KE (o':=9) u269 rfl rfl rfl sz_3 dc) (aD 4 rfl (dL rfl (hv:=KI u3 rfl (dvL_n _))) ?_));refine aP 5 rfl (KG rfl rfl (KAe (b:=1) om om)) (aP 6 rfl (KF rfl) (aP 7 rfl (KE (o':=0) u269 rfl rfl rfl sz_31 dc) (aP 8 rfl (KP u31 sz_30 rfl rfl om) (aD 9 rfl (dL rfl (hv:=KI u30 rfl (by exact dvL_m _ (show nw m-1<9 by omega)))) ?_))));refine aA 10 ?_;refine aE (KB (rD [] (aM 0 ?_)));refine aM 1 ?_;refine aM 2 ?_;refine aP 3 rfl (KF rfl) (aP 4 rfl (KE (o':=9) u269 rfl rfl rfl sz_3 dc) (aD 5 rfl (dL rfl (hv:=KI u3 rfl (dvL_n _))) ?_));refine aP 6 rfl (KG rfl rfl (Kj om)) (aP 7 rfl (KAF u205 sz_30 rfl rfl om) (aD 8 rfl (dL rfl (hv:=KI u30 rfl (by exact Ki _ _ _ (show at_+nw m<19 by omega)))) ?_));refine aM 9 ?_
  refine aM 10 ?_;refine aM 11 ?_;refine aP 12 rfl (KF rfl) (aP 13 rfl (KE (o':=9) u269 rfl rfl rfl sz_3 dc) (aD 14 rfl (dL rfl (hv:=KI u3 rfl (dvL_n _))) ?_));refine aP 15 rfl (KG rfl rfl (Kj om)) (aP 16 rfl (KG rfl rfl (KAe (b:=1) om om)) (aP 17 rfl (KAF u205 sz_30 rfl rfl om) (aD 18 rfl (dL rfl (hv:=KI u30 rfl (by exact Ki _ _ _ (show at_+nw m-1<19 by omega)))) ?_)));refine aA 19 ?_;refine aA 20 ?_;refine aE (KB (KB (KA (oM (oM ?_)))));refine oP (KG rfl rfl (KBf)) (KC ?_)
  first|refine KQ rfl (fun h46=>?_) (fun h46=>?_)|refine KR rfl (fun h46=>?_) (fun h46=>?_)
  ·
   refine KB (KA (oP (KO (v:=.int .u64 ((18446744073709551615:Nat):Int)) rfl) (KC (KN (⟨[_],.cons rfl .nil,fun a w' hr=>⟨18446744073709551615,?_,rfl,hr.fr.below⟩⟩)))))
   exact ⟨by decide,by have:=quo_lt (dnm_pos hm0) hU; omega⟩
  have h46:limb U (at_+nw m)<limb (dnm m) (nw m-1):=Nat.lt_of_not_le h46
  have hq9:U/2^(64*at_)/2^(64*(nw m-1))/limb (dnm m) (nw m-1)<18446744073709551616:=by
    rw [← hf1,Nat.div_lt_iff_lt_mul om,Nat.mul_comm]
    omega
  refine KM (KB (KA (oM (oM (oM ?_)))));refine oS (Ky (v:=.tuple #[.int .u64 ((U/2^(64*at_)/2^(64*(nw m-1))/limb (dnm m) (nw m-1):Nat):Int),.int .u64 ((U/2^(64*at_)/2^(64*(nw m-1))%limb (dnm m) (nw m-1):Nat):Int)]) (first:=[]) rfl en_206 rfl (Nb rfl) (fun w hw=>by have h:=c_Div64 (limb U (at_+nw m)) (limb U (at_+nw m-1)) _ (limb_lt _ _) hf3 hlt h46 w; rw [hf1] at h; exact h) ?_);refine oM ?_;refine oX ?_;refine oX ?_;refine oA (oA (KC (KB (KB (KA (oM ?_))))));refine oP (KF rfl) (oP (KE (o':=9) u269 rfl rfl rfl sz_3 dc) (oD (dL rfl (hv:=KI u3 rfl (dvL_n _))) ?_));refine oP (KG rfl rfl (Ku (b:=1))) (KC ?_)
  first|refine KQ rfl (fun h58=>?_) (fun h58=>?_)|refine KR rfl (fun h58=>?_) (fun h58=>?_)
  ·
   refine KB (KA (oM (oA (KC (KN ?_)))));refine ⟨[_],.cons rfl .nil,fun a w' hr=>⟨(U/2^(64*at_)/2^(64*(nw m-1)))/limb (dnm m) (nw m-1),?_,rfl,hr.fr.below⟩⟩
   exact ⟨hq9,hf4⟩
  refine KM (LCode.block ?_);refine Kc (α:=Nat×Nat) (fun x=>x.1*limb (dnm m) (nw m-1)+x.2 = U/2^(64*at_)/2^(64*(nw m-1))∧U/2^(64*at_)/dnm m≤x.1∧x.1<18446744073709551616∧x.2<18446744073709551616) (fun x=>⟨[(0,Pz bd),(1,.slice (some ⟨bu,0,none⟩) 19 19),(2,Iz at_),(7,.int .u64 ((limb (dnm m) (nw m-1):Nat):Int)),(10,.int .u64 ((x.1:Nat):Int)),(11,.int .u64 ((x.2:Nat):Int))],[.blk bd ⟨false,dvL m,269,(0,0)⟩,.blk bu ⟨false,vec .u64 19 (limb U),270,(0,0)⟩]⟩) (fun x=>x.1) (((U/2^(64*at_)/2^(64*(nw m-1)))/limb (dnm m) (nw m-1),(U/2^(64*at_)/2^(64*(nw m-1)))%limb (dnm m) (nw m-1))) (⟨by rw [Nat.mul_comm]; exact Nat.div_add_mod _ _,hf4,hq9,Nat.lt_trans (Nat.mod_lt _ om) hlt⟩) (Ka ⟨rfl,rfl,rfl,rfl,rfl,rfl,trivial⟩ mS) ?_
  intro x ⟨hx1,hx2,hx3,hx4⟩
  have h58:¬ nw m = 1:=h58
  refine LCode.block (KB (rD [] (aM 0 ?_)));refine aM 1 ?_;refine aM 2 ?_;refine aP 3 rfl (KF rfl) (aP 4 rfl (KE (o':=9) u269 rfl rfl rfl sz_3 dc) (aD 5 rfl (dL rfl (hv:=KI u3 rfl (dvL_n _))) ?_));refine aP 6 rfl (KG rfl rfl (KAe (b:=2) om om)) (aP 7 rfl (KF rfl) (aP 8 rfl (KE (o':=0) u269 rfl rfl rfl sz_31 dc) (aP 9 rfl (KP u31 sz_30 rfl rfl om) (aD 10 rfl (dL rfl (hv:=KI u30 rfl (by exact dvL_m _ (show nw m-2<9 by omega)))) ?_))));refine aO 11 rfl (cF rfl en_123 rfl (fun w hw=>c_Mul64 _ _ hx3 (limb_lt _ _) w) ?_);refine aM 12 ?_;refine aP 13 rfl (Det.extract rfl rfl) (aP 14 rfl (Det.extract rfl rfl) (aA 15 ?_));refine aA 16 ?_;refine aE (KB (KB ?_))
  rcases Nat.lt_trichotomy (x.1*limb (dnm m) (nw m-2)/18446744073709551616) x.2 with h9|h9|h9
  ·
   refine KA (oM (oM ?_));refine oP (KG rfl rfl (br_t KAA h9)) (oM ?_);refine oK (oK (oK (oK (KBP rfl rfl (Nb rfl) ?_))));refine KBP rfl rfl (Nb rfl) ?_;refine KBP rfl rfl (Nb rfl) ?_;refine KBP rfl rfl (Nb rfl) ?_;refine KBP rfl rfl (Nb rfl) ?_;refine KBP rfl rfl (Nb rfl) ?_;refine KBP rfl rfl (Nb rfl) ?_;refine KBP rfl rfl (Nb rfl) ?_;refine KBP rfl rfl (Nb rfl) ?_;refine KBP rfl rfl (Nb rfl) ?_;refine KBP rfl rfl (Nb rfl) ?_;refine KBP rfl rfl (Nb rfl) ?_;refine oK (oP (Kd rfl rfl) (KC (KS rfl (KB (KA (oM (oA (KC (KN ?_)))))))));refine ⟨[_],.cons rfl .nil,fun a w' hr=>⟨x.1,?_,rfl,hr.fr.below⟩⟩
   exact ⟨hx3,hx2⟩
  ·
   refine KA (oM (oM ?_));refine oP (KG rfl rfl (br_f KAA om)) (oM ?_);refine oGM ?_;refine oGM ?_;refine oGP (KG rfl rfl (br_t Ku h9)) (oGM ?_);refine oGM ?_;refine oGM ?_;refine oGM ?_;refine oGM ?_;refine oGP (KF rfl) (oGP (KE (o':=9) u269 rfl rfl rfl sz_3 dc) (Kt rfl rfl (dL rfl (hv:=KI u3 rfl (dvL_n _))) (Nb rfl) ?_));refine oGP (KG rfl rfl (Kj om)) (oGP (KG rfl rfl (KAe (b:=2) om om)) (oGP (KAF u205 sz_30 rfl rfl om) (Kt rfl rfl (dL rfl (hv:=KI u30 rfl (by exact Ki _ _ _ (show at_+nw m-2<19 by omega)))) (Nb rfl) ?_)));refine oGP (KG rfl rfl (br_leq)) (oGP (Kd rfl rfl) (oP (KT rfl rfl) (KC ?_)))
   first|refine KQ rfl (fun h96=>?_) (fun h96=>?_)|refine KR rfl (fun h96=>?_) (fun h96=>?_)
   ·
    refine KB (KA (oM (oA (KC (KN ?_)))));refine ⟨[_],.cons rfl .nil,fun a w' hr=>⟨x.1,?_,rfl,hr.fr.below⟩⟩
    exact ⟨hx3,hx2⟩
   have h96:¬ x.1*limb (dnm m) (nw m-2)%18446744073709551616≤limb U (at_+nw m-2):=h96
   have hq:=guess_step hm0 om hx1 (by rw [← prod_parts (x.1*limb (dnm m) (nw m-2))]; exact two_le (Nat.mod_lt _ dc) (limb_lt _ _) (.inr ⟨h9,by omega⟩))
   have hq0:=Nat.lt_of_le_of_lt (Nat.zero_le _) hq
   refine KM (KB (KA (oM ?_)));refine oP (KJ (KG rfl rfl (KBW (b:=1) dc)) (vi (b:=x.1-1) om)) (oA (KC (KB (KA (oM (oM ?_))))));refine oP (KG rfl rfl (KAc)) (oA (KC (KB (KB (KA (oM (oM ?_)))))));refine oP (KG rfl rfl (KAA)) (KC ?_)
   first|refine KQ rfl (fun h105=>?_) (fun h105=>?_)|refine KR rfl (fun h105=>?_) (fun h105=>?_)
   ·
    have h105:(x.2+limb (dnm m) (nw m-1))%18446744073709551616<x.2:=h105
    refine KB (KA (oM (oA (KC (KN ?_)))));refine ⟨[_],.cons rfl .nil,fun a w' hr=>⟨x.1-1,?_,rfl,hr.fr.below⟩⟩
    exact ⟨by omega,Nat.le_sub_one_of_lt hq⟩
   have h105:¬ (x.2+limb (dnm m) (nw m-1))%18446744073709551616<x.2:=h105
   refine KM (KA (oM (oA (KC ?_))));refine ⟨(x.1-1,x.2+limb (dnm m) (nw m-1)),⟨guess_next (d2:=0) (u:=0) hx1 hq0,Nat.le_sub_one_of_lt hq,by dsimp only; omega,by dsimp only; omega⟩,by dsimp only; omega,Ka ⟨rfl,rfl,rfl,rfl,rfl,congrArg some (vi (by dsimp only; omega)),trivial⟩ mS⟩
  refine KA (oM (oM ?_));refine oP (KG rfl rfl (br_f KAA om)) (oM ?_);refine oGM ?_;refine oGM ?_;refine oGP (KG rfl rfl (br_f Ku om)) (oGM ?_);refine oK (oK (oK (oK (oK (oK (oK (oK (oK (oK (oK (oK (oGP (KT rfl rfl) (oP (KT rfl rfl) ?_)))))))))))));refine KC ?_
  have hq:=guess_step hm0 om hx1 (by rw [← prod_parts (x.1*limb (dnm m) (nw m-2))]; exact two_le (Nat.mod_lt _ dc) (limb_lt _ _) (.inl h9))
  have hq0:=Nat.lt_of_le_of_lt (Nat.zero_le _) hq
  refine KH rfl (KM (KB (KA (oM ?_))));refine oP (KJ (KG rfl rfl (KBW (b:=1) dc)) (vi (b:=x.1-1) om)) (oA (KC (KB (KA (oM (oM ?_))))));refine oP (KG rfl rfl (KAc)) (oA (KC (KB (KB (KA (oM (oM ?_)))))));refine oP (KG rfl rfl (KAA)) (KC ?_)
  first|refine KQ rfl (fun h105=>?_) (fun h105=>?_)|refine KR rfl (fun h105=>?_) (fun h105=>?_)
  ·
   have h105:(x.2+limb (dnm m) (nw m-1))%18446744073709551616<x.2:=h105
   refine KB (KA (oM (oA (KC (KN ?_)))));refine ⟨[_],.cons rfl .nil,fun a w' hr=>⟨x.1-1,?_,rfl,hr.fr.below⟩⟩
   exact ⟨by omega,Nat.le_sub_one_of_lt hq⟩
  have h105:¬ (x.2+limb (dnm m) (nw m-1))%18446744073709551616<x.2:=h105
  refine KM (KA (oM (oA (KC ?_))));refine ⟨(x.1-1,x.2+limb (dnm m) (nw m-1)),⟨guess_next (d2:=0) (u:=0) hx1 hq0,Nat.le_sub_one_of_lt hq,by dsimp only; omega,by dsimp only; omega⟩,by dsimp only; omega,Ka ⟨rfl,rfl,rfl,rfl,rfl,congrArg some (vi (by dsimp only; omega)),trivial⟩ mS⟩
theorem take_pre {U q D a:Nat}:U+q*(D%2^(64*0))*2^(64*a) = U+(0+0)*2^(64*(a+0)):=by
  rw [Nat.mul_zero,Nat.pow_zero,Nat.mod_one,Nat.mul_zero,Nat.zero_mul,Nat.zero_mul]
theorem back_pre {U D a:Nat}:U+0*2^(64*(a+0)) = U+(D%2^(64*0))*2^(64*a):=by
  rw [Nat.mul_zero,Nat.pow_zero,Nat.mod_one,Nat.zero_mul,Nat.zero_mul]
theorem c_take (m U bd bu at_ q:Nat) (hq:q<18446744073709551616) (w:World) (hbd:(Item.blk bd ⟨false,dvL m,269,(0,0)⟩).holds w) (hbu:(Item.blk bu ⟨true,vec .u64 19 (limb U),270,(0,0)⟩).holds w) (hne:bd≠bu) (hm:m<W9) (hat:at_+nw m<19) (hU:U<2^(64*(at_+nw m+1))):Calls Tryz.prog 180 ([Pz bd,.slice (some ⟨bu,0,none⟩) 19 19,Iz at_,.int .u64 ((q:Nat):Int)]:List Value).toArray w (fun e w'=>∃ v cs',(∃ U' bw,bw≤1∧U' < 2^(64*(at_+nw m+1))∧U'+q*dnm m*2^(64*at_) = U+bw*2^(64*(at_+nw m+1))∧v = .bool (decide (bw = 1))∧cs' = vec .u64 19 (limb U'))∧e = .returned v∧(Item.blk bu ⟨true,cs',270,(0,0)⟩).holds w'∧Fr (fun k=>k = bu) w w'):=by
  refine calls_w1 (N:=85) (rs:=[.tmp 8]) bu (vec .u64 19 (limb U)) 270 (0,0) [.blk bd ⟨false,dvL m,269,(0,0)⟩] Tryz.func180 rfl Tryz.ntmps180 Tryz.results180 (Nb rfl) hbu ⟨hbd,trivial⟩ rfl (by intro x hx; simp at hx; subst hx; simp [Item.fp]; exact fun e=>hne e.symm) ?_
  refine KB ?_
  have hn9:=nw_w9 hm
  refine KA (oA (KC (KB (KA ?_))));refine oP (KO (v:=.int .u64 ((0:Nat):Int)) rfl) (oP (KO (v:=.int .u64 ((0:Nat):Int)) rfl) (KC (KB (KB (KA (oM ?_))))));refine oP (KF rfl) (oP (KE (o':=9) u269 rfl rfl rfl sz_3 dc) (oD (dL rfl (hv:=KI u3 rfl (dvL_n _))) ?_));refine oP (Kf (v:=Iz 0) rfl) (KC (LCode.block (Kc (α:=Nat×Nat×Nat×Nat) (fun x=>x.1≤nw m∧x.2.2.1≤1∧x.2.2.2<18446744073709551616∧x.2.1<2^(64*(at_+nw m+1))∧x.2.1+q*(dnm m%2^(64*x.1))*2^(64*at_) = U+(x.2.2.1+x.2.2.2)*2^(64*(at_+x.1))) (fun x=>⟨[(0,Pz bd),(1,.slice (some ⟨bu,0,none⟩) 19 19),(2,Iz at_),(3,.int .u64 ((q:Nat):Int)),(9,.int .u64 ((x.2.2.1:Nat):Int)),(10,.int .u64 ((x.2.2.2:Nat):Int)),(18,Iz (nw m)),(19,Iz x.1)],[.blk bu ⟨true,vec .u64 19 (limb x.2.1),270,(0,0)⟩,.blk bd ⟨false,dvL m,269,(0,0)⟩]⟩) (fun x=>nw m-x.1) ((0,U,0,0)) (⟨Nat.zero_le _,Nat.zero_le _,show (0:Nat)<18446744073709551616 by decide,hU,take_pre⟩) (Ka ⟨rfl,rfl,rfl,rfl,rfl,rfl,rfl,rfl,trivial⟩ mS) ?_)))
  intro x ⟨hx1,hx2,hx3,hx4,hx5⟩
  refine KB (KA (oP (KG rfl rfl (KAA)) (KC (KB ?_))))
  first|refine KQ rfl (fun h20=>?_) (fun h20=>?_)|refine KR rfl (fun h20=>?_) (fun h20=>?_)
  ·
   have h20:x.1<nw m:=h20
   refine KM (KB (LCode.block (KB (KA (oM (oA (KC (KB (KA (oM (oM (oM ?_))))))))))));refine oP (KF rfl) (oP (KE (o':=0) u269 rfl rfl rfl sz_31 dc) (oP (KP u31 sz_30 rfl rfl om) (oD (dL rfl (hv:=KI u30 rfl (by exact dvL_m _ (show x.1<9 by omega)))) ?_)));refine oS (cF rfl en_123 rfl (fun w hw=>c_Mul64 _ _ hq (limb_lt _ _) w) ?_);refine oM ?_;refine oX ?_;refine oX ?_;refine oA (oA (KC (KB (KA ?_))));refine oP (KO (v:=.int .u64 ((0:Nat):Int)) rfl) (KC (KB (KA (oM (oM ?_)))));refine oP (KCV (c:=0) ex_145 rfl rfl rfl om) (oM ?_);refine oX ?_;refine oX ?_;refine oA (oA (KC (KB (KA (oM (oM ?_))))));refine oP (KG rfl rfl (KAc)) (oA (KC (KA (oM (oM (oM ?_))))));refine oP (KG rfl rfl (Kj om)) (oM (oM (oM ?_)));refine oP (KG rfl rfl (Kj om)) (oP (KAF u205 sz_30 rfl rfl om) (oD (dL rfl (hv:=KI u30 rfl (by exact Ki _ _ _ (show at_+x.1<19 by omega)))) ?_))
   refine oM (oM ?_);refine oP (Det.sub64 ex_130 rfl rfl rfl om) (oM ?_);refine oX ?_;refine oX ?_;refine oP (KAF u205 sz_30 rfl rfl om) (LOps.step rfl (KZ rfl rfl rfl sz_30 mT lT sT (by simp) ?_));refine oA (KC (KA ?_));refine oP (KG rfl rfl (Kj (b:=1) om)) (oM (KC ?_))
   have hw:=mul_word hq (limb_lt (dnm m) x.1) hx3
   have hp:=mul_parts hx3 hw
   refine ⟨(x.1+1,setl x.2.1 (at_+x.1) ((limb x.2.1 (at_+x.1)+18446744073709551616-(q*limb (dnm m) x.1+x.2.2.2)%18446744073709551616-x.2.2.1)%18446744073709551616),(if limb x.2.1 (at_+x.1)<(q*limb (dnm m) x.1+x.2.2.2)%18446744073709551616+x.2.2.1 then 1 else 0),(q*limb (dnm m) x.1+x.2.2.2)/18446744073709551616),⟨by dsimp only; omega,by dsimp only; split <;> omega,by dsimp only; omega,setl_lt hx4 om (Nat.mod_lt _ dc),take_step hx5 rfl (sub_word (limb_lt _ _) (Nat.mod_lt _ dc) hx2)⟩,by dsimp only; omega,
     KAD (Sub.cells (b:=bu) (cs':=vec .u64 19 (limb (setl x.2.1 (at_+x.1) ((limb x.2.1 (at_+x.1)+18446744073709551616-(q*limb (dnm m) x.1+x.2.2.2)%18446744073709551616-x.2.2.1)%18446744073709551616)))) mT ?_) (Ka ⟨rfl,rfl,rfl,rfl,congrArg some (vi (by dsimp only; rw [hp.1])),congrArg some (vi hp.2),rfl,rfl,trivial⟩ mS)⟩
   rw [hp.1]
   exact vec_setl (Nat.mod_lt _ dc)
  have h20:¬ x.1<nw m:=h20
  have he:x.1 = nw m:=by omega
  rw [he] at hx5
  refine Kb (KB (rD [23] (aM 0 ?_)));refine aM 1 ?_;refine aM 2 ?_;refine aP 3 rfl (KF rfl) (aP 4 rfl (KE (o':=9) u269 rfl rfl rfl sz_3 dc) (aD 5 rfl (dL rfl (hv:=KI u3 rfl (dvL_n _))) ?_));refine aP 6 rfl (KG rfl rfl (Kj om)) (aM 7 ?_);refine aM 8 ?_;refine aM 9 ?_;refine aP 10 rfl (KF rfl) (aP 11 rfl (KE (o':=9) u269 rfl rfl rfl sz_3 dc) (aD 12 rfl (dL rfl (hv:=KI u3 rfl (dvL_n _))) ?_));refine aP 13 rfl (KG rfl rfl (Kj om)) (aP 14 rfl (KAF u205 sz_30 rfl rfl om) (aD 15 rfl (dL rfl (hv:=KI u30 rfl (by exact Ki _ _ _ (show at_+nw m<19 by omega)))) ?_));refine aM 16 ?_;refine aM 17 ?_;refine aP 18 rfl (Det.sub64 ex_130 rfl rfl rfl om) (aM 19 ?_);refine aP 20 rfl (Det.extract rfl rfl) (aP 21 rfl (Det.extract rfl rfl) (aP 22 rfl (KAF u205 sz_30 rfl rfl om) (aL 23 rfl (KZ rfl rfl rfl sz_30 mT lT sT (by simp) ?_))))
  refine aA 24 ?_;refine aE (KB (KA (oM ?_)));refine oP (KG rfl rfl (Ku (b:=1))) (oA (KC (KN ?_)));refine ⟨[_],.cons rfl .nil,fun a w' hr=>⟨_,_,⟨setl x.2.1 (at_+nw m) ((limb x.2.1 (at_+nw m)+18446744073709551616-x.2.2.2-x.2.2.1)%18446744073709551616),(if limb x.2.1 (at_+nw m)<x.2.2.2+x.2.2.1 then 1 else 0),by split <;> omega,setl_lt hx4 om (Nat.mod_lt _ dc),take_last (dnm_lt m) hx5 (sub_word (limb_lt _ _) hx3 hx2),rfl,vec_setl (Nat.mod_lt _ dc)⟩,rfl,hr.hp _ mM,hr.fr⟩⟩
theorem c_back (m U bd bu at_:Nat) (w:World) (hbd:(Item.blk bd ⟨false,dvL m,269,(0,0)⟩).holds w) (hbu:(Item.blk bu ⟨true,vec .u64 19 (limb U),270,(0,0)⟩).holds w) (hne:bd≠bu) (hm:m<W9) (hat:at_+nw m<19) (hU:U<2^(64*(at_+nw m+1))):Calls Tryz.prog 181 ([Pz bd,.slice (some ⟨bu,0,none⟩) 19 19,Iz at_]:List Value).toArray w (fun e w'=>∃ v cs',(∃ U' c,c≤1∧U' < 2^(64*(at_+nw m+1))∧U'+c*2^(64*(at_+(nw m+1))) = U+dnm m*2^(64*at_)∧v = .bool (decide (c = 1))∧cs' = vec .u64 19 (limb U'))∧e = .returned v∧(Item.blk bu ⟨true,cs',270,(0,0)⟩).holds w'∧Fr (fun k=>k = bu) w w'):=by
  refine calls_w1 (N:=63) (rs:=[.tmp 6]) bu (vec .u64 19 (limb U)) 270 (0,0) [.blk bd ⟨false,dvL m,269,(0,0)⟩] Tryz.func181 rfl Tryz.ntmps181 Tryz.results181 (Nb rfl) hbu ⟨hbd,trivial⟩ rfl (by intro x hx; simp at hx; subst hx; simp [Item.fp]; exact fun e=>hne e.symm) ?_
  refine KB ?_
  have hn9:=nw_w9 hm
  refine KA (oA (KC (KB (KA ?_))));refine oP (KO (v:=.int .u64 ((0:Nat):Int)) rfl) (KC (KB (KB (KA (oM ?_)))));refine oP (KF rfl) (oP (KE (o':=9) u269 rfl rfl rfl sz_3 dc) (oD (dL rfl (hv:=KI u3 rfl (dvL_n _))) ?_));refine oP (Kf (v:=Iz 0) rfl) (KC (LCode.block (Kc (α:=Nat×Nat×Nat) (fun x=>x.1≤nw m∧x.2.2≤1∧x.2.1<2^(64*(at_+nw m+1))∧x.2.1+x.2.2*2^(64*(at_+x.1)) = U+(dnm m%2^(64*x.1))*2^(64*at_)) (fun x=>⟨[(0,Pz bd),(1,.slice (some ⟨bu,0,none⟩) 19 19),(2,Iz at_),(7,.int .u64 ((x.2.2:Nat):Int)),(12,Iz (nw m)),(13,Iz x.1)],[.blk bu ⟨true,vec .u64 19 (limb x.2.1),270,(0,0)⟩,.blk bd ⟨false,dvL m,269,(0,0)⟩]⟩) (fun x=>nw m-x.1) ((0,U,0)) (⟨Nat.zero_le _,Nat.zero_le _,hU,back_pre⟩) (Ka ⟨rfl,rfl,rfl,rfl,rfl,rfl,trivial⟩ mS) ?_)))
  intro x ⟨hx1,hx2,hx4,hx5⟩
  refine KB (KA (oP (KG rfl rfl (KAA)) (KC (KB ?_))))
  first|refine KQ rfl (fun h20=>?_) (fun h20=>?_)|refine KR rfl (fun h20=>?_) (fun h20=>?_)
  ·
   have h20:x.1<nw m:=h20
   refine KM (KB (LCode.block (KB (KA (oM (oA (KC (rD [22] ?_))))))));refine aM 0 ?_;refine aM 1 ?_;refine aM 2 ?_;refine aP 3 rfl (KG rfl rfl (Kj om)) (aM 4 ?_);refine aM 5 ?_;refine aM 6 ?_;refine aP 7 rfl (KG rfl rfl (Kj om)) (aP 8 rfl (KAF u205 sz_30 rfl rfl om) (aD 9 rfl (dL rfl (hv:=KI u30 rfl (by exact Ki _ _ _ (show at_+x.1<19 by omega)))) ?_));refine aM 10 ?_;refine aM 11 ?_;refine aP 12 rfl (KF rfl) (aP 13 rfl (KE (o':=0) u269 rfl rfl rfl sz_31 dc) (aP 14 rfl (KP u31 sz_30 rfl rfl om) (aD 15 rfl (dL rfl (hv:=KI u30 rfl (by exact dvL_m _ (show x.1<9 by omega)))) ?_)));refine aM 16 ?_;refine aP 17 rfl (KCV ex_145 rfl rfl rfl om) (aM 18 ?_);refine aP 19 rfl (Det.extract rfl rfl) (aP 20 rfl (Det.extract rfl rfl) (aP 21 rfl (KAF u205 sz_30 rfl rfl om) (aL 22 rfl (KZ rfl rfl rfl sz_30 mT lT sT (by simp) ?_))))
   refine aA 23 ?_;refine aE (KA (oP (KG rfl rfl (Kj (b:=1) om)) (oM (KC ?_))))
   refine ⟨(x.1+1,setl x.2.1 (at_+x.1) ((limb x.2.1 (at_+x.1)+limb (dnm m) x.1+x.2.2)%18446744073709551616),(limb x.2.1 (at_+x.1)+limb (dnm m) x.1+x.2.2)/18446744073709551616),⟨by dsimp only; omega,add_carry (limb_lt _ _) (limb_lt _ _) hx2,setl_lt hx4 om (Nat.mod_lt _ dc),back_step hx5 add_word⟩,by dsimp only; omega,
     KAD (Sub.cells (b:=bu) (cs':=vec .u64 19 (limb (setl x.2.1 (at_+x.1) ((limb x.2.1 (at_+x.1)+limb (dnm m) x.1+x.2.2)%18446744073709551616)))) mT (vec_setl (Nat.mod_lt _ dc))) (Ka ⟨rfl,rfl,rfl,rfl,rfl,rfl,trivial⟩ mS)⟩
  have h20:¬ x.1<nw m:=h20
  have he:x.1 = nw m:=by omega
  rw [he] at hx5
  refine Kb (KB (rD [22] (aM 0 ?_)));refine aM 1 ?_;refine aM 2 ?_;refine aP 3 rfl (KF rfl) (aP 4 rfl (KE (o':=9) u269 rfl rfl rfl sz_3 dc) (aD 5 rfl (dL rfl (hv:=KI u3 rfl (dvL_n _))) ?_));refine aP 6 rfl (KG rfl rfl (Kj om)) (aM 7 ?_);refine aM 8 ?_;refine aM 9 ?_;refine aP 10 rfl (KF rfl) (aP 11 rfl (KE (o':=9) u269 rfl rfl rfl sz_3 dc) (aD 12 rfl (dL rfl (hv:=KI u3 rfl (dvL_n _))) ?_));refine aP 13 rfl (KG rfl rfl (Kj om)) (aP 14 rfl (KAF u205 sz_30 rfl rfl om) (aD 15 rfl (dL rfl (hv:=KI u30 rfl (by exact Ki _ _ _ (show at_+nw m<19 by omega)))) ?_));refine aM 16 ?_;refine aP 17 rfl (KCV (j:=0) ex_145 rfl rfl rfl om) (aM 18 ?_);refine aP 19 rfl (Det.extract rfl rfl) (aP 20 rfl (Det.extract rfl rfl) (aP 21 rfl (KAF u205 sz_30 rfl rfl om) (aL 22 rfl (KZ rfl rfl rfl sz_30 mT lT sT (by simp) ?_))))
  refine aA 23 ?_;refine aE (KB (KA (oM ?_)));refine oP (KG rfl rfl (Ku (b:=1))) (oA (KC (KN ?_)))
  have hb:=back_step (a:=at_) (i:=nw m) (D:=dnm m) hx5 (lo:=(limb x.2.1 (at_+nw m)+0+x.2.2)%18446744073709551616) (c':=(limb x.2.1 (at_+nw m)+0+x.2.2)/18446744073709551616) (by rw [limb_high (dnm_lt m) (Nat.le_refl _)]; exact add_word)
  rw [Nat.mod_eq_of_lt (Nat.lt_of_lt_of_le (dnm_lt m) (Nat.pow_le_pow_right dc om))] at hb
  refine ⟨[_],.cons rfl .nil,fun a w' hr=>⟨_,_,⟨setl x.2.1 (at_+nw m) ((limb x.2.1 (at_+nw m)+0+x.2.2)%18446744073709551616),(limb x.2.1 (at_+nw m)+0+x.2.2)/18446744073709551616,add_carry (limb_lt _ _) dc hx2,setl_lt hx4 om (Nat.mod_lt _ dc),hb,rfl,vec_setl (Nat.mod_lt _ dc)⟩,rfl,hr.hp _ mM,hr.fr⟩⟩
theorem fill_zero (W s:Nat):W%2^(64*0)*2^s = 0:=by rw [Nat.mul_zero,Nat.pow_zero,Nat.mod_one,Nat.zero_mul]
theorem rest_or {U s i:Nat} (hs:s<64):(limb U i/2^s ||| limb U (i+1)*2^(64-s)%18446744073709551616) = limb (U/2^s) i:=by
  have:=shr_or (A:=U) (w:=0) (r:=s) (i:=i) hs
  rwa [Nat.add_zero,Nat.mul_zero,Nat.zero_add] at this
theorem quo_store {K x y:Nat} (hx:x<18446744073709551616) (j:Nat):(if j = y then x else limb (K*2^(64*(y+1))) j) = limb ((K*18446744073709551616+x)*2^(64*y)) j:=by
  have h0:limb (K*2^(64*(y+1))) y = 0:=by
    unfold limb
    rw [pow64_succ,← Nat.mul_assoc,Nat.mul_div_cancel _ (pow64_pos y),Nat.mul_mod_left]
  have:=limb_addl (K*2^(64*(y+1))) x y j (by rw [h0]; omega)
  rw [h0,Nat.zero_add] at this
  rw [← this,Nat.add_mul,pow64_succ,Nat.mul_assoc]
theorem quo_sum {U U0 K x y D V:Nat} (h1:U+x*D*2^(64*y) = U0) (h2:U0+K*2^(64*(y+1))*D = V):U+(K*18446744073709551616+x)*2^(64*y)*D = V:=by
  rw [← h2,← h1,pow64_succ]
  generalize 2^(64*y) = A
  grind
theorem c_divide (m W bd bw l c:Nat) (tw:TypeId) (ww:Bool) (hm0:m≠0) (w:World) (hbd:(Item.blk bd ⟨false,dvL m,269,(0,0)⟩).holds w) (hbw:(Item.blk bw ⟨ww,vec .u64 c (limb W),tw,(0,0)⟩).holds w) (hm:m<W9) (hlc:l≤c) (hc:c≤18) (hW:W<2^(64*l)):CF Tryz.prog 140 [Pz bd,.slice (some ⟨bw,0,none⟩) l c] w (.tuple #[wideV (W/m),natV (W%m)]):=by
  refine KV (N:=124) (rs:=[.cell 4 204,.cell 5 33]) [.blk bd ⟨false,dvL m,269,(0,0)⟩,.blk bw ⟨false,vec .u64 c (limb W),tw,(0,0)⟩] Tryz.func140 rfl Tryz.ntmps140 Tryz.results140 (Nb rfl) ⟨hbd,hbw,trivial⟩ rfl ?_
  refine KB ?_
  have hn0:=nw_pos hm0
  have hn9:=nw_w9 hm
  have hs64:=dsh_lt hm0
  refine KA (oS (mk (KK zr_204) (fun b4=>?_)));refine oS (mk (KK zr_33) (fun b5=>?_));refine KC (KB (KA (oS (mk (KK zr_270) (fun b6=>?_)))));refine KC (KB (KA (oS (mk (KK zr_204) (fun b7=>?_)))));refine KC (KB (KB (KA (oM ?_))));refine oP (KBc u205 rfl) (oP (Kf (v:=Iz 0) rfl) (KC (LCode.block ?_)));refine Kc (α:=Nat) (fun x=>x≤l) (fun x=>⟨[(0,Pz bd),(1,.slice (some ⟨bw,0,none⟩) l c),(4,Pz b4),(5,Pz b5),(6,Pz b6),(7,Pz b7),(15,.slice (some ⟨bw,0,none⟩) l c),(16,Iz l),(17,Iz x)],[.blk b6 ⟨true,vec .u64 19 (limb (W%2^(64*x)*2^dsh m)),270,(0,0)⟩,.blk b7 ⟨true,vec .u64 18 (fun _=>0),204,(0,0)⟩,.blk b5 ⟨true,vec .u64 9 (fun _=>0),33,(0,0)⟩,.blk b4 ⟨true,vec .u64 18 (fun _=>0),204,(0,0)⟩,.blk bd ⟨false,dvL m,269,(0,0)⟩,.blk bw ⟨false,vec .u64 c (limb W),tw,(0,0)⟩]⟩) (fun x=>l-x) (0) (Nat.zero_le _) (KAD (Sub.cells (b:=b6) (cs':=vec .u64 19 (limb (W%2^(64*0)*2^dsh m))) mT (by rw [fill_zero]; exact vec_zeros 19)) (Ka ⟨rfl,rfl,rfl,rfl,rfl,rfl,rfl,rfl,rfl,trivial⟩ mS)) ?_
  intro x hx
  refine KB (KA (oP (KG rfl rfl (KAA)) (KC (KB ?_))))
  first|refine KQ rfl (fun h18=>?_) (fun h18=>?_)|refine KR rfl (fun h18=>?_) (fun h18=>?_)
  ·
   have h18:x<l:=h18
   refine KM (KB (LCode.block (KB (KA (oM ?_)))));refine oP (KAF u205 sz_30 rfl rfl om) (oD (dL rfl (hv:=KI u30 rfl (by exact Ki _ _ _ (show x<c by omega)))) ?_);refine oA (oA (KC (KB (rD [11] ?_))));refine aM 0 ?_;refine aP 1 rfl (KP u270 sz_30 rfl rfl om) (aD 2 rfl (dL rfl (hv:=KI u30 rfl (by exact Ki _ _ _ (show x<19 by omega)))) ?_);refine aM 3 ?_;refine aM 4 ?_;refine aP 5 rfl (KF rfl) (aP 6 rfl (KE (o':=10) u269 rfl rfl rfl sz_3 dc) (aD 7 rfl (dL rfl (hv:=KI u3 rfl (dvL_s _))) ?_));refine aP 8 rfl (KG rfl rfl (KCK)) (aP 9 rfl (KG rfl rfl (KCT (limb_lt _ _) (Nat.mod_lt _ dc))) (aP 10 rfl (KP u270 sz_30 rfl rfl om) (aL 11 rfl (KZ rfl rfl rfl sz_30 mT lT sT (by simp) ?_))));refine aE (KB (KA (oM ?_)));refine oP (KF rfl) (oP (KE (o':=10) u269 rfl rfl rfl sz_3 dc) (oD (dL rfl (hv:=KI u3 rfl (dvL_s _))) ?_))
   refine oP (KG rfl rfl (KAb (b:=0))) (KC ?_)
   first|refine KQ rfl (fun h37=>?_) (fun h37=>?_)|refine KR rfl (fun h37=>?_) (fun h37=>?_)
   ·
    have h37:0<dsh m:=h37
    refine KA (oM ?_);refine oP (KG rfl rfl (Kj (b:=1) om)) (oM (oM ?_));refine oP (KF rfl) (oP (KE (o':=10) u269 rfl rfl rfl sz_3 dc) (oD (dL rfl (hv:=KI u3 rfl (dvL_s _))) ?_));refine oP (KG rfl rfl (KAe (a:=64) om om)) (oP (KG rfl rfl (KAm (limb_lt _ _))) (oP (KP u270 sz_30 rfl rfl om) (LOps.step rfl (KZ rfl rfl rfl sz_30 mT lT sT (by simp) ?_))));refine KC (KA (oP (KG rfl rfl (Kj (b:=1) om)) (oM (KC ?_))));refine ⟨x+1,by omega,by omega,KAD (Sub.cells (b:=b6) (cs':=vec .u64 19 (limb (W%2^(64*(x+1))*2^dsh m))) mT (Kq fun j _=>(fill_step hs64 j).symm)) (Ka ⟨rfl,rfl,rfl,rfl,rfl,rfl,rfl,rfl,rfl,trivial⟩ mS)⟩
   have h37:¬ 0<dsh m:=h37
   refine KM (KA (oP (KG rfl rfl (Kj (b:=1) om)) (oM (KC ?_))));refine ⟨x+1,by omega,by omega,KAD (Sub.cells (b:=b6) (cs':=vec .u64 19 (limb (W%2^(64*(x+1))*2^dsh m))) mT (Kq fun j _=>?_)) (Ka ⟨rfl,rfl,rfl,rfl,rfl,rfl,rfl,rfl,rfl,trivial⟩ mS)⟩
   rw [fill_step hs64 j]
   by_cases e:j = x+1
   · rw [if_pos e,if_neg om,e,(fill_word hs64).2,show 64-dsh m = 64 by omega]
     exact (Nat.div_eq_of_lt (limb_lt W x)).symm
   · rw [if_neg e]
  have h18:¬ x<l:=h18
  have hxl:x = l:=by omega
  subst hxl
  refine Kb (KB (KB (KA (oM ?_))));refine oP (KBc u205 rfl) (oM ?_);refine oP (KF rfl) (oP (KE (o':=9) u269 rfl rfl rfl sz_3 dc) (oD (dL rfl (hv:=KI u3 rfl (dvL_n _))) ?_));refine oP (KG (v:=.int .i64 ((x:Int)-(nw m:Int))) rfl rfl (KBs om om)) (oA (KC (LCode.block ?_)))
  refine Kc (α:=Int×Nat×Nat) (fun x=>(-20≤x.1∧x.1+nw m≤18)∧x.2.1+x.2.2*2^(64*(x.1+1).toNat)*dnm m = W*2^dsh m∧x.2.1<dnm m*2^(64*(x.1+1).toNat)) (fun x=>⟨[(0,Pz bd),(4,Pz b4),(5,Pz b5),(6,Pz b6),(7,Pz b7),(10,.int .i64 x.1)],[.blk b6 ⟨true,vec .u64 19 (limb x.2.1),270,(0,0)⟩,.blk b7 ⟨true,wideL (x.2.2*2^(64*(x.1+1).toNat)),204,(0,0)⟩,.blk b5 ⟨true,vec .u64 9 (fun _=>0),33,(0,0)⟩,.blk b4 ⟨true,vec .u64 18 (fun _=>0),204,(0,0)⟩,.blk bd ⟨false,dvL m,269,(0,0)⟩]⟩) (fun x=>(x.1+1).toNat) (((x:Int)-nw m,W*2^dsh m,0)) (⟨⟨by dsimp only; omega,by dsimp only; omega⟩,by dsimp only; rw [Nat.zero_mul,Nat.zero_mul,Nat.add_zero],by
    dsimp only
    rcases Nat.lt_or_ge x (nw m) with hlt|hge
    · rw [show ((x:Int)-nw m+1).toNat = 0 by omega,Nat.mul_zero,Nat.pow_zero,Nat.mul_one]
      exact div_short hm0 hlt hW
    · rw [show ((x:Int)-nw m+1).toNat = x-nw m+1 by omega]
      exact div_begin hm0 hge hW⟩) (KAD (Sub.cells (b:=b6) (cs':=vec .u64 19 (limb (W*2^dsh m))) mT (by rw [Nat.mod_eq_of_lt hW])) (KAD (Sub.cells (b:=b7) (cs':=wideL (0*2^(64*((x:Int)-nw m+1).toNat))) mT (by rw [Nat.zero_mul]; exact vec_zeros 18)) (Ka ⟨rfl,rfl,rfl,rfl,rfl,rfl,trivial⟩ mS))) ?_
  intro x ⟨⟨hx1,hx2⟩,hx3,hx4⟩
  refine KB (KB ?_)
  rcases Int.lt_or_le x.1 0 with hz|hz
  ·
   refine KA (oM ?_);refine oP (KG (v:=.bool false) rfl rfl (by simp [Kp]; omega)) ?_;refine KC ?_
   have ha0:(x.1+1).toNat = 0:=by omega
   rw [ha0,Nat.mul_zero,Nat.pow_zero,Nat.mul_one] at hx3
   rw [ha0,Nat.mul_zero,Nat.pow_zero,Nat.mul_one] at hx4
   have hend:=div_end hm0 hx3 hx4
   refine KH rfl (Kb (KB (KA (oS (mk (KK zr_33) (fun b13=>?_))))));refine KC (KB (KB (KA (oM ?_))));refine oP (KF rfl) (oP (KE (o':=9) u269 rfl rfl rfl sz_3 dc) (oD (dL rfl (hv:=KI u3 rfl (dvL_n _))) ?_));refine oP (Kf (v:=Iz 0) rfl) (KC (LCode.block (Kc (α:=Nat) (fun i=>i≤nw m) (fun i=>⟨[(0,Pz bd),(4,Pz b4),(5,Pz b5),(6,Pz b6),(7,Pz b7),(13,Pz b13),(84,Iz (nw m)),(85,Iz i)],[.blk b13 ⟨true,vec .u64 9 (fun j=>if j<i then limb (x.2.1/2^dsh m) j else 0),33,(0,0)⟩,.blk b6 ⟨true,vec .u64 19 (limb x.2.1),270,(0,0)⟩,.blk b7 ⟨true,wideL (x.2.2*2^(64*(x.1+1).toNat)),204,(0,0)⟩,.blk b5 ⟨true,vec .u64 9 (fun _=>0),33,(0,0)⟩,.blk b4 ⟨true,vec .u64 18 (fun _=>0),204,(0,0)⟩,.blk bd ⟨false,dvL m,269,(0,0)⟩]⟩) (fun i=>nw m-i) (0) (Nat.zero_le _) (Ka ⟨rfl,rfl,rfl,rfl,rfl,rfl,rfl,rfl,trivial⟩ mS) ?_)))
   intro i hi
   refine KB (KA (oP (KG rfl rfl (KAA)) (KC (KB ?_))))
   first|refine KQ rfl (fun h86=>?_) (fun h86=>?_)|refine KR rfl (fun h86=>?_) (fun h86=>?_)
   ·
    have h86:i<nw m:=h86
    refine KM (KB (LCode.block (KB (KA (oM (oA (KC (KB (rD [11] ?_)))))))));refine aM 0 ?_;refine aM 1 ?_;refine aP 2 rfl (KP u270 sz_30 rfl rfl om) (aD 3 rfl (dL rfl (hv:=KI u30 rfl (by exact Ki _ _ _ (show i<19 by omega)))) ?_);refine aM 4 ?_;refine aP 5 rfl (KF rfl) (aP 6 rfl (KE (o':=10) u269 rfl rfl rfl sz_3 dc) (aD 7 rfl (dL rfl (hv:=KI u3 rfl (dvL_s _))) ?_));refine aP 8 rfl (KG rfl rfl (KAm (limb_lt _ _))) (aP 9 rfl (KE (o':=0) u33 rfl rfl rfl sz_31 dc) (aP 10 rfl (KP u31 sz_30 rfl rfl om) (aL 11 rfl (KZ rfl rfl rfl sz_30 mT lT sT (by simp) ?_))));refine aE (KB (KA (oM ?_)));refine oP (KF rfl) (oP (KE (o':=10) u269 rfl rfl rfl sz_3 dc) (oD (dL rfl (hv:=KI u3 rfl (dvL_s _))) ?_));refine oP (KG rfl rfl (KAb (b:=0))) (KC ?_)
    first|refine KQ rfl (fun h103=>?_) (fun h103=>?_)|refine KR rfl (fun h103=>?_) (fun h103=>?_)
    ·
     have h103:0<dsh m:=h103
     refine rD [17] (aM 0 ?_);refine aP 1 rfl (KE (o':=0) u33 rfl rfl rfl sz_31 dc) (aP 2 rfl (KP u31 sz_30 rfl rfl om) ?_);refine aD 3 rfl (Det.load (v:=.int .u64 ((limb x.2.1 i/2^dsh m:Nat):Int)) rfl mM (KI u30 rfl (by exact (Ki .u64 9 (fun j=>if j = i then limb x.2.1 i/2^dsh m else if j<i then limb (x.2.1/2^dsh m) j else 0) (show i<9 by omega)).trans (by show some (Value.int .u64 ((if i = i then _ else _:Nat):Int)) = _; rw [if_pos rfl])))) ?_;refine aM 4 ?_;refine aP 5 rfl (KG rfl rfl (Kj (b:=1) om)) (aP 6 rfl (KP u270 sz_30 rfl rfl om) (aD 7 rfl (dL rfl (hv:=KI u30 rfl (by exact Ki _ _ _ (show i+1<19 by omega)))) ?_));refine aM 8 ?_;refine aP 9 rfl (KF rfl) (aP 10 rfl (KE (o':=10) u269 rfl rfl rfl sz_3 dc) (aD 11 rfl (dL rfl (hv:=KI u3 rfl (dvL_s _))) ?_));refine aP 12 rfl (KG rfl rfl (KAe (a:=64) om om)) (aP 13 rfl (KG rfl rfl (KCK)) (aP 14 rfl (KG rfl rfl (KCT (Nat.lt_of_le_of_lt (Nat.div_le_self _ _) (limb_lt _ _)) (Nat.mod_lt _ dc))) (aP 15 rfl (KE (o':=0) u33 rfl rfl rfl sz_31 dc) (aP 16 rfl (KP u31 sz_30 rfl rfl om) (aL 17 rfl (KZ rfl rfl rfl sz_30 mT lT sT (by simp) ?_))))))
     refine aE (KA (oP (KG rfl rfl (Kj (b:=1) om)) (oM (KC ?_))));refine ⟨i+1,by omega,by omega,KAD (Sub.cells (b:=b13) (cs':=vec .u64 9 (fun j=>if j<i+1 then limb (x.2.1/2^dsh m) j else 0)) mT (Kq fun j _=>?_)) (Ka ⟨rfl,rfl,rfl,rfl,rfl,rfl,rfl,rfl,trivial⟩ mS)⟩
     by_cases e:j = i
     · subst e
       rw [if_pos rfl,if_pos om]
       exact rest_or hs64
     · rw [if_neg e,if_neg e]
       by_cases e2:j<i
       · rw [if_pos e2,if_pos om]
       · rw [if_neg e2,if_neg om]
    have h103:¬ 0<dsh m:=h103
    refine KM (KA (oP (KG rfl rfl (Kj (b:=1) om)) (oM (KC ?_))));refine ⟨i+1,by omega,by omega,KAD (Sub.cells (b:=b13) (cs':=vec .u64 9 (fun j=>if j<i+1 then limb (x.2.1/2^dsh m) j else 0)) mT (Kq fun j _=>?_)) (Ka ⟨rfl,rfl,rfl,rfl,rfl,rfl,rfl,rfl,trivial⟩ mS)⟩
    by_cases e:j = i
    · subst e
      rw [if_pos rfl,if_pos om,show dsh m = 0 by omega,Nat.pow_zero,Nat.div_one,Nat.div_one]
    · rw [if_neg e]
      by_cases e2:j<i
      · rw [if_pos e2,if_pos om]
      · rw [if_neg e2,if_neg om]
   have h86:¬ i<nw m:=h86
   have hin:i = nw m:=by omega
   subst hin
   refine Kb (KB (rD [2,3] (aD 0 rfl (dL rfl (hv:=by exact KD u204 rfl KDV)) ?_)));refine KCI 1 2 rfl rfl rfl rfl kr (.inr (LStep.det dNa (Nb rfl) ?_)) (.inl ⟨rfl,sA rfl rfl KDV mO (hl:=mL) (h:=?_)⟩)
   ·
    refine aL 2 rfl (sA rfl rfl KDV mO (hl:=mL) (h:=?_));refine aL 3 rfl (sA rfl rfl sz_33 mO (hl:=mL) (h:=?_));refine aE (KN ?_)
    have hr9:(vec IntKind.u64 9 fun j=>if j<nw m then limb (x.2.1/2^dsh m) j else 0) = natL (W%m):=by
      rw [← hend.2]
      apply Kq
      intro j hj
      by_cases e:j<nw m
      · rw [if_pos e]
      · rw [if_neg e,limb_high (Nat.lt_of_le_of_lt (Nat.div_le_self _ _) (Nat.lt_trans hx4 (dnm_lt m))) om]
    have hq9:wideL (x.2.2*2^(64*(x.1+1).toNat)) = wideL (W/m):=by rw [ha0,Nat.mul_zero,Nat.pow_zero,Nat.mul_one,hend.1]
    refine eN (.cons ⟨_,_,_,rfl,mM,by exact KD u204 rfl KDV⟩ (.cons ⟨_,_,_,rfl,mM,by exact KD u33 rfl sz_33⟩ .nil)) ?_
    show Ending.returned (.tuple #[.agg (wideL (x.2.2*2^(64*(x.1+1).toNat))).toArray,.agg (vec IntKind.u64 9 fun j=>if j<nw m then limb (x.2.1/2^dsh m) j else 0).toArray]) = _
    rw [hr9,hq9]
    rfl
   refine aD 1 rfl dNa ?_;refine aL 3 rfl (sA rfl rfl sz_33 mO (hl:=mL) (h:=?_));refine aE (KN ?_)
   have hr9:(vec IntKind.u64 9 fun j=>if j<nw m then limb (x.2.1/2^dsh m) j else 0) = natL (W%m):=by
     rw [← hend.2]
     apply Kq
     intro j hj
     by_cases e:j<nw m
     · rw [if_pos e]
     · rw [if_neg e,limb_high (Nat.lt_of_le_of_lt (Nat.div_le_self _ _) (Nat.lt_trans hx4 (dnm_lt m))) om]
   have hq9:wideL (x.2.2*2^(64*(x.1+1).toNat)) = wideL (W/m):=by rw [ha0,Nat.mul_zero,Nat.pow_zero,Nat.mul_one,hend.1]
   refine eN (.cons ⟨_,_,_,rfl,mM,by exact KD u204 rfl KDV⟩ (.cons ⟨_,_,_,rfl,mM,by exact KD u33 rfl sz_33⟩ .nil)) ?_
   show Ending.returned (.tuple #[.agg (wideL (x.2.2*2^(64*(x.1+1).toNat))).toArray,.agg (vec IntKind.u64 9 fun j=>if j<nw m then limb (x.2.1/2^dsh m) j else 0).toArray]) = _
   rw [hr9,hq9]
   rfl
  refine KA (oM ?_);refine oP (KG (v:=.bool true) rfl rfl (by simp [Kp]; omega)) ?_;refine KC ?_
  obtain ⟨y,hy⟩:∃ y:Nat,x.1 = y:=⟨x.1.toNat,by omega⟩
  have ha1:(x.1+1).toNat = y+1:=by omega
  rw [ha1] at hx3
  rw [ha1] at hx4
  refine KS rfl (KM (KB (LCode.block (KB (KA (oM ?_))))));refine oP (KCJ u270 sz_30 rfl) ?_;refine oP (Kf (v:=Iz y) (by show some _ = some _; rw [hy])) ?_;refine oS (KDK (Post:=fun v=>∃ q:Nat,(q<18446744073709551616∧x.2.1/2^(64*y)/dnm m≤q)∧v = .int .u64 ((q:Nat):Int)) (first:=[]) rfl en_179 rfl (Nb rfl) (fun w hw=>(c_guess m x.2.1 bd b6 y true hm0 w (mC hw) (mC hw) hm om hx4).mono fun e w' ⟨q,h,h1,h2⟩=>⟨_,⟨q,h,rfl⟩,h1,h2⟩) ?_)
  rintro _ ⟨q,⟨hq1,hq2⟩,rfl⟩
  refine oA (KC (KB (KB (KA (oM ?_)))));refine oP (KCJ u270 sz_30 rfl) ?_;refine oP (Kf (v:=Iz y) (by show some _ = some _; rw [hy])) ?_;refine oM ?_;refine LOps.step rfl (LStepW.callWF (Post:=fun v cs'=>∃ U' bw,bw≤1∧U' < 2^(64*(y+nw m+1))∧U'+q*dnm m*2^(64*y) = x.2.1+bw*2^(64*(y+nw m+1))∧v = .bool (decide (bw = 1))∧cs' = vec .u64 19 (limb U')) (first:=[]) rfl en_180 rfl (Nb rfl) (fun cs'=>mT) (fun w hw hap=>c_take m x.2.1 bd b6 y q hq1 w (mC hw) (mC hw) (apart_blk hap (b:=b6) mM (c:=bd) mM rfl rfl) hm om (win_lt (dnm_lt m) hx4)) ?_)
  rintro _ _ ⟨U1,bw1,ht1,ht2,ht3,rfl,rfl⟩
  refine oA (KC (LCode.block ?_));refine Kc (α:=Nat×Nat×Nat) (fun k=>k.2.2≤1∧k.2.1<2^(64*(y+nw m+1))∧k.2.1+k.1*dnm m*2^(64*y) = x.2.1+k.2.2*2^(64*(y+nw m+1))∧x.2.1/2^(64*y)/dnm m≤k.1∧k.1<18446744073709551616) (fun k=>⟨[(0,Pz bd),(4,Pz b4),(5,Pz b5),(6,Pz b6),(7,Pz b7),(10,Iz y),(11,.int .u64 ((k.1:Nat):Int)),(12,.bool (decide (k.2.2 = 1)))],[.blk b6 ⟨true,vec .u64 19 (limb k.2.1),270,(0,0)⟩,.blk b7 ⟨true,wideL (x.2.2*2^(64*(x.1+1).toNat)),204,(0,0)⟩,.blk b5 ⟨true,vec .u64 9 (fun _=>0),33,(0,0)⟩,.blk b4 ⟨true,vec .u64 18 (fun _=>0),204,(0,0)⟩,.blk bd ⟨false,dvL m,269,(0,0)⟩]⟩) (fun k=>k.1) ((q,U1,bw1)) (⟨ht1,ht2,ht3,hq2,hq1⟩) (Ka ⟨rfl,rfl,rfl,rfl,rfl,congrArg (fun i:Int=>some (Value.int .i64 i)) hy,rfl,rfl,trivial⟩ mS) ?_
  intro k ⟨hk1,hk2,hk3,hk4,hk5⟩
  refine KB (KB (KA (oM (KC ?_))))
  first|refine KQ rfl (fun h69=>?_) (fun h69=>?_)|refine KR rfl (fun h69=>?_) (fun h69=>?_)
  ·
   have h69:k.2.2 = 1:=h69
   rw [h69,Nat.one_mul] at hk3
   have hqw:=quo_word hk2 hk3 hk4 (dnm_pos hm0)
   refine KM (KB (LCode.block (KA (oM ?_))));refine oP (KJ (KG rfl rfl (KBW (b:=1) dc)) (vi (b:=k.1-1) om)) (oA (KC (KA (oM ?_))));refine oP (KCJ u270 sz_30 rfl) (oM ?_);refine LOps.step rfl (LStepW.callWF (Post:=fun v cs'=>∃ U' c,c≤1∧U' < 2^(64*(y+nw m+1))∧U'+c*2^(64*(y+(nw m+1))) = k.2.1+dnm m*2^(64*y)∧v = .bool (decide (c = 1))∧cs' = vec .u64 19 (limb U')) (first:=[]) rfl en_181 rfl (Nb rfl) (fun cs'=>mT) (fun w hw hap=>c_back m k.2.1 bd b6 y w (mC hw) (mC hw) (apart_blk hap (b:=b6) mM (c:=bd) mM rfl rfl) hm om hk2) ?_)
   rintro _ _ ⟨U2,c2,hb1,hb2,hb3,rfl,rfl⟩
   refine oP (KAH rfl) (oA (KC ?_));refine ⟨(k.1-1,U2,1-c2),⟨by dsimp only; omega,hb2,quo_back hqw.2 hk3 (by rw [← Nat.add_assoc] at hb3; exact hb3) hb1,hqw.1,by dsimp only; omega⟩,by have:=hqw.2; dsimp only; omega,Ka ⟨rfl,rfl,rfl,rfl,rfl,rfl,rfl,?_,trivial⟩ mS⟩;refine congrArg (fun b:Bool=>some (Value.bool b)) ?_
   rcases Nat.le_one_iff_eq_zero_or_eq_one.1 hb1 with h|h <;> subst h <;> rfl
  have h69:¬ k.2.2 = 1:=h69
  have hk0:k.2.2 = 0:=by omega
  rw [hk0,Nat.zero_mul,Nat.add_zero] at hk3
  have hdn:=quo_done (dnm_pos hm0) hk3 hk4
  refine Kb (KA (oM (oM ?_)));refine oP (KE (o':=0) u204 rfl rfl rfl sz_202 dc) (oP (KP u202 sz_30 rfl rfl om) (LOps.step rfl (KZ rfl rfl rfl sz_30 mT lT sT (by simp) ?_)));refine KC (KA (oM ?_));refine oP (KG (v:=.int .i64 ((y:Int)-1)) rfl rfl (KBs om om)) (oA (KC ?_));refine ⟨((y:Int)-1,k.2.1,x.2.2*18446744073709551616+k.1),⟨⟨by dsimp only; omega,by dsimp only; omega⟩,?_,?_⟩,by dsimp only; omega,KAD (Sub.cells (b:=b7) (cs':=wideL ((x.2.2*18446744073709551616+k.1)*2^(64*((y:Int)-1+1).toNat))) mT (Kq fun j _=>?_)) (Ka ⟨rfl,rfl,rfl,rfl,rfl,rfl,trivial⟩ mS)⟩
  · dsimp only
    rw [show ((y:Int)-1+1).toNat = y by omega]
    exact quo_sum hk3 hx3
  · dsimp only
    rw [show ((y:Int)-1+1).toNat = y by omega]
    exact hdn
  · rw [show ((y:Int)-1+1).toNat = y by omega,ha1]
    exact quo_store hk5 j
theorem nat_eq_iff {A B:Nat} (hA:A<W9) (hB:B<W9):(decide (A = B)) = true↔∀ i,i<9→limb A i = limb B i:=by
  constructor
  · intro h i _; rw [of_decide_eq_true h]
  · intro h; exact decide_eq_true (limb_ext hA hB h)
theorem take_all (A:Nat):(natL A).take 9 = natL A:=List.take_of_length_le (by rw [KL]; exact Nat.le_refl _)
theorem KBI (A B:Nat) (hA:A<W9) (hB:B<W9):EqD 3 Tryz.prog 33 (natV A) (natV B) (decide (A = B)):=by
  rw [← Bool.and_true (decide (A = B))]
  exact EqD.struct (fs:=[_]) u33 kr (EqFs.cons dc (KCd u31 rfl sz_31 (take_all A)) (KCd u31 rfl sz_31 (take_all B)) (EqD.nums (nat_eq_iff hA hB) u31 u30 sz_30) EqFs.nil)
theorem blen_w9e {E:Nat} (h:E<W9):blen E≤576:=by
  have h1:∀ n,n = 9→blen E≤64*n:=fun n hn=>KBM (KBQ h n hn)
  have:=h1 9 rfl
  omega
theorem mul_pow18 {A B:Nat} (hA:A<W9) (hB:B<W9):∀ i,i = 18→A*B<2^(64*i):=fun i h=>by
  rw [w18 h]; exact mul_w18 hA hB
theorem nw_mul {A B:Nat} (hA:A<W9) (hB:B<W9):nw (A*B)≤18:=nw_le (mul_pow18 hA hB 18 rfl)
theorem one_w9:1<W9:=Nat.one_lt_pow dc dc
theorem mod_w9 {A m:Nat} (hm0:m≠0) (hm:m<W9):A%m<W9:=Nat.lt_trans (Nat.mod_lt _ (Nat.pos_of_ne_zero hm0)) hm
theorem wide_take {Q:Nat}:((wideL Q).drop 0).take 9 = natL Q:=by
  unfold wideL natL vec
  rw [List.drop_zero,← List.map_take,List.take_range]
  rfl
theorem pow_bit (a e i m:Nat):(if e/2^i%2 = 1 then (a^(e/2^(i+1))%m*(a^(e/2^(i+1))%m)%m*a)%m else (a^(e/2^(i+1))%m*(a^(e/2^(i+1))%m))%m) = a^(e/2^i)%m:=by
  have h1:e/2^i = 2*(e/2^(i+1))+e/2^i%2:=by
    rw [Nat.pow_succ,← Nat.div_div_eq_div_mul]; omega
  have h2:=Nat.mod_two_eq_zero_or_one (e/2^i)
  generalize e/2^(i+1) = k at *
  rw [← Nat.mul_mod]
  rcases h2 with h2|h2
  · rw [h2] at h1 ⊢
    rw [if_neg dc,h1,Nat.add_zero,Nat.two_mul,Nat.pow_add]
  · rw [h2] at h1 ⊢
    rw [if_pos rfl,h1,Nat.pow_add,Nat.two_mul,Nat.pow_add,Nat.pow_one,Nat.mod_mul_mod]
theorem c_zero (m bm:Nat) (wr:Bool) (w:World) (hb:(Item.blk bm ⟨wr,natL m,33,(0,0)⟩).holds w) (hm:m<W9):CF Tryz.prog 138 [Pz bm] w (.bool (decide (m = 0))):=by
  refine KV (N:=8) (rs:=[.tmp 2]) [.blk bm ⟨false,natL m,33,(0,0)⟩] Tryz.func138 rfl Tryz.ntmps138 Tryz.results138 (Nb rfl) ⟨hb,trivial⟩ rfl ?_
  refine KB (KA (oA (KC (KB (KA (oM ?_))))));refine oP (KF rfl) (oD dNa ?_);refine oP (KJ (KX pl_33 zr_33 rfl rfl) (show _ = natV 0 by unfold natV natL; rw [← vec_zeros 9])) ?_;refine oP (KBw kr (fun w=>KBI m 0 hm (by exact w9_pos) 10000 dc w) rfl rfl) ?_;refine oA (KC (KN ?_));refine eN (.cons rfl .nil) ?_
  rfl
theorem c_zeroN (m bm:Nat) (wr:Bool) (hm0:m≠0) (w:World) (hb:(Item.blk bm ⟨wr,natL m,33,(0,0)⟩).holds w) (hm:m<W9):CF Tryz.prog 138 [Pz bm] w (.bool false):=by
  have h:=c_zero m bm wr w hb hm
  rw [decide_eq_false hm0] at h
  exact h
theorem c_By (m:Nat) (hm0:m≠0) (hm:m<W9) (w:World)  : Calls Tryz.prog 129 ([natV m]:List Value).toArray w (fun e w'=>∃ b,e = .returned (.agg [Pz b].toArray)∧w.heap.size≤b∧(Item.blk b ⟨false,dvL m,269,(0,0)⟩).holds w'∧Below w.heap.size w w'):=by
  refine KV (N:=5) (rs:=[.cell 2 163]) [] Tryz.func129 rfl Tryz.ntmps129 Tryz.results129 (Nb rfl) trivial rfl ?_
  refine KB (KA (oS (mB (fun b1=>?_))));refine oS (mk (KK zr_163) (fun b2=>?_));refine KC (KB (KA (oS (KCf (Post:=fun v its=>∃ b,v = Pz b∧its = [.blk b ⟨true,dvL m,269,(0,0)⟩]) (first:=[]) rfl en_139 rfl (Nb rfl) (fun w hw=>(c_of m b1 _ hm0 w (mC hw) hm).mono fun e w' ⟨b,h1,h2,h3,h4⟩=>⟨_,_,⟨b,rfl,rfl⟩,h1,KDN h4 h2 h3⟩) ?_))))
  rintro _ _ ⟨bd,rfl,rfl⟩
  refine oP (KX pl_163 zr_163 rfl (fT (r':=([Pz bd])) (fS (A:=([]:List Value)) (B:=([Value.pointer none])) (D:=([]:List Value)) (cs:=[Pz bd]) rfl))) ?_;refine oT rfl rfl KBo ?_;refine KC (KN (⟨[_],.cons ⟨_,_,_,rfl,mM,by exact KD u163 rfl KBo⟩ .nil,fun a w' hr=>⟨bd,rfl,hr.new (B:=⟨true,dvL m,269,(0,0)⟩) mM rfl,(show (Item.blk bd ⟨true,dvL m,269,(0,0)⟩).holds w' from hr.hp _ mM),hr.fr.below⟩⟩))
theorem c_Mul (m A B bd:Nat) (hm0:m≠0) (hm:m<W9) (w:World) (hbd:(Item.blk bd ⟨false,dvL m,269,(0,0)⟩).holds w) (hA:A<W9) (hB:B<W9):CF Tryz.prog 133 [.agg [Pz bd].toArray,natV A,natV B] w (natV (A*B%m)):=by
  refine KV (N:=25) (rs:=[.cell 6 33]) [.blk bd ⟨false,dvL m,269,(0,0)⟩] Tryz.func133 rfl Tryz.ntmps133 Tryz.results133 (Nb rfl) ⟨hbd,trivial⟩ rfl ?_
  refine KB (KA (oS (mB (fun b3=>?_))));refine oS (mB (fun b4=>?_));refine oS (mB (fun b5=>?_));refine oS (mk (KK zr_33) (fun b6=>?_));refine KC (KB (KA (oD dNa ?_)));refine oD dNa ?_;refine oS (cF rfl en_168 rfl (fun w hw=>c_nat_Mul A B hA hB w) ?_);refine oS (mk (KK zr_204) (fun b7=>?_));refine oT rfl rfl KDV ?_;refine KC (KB (rD [13,14] (aP 0 rfl (KE (o':=0) u163 rfl rfl rfl sz_161 dc) (aD 1 rfl (dL rfl (hv:=KI u161 rfl gL)) ?_))));refine aP 2 rfl (KE (o':=0) u204 rfl rfl rfl sz_202 dc) (aP 3 rfl (KE (o':=0) u204 rfl rfl rfl sz_202 dc) (aP 4 rfl (KCJ u202 sz_30 rfl) (KAR ?_)));refine Kl 11 rfl (.inl zr_204) (Nb rfl) rfl rfl rfl ?_;refine Kl 12 rfl (.inl zr_33) (Nb rfl) rfl rfl rfl ?_;refine LAnyP.step 5 rfl rfl rfl (Nb rfl) kr rfl (Ke (first:=[]) rfl en_169 rfl (fun w hw=>c_length (A*B) b7 18 18 _ true w (mC hw) (Nat.le_refl _) dc (mul_pow18 hA hB 18 rfl))) ?_
  rintro _ _ ⟨rfl,rfl⟩
  refine pP 6 rfl (Det.slArrH u202 sz_30 rfl rfl om (by have:=nw_mul hA hB; omega)) ?_;refine LAnyP.step 7 rfl rfl rfl (Nb rfl) kr rfl (Ke (first:=[]) rfl en_140 rfl (fun w hw=>c_divide m (A*B) bd b7 (nw (A*B)) 18 _ true hm0 w (mC hw) (mC hw) hm (nw_mul hA hB) dc (lt_nw _))) ?_
  rintro _ _ ⟨rfl,rfl⟩
  refine pM 8 ?_;refine pP 9 rfl (Det.extract rfl rfl) (pP 10 rfl (Det.extract rfl rfl) (pE (fun b9=>?_)));refine pE (fun b8=>?_);refine Kv ?_;refine aL 13 rfl (sA rfl rfl KDV mO (hl:=mL) (h:=?_));refine aL 14 rfl (sA rfl rfl sz_33 mO (hl:=mL) (h:=?_));refine aE (KB (KA (oD dNa ?_)));refine oT rfl rfl sz_33 ?_;refine KC (KN (eN (.cons ⟨_,_,_,rfl,mM,by exact KD u33 rfl sz_33⟩ .nil) ?_))
  rfl
theorem c_Div (A m:Nat) (hm0:m≠0) (w:World) (hA:A<W9) (hm:m<W9):CF Tryz.prog 86 [natV A,natV m] w (.tuple #[natV (A/m),natV (A%m),Iz 0]):=by
  refine KV (N:=25) (rs:=[.cell 4 33,.cell 5 33,.tmp 6]) [] Tryz.func86 rfl Tryz.ntmps86 Tryz.results86 (Nb rfl) trivial rfl ?_
  refine KB (KA (oS (mB (fun b2=>?_))));refine oS (mB (fun b3=>?_));refine oS (mk (KK zr_33) (fun b4=>?_));refine oS (mk (KK zr_33) (fun b5=>?_));refine oP (KO (v:=Iz 0) rfl) (KC (KB (KB (KA (oS (cF rfl en_138 rfl (fun w hw=>c_zeroN m b3 _ hm0 w (mC hw) hm) ?_))))));refine KC (KH rfl (KM (KB (rD [9,10] (aP 1 rfl (KE (o':=0) u33 rfl rfl rfl sz_31 dc) (aP 2 rfl (KCJ u31 sz_30 rfl) (KAR ?_)))))));refine Kl 7 rfl (.inl zr_204) (Nb rfl) rfl rfl rfl ?_;refine Kl 8 rfl (.inl zr_33) (Nb rfl) rfl rfl rfl ?_;refine LAnyP.step 0 rfl rfl rfl (Nb rfl) kr rfl (LExt.call (Post:=fun v its=>∃ b,v = Pz b∧its = [.blk b ⟨false,dvL m,269,(0,0)⟩]) (first:=[]) rfl en_139 rfl (fun w hw=>(c_of m b3 _ hm0 w (mC hw) hm).mono fun e w' ⟨b,h1,h2,h3,h4⟩=>⟨_,_,⟨b,rfl,rfl⟩,h1,KDN h4 h2 h3⟩)) ?_
  rintro _ _ ⟨bd,rfl,rfl⟩
  refine LAnyP.step 3 rfl rfl rfl (Nb rfl) kr rfl (Ke (first:=[]) rfl en_140 rfl (fun w hw=>c_divide m A bd b2 9 9 _ true hm0 w (mC hw) (mC hw) hm (Nat.le_refl _) dc (KBQ hA 9 rfl))) ?_
  rintro _ _ ⟨rfl,rfl⟩
  refine pM 4 ?_;refine pP 5 rfl (Det.extract rfl rfl) (pP 6 rfl (Det.extract rfl rfl) (pE (fun b8=>?_)));refine pE (fun b7=>?_);refine Kv ?_;refine aL 9 rfl (sA rfl rfl KDV mO (hl:=mL) (h:=?_));refine aL 10 rfl (sA rfl rfl sz_33 mO (hl:=mL) (h:=?_));refine aE (KB (rD [6,7] (aP 0 rfl (KE (o':=0) u204 rfl rfl rfl sz_202 dc) (aP 1 rfl (Det.slArrH u202 sz_30 rfl rfl om om) (aP 2 rfl (Det.s2a u31 rfl om) ?_)))));refine aD 3 rfl (Det.load (v:=.agg (natL (A/m)).toArray) rfl mM (KBH u31 rfl sz_31 wide_take (by simp only [KBE]; decide))) ?_;refine aP 4 rfl (KX pl_33 zr_33 rfl (fT (r':=(natL (A/m))) (fS (A:=([]:List Value)) (B:=(vec .u64 9 (fun _=>0))) (D:=([]:List Value)) (cs:=natL (A/m)) rfl))) ?_;refine KCI 5 6 rfl rfl rfl rfl kr (.inr (LStep.det dNa (Nb rfl) ?_)) (.inl ⟨rfl,sA rfl rfl sz_33 mO (hl:=mL) (h:=?_)⟩)
  ·
   refine aL 6 rfl (sA rfl rfl sz_33 mO (hl:=mL) (h:=?_));refine aL 7 rfl (sA rfl rfl sz_33 mO (hl:=mL) (h:=?_));refine aP 8 rfl (KO (v:=Iz 0) rfl) (aE (KN (eN (.cons ⟨_,_,_,rfl,mM,by exact KD u33 rfl sz_33⟩ (.cons ⟨_,_,_,rfl,mM,by exact KD u33 rfl sz_33⟩ (.cons rfl .nil))) ?_)))
   rfl
  refine aD 5 rfl dNa ?_;refine aL 7 rfl (sA rfl rfl sz_33 mO (hl:=mL) (h:=?_));refine aP 8 rfl (KO (v:=Iz 0) rfl) (aE (KN (eN (.cons ⟨_,_,_,rfl,mM,by exact KD u33 rfl sz_33⟩ (.cons ⟨_,_,_,rfl,mM,by exact KD u33 rfl sz_33⟩ (.cons rfl .nil))) ?_)))
  rfl
theorem c_Pow (m A E bd:Nat) (hm0:m≠0) (hm:m<W9) (w:World) (hbd:(Item.blk bd ⟨false,dvL m,269,(0,0)⟩).holds w) (hA:A<W9) (hE:E<W9):CF Tryz.prog 160 [.agg [Pz bd].toArray,natV A,natV E] w (natV (A^E%m)):=by
  refine KV (N:=33) (rs:=[.cell 6 33]) [.blk bd ⟨false,dvL m,269,(0,0)⟩] Tryz.func160 rfl Tryz.ntmps160 Tryz.results160 (Nb rfl) ⟨hbd,trivial⟩ rfl ?_
  refine KB (KA (oS (mB (fun b3=>?_))));refine oS (mB (fun b4=>?_));refine oS (mB (fun b5=>?_));refine oS (mk (KK zr_33) (fun b6=>?_));refine KC (KB (rD [5] (aD 0 rfl (dL rfl (hv:=by exact KD u163 rfl KBo)) ?_)));refine KAR ?_;refine Kl 4 rfl (.inl zr_33) (Nb rfl) rfl rfl rfl ?_;refine LAnyP.step 1 rfl rfl rfl (Nb rfl) kr rfl (Ke (first:=[]) rfl en_80 rfl (fun w hw=>KAU 1 dc w)) ?_
  rintro _ _ ⟨rfl,rfl⟩
  refine LAnyP.step 2 rfl rfl rfl (Nb rfl) kr rfl (Ke (first:=[]) rfl en_80 rfl (fun w hw=>KAU 1 dc w)) ?_
  rintro _ _ ⟨rfl,rfl⟩
  refine LAnyP.step 3 rfl rfl rfl (Nb rfl) kr rfl (Ke (first:=[]) rfl en_133 rfl (fun w hw=>c_Mul m 1 1 bd hm0 hm w (mC hw) one_w9 one_w9)) ?_
  rintro _ _ ⟨rfl,rfl⟩
  refine pE (fun b7=>?_);refine Kv ?_;refine aL 5 rfl (sA rfl rfl sz_33 mO (hl:=mL) (h:=?_));refine aE (KB (KB ?_))
  have hbl:blen E≤576:=blen_w9e hE
  refine KA (oD dNa ?_);refine oS (cF rfl en_81 rfl (fun w hw=>KBz E hE w) ?_);refine oP (KG (v:=.int .i64 ((blen E:Int)-1)) rfl rfl (KBs om om)) (oA (KC (LCode.block ?_)));refine Kc (α:=Nat) (fun x=>x≤blen E) (fun x=>⟨[(3,Pz b3),(4,Pz b4),(5,Pz b5),(6,Pz b6),(7,Pz b7),(8,.int .i64 ((x:Int)-1))],[.blk b7 ⟨true,natL (A^(E/2^x)%m),33,(0,0)⟩,.blk b6 ⟨true,vec .u64 9 (fun _=>0),33,(0,0)⟩,.blk b5 ⟨true,natL E,33,(0,0)⟩,.blk b4 ⟨true,natL A,33,(0,0)⟩,.blk b3 ⟨true,[Pz bd],163,(0,0)⟩,.blk bd ⟨false,dvL m,269,(0,0)⟩]⟩) (fun x=>x) (blen E) (Nat.le_refl _) (KAD (Sub.cells (b:=b7) (cs':=natL (A^(E/2^(blen E))%m)) mT (by rw [Nat.div_eq_of_lt (KCM E),Nat.pow_zero,Nat.mul_one])) (Ka ⟨rfl,rfl,rfl,rfl,rfl,rfl,trivial⟩ mS)) ?_
  intro x hx
  refine KB (KB ?_)
  rcases Nat.eq_zero_or_pos x with h0|h0
  ·
   refine KA (oM ?_);refine oP (KG (v:=.bool false) rfl rfl (by subst h0; rfl)) ?_;refine KC ?_
   subst h0
   refine KH rfl (Kb (KB (KA (oD dNa ?_))));refine oT rfl rfl sz_33 ?_;refine KC (KN (eN (.cons ⟨_,_,_,rfl,mM,by exact KD u33 rfl sz_33⟩ .nil) ?_))
   rw [Nat.pow_zero,Nat.div_one]
   rfl
  refine KA (oM ?_);refine oP (KG (v:=.bool true) rfl rfl (by simp [Kp]; omega)) ?_;refine KC ?_
  obtain ⟨y,rfl⟩:∃ y,x = y+1:=⟨x-1,by omega⟩
  refine KS rfl (KM (KB (LCode.block (KB (KA (oD (dL rfl (hv:=by exact KD u163 rfl KBo)) ?_))))));refine oD dNa ?_;refine oD dNa ?_;refine oS (cF rfl en_133 rfl (fun w hw=>c_Mul m _ _ bd hm0 hm w (mC hw) (mod_w9 hm0 hm) (mod_w9 hm0 hm)) ?_);refine oT rfl rfl sz_33 ?_;refine KC (KB (KA (oD dNa ?_)));refine oP (Kf (v:=Iz y) (by show some _ = some _; congr 2; omega)) ?_;refine oS (cF rfl en_57 rfl (fun w hw=>KCp E y hE om w) ?_);refine oP (KG rfl rfl (Ku (b:=1))) (KC ?_)
  first|refine KQ rfl (fun h27=>?_) (fun h27=>?_)|refine KR rfl (fun h27=>?_) (fun h27=>?_)
  ·
   have h27:E/2^y%2 = 1:=h27
   refine KA (oD (dL rfl (hv:=by exact KD u163 rfl KBo)) ?_);refine oD dNa ?_;refine oD dNa ?_;refine oS (cF rfl en_133 rfl (fun w hw=>c_Mul m _ _ bd hm0 hm w (mC hw) (mod_w9 hm0 hm) hA) ?_);refine oT rfl rfl sz_33 ?_;refine KC (KA ?_);refine oP (Kf (v:=Iz y) (by show some _ = some _; congr 2; omega)) ?_;refine oP (KG rfl rfl rfl) (oA (KC ?_))
   have hpb:=pow_bit A E y m
   rw [if_pos h27] at hpb
   refine ⟨y,by omega,by omega,KAD (Sub.cells (b:=b7) (cs':=natL (A^(E/2^y)%m)) mT (by rw [hpb])) (Ka ⟨rfl,rfl,rfl,rfl,rfl,congrArg (fun i:Int=>some (Value.int .i64 i)) (KBj om om),trivial⟩ mS)⟩
  have h27:¬ E/2^y%2 = 1:=h27
  refine KM (KA ?_);refine oP (Kf (v:=Iz y) (by show some _ = some _; congr 2; omega)) ?_;refine oP (KG rfl rfl rfl) (oA (KC ?_))
  have hpb:=pow_bit A E y m
  rw [if_neg h27] at hpb
  refine ⟨y,by omega,by omega,KAD (Sub.cells (b:=b7) (cs':=natL (A^(E/2^y)%m)) mT (by rw [hpb])) (Ka ⟨rfl,rfl,rfl,rfl,rfl,congrArg (fun i:Int=>some (Value.int .i64 i)) (KBj om om),trivial⟩ mS)⟩
end Go.Proofs.YtnpeokiboiclfaaGreat
set_option linter.unusedVariables false
namespace Go.Proofs.YtnpeokiboiclfaaGreat
open Go Go.RowKit
namespace D
theorem limb_zero (i:Nat):limb 0 i = 0:=by simp [limb]
theorem nw_ne {A:Nat} (h:nw A≠0):2^(32*(nw A-1))≤A:=by
  have hA:A≠0:=fun e=>h (by rw [e]; rfl)
  have h1:=blen_pos hA
  have h2:=KDJ hA
  exact Nat.le_trans (Nat.pow_le_pow_right (by decide) (by unfold nw; omega)) h1
theorem bits_words {A:Nat} (h:nw A≠0):32*(nw A-1)+blen (limb A (nw A-1)) = blen A:=by
  have h1:=nw_ne h
  rw [limb_top (A:=A) (n:=nw A-1) (by rw [show nw A-1+1 = nw A by omega]; exact lt_nw A)]
  have:=KBl h1
  omega
theorem nw_mono {A B:Nat} (h:A≤B):nw A≤nw B:=nw_le (Nat.lt_of_le_of_lt h (lt_nw B))
theorem carry_borrow {A B:Nat} (h:B≤A) (i:Nat):carry B (A-B) i = borrow A B i:=by
  have hp:=pow64_pos i
  have h0:(B%2^(32*i)+(A-B)%2^(32*i))%2^(32*i) = A%2^(32*i):=by rw [← Nat.add_mod]; congr 1; omega
  unfold carry borrow
  have h1:=Nat.mod_lt B hp
  have h2:=Nat.mod_lt (A-B) hp
  generalize B%2^(32*i) = b at *
  generalize (A-B)%2^(32*i) = d at *
  generalize A%2^(32*i) = a at *
  generalize 2^(32*i) = M at *
  by_cases hc:b+d<M
  · rw [Nat.mod_eq_of_lt hc] at h0
    rw [Nat.div_eq_of_lt hc,if_neg (by omega)]
  · have e:b+d = (b+d-M)+M:=by omega
    rw [e,Nat.add_mod_right,Nat.mod_eq_of_lt (by omega)] at h0
    rw [e,Nat.add_div_right _ hp,Nat.div_eq_of_lt (by omega),if_pos (by omega)]
theorem sub_limb {A B:Nat} (h:B≤A) (i:Nat):(limb A i+4294967296-limb B i-borrow A B i)%4294967296 = limb (A-B) i∧1-(limb A i+4294967296-limb B i-borrow A B i)/4294967296 = borrow A B (i+1):=by
  have h1:=add_limb B (A-B) i
  rw [carry_borrow h,carry_borrow h,show B+(A-B) = A by omega] at h1
  have h2:=limb_lt A i
  have h3:=limb_lt B i
  have h4:=limb_lt (A-B) i
  have h5:=borrow_le A B i
  have h6:=borrow_le A B (i+1)
  omega
theorem ext {n A B:Nat} (hA:A<2^(32*n)) (hB:B<2^(32*n)) (h:∀ i,i<n→limb A i = limb B i):A = B:=by
  have key:∀ k,k≤n→A/2^(32*(n-k)) = B/2^(32*(n-k)):=by
    intro k
    induction k with
    | zero=>intro _; rw [Nat.sub_zero,Nat.div_eq_of_lt hA,Nat.div_eq_of_lt hB]
    | succ k ih =>
      intro hk
      refine (div_eq_iff_limb A B (n-(k+1))).2 ⟨?_,h _ (by omega)⟩
      rw [show n-(k+1)+1 = n-k by omega]
      exact ih (by omega)
  have:=key n (Nat.le_refl _)
  simpa using this
theorem byte_of (A i:Nat):limb A (i/4)/2^(8*(i%4))%256 = A/256^i%256:=by
  have h1:A/256^i = A/2^(32*(i/4))/2^(8*(i%4)):=by
    rw [pow256,Nat.div_div_eq_div_mul,← Nat.pow_add]; congr 2; omega
  rw [h1]
  unfold limb
  generalize A/2^(32*(i/4)) = q
  have hr:i%4<4:=Nat.mod_lt _ (by decide)
  generalize i%4 = r at *
  have:∀ r,r<4→q%4294967296/2^(8*r)%256 = q/2^(8*r)%256:=by
    intro r hr
    have hc:r = 0∨r = 1∨r = 2∨r = 3:=by omega
    rcases hc with h|h|h|h <;> subst h <;> simp only [Nat.reduceMul,Nat.reducePow] <;> omega
  exact this r hr
end D
theorem limb_piece64 {V y s i k w : Nat} (hs : s * w = 64) (hk : k < w) (hi : V < 2 ^ (s * (w * i + k))) (hy : y < 2 ^ s) : (limb V i ||| y * 2 ^ (s * k) % 18446744073709551616) < 18446744073709551616 ∧
    ∀ j,limb (y*2^(s*(w*i+k))+V) j = if j = i then (limb V i ||| y*2^(s*k)%18446744073709551616) else limb V j:=by
  have h1:2^(s*(w*i+k)) = 2^(s*k)*2^(64*i):=by
    rw [← Nat.pow_add,Nat.mul_add,← Nat.mul_assoc,hs]; congr 1; omega
  have hl:limb V i<2^(s*k):=by
    have:V/2^(64*i)<2^(s*k):=by
      rw [Nat.div_lt_iff_lt_mul (pow64_pos _),← h1]; exact hi
    exact Nat.lt_of_le_of_lt (Nat.mod_le _ _) this
  have hle:s*k+s≤64:=by
    have:s*(k+1)≤s*w:=Nat.mul_le_mul_left _ hk
    rw [Nat.mul_succ] at this
    omega
  have hlt:y*2^(s*k)+2^(s*k)≤18446744073709551616:=by
    have h2:(y+1)*2^(s*k)≤2^s*2^(s*k):=Nat.mul_le_mul_right _ hy
    have h3:2^s*2^(s*k)≤2^64:=by rw [← Nat.pow_add]; exact Nat.pow_le_pow_right (by decide) (by omega)
    rw [Nat.add_mul] at h2
    have h4:(2:Nat)^64 = 18446744073709551616:=rfl
    omega
  have hpos:0<2^(s*k):=Nat.pow_pos (by decide)
  have ho:(limb V i ||| y*2^(s*k)%18446744073709551616) = limb V i+y*2^(s*k):=by
    rw [or_high hl (by omega),Nat.mod_eq_of_lt (by omega)]
  rw [ho]
  refine ⟨by omega,fun j=>?_⟩
  have:=limb_addl V (y*2^(s*k)) i j (by omega)
  rw [← this,h1,Nat.mul_assoc,Nat.add_comm]
end Go.Proofs.YtnpeokiboiclfaaGreat
set_option linter.unusedVariables false
set_option linter.unusedSimpArgs false
set_option maxRecDepth 20000
namespace Go.Proofs.YtnpeokiboiclfaaGreat
open Go Go.RowKit


theorem D.bit_of (A i:Nat):D.limb A (i/32)/2^(i%32)%2 = A/2^i%2:=by
  have h1:A/2^i = A/2^(32*(i/32))/2^(i%32):=by
    rw [Nat.div_div_eq_div_mul,← Nat.pow_add]; congr 2; omega
  rw [h1]
  unfold D.limb
  generalize A/2^(32*(i/32)) = q
  have hr:i%32<32:=Nat.mod_lt _ dc
  generalize i%32 = r at *
  have e:(4294967296:Nat) = 2^r*(2^(31-r)*2):=by
    rw [← Nat.pow_succ,← Nat.pow_add,show r+(31-r).succ = 32 by omega]
  rw [e,Nat.mod_mul_right_div_self,Nat.mod_mul_left_mod]

end Go.Proofs.YtnpeokiboiclfaaGreat
set_option linter.unusedVariables false
namespace Go.Proofs.YtnpeokiboiclfaaGreat.Grp
section
variable {p:Nat} [NeZero p]
abbrev F (p:Nat):=Fin p
theorem eq_of_sub {x y:Fin p} (h:x-y = 0):x = y:=by grind -lia
theorem sub_of_eq {x y:Fin p} (h:x = y):x-y = 0:=by grind -lia
theorem lin1 {x c1 e1:Fin p} (h:x = c1*e1) (h1:e1 = 0):x = 0:=by rw [h,h1]; grind -lia
theorem lin2 {x c1 e1 c2 e2:Fin p} (h:x = c1*e1+c2*e2) (h1:e1 = 0) (h2:e2 = 0):x = 0:=by rw [h,h1,h2]; grind -lia
theorem lin3 {x c1 e1 c2 e2 c3 e3:Fin p} (h:x = c1*e1+c2*e2+c3*e3) (h1:e1 = 0) (h2:e2 = 0) (h3:e3 = 0):x = 0:=by rw [h,h1,h2,h3]; grind -lia
theorem lin4 {x c1 e1 c2 e2 c3 e3 c4 e4:Fin p} (h:x = c1*e1+c2*e2+c3*e3+c4*e4) (h1:e1 = 0) (h2:e2 = 0) (h3:e3 = 0) (h4:e4 = 0):x = 0:=by rw [h,h1,h2,h3,h4]; grind -lia
def Dom (p:Nat) [NeZero p]:Prop:=∀ x y:Fin p,x*y = 0→x = 0∨y = 0
theorem Dom.cancel (hd:Dom p) {x y c:Fin p} (hc:c≠0) (h:(x-y)*c = 0):x = y:=by
  rcases hd _ _ h with h|h
  · exact eq_of_sub h
  · exact absurd h hc
structure Slope (a x1 y1 x2 y2 l:Fin p):Prop where
  chord:l*(x1-x2)-(y1-y2) = 0
  tang:l*(y1+y2)-(x1*x1+x1*x2+x2*x2+a) = 0
theorem Slope.symm {a x1 y1 x2 y2 l:Fin p} (h:Slope a x1 y1 x2 y2 l):Slope a x2 y2 x1 y1 l :=
  ⟨lin1 (c1:=-1) (by grind -lia) h.chord,lin1 (c1:=1) (by grind -lia) h.tang⟩
def Opp (x1 y1 x2 y2:Fin p):Prop:=x1-x2 = 0∧y1+y2 = 0
theorem Slope.unique (hd:Dom p) {a x1 y1 x2 y2 l m:Fin p} (hn:¬ Opp x1 y1 x2 y2) (hl:Slope a x1 y1 x2 y2 l) (hm:Slope a x1 y1 x2 y2 m):l = m:=by
  by_cases h:x1-x2 = 0
  · have h2:y1+y2≠0:=fun e=>hn ⟨h,e⟩
    exact hd.cancel h2 (lin2 (c1:=1) (c2:=-1) (by grind -lia) hl.tang hm.tang)
  · exact hd.cancel h (lin2 (c1:=1) (c2:=-1) (by grind -lia) hl.chord hm.chord)
theorem slope_next (hd : Dom p) {a x1 y1 x2 y2 x3 y3 l m s x4 y4 : Fin p} (hA : Slope a x1 y1 x2 y2 l) (hC : Slope a x3 y3 x2 y2 m) (h4 : x4 - (l * l - x1 - x2) = 0) (h5 : y4 - (l * (x1 - x4) - y1) = 0)
    (hs:Slope a x3 y3 x4 y4 s) (hlm:l-m≠0) (hn:¬ Opp x3 y3 x4 y4):(s+l)*(l-m) = x1-x3:=by
  obtain ⟨hA1,hA2⟩:=hA
  obtain ⟨hC1,hC2⟩:=hC
  obtain ⟨hs1,hs2⟩:=hs
  obtain rfl:y1 = y2+l*(x1-x2):=eq_of_sub (lin1 (c1:=-1) (by grind -lia) hA1)
  obtain rfl:y3 = y2+m*(x3-x2):=eq_of_sub (lin1 (c1:=-1) (by grind -lia) hC1)
  obtain rfl:x4 = l*l-x1-x2:=eq_of_sub h4
  obtain rfl:y4 = _:=eq_of_sub h5
  have hK1:(s*(l-m)-(l*m-l*l+x1-x3))*(x3-(l*l-x1-x2)) = 0 :=
    lin3 (c1:=l-m) (c2:=1) (c3:=-1) (by clear hA1 hA2 hC1 hC2 hs1 hs2 h4 h5 hlm hn; grind -lia) hs1 hA2 hC2
  have hK2:(s*(l-m)-(l*m-l*l+x1-x3))*(y2+m*(x3-x2)+(l*(x1-(l*l-x1-x2))-(y2+l*(x1-x2)))) = 0 :=
    lin3 (c1:=l-m) (c2:=m) (c3:=-l) (by clear hA1 hA2 hC1 hC2 hs1 hs2 h4 h5 hlm hn hK1; grind -lia) hs2 hA2 hC2
  have hK:s*(l-m) = l*m-l*l+x1-x3:=by
    by_cases h:x3-(l*l-x1-x2) = 0
    · exact hd.cancel (fun e=>hn ⟨h,e⟩) hK2
    · exact hd.cancel h hK1
  clear hA1 hA2 hC1 hC2 hs1 hs2 h4 h5 hlm hn hK1 hK2
  have:(s+l)*(l-m) = s*(l-m)+l*(l-m):=by clear hK; grind -lia
  rw [this,hK]; clear hK this; grind -lia
inductive Pt (p:Nat) where
  | inf
  | aff (x y:Fin p)
def Pt.neg:Pt p→Pt p
  | .inf=>.inf
  | .aff x y=>.aff x (-y)
inductive Add (a:Fin p):Pt p→Pt p→Pt p→Prop where
  | left (q:Pt p):Add a .inf q q
  | right (q:Pt p):Add a q .inf q
  | opp {x1 y1 x2 y2:Fin p}:Opp x1 y1 x2 y2→Add a (.aff x1 y1) (.aff x2 y2) .inf
  | line {x1 y1 x2 y2:Fin p} (l x y:Fin p):¬ Opp x1 y1 x2 y2→Slope a x1 y1 x2 y2 l→x-(l*l-x1-x2) = 0→y-(l*(x1-x)-y1) = 0→Add a (.aff x1 y1) (.aff x2 y2) (.aff x y)
theorem Opp.symm {x1 y1 x2 y2:Fin p} (h:Opp x1 y1 x2 y2):Opp x2 y2 x1 y1:=⟨lin1 (c1:=-1) (by grind -lia) h.1,lin1 (c1:=1) (by grind -lia) h.2⟩
theorem Add.symm {a:Fin p} {A B R:Pt p} (h:Add a A B R):Add a B A R:=by
  cases h with
  | left q=>exact .right _
  | right q=>exact .left _
  | opp h=>exact .opp h.symm
  | line l x y hn hs hx hy =>
    refine .line l x y (fun h=>hn h.symm) hs.symm ?_ ?_
    · exact lin1 (c1:=1) (by clear hs hx hy hn; grind -lia) hx
    · exact lin2 (c1:=1) (c2:=1) (by clear hs hx hy hn; grind -lia) hy hs.chord
theorem Add.unique (hd:Dom p) {a:Fin p} {A B R S:Pt p} (h:Add a A B R) (k:Add a A B S):R = S:=by
  cases h with
  | left q=>cases k <;> rfl
  | right q=>cases k <;> rfl
  | opp h=>cases k with
    | opp _=>rfl
    | line _ _ _ hn _ _ _=>exact absurd h hn
  | line l x y hn hs hx hy=>cases k with
    | opp h=>exact absurd h hn
    | line m x' y' hn' hs' hx' hy' =>
      obtain rfl:=hs.unique hd hn hs'
      obtain rfl:=eq_of_sub hx
      obtain rfl:=eq_of_sub hy
      obtain rfl:=eq_of_sub hx'
      obtain rfl:=eq_of_sub hy'
      rfl
def On (a b:Fin p):Pt p→Prop
  | .inf=>True
  | .aff x y=>y*y-(x*x*x+a*x+b) = 0
theorem Add.on {a b:Fin p} {A B R:Pt p} (h:Add a A B R) (hA:On a b A) (hB:On a b B):On a b R:=by
  cases h with
  | left q=>exact hB
  | right q=>exact hA
  | opp h=>trivial
  | @line x1 y1 x2 y2 l x y hn hs hx hy =>
    obtain ⟨h1,h2⟩:=hs
    simp only [On] at hA hB ⊢
    obtain rfl:=eq_of_sub hy
    have hx':l*l-x1-x2-x = 0:=lin1 (c1:=-1) (by clear h1 h2 hA hB hn hx; grind -lia) hx
    exact lin4 (c1:=1) (c2:=x-x1) (c3:=-((x-x1)*l)) (c4:=(x-x1)*(x-x2)) (by clear h1 h2 hA hB hn hx hx'; grind -lia) hA h2 h1 hx'
structure Fine (a b:Fin p):Prop where
  dom:Dom p
  two:∀ y:Fin p,y+y = 0→y = 0
  sing:∀ x:Fin p,On a b (.aff x 0)→x*x+x*x+x*x+a = 0→False
theorem Opp.eq {x1 y1 x2 y2:Fin p} (h:Opp x1 y1 x2 y2):(.aff x2 y2:Pt p) = .aff x1 (-y1):=by
  have e1:x2 = x1:=eq_of_sub (lin1 (c1:=-1) (by grind -lia) h.1)
  have e2:y2 = -y1:=eq_of_sub (lin1 (c1:=1) (by grind -lia) h.2)
  rw [e1,e2]
theorem opp_neg (x y:Fin p):Opp x (-y) x y:=⟨by grind -lia,by grind -lia⟩
theorem opp_neg' (x y:Fin p):Opp x y x (-y):=⟨by grind -lia,by grind -lia⟩
theorem Pt.neg_neg (A:Pt p):A.neg.neg = A:=by
  cases A with
  | inf=>rfl
  | aff x y=>simp only [Pt.neg]; congr 1; grind -lia
theorem Add.cancel {a b:Fin p} (hf:Fine a b) {B C E:Pt p} (hB:On a b B) (h:Add a B C E):Add a B.neg E C:=by
  cases h with
  | left q=>exact .left _
  | right q =>
    cases B with
    | inf=>exact .right _
    | aff x y=>exact .opp (opp_neg x y)
  | opp h=>rw [h.eq]; exact .right _
  | @line x2 y2 x3 y3 m x y hn hs hx hy =>
    obtain ⟨h1,h2⟩:=hs
    have ht:-m*(-y2+y)-(x2*x2+x2*x+x*x+a) = 0:=by
      clear hB hn
      obtain rfl:y3 = y2-m*(x2-x3):=eq_of_sub (lin1 (c1:=1) (by clear h1 h2 hx hy; grind -lia) h1)
      obtain rfl:=eq_of_sub hx
      obtain rfl:=eq_of_sub hy
      exact lin1 (c1:=1) (by clear h1 h2 hx hy; grind -lia) h2
    refine .line (-m) x3 y3 ?_ ⟨?_,ht⟩ ?_ ?_
    · rintro ⟨o1,o2⟩
      obtain rfl:=eq_of_sub o1
      have e1:y2+y2 = 0:=lin2 (c1:=-1) (c2:=1) (by clear h1 h2 hx hy hB hn ht o1 o2; grind -lia) o2 hy
      have e2:=hf.two _ e1
      subst e2
      have e3:y = 0:=by
        have:y-0 = 0:=lin1 (c1:=1) (by clear h1 h2 hx hy hB hn ht o1 o2 e1; grind -lia) o2
        exact eq_of_sub this
      subst e3
      exact hf.sing _ hB (lin1 (c1:=-1) (by clear h1 h2 hx hy hB hn ht o1 o2 e1; grind -lia) ht)
    · exact lin1 (c1:=1) (by clear h1 h2 hx hB hn ht hy; grind -lia) hy
    · exact lin1 (c1:=1) (by clear h1 h2 hx hB hn ht hy; grind -lia) hx
    · exact lin1 (c1:=1) (by clear h1 h2 hx hB hn ht hy; grind -lia) h1
theorem Add.neg {a:Fin p} {A B R:Pt p} (h:Add a A B R):Add a A.neg B.neg R.neg:=by
  cases h with
  | left q=>exact .left _
  | right q=>exact .right _
  | opp h=>exact .opp ⟨h.1,lin1 (c1:=-1) (by grind -lia) h.2⟩
  | @line x1 y1 x2 y2 l x y hn hs hx hy =>
    refine .line (-l) x (-y) (fun h=>hn ⟨h.1,lin1 (c1:=-1) (by grind -lia) h.2⟩) ⟨lin1 (c1:=-1) (by clear hn hx hy; grind -lia) hs.1,lin1 (c1:=1) (by clear hn hx hy; grind -lia) hs.2⟩ ?_ ?_
    · exact lin1 (c1:=1) (by clear hn hx hy hs; grind -lia) hx
    · exact lin1 (c1:=-1) (by clear hn hx hy hs; grind -lia) hy
theorem neg_on {a b:Fin p} {A:Pt p} (h:On a b A):On a b A.neg:=by
  cases A with
  | inf=>trivial
  | aff x y =>
    simp only [On,Pt.neg] at h ⊢
    exact lin1 (c1:=1) (by clear h; grind -lia) h
theorem add_neg (a:Fin p) (A:Pt p):Add a A A.neg .inf:=by
  cases A with
  | inf=>exact .left _
  | aff x y=>exact .opp (opp_neg' x y)
theorem Add.assoc {a b:Fin p} (hf:Fine a b) {A B C D E R S:Pt p} (hA:On a b A) (hB:On a b B) (hC:On a b C) (h1:Add a A B D) (h2:Add a D C R) (h3:Add a B C E) (h4:Add a A E S):R = S:=by
  have hd:=hf.dom
  have hnA:∀ {A' B' D':Pt p},Add a A' B' D'→On a b A'→On a b B'→Add a B' D'.neg A'.neg:=by
    intro A' B' D' h hA hB
    have:=(Add.cancel hf hB h.symm).neg
    rwa [Pt.neg_neg] at this
  cases h1 with
  | left q =>
    have:=h2.unique hd h3
    subst this
    cases h4 <;> rfl
  | right q =>
    cases h3 <;> exact h2.unique hd h4
  | @opp x1 y1 x2 y2 h =>
    have e:R = C:=by cases h2 <;> rfl
    subst e
    have e2:=Add.cancel hf hB h3
    have e3:(Pt.aff x2 y2).neg = .aff x1 y1:=by
      have:=h.symm.eq
      simp only [Pt.neg]; exact this.symm
    rw [e3] at e2
    exact e2.unique hd h4
  | @line x1 y1 x2 y2 l x4 y4 hn hs hx hy =>
    have hAB:Add a (.aff x1 y1) (.aff x2 y2) (.aff x4 y4):=.line l x4 y4 hn hs hx hy
    cases h3 with
    | right q =>
      have e:R = .aff x4 y4:=by cases h2; rfl
      subst e
      exact hAB.unique hd h4
    | @opp _ _ x3 y3 h =>
      have e:S = .aff x1 y1:=by cases h4; rfl
      subst e
      have e2:=Add.cancel hf hB hAB.symm
      rw [show (Pt.aff x2 y2).neg = .aff x3 y3 from h.eq.symm] at e2
      exact h2.unique hd e2.symm
    | @line _ _ x3 y3 m x6 y6 hn' hs' hx' hy' =>
      have hBC:Add a (.aff x2 y2) (.aff x3 y3) (.aff x6 y6):=.line m x6 y6 hn' hs' hx' hy'
      cases h2 with
      | opp h =>
        have e:=hnA hAB hA hB
        rw [show (Pt.aff x4 y4).neg = .aff x3 y3 from h.eq.symm] at e
        have e2:=e.unique hd hBC
        rw [← e2] at h4
        exact (add_neg a _).unique hd h4
      | @line _ _ _ _ s xr yr ns ss hxr hyr =>
        cases h4 with
        | opp h =>
          have e:=Add.cancel hf hB hBC
          have e1:=e.neg
          rw [Pt.neg_neg,show (Pt.aff x6 y6).neg = Pt.aff x1 y1 from h.symm.eq.symm] at e1
          have e2:=hAB.unique hd e1.symm
          exact absurd (show Opp x4 y4 x3 y3 by injection e2 with e3 e4; rw [e3,e4]; exact opp_neg _ _) ns
        | @line _ _ _ _ t xs ys nt st hxs hys =>
          by_cases hlm:l-m = 0
          · obtain rfl:=eq_of_sub hlm
            clear hlm
            have hz:(x1-x3)*(x1+x3+x2-l*l) = 0:=by
              obtain rfl:y1 = y2+l*(x1-x2):=eq_of_sub (lin1 (c1:=-1) (by clear hA hB hC hAB hBC hn hs hx hy hn' hs' hx' hy' ns ss hxr hyr nt st hxs hys; grind -lia) hs.1)
              obtain rfl:y3 = y2-l*(x2-x3):=eq_of_sub (lin1 (c1:=1) (by clear hA hB hC hAB hBC hn hs hx hy hn' hs' hx' hy' ns ss hxr hyr nt st hxs hys; grind -lia) hs'.1)
              exact lin2 (c1:=-1) (c2:=1) (by clear hA hB hC hAB hBC hn hs hx hy hn' hs' hx' hy' ns ss hxr hyr nt st hxs hys; grind -lia) hs.2 hs'.2
            rcases hd _ _ hz with h|h
            · have hac : (Pt.aff x3 y3) = .aff x1 y1 := by
                obtain rfl:=eq_of_sub h
                have:y3-y1 = 0:=lin2 (c1:=1) (c2:=1) (by clear hA hB hC hAB hBC hn hs hx hy hn' hs' hx' hy' ns ss hxr hyr nt st hxs hys hz h; grind -lia) hs.1 hs'.1
                rw [eq_of_sub this]
              have h2':Add a (.aff x4 y4) (.aff x3 y3) (.aff xr yr):=.line s xr yr ns ss hxr hyr
              have h4':Add a (.aff x1 y1) (.aff x6 y6) (.aff xs ys):=.line t xs ys nt st hxs hys
              rw [hac] at hBC h2'
              have e:=hAB.symm.unique hd hBC
              rw [e] at h2'
              exact h2'.symm.unique hd h4'
            · have h':x4-x3 = 0:=lin2 (c1:=1) (c2:=-1) (by clear hA hB hC hAB hBC hn hs hx hy hn' hs' hx' hy' ns ss hxr hyr nt st hxs hys hz h; grind -lia) hx h
              exact absurd (show Opp x4 y4 x3 y3 from ⟨h',lin4 (c1:=1) (c2:=1) (c3:=1) (c4:=-l) (by clear hA hB hC hAB hBC hn hs hx hy hn' hs' hx' hy' ns ss hxr hyr nt st hxs hys hz h; clear h'; grind -lia) hy hs.1 hs'.1 h'⟩) ns
          · have e1:=slope_next hd hs hs'.symm hx hy ss.symm hlm (fun h=>ns h.symm)
            have hs3:Slope a x3 y3 x2 y2 m:=hs'.symm
            have hx3:x6-(m*m-x3-x2) = 0:=lin1 (c1:=1) (by clear hA hB hC hAB hBC hn hs hx hy hn' hs' hx' hy' ns ss hxr hyr nt st hxs hys hlm; grind -lia) hx'
            have hy3:y6-(m*(x3-x6)-y3) = 0:=lin2 (c1:=1) (c2:=1) (by clear hA hB hC hAB hBC hn hs hx hy hn' hs' hx' hy' ns ss hxr hyr nt st hxs hys hlm; clear hx3; grind -lia) hy' hs'.1
            have hml:m-l≠0:=fun e=>hlm (lin1 (c1:=-1) (by clear hA hB hC hAB hBC hn hs hx hy hn' hs' hx' hy' ns ss hxr hyr nt st hxs hys hlm; clear hx3 hy3 e; grind -lia) e)
            have e2:=slope_next hd hs3 hs hx3 hy3 st hml nt
            have e3:s = t+m-l:=by
              refine hd.cancel hlm (lin2 (c1:=1) (c2:=1) (by clear hA hB hC hAB hBC hn hs hx hy hn' hs' hx' hy' ns ss hxr hyr nt st hxs hys hlm; clear hx3 hy3 hml e1 e2; grind -lia) (sub_of_eq e1) (sub_of_eq e2))
            have e4:=sub_of_eq e2
            clear e1 e2 hx3 hy3 hml hs3
            subst e3
            have z0:=lin2 (c1:=1) (c2:=2) rfl hx' e4
            have hxx:xr = xs:=eq_of_sub (lin4 (c1:=1) (c2:=-1) (c3:=-1) (c4:=1) (by clear hA hB hC hAB hBC hn hs hx hy hn' hs' hx' hy' ns ss hxr hyr nt st hxs hys hlm e4; clear z0; grind -lia) hxr hxs hx z0)
            clear z0
            subst hxx
            have z1:=lin4 (c1:=1) (c2:=-1) (c3:=1) (c4:=-1) rfl hyr hys ss.1 hs.1
            have z2:=lin4 (c1:=-1) (c2:=m-l) (c3:=-(m-l)) (c4:=-(t-m)) rfl hs'.1 hx' hxs e4
            have hyy:yr = ys:=eq_of_sub (lin2 (c1:=1) (c2:=1) (by clear hA hB hC hAB hBC hn hs hx hy hn' hs' hx' hy' ns ss hxr hyr nt st hxs hys hlm e4; clear z1 z2; grind -lia) z1 z2)
            rw [hyy]
end
end Go.Proofs.YtnpeokiboiclfaaGreat.Grp
set_option linter.unusedVariables false
namespace Go.Proofs.YtnpeokiboiclfaaGreat.Grp
section
variable {p:Nat} [NeZero p]
def sum3 (A T X1 Y1 Z1 X2 Y2 Z2:Fin p):Fin p×Fin p×Fin p :=
  let t0:=X1*X2
  let t1:=Y1*Y2
  let t2:=Z1*Z2
  let t3:=(X1+Y1)*(X2+Y2)-(t0+t1)
  let t4:=(X1+Z1)*(X2+Z2)-(t0+t2)
  let t5:=(Y1+Z1)*(Y2+Z2)-(t1+t2)
  let z:=T*t2+A*t4
  let x:=t1-z
  let z:=t1+z
  let y:=x*z
  let t1:=t0+t0+t0
  let t2:=A*t2
  let t4:=T*t4
  let t1:=t1+t2
  let t2:=A*(t0-t2)
  let t4:=t4+t2
  let y:=y+t1*t4
  let x:=t3*x-t5*t4
  let z:=t5*z+t3*t1
  (x,y,z)
inductive Rep:Fin p→Fin p→Fin p→Pt p→Prop where
  | inf {Y:Fin p}:Y≠0→Rep 0 Y 0 .inf
  | aff {Z:Fin p} (x y:Fin p):Z≠0→Rep (x*Z) (y*Z) Z (.aff x y)
theorem sum3_scale (A T x1 y1 Z1 x2 y2 Z2 : Fin p) : sum3 A T (x1 * Z1) (y1 * Z1) Z1 (x2 * Z2) (y2 * Z2) Z2 =
    ((sum3 A T x1 y1 1 x2 y2 1).1*(Z1*Z1*(Z2*Z2)),(sum3 A T x1 y1 1 x2 y2 1).2.1*(Z1*Z1*(Z2*Z2)),(sum3 A T x1 y1 1 x2 y2 1).2.2*(Z1*Z1*(Z2*Z2))):=by
  simp only [sum3]
  refine Prod.ext ?_ (Prod.ext ?_ ?_)
  · dsimp only; grind -lia
  · dsimp only; grind -lia
  · dsimp only; grind -lia
theorem sum3_line {x1 x2 y2 l A B : Fin p} (hA : A = l * (y2 + l * (x1 - x2) + y2) - (x1 * x1 + x1 * x2 + x2 * x2)) (hB : B = (y2 + l * (x1 - x2)) * (y2 + l * (x1 - x2)) - x1 * x1 * x1 - A * x1) :
    (sum3 A (B+B+B) x1 (y2+l*(x1-x2)) 1 x2 y2 1).1 = (l*l-x1-x2)*(sum3 A (B+B+B) x1 (y2+l*(x1-x2)) 1 x2 y2 1).2.2 ∧
    (sum3 A (B+B+B) x1 (y2+l*(x1-x2)) 1 x2 y2 1).2.1 = (l*(x1-(l*l-x1-x2))-(y2+l*(x1-x2)))*(sum3 A (B+B+B) x1 (y2+l*(x1-x2)) 1 x2 y2 1).2.2 ∧
    (sum3 A (B+B+B) x1 (y2+l*(x1-x2)) 1 x2 y2 1).2.2 = -((y2+l*(x1-x2)+y2)*(x1*(x1-x2)*(x1-x2)-((y2+l*(x1-x2)+y2)*(y2+l*(x1-x2)+y2)-(x1+x2)*((x1-x2)*(x1-x2))))-(y2+l*(x1-x2))*((x1-x2)*(x1-x2)*(x1-x2))):=by
  subst hB hA
  simp only [sum3]
  refine ⟨?_,?_,?_⟩ <;> grind -lia
theorem sum3_opp {x y A B : Fin p} (hB : B = y * y - x * x * x - A * x) : sum3 A (B + B + B) x y 1 x (-y) 1 =
    (0,-(8*(y*y*(y*y))-12*x*(y*y)*(3*(x*x)+A)+(3*(x*x)+A)*(3*(x*x)+A)*(3*(x*x)+A)),0):=by
  subst hB
  simp only [sum3]
  refine Prod.ext ?_ (Prod.ext ?_ ?_)
  · dsimp only; grind -lia
  · dsimp only; grind -lia
  · dsimp only; grind -lia
theorem sum3_left (A T Y1 x2 y2 Z2:Fin p):sum3 A T 0 Y1 0 (x2*Z2) (y2*Z2) Z2 = (x2*(Y1*Y1*(y2*Z2)*Z2),y2*(Y1*Y1*(y2*Z2)*Z2),Y1*Y1*(y2*Z2)*Z2):=by
  simp only [sum3]
  refine Prod.ext ?_ (Prod.ext ?_ ?_)
  · dsimp only; grind -lia
  · dsimp only; grind -lia
  · dsimp only; grind -lia
theorem sum3_right (A T Y1 x2 y2 Z2:Fin p):sum3 A T (x2*Z2) (y2*Z2) Z2 0 Y1 0 = (x2*(Y1*Y1*(y2*Z2)*Z2),y2*(Y1*Y1*(y2*Z2)*Z2),Y1*Y1*(y2*Z2)*Z2):=by
  simp only [sum3]
  refine Prod.ext ?_ (Prod.ext ?_ ?_)
  · dsimp only; grind -lia
  · dsimp only; grind -lia
  · dsimp only; grind -lia
theorem sum3_none (A T Y1 Y2:Fin p):sum3 A T 0 Y1 0 0 Y2 0 = (0,Y1*Y2*(Y1*Y2),0):=by
  simp only [sum3]
  refine Prod.ext ?_ (Prod.ext ?_ ?_)
  · dsimp only; grind -lia
  · dsimp only; grind -lia
  · dsimp only; grind -lia
theorem Dom.mul (hd:Dom p) {x y:Fin p} (hx:x≠0) (hy:y≠0):x*y≠0:=fun h=>(hd _ _ h).elim hx hy
theorem neg_ne {x : Fin p} (h : x ≠ 0) : -x ≠ 0 := fun e => h (by have : x = -(-x) := by grind -lia
                                                                  rw [this,e]; grind -lia)
structure Good (a b:Fin p):Prop where
  dom:Dom p
  inv:∀ x:Fin p,x≠0→∃ y,x*y = 1
  two:∀ y:Fin p,y+y = 0→y = 0
  root:∀ x:Fin p,¬ On a b (.aff x 0)
theorem Good.fine {a b:Fin p} (h:Good a b):Fine a b:=⟨h.dom,h.two,fun x hx _=>h.root x hx⟩
theorem Good.y_ne {a b x y:Fin p} (h:Good a b) (hP:On a b (.aff x y)):y≠0:=fun e=>h.root x (e ▸ hP)
theorem Good.quot {a b:Fin p} (h:Good a b) {x:Fin p} (hx:x≠0) (y:Fin p):∃ l,l*x = y:=by
  obtain ⟨i,hi⟩:=h.inv x hx
  refine ⟨y*i,?_⟩
  have e:y*i*x = y*(x*i):=by clear hi; grind -lia
  rw [e,hi]; clear hi e; grind -lia
theorem Good.sum {a b:Fin p} (h:Good a b) {A B:Pt p} (hA:On a b A) (hB:On a b B):∃ R,Add a A B R:=by
  cases A with
  | inf=>exact ⟨_,.left _⟩
  | aff x1 y1=>cases B with
    | inf=>exact ⟨_,.right _⟩
    | aff x2 y2 =>
      by_cases ho:Opp x1 y1 x2 y2
      · exact ⟨_,.opp ho⟩
      · have key : ∃ l, Slope a x1 y1 x2 y2 l := by
          simp only [On] at hA hB
          by_cases hx:x1-x2 = 0
          · have hs:y1+y2≠0:=fun e=>ho ⟨hx,e⟩
            obtain ⟨l,hl⟩:=h.quot hs (x1*x1+x1*x2+x2*x2+a)
            refine ⟨l,?_,sub_of_eq hl⟩
            obtain rfl:=eq_of_sub hx
            have e:(y1-y2)*(y1+y2) = 0:=lin2 (c1:=1) (c2:=-1) (by clear hl hs hx ho hA hB; grind -lia) hA hB
            have e2:y1-y2 = 0:=(h.dom _ _ e).elim id (fun e=>absurd e hs)
            exact lin1 (c1:=-1) (by clear hl hs hx ho hA hB e e2; grind -lia) e2
          · obtain ⟨l,hl⟩:=h.quot hx (y1-y2)
            refine ⟨l,sub_of_eq hl,?_⟩
            have e:(l*(y1+y2)-(x1*x1+x1*x2+x2*x2+a))*(x1-x2) = 0:=lin3 (c1:=y1+y2) (c2:=1) (c3:=-1) (by clear hl hx ho hA hB; grind -lia) (sub_of_eq hl) hA hB
            exact (h.dom _ _ e).elim id (fun e=>absurd e hx)
        obtain ⟨l,hl⟩:=key
        exact ⟨_,.line l (l*l-x1-x2) (l*(x1-(l*l-x1-x2))-y1) ho hl (by clear hl ho hA hB; grind -lia) (by clear hl ho hA hB; grind -lia)⟩
theorem rep_scale {X Y Z k:Fin p} {P:Pt p} (hd:Dom p) (h:Rep X Y Z P) (hk:k≠0):Rep (X*k) (Y*k) (Z*k) P:=by
  cases h with
  | inf h =>
    have e:(0:Fin p)*k = 0:=by clear h hk; grind -lia
    rw [e]
    exact .inf (hd.mul h hk)
  | aff x y h =>
    have e1:x*Z*k = x*(Z*k):=by clear h hk; grind -lia
    have e2:y*Z*k = y*(Z*k):=by clear h hk; grind -lia
    rw [e1,e2]
    exact .aff x y (hd.mul h hk)
theorem Rep.sum {a b X1 Y1 Z1 X2 Y2 Z2 : Fin p} (h : Good a b) {P Q R : Pt p} (hP : Rep X1 Y1 Z1 P) (hQ : Rep X2 Y2 Z2 Q) (oP : On a b P) (oQ : On a b Q) (hR : Add a P Q R) :
    Rep (sum3 a (b+b+b) X1 Y1 Z1 X2 Y2 Z2).1 (sum3 a (b+b+b) X1 Y1 Z1 X2 Y2 Z2).2.1 (sum3 a (b+b+b) X1 Y1 Z1 X2 Y2 Z2).2.2 R:=by
  have hd:=h.dom
  cases hP with
  | inf h1=>cases hQ with
    | inf h2 =>
      have e:R = .inf:=by cases hR <;> rfl
      subst e
      rw [sum3_none]
      exact .inf (hd.mul (hd.mul h1 h2) (hd.mul h1 h2))
    | aff x2 y2 h2 =>
      have e:R = .aff x2 y2:=by cases hR; rfl
      subst e
      rw [sum3_left]
      exact .aff x2 y2 (hd.mul (hd.mul (hd.mul h1 h1) (hd.mul (h.y_ne oQ) h2)) h2)
  | aff x1 y1 h1=>cases hQ with
    | inf h2 =>
      have e:R = .aff x1 y1:=by cases hR; rfl
      subst e
      rw [sum3_right]
      exact .aff x1 y1 (hd.mul (hd.mul (hd.mul h2 h2) (hd.mul (h.y_ne oP) h1)) h1)
    | aff x2 y2 h2 =>
      rw [sum3_scale]
      refine rep_scale hd ?_ (hd.mul (hd.mul h1 h1) (hd.mul h2 h2))
      have hb:=oP
      simp only [On] at hb
      cases hR with
      | opp ho =>
        have e:=ho.eq
        injection e with e1 e2
        subst e1 e2
        have hB:b = y1*y1-x2*x2*x2-a*x2:=eq_of_sub (lin1 (c1:=-1) (by clear hb ho oP oQ h1 h2; grind -lia) hb)
        rw [sum3_opp hB]
        refine .inf (neg_ne ?_)
        intro hV
        have hy:=h.y_ne oP
        have hyy:y1+y1≠0:=fun e=>hy (h.two _ e)
        obtain ⟨l,hl⟩:=h.quot hyy (3*(x2*x2)+a)
        have hs:Slope a x2 y1 x2 y1 l:=⟨by clear hl hV hB hb; grind -lia,lin1 (c1:=1) (by clear hl hV hB hb; grind -lia) (sub_of_eq hl)⟩
        have hA:Add a (.aff x2 y1) (.aff x2 y1) (.aff (l*l-x2-x2) (l*(x2-(l*l-x2-x2))-y1)):=.line l _ _ (fun e=>hyy e.2) hs (by clear hl hV hB hb; grind -lia) (by clear hl hV hB hb; grind -lia)
        have hO:=hA.on oP oP
        have hy4:=h.y_ne hO
        apply hd.mul hy4 (hd.mul hyy (hd.mul hyy hyy))
        have hl':=hl.symm
        rw [hl'] at hV
        refine lin1 (c1:=-1) ?_ hV
        clear hV hl' hl hB hb hs hA hO hy4 hyy hy oP oQ ho
        grind -lia
      | line l x y hn hs hx hy =>
        obtain rfl:=eq_of_sub hx
        obtain rfl:=eq_of_sub hy
        have hs1:=hs.chord
        have hs2:=hs.tang
        obtain rfl:y1 = y2+l*(x1-x2):=eq_of_sub (lin1 (c1:=-1) (by clear hs1 hs2 hb hx hy oP oQ; grind -lia) hs1)
        have hA:a = l*(y2+l*(x1-x2)+y2)-(x1*x1+x1*x2+x2*x2):=eq_of_sub (lin1 (c1:=-1) (by clear hs1 hs2 hb hx hy oP oQ; grind -lia) hs2)
        have hB:b = (y2+l*(x1-x2))*(y2+l*(x1-x2))-x1*x1*x1-a*x1:=eq_of_sub (lin1 (c1:=-1) (by clear hs1 hs2 hb hx hy oP oQ hA; grind -lia) hb)
        obtain ⟨e1,e2,e3⟩:=sum3_line hA hB
        rw [e1,e2]
        refine .aff _ _ ?_
        rw [e3]
        refine neg_ne ?_
        clear e1 e2 e3
        by_cases hxx:x1-x2 = 0
        · have hss:y2+l*(x1-x2)+y2≠0:=fun e=>hn ⟨hxx,e⟩
          intro hV
          obtain rfl:=eq_of_sub hxx
          apply hd.mul hss (hd.mul hss hss)
          refine lin1 (c1:=-1) ?_ hV
          clear hV hss hA hB hb hs hs1 hs2 hx hy oP oQ hxx hn
          grind -lia
        · obtain ⟨n,hn'⟩:=h.quot hxx (y2+l*(x1-x2)+y2)
          have oQ':On a b (.aff x2 (-y2)):=neg_on oQ
          have hs':Slope a x1 (y2+l*(x1-x2)) x2 (-y2) n:=by
            have c1:n*(x1-x2)-(y2+l*(x1-x2) - -y2) = 0:=lin1 (c1:=1) (by clear hn' hA hB hb hs hs1 hs2 hx hy oP oQ oQ' hxx hn; grind -lia) (sub_of_eq hn')
            refine ⟨c1,?_⟩
            have e:(n*(y2+l*(x1-x2)+-y2)-(x1*x1+x1*x2+x2*x2+a))*(x1-x2) = 0:=lin2 (c1:=l*(x1-x2)) (c2:=x1-x2) (by clear hn' hA hB hb hs hs1 hs2 hx hy oP oQ oQ' hxx hn; grind -lia) (sub_of_eq hn') hs2
            exact (hd _ _ e).elim id (fun e=>absurd e hxx)
          have hA':Add a (.aff x1 (y2+l*(x1-x2))) (.aff x2 (-y2)) (.aff (n*n-x1-x2) (n*(x1-(n*n-x1-x2))-(y2+l*(x1-x2)))):=.line n _ _ (fun e=>hxx e.1) hs' (by clear hn' hA hB hb hs hs1 hs2 hx hy oP oQ oQ' hxx hn hs'; grind -lia) (by clear hn' hA hB hb hs hs1 hs2 hx hy oP oQ oQ' hxx hn hs'; grind -lia)
          have hO:=hA'.on oP oQ'
          have hy4:=h.y_ne hO
          intro hV
          apply hd.mul hy4 (hd.mul hxx (hd.mul hxx hxx))
          rw [← hn'] at hV
          refine lin1 (c1:=1) ?_ hV
          clear hV hA hB hb hs hs1 hs2 hx hy oP oQ oQ' hxx hn hs' hA' hO hy4 hn'
          grind -lia
end
end Go.Proofs.YtnpeokiboiclfaaGreat.Grp
set_option linter.unusedVariables false
set_option linter.unusedSectionVars false
namespace Go.Proofs.YtnpeokiboiclfaaGreat.Grp
section
def Pr (p:Nat):Prop:=2≤p∧∀ d,d ∣ p→d = 1∨d = p
theorem bez (a m:Nat):∃ s t:Int,(a:Int)*s+(m:Int)*t = ((Nat.gcd a m:Nat):Int):=by
  induction a,m using Nat.gcd.induction with
  | H0 n=>exact ⟨0,1,by simp⟩
  | H1 m n hm ih =>
    obtain ⟨s,t,h⟩:=ih
    refine ⟨t-((n/m:Nat):Int)*s,s,?_⟩
    rw [Nat.gcd_rec m n,← h]
    have e:((n:Nat):Int) = (m:Int)*((n/m:Nat):Int)+((n%m:Nat):Int):=by
      rw [← Int.natCast_mul,← Int.natCast_add,Nat.div_add_mod]
    generalize ((n/m:Nat):Int) = q at *
    generalize ((n%m:Nat):Int) = r at *
    rw [e]
    grind
theorem inv_mod {a m:Nat} (h:Nat.gcd a m = 1) (hm:1<m):∃ s,s<m∧a*s%m = 1:=by
  obtain ⟨s,t,e⟩:=bez a m
  rw [h] at e
  have hm':(m:Int)≠0:=by omega
  refine ⟨(s%(m:Int)).toNat,?_,?_⟩
  · have:=Int.emod_lt_of_pos s (show (0:Int)<m by omega)
    have:=Int.emod_nonneg s hm'
    omega
  · have h0:=Int.emod_nonneg s hm'
    have h1:((a*(s%(m:Int)).toNat%m:Nat):Int) = 1:=by
      rw [Int.natCast_emod,Int.natCast_mul,Int.toNat_of_nonneg h0,Int.mul_emod,Int.emod_emod,← Int.mul_emod]
      have e2:(a:Int)*s = 1+(m:Int)*(-t):=by
        rw [Int.mul_neg]; simp at e; omega
      rw [e2,Int.add_mul_emod_self_left]
      exact Int.emod_eq_of_lt (by decide) (by omega)
    omega
theorem Pr.cop {p x:Nat} (h:Pr p) (hx:¬ p ∣ x):Nat.gcd x p = 1:=by
  rcases h.2 _ (Nat.gcd_dvd_right x p) with e|e
  · exact e
  · exact absurd (e ▸ Nat.gcd_dvd_left x p) hx
theorem Pr.mul {p x y:Nat} (h:Pr p) (hd:p ∣ x*y):p ∣ x∨p ∣ y:=by
  by_cases hx:p ∣ x
  · exact .inl hx
  · refine .inr (Nat.Coprime.dvd_of_dvd_mul_left ?_ hd)
    rw [Nat.coprime_comm]
    exact h.cop hx
variable {p:Nat} [NeZero p]
structure Fld (p:Nat) [NeZero p]:Prop where
  dom:Dom p
  inv:∀ x:Fin p,x≠0→∃ y,x*y = 1
  two:∀ y:Fin p,y+y = 0→y = 0
theorem Pr.fld (h:Pr p) (h2:p≠2):Fld p:=by
  have hp:=h.1
  have zero_of:∀ x:Fin p,p ∣ x.val→x = 0:=fun x hx=>by
    apply Fin.ext
    rw [Fin.val_zero]
    exact Nat.eq_zero_of_dvd_of_lt hx x.isLt
  refine ⟨fun x y e=>?_,fun x hx=>?_,fun y e=>?_⟩
  · have e1:x.val*y.val%p = 0:=by rw [← Fin.val_mul,e,Fin.val_zero]
    exact (h.mul (Nat.dvd_of_mod_eq_zero e1)).imp (zero_of x) (zero_of y)
  · obtain ⟨s,hs,e⟩:=inv_mod (a:=x.val) (h.cop (fun hd=>hx (zero_of x hd))) (show 1<p by omega)
    refine ⟨⟨s,hs⟩,Fin.ext ?_⟩
    rw [Fin.val_mul]
    show x.val*s%p = _
    rw [e]
    have:(1:Fin p).val = 1%p:=rfl
    rw [this,Nat.mod_eq_of_lt (by omega)]
  · have e1:(y.val+y.val)%p = 0:=by rw [← Fin.val_add,e,Fin.val_zero]
    have e2:p ∣ 2*y.val:=by rw [Nat.two_mul]; exact Nat.dvd_of_mod_eq_zero e1
    rcases h.mul e2 with e3|e3
    · have:=Nat.le_of_dvd (by decide) e3
      exact absurd (show p = 2 by omega) h2
    · exact zero_of y e3
structure Crv (a b:Fin p):Prop where
  fld:Fld p
  sing:∀ x:Fin p,On a b (.aff x 0)→x*x+x*x+x*x+a = 0→False
theorem Crv.fine {a b:Fin p} (h:Crv a b):Fine a b:=⟨h.fld.dom,h.fld.two,h.sing⟩
theorem Fld.quot (h:Fld p) {x:Fin p} (hx:x≠0) (y:Fin p):∃ l,l*x = y:=by
  obtain ⟨i,hi⟩:=h.inv x hx
  refine ⟨y*i,?_⟩
  have e:y*i*x = y*(x*i):=by clear hi; grind -lia
  rw [e,hi]; clear hi e; grind -lia
theorem Fld.sum (h:Fld p) {a b:Fin p} {A B:Pt p} (hA:On a b A) (hB:On a b B):∃ R,Add a A B R:=by
  cases A with
  | inf=>exact ⟨_,.left _⟩
  | aff x1 y1=>cases B with
    | inf=>exact ⟨_,.right _⟩
    | aff x2 y2 =>
      by_cases ho:Opp x1 y1 x2 y2
      · exact ⟨_,.opp ho⟩
      · have key : ∃ l, Slope a x1 y1 x2 y2 l := by
          simp only [On] at hA hB
          by_cases hx:x1-x2 = 0
          · have hs:y1+y2≠0:=fun e=>ho ⟨hx,e⟩
            obtain ⟨l,hl⟩:=h.quot hs (x1*x1+x1*x2+x2*x2+a)
            refine ⟨l,?_,sub_of_eq hl⟩
            obtain rfl:=eq_of_sub hx
            have e:(y1-y2)*(y1+y2) = 0:=lin2 (c1:=1) (c2:=-1) (by clear hl hs hx ho hA hB; grind -lia) hA hB
            have e2:y1-y2 = 0:=(h.dom _ _ e).elim id (fun e=>absurd e hs)
            exact lin1 (c1:=-1) (by clear hl hs hx ho hA hB e e2; grind -lia) e2
          · obtain ⟨l,hl⟩:=h.quot hx (y1-y2)
            refine ⟨l,sub_of_eq hl,?_⟩
            have e:(l*(y1+y2)-(x1*x1+x1*x2+x2*x2+a))*(x1-x2) = 0:=lin3 (c1:=y1+y2) (c2:=1) (c3:=-1) (by clear hl hx ho hA hB; grind -lia) (sub_of_eq hl) hA hB
            exact (h.dom _ _ e).elim id (fun e=>absurd e hx)
        obtain ⟨l,hl⟩:=key
        exact ⟨_,.line l (l*l-x1-x2) (l*(x1-(l*l-x1-x2))-y1) ho hl (by clear hl ho hA hB; grind -lia) (by clear hl ho hA hB; grind -lia)⟩
instance:Nonempty (Pt p):=⟨.inf⟩
noncomputable def padd (a:Fin p) (A B:Pt p):Pt p:=Classical.epsilon (fun R=>Add a A B R)
theorem padd_spec (h:Fld p) {a b:Fin p} {A B:Pt p} (hA:On a b A) (hB:On a b B):Add a A B (padd a A B):=Classical.epsilon_spec (h.sum hA hB)
theorem padd_eq (h:Fld p) {a b:Fin p} {A B R:Pt p} (hA:On a b A) (hB:On a b B) (hR:Add a A B R):padd a A B = R:=(padd_spec h hA hB).unique h.dom hR
theorem padd_on (h:Fld p) {a b:Fin p} {A B:Pt p} (hA:On a b A) (hB:On a b B):On a b (padd a A B):=(padd_spec h hA hB).on hA hB
theorem padd_comm (h:Fld p) {a b:Fin p} {A B:Pt p} (hA:On a b A) (hB:On a b B):padd a A B = padd a B A:=padd_eq h hA hB (padd_spec h hB hA).symm
theorem padd_assoc {a b:Fin p} (h:Crv a b) {A B C:Pt p} (hA:On a b A) (hB:On a b B) (hC:On a b C):padd a (padd a A B) C = padd a A (padd a B C) :=
  Add.assoc h.fine hA hB hC (padd_spec h.fld hA hB) (padd_spec h.fld (padd_on h.fld hA hB) hC) (padd_spec h.fld hB hC) (padd_spec h.fld hA (padd_on h.fld hB hC))
theorem padd_inf (h:Fld p) {a b:Fin p} {A:Pt p} (hA:On a b A):padd a A .inf = A:=padd_eq h hA (b:=b) trivial (.right _)
theorem inf_padd (h:Fld p) {a b:Fin p} {A:Pt p} (hA:On a b A):padd a .inf A = A:=padd_eq h (b:=b) trivial hA (.left _)
theorem padd_neg (h:Fld p) {a b:Fin p} {A:Pt p} (hA:On a b A):padd a A A.neg = .inf:=padd_eq h hA (neg_on hA) (add_neg a A)
theorem padd_cancel {a b:Fin p} (h:Crv a b) {A B C:Pt p} (hA:On a b A) (hB:On a b B) (hC:On a b C) (e:padd a A C = padd a B C):A = B:=by
  have e1:=congrArg (fun X=>padd a X C.neg) e
  simp only [padd_assoc h hA hC (neg_on hC),padd_assoc h hB hC (neg_on hC),padd_neg h.fld hC,padd_inf h.fld hA,padd_inf h.fld hB] at e1
  exact e1
noncomputable def pmul (a:Fin p) (P:Pt p):Nat→Pt p
  | 0=>.inf
  | k+1=>padd a (pmul a P k) P
theorem pmul_on (h:Fld p) {a b:Fin p} {P:Pt p} (hP:On a b P):∀ k,On a b (pmul a P k)
  | 0=>trivial
  | k+1=>padd_on h (pmul_on h hP k) hP
theorem pmul_one (h:Fld p) {a b:Fin p} {P:Pt p} (hP:On a b P):pmul a P 1 = P:=inf_padd h hP
theorem pmul_add {a b:Fin p} (h:Crv a b) {P:Pt p} (hP:On a b P) (i:Nat):∀ j,pmul a P (i+j) = padd a (pmul a P i) (pmul a P j)
  | 0=>(padd_inf h.fld (pmul_on h.fld hP i)).symm
  | j+1=>by
    show padd a (pmul a P (i+j)) P = _
    rw [pmul_add h hP i j,padd_assoc h (pmul_on h.fld hP i) (pmul_on h.fld hP j) hP]
    rfl
theorem pmul_mul {a b:Fin p} (h:Crv a b) {P:Pt p} (hP:On a b P) (i:Nat):∀ j,pmul a P (i*j) = pmul a (pmul a P i) j
  | 0=>rfl
  | j+1=>by
    rw [Nat.mul_succ,pmul_add h hP,pmul_mul h hP i j]
    rfl
theorem pmul_inf {a b:Fin p} (h:Fld p):∀ j,pmul a (.inf:Pt p) j = .inf
  | 0=>rfl
  | j+1=>by
    show padd a (pmul a .inf j) .inf = _
    rw [pmul_inf (b:=b) h j,padd_inf h (show On a b (.inf:Pt p) from trivial)]
theorem pmul_order {a b:Fin p} (h:Crv a b) {P:Pt p} (hP:On a b P) {q:Nat} (hq:Pr q) (h0:P≠.inf) (hqP:pmul a P q = .inf) {k:Nat} (hk:pmul a P k = .inf):q ∣ k:=by
  refine Classical.byContradiction fun hn=>h0 ?_
  have hq2:=hq.1
  obtain ⟨s,_,hs⟩:=inv_mod (hq.cop hn) (show 1<q by omega)
  have e1:k*s = q*(k*s/q)+1:=by
    have:=Nat.div_add_mod (k*s) q
    omega
  have e2:pmul a P (k*s) = .inf:=by rw [pmul_mul h hP,hk,pmul_inf (b:=b) h.fld]
  rw [e1,pmul_add h hP,pmul_mul h hP,hqP,pmul_inf (b:=b) h.fld,pmul_one h.fld hP,inf_padd h.fld hP] at e2
  exact e2
theorem pmul_mod {a b:Fin p} (h:Crv a b) {P:Pt p} (hP:On a b P) {q:Nat} (hqP:pmul a P q = .inf) (k:Nat):pmul a P k = pmul a P (k%q):=by
  have e:=Nat.div_add_mod k q
  have e2:pmul a P k = pmul a P (q*(k/q)+k%q):=by rw [e]
  rw [e2,pmul_add h hP,pmul_mul h hP,hqP,pmul_inf (b:=b) h.fld,inf_padd h.fld (pmul_on h.fld hP _)]
theorem pmul_inj {a b:Fin p} (h:Crv a b) {P:Pt p} (hP:On a b P) {q:Nat} (hq:Pr q) (h0:P≠.inf) (hqP:pmul a P q = .inf) {i j:Nat} (hj:j<q) (hi:i≤j) (e:pmul a P i = pmul a P j):i = j:=by
  have e1:pmul a P j = padd a (pmul a P (j-i)) (pmul a P i):=by rw [← pmul_add h hP,Nat.sub_add_cancel hi]
  have e2:padd a .inf (pmul a P i) = padd a (pmul a P (j-i)) (pmul a P i):=by rw [inf_padd h.fld (pmul_on h.fld hP i),← e1,e]
  have e3:=padd_cancel h (show On a b (.inf:Pt p) from trivial) (pmul_on h.fld hP _) (pmul_on h.fld hP i) e2
  have e4:=pmul_order h hP hq h0 hqP e3.symm
  have:=Nat.eq_zero_of_dvd_of_lt e4 (by omega)
  omega
theorem doves:∀ (M N:Nat) (f:Nat→Nat),(∀ i,i<N→f i<M)→(∀ i j,i<j→j<N→f i≠f j)→N≤M
  | 0,N,f,h,_=>Nat.le_of_not_lt fun hN=>Nat.not_lt_zero _ (h 0 hN)
  | M+1,N,f,h,hi=>by
    by_cases hex:∃ i0,i0<N∧f i0 = M
    · obtain ⟨i0,h0,e0⟩:=hex
      have:=doves M (N-1) (fun i=>if i<i0 then f i else f (i+1)) (fun i hiN=>by
        split
        · have:=h i (by omega)
          have:=hi i i0 (by omega) h0
          omega
        · have:=h (i+1) (by omega)
          have:=hi i0 (i+1) (by omega) (by omega)
          omega) (fun i j hij hj=>by
        split
        · split
          · exact hi i j hij (by omega)
          · exact hi i (j+1) (by omega) (by omega)
        · split
          · omega
          · exact hi (i+1) (j+1) (by omega) (by omega))
      omega
    · have := doves M N f (fun i hiN => by
        have:=h i hiN
        have:f i≠M:=fun e=>hex ⟨i,hiN,e⟩
        omega) hi
      omega
def pcode:Pt p→Nat
  | .inf=>2*p
  | .aff x y=>2*x.val+(if 2*y.val<p then 0 else 1)
theorem pcode_lt (P:Pt p):pcode P<2*p+1:=by
  cases P with
  | inf=>simp [pcode]
  | aff x y=>have:=x.isLt; simp only [pcode]; split <;> omega
theorem pcode_inj (h:Fld p) {a b:Fin p} {P Q:Pt p} (hP:On a b P) (hQ:On a b Q) (e:pcode P = pcode Q):P = Q:=by
  cases P with
  | inf=>cases Q with
    | inf=>rfl
    | aff x y=>have:=x.isLt; simp only [pcode] at e; split at e <;> omega
  | aff x y=>cases Q with
    | inf=>have:=x.isLt; simp only [pcode] at e; split at e <;> omega
    | aff x' y' =>
      simp only [pcode] at e
      have hx:x = x':=Fin.ext (by split at e <;> split at e <;> omega)
      subst hx
      simp only [On] at hP hQ
      have hm:(y-y')*(y+y') = 0:=lin2 (c1:=1) (c2:=-1) (by clear hP hQ e; grind -lia) hP hQ
      rcases h.dom _ _ hm with h1|h1
      · rw [eq_of_sub h1]
      · have h2:(y.val+y'.val)%p = 0:=by rw [← Fin.val_add,h1,Fin.val_zero]
        have h3:=y.isLt
        have h4:=y'.isLt
        have h5:y.val+y'.val = 0∨y.val+y'.val = p:=by
          rcases Nat.lt_or_ge (y.val+y'.val) p with h6|h6
          · rw [Nat.mod_eq_of_lt h6] at h2; exact .inl h2
          · have:(y.val+y'.val-p)%p = 0:=by rw [← Nat.mod_eq_sub_mod h6]; exact h2
            rw [Nat.mod_eq_of_lt (by omega)] at this
            omega
        have h7:y = y':=Fin.ext (by split at e <;> split at e <;> omega)
        rw [h7]
theorem order_le {a b:Fin p} (h:Crv a b) {P:Pt p} (hP:On a b P) {q:Nat} (hq:Pr q) (h0:P≠.inf) (hqP:pmul a P q = .inf):q≤2*p+1 :=
  doves (2*p+1) q (fun i=>pcode (pmul a P i)) (fun i _=>pcode_lt _) (fun i j hij hj e =>
    absurd (pmul_inj h hP hq h0 hqP hj (Nat.le_of_lt hij) (pcode_inj h.fld (pmul_on h.fld hP i) (pmul_on h.fld hP j) e)) (by omega))
end
end Go.Proofs.YtnpeokiboiclfaaGreat.Grp
set_option linter.unusedVariables false
set_option linter.unusedSectionVars false
namespace Go.Proofs.YtnpeokiboiclfaaGreat.Grp
section
variable {p:Nat} [NeZero p]
def c (p:Nat) [NeZero p] (k:Nat):Fin p:=Fin.ofNat p k
theorem c_val (k:Nat):(c p k).val = k%p:=rfl
theorem c_add (i j:Nat):c p (i+j) = c p i+c p j:=Fin.ext (by rw [Fin.val_add,c_val,c_val,c_val,← Nat.add_mod])
theorem c_mul (i j:Nat):c p (i*j) = c p i*c p j:=Fin.ext (by rw [Fin.val_mul,c_val,c_val,c_val,← Nat.mul_mod])
theorem c_mod {n:Nat} (hn:p ∣ n) (i:Nat):c p (i%n) = c p i:=Fin.ext (by rw [c_val,c_val,Nat.mod_mod_of_dvd _ hn])
theorem c_zero_iff {k:Nat}:c p k = 0↔p ∣ k:=by
  constructor
  · intro h
    have:=congrArg Fin.val h
    rw [c_val,Fin.val_zero] at this
    exact Nat.dvd_of_mod_eq_zero this
  · intro h
    apply Fin.ext
    rw [c_val,Fin.val_zero]
    exact Nat.mod_eq_zero_of_dvd h
theorem c_sub {n j:Nat} (hn:p ∣ n) (hj:j≤n):c p (n-j) = -c p j:=by
  have h1:c p (n-j)+c p j = 0:=by rw [← c_add,Nat.sub_add_cancel hj]; exact c_zero_iff.2 hn
  have h2:c p (n-j) - -c p j = 0:=by rw [← h1]; grind -lia
  exact eq_of_sub h2
theorem c_one:c p 1 = 1:=rfl
theorem c_two:c p 2 = 2:=rfl
theorem c_three:c p 3 = 3:=rfl
theorem c_four:c p 4 = 4:=rfl
theorem c_six:c p 6 = 6:=rfl
def RZ (X Y Z:Fin p) (A:Pt p):Prop:=Z≠0→∃ x y,A = .aff x y∧X = x*Z∧Y = y*Z
theorem RZ.dbl {a b X Y Z W S : Fin p} {A : Pt p} (h : Fld p) (hA : On a b A) (hr : RZ X Y Z A) (hW : W = 3 * X * X + a * (Z * Z)) (hS : S = 2 * Y * Z) :
    RZ (S*(W*W-4*(X*Y*S))) (W*(6*(X*Y*S)-W*W)-2*(Y*S)*(Y*S)) (S*S*S) (padd a A A):=by
  intro hz
  have hS0:S≠0:=fun e=>hz (by rw [e]; clear hr hW hS e hz; grind -lia)
  have hZ0:Z≠0:=fun e=>hS0 (by rw [hS,e]; clear hr hW hS e hz hS0; grind -lia)
  obtain ⟨x,y,rfl,hX,hY⟩:=hr hZ0
  have hy0:y≠0:=fun e=>hS0 (by rw [hS,hY,e]; clear hr hW hS e hz hS0 hX hY; grind -lia)
  have hsp:=padd_spec h hA hA
  generalize padd a (.aff x y) (.aff x y) = R at hsp
  cases hsp with
  | opp ho=>exact absurd (h.two _ ho.2) hy0
  | line l x4 y4 hn hs hx hy =>
    have ha:a = l*(y+y)-(x*x+x*x+x*x):=eq_of_sub (lin1 (c1:=-1) (by clear hr hW hS hz hS0 hX hY hx hy hs hA; grind -lia) hs.tang)
    obtain rfl:=eq_of_sub hx
    obtain rfl:=eq_of_sub hy
    refine ⟨_,_,rfl,?_,?_⟩
    · rw [hW,hS,hX,hY,ha]; clear hr hW hS hz hS0 hX hY hx hy hs hA ha; grind -lia
    · rw [hW,hS,hX,hY,ha]; clear hr hW hS hz hS0 hX hY hx hy hs hA ha; grind -lia
theorem RZ.add {a b X Y Z x2 y2 u v : Fin p} {A : Pt p} (h : Fld p) (hA : On a b A) (hQ : On a b (.aff x2 y2)) (hr : RZ X Y Z A) (hu : u = y2 * Z - Y) (hv : v = x2 * Z - X) :
    RZ (v*(u*u*Z-v*v*v-2*(v*v*X))) (u*(v*v*X-(u*u*Z-v*v*v-2*(v*v*X)))-v*v*v*Y) (v*v*v*Z) (padd a A (.aff x2 y2)):=by
  intro hz
  have hv0:v≠0:=fun e=>hz (by rw [e]; clear hr hu hv e hz; grind -lia)
  have hZ0:Z≠0:=fun e=>hz (by rw [e]; clear hr hu hv e hz hv0; grind -lia)
  obtain ⟨x,y,rfl,hX,hY⟩:=hr hZ0
  have hx0:x-x2≠0:=fun e=>hv0 (by
    obtain rfl:=eq_of_sub e
    rw [hv,hX]; clear hr hu hv e hz hv0 hX hY; grind -lia)
  have hsp:=padd_spec h hA hQ
  generalize padd a (.aff x y) (.aff x2 y2) = R at hsp
  cases hsp with
  | opp ho=>exact absurd ho.1 hx0
  | line l x4 y4 hn hs hx hy =>
    have e:y = y2+l*(x-x2):=eq_of_sub (lin1 (c1:=-1) (by clear hr hu hv hz hv0 hX hY hx hy hs hA hQ; grind -lia) hs.chord)
    obtain rfl:=eq_of_sub hx
    obtain rfl:=eq_of_sub hy
    refine ⟨_,_,rfl,?_,?_⟩
    · rw [hu,hv,hX,hY,e]; clear hr hu hv hz hv0 hX hY hx hy hs hA hQ e; grind -lia
    · rw [hu,hv,hX,hY,e]; clear hr hu hv hz hv0 hX hY hx hy hs hA hQ e; grind -lia
end
@[reducible] noncomputable def force (m:Nat) (f:Nat→Bool):Bool:=Nat.rec (motive:=fun _=>Bool) (f 0) (fun m _=>f (Nat.succ m)) m
theorem force_eq (m:Nat) (f:Nat→Bool):force m f = f m:=by cases m <;> rfl
noncomputable def lad (n a x y k:Nat) (fin:Nat→Nat→Nat→Bool):Nat→Nat→Nat→Nat→Bool :=
  Nat.rec (motive:=fun _=>Nat→Nat→Nat→Bool) fin (fun i ih X Y Z =>
    force ((3*X*X+a*(Z*Z))%n) fun W=>force (2*Y*Z%n) fun S=>force (X*Y%n*S%n) fun B=>force (Y*S%n) fun E =>
    force (S*(W*W+4*(n-B))%n) fun X1=>force ((W*(6*B+(n-W)*W)+2*(n-E)*E)%n) fun Y1=>force (S*S%n*S%n) fun Z1 =>
    Bool.rec (ih X1 Y1 Z1) (
      force ((y*Z1+(n-Y1))%n) fun u=>force ((x*Z1+(n-X1))%n) fun v=>force (v*v%n) fun vv=>force (vv*v%n) fun v3 =>
      force (vv*X1%n) fun R=>force ((u*u%n*Z1+(n-v3)+2*(n-R))%n) fun A =>
      force (v*A%n) fun X2=>force ((u*(R+(n-A))+(n-v3)*Y1)%n) fun Y2=>force (v3*Z1%n) fun Z2=>ih X2 Y2 Z2)
      (Nat.testBit k i))
theorem lad_unf (n a x y k : Nat) (fin : Nat → Nat → Nat → Bool) (i X Y Z : Nat) : lad n a x y k fin (i + 1) X Y Z =
    force ((3*X*X+a*(Z*Z))%n) fun W=>force (2*Y*Z%n) fun S=>force (X*Y%n*S%n) fun B=>force (Y*S%n) fun E =>
    force (S*(W*W+4*(n-B))%n) fun X1=>force ((W*(6*B+(n-W)*W)+2*(n-E)*E)%n) fun Y1=>force (S*S%n*S%n) fun Z1 =>
    Bool.rec (lad n a x y k fin i X1 Y1 Z1) (
      force ((y*Z1+(n-Y1))%n) fun u=>force ((x*Z1+(n-X1))%n) fun v=>force (v*v%n) fun vv=>force (vv*v%n) fun v3 =>
      force (vv*X1%n) fun R=>force ((u*u%n*Z1+(n-v3)+2*(n-R))%n) fun A =>
      force (v*A%n) fun X2=>force ((u*(R+(n-A))+(n-v3)*Y1)%n) fun Y2=>force (v3*Z1%n) fun Z2=>lad n a x y k fin i X2 Y2 Z2)
      (Nat.testBit k i):=rfl
theorem lad_succ (n a x y k : Nat) (fin : Nat → Nat → Nat → Bool) (i X Y Z W S B E X1 Y1 Z1 u v vv v3 R A : Nat) (hW : W = (3 * X * X + a * (Z * Z)) % n) (hS : S = 2 * Y * Z % n) (hB : B = X * Y % n * S % n) (hE : E = Y * S % n)
    (hX1:X1 = S*(W*W+4*(n-B))%n) (hY1:Y1 = (W*(6*B+(n-W)*W)+2*(n-E)*E)%n) (hZ1:Z1 = S*S%n*S%n)
    (hu:u = (y*Z1+(n-Y1))%n) (hv:v = (x*Z1+(n-X1))%n) (hvv:vv = v*v%n) (hv3:v3 = vv*v%n) (hR:R = vv*X1%n) (hA:A = (u*u%n*Z1+(n-v3)+2*(n-R))%n) :
    lad n a x y k fin (i+1) X Y Z = if k.testBit i then lad n a x y k fin i (v*A%n) ((u*(R+(n-A))+(n-v3)*Y1)%n) (v3*Z1%n) else lad n a x y k fin i X1 Y1 Z1:=by
  subst hA hR hv3 hvv hv hu hZ1 hY1 hX1 hE hB hS hW
  rw [lad_unf]
  simp only [force_eq]
  cases k.testBit i <;> rfl
section
variable {p:Nat} [NeZero p]
theorem lad_spec {n a b x y k : Nat} {fin : Nat → Nat → Nat → Bool} (hn : 0 < n) : ∀ (i X Y Z : Nat), lad n a x y k fin i X Y Z = true → ∃ X' Y' Z', fin X' Y' Z' = true ∧
    ∀ (p:Nat) [NeZero p],p ∣ n→Crv (c p a) (c p b)→On (c p a) (c p b) (.aff (c p x) (c p y))→RZ (c p X) (c p Y) (c p Z) (pmul (c p a) (.aff (c p x) (c p y)) (k >>> i))→RZ (c p X') (c p Y') (c p Z') (pmul (c p a) (.aff (c p x) (c p y)) k)
  | 0,X,Y,Z,h=>⟨X,Y,Z,h,fun p _ _ _ _ hr=>by simpa using hr⟩
  | i+1,X,Y,Z,h=>by
    have hlt:∀ z,z%n≤n:=fun z=>Nat.le_of_lt (Nat.mod_lt _ hn)
    obtain ⟨W,hW⟩:∃ W,W = (3*X*X+a*(Z*Z))%n:=⟨_,rfl⟩
    obtain ⟨S,hS⟩:∃ S,S = 2*Y*Z%n:=⟨_,rfl⟩
    obtain ⟨B,hB⟩:∃ B,B = X*Y%n*S%n:=⟨_,rfl⟩
    obtain ⟨E,hE⟩:∃ E,E = Y*S%n:=⟨_,rfl⟩
    obtain ⟨X1,hX1⟩:∃ X1,X1 = S*(W*W+4*(n-B))%n:=⟨_,rfl⟩
    obtain ⟨Y1,hY1⟩:∃ Y1,Y1 = (W*(6*B+(n-W)*W)+2*(n-E)*E)%n:=⟨_,rfl⟩
    obtain ⟨Z1,hZ1⟩:∃ Z1,Z1 = S*S%n*S%n:=⟨_,rfl⟩
    obtain ⟨u,hu⟩:∃ u,u = (y*Z1+(n-Y1))%n:=⟨_,rfl⟩
    obtain ⟨v,hv⟩:∃ v,v = (x*Z1+(n-X1))%n:=⟨_,rfl⟩
    obtain ⟨vv,hvv⟩:∃ vv,vv = v*v%n:=⟨_,rfl⟩
    obtain ⟨v3,hv3⟩:∃ v3,v3 = vv*v%n:=⟨_,rfl⟩
    obtain ⟨R,hR⟩:∃ R,R = vv*X1%n:=⟨_,rfl⟩
    obtain ⟨A,hA⟩:∃ A,A = (u*u%n*Z1+(n-v3)+2*(n-R))%n:=⟨_,rfl⟩
    rw [lad_succ n a x y k fin i X Y Z W S B E X1 Y1 Z1 u v vv v3 R A hW hS hB hE hX1 hY1 hZ1 hu hv hvv hv3 hR hA] at h
    have key1 : ∀ (p : Nat) [NeZero p], p ∣ n → Crv (c p a) (c p b) → On (c p a) (c p b) (.aff (c p x) (c p y)) → RZ (c p X) (c p Y) (c p Z) (pmul (c p a) (.aff (c p x) (c p y)) (k >>> (i + 1))) →
        RZ (c p X1) (c p Y1) (c p Z1) (pmul (c p a) (.aff (c p x) (c p y)) (k >>> (i+1)+k >>> (i+1))):=by
      intro p _ hp hc hP hr
      rw [pmul_add hc hP]
      have h1:=RZ.dbl (W:=c p W) (S:=c p S) hc.fld (pmul_on hc.fld hP _) hr (by rw [hW,c_mod hp]; simp only [c_add,c_mul,c_three]) (by rw [hS,c_mod hp]; simp only [c_mul,c_two])
      have eB:c p B = c p X*c p Y*c p S:=by rw [hB,c_mod hp,c_mul,c_mod hp,c_mul]
      have eE:c p E = c p Y*c p S:=by rw [hE,c_mod hp,c_mul]
      have e1:c p X1 = c p S*(c p W*c p W-4*(c p X*c p Y*c p S)):=by
        rw [hX1,c_mod hp]; simp only [c_add,c_mul,c_four,c_sub hp (show B≤n by rw [hB]; exact hlt _),eB]
        clear h1 eB eE hr hP; grind -lia
      have e2:c p Y1 = c p W*(6*(c p X*c p Y*c p S)-c p W*c p W)-2*(c p Y*c p S)*(c p Y*c p S):=by
        rw [hY1,c_mod hp]; simp only [c_add,c_mul,c_six,c_two,c_sub hp (show W≤n by rw [hW]; exact hlt _),c_sub hp (show E≤n by rw [hE]; exact hlt _),eB,eE]
        clear h1 eB eE hr hP e1; grind -lia
      have e3:c p Z1 = c p S*c p S*c p S:=by rw [hZ1,c_mod hp,c_mul,c_mod hp,c_mul]
      rw [e1,e2,e3]
      exact h1
    have hsh:k >>> i = k >>> (i+1)+k >>> (i+1)+(if k.testBit i then 1 else 0):=by
      have e1:k >>> (i+1) = k >>> i/2:=by rw [Nat.shiftRight_add]; rfl
      have e2:k.testBit i = decide (k >>> i%2 = 1):=by rw [Nat.testBit_eq_decide_div_mod_eq,Nat.shiftRight_eq_div_pow]
      rw [e1,e2]
      generalize k >>> i = z
      have:=Nat.mod_two_eq_zero_or_one z
      have:=Nat.div_add_mod z 2
      by_cases hz:z%2 = 1
      · rw [if_pos (by rw [hz]; rfl)]; omega
      · rw [if_neg (by simp [hz])]; omega
    by_cases hb:k.testBit i = true
    · rw [if_pos hb] at h hsh
      obtain ⟨X',Y',Z',hf,hk⟩:=lad_spec hn i _ _ _ h
      refine ⟨X',Y',Z',hf,fun p _ hp hc hP hr=>hk p hp hc hP ?_⟩
      have h1:=key1 p hp hc hP hr
      rw [hsh,pmul_add hc hP,pmul_one hc.fld hP]
      have h2:=RZ.add (u:=c p u) (v:=c p v) hc.fld (pmul_on hc.fld hP _) hP h1 (by rw [hu,c_mod hp]; simp only [c_add,c_mul,c_sub hp (show Y1≤n by rw [hY1]; exact hlt _)]; clear h1 hr hP; grind -lia)
        (by rw [hv,c_mod hp]; simp only [c_add,c_mul,c_sub hp (show X1≤n by rw [hX1]; exact hlt _)]; clear h1 hr hP; grind -lia)
      have evv:c p vv = c p v*c p v:=by rw [hvv,c_mod hp,c_mul]
      have ev3:c p v3 = c p v*c p v*c p v:=by rw [hv3,c_mod hp,c_mul,evv]
      have eR:c p R = c p v*c p v*c p X1:=by rw [hR,c_mod hp,c_mul,evv]
      have eA:c p A = c p u*c p u*c p Z1-c p v*c p v*c p v-2*(c p v*c p v*c p X1):=by
        rw [hA,c_mod hp]; simp only [c_add,c_mul,c_mod hp,c_two,c_sub hp (show v3≤n by rw [hv3]; exact hlt _),c_sub hp (show R≤n by rw [hR]; exact hlt _),ev3,eR]
        clear h1 h2 hr hP evv ev3 eR; grind -lia
      have e1:c p (v*A%n) = c p v*(c p u*c p u*c p Z1-c p v*c p v*c p v-2*(c p v*c p v*c p X1)):=by rw [c_mod hp,c_mul,eA]
      have e2:c p ((u*(R+(n-A))+(n-v3)*Y1)%n) = c p u*(c p v*c p v*c p X1-(c p u*c p u*c p Z1-c p v*c p v*c p v-2*(c p v*c p v*c p X1)))-c p v*c p v*c p v*c p Y1:=by
        rw [c_mod hp]; simp only [c_add,c_mul,c_sub hp (show A≤n by rw [hA]; exact hlt _),c_sub hp (show v3≤n by rw [hv3]; exact hlt _),ev3,eR,eA]
        clear h1 h2 hr hP evv ev3 eR eA e1; grind -lia
      have e3:c p (v3*Z1%n) = c p v*c p v*c p v*c p Z1:=by rw [c_mod hp,c_mul,ev3]
      rw [e1,e2,e3]
      exact h2
    · rw [if_neg hb] at h hsh
      obtain ⟨X',Y',Z',hf,hk⟩:=lad_spec hn i _ _ _ h
      refine ⟨X',Y',Z',hf,fun p _ hp hc hP hr=>hk p hp hc hP ?_⟩
      rw [hsh,Nat.add_zero]
      exact key1 p hp hc hP hr
noncomputable def gkOK (n a b x y q l:Nat):Bool :=
  Nat.ble 2 n && Nat.beq (Nat.gcd 6 n) 1 && Nat.beq (Nat.gcd (4*(a*(a*a))+27*(b*b)) n) 1 && Nat.beq (y*y%n) ((x*x*x+a*x+b)%n) && Nat.ble (4*n+1) ((q-1)*(q-1)) && Nat.beq ((q-1) >>> l) 1 &&
    lad n a x y (q-1) (fun X Y Z=>Nat.beq (Nat.gcd Z n) 1 && Nat.beq (X%n) (x*Z%n) && Nat.beq ((Y+y*Z)%n) 0) l x y 1
theorem prime_of {n:Nat} (hn:1<n) (h:∀ p,Pr p→p ∣ n→n<p*p):Pr n:=by
  refine ⟨hn,fun d hd=>?_⟩
  refine Classical.byContradiction fun hne=>?_
  have hd0:d≠0:=fun e=>by rw [e] at hd; have:=Nat.eq_zero_of_zero_dvd hd; omega
  have hd2:2≤d:=by omega
  have least:∃ e,(2≤e∧e ∣ n)∧∀ f,2≤f→f ∣ n→e≤f:=by
    have main:∀ m e,e≤m→2≤e→e ∣ n→∃ e,(2≤e∧e ∣ n)∧∀ f,2≤f→f ∣ n→e≤f:=by
      intro m
      induction m with
      | zero=>intro e h1 h2; omega
      | succ m ih =>
        intro e h1 h2 h3
        by_cases hx:∃ f,2≤f∧f ∣ n∧f<e
        · obtain ⟨f,f1,f2,f3⟩:=hx
          exact ih f (by omega) f1 f2
        · exact ⟨e,⟨h2,h3⟩,fun f f1 f2=>Nat.le_of_not_lt fun f3=>hx ⟨f,f1,f2,f3⟩⟩
    exact main d d (Nat.le_refl _) hd2 hd
  obtain ⟨e,⟨e1,e2⟩,e3⟩:=least
  have hp:Pr e:=⟨e1,fun f hf=>by
    have hf0:f≠0:=fun z=>by rw [z] at hf; have:=Nat.eq_zero_of_zero_dvd hf; omega
    by_cases h1:f = 1
    · exact .inl h1
    · have h2:=e3 f (by omega) (Nat.dvd_trans hf e2)
      have h3:=Nat.le_of_dvd (by omega) hf
      exact .inr (by omega)⟩
  have h1:=h e hp e2
  obtain ⟨g,rfl⟩:=hd
  have hg2:2≤g:=by
    have:g≠0:=fun z=>by rw [z] at hn; omega
    have:g≠1:=fun z=>by rw [z] at hne; omega
    omega
  have h2:=e3 d hd2 (Nat.dvd_mul_right d g)
  have h3:=e3 g hg2 (Nat.dvd_mul_left g d)
  have:=Nat.mul_le_mul h2 h3
  omega
theorem crv_of {n a b p:Nat} [NeZero p] (hp:Pr p) (hd:p ∣ n) (h6:Nat.gcd 6 n = 1) (hg:Nat.gcd (4*(a*(a*a))+27*(b*b)) n = 1):Crv (c p a) (c p b):=by
  have no:∀ z,Nat.gcd z n = 1→¬ p ∣ z:=fun z hz hpz=>by
    have:=Nat.dvd_gcd hpz hd
    rw [hz] at this
    have:=Nat.le_of_dvd (by decide) this
    have:=hp.1
    omega
  have h2:p≠2:=fun e=>no 6 h6 (by rw [e]; decide)
  refine ⟨hp.fld h2,fun x hx h3=>no _ hg (c_zero_iff.1 ?_)⟩
  simp only [On] at hx
  have e4:c p (4*(a*(a*a))+27*(b*b)) = 4*(c p a*(c p a*c p a))+27*(c p b*c p b):=by simp only [c_add,c_mul]; rfl
  rw [e4]
  generalize c p a = A at *
  generalize c p b = B at *
  have hA:A = -(x*x+x*x+x*x):=eq_of_sub (lin1 (c1:=1) (by clear hx h3 e4; grind -lia) h3)
  subst hA
  have hB:B = x*x*x+x*x*x:=eq_of_sub (lin1 (c1:=-1) (by clear hx h3 e4; grind -lia) hx)
  subst hB
  clear hx h3 e4
  grind -lia
theorem beq_eq {i j:Nat} (h:Nat.beq i j = true):i = j:=Nat.eq_of_beq_eq_true h
theorem gk_mul {n a b x y q l:Nat} (h:gkOK n a b x y q l = true) (hn:0<n):∀ (p:Nat) [NeZero p],Pr p→p ∣ n→Crv (c p a) (c p b)∧On (c p a) (c p b) (.aff (c p x) (c p y))∧pmul (c p a) (.aff (c p x) (c p y)) q = .inf:=by
  intro p _ hp hd
  simp only [gkOK,Bool.and_eq_true] at h
  obtain ⟨⟨⟨⟨⟨⟨_,h1⟩,h2⟩,h3⟩,h4⟩,h5⟩,h6⟩:=h
  have hc:=crv_of hp hd (beq_eq h1) (beq_eq h2)
  have hP:On (c p a) (c p b) (.aff (c p x) (c p y)):=by
    have:=congrArg (c p) (beq_eq h3)
    rw [c_mod hd,c_mod hd] at this
    simp only [c_add,c_mul] at this
    exact sub_of_eq this
  refine ⟨hc,hP,?_⟩
  obtain ⟨X,Y,Z,hf,hk⟩:=lad_spec (b:=b) hn _ _ _ _ h6
  simp only [Bool.and_eq_true] at hf
  obtain ⟨⟨f1,f2⟩,f3⟩:=hf
  have hZ:c p Z≠0:=fun e=>by
    have h1:=Nat.dvd_gcd (c_zero_iff.1 e) hd
    rw [beq_eq f1] at h1
    have h2:=Nat.le_of_dvd (by decide) h1
    have h3:=hp.1
    omega
  have hr:=hk p hd hc hP (by
    rw [beq_eq h5,pmul_one hc.fld hP]
    intro _
    refine ⟨_,_,rfl,?_,?_⟩ <;> rw [c_one] <;> grind -lia)
  obtain ⟨x',y',e1,e2,e3⟩:=hr hZ
  have g2:=congrArg (c p) (beq_eq f2)
  rw [c_mod hd,c_mod hd,c_mul,e2] at g2
  have g3:=congrArg (c p) (beq_eq f3)
  rw [c_mod hd,c_add,c_mul,e3] at g3
  have hx:x' = c p x:=hc.fld.dom.cancel hZ (lin1 (c1:=1) (by clear g2 g3 e1 e2 e3 hZ hk hP; grind -lia) (sub_of_eq g2))
  have hy:y' = -c p y:=hc.fld.dom.cancel hZ (lin1 (c1:=1) (by clear g2 g3 e1 e2 e3 hZ hk hP hx; grind -lia) (show y'*c p Z+c p y*c p Z = 0 from g3))
  have hq:q = q-1+1:=by
    have:q≠0:=fun e=>by rw [e] at h5; simp at h5
    omega
  rw [hq]
  show padd (c p a) (pmul _ _ (q-1)) _ = _
  rw [e1,hx,hy]
  exact (padd_comm hc.fld (neg_on hP) hP).trans (padd_neg hc.fld hP)
theorem gk {n a b x y q l:Nat} (h:gkOK n a b x y q l = true) (hq:Pr q):Pr n:=by
  have h':=h
  simp only [gkOK,Bool.and_eq_true] at h'
  obtain ⟨⟨⟨⟨⟨⟨h0,h1⟩,h2⟩,h3⟩,h4⟩,h5⟩,h6⟩:=h'
  have h4:=Nb h4
  have hn2:=Nb h0
  · refine prime_of hn2 fun p hp hd=>?_
    have:NeZero p:=⟨by have:=hp.1; omega⟩
    obtain ⟨hc,hP,hm⟩:=gk_mul h (by omega) p hp hd
    have:=order_le hc hP hq (fun e=>by cases e) hm
    refine Nat.lt_of_not_le fun hle=>?_
    have h7:(q-1)*(q-1)≤(2*p)*(2*p):=Nat.mul_le_mul (by omega) (by omega)
    have h8:(2*p)*(2*p) = 4*(p*p):=by rw [Nat.mul_mul_mul_comm]
    omega
end
end Go.Proofs.YtnpeokiboiclfaaGreat.Grp
set_option linter.unusedVariables false
set_option linter.unusedSectionVars false
namespace Go.Proofs.YtnpeokiboiclfaaGreat.Grp
section
variable {p:Nat} [NeZero p]
def fpow (x:Fin p):Nat→Fin p
  | 0=>1
  | k+1=>fpow x k*x
theorem fpow_one (x:Fin p):fpow x 1 = x:=by show (1:Fin p)*x = x; grind -lia
theorem fpow_add (x:Fin p) (i:Nat):∀ j,fpow x (i+j) = fpow x i*fpow x j
  | 0=>by show fpow x i = fpow x i*1; grind -lia
  | j+1=>by
    show fpow x (i+j)*x = fpow x i*(fpow x j*x)
    rw [fpow_add x i j]; grind -lia
theorem fpow_mul (x:Fin p) (i:Nat):∀ j,fpow x (i*j) = fpow (fpow x i) j
  | 0=>rfl
  | j+1=>by
    rw [Nat.mul_succ,fpow_add,fpow_mul x i j]; rfl
theorem mul_fpow (x y:Fin p):∀ j,fpow (x*y) j = fpow x j*fpow y j
  | 0=>by show (1:Fin p) = 1*1; grind -lia
  | j+1=>by
    show fpow (x*y) j*(x*y) = fpow x j*x*(fpow y j*y)
    rw [mul_fpow x y j]; grind -lia
theorem c_pow (A:Nat):∀ E,c p (A^E) = fpow (c p A) E
  | 0=>rfl
  | E+1=>by rw [Nat.pow_succ,c_mul,c_pow A E]; rfl
def prodL:List (Fin p)→Fin p
  | []=>1
  | x :: l=>x*prodL l
theorem prodL_perm {l m:List (Fin p)} (h:l.Perm m):prodL l = prodL m:=by
  induction h with
  | nil=>rfl
  | cons x _ ih=>simp only [prodL,ih]
  | swap x y l=>simp only [prodL]; grind -lia
  | trans _ _ ih1 ih2=>exact ih1.trans ih2
theorem prodL_map (x:Fin p):∀ l:List (Fin p),prodL (l.map fun y=>x*y) = fpow x l.length*prodL l
  | []=>by show (1:Fin p) = 1*1; grind -lia
  | y :: l=>by
    show x*y*prodL (l.map fun y=>x*y) = fpow x l.length*x*(y*prodL l)
    rw [prodL_map x l]; grind -lia
theorem prodL_ne (hd:Dom p) (h1:(1:Fin p)≠0):∀ l:List (Fin p),(∀ x,x∈l→x≠0)→prodL l≠0
  | [],_=>h1
  | x :: l,h=>hd.mul (h x (.head _)) (prodL_ne hd h1 l fun y hy=>h y (.tail _ hy))
end
theorem one_ne {p:Nat} [NeZero p] (hp:2≤p):(1:Fin p)≠0:=fun e=>by
  have:=congrArg Fin.val e
  rw [Fin.val_zero] at this
  have h1:(1:Fin p).val = 1%p:=rfl
  rw [h1,Nat.mod_eq_of_lt (by omega)] at this
  cases this
theorem fermat {p:Nat} [NeZero p] (h:Fld p) (hp:2≤p) {x:Fin p} (hx:x≠0):fpow x (p-1) = 1:=by
  obtain ⟨k,rfl⟩:∃ k,p = k+1:=⟨p-1,by omega⟩
  have hd:=h.dom
  obtain ⟨xi,hxi⟩:=h.inv x hx
  have hU:∀ y:Fin (k+1),y∈(List.finRange k).map Fin.succ↔y≠0:=fun y=>by
    constructor
    · intro hy e
      obtain ⟨z,_,hz⟩:=List.mem_map.1 hy
      exact Fin.succ_ne_zero z (hz.trans e)
    · intro hy
      obtain ⟨z,hz⟩:∃ z:Fin k,z.succ = y:=⟨y.pred hy,Fin.succ_pred y hy⟩
      exact List.mem_map.2 ⟨z,List.mem_finRange z,hz⟩
  have hn:((List.finRange k).map Fin.succ).Nodup:=by
    have:=List.nodup_finRange (k+1)
    rw [List.finRange_succ] at this
    exact (List.nodup_cons.1 this).2
  have hcan:∀ y z:Fin (k+1),x*y = x*z→y = z:=fun y z e=>by
    have:(y-z)*x = 0:=lin1 (c1:=1) (by clear hU hn hxi e; grind -lia) (sub_of_eq e)
    exact hd.cancel hx this
  have hn2:(((List.finRange k).map Fin.succ).map fun y=>x*y).Nodup:=by
    rw [List.nodup_iff_pairwise_ne] at hn ⊢
    exact List.Pairwise.map _ (fun y z hne e=>hne (hcan y z e)) hn
  have hperm:(((List.finRange k).map Fin.succ).map fun y=>x*y).Perm ((List.finRange k).map Fin.succ):=by
    rw [List.perm_ext_iff_of_nodup hn2 hn]
    intro y
    rw [hU]
    constructor
    · intro hy e
      obtain ⟨z,hz,e2⟩:=List.mem_map.1 hy
      exact hd.mul hx ((hU z).1 hz) (e2.trans e)
    · intro hy
      refine List.mem_map.2 ⟨xi*y,(hU _).2 ?_,?_⟩
      · refine hd.mul (fun e=>?_) hy
        rw [e] at hxi
        exact one_ne hp (by rw [← hxi]; clear hU hn hcan hn2 hxi; grind -lia)
      · have:x*(xi*y) = x*xi*y:=by clear hU hn hcan hn2 hxi; grind -lia
        rw [this,hxi]; clear this hU hn hcan hn2 hxi; grind -lia
  have e:=prodL_perm hperm
  rw [prodL_map,List.length_map,List.length_finRange] at e
  have hP:=prodL_ne hd (one_ne hp) _ fun y hy=>(hU y).1 hy
  generalize prodL ((List.finRange k).map Fin.succ) = P at e hP
  rw [Nat.add_sub_cancel]
  exact hd.cancel hP (lin1 (c1:=1) (by clear hU hn hcan hn2 hperm hxi hP e; grind -lia) (sub_of_eq e))
theorem fermat' {p:Nat} [NeZero p] (h:Fld p) (hp:2≤p) (x:Fin p):fpow x p = x:=by
  by_cases hx:x = 0
  · obtain ⟨k,rfl⟩:∃ k,p = k+1:=⟨p-1,by omega⟩
    rw [hx]
    show fpow 0 k*0 = 0
    grind -lia
  · have e:=fermat h hp hx
    obtain ⟨k,rfl⟩:∃ k,p = k+1:=⟨p-1,by omega⟩
    show fpow x k*x = x
    rw [Nat.add_sub_cancel] at e
    rw [e]; clear e hx; grind -lia
end Go.Proofs.YtnpeokiboiclfaaGreat.Grp
set_option linter.unusedVariables false
set_option linter.unusedSectionVars false
namespace Go.Proofs.YtnpeokiboiclfaaGreat.Grp
noncomputable def lad3 (p a b k:Nat) (fin:Nat→Nat→Nat→Bool):Nat→Nat→Nat→Nat→Bool :=
  Nat.rec (motive:=fun _=>Nat→Nat→Nat→Bool) fin (fun i ih A B C =>
    force (A*A%p) fun AA=>force (A*B%p) fun AB =>
    force ((B*B+2*A*C+a*(p-AA))%p) fun A1=>force ((2*B*C+b*(p-AA)+2*a*(p-AB))%p) fun B1=>force ((C*C+2*b*(p-AB))%p) fun C1 =>
    Bool.rec (ih A1 B1 C1) (force ((C1+a*(p-A1))%p) fun B2=>force (b*(p-A1)%p) fun C2=>ih B1 B2 C2) (Nat.testBit k i))
theorem lad3_unf (p a b k : Nat) (fin : Nat → Nat → Nat → Bool) (i A B C : Nat) : lad3 p a b k fin (i + 1) A B C =
    force (A*A%p) fun AA=>force (A*B%p) fun AB =>
    force ((B*B+2*A*C+a*(p-AA))%p) fun A1=>force ((2*B*C+b*(p-AA)+2*a*(p-AB))%p) fun B1=>force ((C*C+2*b*(p-AB))%p) fun C1 =>
    Bool.rec (lad3 p a b k fin i A1 B1 C1) (force ((C1+a*(p-A1))%p) fun B2=>force (b*(p-A1)%p) fun C2=>lad3 p a b k fin i B1 B2 C2) (Nat.testBit k i):=rfl
theorem lad3_succ (p a b k : Nat) (fin : Nat → Nat → Nat → Bool) (i A B C AA AB A1 B1 C1 : Nat) (hAA : AA = A * A % p) (hAB : AB = A * B % p) (hA1 : A1 = (B * B + 2 * A * C + a * (p - AA)) % p) (hB1 : B1 = (2 * B * C + b * (p - AA) + 2 * a * (p - AB)) % p) (hC1 : C1 = (C * C + 2 * b * (p - AB)) % p) :
    lad3 p a b k fin (i+1) A B C = if k.testBit i then lad3 p a b k fin i B1 ((C1+a*(p-A1))%p) (b*(p-A1)%p) else lad3 p a b k fin i A1 B1 C1:=by
  subst hC1 hB1 hA1 hAB hAA
  rw [lad3_unf]
  simp only [force_eq]
  cases k.testBit i <;> rfl
theorem shift_bit (k i:Nat):k >>> i = k >>> (i+1)+k >>> (i+1)+(if k.testBit i then 1 else 0):=by
  have e1:k >>> (i+1) = k >>> i/2:=by rw [Nat.shiftRight_add]; rfl
  have e2:k.testBit i = decide (k >>> i%2 = 1):=by rw [Nat.testBit_eq_decide_div_mod_eq,Nat.shiftRight_eq_div_pow]
  rw [e1,e2]
  generalize k >>> i = z
  have:=Nat.mod_two_eq_zero_or_one z
  have:=Nat.div_add_mod z 2
  by_cases hz:z%2 = 1
  · rw [if_pos (by rw [hz]; rfl)]; omega
  · rw [if_neg (by simp [hz])]; omega
section
variable {p:Nat} [NeZero p]
theorem lad3_spec {a b k : Nat} {fin : Nat → Nat → Nat → Bool} (hp : 0 < p) {r : Fin p} (hr : r * r * r + c p a * r + c p b = 0) : ∀ (i A B C : Nat), lad3 p a b k fin i A B C = true → c p A * (r * r) + c p B * r + c p C = fpow r (k >>> i) →
    ∃ A' B' C',fin A' B' C' = true∧c p A'*(r*r)+c p B'*r+c p C' = fpow r k
  | 0,A,B,C,h,e=>⟨A,B,C,h,by simpa using e⟩
  | i+1,A,B,C,h,e=>by
    have hlt:∀ z,z%p≤p:=fun z=>Nat.le_of_lt (Nat.mod_lt _ hp)
    have hd:p ∣ p:=Nat.dvd_refl p
    obtain ⟨AA,hAA⟩:∃ z,z = A*A%p:=⟨_,rfl⟩
    obtain ⟨AB,hAB⟩:∃ z,z = A*B%p:=⟨_,rfl⟩
    obtain ⟨A1,hA1⟩:∃ z,z = (B*B+2*A*C+a*(p-AA))%p:=⟨_,rfl⟩
    obtain ⟨B1,hB1⟩:∃ z,z = (2*B*C+b*(p-AA)+2*a*(p-AB))%p:=⟨_,rfl⟩
    obtain ⟨C1,hC1⟩:∃ z,z = (C*C+2*b*(p-AB))%p:=⟨_,rfl⟩
    rw [lad3_succ p a b k fin i A B C AA AB A1 B1 C1 hAA hAB hA1 hB1 hC1] at h
    have eAA:c p AA = c p A*c p A:=by rw [hAA,c_mod hd,c_mul]
    have eAB:c p AB = c p A*c p B:=by rw [hAB,c_mod hd,c_mul]
    have eA1:c p A1 = c p B*c p B+2*c p A*c p C-c p a*(c p A*c p A):=by
      rw [hA1,c_mod hd]; simp only [c_add,c_mul,c_two,c_sub hd (show AA≤p by rw [hAA]; exact hlt _),eAA]
      clear eAA eAB hr e; grind -lia
    have eB1:c p B1 = 2*c p B*c p C-c p b*(c p A*c p A)-2*c p a*(c p A*c p B):=by
      rw [hB1,c_mod hd]; simp only [c_add,c_mul,c_two,c_sub hd (show AA≤p by rw [hAA]; exact hlt _),c_sub hd (show AB≤p by rw [hAB]; exact hlt _),eAA,eAB]
      clear eAA eAB hr e eA1; grind -lia
    have eC1:c p C1 = c p C*c p C-2*c p b*(c p A*c p B):=by
      rw [hC1,c_mod hd]; simp only [c_add,c_mul,c_two,c_sub hd (show AB≤p by rw [hAB]; exact hlt _),eAB]
      clear eAA eAB hr e eA1 eB1; grind -lia
    have key:c p A1*(r*r)+c p B1*r+c p C1 = fpow r (k >>> (i+1)+k >>> (i+1)):=by
      rw [fpow_add,← e,eA1,eB1,eC1]
      clear eAA eAB e eA1 eB1 eC1 h
      refine eq_of_sub (lin1 (c1:=-(c p A*c p A*r+2*c p A*c p B)) ?_ hr)
      clear hr; grind -lia
    have hsh:=shift_bit k i
    by_cases hb:k.testBit i = true
    · rw [if_pos hb] at h hsh
      refine lad3_spec hp hr i _ _ _ h ?_
      rw [hsh,fpow_add,← key,fpow_one,c_mod hd,c_mod hd,c_add,c_mul,c_mul,c_sub hd (show A1≤p by rw [hA1]; exact hlt _)]
      generalize c p A1 = A1' at *
      generalize c p B1 = B1' at *
      generalize c p C1 = C1' at *
      clear eAA eAB e eA1 eB1 eC1 h key
      refine eq_of_sub (lin1 (c1:=-A1') ?_ hr)
      clear hr; grind -lia
    · rw [if_neg hb] at h hsh
      rw [Nat.add_zero] at hsh
      exact lad3_spec hp hr i _ _ _ h (by rw [hsh]; exact key)
noncomputable def rootOK (p a b l u1 u0 v2 v1 v0:Nat):Bool:=Nat.beq (p >>> l) 1 &&
  lad3 p a b p (fun A B C=>Nat.beq ((u1+v2*A)%p) 0 && Nat.beq ((u0+v2*(B+(p-1))+v1*A)%p) 0 && Nat.beq ((u1*a+v2*C+v1*(B+(p-1))+v0*A)%p) 0 &&
    Nat.beq ((u1*b+u0*a+v1*C+v0*(B+(p-1)))%p) 0 && Nat.beq ((u0*b+v0*C)%p) 1) l 0 1 0
theorem noroot {a b l u1 u0 v2 v1 v0:Nat} (h:Fld p) (hp:2≤p) (hok:rootOK p a b l u1 u0 v2 v1 v0 = true) (x:Fin p):¬ On (c p a) (c p b) (.aff x 0):=by
  intro hx
  simp only [On] at hx
  have hr:x*x*x+c p a*x+c p b = 0:=lin1 (c1:=-1) (by clear hx; grind -lia) hx
  simp only [rootOK,Bool.and_eq_true] at hok
  obtain ⟨h1,h2⟩:=hok
  obtain ⟨A,B,C,hf,e⟩:=lad3_spec (by omega) hr _ _ _ _ h2 (by
    rw [beq_eq h1,fpow_one,c_one]
    have:c p 0 = 0:=c_zero_iff.2 (Nat.dvd_zero p)
    rw [this]; clear hx hr; grind -lia)
  rw [fermat' h hp] at e
  simp only [Bool.and_eq_true] at hf
  obtain ⟨⟨⟨⟨f1,f2⟩,f3⟩,f4⟩,f5⟩:=hf
  have hd:p ∣ p:=Nat.dvd_refl p
  have z:c p 0 = 0:=c_zero_iff.2 (Nat.dvd_zero p)
  have g1:=congrArg (c p) (beq_eq f1)
  have g2:=congrArg (c p) (beq_eq f2)
  have g3:=congrArg (c p) (beq_eq f3)
  have g4:=congrArg (c p) (beq_eq f4)
  have g5:=congrArg (c p) (beq_eq f5)
  rw [c_mod hd] at g1 g2 g3 g4 g5
  simp only [c_add,c_mul,c_sub hd (show 1≤p by omega),c_one,z] at g1 g2 g3 g4 g5
  generalize c p A = A' at *
  generalize c p B = B' at *
  generalize c p C = C' at *
  generalize c p u1 = U1 at *
  generalize c p u0 = U0 at *
  generalize c p v2 = V2 at *
  generalize c p v1 = V1 at *
  generalize c p v0 = V0 at *
  generalize c p a = a' at *
  generalize c p b = b' at *
  clear h1 h2 f1 f2 f3 f4 f5 hx
  apply one_ne hp
  have s1:=lin4 (c1:=x*x*x*x) (c2:=x*x*x) (c3:=x*x) (c4:=x) rfl g1 g2 g3 g4
  have s2:=lin2 (c1:=U1*x+U0) (c2:=V2*(x*x)+V1*x+V0) rfl hr (sub_of_eq e)
  have s3:=sub_of_eq g5
  refine lin3 (c1:=1) (c2:=-1) (c3:=-1) ?_ s2 s1 s3
  clear s1 s2 s3 g1 g2 g3 g4 g5 e hr z
  grind -lia
end
end Go.Proofs.YtnpeokiboiclfaaGreat.Grp
set_option linter.unusedVariables false
set_option maxRecDepth 100000
namespace Go.Proofs.YtnpeokiboiclfaaGreat.Grp
noncomputable def noDiv (q:Nat):Nat→Bool:=Nat.rec (motive:=fun _=>Bool) true (fun i ih=>Bool.rec ih false (Nat.beq (q%(i+2)) 0))
theorem noDiv_spec {q:Nat}:∀ {k:Nat},noDiv q k = true→∀ i,i<k→q%(i+2)≠0
  | 0,_,i,hi=>absurd hi (Nat.not_lt_zero _)
  | k+1,h,i,hi=>by
    have h':Bool.rec (motive:=fun _=>Bool) (noDiv q k) false (Nat.beq (q%(k+2)) 0) = true:=h
    cases hb:Nat.beq (q%(k+2)) 0 with
    | true=>rw [hb] at h'; cases h'
    | false =>
      rw [hb] at h'
      rcases Nat.lt_or_ge i k with hik|hik
      · exact noDiv_spec h' i hik
      · have:i = k:=by omega
        subst this
        intro e; rw [e] at hb; cases hb
theorem prime_small {q:Nat} (k:Nat) (hq:1<q) (hk:q<(k+2)*(k+2)) (h:noDiv q k = true):Pr q:=by
  refine prime_of hq fun p hp hd=>Nat.lt_of_not_le fun hle=>?_
  have h2:=hp.1
  have hlt:p<k+2:=by
    refine Nat.lt_of_not_le fun h=>?_
    have:=Nat.mul_le_mul h h
    omega
  refine noDiv_spec h (p-2) (by omega) ?_
  rw [show p-2+2 = p by omega]
  exact Nat.mod_eq_zero_of_dvd hd
theorem pr_1067060299:Pr 1067060299:=prime_small 32664 (by decide) (by decide) (by kernel_rfl)
theorem pr_2028763398056081:Pr 2028763398056081:=gk (a:=1094888183077883) (b:=1406179921403949) (x:=631653290482917) (y:=824653661648458) (l:=29) (by kernel_rfl) pr_1067060299
theorem pr_72727110308835084379:Pr 72727110308835084379:=gk (a:=54256733087543634376) (b:=60413525494640784377) (x:=7867509725727419950) (y:=33941602492557132933) (l:=50) (by kernel_rfl) pr_2028763398056081
theorem pr_2327267529786287602427:Pr 2327267529786287602427:=gk (a:=2031741494257870129095) (b:=381721129224205903033) (x:=463999434187307520481) (y:=2041383020318836882286) (l:=65) (by kernel_rfl) pr_72727110308835084379
theorem pr_66232767864181823809014226993:Pr 66232767864181823809014226993:=gk (a:=27334158166170276492609046011) (b:=24881092689719097833015926377) (x:=40470426530123362647329866870) (y:=23366955423390475729287663482) (l:=70) (by kernel_rfl) pr_2327267529786287602427
theorem pr_4706194902318598281262820721813638026946893:Pr 4706194902318598281262820721813638026946893:=gk (a:=4631493395932588784734839440515008851915982) (b:=1469129625591520098383631865539707108941083) (x:=1315526153324182762814492935076579684233270) (y:=183741848832019324647956107262265655740605) (l:=95) (by kernel_rfl) pr_66232767864181823809014226993
theorem pr_19682888362983557061263611745984661633896542698259:Pr 19682888362983557061263611745984661633896542698259:=gk (a:=6248535988248748273417019601899892582189378634360) (b:=1770418530003812010801488887204969564953657279727) (x:=19590331558951965839584098370054108429673814287223) (y:=5006708415167314541652486334466029253520521699669) (l:=141) (by kernel_rfl) pr_4706194902318598281262820721813638026946893
theorem pr_87181968547037232831052630876142953606158212828789871587:Pr 87181968547037232831052630876142953606158212828789871587:=gk (a:=84414287005861447661812864816582859840883348929463208989) (b:=25370414127444697384697855545967526181686252410494407065) (x:=54011576197335600030104046928481499089389958568710318145) (y:=13791727602273275515725808602781190196051061506672362892) (l:=163) (by kernel_rfl) pr_19682888362983557061263611745984661633896542698259
theorem pr_6277101735386680763835789423176059013767194773182842284081:Pr 6277101735386680763835789423176059013767194773182842284081:=gk (a:=5188216740472664712966315747727150817501456904365410459257) (b:=4099331745558648662096842072278242621235719035547978634433) (x:=637507596356191217853072638364835878936239591368709223515) (y:=2026967390886266289375362533000027120945416694042829453031) (l:=185) (by kernel_rfl) pr_87181968547037232831052630876142953606158212828789871587
theorem gk_P192:gkOK 6277101735386680763835789423207666416083908700390324961279 6277101735386680763835789423207666416083908700390324961276 2455155546008943817740293915197451784769108058161191238065 602046282375688656758213480587526111916698976636884684818 174050332293622031404857552280219410364023488927386650641 6277101735386680763835789423176059013767194773182842284081 191 = true:=by kernel_rfl
theorem pr_6277101735386680763835789423207666416083908700390324961279:Pr 6277101735386680763835789423207666416083908700390324961279:=gk gk_P192 pr_6277101735386680763835789423176059013767194773182842284081
theorem pr_10148317:Pr 10148317:=prime_small 3184 (by decide) (by decide) (by kernel_rfl)
theorem pr_2669100319:Pr 2669100319:=gk (a:=2656086841) (b:=2660424667) (x:=1014912074) (y:=1574990172) (l:=23) (by kernel_rfl) pr_10148317
theorem pr_18984520547593253:Pr 18984520547593253:=gk (a:=3013415959935435) (b:=2008943973290290) (x:=4550174085726287) (y:=7193660781959983) (l:=31) (by kernel_rfl) pr_2669100319
theorem pr_7453641876424041653396968427:Pr 7453641876424041653396968427:=gk (a:=1538053085611310182446993477) (b:=2050737447481746909929324636) (x:=1837142938857471296110576674) (y:=1868592113904493932535162540) (l:=54) (by kernel_rfl) pr_18984520547593253
theorem pr_153075443216120565531813097756739:Pr 153075443216120565531813097756739:=gk (a:=35807121220145161527909496551272) (b:=149793123770940592391754727239522) (x:=56330454237957069405406895907029) (y:=6126203659960772808262945668457) (l:=92) (by kernel_rfl) pr_7453641876424041653396968427
theorem pr_31481738123329409841898295821531151369479:Pr 31481738123329409841898295821531151369479:=gk (a:=22486955802378149887070211301093679549610) (b:=13492173481426889932242126780656207729741) (x:=1663175110460944878097189378336291689282) (y:=7612695441845998846220073429001147844746) (l:=106) (by kernel_rfl) pr_153075443216120565531813097756739
theorem pr_7635895581813548357152481816648718297912182623:Pr 7635895581813548357152481816648718297912182623:=gk (a:=6814808223897700820317846958302464124257490839) (b:=4543205482598467213545231305534976082838327226) (x:=4408029632972800677753031207720455063542023390) (y:=4362496884260868354462352528812505441185264379) (l:=134) (by kernel_rfl) pr_31481738123329409841898295821531151369479
theorem pr_104950329809152061600048427338973527887236524188292861:Pr 104950329809152061600048427338973527887236524188292861:=gk (a:=36388921786110100548962086751814309638767963056356245) (b:=83502005651197487931965591448743588814102792137905947) (x:=19552555464879036666364674680913576026561744419629509) (y:=16949326352910203965254927468790574073626514184058990) (l:=152) (by kernel_rfl) pr_7635895581813548357152481816648718297912182623
theorem pr_55833575458468896771225763332570298550173497738301901693:Pr 55833575458468896771225763332570298550173497738301901693:=gk (a:=13663254405283836012448524222799522305437571342473079672) (b:=9108836270189224008299016148533014870291714228315386448) (x:=8626023615062656468768128158466785299928822100076448871) (y:=39705340040645847887936780640940112462758500929354711451) (l:=176) (by kernel_rfl) pr_104950329809152061600048427338973527887236524188292861
theorem pr_242636783370067072842981898355787086652280508137700038677351863023:Pr 242636783370067072842981898355787086652280508137700038677351863023:=gk (a:=11925195491267337018913628079290912026574140884055077574608022772) (b:=23850390982534674037827256158581824053148281768110155149216045544) (x:=234064658209011314086597756993363522613564240055499292685711839004) (y:=163162272447866305733668023051646516870465917305439671877446351344) (l:=185) (by kernel_rfl) pr_55833575458468896771225763332570298550173497738301901693
theorem pr_115792089210356248762697446949407573529996955224135760342422259061068512044369:Pr 115792089210356248762697446949407573529996955224135760342422259061068512044369:=gk (a:=72222237929191380838912943625870633647862498067155797445138558768531075133084) (b:=28258205775276447214400545055642760943366443715698360497520583423628985169408) (x:=83347507197363762264470290872962010169191052586659670548396865454756108950004) (y:=88789276620978062908578620348881442174949654258834320423197461947724475403279) (l:=217) (by kernel_rfl) pr_242636783370067072842981898355787086652280508137700038677351863023
theorem gk_P256:gkOK 115792089210356248762697446949407573530086143415290314195533631308867097853951 115792089210356248762697446949407573530086143415290314195533631308867097853948 41058363725152142129326129780047268409114441015993725554835256314039467401291 48439561293906451759052585252797914202762949526041747995844080717082404635286 36134250956749795798585127919587881956611106672985015071877198253568414405109 115792089210356248762697446949407573529996955224135760342422259061068512044369 255 = true:=by kernel_rfl
theorem pr_115792089210356248762697446949407573530086143415290314195533631308867097853951:Pr 115792089210356248762697446949407573530086143415290314195533631308867097853951:=gk gk_P256 pr_115792089210356248762697446949407573529996955224135760342422259061068512044369
theorem pr_31220081:Pr 31220081:=prime_small 5586 (by decide) (by decide) (by kernel_rfl)
theorem pr_2747386471:Pr 2747386471:=gk (a:=1962418890) (b:=1177451309) (x:=299107899) (y:=1622390687) (l:=24) (by kernel_rfl) pr_31220081
theorem pr_98906029021:Pr 98906029021:=gk (a:=7849684835) (b:=43434922787) (x:=40184926807) (y:=75103817221) (l:=31) (by kernel_rfl) pr_2747386471
theorem pr_791249751667:Pr 791249751667:=gk (a:=326547516559) (b:=481448261595) (x:=739739561759) (y:=757407920146) (l:=36) (by kernel_rfl) pr_98906029021
theorem pr_4127158584570443:Pr 4127158584570443:=gk (a:=1244698620743459) (b:=283878632801131) (x:=901197097313581) (y:=596657473185098) (l:=39) (by kernel_rfl) pr_791249751667
theorem pr_14048847829330542089:Pr 14048847829330542089:=gk (a:=12264867152590155790) (b:=3493628825283256497) (x:=4778419207922732996) (y:=913858594416141402) (l:=51) (by kernel_rfl) pr_4127158584570443
theorem pr_4945194435791245689419:Pr 4945194435791245689419:=gk (a:=1491407845714820128547) (b:=340145649022678274923) (x:=4584778223392076601285) (y:=3401755369757050313316) (l:=63) (by kernel_rfl) pr_14048847829330542089
theorem pr_26424270632873662079294647291:Pr 26424270632873662079294647291:=gk (a:=10905254546900241493042235382) (b:=14540339395866988657389647176) (x:=8724848582814623556201509608) (y:=16324333278126446893576536165) (l:=72) (by kernel_rfl) pr_4945194435791245689419
theorem pr_3099169312811597081000502686392188473:Pr 3099169312811597081000502686392188473:=gk (a:=1739329716373855504643139262771126180) (b:=126496706645371309428591946383354629) (x:=1232057742793550095082530843282400881) (y:=136912279967592606784440785967635958) (l:=94) (by kernel_rfl) pr_26424270632873662079294647291
theorem pr_1332297598440044874827085038830181364212942568457:Pr 1332297598440044874827085038830181364212942568457:=gk (a:=231112848708987376245514751633806971343061465953) (b:=598174431952673209106038180699265102299688500121) (x:=237401830832396359179011508444514734985029764907) (y:=819810017526328514624195071405629276559517135778) (l:=121) (by kernel_rfl) pr_3099169312811597081000502686392188473
theorem gk_B160:gkOK 1332297598440044874827085558802491743757193798159 297190522446607939568481567949428902921613329152 173245649450172891208247283053495198538671808088 1089473557631435284577962539738532515920566082499 127912481829969033206777085249718746721365418785 1332297598440044874827085038830181364212942568457 159 = true:=by kernel_rfl
theorem pr_1332297598440044874827085558802491743757193798159:Pr 1332297598440044874827085558802491743757193798159:=gk gk_B160 pr_1332297598440044874827085038830181364212942568457
theorem pr_223:Pr 223:=prime_small 13 (by decide) (by decide) (by kernel_rfl)
theorem pr_251:Pr 251:=prime_small 14 (by decide) (by decide) (by kernel_rfl)
theorem gk_Tiny1:gkOK 251 248 26 2 84 223 7 = true:=by kernel_rfl
end Go.Proofs.YtnpeokiboiclfaaGreat.Grp
set_option linter.unusedVariables false
set_option maxRecDepth 100000
namespace Go.Proofs.YtnpeokiboiclfaaGreat.Grp
theorem root_P192:rootOK 6277101735386680763835789423207666416083908700390324961279 6277101735386680763835789423207666416083908700390324961276 2455155546008943817740293915197451784769108058161191238065 191 2485386128265731073471082885137078098950830510687347950792 204494219645392091515820350663098725742005806122466179303 105597762148406811168096478311383789005400348177979944870 4871298686935519674170250204910228760438566091784467946767 3076984081099336410538445874700673783096882824010410041625 = true:=by kernel_rfl
theorem root_P256:rootOK 115792089210356248762697446949407573530086143415290314195533631308867097853951 115792089210356248762697446949407573530086143415290314195533631308867097853948 41058363725152142129326129780047268409114441015993725554835256314039467401291 255 6389611969556882025875921584714237703390037729321797349080302270353162149340 107286402702237026811154678719514266289498743974321057492273529440068429825344 34768139465301476436978405170953382516735956999154666452188405812258086013549 74462945259064871768191128030512052509059297803194871526163573358218695456204 76626890310466861426869089647039036757962535851890885406097439786770458211455 = true:=by kernel_rfl
theorem root_B160:rootOK 1332297598440044874827085558802491743757193798159 297190522446607939568481567949428902921613329152 173245649450172891208247283053495198538671808088 159 62852999214913352478784562928072849602226389215 332628450875681639623770945460855297588036970832 866276026852477386583739955587856805174089846777 452762556115001297277164478576350244468511252619 351750380667266526775263869464366639180417248434 = true:=by kernel_rfl
theorem root_Tiny1:rootOK 251 248 26 7 27 108 119 220 224 = true:=by kernel_rfl
end Go.Proofs.YtnpeokiboiclfaaGreat.Grp
set_option linter.unusedVariables false
set_option linter.unusedSectionVars false
namespace Go.Proofs.YtnpeokiboiclfaaGreat.Grp
section
variable {p:Nat} [NeZero p]
theorem neg_one_sq:(-1:Fin p)*-1 = 1:=by grind -lia
theorem sq_one (hd:Dom p) {x:Fin p} (h:x*x = 1) (h1:x≠1):x = -1:=by
  have e:(x-1)*(x+1) = 0:=lin1 (c1:=1) (by clear h; grind -lia) (sub_of_eq h)
  rcases hd _ _ e with e|e
  · exact absurd (eq_of_sub e) h1
  · exact eq_of_sub (lin1 (c1:=1) (by clear h e; grind -lia) e)
structure TS (a x c t:Fin p) (m:Nat):Prop where
  pos:0<m
  root:x*x = a*t
  cc:fpow c (2^(m-1)) = -1
  tt:fpow t (2^(m-1)) = 1
theorem TS.init {a z:Fin p} {q s:Nat} (hs:0<s) (hq:q%2 = 1) (hz:fpow z (q*2^(s-1)) = -1) (ha:fpow a (q*2^(s-1)) = 1):TS a (fpow a ((q+1)/2)) (fpow z q) (fpow a q) s:=by
  refine ⟨hs,?_,?_,?_⟩
  · have e:(q+1)/2+(q+1)/2 = 1+q:=by omega
    rw [← fpow_add,e,fpow_add,fpow_one]
  · rw [← fpow_mul]; exact hz
  · rw [← fpow_mul]; exact ha
theorem TS.less (hd:Dom p) {a x c t:Fin p} {m k:Nat} (h:TS a x c t m) (hk:∀ j,j<k→fpow t (2^j)≠1):k≤m-1:=by
  refine Nat.le_of_not_lt fun hlt=>?_
  exact hk (m-1) (by omega) h.tt
theorem TS.next (hd : Dom p) {a x c t : Fin p} {m k : Nat} (h : TS a x c t m) (h1 : t ≠ 1) (hk : ∀ j, j < k → fpow t (2 ^ j) ≠ 1) (he : fpow t (2 ^ k) = 1) :
    0<k∧k<m∧TS a (x*fpow c (2^(m-k-1))) (fpow c (2^(m-k-1))*fpow c (2^(m-k-1))) (t*(fpow c (2^(m-k-1))*fpow c (2^(m-k-1)))) k:=by
  have hk0:0<k:=Nat.pos_of_ne_zero fun e=>h1 (by rw [e,Nat.pow_zero,fpow_one] at he; exact he)
  have hpos:=h.pos
  have hle:=h.less hd hk
  have hb:fpow (fpow c (2^(m-k-1))*fpow c (2^(m-k-1))) (2^(k-1)) = -1:=by
    rw [← fpow_add,← Nat.mul_two,← Nat.pow_succ,← fpow_mul,← Nat.pow_add,show (m-k-1).succ+(k-1) = m-1 by omega]
    exact h.cc
  refine ⟨hk0,by omega,hk0,?_,hb,?_⟩
  · have:=h.root
    refine eq_of_sub (lin1 (c1:=fpow c (2^(m-k-1))*fpow c (2^(m-k-1))) ?_ (sub_of_eq this))
    clear this he hb; grind -lia
  · rw [mul_fpow,hb]
    have e1:fpow t (2^(k-1)) = -1:=by
      refine sq_one hd ?_ (hk (k-1) (by omega))
      rw [← fpow_add,← Nat.mul_two,← Nat.pow_succ,show (k-1).succ = k by omega]
      exact he
    rw [e1]; exact neg_one_sq
theorem TS.done {a x c t:Fin p} {m:Nat} (h:TS a x c t m) (h1:t = 1):x*x = a:=by
  rw [h.root,h1]; grind -lia
theorem even_root (h:Fld p) (hodd:p%2 = 1) {x y:Fin p} (e:x*x = y*y) (hx:x.val%2 = 0) (hy:y.val%2 = 0):x = y:=by
  have e1:(x-y)*(x+y) = 0:=lin1 (c1:=1) (by clear e; grind -lia) (sub_of_eq e)
  rcases h.dom _ _ e1 with e2|e2
  · exact eq_of_sub e2
  · have h3:(x.val+y.val)%p = 0:=by rw [← Fin.val_add,e2,Fin.val_zero]
    have h4:=x.isLt
    have h5:=y.isLt
    have h6:x.val+y.val = 0∨x.val+y.val = p:=by
      rcases Nat.lt_or_ge (x.val+y.val) p with h6|h6
      · rw [Nat.mod_eq_of_lt h6] at h3; exact .inl h3
      · have:(x.val+y.val-p)%p = 0:=by rw [← Nat.mod_eq_sub_mod h6]; exact h3
        rw [Nat.mod_eq_of_lt (by omega)] at this
        omega
    rcases h6 with h6|h6
    · exact Fin.ext (by omega)
    · omega
end
end Go.Proofs.YtnpeokiboiclfaaGreat.Grp
set_option linter.unusedVariables false
set_option maxRecDepth 100000
namespace Go.Proofs.YtnpeokiboiclfaaGreat
open Grp
def P521:Nat:=Nat.mul 2 (Nat.pow 256 65)
theorem p521 {i:Nat} (h:i = 65):2^(8*i+1) = P521:=by
  rw [Nat.pow_succ,Nat.pow_mul,h,Nat.mul_comm]
  rfl
structure Cv where
  id:Nat
  p:Nat
  a:Nat
  b:Nat
  n:Nat
  x:Nat
  y:Nat
  z:Nat
  nz:NeZero p
instance (V:Cv):NeZero V.p:=V.nz
abbrev Cv.A (V:Cv):Fin V.p:=c V.p V.a
abbrev Cv.B (V:Cv):Fin V.p:=c V.p V.b
abbrev Cv.G (V:Cv):Pt V.p:=.aff (c V.p V.x) (c V.p V.y)
noncomputable def powOK (p z e l:Nat):Bool:=Nat.beq (e >>> l) 1 && Nat.rec (motive:=fun _=>Nat→Bool) (fun x=>Nat.beq x (p-1)) (fun i ih x=>force (x*x%p) fun x2=>Bool.rec (ih x2) (force (x2*z%p) ih) (Nat.testBit e i)) l z
theorem pow_go {p : Nat} [NeZero p] {z e : Nat} : ∀ (l x : Nat), Nat.rec (motive := fun _ => Nat → Bool) (fun x => Nat.beq x (p - 1)) (fun i ih x => force (x * x % p) fun x2 => Bool.rec (ih x2) (force (x2 * z % p) ih) (Nat.testBit e i)) l x = true →
    c p x = fpow (c p z) (e >>> l)→c p (p-1) = fpow (c p z) e
  | 0,x,h,hx=>by
    have h':Nat.beq x (p-1) = true:=h
    rw [← beq_eq h',hx]; rfl
  | l+1,x,h,hx=>by
    have hd:p ∣ p:=Nat.dvd_refl p
    have h':force (x*x%p) (fun x2=>Bool.rec (Nat.rec (motive:=fun _=>Nat→Bool) (fun x=>Nat.beq x (p-1)) (fun i ih x=>force (x*x%p) fun x2=>Bool.rec (ih x2) (force (x2*z%p) ih) (Nat.testBit e i)) l x2)
      (force (x2*z%p) (Nat.rec (motive:=fun _=>Nat→Bool) (fun x=>Nat.beq x (p-1)) (fun i ih x=>force (x*x%p) fun x2=>Bool.rec (ih x2) (force (x2*z%p) ih) (Nat.testBit e i)) l)) (Nat.testBit e l)) = true:=h
    rw [force_eq] at h'
    have hs:=shift_bit e l
    cases hb:e.testBit l with
    | false =>
      rw [hb] at h' hs
      refine pow_go l _ h' ?_
      rw [hs,c_mod hd,c_mul,hx,fpow_add,fpow_add]
      show _ = _*fpow _ 0
      show _ = _*(1:Fin p)
      grind -lia
    | true =>
      rw [hb] at h' hs
      rw [force_eq] at h'
      refine pow_go l _ h' ?_
      rw [hs,c_mod hd,c_mul,c_mod hd,c_mul,hx,fpow_add,fpow_add]
      show _ = _*fpow _ 1
      rw [fpow_one]
theorem pow_ok {p:Nat} [NeZero p] {z e l:Nat} (h:powOK p z e l = true) (hp:1≤p):fpow (c p z) e = -1:=by
  simp only [powOK,Bool.and_eq_true] at h
  have:=pow_go (p:=p) l z h.2 (by rw [beq_eq h.1,fpow_one])
  rw [← this,c_sub (Nat.dvd_refl p) hp,c_one]
structure Cv.Ok (V:Cv):Prop where
  good:Grp.Good V.A V.B
  fld:Fld V.p
  prime:Pr V.p
  order:Pr V.n
  on:On V.A V.B V.G
  ord:pmul V.A V.G V.n = .inf
  none:fpow (c V.p V.z) ((V.p-1)/2) = -1
  cs:(Nat.ble 5 V.p && Nat.ble (V.p+1) P521 && Nat.ble (V.a+1) V.p && Nat.ble (V.b+1) V.p && Nat.ble (V.x+1) V.p && Nat.ble (V.y+1) V.p && Nat.ble 2 V.z && Nat.ble (V.z+1) V.p && Nat.ble (V.n+1) P521 && Nat.beq (V.p%2) 1 && Nat.beq (V.n%2) 1 && Nat.ble 1 V.b && Nat.ble 100 V.n && Nat.ble (4*V.p+1) ((V.n-1)*(V.n-1))) = true
theorem Cv.ok_of (V : Cv) {l l2 u1 u0 v2 v1 v0 le : Nat} (hp : Pr V.p) (hn : Pr V.n) (hg : gkOK V.p V.a V.b V.x V.y V.n l = true) (hr : rootOK V.p V.a V.b l2 u1 u0 v2 v1 v0 = true) (hz : powOK V.p V.z ((V.p - 1) / 2) le = true)
    (cs:(Nat.ble 5 V.p && Nat.ble (V.p+1) P521 && Nat.ble (V.a+1) V.p && Nat.ble (V.b+1) V.p && Nat.ble (V.x+1) V.p && Nat.ble (V.y+1) V.p && Nat.ble 2 V.z && Nat.ble (V.z+1) V.p && Nat.ble (V.n+1) P521 && Nat.beq (V.p%2) 1 && Nat.beq (V.n%2) 1 && Nat.ble 1 V.b && Nat.ble 100 V.n && Nat.ble (4*V.p+1) ((V.n-1)*(V.n-1))) = true):V.Ok:=by
  have h2:=hp.1
  have hcs:=cs
  simp only [Bool.and_eq_true] at cs
  have h5:=Nb cs.1.1.1.1.1.1.1.1.1.1.1.1.1
  have hf:=hp.fld (p:=V.p) (by omega)
  obtain ⟨_,g2,g3⟩:=gk_mul hg (by omega) V.p hp (Nat.dvd_refl _)
  exact ⟨⟨hf.dom,hf.inv,hf.two,noroot hf h2 hr⟩,hf,hp,hn,g2,g3,pow_ok hz (by omega),hcs⟩
def cv1:Cv:=⟨1,6277101735386680763835789423207666416083908700390324961279,6277101735386680763835789423207666416083908700390324961276,2455155546008943817740293915197451784769108058161191238065,6277101735386680763835789423176059013767194773182842284081,602046282375688656758213480587526111916698976636884684818,174050332293622031404857552280219410364023488927386650641,11,⟨by decide⟩⟩
theorem ok1:cv1.Ok:=Cv.ok_of cv1 (le:=190) pr_6277101735386680763835789423207666416083908700390324961279 pr_6277101735386680763835789423176059013767194773182842284081 gk_P192 root_P192 (by kernel_rfl) (by kernel_rfl)
def cv3:Cv:=⟨3,115792089210356248762697446949407573530086143415290314195533631308867097853951,115792089210356248762697446949407573530086143415290314195533631308867097853948,41058363725152142129326129780047268409114441015993725554835256314039467401291,115792089210356248762697446949407573529996955224135760342422259061068512044369,48439561293906451759052585252797914202762949526041747995844080717082404635286,36134250956749795798585127919587881956611106672985015071877198253568414405109,3,⟨by decide⟩⟩
theorem ok3:cv3.Ok:=Cv.ok_of cv3 (le:=254) pr_115792089210356248762697446949407573530086143415290314195533631308867097853951 pr_115792089210356248762697446949407573529996955224135760342422259061068512044369 gk_P256 root_P256 (by kernel_rfl) (by kernel_rfl)
def cv7:Cv:=⟨7,1332297598440044874827085558802491743757193798159,297190522446607939568481567949428902921613329152,173245649450172891208247283053495198538671808088,1332297598440044874827085038830181364212942568457,1089473557631435284577962539738532515920566082499,127912481829969033206777085249718746721365418785,3,⟨by decide⟩⟩
theorem ok7:cv7.Ok:=Cv.ok_of cv7 (le:=158) pr_1332297598440044874827085558802491743757193798159 pr_1332297598440044874827085038830181364212942568457 gk_B160 root_B160 (by kernel_rfl) (by kernel_rfl)
def cv13:Cv:=⟨13,251,248,26,223,2,84,2,⟨by decide⟩⟩
theorem ok13:cv13.Ok:=Cv.ok_of cv13 (le:=6) pr_251 pr_223 gk_Tiny1 root_Tiny1 (by kernel_rfl) (by kernel_rfl)
def cvOf:Nat→Option Cv
  | 1=>some cv1
  | 3=>some cv3
  | 7=>some cv7
  | 13=>some cv13
  | _=>none
theorem cvOf_ok {k:Nat} {V:Cv} (h:cvOf k = some V):V.Ok∧V.id = k:=by
  unfold cvOf at h
  split at h
  · injection h with h; subst h; exact ⟨ok1,rfl⟩
  · injection h with h; subst h; exact ⟨ok3,rfl⟩
  · injection h with h; subst h; exact ⟨ok7,rfl⟩
  · injection h with h; subst h; exact ⟨ok13,rfl⟩
  · cases h
end Go.Proofs.YtnpeokiboiclfaaGreat
set_option linter.unusedVariables false
set_option linter.unusedSimpArgs false
set_option maxRecDepth 20000
namespace Go.Proofs.YtnpeokiboiclfaaGreat
open Go Go.RowKit
def hexD (b:Nat):Nat:=if 97≤b then b-87 else b-48
def hexOK (l:List UInt8):Bool:=l.all fun b=>(Nat.ble 48 b.toNat && Nat.ble b.toNat 57) || (Nat.ble 97 b.toNat && Nat.ble b.toNat 102)
def KCm:List UInt8→Nat
  | []=>0
  | b :: l=>hexD b.toNat*16^l.length+KCm l
theorem hexOK_get {l:List UInt8} (h:hexOK l = true) {x:Nat} (hx:x<l.length):(48≤(l.getD x 0).toNat∧(l.getD x 0).toNat≤57)∨(97≤(l.getD x 0).toNat∧(l.getD x 0).toNat≤102):=by
  have e:l.getD x 0 = l[x]:=by rw [List.getD_eq_getElem?_getD,List.getElem?_eq_getElem hx]; rfl
  have h1:=List.all_eq_true.1 h l[x] (List.getElem_mem hx)
  rw [e]
  simp only [Bool.or_eq_true,Bool.and_eq_true,Nat.ble_eq] at h1
  exact h1
theorem hexD_lt {l:List UInt8} (h:hexOK l = true) {x:Nat} (hx:x<l.length):hexD (l.getD x 0).toNat<2^4:=by
  have:=hexOK_get h hx
  unfold hexD
  split <;> omega
theorem hexVal_lt:∀ {l:List UInt8},hexOK l = true→KCm l<16^l.length
  | [],_=>by simp [KCm]
  | b :: l,h=>by
    have h1:=hexD_lt (l:=b :: l) h (x:=0) (by simp)
    have h2:hexOK l = true:=by
      simp only [hexOK,List.all_cons,Bool.and_eq_true] at h
      exact h.2
    have h3:=hexVal_lt h2
    simp only [List.getD_cons_zero] at h1
    have h4:=Nat.mul_le_mul_right (16^l.length) (show hexD b.toNat+1≤16 from h1)
    simp only [KCm,List.length_cons,Nat.pow_succ]
    rw [Nat.add_mul] at h4
    omega
theorem hexOK_drop {l:List UInt8} (h:hexOK l = true) (x:Nat):hexOK (l.drop x) = true:=by
  simp only [hexOK,List.all_eq_true] at h ⊢
  exact fun b hb=>h b (List.mem_of_mem_drop hb)
theorem pow16 (i:Nat):16^i = 2^(4*i):=by rw [Nat.pow_mul]
theorem br_sub8 {a b:Nat} (h:b≤a) (ha:a<256):Kp .sub .u8 a .u8 b = some (.int .u8 ((a-b:Nat):Int)):=by
  simp only [Kp,if_true,wrap_u8]
  congr 2
  omega
def cvI (id:Int):Option Cv:=if 0≤id then cvOf id.toNat else none
def hexB (s:ByteArray) (n:Nat):Bool:=hexOK s.data.toList && Nat.beq (KCm s.data.toList) n && Nat.ble s.data.toList.length 144
end Go.Proofs.YtnpeokiboiclfaaGreat
set_option linter.unusedVariables false
set_option linter.unusedSimpArgs false
set_option maxRecDepth 20000
namespace Go.Proofs.YtnpeokiboiclfaaGreat
open Go Go.RowKit
structure CQ where
  p:NV
  a:NV
  b:NV
  n:NV
  x:NV
  y:NV
def crvI (Q:CQ) (V:Cv):Item:=grpI [(Q.p,V.p),(Q.a,V.a),(Q.b,V.b),(Q.n,V.n),(Q.x,V.x),(Q.y,V.y)]
section
variable {Q:CQ} {V:Cv} {w:World} (h:(crvI Q V).holds w)
include h
end
theorem hexB_spec {s:ByteArray} {n:Nat} (h:hexB s n = true):hexOK s.data.toList = true∧KCm s.data.toList = n∧s.size≤144:=by
  simp only [hexB,Bool.and_eq_true] at h
  exact ⟨h.1.1,Nat.eq_of_beq_eq_true h.1.2,Nb h.2⟩
theorem Cv.Ok.bounds {V:Cv} (h:V.Ok):5≤V.p∧V.p<P521∧V.a<V.p∧V.b<V.p∧V.x<V.p∧V.y<V.p∧V.n<P521∧V.p%2 = 1∧V.n%2 = 1∧1≤V.b∧100≤V.n:=by
  have h:=h.cs
  simp only [Bool.and_eq_true] at h
  obtain ⟨⟨⟨⟨⟨⟨⟨⟨⟨⟨⟨⟨⟨h1,h2⟩,h3⟩,h4⟩,h5⟩,h6⟩,h7⟩,h8⟩,h9⟩,h10⟩,h11⟩,h12⟩,h13⟩,h14⟩:=h
  exact ⟨Nb h1,Nb h2,Nb h3,Nb h4,Nb h5,Nb h6,Nb h9,Nat.eq_of_beq_eq_true h10,Nat.eq_of_beq_eq_true h11,Nb h12,Nb h13⟩
theorem nw_521 {A:Nat} (h:A<P521):D.nw A≤17:=by
  obtain ⟨j,hj⟩:∃ j:Nat,j = 65:=⟨65,rfl⟩
  obtain ⟨k,hk⟩:∃ k:Nat,k = 17:=⟨17,rfl⟩
  rw [← p521 hj] at h
  rw [← hk]
  exact D.nw_le (Nat.lt_of_lt_of_le h (Nat.pow_le_pow_right dc om))
theorem Ks {A:Nat} (h:A<P521):A<W9:=by
  obtain ⟨j,hj⟩:∃ j:Nat,j = 65:=⟨65,rfl⟩
  obtain ⟨k,hk⟩:∃ k:Nat,k = 9:=⟨9,rfl⟩
  rw [← p521 hj] at h
  rw [← w9 hk]
  exact Nat.lt_of_lt_of_le h (Nat.pow_le_pow_right dc om)
structure Cv.Sz (V:Cv):Prop where
  p:D.nw V.p≤17
  a:D.nw V.a≤17
  b:D.nw V.b≤17
  n:D.nw V.n≤17
  x:D.nw V.x≤17
  y:D.nw V.y≤17
theorem Cv.Ok.sz {V:Cv} (h:V.Ok):V.Sz:=by
  obtain ⟨h1,h2,h3,h4,h5,h6,h7,_⟩:=h.bounds
  exact ⟨nw_521 h2,nw_521 (Nat.lt_trans h3 h2),nw_521 (Nat.lt_trans h4 h2),nw_521 h7,nw_521 (Nat.lt_trans h5 h2),nw_521 (Nat.lt_trans h6 h2)⟩
theorem KAw {id:Int} {V:Cv} (h:cvI id = some V):V.Ok∧((V.id:Nat):Int) = id:=by
  unfold cvI at h
  split at h
  · obtain ⟨h1,h2⟩:=cvOf_ok h
    exact ⟨h1,by omega⟩
  · cases h
end Go.Proofs.YtnpeokiboiclfaaGreat
set_option linter.unusedVariables false
set_option linter.unusedSimpArgs false
set_option maxRecDepth 20000
namespace Go.Proofs.YtnpeokiboiclfaaGreat
open Go Go.RowKit
theorem cmp_ge_t {A B:Nat} (h:B≤A):Kp .geq .i64 (cmpI A B) .i64 0 = some (.bool true):=by
  have h1:¬ A<B:=by omega
  unfold cmpI
  rw [if_neg h1]
  split <;> rfl
theorem cmp_ge_f {A B:Nat} (h:A<B):Kp .geq .i64 (cmpI A B) .i64 0 = some (.bool false):=by
  unfold cmpI
  rw [if_pos h]; rfl
def sgL (R T:Nat):List Value:=natL R++natL T
def sgV (R T:Nat):Value:=.agg (sgL R T).toArray
theorem KCX (R T:Nat):KBT (sgL R T):=KAd (Kx _) (Kx _)
theorem KAv (R T:Nat):(sgL R T).length = 18:=by simp [sgL,KL]
def nby (N:Nat):Nat:=(blen N+7)/8
theorem nby_le {A N:Nat} (h:A<N):¬ 8*nby N<blen A:=by
  have:blen A≤blen N:=KBM (Nat.lt_trans h (KCM N))
  unfold nby; omega
def rawPut (V:Cv) (R T:Nat):Value:=if V.n≤R∨V.n≤T then .tuple #[.string ⟨#[]⟩,Iz 2302] else .tuple #[.string (strOf (Kr (nby V.n) R)++strOf (Kr (nby V.n) T)),Iz 0]
def rawR (V:Cv) (s:ByteArray):Nat:=beVal (s.extract 0 (nby V.n)).data.toList
def rawT (V:Cv) (s:ByteArray):Nat:=beVal (s.extract (nby V.n) s.size).data.toList
def rawGet (V:Cv) (s:ByteArray):Value:=if s.size≠2*nby V.n then .tuple #[sgV 0 0,Iz 2301] else if V.n≤rawR V s∨V.n≤rawT V s then .tuple #[sgV 0 0,Iz 2302] else .tuple #[sgV (rawR V s) (rawT V s),Iz 0]
theorem KBg (A n:Nat) (w:World) (hA:A<W9) (hn:n≤72) (hf:¬ 8*n<blen A):CF Tryz.prog 47 [natV A,Iz n] w (.tuple #[.string (strOf (Kr n A)),Iz 0]):=by
  have h:=c_nat_Bytes A n hA hn w
  rwa [if_neg hf] at h
theorem KAs (n A:Nat):(strOf (Kr n A)).size = n:=by
  show (Kr n A).toArray.size = n
  rw [List.size_toArray,KAG]
theorem KAk (s:ByteArray) (i j:Nat) (hj:j≤s.size):(s.extract i j).size = j-i:=by
  simp [ByteArray.size_extract]; omega
theorem sg_zero':(vec .u64 9 (fun _=>0)++vec .u64 9 (fun _=>0):List Value) = sgL 0 0:=by unfold sgL natL; rw [vec_zeros 9]
theorem sg_zero:Value.agg (vec .u64 9 (fun _=>0)++vec .u64 9 (fun _=>0):List Value).toArray = sgV 0 0:=by rw [sg_zero']; rfl
theorem c_Inverse (a m:Nat) (hm0:m≠0) (w:World) (ha:a<W9) (hm:m<W9):CF Tryz.prog 146 [natV a,natV m] w (.tuple #[natV (invM a m),Iz (if Nat.gcd a m = 1∧m≠1 then 0 else 401)]):=by
  refine KV (N:=75) (rs:=[.cell 4 33,.tmp 5]) [] Tryz.func146 rfl Tryz.ntmps146 Tryz.results146 (Nb rfl) trivial rfl ?_
  refine KB (KA (oS (mB (fun b2=>?_))));refine oS (mB (fun b3=>?_));refine oS (mk (KK zr_33) (fun b4=>?_));refine oP (KO (v:=Iz 0) rfl) (KC (KB (KB (KA (oS (cF rfl en_138 rfl (fun w hw=>c_zeroN m b3 _ hm0 w (mC hw) hm) ?_))))));refine KC (KH rfl (KM (KB (KA (oD dNa ?_)))));refine oD dNa ?_;refine oS (cF rfl en_86 rfl (fun w hw=>c_Div a m hm0 w ha hm) ?_);refine oM ?_;refine oX ?_;refine oX ?_;refine oX ?_;refine oS (mk (KK zr_33) (fun b6=>?_));refine oS (mk (KK zr_33) (fun b7=>?_));refine oT rfl rfl sz_33 ?_;refine oT rfl rfl sz_33 ?_;refine oA (KC ?_);refine KCr (α:=Nat×Nat) (fun _=>True) (fun x=>⟨[(2,Pz b2),(3,Pz b3),(4,Pz b4),(9,Pz x.1),(10,Pz x.2)],[.blk x.1 ⟨true,natL (m),33,(0,0)⟩,.blk x.2 ⟨true,natL (a%m),33,(0,0)⟩,.blk b4 ⟨true,vec .u64 9 (fun _=>0),33,(0,0)⟩,.blk b3 ⟨true,natL (m),33,(0,0)⟩,.blk b2 ⟨true,natL (a),33,(0,0)⟩]⟩) ?_ ?_
  ·
   refine rD [4,5] (aD 0 rfl dNa ?_);refine LAny.threeX 1 2 3 rfl rfl rfl rfl rfl rfl kr (.inr (LStep.det dNa (Nb rfl) ?_)) (.inr (mk (KK zr_33) (fun b9=>?_))) (.inr (mk (KK zr_33) (fun b10=>?_)))
   ·
    refine KCI 2 3 rfl rfl rfl rfl kr (.inr (mk (KK zr_33) (fun b9=>?_))) (.inr (mk (KK zr_33) (fun b10=>?_)))
    ·
     refine aO 3 rfl (mk (KK zr_33) (fun b10=>?_));refine aL 4 rfl (sA rfl rfl sz_33 mO (hl:=mL) (h:=?_));refine aL 5 rfl (sA rfl rfl sz_33 mO (hl:=mL) (h:=?_));refine aE ?_
     exact ⟨(b9,b10),trivial,Ka ⟨rfl,rfl,rfl,rfl,rfl,trivial⟩ mS⟩
    refine aO 2 rfl (mk (KK zr_33) (fun b9=>?_));refine aL 4 rfl (sA rfl rfl sz_33 mO (hl:=mL) (h:=?_));refine aL 5 rfl (sA rfl rfl sz_33 mO (hl:=mL) (h:=?_));refine aE ?_
    exact ⟨(b9,b10),trivial,Ka ⟨rfl,rfl,rfl,rfl,rfl,trivial⟩ mS⟩
   ·
    refine KCI 1 3 rfl rfl rfl rfl kr (.inr (LStep.det dNa (Nb rfl) ?_)) (.inr (mk (KK zr_33) (fun b10=>?_)))
    ·
     refine aO 3 rfl (mk (KK zr_33) (fun b10=>?_));refine aL 4 rfl (sA rfl rfl sz_33 mO (hl:=mL) (h:=?_));refine aL 5 rfl (sA rfl rfl sz_33 mO (hl:=mL) (h:=?_));refine aE ?_
     exact ⟨(b9,b10),trivial,Ka ⟨rfl,rfl,rfl,rfl,rfl,trivial⟩ mS⟩
    refine KCI 1 4 rfl rfl rfl rfl kr (.inr (LStep.det dNa (Nb rfl) ?_)) (.inl ⟨rfl,sA rfl rfl sz_33 mO (hl:=mL) (h:=?_)⟩)
    ·
     refine aL 4 rfl (sA rfl rfl sz_33 mO (hl:=mL) (h:=?_));refine aL 5 rfl (sA rfl rfl sz_33 mO (hl:=mL) (h:=?_));refine aE ?_
     exact ⟨(b9,b10),trivial,Ka ⟨rfl,rfl,rfl,rfl,rfl,trivial⟩ mS⟩
    refine aD 1 rfl dNa ?_;refine aL 5 rfl (sA rfl rfl sz_33 mO (hl:=mL) (h:=?_));refine aE ?_
    exact ⟨(b9,b10),trivial,Ka ⟨rfl,rfl,rfl,rfl,rfl,trivial⟩ mS⟩
   refine KCI 1 2 rfl rfl rfl rfl kr (.inr (LStep.det dNa (Nb rfl) ?_)) (.inr (mk (KK zr_33) (fun b9=>?_)))
   ·
    refine aO 2 rfl (mk (KK zr_33) (fun b9=>?_));refine aL 4 rfl (sA rfl rfl sz_33 mO (hl:=mL) (h:=?_));refine aL 5 rfl (sA rfl rfl sz_33 mO (hl:=mL) (h:=?_));refine aE ?_
    exact ⟨(b9,b10),trivial,Ka ⟨rfl,rfl,rfl,rfl,rfl,trivial⟩ mS⟩
   refine KCI 1 4 rfl rfl rfl rfl kr (.inr (LStep.det dNa (Nb rfl) ?_)) (.inl ⟨rfl,sA rfl rfl sz_33 mO (hl:=mL) (h:=?_)⟩)
   ·
    refine aL 4 rfl (sA rfl rfl sz_33 mO (hl:=mL) (h:=?_));refine aL 5 rfl (sA rfl rfl sz_33 mO (hl:=mL) (h:=?_));refine aE ?_
    exact ⟨(b9,b10),trivial,Ka ⟨rfl,rfl,rfl,rfl,rfl,trivial⟩ mS⟩
   refine aD 1 rfl dNa ?_;refine aL 5 rfl (sA rfl rfl sz_33 mO (hl:=mL) (h:=?_));refine aE ?_
   exact ⟨(b9,b10),trivial,Ka ⟨rfl,rfl,rfl,rfl,rfl,trivial⟩ mS⟩
  rintro ⟨b9,b10⟩ _
  dsimp only
  refine KB (KA ?_);refine oP (KJ (KX pl_33 zr_33 rfl rfl) (show _ = natV 0 by unfold natV natL; rw [← vec_zeros 9])) ?_;refine oS (cF rfl en_80 rfl (fun w hw=>KAU 1 dc w) ?_);refine oS (mk (KK zr_33) (fun b11=>?_));refine oS (mk (KK zr_33) (fun b12=>?_));refine oT rfl rfl sz_33 ?_;refine oT rfl rfl sz_33 ?_;refine KC (KB (KA (oD dNa ?_)));refine oS (KCf (Post:=fun v its=>∃ b,v = .agg [Pz b].toArray∧its = [.blk b ⟨false,dvL m,269,(0,0)⟩]) (first:=[]) rfl en_129 rfl (Nb rfl) (fun w hw=>(c_By m hm0 hm w).mono fun e w' ⟨b,h1,h2,h3,h4⟩=>⟨_,_,⟨b,rfl,rfl⟩,h1,KDN h4 h2 h3⟩) ?_)
  rintro _ _ ⟨bd,rfl,rfl⟩
  refine oS (mk (KK zr_163) (fun b13=>?_));refine oT rfl rfl KBo ?_;refine KC (KB (LCode.block ?_));refine Kc (α:=Nat×Nat×Nat×Nat) (fun x=>x.1≤m∧x.2.1<m∧x.2.2.1<m∧(1<m→x.2.2.2<m)∧(m = 1→x.2.1 = 0)∧a*x.2.2.1%m = x.1%m∧a*x.2.2.2%m = x.2.1%m∧Nat.gcd x.1 x.2.1 = Nat.gcd m a) (fun x=>⟨[(2,Pz b2),(3,Pz b3),(4,Pz b4),(9,Pz b9),(10,Pz b10),(11,Pz b11),(12,Pz b12),(13,Pz b13)],[.blk b9 ⟨true,natL (x.1),33,(0,0)⟩,.blk b10 ⟨true,natL (x.2.1),33,(0,0)⟩,.blk b11 ⟨true,natL (x.2.2.1),33,(0,0)⟩,.blk b12 ⟨true,natL (x.2.2.2),33,(0,0)⟩,.blk b13 ⟨true,[Pz bd],163,(0,0)⟩,.blk b4 ⟨true,vec .u64 9 (fun _=>0),33,(0,0)⟩,.blk b3 ⟨true,natL (m),33,(0,0)⟩,.blk b2 ⟨true,natL (a),33,(0,0)⟩,.blk bd ⟨false,dvL m,269,(0,0)⟩]⟩) (fun x=>x.2.1) ((m,a%m,0,1)) (⟨Nat.le_refl _,Nat.mod_lt _ om,by dsimp only; omega,fun h=>h,fun h=>by subst h; exact Nat.mod_one _,by dsimp only; rw [Nat.mul_zero,Nat.zero_mod,Nat.mod_self],by dsimp only; rw [Nat.mul_one,Nat.mod_mod],by dsimp only; rw [Nat.gcd_comm m (a%m),← Nat.gcd_rec]⟩) (Ka ⟨rfl,rfl,rfl,rfl,rfl,rfl,rfl,rfl,trivial⟩ mS) ?_
  intro x ⟨hx1,hx2,hx3,hx6,hx9,hx5,hx7,hx8⟩
  refine KB (KB ?_)
  rcases Nat.eq_zero_or_pos x.2.1 with h0|h0
  ·
   refine KA (oS (cF rfl en_138 rfl (fun w hw=>c_zero x.2.1 b10 _ w (mC hw) om) ?_));refine oP (KJ (KAH rfl) (show _ = Value.bool false by rw [decide_eq_true h0]; rfl)) ?_;refine KC ?_
   have hg:Nat.gcd a m = x.1:=by rw [h0,Nat.gcd_zero_right] at hx8; rw [Nat.gcd_comm,hx8]
   refine KH rfl (Kb (KB (KB ?_)))
   rcases (show (x.1 = 1∧m≠1)∨(x.1 = 1∧m = 1)∨x.1≠1 by omega) with ⟨hd1,hd2⟩|⟨hd1,hd2⟩|hd1
   ·
    refine rD [] (aD 0 rfl dNa ?_);refine aO 1 rfl (cF rfl en_80 rfl (fun w hw=>KAU 1 dc w) ?_);refine aP 2 rfl (KJ (KBh kr (fun w=>KBI x.1 1 om one_w9 10000 dc w) rfl rfl) (show _ = Value.bool false by rw [decide_eq_true hd1]; rfl)) ?_;refine aM 3 ?_;refine aGD 4 rfl dNa ?_;refine aGO 5 rfl (cF rfl en_80 rfl (fun w hw=>KAU 1 dc w) ?_);refine aGP 6 rfl (KJ (KBw kr (fun w=>KBI m 1 hm one_w9 10000 dc w) rfl rfl) (show _ = Value.bool false by rw [decide_eq_false hd2])) (aP 7 rfl (KT rfl rfl) (aE (KH rfl (KM (KB (KA (oD dNa ?_)))))));refine oT rfl rfl sz_33 ?_;refine oP (KO (v:=Iz 0) rfl) (KC (KN ?_))
    have hgd:Nat.gcd a m = 1∧m≠1:=⟨hg.trans hd1,hd2⟩
    have hia:invM a m = x.2.2.1:=invM_eq hx3 (by rw [hx5,hd1]; exact Nat.mod_eq_of_lt om)
    refine eN (.cons ⟨_,_,_,rfl,mM,by exact KD u33 rfl sz_33⟩ (.cons rfl .nil)) ?_
    rw [hia,if_pos hgd]
    rfl
   ·
    refine rD [] (aD 0 rfl dNa ?_);refine aO 1 rfl (cF rfl en_80 rfl (fun w hw=>KAU 1 dc w) ?_);refine aP 2 rfl (KJ (KBh kr (fun w=>KBI x.1 1 om one_w9 10000 dc w) rfl rfl) (show _ = Value.bool false by rw [decide_eq_true hd1]; rfl)) ?_;refine aM 3 ?_;refine aGD 4 rfl dNa ?_;refine aGO 5 rfl (cF rfl en_80 rfl (fun w hw=>KAU 1 dc w) ?_);refine aGP 6 rfl (KJ (KBw kr (fun w=>KBI m 1 hm one_w9 10000 dc w) rfl rfl) (show _ = Value.bool true by rw [decide_eq_true hd2])) (aP 7 rfl (KT rfl rfl) (aE (KS rfl (KB (KA (oP (KX pl_33 zr_33 rfl rfl) (oT rfl rfl sz_33 ?_)))))));refine oP (KO (v:=Iz 401) rfl) (KC (KN ?_))
    have hng:¬ (Nat.gcd a m = 1∧m≠1):=by rw [hg]; exact fun h=>h.2 hd2
    refine eN (.cons ⟨_,_,_,rfl,mM,by exact KD u33 rfl sz_33⟩ (.cons rfl .nil)) ?_
    rw [invM_none hng,if_neg hng]
    refine congrArg (fun l:List Value=>Ending.returned (.tuple #[.agg l.toArray,_])) ?_
    exact vec_zeros 9
   refine rD [] (aD 0 rfl dNa ?_);refine aO 1 rfl (cF rfl en_80 rfl (fun w hw=>KAU 1 dc w) ?_);refine aP 2 rfl (KJ (KBh kr (fun w=>KBI x.1 1 om one_w9 10000 dc w) rfl rfl) (show _ = Value.bool true by rw [decide_eq_false hd1]; rfl)) ?_;refine aM 3 ?_;refine aK 4 ?_;refine aK 5 ?_;refine aK 6 ?_;refine aP 7 rfl (Kd rfl rfl) (aE (KS rfl (KB (KA (oP (KX pl_33 zr_33 rfl rfl) (oT rfl rfl sz_33 ?_))))));refine oP (KO (v:=Iz 401) rfl) (KC (KN ?_))
   have hng:¬ (Nat.gcd a m = 1∧m≠1):=by rw [hg]; exact fun h=>hd1 h.1
   refine eN (.cons ⟨_,_,_,rfl,mM,by exact KD u33 rfl sz_33⟩ (.cons rfl .nil)) ?_
   rw [invM_none hng,if_neg hng]
   refine congrArg (fun l:List Value=>Ending.returned (.tuple #[.agg l.toArray,_])) ?_
   exact vec_zeros 9
  refine KA (oS (cF rfl en_138 rfl (fun w hw=>c_zero x.2.1 b10 _ w (mC hw) om) ?_));refine oP (KJ (KAH rfl) (show _ = Value.bool true by rw [decide_eq_false om]; rfl)) ?_;refine KC ?_
  have h0:x.2.1≠0:=by omega
  have hm1:1<m:=by
    rcases Nat.lt_or_ge 1 m with h|h
    · exact h
    · exact absurd (hx9 om) h0
  refine KS rfl (KM (LCode.block (KB (KA (oD dNa ?_)))));refine oD dNa ?_;refine oS (cF rfl en_86 rfl (fun w hw=>c_Div x.1 x.2.1 h0 w om om) ?_);refine oM ?_;refine oX ?_;refine oX ?_;refine oX ?_;refine oS (mk (KK zr_33) (fun b14=>?_));refine oS (mk (KK zr_33) (fun b15=>?_));refine oT rfl rfl sz_33 ?_;refine oT rfl rfl sz_33 ?_;refine oA (KC ?_);refine KCr (α:=Unit) (fun _=>True) (fun _=>⟨[(2,Pz b2),(3,Pz b3),(4,Pz b4),(9,Pz b9),(10,Pz b10),(11,Pz b11),(12,Pz b12),(13,Pz b13),(14,Pz b14)],[.blk b9 ⟨true,natL (x.2.1),33,(0,0)⟩,.blk b10 ⟨true,natL (x.1%x.2.1),33,(0,0)⟩,.blk b11 ⟨true,natL (x.2.2.1),33,(0,0)⟩,.blk b12 ⟨true,natL (x.2.2.2),33,(0,0)⟩,.blk b14 ⟨true,natL (x.1/x.2.1),33,(0,0)⟩,.blk b13 ⟨true,[Pz bd],163,(0,0)⟩,.blk b4 ⟨true,vec .u64 9 (fun _=>0),33,(0,0)⟩,.blk b3 ⟨true,natL (m),33,(0,0)⟩,.blk b2 ⟨true,natL (a),33,(0,0)⟩,.blk bd ⟨false,dvL m,269,(0,0)⟩]⟩) ?_ ?_
  ·
   refine rD [2,3] (aD 0 rfl dNa ?_);refine KCI 1 2 rfl rfl rfl rfl kr (.inr (LStep.det dNa (Nb rfl) ?_)) (.inl ⟨rfl,sA rfl rfl sz_33 mO (hl:=mL) (h:=?_)⟩)
   ·
    refine aL 2 rfl (sA rfl rfl sz_33 mO (hl:=mL) (h:=?_));refine aL 3 rfl (sA rfl rfl sz_33 mO (hl:=mL) (h:=?_));refine aE ?_
    exact ⟨(),trivial,Ka ⟨rfl,rfl,rfl,rfl,rfl,rfl,rfl,rfl,rfl,trivial⟩ mS⟩
   refine aD 1 rfl dNa ?_;refine aL 3 rfl (sA rfl rfl sz_33 mO (hl:=mL) (h:=?_));refine aE ?_
   exact ⟨(),trivial,Ka ⟨rfl,rfl,rfl,rfl,rfl,rfl,rfl,rfl,rfl,trivial⟩ mS⟩
  rintro _ _
  refine KB (KA (oD (dL rfl (hv:=by exact KD u163 rfl KBo)) ?_));refine oD dNa ?_;refine oD dNa ?_;refine oS (cF rfl en_133 rfl (fun w hw=>c_Mul m (x.1/x.2.1) x.2.2.2 bd hm0 hm w (mC hw) (Nat.lt_of_le_of_lt (Nat.div_le_self _ _) om) (by have:=hx6 hm1; omega)) ?_);refine oS (mk (KK zr_33) (fun b17=>?_));refine oT rfl rfl sz_33 ?_;refine KC (KB (KA (oD dNa ?_)));refine oD dNa ?_;refine oS (cF rfl en_79 rfl (fun w hw=>c_nat_Sub x.2.2.1 (x.1/x.2.1*x.2.2.2%m) om (mod_w9 hm0 hm) w) ?_);refine oM ?_;refine oX ?_;refine oX ?_;refine oS (mk (KK zr_33) (fun b18=>?_));refine oT rfl rfl sz_33 ?_;refine oA (KC (KB (KB (KA (oM (KC ?_))))))
  first|refine KQ rfl (fun h56=>?_) (fun h56=>?_)|refine KR rfl (fun h56=>?_) (fun h56=>?_)
  ·
   have h56:x.2.2.1<x.1/x.2.1*x.2.2.2%m:=h56
   refine KA (oD dNa ?_);refine oD dNa ?_;refine oS (cF rfl en_91 rfl (fun w hw=>c_nat_Add (dif x.2.2.1 (x.1/x.2.1*x.2.2.2%m)) m (dif_lt _ _) hm w) ?_);refine oM ?_;refine oX ?_;refine oX ?_;refine oT rfl rfl sz_33 ?_;refine KC (rD [2,3] (aD 0 rfl dNa ?_));refine KCI 1 2 rfl rfl rfl rfl kr (.inr (LStep.det dNa (Nb rfl) ?_)) (.inl ⟨rfl,sA rfl rfl sz_33 mO (hl:=mL) (h:=?_)⟩)
   ·
    refine aL 2 rfl (sA rfl rfl sz_33 mO (hl:=mL) (h:=?_));refine aL 3 rfl (sA rfl rfl sz_33 mO (hl:=mL) (h:=?_));refine aE ?_;refine ⟨(x.2.1,x.1%x.2.1,x.2.2.2,lessM x.2.2.1 (x.1/x.2.1*x.2.2.2%m) m),⟨by dsimp only; omega,by dsimp only; have:=Nat.mod_lt x.1 (show 0<x.2.1 by omega); omega,hx6 hm1,fun _=>lessM_lt hx3 (Nat.mod_lt _ om),fun h=>absurd h om,hx7,inv_step rfl hx3 om hx5 hx7,by show Nat.gcd x.2.1 (x.1%x.2.1) = _; rw [← hx8,Nat.gcd_comm x.2.1,← Nat.gcd_rec,Nat.gcd_comm]⟩,Nat.mod_lt _ om,KAD (Sub.cells (b:=b12) (cs':=natL (lessM x.2.2.1 (x.1/x.2.1*x.2.2.2%m) m)) mT ?_) (Ka ⟨rfl,rfl,rfl,rfl,rfl,rfl,rfl,rfl,trivial⟩ mS)⟩
    rw [← less_word hx3 (Nat.mod_lt _ om) hm,if_pos h56]
   refine aD 1 rfl dNa ?_;refine aL 3 rfl (sA rfl rfl sz_33 mO (hl:=mL) (h:=?_));refine aE ?_;refine ⟨(x.2.1,x.1%x.2.1,x.2.2.2,lessM x.2.2.1 (x.1/x.2.1*x.2.2.2%m) m),⟨by dsimp only; omega,by dsimp only; have:=Nat.mod_lt x.1 (show 0<x.2.1 by omega); omega,hx6 hm1,fun _=>lessM_lt hx3 (Nat.mod_lt _ om),fun h=>absurd h om,hx7,inv_step rfl hx3 om hx5 hx7,by show Nat.gcd x.2.1 (x.1%x.2.1) = _; rw [← hx8,Nat.gcd_comm x.2.1,← Nat.gcd_rec,Nat.gcd_comm]⟩,Nat.mod_lt _ om,KAD (Sub.cells (b:=b12) (cs':=natL (lessM x.2.2.1 (x.1/x.2.1*x.2.2.2%m) m)) mT ?_) (Ka ⟨rfl,rfl,rfl,rfl,rfl,rfl,rfl,rfl,trivial⟩ mS)⟩
   rw [← less_word hx3 (Nat.mod_lt _ om) hm,if_pos h56]
  have h56:¬ x.2.2.1<x.1/x.2.1*x.2.2.2%m:=h56
  refine KM (rD [2,3] (aD 0 rfl dNa ?_));refine KCI 1 2 rfl rfl rfl rfl kr (.inr (LStep.det dNa (Nb rfl) ?_)) (.inl ⟨rfl,sA rfl rfl sz_33 mO (hl:=mL) (h:=?_)⟩)
  ·
   refine aL 2 rfl (sA rfl rfl sz_33 mO (hl:=mL) (h:=?_));refine aL 3 rfl (sA rfl rfl sz_33 mO (hl:=mL) (h:=?_));refine aE ?_;refine ⟨(x.2.1,x.1%x.2.1,x.2.2.2,lessM x.2.2.1 (x.1/x.2.1*x.2.2.2%m) m),⟨by dsimp only; omega,by dsimp only; have:=Nat.mod_lt x.1 (show 0<x.2.1 by omega); omega,hx6 hm1,fun _=>lessM_lt hx3 (Nat.mod_lt _ om),fun h=>absurd h om,hx7,inv_step rfl hx3 om hx5 hx7,by show Nat.gcd x.2.1 (x.1%x.2.1) = _; rw [← hx8,Nat.gcd_comm x.2.1,← Nat.gcd_rec,Nat.gcd_comm]⟩,Nat.mod_lt _ om,KAD (Sub.cells (b:=b12) (cs':=natL (lessM x.2.2.1 (x.1/x.2.1*x.2.2.2%m) m)) mT ?_) (Ka ⟨rfl,rfl,rfl,rfl,rfl,rfl,rfl,rfl,trivial⟩ mS)⟩
   rw [← less_word hx3 (Nat.mod_lt _ om) hm,if_neg h56]
  refine aD 1 rfl dNa ?_;refine aL 3 rfl (sA rfl rfl sz_33 mO (hl:=mL) (h:=?_));refine aE ?_;refine ⟨(x.2.1,x.1%x.2.1,x.2.2.2,lessM x.2.2.1 (x.1/x.2.1*x.2.2.2%m) m),⟨by dsimp only; omega,by dsimp only; have:=Nat.mod_lt x.1 (show 0<x.2.1 by omega); omega,hx6 hm1,fun _=>lessM_lt hx3 (Nat.mod_lt _ om),fun h=>absurd h om,hx7,inv_step rfl hx3 om hx5 hx7,by show Nat.gcd x.2.1 (x.1%x.2.1) = _; rw [← hx8,Nat.gcd_comm x.2.1,← Nat.gcd_rec,Nat.gcd_comm]⟩,Nat.mod_lt _ om,KAD (Sub.cells (b:=b12) (cs':=natL (lessM x.2.2.1 (x.1/x.2.1*x.2.2.2%m) m)) mT ?_) (Ka ⟨rfl,rfl,rfl,rfl,rfl,rfl,rfl,rfl,trivial⟩ mS)⟩
  rw [← less_word hx3 (Nat.mod_lt _ om) hm,if_neg h56]
def fldL (p bd:Nat):List Value:=natL p++[Pz bd]
theorem cmp_lt {A B:Nat}:Kp .lss .i64 (cmpI A B) .i64 0 = some (.bool (decide (A<B))):=by
  unfold cmpI
  by_cases h:A<B
  · rw [if_pos h,decide_eq_true h]; rfl
  · rw [if_neg h,decide_eq_false h]; split <;> rfl
theorem c_nat_AddS (A B:Nat) (w:World) (h:A+B<W9):CF Tryz.prog 91 [natV A,natV B] w (.tuple #[natV (A+B),.bool false]):=by
  have h1:=c_nat_Add A B om om w
  rwa [Nat.mod_eq_of_lt h,decide_eq_false om] at h1
theorem KCz (A B:Nat) (w:World) (hA:A<W9) (h:B≤A):CF Tryz.prog 79 [natV A,natV B] w (.tuple #[natV (A-B),.bool false]):=by
  have h1:=c_nat_Sub A B hA om w
  have e:dif A B = A-B:=by
    unfold dif
    generalize W9 = M at *
    rw [show A+M-B = A-B+M by omega,Nat.add_mod_right,Nat.mod_eq_of_lt om]
  rwa [e,decide_eq_false om] at h1
theorem c_nat_SubU (A B:Nat) (w:World) (hB:B<W9) (h:A<B):CF Tryz.prog 79 [natV A,natV B] w (.tuple #[natV (dif A B),.bool true]):=by
  have h1:=c_nat_Sub A B om hB w
  rwa [decide_eq_true h] at h1
theorem dif_back {A B p:Nat} (hp:p<W9) (hB:B<p) (h:A<B):(dif A B+p)%W9 = A+p-B:=by
  unfold dif
  generalize W9 = M at *
  rw [Nat.mod_eq_of_lt (show A+M-B<M by omega),show A+M-B+p = A+p-B+M by omega,Nat.add_mod_right,Nat.mod_eq_of_lt om]
theorem w9_half {p:Nat} (h:p<P521):p+p<W9:=by
  obtain ⟨j,hj⟩:∃ j:Nat,j = 65:=⟨65,rfl⟩
  obtain ⟨k,hk⟩:∃ k:Nat,k = 9:=⟨9,rfl⟩
  rw [← p521 hj] at h
  rw [← w9 hk]
  have h2:2^(8*j+1+1)≤2^(64*k):=Nat.pow_le_pow_right dc om
  rw [Nat.pow_succ] at h2
  omega
theorem cvI_small {id:Int} {V:Cv} (h:cvI id = some V):id = 1∨id = 3∨id = 7∨id = 13:=by
  unfold cvI at h
  split at h
  · unfold cvOf at h
    split at h
    all_goals first|omega|cases h
  · cases h
theorem c_prime (id:Int) (w:World) (hS:id = 1∨id = 3∨id = 7∨id = 13):Calls Tryz.prog 128 ([.int .i64 id]:List Value).toArray w (fun e w'=>∃ V,cvI id = some V∧∃ s,e = .returned (.string s)∧(hexB s V.p && !s.data.toList.isEmpty) = true∧Below w.heap.size w w'):=by
  refine KV (N:=34) (rs:=[.tmp 2]) [] Tryz.func128 rfl Tryz.ntmps128 Tryz.results128 (Nb rfl) trivial rfl ?_
  refine KB (KA (oA (KC (KB (KB (KA (oM (KC (LCode.block (KB (KA ?_)))))))))));refine oP (KG (v:=.bool (decide (id = 1))) rfl rfl KAx) (oA (KC ?_))
  first|refine KQ rfl (fun hk1=>?_) (fun hk1=>?_)|refine KR rfl (fun hk1=>?_) (fun hk1=>?_)
  ·
   refine KB (KA (oA (KC (KN ?_))));refine ⟨[_],.cons rfl .nil,fun a w' hr=>⟨cv1,by rw [hk1]; rfl,_,rfl,by kernel_rfl,hr.fr.below⟩⟩
  refine KB (KA (oP (KG (v:=.bool (decide (id = 2))) rfl rfl KAx) (oA (KC ?_))))
  first|refine KQ rfl (fun hk2=>?_) (fun hk2=>?_)|refine KR rfl (fun hk2=>?_) (fun hk2=>?_)
  ·
   exfalso; omega
  refine KB (KA (oP (KG (v:=.bool (decide (id = 3))) rfl rfl KAx) (oA (KC ?_))))
  first|refine KQ rfl (fun hk3=>?_) (fun hk3=>?_)|refine KR rfl (fun hk3=>?_) (fun hk3=>?_)
  ·
   refine KB (KA (oA (KC (KN ?_))));refine ⟨[_],.cons rfl .nil,fun a w' hr=>⟨cv3,by rw [hk3]; rfl,_,rfl,by kernel_rfl,hr.fr.below⟩⟩
  refine KB (KA (oP (KG (v:=.bool (decide (id = 4))) rfl rfl KAx) (oA (KC ?_))))
  first|refine KQ rfl (fun hk4=>?_) (fun hk4=>?_)|refine KR rfl (fun hk4=>?_) (fun hk4=>?_)
  ·
   exfalso; omega
  refine KB (KA (oP (KG (v:=.bool (decide (id = 5))) rfl rfl KAx) (oA (KC ?_))))
  first|refine KQ rfl (fun hk5=>?_) (fun hk5=>?_)|refine KR rfl (fun hk5=>?_) (fun hk5=>?_)
  ·
   exfalso; omega
  refine KB (KA (oP (KG (v:=.bool (decide (id = 6))) rfl rfl KAx) (oA (KC ?_))))
  first|refine KQ rfl (fun hk6=>?_) (fun hk6=>?_)|refine KR rfl (fun hk6=>?_) (fun hk6=>?_)
  ·
   exfalso; omega
  refine KB (KA (oP (KG (v:=.bool (decide (id = 7))) rfl rfl KAx) (oA (KC ?_))))
  first|refine KQ rfl (fun hk7=>?_) (fun hk7=>?_)|refine KR rfl (fun hk7=>?_) (fun hk7=>?_)
  ·
   refine KB (KA (oA (KC (KN ?_))));refine ⟨[_],.cons rfl .nil,fun a w' hr=>⟨cv7,by rw [hk7]; rfl,_,rfl,by kernel_rfl,hr.fr.below⟩⟩
  refine KB (KA (oP (KG (v:=.bool (decide (id = 8))) rfl rfl KAx) (oA (KC ?_))))
  first|refine KQ rfl (fun hk8=>?_) (fun hk8=>?_)|refine KR rfl (fun hk8=>?_) (fun hk8=>?_)
  ·
   exfalso; omega
  refine KB (KA (oP (KG (v:=.bool (decide (id = 9))) rfl rfl KAx) (oA (KC ?_))))
  first|refine KQ rfl (fun hk9=>?_) (fun hk9=>?_)|refine KR rfl (fun hk9=>?_) (fun hk9=>?_)
  ·
   exfalso; omega
  refine KB (KA (oP (KG (v:=.bool (decide (id = 10))) rfl rfl KAx) (oA (KC ?_))))
  first|refine KQ rfl (fun hk10=>?_) (fun hk10=>?_)|refine KR rfl (fun hk10=>?_) (fun hk10=>?_)
  ·
   exfalso; omega
  refine KB (KA (oP (KG (v:=.bool (decide (id = 11))) rfl rfl KAx) (oA (KC ?_))))
  first|refine KQ rfl (fun hk11=>?_) (fun hk11=>?_)|refine KR rfl (fun hk11=>?_) (fun hk11=>?_)
  ·
   exfalso; omega
  refine KB (KA (oP (KG (v:=.bool (decide (id = 12))) rfl rfl KAx) (oA (KC ?_))))
  first|refine KQ rfl (fun hk12=>?_) (fun hk12=>?_)|refine KR rfl (fun hk12=>?_) (fun hk12=>?_)
  ·
   exfalso; omega
  refine KB (KA (oP (KG (v:=.bool (decide (id = 13))) rfl rfl KAx) (oA (KC ?_))))
  first|refine KQ rfl (fun hk13=>?_) (fun hk13=>?_)|refine KR rfl (fun hk13=>?_) (fun hk13=>?_)
  ·
   refine KB (KA (oA (KC (KN ?_))));refine ⟨[_],.cons rfl .nil,fun a w' hr=>⟨cv13,by rw [hk13]; rfl,_,rfl,by kernel_rfl,hr.fr.below⟩⟩
  refine KB (KA (oP (KG (v:=.bool (decide (id = 14))) rfl rfl KAx) (oA (KC ?_))))
  first|refine KQ rfl (fun hk14=>?_) (fun hk14=>?_)|refine KR rfl (fun hk14=>?_) (fun hk14=>?_)
  ·
   exfalso; omega
  refine KB (KA (oP (KG (v:=.bool (decide (id = 15))) rfl rfl KAx) (oA (KC ?_))))
  first|refine KQ rfl (fun hk15=>?_) (fun hk15=>?_)|refine KR rfl (fun hk15=>?_) (fun hk15=>?_)
  ·
   exfalso; omega
  exfalso; omega
theorem c_prime_some (id:Int) (V:Cv) (w:World) (h:cvI id = some V):Calls Tryz.prog 128 ([.int .i64 id]:List Value).toArray w (fun e w'=>∃ v,(∃ s,v = .string s∧hexB s V.p = true∧s.data.toList≠[])∧e = .returned v∧Below w.heap.size w w') :=
  (c_prime id w (cvI_small h)).mono fun e w' ⟨V',hV,s,h1,h2,h3⟩=>by
    rw [h] at hV; cases hV
    simp only [Bool.and_eq_true] at h2
    exact ⟨_,⟨s,rfl,h2.1,fun e=>by rw [e] at h2; cases h2.2⟩,h1,h3⟩
theorem hex_step {l:List UInt8} {x:Nat} (h:x<l.length):KCm (l.drop (l.length-(x+1))) = hexD (l.getD (l.length-1-x) 0).toNat*16^x+KCm (l.drop (l.length-x)):=by
  rw [drop_step h,KCm,List.length_drop,show l.length-(l.length-x) = x by omega]
theorem hex_drop {l:List UInt8} (hok:hexOK l = true) (x:Nat) (h:x≤l.length):KCm (l.drop (l.length-x))<16^x:=by
  have:=hexVal_lt (hexOK_drop hok (l.length-x))
  rwa [List.length_drop,show l.length-(l.length-x) = x by omega] at this
theorem c_f_Hex (s:ByteArray) (w:World) (hok:hexOK s.data.toList = true) (hs:s.size≤144):CF Tryz.prog 78 [.string s] w (natV (KCm s.data.toList)):=by
  refine KV (N:=47) (rs:=[.cell 2 33]) [] Tryz.func78 rfl Tryz.ntmps78 Tryz.results78 (Nb rfl) trivial rfl ?_
  refine KB (KA (oS (mk (KK zr_33) (fun b2=>?_))));refine KC (KB (KA (oS (mk (KK zr_33) (fun b3=>?_)))));refine KC (KB (KB (KA (oM ?_))));refine oP (KAQ u9 rfl) (oP (Kf (v:=Iz 0) rfl) (KC (LCode.block ?_)));refine Kc (α:=Nat) (fun x=>x≤s.size) (fun x=>⟨[(0,.string s),(2,Pz b2),(3,Pz b3),(8,Iz s.size),(9,Iz x)],[.blk b3 ⟨true,natL (KCm (s.data.toList.drop (s.size-(x)))),33,(0,0)⟩,.blk b2 ⟨true,vec .u64 9 (fun _=>0),33,(0,0)⟩]⟩) (fun x=>s.size-x) (0) (Nat.zero_le _) (KAD (Sub.cells (b:=b3) (cs':=natL (KCm (s.data.toList.drop (s.size-(0))))) mT (by rw [Nat.sub_zero,← size_list,List.drop_length]; exact vec_zeros 9)) (Ka ⟨rfl,rfl,rfl,rfl,rfl,trivial⟩ mS)) ?_
  intro x hx
  refine KB (KA (oP (KG rfl rfl (KAA)) (KC (KB ?_))))
  first|refine KQ rfl (fun h10=>?_) (fun h10=>?_)|refine KR rfl (fun h10=>?_) (fun h10=>?_)
  ·
   have h10:x<s.size:=h10
   refine KM (KB (LCode.block (KB ?_)))
   have hdg:=hexOK_get hok (x:=s.size-1-x) (by show s.size-1-x<s.size; omega)
   refine KA (oM (oA (KC (KB (KA (oM ?_))))));refine oP (KAQ u9 rfl) (oP (KG rfl rfl (KAe (b:=1) om om)) (oM ?_));refine oP (KG rfl rfl (KAe om om)) (oA (KC (KB (KA (oM (oM ?_))))));refine oP (KJ (KAE u9 rfl rfl om om) (vi (b:=(s.data.toList.getD (s.size-1-x) 0).toNat) (by rw [Int.toNat_natCast]))) ?_;refine oP (KG (v:=.int .u8 (((s.data.toList.getD (s.size-1-x) 0).toNat-48:Nat):Int)) rfl rfl (br_sub8 (a:=(s.data.toList.getD (s.size-1-x) 0).toNat) (b:=48) om om)) ?_;refine oP (KCA u5 u30 rfl (by first|omega|exact Nat.lt_trans (D.limb_lt _ _) dc)) ?_;refine oA (KC (KB (KB (KA (oM (oM ?_))))));refine oP (KJ (KAE u9 rfl rfl om om) (vi (b:=(s.data.toList.getD (s.size-1-x) 0).toNat) (by rw [Int.toNat_natCast]))) ?_;refine oP (KG rfl rfl (KBf (b:=97))) (KC ?_)
   first|refine KQ rfl (fun h25=>?_) (fun h25=>?_)|refine KR rfl (fun h25=>?_) (fun h25=>?_)
   ·
    have h25:97≤(s.data.toList.getD (s.size-1-x) 0).toNat:=by have:=h25; omega
    refine KA (oM (oM ?_));refine oP (KJ (KAE u9 rfl rfl om om) (vi (b:=(s.data.toList.getD (s.size-1-x) 0).toNat) (by rw [Int.toNat_natCast]))) ?_;refine oP (KG (v:=.int .u8 (((s.data.toList.getD (s.size-1-x) 0).toNat-97:Nat):Int)) rfl rfl (br_sub8 (a:=(s.data.toList.getD (s.size-1-x) 0).toNat) (b:=97) om om)) ?_;refine oP (KCA u5 u30 rfl (by first|omega|exact Nat.lt_trans (D.limb_lt _ _) dc)) ?_;refine oP (KG rfl rfl (KAc (b:=10))) (oA (KC (rD [13] ?_)));refine aM 0 ?_;refine aP 1 rfl (KG rfl rfl (KDI (b:=16) om om)) (aP 2 rfl (KE (o':=0) u33 rfl rfl rfl sz_31 dc) (aP 3 rfl (KP u31 sz_30 rfl rfl om) (aD 4 rfl (dL rfl (hv:=KI u30 rfl (by exact KAY _ (show x/16<9 by omega)))) ?_)));refine aM 5 ?_;refine aM 6 ?_;refine aP 7 rfl (KG rfl rfl (br_rem (b:=16) om)) (aP 8 rfl (KG rfl rfl (KCB (a:=4) om)) (aP 9 rfl (KG rfl rfl (KCK)) (aP 10 rfl (KG rfl rfl (KCT (limb_lt _ _) (Nat.mod_lt _ dc))) (aP 11 rfl (KE (o':=0) u33 rfl rfl rfl sz_31 dc) (aP 12 rfl (KP u31 sz_30 rfl rfl om) (aL 13 rfl (KZ rfl rfl rfl sz_30 mT lT sT (by simp) ?_)))))))
    refine aE (KA (oP (KG rfl rfl (Kj (b:=1) om)) (oM (KC ?_))))
    have hb:=limb_piece64 (V:=KCm (s.data.toList.drop (s.size-(x)))) (y:=hexD (s.data.toList.getD (s.size-1-x) 0).toNat) (s:=4) (w:=16) (i:=x/16) (k:=x%16) rfl (Nat.mod_lt _ dc) (by rw [show 16*(x/16)+x%16 = x by omega,← pow16]; exact hex_drop hok x hx) (hexD_lt hok (by show s.size-1-x<s.size; omega))
    refine ⟨x+1,by omega,by omega,KAD (Sub.cells (b:=b3) (cs':=natL (KCm (s.data.toList.drop (s.size-(x+1))))) mT ?_) (Ka ⟨rfl,rfl,rfl,rfl,rfl,trivial⟩ mS)⟩
    have hs:=hex_step (l:=s.data.toList) (x:=x) h10
    rw [size_list] at hs
    rw [hs]
    have e:16^x = 2^(4*(16*(x/16)+x%16)):=by rw [show 16*(x/16)+x%16 = x by omega,pow16]
    rw [e]
    refine Kq fun j _=>?_
    rw [hb.2 j]
    unfold hexD
    rw [if_pos h25,show ((s.data.toList.getD (s.size-1-x) 0).toNat-97+10)%18446744073709551616 = (s.data.toList.getD (s.size-1-x) 0).toNat-87 by omega]
   have h25:¬ 97≤(s.data.toList.getD (s.size-1-x) 0).toNat:=by have:=h25; omega
   refine KM (rD [13] (aM 0 ?_));refine aP 1 rfl (KG rfl rfl (KDI (b:=16) om om)) (aP 2 rfl (KE (o':=0) u33 rfl rfl rfl sz_31 dc) (aP 3 rfl (KP u31 sz_30 rfl rfl om) (aD 4 rfl (dL rfl (hv:=KI u30 rfl (by exact KAY _ (show x/16<9 by omega)))) ?_)));refine aM 5 ?_;refine aM 6 ?_;refine aP 7 rfl (KG rfl rfl (br_rem (b:=16) om)) (aP 8 rfl (KG rfl rfl (KCB (a:=4) om)) (aP 9 rfl (KG rfl rfl (KCK)) (aP 10 rfl (KG rfl rfl (KCT (limb_lt _ _) (Nat.mod_lt _ dc))) (aP 11 rfl (KE (o':=0) u33 rfl rfl rfl sz_31 dc) (aP 12 rfl (KP u31 sz_30 rfl rfl om) (aL 13 rfl (KZ rfl rfl rfl sz_30 mT lT sT (by simp) ?_)))))));refine aE (KA (oP (KG rfl rfl (Kj (b:=1) om)) (oM (KC ?_))))
   have hb:=limb_piece64 (V:=KCm (s.data.toList.drop (s.size-(x)))) (y:=hexD (s.data.toList.getD (s.size-1-x) 0).toNat) (s:=4) (w:=16) (i:=x/16) (k:=x%16) rfl (Nat.mod_lt _ dc) (by rw [show 16*(x/16)+x%16 = x by omega,← pow16]; exact hex_drop hok x hx) (hexD_lt hok (by show s.size-1-x<s.size; omega))
   refine ⟨x+1,by omega,by omega,KAD (Sub.cells (b:=b3) (cs':=natL (KCm (s.data.toList.drop (s.size-(x+1))))) mT ?_) (Ka ⟨rfl,rfl,rfl,rfl,rfl,trivial⟩ mS)⟩
   have hs:=hex_step (l:=s.data.toList) (x:=x) h10
   rw [size_list] at hs
   rw [hs]
   have e:16^x = 2^(4*(16*(x/16)+x%16)):=by rw [show 16*(x/16)+x%16 = x by omega,pow16]
   rw [e]
   refine Kq fun j _=>?_
   rw [hb.2 j]
   unfold hexD
   rw [if_neg h25]
  have h10:¬ x<s.size:=h10
  refine Kb (KB (KA (oD dNa ?_)));refine oT rfl rfl sz_33 ?_;refine KC (KN ?_)
  have hx9:x = s.size:=by omega
  subst hx9
  refine eN (.cons ⟨_,_,_,rfl,mM,by exact KD u33 rfl sz_33⟩ .nil) ?_
  rw [Nat.sub_self,List.drop_zero]
  rfl
theorem fhex (s:ByteArray) (n:Nat) (w:World) (h:hexB s n = true):CF Tryz.prog 78 [.string s] w (natV n):=by
  obtain ⟨h1,h2,h3⟩:=hexB_spec h
  have:=c_f_Hex s w h1 h3
  rwa [h2] at this
theorem fill_fld (p bd:Nat):fillL [(0,9),(9,1)] (vec .u64 9 (fun _=>0)++[Value.pointer none]) [(0,natV p),(1,.agg [Pz bd].toArray)] = some (fldL p bd):=by
  refine KAK (A:=[]) (B:=vec .u64 9 (fun _=>0)) (D:=[.pointer none]) (cs:=natL p) rfl rfl (KL _) rfl rfl (KU _ _ _) ?_;refine (KAK (A:=natL p) (B:=[.pointer none]) (D:=[]) (cs:=[Pz bd]) rfl rfl rfl (by simp) (KL _) rfl rfl).trans ?_
  simp [fldL]
theorem c_f_Of (id:Int) (V:Cv) (w:World) (h:cvI id = some V):Calls Tryz.prog 76 ([.int .i64 id]:List Value).toArray w (fun e w'=>∃ f bd,e = .returned (Pz f)∧(Item.blk f ⟨false,fldL V.p bd,165,(0,0)⟩).holds w'∧(Item.blk bd ⟨false,dvL V.p,269,(0,0)⟩).holds w'∧w.heap.size≤f∧w.heap.size≤bd∧Below w.heap.size w w'):=by
  obtain ⟨hok,hid⟩:=KAw h
  refine KV (N:=16) (rs:=[.tmp 2]) [] Tryz.func76 rfl Tryz.ntmps76 Tryz.results76 (Nb rfl) trivial rfl ?_
  refine KB (KA (oA (KC (KB (KA (oM ?_))))));refine oS (KDK (first:=[]) rfl en_128 rfl (Nb rfl) (fun w hw=>c_prime_some id V w h) ?_)
  rintro _ ⟨s,rfl,hB,hne⟩
  refine oA (KC (KB (KB (KA (oM ?_)))));refine oP (KJ (KCU rfl rfl) (congrArg Value.bool (eq_str_f hne))) (KC (KH rfl (KM (KB (KA (oM ?_))))));refine oS (cF rfl en_78 rfl (fun w hw=>fhex s V.p w hB) ?_);refine oS (mk (KK zr_33) (fun b4=>?_));refine oT rfl rfl sz_33 ?_;refine KC (KB ?_)
  have hbb:=hok.bounds
  have hpW:V.p<W9:=Ks hbb.2.1
  have hp0:V.p≠0:=by omega
  refine rD [] (aD 0 rfl dNa ?_);refine aD 1 rfl dNa ?_;refine aO 2 rfl (LStep.callZ (Post:=fun v its=>∃ b,v = .agg [Pz b].toArray∧its = [.blk b ⟨false,dvL V.p,269,(0,0)⟩]∧w.heap.size≤b) (first:=[]) rfl en_129 rfl (Nb rfl) (fun w1 hw hs=>(c_By V.p hp0 hpW w1).mono fun e w' ⟨b,h1,h2,h3,h4⟩=>⟨_,_,⟨b,rfl,rfl,Nat.le_trans hs h2⟩,h1,KDN h4 h2 h3⟩) ?_)
  rintro _ _ ⟨bd,rfl,rfl,hnbd⟩
  refine aP 3 rfl (KJ (KX pl_165 zr_165 rfl (fill_fld _ _)) rfl) (aO 4 rfl (mB (fun b15=>?_)));refine aA 5 ?_;refine aE (KN (⟨[_],.cons rfl .nil,fun a w' hr=>⟨b15,bd,rfl,(show (Item.blk b15 ⟨true,_,_,_⟩).holds w' from hr.hp _ mM),hr.hp _ mM,hr.new (B:=⟨true,_,_,_⟩) mM rfl,hnbd,hr.fr.below⟩⟩))
theorem c_f_Has (V:Cv) (f bd A:Nat) (w:World) (hf:(Item.blk f ⟨false,fldL V.p bd,165,(0,0)⟩).holds w) (hA:A<W9) (hpW:V.p<W9):CF Tryz.prog 96 [Pz f,natV A] w (.bool (decide (A<V.p))):=by
  refine KV (N:=12) (rs:=[.tmp 4]) [.blk f ⟨false,fldL V.p bd,165,(0,0)⟩] Tryz.func96 rfl Tryz.ntmps96 Tryz.results96 (Nb rfl) ⟨hf,trivial⟩ rfl ?_
  refine KB (KA (oS (mB (fun b3=>?_))));refine oA (KC (KB (rD [] ?_)));refine aD 0 rfl dNa ?_;refine aM 1 ?_;refine aP 2 rfl (KF rfl) (aP 3 rfl (KE (o':=0) u165 rfl rfl rfl sz_33 dc) (aD 4 rfl (dL rfl (hv:=by exact Kh u33 rfl sz_33 rfl (KL _))) ?_));refine aO 5 rfl (cF rfl en_46 rfl (fun w hw=>KAz A V.p hA hpW w) ?_);refine aP 6 rfl (KG rfl rfl (cmp_lt)) (aA 7 ?_);refine aE (KN (eN (.cons rfl .nil) ?_))
  rfl
theorem KDT (V:Cv) (f bd A B:Nat) (w:World) (hf:(Item.blk f ⟨false,fldL V.p bd,165,(0,0)⟩).holds w) (hp:V.p<P521) (hA:A<V.p) (hB:B<V.p):CF Tryz.prog 82 [Pz f,natV A,natV B] w (natV ((A+B)%V.p)):=by
  have hpp:=w9_half hp
  have hW:A+B<W9:=by omega
  refine KV (N:=33) (rs:=[.cell 6 33]) [.blk f ⟨false,fldL V.p bd,165,(0,0)⟩] Tryz.func82 rfl Tryz.ntmps82 Tryz.results82 (Nb rfl) ⟨hf,trivial⟩ rfl ?_
  refine KB (KA (oS (mB (fun b4=>?_))));refine oS (mB (fun b5=>?_));refine oS (mk (KK zr_33) (fun b6=>?_));refine KC (KB (KA (oD dNa ?_)));refine oD dNa ?_;refine oS (cF rfl en_91 rfl (fun w hw=>c_nat_AddS A B w hW) ?_);refine oM ?_;refine oX ?_;refine oX ?_;refine oS (mk (KK zr_33) (fun b7=>?_));refine oT rfl rfl sz_33 ?_;refine oA (KC (KB (KB ?_)))
  rcases Nat.lt_or_ge (A+B) V.p with hl|hg
  ·
   refine rD [10] (aD 0 rfl dNa ?_);refine aM 1 ?_;refine aP 2 rfl (KF rfl) (aP 3 rfl (KE (o':=0) u165 rfl rfl rfl sz_33 dc) (aD 4 rfl (dL rfl (hv:=by exact Kh u33 rfl sz_33 rfl (KL _))) ?_));refine KAR ?_;refine Kl 9 rfl (.inl zr_33) (Nb rfl) rfl rfl rfl ?_;refine LAnyP.step 5 rfl rfl rfl (Nb rfl) kr rfl (Ke (first:=[]) rfl en_79 rfl (fun w hw=>c_nat_SubU (A+B) V.p w om hl)) ?_
   rintro _ _ ⟨rfl,rfl⟩
   refine pM 6 ?_;refine pP 7 rfl (Det.extract rfl rfl) (pP 8 rfl (Det.extract rfl rfl) (pE (fun b9=>?_)));refine Kv ?_;refine aL 10 rfl (sA rfl rfl sz_33 mO (hl:=mL) (h:=?_));refine aA 11 ?_;refine aE (KB (KA (oM (oM ?_))));refine oGM ?_;refine oGP (KJ (KAH rfl) (show _ = Value.bool false from rfl)) (oP (KT rfl rfl) (KC (KH rfl (KM (KB (KA (oD dNa ?_)))))));refine oT rfl rfl sz_33 ?_;refine KC (KN (eN (.cons ⟨_,_,_,rfl,mM,by exact KD u33 rfl sz_33⟩ .nil) ?_))
   rw [Nat.mod_eq_of_lt hl]
   rfl
  refine rD [10] (aD 0 rfl dNa ?_);refine aM 1 ?_;refine aP 2 rfl (KF rfl) (aP 3 rfl (KE (o':=0) u165 rfl rfl rfl sz_33 dc) (aD 4 rfl (dL rfl (hv:=by exact Kh u33 rfl sz_33 rfl (KL _))) ?_));refine KAR ?_;refine Kl 9 rfl (.inl zr_33) (Nb rfl) rfl rfl rfl ?_;refine LAnyP.step 5 rfl rfl rfl (Nb rfl) kr rfl (Ke (first:=[]) rfl en_79 rfl (fun w hw=>KCz (A+B) V.p w hW hg)) ?_
  rintro _ _ ⟨rfl,rfl⟩
  refine pM 6 ?_;refine pP 7 rfl (Det.extract rfl rfl) (pP 8 rfl (Det.extract rfl rfl) (pE (fun b9=>?_)));refine Kv ?_;refine aL 10 rfl (sA rfl rfl sz_33 mO (hl:=mL) (h:=?_));refine aA 11 ?_;refine aE (KB (KA (oM (oM ?_))));refine oGM ?_;refine oGP (KJ (KAH rfl) (show _ = Value.bool true from rfl)) (oP (KT rfl rfl) (KC (KS rfl (KB (KA (oD dNa ?_))))));refine oT rfl rfl sz_33 ?_;refine KC (KN (eN (.cons ⟨_,_,_,rfl,mM,by exact KD u33 rfl sz_33⟩ .nil) ?_))
  rw [Nat.mod_eq_sub_mod hg,Nat.mod_eq_of_lt om]
  rfl
theorem c_f_Sub (V:Cv) (f bd A B:Nat) (w:World) (hf:(Item.blk f ⟨false,fldL V.p bd,165,(0,0)⟩).holds w) (hp:V.p<P521) (hA:A<V.p) (hB:B<V.p):CF Tryz.prog 120 [Pz f,natV A,natV B] w (natV ((A+V.p-B)%V.p)):=by
  have hpp:=w9_half hp
  refine KV (N:=26) (rs:=[.cell 6 33]) [.blk f ⟨false,fldL V.p bd,165,(0,0)⟩] Tryz.func120 rfl Tryz.ntmps120 Tryz.results120 (Nb rfl) ⟨hf,trivial⟩ rfl ?_
  refine KB (KA (oS (mB (fun b4=>?_))));refine oS (mB (fun b5=>?_));refine oS (mk (KK zr_33) (fun b6=>?_));refine KC (KB ?_)
  rcases Nat.lt_or_ge A B with hl|hg
  ·
   refine KA (oD dNa ?_);refine oD dNa ?_;refine oS (cF rfl en_79 rfl (fun w hw=>c_nat_SubU A B w om hl) ?_);refine oM ?_;refine oX ?_;refine oX ?_;refine oS (mk (KK zr_33) (fun b7=>?_));refine oT rfl rfl sz_33 ?_;refine oA (KC (KB (KB (KA (oM (KC ?_))))));refine KS rfl (rD [9] (aD 0 rfl dNa ?_));refine aM 1 ?_;refine aP 2 rfl (KF rfl) (aP 3 rfl (KE (o':=0) u165 rfl rfl rfl sz_33 dc) (aD 4 rfl (dL rfl (hv:=by exact Kh u33 rfl sz_33 rfl (KL _))) ?_));refine aO 5 rfl (cF rfl en_91 rfl (fun w hw=>c_nat_Add (dif A B) V.p (dif_lt _ _) om w) ?_);refine aM 6 ?_;refine aP 7 rfl (Det.extract rfl rfl) (aP 8 rfl (Det.extract rfl rfl) (aL 9 rfl (sA rfl rfl sz_33 mO (hl:=mL) (h:=?_))));refine aE (KB (KA (oD dNa ?_)))
   refine oT rfl rfl sz_33 ?_;refine KC (KN (eN (.cons ⟨_,_,_,rfl,mM,by exact KD u33 rfl sz_33⟩ .nil) ?_))
   rw [dif_back om hB hl,Nat.mod_eq_of_lt (show A+V.p-B<V.p by omega)]
   rfl
  refine KA (oD dNa ?_);refine oD dNa ?_;refine oS (cF rfl en_79 rfl (fun w hw=>KCz A B w om hg) ?_);refine oM ?_;refine oX ?_;refine oX ?_;refine oS (mk (KK zr_33) (fun b7=>?_));refine oT rfl rfl sz_33 ?_;refine oA (KC (KB (KB (KA (oM (KC ?_))))));refine KH rfl (KM (KB (KA (oD dNa ?_))));refine oT rfl rfl sz_33 ?_;refine KC (KN (eN (.cons ⟨_,_,_,rfl,mM,by exact KD u33 rfl sz_33⟩ .nil) ?_))
  rw [show A+V.p-B = A-B+V.p by omega,Nat.add_mod_right,Nat.mod_eq_of_lt om]
  rfl
theorem c_f_Mul (V:Cv) (f bd A B:Nat) (w:World) (hf:(Item.blk f ⟨false,fldL V.p bd,165,(0,0)⟩).holds w) (hbd:(Item.blk bd ⟨false,dvL V.p,269,(0,0)⟩).holds w) (hp0:V.p≠0) (hpW:V.p<W9) (hA:A<W9) (hB:B<W9):CF Tryz.prog 97 [Pz f,natV A,natV B] w (natV (A*B%V.p)):=by
  refine KV (N:=14) (rs:=[.cell 6 33]) [.blk f ⟨false,fldL V.p bd,165,(0,0)⟩,.blk bd ⟨false,dvL V.p,269,(0,0)⟩] Tryz.func97 rfl Tryz.ntmps97 Tryz.results97 (Nb rfl) ⟨hf,hbd,trivial⟩ rfl ?_
  refine KB (KA (oS (mB (fun b4=>?_))));refine oS (mB (fun b5=>?_));refine oS (mk (KK zr_33) (fun b6=>?_));refine KC (KB (rD [7] (aM 0 ?_)));refine aP 1 rfl (KF rfl) (aP 2 rfl (KE (o':=9) u165 rfl rfl rfl KBo dc) (aD 3 rfl (dL rfl (hv:=by exact LoadV.last u163 rfl KBo rfl (KL _) rfl)) ?_));refine aD 4 rfl dNa ?_;refine aD 5 rfl dNa ?_;refine aO 6 rfl (cF rfl en_133 rfl (fun w hw=>c_Mul V.p A B bd hp0 hpW w (mC hw) hA hB) ?_);refine aL 7 rfl (sA rfl rfl sz_33 mO (hl:=mL) (h:=?_));refine aE (KN (eN (.cons ⟨_,_,_,rfl,mM,by exact KD u33 rfl sz_33⟩ .nil) ?_))
  rfl
theorem c_f_Inv (V:Cv) (f bd A:Nat) (w:World) (hf:(Item.blk f ⟨false,fldL V.p bd,165,(0,0)⟩).holds w) (hp0:V.p≠0) (hpW:V.p<W9) (hA:A<W9):CF Tryz.prog 121 [Pz f,natV A] w (natV (invM A V.p)):=by
  refine KV (N:=17) (rs:=[.cell 4 33]) [.blk f ⟨false,fldL V.p bd,165,(0,0)⟩] Tryz.func121 rfl Tryz.ntmps121 Tryz.results121 (Nb rfl) ⟨hf,trivial⟩ rfl ?_
  refine KB (KA (oS (mB (fun b3=>?_))));refine oS (mk (KK zr_33) (fun b4=>?_));refine KC (KB (rD [10] (aD 0 rfl dNa ?_)));refine aM 1 ?_;refine aP 2 rfl (KF rfl) (aP 3 rfl (KE (o':=0) u165 rfl rfl rfl sz_33 dc) (aD 4 rfl (dL rfl (hv:=by exact Kh u33 rfl sz_33 rfl (KL _))) ?_));refine KAR ?_;refine Kl 9 rfl (.inl zr_33) (Nb rfl) rfl rfl rfl ?_;refine LAnyP.step 5 rfl rfl rfl (Nb rfl) kr rfl (Ke (first:=[]) rfl en_146 rfl (fun w hw=>c_Inverse A V.p hp0 w hA hpW)) ?_
  rintro _ _ ⟨rfl,rfl⟩
  refine pM 6 ?_;refine pP 7 rfl (Det.extract rfl rfl) (pP 8 rfl (Det.extract rfl rfl) (pE (fun b5=>?_)));refine Kv ?_;refine aL 10 rfl (sA rfl rfl sz_33 mO (hl:=mL) (h:=?_));refine aA 11 ?_;refine aE (KB (KA (oD dNa ?_)));refine oT rfl rfl sz_33 ?_;refine KC (KN (eN (.cons ⟨_,_,_,rfl,mM,by exact KD u33 rfl sz_33⟩ .nil) ?_))
  rfl
def cvC (id:Nat) (p:Nat) (a:Nat) (b:Nat) (n:Nat) (gx gy:Nat) (inf:Bool) (bits:Nat) (size:Nat) (leg:Bool) (F:Value) (t3:Nat):List Value:=[Iz id]++(natL p++(natL a++(natL b++(natL n++(ptL gx gy inf++([Iz bits]++([Iz size]++([.bool leg]++([F]++(natL t3))))))))))
theorem cvC_at_id (id:Nat) (p:Nat) (a:Nat) (b:Nat) (n:Nat) (gx gy:Nat) (inf:Bool) (bits:Nat) (size:Nat) (leg:Bool) (F:Value) (t3:Nat):cvC id p a b n gx gy inf bits size leg F t3 = ([])++(([Iz id])++(natL p++(natL a++(natL b++(natL n++(ptL gx gy inf++([Iz bits]++([Iz size]++([.bool leg]++([F]++(natL t3))))))))))):=by simp only [cvC,List.append_assoc,List.append_nil,List.nil_append]
theorem cvC_len_id  : ([]:List Value).length = 0:=by simp [KL,KW]
theorem cvC_set_id (id:Nat) (p:Nat) (a:Nat) (b:Nat) (n:Nat) (gx gy:Nat) (inf:Bool) (bits:Nat) (size:Nat) (leg:Bool) (F:Value) (t3:Nat) (id':Nat):KAZ (cvC id p a b n gx gy inf bits size leg F t3) 0 ([Iz id']) = cvC id' p a b n gx gy inf bits size leg F t3:=KAf (cvC_at_id id p a b n gx gy inf bits size leg F t3) (cvC_len_id) (by simp [KL,KW]) (cvC_at_id id' p a b n gx gy inf bits size leg F t3)
theorem cvC_at_p (id:Nat) (p:Nat) (a:Nat) (b:Nat) (n:Nat) (gx gy:Nat) (inf:Bool) (bits:Nat) (size:Nat) (leg:Bool) (F:Value) (t3:Nat):cvC id p a b n gx gy inf bits size leg F t3 = ([Iz id])++((natL p)++(natL a++(natL b++(natL n++(ptL gx gy inf++([Iz bits]++([Iz size]++([.bool leg]++([F]++(natL t3)))))))))):=by simp only [cvC,List.append_assoc,List.append_nil,List.nil_append]
theorem cvC_len_p (id:Nat):([Iz id]:List Value).length = 1:=by simp [KL,KW]
theorem cvC_set_p (id:Nat) (p:Nat) (a:Nat) (b:Nat) (n:Nat) (gx gy:Nat) (inf:Bool) (bits:Nat) (size:Nat) (leg:Bool) (F:Value) (t3:Nat) (p':Nat):KAZ (cvC id p a b n gx gy inf bits size leg F t3) 1 (natL p') = cvC id p' a b n gx gy inf bits size leg F t3:=KAf (cvC_at_p id p a b n gx gy inf bits size leg F t3) (cvC_len_p id) (by simp [KL,KW]) (cvC_at_p id p' a b n gx gy inf bits size leg F t3)
theorem cvC_at_a (id:Nat) (p:Nat) (a:Nat) (b:Nat) (n:Nat) (gx gy:Nat) (inf:Bool) (bits:Nat) (size:Nat) (leg:Bool) (F:Value) (t3:Nat):cvC id p a b n gx gy inf bits size leg F t3 = ([Iz id]++(natL p))++((natL a)++(natL b++(natL n++(ptL gx gy inf++([Iz bits]++([Iz size]++([.bool leg]++([F]++(natL t3))))))))):=by simp only [cvC,List.append_assoc,List.append_nil,List.nil_append]
theorem cvC_len_a (id:Nat) (p:Nat):([Iz id]++(natL p):List Value).length = 10:=by simp [KL,KW]
theorem cvC_set_a (id:Nat) (p:Nat) (a:Nat) (b:Nat) (n:Nat) (gx gy:Nat) (inf:Bool) (bits:Nat) (size:Nat) (leg:Bool) (F:Value) (t3:Nat) (a':Nat):KAZ (cvC id p a b n gx gy inf bits size leg F t3) 10 (natL a') = cvC id p a' b n gx gy inf bits size leg F t3:=KAf (cvC_at_a id p a b n gx gy inf bits size leg F t3) (cvC_len_a id p) (by simp [KL,KW]) (cvC_at_a id p a' b n gx gy inf bits size leg F t3)
theorem cvC_at_b (id:Nat) (p:Nat) (a:Nat) (b:Nat) (n:Nat) (gx gy:Nat) (inf:Bool) (bits:Nat) (size:Nat) (leg:Bool) (F:Value) (t3:Nat):cvC id p a b n gx gy inf bits size leg F t3 = ([Iz id]++(natL p++(natL a)))++((natL b)++(natL n++(ptL gx gy inf++([Iz bits]++([Iz size]++([.bool leg]++([F]++(natL t3)))))))):=by simp only [cvC,List.append_assoc,List.append_nil,List.nil_append]
theorem cvC_len_b (id:Nat) (p:Nat) (a:Nat):([Iz id]++(natL p++(natL a)):List Value).length = 19:=by simp [KL,KW]
theorem cvC_set_b (id:Nat) (p:Nat) (a:Nat) (b:Nat) (n:Nat) (gx gy:Nat) (inf:Bool) (bits:Nat) (size:Nat) (leg:Bool) (F:Value) (t3:Nat) (b':Nat):KAZ (cvC id p a b n gx gy inf bits size leg F t3) 19 (natL b') = cvC id p a b' n gx gy inf bits size leg F t3:=KAf (cvC_at_b id p a b n gx gy inf bits size leg F t3) (cvC_len_b id p a) (by simp [KL,KW]) (cvC_at_b id p a b' n gx gy inf bits size leg F t3)
theorem cvC_at_n (id:Nat) (p:Nat) (a:Nat) (b:Nat) (n:Nat) (gx gy:Nat) (inf:Bool) (bits:Nat) (size:Nat) (leg:Bool) (F:Value) (t3:Nat):cvC id p a b n gx gy inf bits size leg F t3 = ([Iz id]++(natL p++(natL a++(natL b))))++((natL n)++(ptL gx gy inf++([Iz bits]++([Iz size]++([.bool leg]++([F]++(natL t3))))))):=by simp only [cvC,List.append_assoc,List.append_nil,List.nil_append]
theorem cvC_len_n (id:Nat) (p:Nat) (a:Nat) (b:Nat):([Iz id]++(natL p++(natL a++(natL b))):List Value).length = 28:=by simp [KL,KW]
theorem cvC_set_n (id:Nat) (p:Nat) (a:Nat) (b:Nat) (n:Nat) (gx gy:Nat) (inf:Bool) (bits:Nat) (size:Nat) (leg:Bool) (F:Value) (t3:Nat) (n':Nat):KAZ (cvC id p a b n gx gy inf bits size leg F t3) 28 (natL n') = cvC id p a b n' gx gy inf bits size leg F t3:=KAf (cvC_at_n id p a b n gx gy inf bits size leg F t3) (cvC_len_n id p a b) (by simp [KL,KW]) (cvC_at_n id p a b n' gx gy inf bits size leg F t3)
theorem cvC_at_g (id:Nat) (p:Nat) (a:Nat) (b:Nat) (n:Nat) (gx gy:Nat) (inf:Bool) (bits:Nat) (size:Nat) (leg:Bool) (F:Value) (t3:Nat):cvC id p a b n gx gy inf bits size leg F t3 = ([Iz id]++(natL p++(natL a++(natL b++(natL n)))))++((ptL gx gy inf)++([Iz bits]++([Iz size]++([.bool leg]++([F]++(natL t3)))))):=by simp only [cvC,List.append_assoc,List.append_nil,List.nil_append]
theorem cvC_len_g (id:Nat) (p:Nat) (a:Nat) (b:Nat) (n:Nat):([Iz id]++(natL p++(natL a++(natL b++(natL n)))):List Value).length = 37:=by simp [KL,KW]
theorem cvC_set_g (id:Nat) (p:Nat) (a:Nat) (b:Nat) (n:Nat) (gx gy:Nat) (inf:Bool) (bits:Nat) (size:Nat) (leg:Bool) (F:Value) (t3:Nat) (gx' gy':Nat) (inf':Bool):KAZ (cvC id p a b n gx gy inf bits size leg F t3) 37 (ptL gx' gy' inf') = cvC id p a b n gx' gy' inf' bits size leg F t3:=KAf (cvC_at_g id p a b n gx gy inf bits size leg F t3) (cvC_len_g id p a b n) (by simp [KL,KW]) (cvC_at_g id p a b n gx' gy' inf' bits size leg F t3)
theorem cvC_at_bits (id:Nat) (p:Nat) (a:Nat) (b:Nat) (n:Nat) (gx gy:Nat) (inf:Bool) (bits:Nat) (size:Nat) (leg:Bool) (F:Value) (t3:Nat):cvC id p a b n gx gy inf bits size leg F t3 = ([Iz id]++(natL p++(natL a++(natL b++(natL n++(ptL gx gy inf))))))++(([Iz bits])++([Iz size]++([.bool leg]++([F]++(natL t3))))):=by simp only [cvC,List.append_assoc,List.append_nil,List.nil_append]
theorem cvC_len_bits (id:Nat) (p:Nat) (a:Nat) (b:Nat) (n:Nat) (gx gy:Nat) (inf:Bool):([Iz id]++(natL p++(natL a++(natL b++(natL n++(ptL gx gy inf))))):List Value).length = 56:=by simp [KL,KW]
theorem cvC_set_bits (id:Nat) (p:Nat) (a:Nat) (b:Nat) (n:Nat) (gx gy:Nat) (inf:Bool) (bits:Nat) (size:Nat) (leg:Bool) (F:Value) (t3:Nat) (bits':Nat):KAZ (cvC id p a b n gx gy inf bits size leg F t3) 56 ([Iz bits']) = cvC id p a b n gx gy inf bits' size leg F t3:=KAf (cvC_at_bits id p a b n gx gy inf bits size leg F t3) (cvC_len_bits id p a b n gx gy inf) (by simp [KL,KW]) (cvC_at_bits id p a b n gx gy inf bits' size leg F t3)
theorem cvC_at_size (id:Nat) (p:Nat) (a:Nat) (b:Nat) (n:Nat) (gx gy:Nat) (inf:Bool) (bits:Nat) (size:Nat) (leg:Bool) (F:Value) (t3:Nat):cvC id p a b n gx gy inf bits size leg F t3 = ([Iz id]++(natL p++(natL a++(natL b++(natL n++(ptL gx gy inf++([Iz bits])))))))++(([Iz size])++([.bool leg]++([F]++(natL t3)))):=by simp only [cvC,List.append_assoc,List.append_nil,List.nil_append]
theorem cvC_len_size (id:Nat) (p:Nat) (a:Nat) (b:Nat) (n:Nat) (gx gy:Nat) (inf:Bool) (bits:Nat):([Iz id]++(natL p++(natL a++(natL b++(natL n++(ptL gx gy inf++([Iz bits])))))):List Value).length = 57:=by simp [KL,KW]
theorem cvC_set_size (id:Nat) (p:Nat) (a:Nat) (b:Nat) (n:Nat) (gx gy:Nat) (inf:Bool) (bits:Nat) (size:Nat) (leg:Bool) (F:Value) (t3:Nat) (size':Nat):KAZ (cvC id p a b n gx gy inf bits size leg F t3) 57 ([Iz size']) = cvC id p a b n gx gy inf bits size' leg F t3:=KAf (cvC_at_size id p a b n gx gy inf bits size leg F t3) (cvC_len_size id p a b n gx gy inf bits) (by simp [KL,KW]) (cvC_at_size id p a b n gx gy inf bits size' leg F t3)
theorem cvC_at_leg (id:Nat) (p:Nat) (a:Nat) (b:Nat) (n:Nat) (gx gy:Nat) (inf:Bool) (bits:Nat) (size:Nat) (leg:Bool) (F:Value) (t3:Nat):cvC id p a b n gx gy inf bits size leg F t3 = ([Iz id]++(natL p++(natL a++(natL b++(natL n++(ptL gx gy inf++([Iz bits]++([Iz size]))))))))++(([.bool leg])++([F]++(natL t3))):=by simp only [cvC,List.append_assoc,List.append_nil,List.nil_append]
theorem cvC_len_leg (id:Nat) (p:Nat) (a:Nat) (b:Nat) (n:Nat) (gx gy:Nat) (inf:Bool) (bits:Nat) (size:Nat):([Iz id]++(natL p++(natL a++(natL b++(natL n++(ptL gx gy inf++([Iz bits]++([Iz size]))))))):List Value).length = 58:=by simp [KL,KW]
theorem cvC_set_leg (id:Nat) (p:Nat) (a:Nat) (b:Nat) (n:Nat) (gx gy:Nat) (inf:Bool) (bits:Nat) (size:Nat) (leg:Bool) (F:Value) (t3:Nat) (leg':Bool):KAZ (cvC id p a b n gx gy inf bits size leg F t3) 58 ([.bool leg']) = cvC id p a b n gx gy inf bits size leg' F t3:=KAf (cvC_at_leg id p a b n gx gy inf bits size leg F t3) (cvC_len_leg id p a b n gx gy inf bits size) (by simp [KL,KW]) (cvC_at_leg id p a b n gx gy inf bits size leg' F t3)
theorem cvC_at_F (id:Nat) (p:Nat) (a:Nat) (b:Nat) (n:Nat) (gx gy:Nat) (inf:Bool) (bits:Nat) (size:Nat) (leg:Bool) (F:Value) (t3:Nat):cvC id p a b n gx gy inf bits size leg F t3 = ([Iz id]++(natL p++(natL a++(natL b++(natL n++(ptL gx gy inf++([Iz bits]++([Iz size]++([.bool leg])))))))))++(([F])++(natL t3)):=by simp only [cvC,List.append_assoc,List.append_nil,List.nil_append]
theorem cvC_len_F (id:Nat) (p:Nat) (a:Nat) (b:Nat) (n:Nat) (gx gy:Nat) (inf:Bool) (bits:Nat) (size:Nat) (leg:Bool):([Iz id]++(natL p++(natL a++(natL b++(natL n++(ptL gx gy inf++([Iz bits]++([Iz size]++([.bool leg])))))))):List Value).length = 59:=by simp [KL,KW]
theorem cvC_at_t3 (id:Nat) (p:Nat) (a:Nat) (b:Nat) (n:Nat) (gx gy:Nat) (inf:Bool) (bits:Nat) (size:Nat) (leg:Bool) (F:Value) (t3:Nat):cvC id p a b n gx gy inf bits size leg F t3 = ([Iz id]++(natL p++(natL a++(natL b++(natL n++(ptL gx gy inf++([Iz bits]++([Iz size]++([.bool leg]++([F]))))))))))++((natL t3)++([])):=by simp only [cvC,List.append_assoc,List.append_nil,List.nil_append]
theorem cvC_len_t3 (id:Nat) (p:Nat) (a:Nat) (b:Nat) (n:Nat) (gx gy:Nat) (inf:Bool) (bits:Nat) (size:Nat) (leg:Bool) (F:Value):([Iz id]++(natL p++(natL a++(natL b++(natL n++(ptL gx gy inf++([Iz bits]++([Iz size]++([.bool leg]++([F]))))))))):List Value).length = 60:=by simp [KL,KW]
theorem cvC_set_t3 (id:Nat) (p:Nat) (a:Nat) (b:Nat) (n:Nat) (gx gy:Nat) (inf:Bool) (bits:Nat) (size:Nat) (leg:Bool) (F:Value) (t3:Nat) (t3':Nat):KAZ (cvC id p a b n gx gy inf bits size leg F t3) 60 (natL t3') = cvC id p a b n gx gy inf bits size leg F t3':=KAf (cvC_at_t3 id p a b n gx gy inf bits size leg F t3) (cvC_len_t3 id p a b n gx gy inf bits size leg F) (by simp [KL,KW]) (cvC_at_t3 id p a b n gx gy inf bits size leg F t3')
theorem KAW (id:Nat) (p:Nat) (a:Nat) (b:Nat) (n:Nat) (gx gy:Nat) (inf:Bool) (bits:Nat) (size:Nat) (leg:Bool) (F:Value) (t3:Nat):(cvC id p a b n gx gy inf bits size leg F t3).length = 69:=by simp [cvC,KL,KW]
theorem cvC_zero:([Iz 0]++(vec .u64 9 (fun _=>0)++(vec .u64 9 (fun _=>0)++(vec .u64 9 (fun _=>0)++(vec .u64 9 (fun _=>0)++(vec .u64 9 (fun _=>0)++(vec .u64 9 (fun _=>0)++([Value.bool false,Iz 0,Iz 0,Value.bool false,Value.pointer none]++(vec .u64 9 (fun _=>0))))))))):List Value) = cvC 0 0 0 0 0 0 0 false 0 0 false (.pointer none) 0:=by
  simp only [cvC,natL,ptL,vec_zeros 9,List.append_assoc,List.cons_append,List.nil_append]
theorem fillF (F:Value) (h1:F.cells = #[F]):fillL [(0,59),(59,1),(60,9)] ([Iz 0]++(vec .u64 9 (fun _=>0)++(vec .u64 9 (fun _=>0)++(vec .u64 9 (fun _=>0)++(vec .u64 9 (fun _=>0)++(vec .u64 9 (fun _=>0)++(vec .u64 9 (fun _=>0)++([Value.bool false,Iz 0,Iz 0,Value.bool false,Value.pointer none]++(vec .u64 9 (fun _=>0))))))))) ) [(1,F)] = some (cvC 0 0 0 0 0 0 0 false 0 0 false F 0):=by
  rw [cvC_zero]
  refine KAK (cs:=[F]) rfl (by rw [h1]) rfl (cvC_at_F _ _ _ _ _ _ _ _ _ _ _ _ _) (cvC_len_F _ _ _ _ _ _ _ _ _ _ _) rfl ?_
  unfold fillL
  rw [cvC_at_F]
theorem cvC_ld_a (id:Nat) (p:Nat) (a:Nat) (b:Nat) (n:Nat) (gx gy:Nat) (inf:Bool) (bits:Nat) (size:Nat) (leg:Bool) (F:Value) (t3:Nat) (wr:Bool) (e:TypeId) (fz:Nat×Nat):LoadV Tryz.prog 33 ⟨wr,cvC id p a b n gx gy inf bits size leg F t3,e,fz⟩ 10 (.agg (natL a).toArray):=KAg u33 rfl sz_33 (cvC_at_a id p a b n gx gy inf bits size leg F t3) (cvC_len_a id p) (by simp [KL,KW])
theorem KBy (id:Nat) (p:Nat) (a:Nat) (b:Nat) (n:Nat) (gx gy:Nat) (inf:Bool) (bits:Nat) (size:Nat) (leg:Bool) (F:Value) (t3:Nat) (wr:Bool) (e:TypeId) (fz:Nat×Nat):LoadV Tryz.prog 33 ⟨wr,cvC id p a b n gx gy inf bits size leg F t3,e,fz⟩ 19 (.agg (natL b).toArray):=KAg u33 rfl sz_33 (cvC_at_b id p a b n gx gy inf bits size leg F t3) (cvC_len_b id p a) (by simp [KL,KW])
theorem KBB (id:Nat) (p:Nat) (a:Nat) (b:Nat) (n:Nat) (gx gy:Nat) (inf:Bool) (bits:Nat) (size:Nat) (leg:Bool) (F:Value) (t3:Nat) (wr:Bool) (e:TypeId) (fz:Nat×Nat):LoadV Tryz.prog 33 ⟨wr,cvC id p a b n gx gy inf bits size leg F t3,e,fz⟩ 28 (.agg (natL n).toArray):=KAg u33 rfl sz_33 (cvC_at_n id p a b n gx gy inf bits size leg F t3) (cvC_len_n id p a b) (by simp [KL,KW])
theorem cvC_ld_g (id:Nat) (p:Nat) (a:Nat) (b:Nat) (n:Nat) (gx gy:Nat) (inf:Bool) (bits:Nat) (size:Nat) (leg:Bool) (F:Value) (t3:Nat) (wr:Bool) (e:TypeId) (fz:Nat×Nat):LoadV Tryz.prog 47 ⟨wr,cvC id p a b n gx gy inf bits size leg F t3,e,fz⟩ 37 (.agg (ptL gx gy inf).toArray):=KAg u47 rfl sz_47 (cvC_at_g id p a b n gx gy inf bits size leg F t3) (cvC_len_g id p a b n) (by simp [KL,KW])
theorem KDH (id:Nat) (p:Nat) (a:Nat) (b:Nat) (n:Nat) (gx gy:Nat) (inf:Bool) (bits:Nat) (size:Nat) (leg:Bool) (F:Value) (t3:Nat):(cvC id p a b n gx gy inf bits size leg F t3)[56]? = some (Iz bits):=get_mid (cvC_at_bits id p a b n gx gy inf bits size leg F t3) (cvC_len_bits id p a b n gx gy inf)
theorem KAl (id:Nat) (p:Nat) (a:Nat) (b:Nat) (n:Nat) (gx gy:Nat) (inf:Bool) (bits:Nat) (size:Nat) (leg:Bool) (F:Value) (t3:Nat):(cvC id p a b n gx gy inf bits size leg F t3)[57]? = some (Iz size):=get_mid (cvC_at_size id p a b n gx gy inf bits size leg F t3) (cvC_len_size id p a b n gx gy inf bits)
theorem cvC_gt_leg (id:Nat) (p:Nat) (a:Nat) (b:Nat) (n:Nat) (gx gy:Nat) (inf:Bool) (bits:Nat) (size:Nat) (leg:Bool) (F:Value) (t3:Nat):(cvC id p a b n gx gy inf bits size leg F t3)[58]? = some (.bool leg):=get_mid (cvC_at_leg id p a b n gx gy inf bits size leg F t3) (cvC_len_leg id p a b n gx gy inf bits size)
theorem KAt (id:Nat) (p:Nat) (a:Nat) (b:Nat) (n:Nat) (gx gy:Nat) (inf:Bool) (bits:Nat) (size:Nat) (leg:Bool) (F:Value) (t3:Nat):(cvC id p a b n gx gy inf bits size leg F t3)[59]? = some (F):=get_mid (cvC_at_F id p a b n gx gy inf bits size leg F t3) (cvC_len_F id p a b n gx gy inf bits size leg)
theorem cvC_ld_t3 (id:Nat) (p:Nat) (a:Nat) (b:Nat) (n:Nat) (gx gy:Nat) (inf:Bool) (bits:Nat) (size:Nat) (leg:Bool) (F:Value) (t3:Nat) (wr:Bool) (e:TypeId) (fz:Nat×Nat):LoadV Tryz.prog 33 ⟨wr,cvC id p a b n gx gy inf bits size leg F t3,e,fz⟩ 60 (.agg (natL t3).toArray):=KAg u33 rfl sz_33 (cvC_at_t3 id p a b n gx gy inf bits size leg F t3) (cvC_len_t3 id p a b n gx gy inf bits size leg F) (by simp [KL,KW])
def rowsB (V:Cv) (s0 s1 s2 s3 s4:ByteArray):Bool:=(if s0.data.toList = [45,51] then Nat.beq (V.a+3) V.p else hexB s0 V.a) && hexB s1 V.b && hexB s2 V.n && hexB s3 V.x && hexB s4 V.y
theorem rowsB_spec {V:Cv} {s0 s1 s2 s3 s4:ByteArray} (h:rowsB V s0 s1 s2 s3 s4 = true):((s0.data.toList = [45,51]∧V.a+3 = V.p)∨(s0.data.toList≠[45,51]∧hexB s0 V.a = true))∧hexB s1 V.b = true∧hexB s2 V.n = true∧hexB s3 V.x = true∧hexB s4 V.y = true:=by
  simp only [rowsB,Bool.and_eq_true] at h
  obtain ⟨⟨⟨⟨h1,h2⟩,h3⟩,h4⟩,h5⟩:=h
  refine ⟨?_,h2,h3,h4,h5⟩
  split at h1
  · exact .inl ⟨by assumption,Nat.eq_of_beq_eq_true h1⟩
  · exact .inr ⟨by assumption,h1⟩
theorem c_rows (id:Int) (w:World) (hS:id = 1∨id = 3∨id = 7∨id = 13):Calls Tryz.prog 77 ([.int .i64 id]:List Value).toArray w (fun e w'=>∃ V,cvI id = some V∧∃ v,(∃ s0 s1 s2 s3 s4,v = .agg [.string s0,.string s1,.string s2,.string s3,.string s4].toArray∧rowsB V s0 s1 s2 s3 s4 = true)∧e = .returned v∧Below w.heap.size w w'):=by
  refine KV (N:=50) (rs:=[.cell 2 159]) [] Tryz.func77 rfl Tryz.ntmps77 Tryz.results77 (Nb rfl) trivial rfl ?_
  refine KB (KA (oS (mk (KK zr_159) (fun b2=>?_))));refine KC (KB (KB (KA (oM (KC (LCode.block (KB (KA ?_))))))));refine oP (KG (v:=.bool (decide (id = 1))) rfl rfl KAx) (oA (KC ?_))
  first|refine KQ rfl (fun hk1=>?_) (fun hk1=>?_)|refine KR rfl (fun hk1=>?_) (fun hk1=>?_)
  ·
   refine KB (KA (oP (Det.buildN (n:=5) pl_159 zr_159 rfl rfl rfl rfl rfl) ?_));refine LOps.step rfl (sA rfl rfl sz_159 (by repeat (first|exact Kz|refine Km rfl ?_)) (hl:=by rfl) (h:=?_));refine KC (KN (⟨[_],.cons ⟨_,_,_,rfl,mM,by exact KD u159 rfl sz_159⟩ .nil,fun a w' hr=>?_⟩))
   exact ⟨cv1,by rw [hk1]; rfl,_,⟨_,_,_,_,_,rfl,by kernel_rfl⟩,rfl,hr.fr.below⟩
  refine KB (KA (oP (KG (v:=.bool (decide (id = 2))) rfl rfl KAx) (oA (KC ?_))))
  first|refine KQ rfl (fun hk2=>?_) (fun hk2=>?_)|refine KR rfl (fun hk2=>?_) (fun hk2=>?_)
  ·
   exfalso; omega
  refine KB (KA (oP (KG (v:=.bool (decide (id = 3))) rfl rfl KAx) (oA (KC ?_))))
  first|refine KQ rfl (fun hk3=>?_) (fun hk3=>?_)|refine KR rfl (fun hk3=>?_) (fun hk3=>?_)
  ·
   refine KB (KA (oP (Det.buildN (n:=5) pl_159 zr_159 rfl rfl rfl rfl rfl) ?_));refine LOps.step rfl (sA rfl rfl sz_159 (by repeat (first|exact Kz|refine Km rfl ?_)) (hl:=by rfl) (h:=?_));refine KC (KN (⟨[_],.cons ⟨_,_,_,rfl,mM,by exact KD u159 rfl sz_159⟩ .nil,fun a w' hr=>?_⟩))
   exact ⟨cv3,by rw [hk3]; rfl,_,⟨_,_,_,_,_,rfl,by kernel_rfl⟩,rfl,hr.fr.below⟩
  refine KB (KA (oP (KG (v:=.bool (decide (id = 4))) rfl rfl KAx) (oA (KC ?_))))
  first|refine KQ rfl (fun hk4=>?_) (fun hk4=>?_)|refine KR rfl (fun hk4=>?_) (fun hk4=>?_)
  ·
   exfalso; omega
  refine KB (KA (oP (KG (v:=.bool (decide (id = 5))) rfl rfl KAx) (oA (KC ?_))))
  first|refine KQ rfl (fun hk5=>?_) (fun hk5=>?_)|refine KR rfl (fun hk5=>?_) (fun hk5=>?_)
  ·
   exfalso; omega
  refine KB (KA (oP (KG (v:=.bool (decide (id = 6))) rfl rfl KAx) (oA (KC ?_))))
  first|refine KQ rfl (fun hk6=>?_) (fun hk6=>?_)|refine KR rfl (fun hk6=>?_) (fun hk6=>?_)
  ·
   exfalso; omega
  refine KB (KA (oP (KG (v:=.bool (decide (id = 7))) rfl rfl KAx) (oA (KC ?_))))
  first|refine KQ rfl (fun hk7=>?_) (fun hk7=>?_)|refine KR rfl (fun hk7=>?_) (fun hk7=>?_)
  ·
   refine KB (KA (oP (Det.buildN (n:=5) pl_159 zr_159 rfl rfl rfl rfl rfl) ?_));refine LOps.step rfl (sA rfl rfl sz_159 (by repeat (first|exact Kz|refine Km rfl ?_)) (hl:=by rfl) (h:=?_));refine KC (KN (⟨[_],.cons ⟨_,_,_,rfl,mM,by exact KD u159 rfl sz_159⟩ .nil,fun a w' hr=>?_⟩))
   exact ⟨cv7,by rw [hk7]; rfl,_,⟨_,_,_,_,_,rfl,by kernel_rfl⟩,rfl,hr.fr.below⟩
  refine KB (KA (oP (KG (v:=.bool (decide (id = 8))) rfl rfl KAx) (oA (KC ?_))))
  first|refine KQ rfl (fun hk8=>?_) (fun hk8=>?_)|refine KR rfl (fun hk8=>?_) (fun hk8=>?_)
  ·
   exfalso; omega
  refine KB (KA (oP (KG (v:=.bool (decide (id = 9))) rfl rfl KAx) (oA (KC ?_))))
  first|refine KQ rfl (fun hk9=>?_) (fun hk9=>?_)|refine KR rfl (fun hk9=>?_) (fun hk9=>?_)
  ·
   exfalso; omega
  refine KB (KA (oP (KG (v:=.bool (decide (id = 10))) rfl rfl KAx) (oA (KC ?_))))
  first|refine KQ rfl (fun hk10=>?_) (fun hk10=>?_)|refine KR rfl (fun hk10=>?_) (fun hk10=>?_)
  ·
   exfalso; omega
  refine KB (KA (oP (KG (v:=.bool (decide (id = 11))) rfl rfl KAx) (oA (KC ?_))))
  first|refine KQ rfl (fun hk11=>?_) (fun hk11=>?_)|refine KR rfl (fun hk11=>?_) (fun hk11=>?_)
  ·
   exfalso; omega
  refine KB (KA (oP (KG (v:=.bool (decide (id = 12))) rfl rfl KAx) (oA (KC ?_))))
  first|refine KQ rfl (fun hk12=>?_) (fun hk12=>?_)|refine KR rfl (fun hk12=>?_) (fun hk12=>?_)
  ·
   exfalso; omega
  refine KB (KA (oP (KG (v:=.bool (decide (id = 13))) rfl rfl KAx) (oA (KC ?_))))
  first|refine KQ rfl (fun hk13=>?_) (fun hk13=>?_)|refine KR rfl (fun hk13=>?_) (fun hk13=>?_)
  ·
   refine KB (KA (oP (Det.buildN (n:=5) pl_159 zr_159 rfl rfl rfl rfl rfl) ?_));refine LOps.step rfl (sA rfl rfl sz_159 (by repeat (first|exact Kz|refine Km rfl ?_)) (hl:=by rfl) (h:=?_));refine KC (KN (⟨[_],.cons ⟨_,_,_,rfl,mM,by exact KD u159 rfl sz_159⟩ .nil,fun a w' hr=>?_⟩))
   exact ⟨cv13,by rw [hk13]; rfl,_,⟨_,_,_,_,_,rfl,by kernel_rfl⟩,rfl,hr.fr.below⟩
  refine KB (KA (oP (KG (v:=.bool (decide (id = 14))) rfl rfl KAx) (oA (KC ?_))))
  first|refine KQ rfl (fun hk14=>?_) (fun hk14=>?_)|refine KR rfl (fun hk14=>?_) (fun hk14=>?_)
  ·
   exfalso; omega
  refine KB (KA (oP (KG (v:=.bool (decide (id = 15))) rfl rfl KAx) (oA (KC ?_))))
  first|refine KQ rfl (fun hk15=>?_) (fun hk15=>?_)|refine KR rfl (fun hk15=>?_) (fun hk15=>?_)
  ·
   exfalso; omega
  exfalso; omega
theorem c_rows_some (id:Int) (V:Cv) (w:World) (h:cvI id = some V):Calls Tryz.prog 77 ([.int .i64 id]:List Value).toArray w (fun e w'=>∃ v,(∃ s0 s1 s2 s3 s4,v = .agg [.string s0,.string s1,.string s2,.string s3,.string s4].toArray∧rowsB V s0 s1 s2 s3 s4 = true)∧e = .returned v∧Below w.heap.size w w') :=
  (c_rows id w (cvI_small h)).mono fun e w' ⟨V',hV,h1⟩=>by rw [h] at hV; cases hV; exact h1
theorem KAM {A:Nat} (h:A<W9):blen A≤576:=by
  obtain ⟨k,hk⟩:∃ k:Nat,k = 9:=⟨9,rfl⟩
  have:=KBM (KBQ h k hk)
  omega
def legB (V:Cv):Bool:=decide (V.id = 1∨V.id = 7)
def thr (V:Cv):Nat:=((V.b+V.b)%V.p+V.b)%V.p
def opL (V:Cv) (f:Nat):List Value:=cvC V.id V.p V.a V.b V.n V.x V.y false (blen V.n) (nby V.p) (legB V) (Pz f) (thr V)
theorem fill_pt (X Y:Nat):fillL [(0,9),(9,9),(18,1)] (vec .u64 9 (fun _=>0)++(vec .u64 9 (fun _=>0)++[Value.bool false])) [(0,natV X),(1,natV Y)] = some (ptL X Y false):=by
  refine KAK (A:=[]) (B:=vec .u64 9 (fun _=>0)) (D:=vec .u64 9 (fun _=>0)++[Value.bool false]) (cs:=natL X) rfl rfl (KL _) rfl rfl (KU _ _ _) ?_;refine (KAK (A:=natL X) (B:=vec .u64 9 (fun _=>0)) (D:=[Value.bool false]) (cs:=natL Y) rfl rfl (KL _) (by simp) (KL _) (KU _ _ _) rfl).trans ?_
  simp [ptL]
theorem c_Open (id:Int) (V:Cv) (w:World) (h:cvI id = some V):Calls Tryz.prog 35 ([.int .i64 id]:List Value).toArray w (fun e w'=>∃ b f bd,e = .returned (Pz b)∧(Item.blk b ⟨false,opL V f,100,(0,0)⟩).holds w'∧(Item.blk f ⟨false,fldL V.p bd,165,(0,0)⟩).holds w'∧(Item.blk bd ⟨false,dvL V.p,269,(0,0)⟩).holds w'∧w.heap.size≤b∧w.heap.size≤f∧w.heap.size≤bd∧Below w.heap.size w w'):=by
  obtain ⟨hok,rfl⟩:=KAw h
  refine KV (N:=130) (rs:=[.tmp 2]) [] Tryz.func35 rfl Tryz.ntmps35 Tryz.results35 (Nb rfl) trivial rfl ?_
  refine KB (KA (oA (KC (KB (KA (oM ?_))))));refine oS (LStep.callZ (Post:=fun v its=>∃ f bd,v = Pz f∧its = [.blk f ⟨false,fldL V.p bd,165,(0,0)⟩,.blk bd ⟨false,dvL V.p,269,(0,0)⟩]∧w.heap.size≤f∧w.heap.size≤bd) (first:=[]) rfl en_76 rfl (Nb rfl) (fun w1 hw hs=>(c_f_Of _ V w1 h).mono fun e w' ⟨f,bd,h1,h2,h3,h4,h5,h6⟩=>⟨_,_,⟨f,bd,rfl,rfl,Nat.le_trans hs h4,Nat.le_trans hs h5⟩,h1,KDM h6 (by intro x hx; simp at hx; rcases hx with rfl|rfl; exact h2; exact h3) (by intro x hx; simp at hx; rcases hx with rfl|rfl <;> rfl) (by intro x hx k hk; simp at hx; rcases hx with rfl|rfl <;> simp [Item.fp] at hk <;> subst hk; exact .inl h4; exact .inl h5)⟩) ?_)
  rintro _ _ ⟨f,bd,rfl,rfl,hnf,hnbd⟩
  refine oA (KC (KB (KB (KA (oM ?_)))));refine oP (KJ (KAI u98 rfl rfl) (show _ = Value.bool false from rfl)) (KC (KH rfl (KM (KB ?_))))
  have hbb:=hok.bounds
  have hpW:V.p<W9:=Ks hbb.2.1
  have hnW:V.n<W9:=Ks hbb.2.2.2.2.2.2.1
  have hbln:=KAM hnW
  have hblp:=KAM hpW
  refine KA (oM ?_);refine oS (KDK (first:=[]) rfl en_77 rfl (Nb rfl) (fun w hw=>c_rows_some _ V w h) ?_)
  rintro _ ⟨s0,s1,s2,s3,s4,rfl,hrow⟩
  obtain ⟨hA,hB,hN,hX,hY⟩:=rowsB_spec hrow
  clear hrow
  refine oS (mk (KK zr_159) (fun b4=>?_));refine LOps.step rfl (sA rfl rfl sz_159 (by repeat (first|exact Kz|refine Km rfl ?_)) (hl:=by rfl) (h:=?_));refine KC (KB (KA (oM ?_)));refine oP (KJ (KX pl_100 zr_100 rfl (fillF (Pz f) rfl)) rfl) (oS (mB (fun b14=>?_)));refine oA (KC ?_);refine KCr (α:=Unit) (fun _=>True) (fun _=>⟨[(0,Iz V.id),(3,Pz f),(4,Pz b4),(5,Pz b14)],[.blk b14 ⟨true,cvC V.id V.p 0 V.b V.n 0 0 false 0 0 false (Pz f) 0,100,(0,0)⟩,.blk b4 ⟨true,[.string s0,.string s1,.string s2,.string s3,.string s4],159,(0,0)⟩,.blk f ⟨false,fldL V.p bd,165,(0,0)⟩,.blk bd ⟨false,dvL V.p,269,(0,0)⟩]⟩) ?_ ?_
  ·
   refine rD [18,22,26,30] (aM 0 ?_);refine aM 1 ?_;refine aM 2 ?_;refine aM 3 ?_;refine aM 4 ?_;refine aM 5 ?_;refine aP 6 rfl (KF rfl) (aP 7 rfl (KE (o':=0) u165 rfl rfl rfl sz_33 dc) (aD 8 rfl (dL rfl (hv:=by exact Kh u33 rfl sz_33 rfl (KL _))) ?_));refine aP 9 rfl (KE (o':=1) u159 rfl rfl rfl sz_9 dc) (aP 12 rfl (KE (o':=2) u159 rfl rfl rfl sz_9 dc) (KAq [11,14,15,16,17,18,19,20,21,22,23,24,25,26,27,28,29,30] 10 rfl kr (Nb rfl) (dL rfl (hv:=KI u9 rfl gL)) ?_));refine KAq [14,15,16,17,18,19,20,21,22,23,24,25,26,27,28,29,30] 13 rfl kr (Nb rfl) (dL rfl (hv:=KI u9 rfl gL)) ?_;refine aO 11 rfl (cF rfl en_78 rfl (fun w hw=>fhex s1 V.b w hB) ?_);refine aO 14 rfl (cF rfl en_78 rfl (fun w hw=>fhex s2 V.n w hN) ?_);refine aP 15 rfl (KF rfl) (aP 16 rfl (KE (o':=0) u100 rfl rfl rfl sz_53 dc) (aP 17 rfl (KE (o':=0) u53 rfl rfl rfl sz_3 dc) ?_))
   refine aL 18 rfl (Ko rfl rfl rfl sz_3 (by first|exact KL _|exact KW _ _ _|rfl) (by first|exact Kx _|exact KAB _ _ _|exact Km rfl Kz) mT (by simp only [KAW]; decide) (cvC_set_id _ _ _ _ _ _ _ _ _ _ _ _ _ _) (by simp) ?_);refine aP 19 rfl (KF rfl) (aP 20 rfl (KE (o':=0) u100 rfl rfl rfl sz_53 dc) (aP 21 rfl (KE (o':=1) u53 rfl rfl rfl sz_33 dc) ?_));refine aL 22 rfl (Ko rfl rfl rfl sz_33 (by first|exact KL _|exact KW _ _ _|rfl) (by first|exact Kx _|exact KAB _ _ _|exact Km rfl Kz) mT (by simp only [KAW]; decide) (cvC_set_p _ _ _ _ _ _ _ _ _ _ _ _ _ _) (by simp) ?_);refine aP 23 rfl (KF rfl) (aP 24 rfl (KE (o':=0) u100 rfl rfl rfl sz_53 dc) (aP 25 rfl (KE (o':=19) u53 rfl rfl rfl sz_33 dc) ?_));refine aL 26 rfl (Ko rfl rfl rfl sz_33 (by first|exact KL _|exact KW _ _ _|rfl) (by first|exact Kx _|exact KAB _ _ _|exact Km rfl Kz) mT (by simp only [KAW]; decide) (cvC_set_b _ _ _ _ _ _ _ _ _ _ _ _ _ _) (by simp) ?_)
   refine aP 27 rfl (KF rfl) (aP 28 rfl (KE (o':=0) u100 rfl rfl rfl sz_53 dc) (aP 29 rfl (KE (o':=28) u53 rfl rfl rfl sz_33 dc) ?_));refine aL 30 rfl (Ko rfl rfl rfl sz_33 (by first|exact KL _|exact KW _ _ _|rfl) (by first|exact Kx _|exact KAB _ _ _|exact Km rfl Kz) mT (by simp only [KAW]; decide) (cvC_set_n _ _ _ _ _ _ _ _ _ _ _ _ _ _) (by simp) ?_);refine aE ?_
   exact ⟨(),trivial,Ka ⟨rfl,rfl,rfl,rfl,trivial⟩ mS⟩
  rintro _ _
  refine KB (KB ?_)
  rcases hA with ⟨hA0,hVa⟩|⟨hA0,hA1⟩
  ·
   refine KA (oP (KE (o':=0) u159 rfl rfl rfl sz_9 dc) (oD (dL rfl (hv:=KI u9 rfl gL)) ?_));refine oP (KJ (KCU rfl rfl) (congrArg Value.bool (eq_str_t hA0))) (KC (KS rfl (rD [13] (aM 0 ?_))));refine aM 1 ?_;refine aP 2 rfl (KF rfl) (aP 3 rfl (KE (o':=0) u165 rfl rfl rfl sz_33 dc) (aD 4 rfl (dL rfl (hv:=by exact Kh u33 rfl sz_33 rfl (KL _))) ?_));refine aO 5 rfl (cF rfl en_80 rfl (fun w hw=>KAU 3 dc w) ?_);refine aO 6 rfl (cF rfl en_79 rfl (fun w hw=>KCz V.p 3 w om om) ?_);refine aM 7 ?_;refine aP 8 rfl (Det.extract rfl rfl) (aP 9 rfl (Det.extract rfl rfl) (aP 10 rfl (KF rfl) (aP 11 rfl (KE (o':=0) u100 rfl rfl rfl sz_53 dc) (aP 12 rfl (KE (o':=10) u53 rfl rfl rfl sz_33 dc) ?_))));refine aL 13 rfl (Ko rfl rfl rfl sz_33 (by first|exact KL _|exact KW _ _ _|rfl) (by first|exact Kx _|exact KAB _ _ _|exact Km rfl Kz) mT (by simp only [KAW]; decide) (cvC_set_a _ _ _ _ _ _ _ _ _ _ _ _ _ _) (by simp) ?_)
   refine aE (KB (rD [11] (aM 0 ?_)));refine aP 1 rfl (KE (o':=3) u159 rfl rfl rfl sz_9 dc) (aD 2 rfl (dL rfl (hv:=KI u9 rfl gL)) ?_);refine aP 4 rfl (KE (o':=4) u159 rfl rfl rfl sz_9 dc) (aD 5 rfl (dL rfl (hv:=KI u9 rfl gL)) ?_);refine aO 3 rfl (cF rfl en_78 rfl (fun w hw=>fhex s3 V.x w hX) ?_);refine aO 6 rfl (cF rfl en_78 rfl (fun w hw=>fhex s4 V.y w hY) ?_);refine aP 7 rfl (KJ (KX pl_47 zr_47 rfl (fill_pt _ _)) rfl) (aP 8 rfl (KF rfl) (aP 9 rfl (KE (o':=0) u100 rfl rfl rfl sz_53 dc) (aP 10 rfl (KE (o':=37) u53 rfl rfl rfl sz_47 dc) ?_)));refine aL 11 rfl (Ko rfl rfl rfl sz_47 (by first|exact KL _|exact KW _ _ _|rfl) (by first|exact Kx _|exact KAB _ _ _|exact Km rfl Kz) mT (by simp only [KAW]; decide) (cvC_set_g _ _ _ _ _ _ _ _ _ _ _ _ _ _ _ _) (by simp) ?_);refine aE (KB (rD [18,22] (aM 0 ?_)));refine aM 1 ?_
   refine aM 2 ?_;refine aP 3 rfl (KF rfl) (aP 4 rfl (KE (o':=0) u100 rfl rfl rfl sz_53 dc) (aP 5 rfl (KE (o':=28) u53 rfl rfl rfl sz_33 dc) (aD 6 rfl (dL rfl (hv:=by exact KBB _ _ _ _ _ _ _ _ _ _ _ _ _ _ _ _)) ?_)));refine aM 8 ?_;refine aP 9 rfl (KF rfl) (aP 10 rfl (KE (o':=0) u165 rfl rfl rfl sz_33 dc) (aD 11 rfl (dL rfl (hv:=by exact Kh u33 rfl sz_33 rfl (KL _))) ?_));refine aO 7 rfl (cF rfl en_81 rfl (fun w hw=>KBz V.n hnW w) ?_);refine aO 12 rfl (cF rfl en_81 rfl (fun w hw=>KBz V.p hpW w) ?_);refine aP 13 rfl (KG rfl rfl (Kj (b:=7) om)) (aP 14 rfl (KG rfl rfl (KDI (b:=8) om om)) (aP 15 rfl (KF rfl) (aP 16 rfl (KE (o':=0) u100 rfl rfl rfl sz_53 dc) (aP 17 rfl (KE (o':=56) u53 rfl rfl rfl sz_3 dc) ?_))));refine aL 18 rfl (Ko rfl rfl rfl sz_3 (by first|exact KL _|exact KW _ _ _|rfl) (by first|exact Kx _|exact KAB _ _ _|exact Km rfl Kz) mT (by simp only [KAW]; decide) (cvC_set_bits _ _ _ _ _ _ _ _ _ _ _ _ _ _) (by simp) ?_)
   refine aP 19 rfl (KF rfl) (aP 20 rfl (KE (o':=0) u100 rfl rfl rfl sz_53 dc) (aP 21 rfl (KE (o':=57) u53 rfl rfl rfl sz_3 dc) ?_));refine aL 22 rfl (Ko rfl rfl rfl sz_3 (by first|exact KL _|exact KW _ _ _|rfl) (by first|exact Kx _|exact KAB _ _ _|exact Km rfl Kz) mT (by simp only [KAW]; decide) (cvC_set_size _ _ _ _ _ _ _ _ _ _ _ _ _ _) (by simp) ?_);refine aE (KB ?_)
   by_cases hi1:((V.id:Nat):Int) = 1
   ·
    refine KA (oM (oM ?_));refine oP (bT rfl rfl KAx hi1) (oM ?_);refine oK (oK (oP (Kd rfl rfl) (oP (KF rfl) (oP (KE (o':=0) u100 rfl rfl rfl sz_53 dc) (oP (KE (o':=58) u53 rfl rfl rfl sz_4 dc) ?_)))));refine LOps.step rfl (Ko rfl rfl rfl sz_4 (by first|exact KL _|exact KW _ _ _|rfl) (by first|exact Kx _|exact KAB _ _ _|exact Km rfl Kz) mT (by simp only [KAW]; decide) (cvC_set_leg _ _ _ _ _ _ _ _ _ _ _ _ _ _) (by simp) ?_);refine KC (KB (rD [22] (aM 0 ?_)));refine aM 1 ?_;refine aM 2 ?_;refine aM 3 ?_;refine aP 4 rfl (KF rfl) (aP 5 rfl (KE (o':=0) u100 rfl rfl rfl sz_53 dc) (aP 6 rfl (KE (o':=19) u53 rfl rfl rfl sz_33 dc) (aD 7 rfl (dL rfl (hv:=by exact KBy _ _ _ _ _ _ _ _ _ _ _ _ _ _ _ _)) ?_)));refine aM 8 ?_;refine aP 9 rfl (KF rfl) (aP 10 rfl (KE (o':=0) u100 rfl rfl rfl sz_53 dc) (aP 11 rfl (KE (o':=19) u53 rfl rfl rfl sz_33 dc) (aD 12 rfl (dL rfl (hv:=by exact KBy _ _ _ _ _ _ _ _ _ _ _ _ _ _ _ _)) ?_)))
    refine aM 14 ?_;refine aP 15 rfl (KF rfl) (aP 16 rfl (KE (o':=0) u100 rfl rfl rfl sz_53 dc) (aP 17 rfl (KE (o':=19) u53 rfl rfl rfl sz_33 dc) (aD 18 rfl (dL rfl (hv:=by exact KBy _ _ _ _ _ _ _ _ _ _ _ _ _ _ _ _)) ?_)));refine aO 13 rfl (cF rfl en_82 rfl (fun w hw=>KDT V f bd V.b V.b w (mC hw) hbb.2.1 om om) ?_);refine aO 19 rfl (cF rfl en_82 rfl (fun w hw=>KDT V f bd ((V.b+V.b)%V.p) V.b w (mC hw) hbb.2.1 (Nat.mod_lt _ om) om) ?_);refine aP 20 rfl (KF rfl) (aP 21 rfl (KE (o':=60) u100 rfl rfl rfl sz_33 dc) ?_);refine aL 22 rfl (Ko rfl rfl rfl sz_33 (by first|exact KL _|exact KW _ _ _|rfl) (by first|exact Kx _|exact KAB _ _ _|exact Km rfl Kz) mT (by simp only [KAW]; decide) (cvC_set_t3 _ _ _ _ _ _ _ _ _ _ _ _ _ _) (by simp) ?_);refine aE (KB (KA (oM (oA (KC (KN ?_))))));refine ⟨[_],.cons rfl .nil,fun a w' hr=>⟨b14,f,bd,rfl,?_,hr.hp _ mM,hr.hp _ mM,hr.new (B:=⟨true,_,_,_⟩) mM rfl,hnf,hnbd,hr.fr.below⟩⟩
    have hcv:=hr.hp _ (show Item.blk b14 ⟨true,cvC V.id V.p (V.p-3) V.b V.n V.x V.y false (blen V.n) (nby V.p) true (Pz f) (thr V),100,(0,0)⟩∈_ from mM)
    have hl:legB V = true:=by unfold legB; exact decide_eq_true om
    have ha:V.a = V.p-3:=by omega
    rw [← ha] at hcv
    unfold opL
    rw [hl]
    exact hcv
   refine KA (oM (oM ?_));refine oP (bF rfl rfl KAx hi1) (oM ?_);refine oGM ?_;refine oGP (KG (v:=.bool (decide (((V.id:Nat):Int) = 7))) rfl rfl KAx) (oP (KT rfl rfl) (oP (KF rfl) (oP (KE (o':=0) u100 rfl rfl rfl sz_53 dc) (oP (KE (o':=58) u53 rfl rfl rfl sz_4 dc) ?_))));refine LOps.step rfl (Ko rfl rfl rfl sz_4 (by first|exact KL _|exact KW _ _ _|rfl) (by first|exact Kx _|exact KAB _ _ _|exact Km rfl Kz) mT (by simp only [KAW]; decide) (cvC_set_leg _ _ _ _ _ _ _ _ _ _ _ _ _ _) (by simp) ?_);refine KC (KB (rD [22] (aM 0 ?_)));refine aM 1 ?_;refine aM 2 ?_;refine aM 3 ?_;refine aP 4 rfl (KF rfl) (aP 5 rfl (KE (o':=0) u100 rfl rfl rfl sz_53 dc) (aP 6 rfl (KE (o':=19) u53 rfl rfl rfl sz_33 dc) (aD 7 rfl (dL rfl (hv:=by exact KBy _ _ _ _ _ _ _ _ _ _ _ _ _ _ _ _)) ?_)));refine aM 8 ?_;refine aP 9 rfl (KF rfl) (aP 10 rfl (KE (o':=0) u100 rfl rfl rfl sz_53 dc) (aP 11 rfl (KE (o':=19) u53 rfl rfl rfl sz_33 dc) (aD 12 rfl (dL rfl (hv:=by exact KBy _ _ _ _ _ _ _ _ _ _ _ _ _ _ _ _)) ?_)))
   refine aM 14 ?_;refine aP 15 rfl (KF rfl) (aP 16 rfl (KE (o':=0) u100 rfl rfl rfl sz_53 dc) (aP 17 rfl (KE (o':=19) u53 rfl rfl rfl sz_33 dc) (aD 18 rfl (dL rfl (hv:=by exact KBy _ _ _ _ _ _ _ _ _ _ _ _ _ _ _ _)) ?_)));refine aO 13 rfl (cF rfl en_82 rfl (fun w hw=>KDT V f bd V.b V.b w (mC hw) hbb.2.1 om om) ?_);refine aO 19 rfl (cF rfl en_82 rfl (fun w hw=>KDT V f bd ((V.b+V.b)%V.p) V.b w (mC hw) hbb.2.1 (Nat.mod_lt _ om) om) ?_);refine aP 20 rfl (KF rfl) (aP 21 rfl (KE (o':=60) u100 rfl rfl rfl sz_33 dc) ?_);refine aL 22 rfl (Ko rfl rfl rfl sz_33 (by first|exact KL _|exact KW _ _ _|rfl) (by first|exact Kx _|exact KAB _ _ _|exact Km rfl Kz) mT (by simp only [KAW]; decide) (cvC_set_t3 _ _ _ _ _ _ _ _ _ _ _ _ _ _) (by simp) ?_);refine aE (KB (KA (oM (oA (KC (KN ?_))))));refine ⟨[_],.cons rfl .nil,fun a w' hr=>⟨b14,f,bd,rfl,?_,hr.hp _ mM,hr.hp _ mM,hr.new (B:=⟨true,_,_,_⟩) mM rfl,hnf,hnbd,hr.fr.below⟩⟩
   have hcv:=hr.hp _ (show Item.blk b14 ⟨true,cvC V.id V.p (V.p-3) V.b V.n V.x V.y false (blen V.n) (nby V.p) (decide (((V.id:Nat):Int) = 7)) (Pz f) (thr V),100,(0,0)⟩∈_ from mM)
   have hl:legB V = (decide (((V.id:Nat):Int) = 7)):=by unfold legB; by_cases h7:V.id = 7 <;> simp [h7]; omega
   have ha:V.a = V.p-3:=by omega
   rw [← ha] at hcv
   unfold opL
   rw [hl]
   exact hcv
  refine KA (oP (KE (o':=0) u159 rfl rfl rfl sz_9 dc) (oD (dL rfl (hv:=KI u9 rfl gL)) ?_));refine oP (KJ (KCU rfl rfl) (congrArg Value.bool (eq_str_f hA0))) (KC (KH rfl (KA (oM ?_))));refine oP (KE (o':=0) u159 rfl rfl rfl sz_9 dc) (oD (dL rfl (hv:=KI u9 rfl gL)) ?_);refine oS (cF rfl en_78 rfl (fun w hw=>fhex s0 V.a w hA1) ?_);refine oP (KF rfl) (oP (KE (o':=0) u100 rfl rfl rfl sz_53 dc) (oP (KE (o':=10) u53 rfl rfl rfl sz_33 dc) ?_));refine LOps.step rfl (Ko rfl rfl rfl sz_33 (by first|exact KL _|exact KW _ _ _|rfl) (by first|exact Kx _|exact KAB _ _ _|exact Km rfl Kz) mT (by simp only [KAW]; decide) (cvC_set_a _ _ _ _ _ _ _ _ _ _ _ _ _ _) (by simp) ?_);refine KC (KB (rD [11] (aM 0 ?_)));refine aP 1 rfl (KE (o':=3) u159 rfl rfl rfl sz_9 dc) (aD 2 rfl (dL rfl (hv:=KI u9 rfl gL)) ?_)
  refine aP 4 rfl (KE (o':=4) u159 rfl rfl rfl sz_9 dc) (aD 5 rfl (dL rfl (hv:=KI u9 rfl gL)) ?_);refine aO 3 rfl (cF rfl en_78 rfl (fun w hw=>fhex s3 V.x w hX) ?_);refine aO 6 rfl (cF rfl en_78 rfl (fun w hw=>fhex s4 V.y w hY) ?_);refine aP 7 rfl (KJ (KX pl_47 zr_47 rfl (fill_pt _ _)) rfl) (aP 8 rfl (KF rfl) (aP 9 rfl (KE (o':=0) u100 rfl rfl rfl sz_53 dc) (aP 10 rfl (KE (o':=37) u53 rfl rfl rfl sz_47 dc) ?_)));refine aL 11 rfl (Ko rfl rfl rfl sz_47 (by first|exact KL _|exact KW _ _ _|rfl) (by first|exact Kx _|exact KAB _ _ _|exact Km rfl Kz) mT (by simp only [KAW]; decide) (cvC_set_g _ _ _ _ _ _ _ _ _ _ _ _ _ _ _ _) (by simp) ?_);refine aE (KB (rD [18,22] (aM 0 ?_)));refine aM 1 ?_;refine aM 2 ?_;refine aP 3 rfl (KF rfl) (aP 4 rfl (KE (o':=0) u100 rfl rfl rfl sz_53 dc) (aP 5 rfl (KE (o':=28) u53 rfl rfl rfl sz_33 dc) (aD 6 rfl (dL rfl (hv:=by exact KBB _ _ _ _ _ _ _ _ _ _ _ _ _ _ _ _)) ?_)))
  refine aM 8 ?_;refine aP 9 rfl (KF rfl) (aP 10 rfl (KE (o':=0) u165 rfl rfl rfl sz_33 dc) (aD 11 rfl (dL rfl (hv:=by exact Kh u33 rfl sz_33 rfl (KL _))) ?_));refine aO 7 rfl (cF rfl en_81 rfl (fun w hw=>KBz V.n hnW w) ?_);refine aO 12 rfl (cF rfl en_81 rfl (fun w hw=>KBz V.p hpW w) ?_);refine aP 13 rfl (KG rfl rfl (Kj (b:=7) om)) (aP 14 rfl (KG rfl rfl (KDI (b:=8) om om)) (aP 15 rfl (KF rfl) (aP 16 rfl (KE (o':=0) u100 rfl rfl rfl sz_53 dc) (aP 17 rfl (KE (o':=56) u53 rfl rfl rfl sz_3 dc) ?_))));refine aL 18 rfl (Ko rfl rfl rfl sz_3 (by first|exact KL _|exact KW _ _ _|rfl) (by first|exact Kx _|exact KAB _ _ _|exact Km rfl Kz) mT (by simp only [KAW]; decide) (cvC_set_bits _ _ _ _ _ _ _ _ _ _ _ _ _ _) (by simp) ?_);refine aP 19 rfl (KF rfl) (aP 20 rfl (KE (o':=0) u100 rfl rfl rfl sz_53 dc) (aP 21 rfl (KE (o':=57) u53 rfl rfl rfl sz_3 dc) ?_))
  refine aL 22 rfl (Ko rfl rfl rfl sz_3 (by first|exact KL _|exact KW _ _ _|rfl) (by first|exact Kx _|exact KAB _ _ _|exact Km rfl Kz) mT (by simp only [KAW]; decide) (cvC_set_size _ _ _ _ _ _ _ _ _ _ _ _ _ _) (by simp) ?_);refine aE (KB ?_)
  by_cases hi1:((V.id:Nat):Int) = 1
  ·
   refine KA (oM (oM ?_));refine oP (bT rfl rfl KAx hi1) (oM ?_);refine oK (oK (oP (Kd rfl rfl) (oP (KF rfl) (oP (KE (o':=0) u100 rfl rfl rfl sz_53 dc) (oP (KE (o':=58) u53 rfl rfl rfl sz_4 dc) ?_)))));refine LOps.step rfl (Ko rfl rfl rfl sz_4 (by first|exact KL _|exact KW _ _ _|rfl) (by first|exact Kx _|exact KAB _ _ _|exact Km rfl Kz) mT (by simp only [KAW]; decide) (cvC_set_leg _ _ _ _ _ _ _ _ _ _ _ _ _ _) (by simp) ?_);refine KC (KB (rD [22] (aM 0 ?_)));refine aM 1 ?_;refine aM 2 ?_;refine aM 3 ?_;refine aP 4 rfl (KF rfl) (aP 5 rfl (KE (o':=0) u100 rfl rfl rfl sz_53 dc) (aP 6 rfl (KE (o':=19) u53 rfl rfl rfl sz_33 dc) (aD 7 rfl (dL rfl (hv:=by exact KBy _ _ _ _ _ _ _ _ _ _ _ _ _ _ _ _)) ?_)));refine aM 8 ?_;refine aP 9 rfl (KF rfl) (aP 10 rfl (KE (o':=0) u100 rfl rfl rfl sz_53 dc) (aP 11 rfl (KE (o':=19) u53 rfl rfl rfl sz_33 dc) (aD 12 rfl (dL rfl (hv:=by exact KBy _ _ _ _ _ _ _ _ _ _ _ _ _ _ _ _)) ?_)))
   refine aM 14 ?_;refine aP 15 rfl (KF rfl) (aP 16 rfl (KE (o':=0) u100 rfl rfl rfl sz_53 dc) (aP 17 rfl (KE (o':=19) u53 rfl rfl rfl sz_33 dc) (aD 18 rfl (dL rfl (hv:=by exact KBy _ _ _ _ _ _ _ _ _ _ _ _ _ _ _ _)) ?_)));refine aO 13 rfl (cF rfl en_82 rfl (fun w hw=>KDT V f bd V.b V.b w (mC hw) hbb.2.1 om om) ?_);refine aO 19 rfl (cF rfl en_82 rfl (fun w hw=>KDT V f bd ((V.b+V.b)%V.p) V.b w (mC hw) hbb.2.1 (Nat.mod_lt _ om) om) ?_);refine aP 20 rfl (KF rfl) (aP 21 rfl (KE (o':=60) u100 rfl rfl rfl sz_33 dc) ?_);refine aL 22 rfl (Ko rfl rfl rfl sz_33 (by first|exact KL _|exact KW _ _ _|rfl) (by first|exact Kx _|exact KAB _ _ _|exact Km rfl Kz) mT (by simp only [KAW]; decide) (cvC_set_t3 _ _ _ _ _ _ _ _ _ _ _ _ _ _) (by simp) ?_);refine aE (KB (KA (oM (oA (KC (KN ?_))))));refine ⟨[_],.cons rfl .nil,fun a w' hr=>⟨b14,f,bd,rfl,?_,hr.hp _ mM,hr.hp _ mM,hr.new (B:=⟨true,_,_,_⟩) mM rfl,hnf,hnbd,hr.fr.below⟩⟩
   have hcv:=hr.hp _ (show Item.blk b14 ⟨true,cvC V.id V.p V.a V.b V.n V.x V.y false (blen V.n) (nby V.p) true (Pz f) (thr V),100,(0,0)⟩∈_ from mM)
   have hl:legB V = true:=by unfold legB; exact decide_eq_true om
   unfold opL
   rw [hl]
   exact hcv
  refine KA (oM (oM ?_));refine oP (bF rfl rfl KAx hi1) (oM ?_);refine oGM ?_;refine oGP (KG (v:=.bool (decide (((V.id:Nat):Int) = 7))) rfl rfl KAx) (oP (KT rfl rfl) (oP (KF rfl) (oP (KE (o':=0) u100 rfl rfl rfl sz_53 dc) (oP (KE (o':=58) u53 rfl rfl rfl sz_4 dc) ?_))));refine LOps.step rfl (Ko rfl rfl rfl sz_4 (by first|exact KL _|exact KW _ _ _|rfl) (by first|exact Kx _|exact KAB _ _ _|exact Km rfl Kz) mT (by simp only [KAW]; decide) (cvC_set_leg _ _ _ _ _ _ _ _ _ _ _ _ _ _) (by simp) ?_);refine KC (KB (rD [22] (aM 0 ?_)));refine aM 1 ?_;refine aM 2 ?_;refine aM 3 ?_;refine aP 4 rfl (KF rfl) (aP 5 rfl (KE (o':=0) u100 rfl rfl rfl sz_53 dc) (aP 6 rfl (KE (o':=19) u53 rfl rfl rfl sz_33 dc) (aD 7 rfl (dL rfl (hv:=by exact KBy _ _ _ _ _ _ _ _ _ _ _ _ _ _ _ _)) ?_)));refine aM 8 ?_;refine aP 9 rfl (KF rfl) (aP 10 rfl (KE (o':=0) u100 rfl rfl rfl sz_53 dc) (aP 11 rfl (KE (o':=19) u53 rfl rfl rfl sz_33 dc) (aD 12 rfl (dL rfl (hv:=by exact KBy _ _ _ _ _ _ _ _ _ _ _ _ _ _ _ _)) ?_)))
  refine aM 14 ?_;refine aP 15 rfl (KF rfl) (aP 16 rfl (KE (o':=0) u100 rfl rfl rfl sz_53 dc) (aP 17 rfl (KE (o':=19) u53 rfl rfl rfl sz_33 dc) (aD 18 rfl (dL rfl (hv:=by exact KBy _ _ _ _ _ _ _ _ _ _ _ _ _ _ _ _)) ?_)));refine aO 13 rfl (cF rfl en_82 rfl (fun w hw=>KDT V f bd V.b V.b w (mC hw) hbb.2.1 om om) ?_);refine aO 19 rfl (cF rfl en_82 rfl (fun w hw=>KDT V f bd ((V.b+V.b)%V.p) V.b w (mC hw) hbb.2.1 (Nat.mod_lt _ om) om) ?_);refine aP 20 rfl (KF rfl) (aP 21 rfl (KE (o':=60) u100 rfl rfl rfl sz_33 dc) ?_);refine aL 22 rfl (Ko rfl rfl rfl sz_33 (by first|exact KL _|exact KW _ _ _|rfl) (by first|exact Kx _|exact KAB _ _ _|exact Km rfl Kz) mT (by simp only [KAW]; decide) (cvC_set_t3 _ _ _ _ _ _ _ _ _ _ _ _ _ _) (by simp) ?_);refine aE (KB (KA (oM (oA (KC (KN ?_))))));refine ⟨[_],.cons rfl .nil,fun a w' hr=>⟨b14,f,bd,rfl,?_,hr.hp _ mM,hr.hp _ mM,hr.new (B:=⟨true,_,_,_⟩) mM rfl,hnf,hnbd,hr.fr.below⟩⟩
  have hcv:=hr.hp _ (show Item.blk b14 ⟨true,cvC V.id V.p V.a V.b V.n V.x V.y false (blen V.n) (nby V.p) (decide (((V.id:Nat):Int) = 7)) (Pz f) (thr V),100,(0,0)⟩∈_ from mM)
  have hl:legB V = (decide (((V.id:Nat):Int) = 7)):=by unfold legB; by_cases h7:V.id = 7 <;> simp [h7]; omega
  unfold opL
  rw [hl]
  exact hcv
theorem c_cBytes (V:Cv) (b f:Nat) (w:World) (hb:(Item.blk b ⟨false,opL V f,100,(0,0)⟩).holds w) (hbl:blen V.n≤576):CF Tryz.prog 48 [Pz b] w (Iz (nby V.n)):=by
  refine KV (N:=10) (rs:=[.tmp 2]) [.blk b ⟨false,opL V f,100,(0,0)⟩] Tryz.func48 rfl Tryz.ntmps48 Tryz.results48 (Nb rfl) ⟨hb,trivial⟩ rfl ?_
  refine KB (KA (oP (KO (v:=Iz 0) rfl) (KC (KB (KA (oM ?_))))));refine oP (KF rfl) (oP (KE (o':=0) u100 rfl rfl rfl sz_53 dc) (oP (KE (o':=56) u53 rfl rfl rfl sz_3 dc) (oD (dL rfl (hv:=KI u3 rfl (by exact KDH _ _ _ _ _ _ _ _ _ _ _ _ _))) ?_)));refine oP (KG rfl rfl (Kj (b:=7) om)) (oP (KG rfl rfl (KDI (b:=8) om om)) (oA (KC (KN ?_))));refine eN (.cons rfl .nil) ?_
  rfl
theorem oOpen {C : Ctx} {T : List (Nat × Value)} {H : List Item} {d : Nat} {ty : TypeId} {pos : String} {aft : Array Edge} {g : Option (Nat × Bool)} {x : Operand} {xs : List Operand} {ats : Array TypeId} {K : St → Prop} {id : Int} {V : Cv} (h : cvI id = some V)
    (hf:evT T x = some (.func (.func 35) #[] #[])) (ha:evL T xs = some [.int .i64 id]) (hk:∀ b f bd,K ⟨(d,Pz b) :: T,.blk b ⟨false,opL V f,100,(0,0)⟩ :: .blk f ⟨false,fldL V.p bd,165,(0,0)⟩ :: .blk bd ⟨false,dvL V.p,269,(0,0)⟩ :: H⟩) (hd:d<C.N:=by exact Nb rfl) :
    LStep Tryz.prog C ⟨some d,.call { callee:=.value x,args:=xs.toArray,argTypes:=ats },ty,pos,aft,g⟩ ⟨T,H⟩ K:=by
  refine LStep.callZ (Post:=fun v its=>∃ b f bd,v = Pz b∧its = [.blk b ⟨false,opL V f,100,(0,0)⟩,.blk f ⟨false,fldL V.p bd,165,(0,0)⟩,.blk bd ⟨false,dvL V.p,269,(0,0)⟩]) (first:=[]) hf en_35 ha hd (fun w1 hw hs=>(c_Open _ V w1 h).mono fun e w' ⟨b,f,bd,h1,h2,h3,h4,h5,h6,h7,h8⟩=>⟨_,_,⟨b,f,bd,rfl,rfl⟩,h1,KDM h8 (by intro x hx; simp at hx; rcases hx with rfl|rfl|rfl; exact h2; exact h3; exact h4) (by intro x hx; simp at hx; rcases hx with rfl|rfl|rfl <;> rfl) (by intro x hx k hk; simp at hx; rcases hx with rfl|rfl|rfl <;> simp [Item.fp] at hk <;> subst hk; exact .inl h5; exact .inl h6; exact .inl h7)⟩) ?_
  rintro _ _ ⟨b,f,bd,rfl,rfl⟩
  exact hk b f bd
theorem c_raw_Put (id:Int) (V:Cv) (R T:Nat) (w:World) (h:cvI id = some V) (hR:R<W9) (hT:T<W9):CF Tryz.prog 16 [.int .i64 id,sgV R T] w (rawPut V R T):=by
  obtain ⟨hok,hid⟩:=KAw h
  have hbb:=hok.bounds
  have hpW:V.p<W9:=Ks hbb.2.1
  have hnW:V.n<W9:=Ks hbb.2.2.2.2.2.2.1
  have hbl:=KAM hnW
  have hnb:nby V.n≤72:=by (unfold nby; omega)
  refine KV (N:=56) (rs:=[.tmp 4,.tmp 5]) [] Tryz.func16 rfl Tryz.ntmps16 Tryz.results16 (Nb rfl) trivial rfl ?_
  refine KB (KA (oS (mB (fun b3=>?_))));refine oA ?_;refine oP (KO (v:=Iz 0) rfl) (KC (KB (KA (oM ?_))));refine oS (oOpen h rfl rfl (fun b f bd=>?_));refine oA (KC (KB (LCode.block (KB (KA (oM ?_))))));refine oP (KJ (KAI u81 rfl rfl) (show _ = Value.bool false from rfl)) (oA (KC ?_));refine KH rfl (KB ?_)
  rcases (show V.n≤R∨(R<V.n∧V.n≤T)∨(R<V.n∧T<V.n) by omega) with hg|⟨hl,hg⟩|⟨hl,hl2⟩
  ·
   refine rD [] (aP 0 rfl (KE (o':=0) u37 rfl rfl rfl sz_33 dc) (aD 1 rfl (dL rfl (hv:=by exact Kh u33 rfl sz_33 rfl (KL _))) ?_));refine aM 2 ?_;refine aP 3 rfl (KF rfl) (aP 4 rfl (KE (o':=0) u100 rfl rfl rfl sz_53 dc) (aP 5 rfl (KE (o':=28) u53 rfl rfl rfl sz_33 dc) (aD 6 rfl (dL rfl (hv:=by exact KBB _ _ _ _ _ _ _ _ _ _ _ _ _ _ _ _)) ?_)));refine aO 7 rfl (cF rfl en_46 rfl (fun w hw=>KAz R V.n hR hnW w) ?_);refine aP 8 rfl (KG (v:=.bool true) rfl rfl (cmp_ge_t hg)) (aM 9 ?_);refine aK 10 ?_;refine aK 11 ?_;refine aK 12 ?_;refine aK 13 ?_;refine aK 14 ?_;refine aK 15 ?_;refine aK 16 ?_;refine aK 17 ?_;refine aK 18 ?_;refine aP 19 rfl (Kd rfl rfl) (aA 20 ?_);refine aE (KS rfl (KB (KA (oA ?_))));refine oP (KO (v:=Iz 2302) rfl) (KC (KN (eN (.cons rfl (.cons rfl .nil)) ?_)))
   unfold rawPut
   rw [if_pos (.inl hg)]
   rfl
  ·
   refine rD [] (aP 0 rfl (KE (o':=0) u37 rfl rfl rfl sz_33 dc) (aD 1 rfl (dL rfl (hv:=by exact Kh u33 rfl sz_33 rfl (KL _))) ?_));refine aM 2 ?_;refine aP 3 rfl (KF rfl) (aP 4 rfl (KE (o':=0) u100 rfl rfl rfl sz_53 dc) (aP 5 rfl (KE (o':=28) u53 rfl rfl rfl sz_33 dc) (aD 6 rfl (dL rfl (hv:=by exact KBB _ _ _ _ _ _ _ _ _ _ _ _ _ _ _ _)) ?_)));refine aO 7 rfl (cF rfl en_46 rfl (fun w hw=>KAz R V.n hR hnW w) ?_);refine aP 8 rfl (KG (v:=.bool false) rfl rfl (cmp_ge_f hl)) (aM 9 ?_);refine aGP 10 rfl (KE (o':=9) u37 rfl rfl rfl sz_33 dc) (aGD 11 rfl (dL rfl (hv:=by exact LoadV.last u33 rfl sz_33 rfl (KL _) (KL _))) ?_);refine aGM 12 ?_;refine aGP 13 rfl (KF rfl) (aGP 14 rfl (KE (o':=0) u100 rfl rfl rfl sz_53 dc) (aGP 15 rfl (KE (o':=28) u53 rfl rfl rfl sz_33 dc) (aGD 16 rfl (dL rfl (hv:=by exact KBB _ _ _ _ _ _ _ _ _ _ _ _ _ _ _ _)) ?_)))
   refine aGO 17 rfl (cF rfl en_46 rfl (fun w hw=>KAz T V.n hT hnW w) ?_);refine aGP 18 rfl (KG (v:=.bool true) rfl rfl (cmp_ge_t hg)) (aP 19 rfl (KT rfl rfl) (aA 20 ?_));refine aE (KS rfl (KB (KA (oA ?_))));refine oP (KO (v:=Iz 2302) rfl) (KC (KN (eN (.cons rfl (.cons rfl .nil)) ?_)))
   unfold rawPut
   rw [if_pos (.inr hg)]
   rfl
  refine rD [] (aP 0 rfl (KE (o':=0) u37 rfl rfl rfl sz_33 dc) (aD 1 rfl (dL rfl (hv:=by exact Kh u33 rfl sz_33 rfl (KL _))) ?_));refine aM 2 ?_;refine aP 3 rfl (KF rfl) (aP 4 rfl (KE (o':=0) u100 rfl rfl rfl sz_53 dc) (aP 5 rfl (KE (o':=28) u53 rfl rfl rfl sz_33 dc) (aD 6 rfl (dL rfl (hv:=by exact KBB _ _ _ _ _ _ _ _ _ _ _ _ _ _ _ _)) ?_)));refine aO 7 rfl (cF rfl en_46 rfl (fun w hw=>KAz R V.n hR hnW w) ?_);refine aP 8 rfl (KG (v:=.bool false) rfl rfl (cmp_ge_f hl)) (aM 9 ?_);refine aGP 10 rfl (KE (o':=9) u37 rfl rfl rfl sz_33 dc) (aGD 11 rfl (dL rfl (hv:=by exact LoadV.last u33 rfl sz_33 rfl (KL _) (KL _))) ?_);refine aGM 12 ?_;refine aGP 13 rfl (KF rfl) (aGP 14 rfl (KE (o':=0) u100 rfl rfl rfl sz_53 dc) (aGP 15 rfl (KE (o':=28) u53 rfl rfl rfl sz_33 dc) (aGD 16 rfl (dL rfl (hv:=by exact KBB _ _ _ _ _ _ _ _ _ _ _ _ _ _ _ _)) ?_)))
  refine aGO 17 rfl (cF rfl en_46 rfl (fun w hw=>KAz T V.n hT hnW w) ?_);refine aGP 18 rfl (KG (v:=.bool false) rfl rfl (cmp_ge_f hl2)) (aP 19 rfl (KT rfl rfl) (aA 20 ?_));refine aE (KH rfl (KM (KB (rD [] (aP 0 rfl (KE (o':=0) u37 rfl rfl rfl sz_33 dc) (aD 1 rfl (dL rfl (hv:=by exact Kh u33 rfl sz_33 rfl (KL _))) ?_))))));refine aM 2 ?_;refine aO 3 rfl (cF rfl en_48 rfl (fun w hw=>c_cBytes V b f w (mC hw) hbl) ?_);refine aO 4 rfl (cF rfl en_47 rfl (fun w hw=>KBg R (nby V.n) w om hnb (nby_le hl)) ?_);refine aM 5 ?_;refine aP 6 rfl (Det.extract rfl rfl) (aP 7 rfl (Det.extract rfl rfl) (aA 8 ?_));refine aA 9 ?_;refine aE (KB (rD [] (aP 0 rfl (KE (o':=9) u37 rfl rfl rfl sz_33 dc) (aD 1 rfl (dL rfl (hv:=by exact LoadV.last u33 rfl sz_33 rfl (KL _) (KL _))) ?_))));refine aM 2 ?_;refine aO 3 rfl (cF rfl en_48 rfl (fun w hw=>c_cBytes V b f w (mC hw) hbl) ?_)
  refine aO 4 rfl (cF rfl en_47 rfl (fun w hw=>KBg T (nby V.n) w om hnb (nby_le hl2)) ?_);refine aM 5 ?_;refine aP 6 rfl (Det.extract rfl rfl) (aP 7 rfl (Det.extract rfl rfl) (aA 8 ?_));refine aA 9 ?_;refine aE (KB (KA (oM (oM ?_))));refine oP (KAh rfl rfl (by have h1:=KAs (nby V.n) R; have h2:=KAs (nby V.n) T; omega)) ?_;refine oA ?_;refine oP (KO (v:=Iz 0) rfl) (KC (KN (eN (.cons rfl (.cons rfl .nil)) ?_)))
  unfold rawPut
  rw [if_neg om]
  rfl
theorem sg_set0 (R T R':Nat):KAZ (sgL R T) 0 (natL R') = sgL R' T:=KAf (A:=[]) (B:=natL R) (D:=natL T) rfl rfl (by rw [KL,KL]) rfl
theorem sg_set1 (R T T':Nat):KAZ (sgL R T) 9 (natL T') = sgL R T':=KAf (A:=natL R) (B:=natL T) (D:=[]) (by simp [sgL]) (KL _) (by rw [KL,KL]) (by simp [sgL])
theorem KDe (s:ByteArray) (w:World) (h:s.size≤72):CF Tryz.prog 49 [.string s] w (.tuple #[natV (beVal s.data.toList),Iz 0]):=by
  have h1:=c_nat_Of s om w
  rwa [if_neg om] at h1
theorem c_raw_Get (id:Int) (V:Cv) (s:ByteArray) (w:World) (h:cvI id = some V) (hs:s.size<9223372036854775808):CF Tryz.prog 17 [.int .i64 id,.string s] w (rawGet V s):=by
  obtain ⟨hok,hid⟩:=KAw h
  have hbb:=hok.bounds
  have hpW:V.p<W9:=Ks hbb.2.1
  have hnW:V.n<W9:=Ks hbb.2.2.2.2.2.2.1
  have hbl:=KAM hnW
  have hnb:nby V.n≤72:=by (unfold nby; omega)
  refine KV (N:=60) (rs:=[.cell 4 37,.tmp 5]) [] Tryz.func17 rfl Tryz.ntmps17 Tryz.results17 (Nb rfl) trivial rfl ?_
  refine KB (KA (oS (mk (KK zr_37) (fun b4=>?_))));refine oP (KO (v:=Iz 0) rfl) (KC (KB (KA (oM ?_))));refine oS (oOpen h rfl rfl (fun b f bd=>?_));refine oA (KC (KB (KB (KA (oM ?_)))));refine oP (KJ (KAI u81 rfl rfl) (show _ = Value.bool false from rfl)) (KC (KH rfl (KM (KB (KA (oM ?_))))));refine oS (cF rfl en_48 rfl (fun w hw=>c_cBytes V b f w (mC hw) hbl) ?_);refine oA (KC (KB (KB (KA (oM ?_)))));refine oP (KAQ u9 rfl) (oM ?_);refine oP (KG rfl rfl (KCB (a:=2) om)) (oP (KG rfl rfl (KAn)) (KC ?_))
  first|refine KQ rfl (fun h20=>?_) (fun h20=>?_)|refine KR rfl (fun h20=>?_) (fun h20=>?_)
  ·
   have h20:s.size≠2*nby V.n:=by have:=h20; simpa using this
   refine KB (KA (oP (KJ (KX pl_37 zr_37 rfl rfl) (show _ = sgV 0 0 from sg_zero)) (LOps.step rfl (sA rfl rfl sz_37 (by exact KCX _ _) (hl:=by exact KAv _ _) (h:=?_)))));refine oP (KO (v:=Iz 2301) rfl) (KC (KN (eN (.cons ⟨_,_,_,rfl,mM,by exact KD u37 rfl sz_37⟩ (.cons rfl .nil)) ?_)))
   unfold rawGet
   rw [if_pos h20]
   rfl
  have h20:s.size = 2*nby V.n:=by have:=h20; simpa using this
  refine KM (KB (KA (oS (mk (KK zr_37) (fun b8=>?_)))));refine KC (KB (LCode.sub (Sub.cells (b:=b8) (cs':=sgL 0 0) mT sg_zero') ?_));refine KA (oM (oM ?_));refine oP (KJ (KDB u9 rfl rfl om om) (by rw [Int.toNat_natCast])) ?_;refine oS (cF rfl en_49 rfl (fun w hw=>KDe (s.extract 0 (nby V.n)) w (by rw [KAk _ _ _ om]; omega)) ?_);refine oM ?_;refine oX ?_;refine oX ?_;refine oP (KE (o':=0) u37 rfl rfl rfl sz_33 dc) ?_;refine LOps.step rfl (Ko rfl rfl rfl sz_33 (KL _) (Kx _) mT (by simp only [KAv,List.length_append,KU]; decide) (sg_set0 _ _ _) (by simp) ?_);refine KC (KB (KA (oM (oM ?_))));refine oP (KJ (KBb u9 rfl rfl om om) (by rw [Int.toNat_natCast])) ?_;refine oS (cF rfl en_49 rfl (fun w hw=>KDe (s.extract (nby V.n) s.size) w (by rw [KAk _ _ _ (Nat.le_refl _)]; omega)) ?_);refine oM ?_;refine oX ?_;refine oX ?_;refine oP (KE (o':=9) u37 rfl rfl rfl sz_33 dc) ?_
  refine LOps.step rfl (Ko rfl rfl rfl sz_33 (KL _) (Kx _) mT (by simp only [KAv,List.length_append,KU]; decide) (sg_set1 _ _ _) (by simp) ?_);refine KC (KB (KB ?_))
  rcases (show V.n≤rawR V s∨(rawR V s<V.n∧V.n≤rawT V s)∨(rawR V s<V.n∧rawT V s<V.n) by omega) with hg|⟨hl,hg⟩|⟨hl,hl2⟩
  ·
   have hRw:rawR V s<W9:=KCj (by show (s.extract 0 (nby V.n)).size≤72; rw [KAk _ _ _ om]; omega)
   have hTw:rawT V s<W9:=KCj (by show (s.extract (nby V.n) s.size).size≤72; rw [KAk _ _ _ (Nat.le_refl _)]; omega)
   refine rD [] (aP 0 rfl (KE (o':=0) u37 rfl rfl rfl sz_33 dc) (aD 1 rfl (dL rfl (hv:=by exact Kh u33 rfl sz_33 rfl (KL _))) ?_));refine aM 2 ?_;refine aP 3 rfl (KF rfl) (aP 4 rfl (KE (o':=0) u100 rfl rfl rfl sz_53 dc) (aP 5 rfl (KE (o':=28) u53 rfl rfl rfl sz_33 dc) (aD 6 rfl (dL rfl (hv:=by exact KBB _ _ _ _ _ _ _ _ _ _ _ _ _ _ _ _)) ?_)));refine aO 7 rfl (cF rfl en_46 rfl (fun w hw=>KAz (rawR V s) V.n hRw hnW w) ?_);refine aP 8 rfl (KG (v:=.bool true) rfl rfl (cmp_ge_t hg)) (aM 9 ?_);refine aK 10 ?_;refine aK 11 ?_;refine aK 12 ?_;refine aK 13 ?_;refine aK 14 ?_;refine aK 15 ?_;refine aK 16 ?_;refine aK 17 ?_;refine aK 18 ?_;refine aP 19 rfl (Kd rfl rfl) (aE (KS rfl (KB (KA (oP (KJ (KX pl_37 zr_37 rfl rfl) (show _ = sgV 0 0 from sg_zero)) (LOps.step rfl (sA rfl rfl sz_37 (by exact KCX _ _) (hl:=by exact KAv _ _) (h:=?_))))))));refine oP (KO (v:=Iz 2302) rfl) (KC (KN (eN (.cons ⟨_,_,_,rfl,mM,by exact KD u37 rfl sz_37⟩ (.cons rfl .nil)) ?_)))
   unfold rawGet
   rw [if_neg om,if_pos (.inl hg)]
   rfl
  ·
   have hRw:rawR V s<W9:=KCj (by show (s.extract 0 (nby V.n)).size≤72; rw [KAk _ _ _ om]; omega)
   have hTw:rawT V s<W9:=KCj (by show (s.extract (nby V.n) s.size).size≤72; rw [KAk _ _ _ (Nat.le_refl _)]; omega)
   refine rD [] (aP 0 rfl (KE (o':=0) u37 rfl rfl rfl sz_33 dc) (aD 1 rfl (dL rfl (hv:=by exact Kh u33 rfl sz_33 rfl (KL _))) ?_));refine aM 2 ?_;refine aP 3 rfl (KF rfl) (aP 4 rfl (KE (o':=0) u100 rfl rfl rfl sz_53 dc) (aP 5 rfl (KE (o':=28) u53 rfl rfl rfl sz_33 dc) (aD 6 rfl (dL rfl (hv:=by exact KBB _ _ _ _ _ _ _ _ _ _ _ _ _ _ _ _)) ?_)));refine aO 7 rfl (cF rfl en_46 rfl (fun w hw=>KAz (rawR V s) V.n hRw hnW w) ?_);refine aP 8 rfl (KG (v:=.bool false) rfl rfl (cmp_ge_f hl)) (aM 9 ?_);refine aGP 10 rfl (KE (o':=9) u37 rfl rfl rfl sz_33 dc) (aGD 11 rfl (dL rfl (hv:=by exact LoadV.last u33 rfl sz_33 rfl (KL _) (KL _))) ?_);refine aGM 12 ?_;refine aGP 13 rfl (KF rfl) (aGP 14 rfl (KE (o':=0) u100 rfl rfl rfl sz_53 dc) (aGP 15 rfl (KE (o':=28) u53 rfl rfl rfl sz_33 dc) (aGD 16 rfl (dL rfl (hv:=by exact KBB _ _ _ _ _ _ _ _ _ _ _ _ _ _ _ _)) ?_)))
   refine aGO 17 rfl (cF rfl en_46 rfl (fun w hw=>KAz (rawT V s) V.n hTw hnW w) ?_);refine aGP 18 rfl (KG (v:=.bool true) rfl rfl (cmp_ge_t hg)) (aP 19 rfl (KT rfl rfl) (aE (KS rfl (KB (KA (oP (KJ (KX pl_37 zr_37 rfl rfl) (show _ = sgV 0 0 from sg_zero)) (LOps.step rfl (sA rfl rfl sz_37 (by exact KCX _ _) (hl:=by exact KAv _ _) (h:=?_)))))))));refine oP (KO (v:=Iz 2302) rfl) (KC (KN (eN (.cons ⟨_,_,_,rfl,mM,by exact KD u37 rfl sz_37⟩ (.cons rfl .nil)) ?_)))
   unfold rawGet
   rw [if_neg om,if_pos (.inr hg)]
   rfl
  have hRw:rawR V s<W9:=KCj (by show (s.extract 0 (nby V.n)).size≤72; rw [KAk _ _ _ om]; omega)
  have hTw:rawT V s<W9:=KCj (by show (s.extract (nby V.n) s.size).size≤72; rw [KAk _ _ _ (Nat.le_refl _)]; omega)
  refine rD [] (aP 0 rfl (KE (o':=0) u37 rfl rfl rfl sz_33 dc) (aD 1 rfl (dL rfl (hv:=by exact Kh u33 rfl sz_33 rfl (KL _))) ?_));refine aM 2 ?_;refine aP 3 rfl (KF rfl) (aP 4 rfl (KE (o':=0) u100 rfl rfl rfl sz_53 dc) (aP 5 rfl (KE (o':=28) u53 rfl rfl rfl sz_33 dc) (aD 6 rfl (dL rfl (hv:=by exact KBB _ _ _ _ _ _ _ _ _ _ _ _ _ _ _ _)) ?_)));refine aO 7 rfl (cF rfl en_46 rfl (fun w hw=>KAz (rawR V s) V.n hRw hnW w) ?_);refine aP 8 rfl (KG (v:=.bool false) rfl rfl (cmp_ge_f hl)) (aM 9 ?_);refine aGP 10 rfl (KE (o':=9) u37 rfl rfl rfl sz_33 dc) (aGD 11 rfl (dL rfl (hv:=by exact LoadV.last u33 rfl sz_33 rfl (KL _) (KL _))) ?_);refine aGM 12 ?_;refine aGP 13 rfl (KF rfl) (aGP 14 rfl (KE (o':=0) u100 rfl rfl rfl sz_53 dc) (aGP 15 rfl (KE (o':=28) u53 rfl rfl rfl sz_33 dc) (aGD 16 rfl (dL rfl (hv:=by exact KBB _ _ _ _ _ _ _ _ _ _ _ _ _ _ _ _)) ?_)))
  refine aGO 17 rfl (cF rfl en_46 rfl (fun w hw=>KAz (rawT V s) V.n hTw hnW w) ?_);refine aGP 18 rfl (KG (v:=.bool false) rfl rfl (cmp_ge_f hl2)) (aP 19 rfl (KT rfl rfl) (aE (KH rfl (KM (KB (KA (oD (dL rfl (hv:=by exact KD u37 rfl sz_37)) ?_)))))));refine LOps.step rfl (sA rfl rfl sz_37 (by exact KCX _ _) (hl:=by exact KAv _ _) (h:=?_));refine oP (KO (v:=Iz 0) rfl) (KC (KN (eN (.cons ⟨_,_,_,rfl,mM,by exact KD u37 rfl sz_37⟩ (.cons rfl .nil)) ?_)))
  unfold rawGet
  rw [if_neg om,if_neg om]
  rfl
theorem c_Num (x:Int) (w:World)  : CF Tryz.prog 13 [.int .i64 x] w (.int .i64 x):=by
  refine KV (N:=4) (rs:=[.tmp 2]) [] Tryz.func13 rfl Tryz.ntmps13 Tryz.results13 (Nb rfl) trivial rfl ?_
  refine KB (KA (oP (KO (v:=Iz 0) rfl) (KC (KB (KA (oM (oA (KC (KN ?_)))))))));refine eN (.cons rfl .nil) ?_
  rfl
theorem one_cells9 {x:Nat} (hx:x<18446744073709551616):vec .u64 9 (fun j=>if j = 0 then x else 0) = natL x:=Kq fun i _=>by rw [limb_small hx]
theorem c_One (x:Nat) (w:World) (hx:x<18446744073709551616):CF Tryz.prog 23 [.int .u64 ((x:Nat):Int)] w (natV x):=by
  refine KV (N:=8) (rs:=[.cell 2 33]) [] Tryz.func23 rfl Tryz.ntmps23 Tryz.results23 (Nb rfl) trivial rfl ?_
  refine KB (KA (oS (mk (KK zr_33) (fun b2=>?_))));refine KC (KB (KA (oS (mk (KK zr_33) (fun b3=>?_)))));refine KC (KB (KA (oM ?_)));refine oP (KE (o':=0) u33 rfl rfl rfl sz_31 dc) (oP (KP (i:=0) u31 sz_30 rfl rfl dc) (LOps.step rfl (KZ rfl rfl rfl sz_30 mT lT sT (by simp) ?_)));refine KC (KB (LCode.sub (Sub.cells (b:=b3) (cs':=natL x) mT (one_cells9 hx)) ?_));refine KA (oD dNa ?_);refine oT rfl rfl sz_33 ?_;refine KC (KN (eN (.cons ⟨_,_,_,rfl,mM,by exact KD u33 rfl sz_33⟩ .nil) ?_))
  rfl
theorem KCC:0<W9:=w9_pos
def rpS (V:Cv) (R T:Nat):ByteArray:=if V.n≤R∨V.n≤T then ⟨#[]⟩ else strOf (Kr (nby V.n) R)++strOf (Kr (nby V.n) T)
def rpE (V:Cv) (R T:Nat):Nat:=if V.n≤R∨V.n≤T then 2302 else 0
theorem rawPut_eq (V:Cv) (R T:Nat):rawPut V R T = .tuple #[.string (rpS V R T),Iz (rpE V R T)]:=by
  unfold rawPut rpS rpE
  split <;> rfl
def rgR (V:Cv) (s:ByteArray):Nat:=if s.size≠2*nby V.n then 0 else if V.n≤rawR V s∨V.n≤rawT V s then 0 else rawR V s
def rgT (V:Cv) (s:ByteArray):Nat:=if s.size≠2*nby V.n then 0 else if V.n≤rawR V s∨V.n≤rawT V s then 0 else rawT V s
def rgE (V:Cv) (s:ByteArray):Nat:=if s.size≠2*nby V.n then 2301 else if V.n≤rawR V s∨V.n≤rawT V s then 2302 else 0
theorem rawGet_eq (V:Cv) (s:ByteArray):rawGet V s = .tuple #[sgV (rgR V s) (rgT V s),Iz (rgE V s)]:=by
  unfold rawGet rgR rgT rgE
  split
  · rfl
  · split <;> rfl
theorem c_raw_Put2 (id:Int) (V:Cv) (R T:Nat) (w:World) (h:cvI id = some V) (hR:R<W9) (hT:T<W9):CF Tryz.prog 16 [.int .i64 id,sgV R T] w (.tuple #[.string (rpS V R T),Iz (rpE V R T)]):=by
  rw [← rawPut_eq]; exact c_raw_Put id V R T w h hR hT
theorem c_raw_Get2 (id:Int) (V:Cv) (s:ByteArray) (w:World) (h:cvI id = some V) (hs:s.size<9223372036854775808):CF Tryz.prog 17 [.int .i64 id,.string s] w (.tuple #[sgV (rgR V s) (rgT V s),Iz (rgE V s)]):=by
  rw [← rawGet_eq]; exact c_raw_Get id V s w h hs
theorem ext_data (s:ByteArray) (i j:Nat):(s.extract i j).data.toList = (s.data.toList.take j).drop i:=by
  rw [ByteArray.data_extract,Array.toList_extract]
  simp only [List.extract_eq_take_drop,List.take_drop]
  by_cases h:i≤j
  · rw [show i+(j-i) = j by omega]
  · rw [List.drop_of_length_le (by simp; omega),List.drop_of_length_le (by simp; omega)]
end Go.Proofs.YtnpeokiboiclfaaGreat
set_option linter.unusedVariables false
namespace Go.Proofs.YtnpeokiboiclfaaGreat.D
open Go Go.RowKit
theorem mod_nw (A:Nat):A%2^(32*nw A) = A:=Nat.mod_eq_of_lt (lt_nw A)
theorem mod_zero_word (A B:Nat):A%2^(32*0)*B = 0:=by rw [Nat.mul_zero,Nat.pow_zero,Nat.mod_one,Nat.zero_mul]
theorem row_end {X c A B i : Nat} (h : X + c * 2 ^ (32 * (i + nw B)) = A % 2 ^ (32 * i) * B + limb A i * (B % 2 ^ (32 * nw B)) * 2 ^ (32 * i)) (hX : X < 2 ^ (32 * (i + nw B))) :
    setl X (i+nw B) c = A%2^(32*(i+1))*B:=by
  have h0:=limb_high hX (Nat.le_refl _)
  have h1:=setl_eq X (i+nw B) c
  rw [h0,Nat.zero_mul,Nat.add_zero] at h1
  rw [h1,h,mod_nw,mod_succ_limb,Nat.add_mul]
  congr 1
  rw [Nat.mul_assoc,Nat.mul_comm,Nat.mul_assoc,Nat.mul_assoc,Nat.mul_comm B]
  exact Nat.mul_assoc _ _ _
theorem row_zero (A B i:Nat):A%2^(32*i)*B+0*2^(32*(i+0)) = A%2^(32*i)*B+limb A i*(B%2^(32*0))*2^(32*i):=by
  rw [Nat.mul_zero,Nat.pow_zero,Nat.mod_one,Nat.mul_zero,Nat.zero_mul,Nat.zero_mul]
theorem row_lt (A B i:Nat):A%2^(32*i)*B<2^(32*(i+nw B)):=by
  rw [pow64_add]
  exact Nat.mul_lt_mul_of_lt_of_le (Nat.mod_lt _ (pow64_pos i)) (Nat.le_of_lt (lt_nw B)) (pow64_pos _)
theorem guess_facts {U m a : Nat} (hm : m ≠ 0) (hU : U < dnm m * 2 ^ (32 * (a + 1))) :
    limb U (a+nw m)*4294967296+limb U (a+nw m-1) = U/2^(32*a)/2^(32*(nw m-1))∧limb (dnm m) (nw m-1) = dnm m/2^(32*(nw m-1))∧2147483648≤limb (dnm m) (nw m-1) ∧
    U/2^(32*a)/dnm m≤U/2^(32*a)/2^(32*(nw m-1))/limb (dnm m) (nw m-1):=by
  have hn:=nw_pos hm
  have h1:=win_lt (dnm_lt m) hU
  rw [Nat.add_assoc] at h1
  have h2:=win_div h1
  obtain ⟨h3,h4⟩:=dnm_top hm
  refine ⟨?_,h3,h4,?_⟩
  · rw [show a+nw m-1 = a+(nw m-1) by omega,← limb_div,← limb_div]
    have:=two_words (R:=U/2^(32*a)) (j:=nw m-1) (by rw [show nw m-1+2 = nw m+1 by omega]; exact h2)
    rw [this,show nw m-1+1 = nw m by omega]
  · rw [h3]
    apply div_cut (pow64_pos _)
    rw [← h3]; omega
theorem guess_step {U m a q r : Nat} (hm : m ≠ 0) (hn : 2 ≤ nw m) (h1 : q * limb (dnm m) (nw m - 1) + r = U / 2 ^ (32 * a) / 2 ^ (32 * (nw m - 1)))
    (h2:r*4294967296+limb U (a+nw m-2)<q*limb (dnm m) (nw m-2)):U/2^(32*a)/dnm m<q:=by
  refine guess_more (k:=2^(32*(nw m-2))) (M:=4294967296) (pow64_pos _) (dnm_pos hm) (top:=limb (dnm m) (nw m-1)) (d2:=limb (dnm m) (nw m-2)) ?_ (R2:=U/2^(32*a)/2^(32*(nw m-1))) (u2:=limb U (a+nw m-2)) ?_ h1 h2
  · have:=two_words (R:=dnm m) (j:=nw m-2) (by rw [show nw m-2+2 = nw m by omega]; exact dnm_lt m)
    rw [this,show nw m-2+1 = nw m-1 by omega]
  · have:=next_word (U/2^(32*a)) (nw m-2)
    rw [this,limb_div,show nw m-2+1 = nw m-1 by omega,show a+(nw m-2) = a+nw m-2 by omega]
theorem two_le {a b r u:Nat} (hb:b<4294967296) (hu:u<4294967296) (h:r<a∨(a = r∧u<b)):r*4294967296+u<a*4294967296+b:=by omega
theorem guess_next {top r q d2 u R2:Nat} (h1:q*top+r = R2) (h0:0<q):(q-1)*top+(r+top) = R2:=by
  obtain ⟨p,rfl⟩:∃ p,q = p+1:=⟨q-1,by omega⟩
  rw [Nat.add_mul] at h1
  rw [Nat.add_sub_cancel]; omega
theorem take_pre {U q D a:Nat}:U+q*(D%2^(32*0))*2^(32*a) = U+(0+0)*2^(32*(a+0)):=by
  rw [Nat.mul_zero,Nat.pow_zero,Nat.mod_one,Nat.mul_zero,Nat.zero_mul,Nat.zero_mul]
theorem back_pre {U D a:Nat}:U+0*2^(32*(a+0)) = U+(D%2^(32*0))*2^(32*a):=by
  rw [Nat.mul_zero,Nat.pow_zero,Nat.mod_one,Nat.zero_mul,Nat.zero_mul]
theorem fill_zero (W s:Nat):W%2^(32*0)*2^s = 0:=by rw [Nat.mul_zero,Nat.pow_zero,Nat.mod_one,Nat.zero_mul]
theorem quo_store {K x y:Nat} (hx:x<4294967296) (j:Nat):(if j = y then x else limb (K*2^(32*(y+1))) j) = limb ((K*4294967296+x)*2^(32*y)) j:=by
  have h0:limb (K*2^(32*(y+1))) y = 0:=by
    unfold limb
    rw [pow64_succ,← Nat.mul_assoc,Nat.mul_div_cancel _ (pow64_pos y),Nat.mul_mod_left]
  have:=limb_addl (K*2^(32*(y+1))) x y j (by rw [h0]; omega)
  rw [h0,Nat.zero_add] at this
  rw [← this,Nat.add_mul,pow64_succ,Nat.mul_assoc]
theorem quo_sum {U U0 K x y D V:Nat} (h1:U+x*D*2^(32*y) = U0) (h2:U0+K*2^(32*(y+1))*D = V):U+(K*4294967296+x)*2^(32*y)*D = V:=by
  rw [← h2,← h1,pow64_succ]
  generalize 2^(32*y) = A
  grind
end Go.Proofs.YtnpeokiboiclfaaGreat.D
set_option linter.unusedVariables false
set_option linter.unusedSimpArgs false
namespace Go.Proofs.YtnpeokiboiclfaaGreat
open Go Go.RowKit
theorem cellOf {w:World} {b:Nat} {cs:List Value} {e:TypeId} {fz:Nat×Nat} (h:w.heap[b]? = some (.cells cs.toArray e fz)) (o:Nat):w.cell? ⟨b,o,none⟩ = cs[o]?:=cell_of (B:=⟨true,cs,e,fz⟩) h o
theorem KCZ {P : Program} {a : Act} {w w' : World} {x y : Operand} {v u r : Value} {t : TypeId} {d : Nat} {ty : TypeId} {pos : String} {aft : Array Edge} {g : Option (Nat × Bool)} (hx : a.eval x = v) (hy : a.eval y = u)
    (h:(Builtin.append_ #[t,t] ty #[v,u]).run P w = .ok r w'):(execOp a.eval ⟨some d,.call { callee:=.builtin .append,args:=#[x,y],argTypes:=#[t,t] },ty,pos,aft,g⟩).run P w = .ok (.value r) w':=by
  simp only [execOp,resolve,invoke,builtin,Sem.run_bind,Sem.run_pure,Result.andThen_ok,List.map_toArray,List.map_cons,List.map_nil,hx,hy,h]
section
variable {P:Program} {C:Ctx} {ty:TypeId} {pos:String} {aft:Array Edge} {d:Nat} {x y z:Operand} {v u:Value} {t s e:TypeId} {K:St→Prop}
theorem LStepW.append {T : List (Nat × Value)} {H H0 : List Item} {b a0 c0 n cap m bytes : Nat} {zv : Value} {xs rest news : List Value} {wr : Bool} {ea : TypeId} {fz : Nat × Nat} {g : Option (Nat × Bool)} (hx : evT T x = some (.slice (some ⟨b, 0, none⟩) n cap)) (hy : evT T y = some (.slice (some ⟨a0, 0, none⟩) m c0))
    (ht:P.underlying t = some (.slice e)) (hi:infOf P e = some (zv,1,bytes)) (h1:one zv = true) (hp:Pick (.blk b ⟨true,xs++rest,e,(0,0)⟩) H H0) (hm:Item.blk a0 ⟨wr,news,ea,fz⟩∈H0) (hxl:xs.length = n) (hcl:xs.length+rest.length = cap) (hml:news.length = m) (ho:KBT news)
    (hn:(n+m)*bytes≤140737488355328) (hn2:n+m≤1000000000) (hd:d<C.N)
    (h:∀ b' cap' rest',xs.length+news.length+rest'.length = cap'→K ⟨(d,.slice (some ⟨b',0,none⟩) (n+m) cap') :: T,.blk b' ⟨true,(xs++news)++rest',e,(0,0)⟩ :: H0⟩):KAX P C ⟨some d,.call { callee:=.builtin .append,args:=#[x,y],argTypes:=#[t,t] },ty,pos,aft,g⟩ ⟨T,H⟩ K:=by
  unfold KAX
  intro a w hr Qr
  obtain ⟨i,hi1,hi3,hi2,hi4⟩:=inf_spec hi
  have hpm:=hp.perm
  have hin:Item.blk b ⟨true,xs++rest,e,(0,0)⟩∈H:=hpm.mem_iff.2 (.head _)
  have hb:w.heap[b]? = some (.cells (xs++rest).toArray e (0,0)):=hr.hp _ hin
  have ha:w.heap[a0]? = some (.cells news.toArray ea fz):=hr.hp _ (hpm.mem_iff.2 (.tail _ hm))
  have hpos:=hr.own _ hin rfl b (by simp [Item.fp])
  have hdd:(Item.blk b ⟨true,xs++rest,e,(0,0)⟩ :: H0).Pairwise Apart:=(List.Perm.pairwise_iff (fun h=>Apart.symm h) hpm).1 hr.dist
  obtain ⟨hd1,hd2⟩:=List.pairwise_cons.1 hdd
  have hmm:∀ x,x∈H0→x∈H:=fun x hx=>hpm.mem_iff.2 (.tail _ hx)
  have hnews:∀ j u,news[j]? = some u→w.cell? ((⟨a0,0,none⟩:Addr).add j) = some u:=fun j u hj=>by
    have hadd:(⟨a0,0,none⟩:Addr).add j = ⟨a0,0+j,none⟩:=by unfold Addr.add; split <;> simp_all
    rw [hadd,cellOf ha,Nat.zero_add]; exact hj
  have hsel:Rel C ⟨T,H0⟩ a w:=⟨hr.size,hr.defers,hr.tm,fun x hx=>hr.hp x (hmm x hx),fun x hx=>hr.own x (hmm x hx),hd2,hr.fr⟩
  unfold Oper.wp
  by_cases hroom:n+m≤cap
  · have hrr:=run_append_room (P:=P) w t ty e i ht hi1 b n cap (xs++rest).toArray hb ⟨a0,0,none⟩ m c0 news (by rw [hi2,Nat.mul_one]; exact hml) hnews (fun u hu=>by have:=ho u hu; cases u <;> simp_all [one,Value.oneCell']) hroom (by simp [hi2]; omega)
    rw [KCZ (hr.ev hx) (hr.ev hy) hrr]
    have e1:((xs++rest).toArray.toList.take (n*i.size)++news++(xs++rest).toArray.toList.drop (n*i.size+news.length)) = (xs++news)++rest.drop m:=by
      rw [hi2,Nat.mul_one,hml,← hxl]
      simp
    rw [e1]
    have hK:=h b cap (rest.drop m) (by simp; omega)
    refine ⟨_,hK,?_⟩
    have hnew:(w.setRow b ((xs++news)++rest.drop m).toArray).heap[b]? = some (.cells ((xs++news)++rest.drop m).toArray e (0,0)):=setRow_heap w b _ _ e _ hb
    have hoth:∀ k,k≠b→(w.setRow b ((xs++news)++rest.drop m).toArray).heap[k]? = w.heap[k]?:=fun k hk=>setRow_other w b k _ hk
    have hr2:Rel C ⟨T,.blk b ⟨true,xs++rest,e,(0,0)⟩ :: H0⟩ a w:=⟨hr.size,hr.defers,hr.tm,fun x hx=>hr.hp x (hpm.mem_iff.2 hx),fun x hx=>hr.own x (hpm.mem_iff.2 hx),hdd,hr.fr⟩
    exact (hr2.setBlk (B':=⟨true,(xs++news)++rest.drop m,e,(0,0)⟩) (SetAt.head _) rfl hnew hoth (by simp [World.setRow]) rfl rfl rfl).put hd _
  · have hrr := run_append_grow (P := P) w t ty e i zv ht hi1 hi3 ⟨b, 0, none⟩ n cap xs (by rw [hi2, Nat.mul_one]; exact hxl) (fun j u hj => by
      have hadd:(⟨b,0,none⟩:Addr).add j = ⟨b,0+j,none⟩:=by unfold Addr.add; split <;> simp_all
      rw [hadd,cellOf hb,Nat.zero_add]
      rcases Nat.lt_or_ge j xs.length with h'|h'
      · rw [List.getElem?_append_left h']; exact hj
      · rw [List.getElem?_eq_none h'] at hj; cases hj) ⟨a0,0,none⟩ m c0 news (by rw [hi2,Nat.mul_one]; exact hml) hnews (by omega) (by omega) (growslice_fits (by omega) (by rw [hi4]; exact hn))
    rw [KCZ (hr.ev hx) (hr.ev hy) hrr]
    have hge:=grownCap_ge w (n+m) cap e
    have hz0:zv.cells.size = 1:=by rw [KDD h1]; rfl
    have hK:=h w.heap.size (grownCap w (n+m) cap e) (Builtin.zeroCells zv.cells (grownCap w (n+m) cap e-(n+m))).toList (by
      have hzz:=size_zeroCells zv.cells (grownCap w (n+m) cap e-(n+m))
      rw [hz0] at hzz
      rw [← Array.length_toList] at hzz
      omega)
    refine ⟨_,hK,?_⟩
    have hal:=hsel.drew.alloc ((xs++news)++(Builtin.zeroCells zv.cells (grownCap w (n+m) cap e-(n+m))).toList) e
    have hcs:((xs++news)++(Builtin.zeroCells zv.cells (grownCap w (n+m) cap e-(n+m))).toList).toArray = xs.toArray++news.toArray++Builtin.zeroCells zv.cells (grownCap w (n+m) cap e-(n+m)):=by
      apply Array.ext'
      simp
    rw [hcs] at hal
    exact hal.put hd _
theorem LStepW.appendNil {T : List (Nat × Value)} {H : List Item} {a0 c0 m bytes : Nat} {zv : Value} {news : List Value} {wr : Bool} {ea : TypeId} {fz : Nat × Nat} {g : Option (Nat × Bool)} (hx : evT T x = some (.slice none 0 0)) (hy : evT T y = some (.slice (some ⟨a0, 0, none⟩) m c0))
    (ht:P.underlying t = some (.slice e)) (hi:infOf P e = some (zv,1,bytes)) (h1:one zv = true) (hm:Item.blk a0 ⟨wr,news,ea,fz⟩∈H) (hml:news.length = m) (h0:0<m)
    (hn:m*bytes≤140737488355328) (hn2:m≤1000000000) (hd:d<C.N)
    (h:∀ b' cap' rest',news.length+rest'.length = cap'→K ⟨(d,.slice (some ⟨b',0,none⟩) m cap') :: T,.blk b' ⟨true,news++rest',e,(0,0)⟩ :: H⟩):KAX P C ⟨some d,.call { callee:=.builtin .append,args:=#[x,y],argTypes:=#[t,t] },ty,pos,aft,g⟩ ⟨T,H⟩ K:=by
  unfold KAX
  intro a w hr Qr
  obtain ⟨i,hi1,hi3,hi2,hi4⟩:=inf_spec hi
  have ha:w.heap[a0]? = some (.cells news.toArray ea fz):=hr.hp _ hm
  have hnews:∀ j u,news[j]? = some u→w.cell? ((⟨a0,0,none⟩:Addr).add j) = some u:=fun j u hj=>by
    have hadd:(⟨a0,0,none⟩:Addr).add j = ⟨a0,0+j,none⟩:=by unfold Addr.add; split <;> simp_all
    rw [hadd,cellOf ha,Nat.zero_add]; exact hj
  unfold Oper.wp
  have hrr:=run_append_nil (P:=P) w t ty e i zv ht hi1 hi3 ⟨a0,0,none⟩ m c0 news (by rw [hi2,Nat.mul_one]; exact hml) hnews h0 (by omega) (by rw [hi4]; omega)
  rw [KCZ (hr.ev hx) (hr.ev hy) hrr]
  have hge:=grownCap_ge w m 0 e
  have hz0:zv.cells.size = 1:=by rw [KDD h1]; rfl
  have hK:=h w.heap.size (grownCap w m 0 e) (Builtin.zeroCells zv.cells (grownCap w m 0 e-m)).toList (by
    have hzz:=size_zeroCells zv.cells (grownCap w m 0 e-m)
    rw [hz0] at hzz
    rw [← Array.length_toList] at hzz
    omega)
  refine ⟨_,hK,?_⟩
  have hal:=hr.drew.alloc (news++(Builtin.zeroCells zv.cells (grownCap w m 0 e-m)).toList) e
  have hcs:(news++(Builtin.zeroCells zv.cells (grownCap w m 0 e-m)).toList).toArray = news.toArray++Builtin.zeroCells zv.cells (grownCap w m 0 e-m):=by
    apply Array.ext'
    simp
  rw [hcs] at hal
  exact hal.put hd _
end
end Go.Proofs.YtnpeokiboiclfaaGreat
set_option linter.unusedVariables false
set_option linter.unusedSimpArgs false
set_option maxRecDepth 20000
namespace Go.Proofs.YtnpeokiboiclfaaGreat
open Go Go.RowKit


theorem cmp_geq {A B:Nat}:Kp .geq .i64 (cmpI A B) .i64 0 = some (.bool (decide (B≤A))):=by
  unfold cmpI
  by_cases h:A<B
  · rw [if_pos h,decide_eq_false (Nat.not_le_of_lt h)]; rfl
  · rw [if_neg h,decide_eq_true (Nat.le_of_not_lt h)]
    split <;> rfl
theorem lt_nby {R N:Nat} (h:R≤N):R<256^nby N:=by
  have h1:=KCM N
  rw [pow256]
  exact Nat.lt_of_le_of_lt h (Nat.lt_of_lt_of_le h1 (Nat.pow_le_pow_right dc (by unfold nby; omega)))
theorem cat_data (k R T:Nat):(strOf (Kr k R)++strOf (Kr k T)).data.toList = Kr k R++Kr k T:=by
  rw [ByteArray.toList_data_append]; simp [strOf]
theorem cat_size (k R T:Nat):(strOf (Kr k R)++strOf (Kr k T)).size = 2*k:=by
  have:=congrArg List.length (cat_data k R T)
  rw [List.length_append,KAG,KAG,Array.length_toList] at this
  show (strOf (Kr k R)++strOf (Kr k T)).data.size = _
  omega
theorem cat_R {V:Cv} {R T:Nat} (hR:R≤V.n):rawR V (strOf (Kr (nby V.n) R)++strOf (Kr (nby V.n) T)) = R:=by
  unfold rawR
  rw [ext_data,cat_data,List.drop_zero,List.take_left' (KAG _ _),KCc,Nat.mod_eq_of_lt (lt_nby hR)]
theorem cat_T {V:Cv} {R T:Nat} (hT:T≤V.n):rawT V (strOf (Kr (nby V.n) R)++strOf (Kr (nby V.n) T)) = T:=by
  unfold rawT
  rw [ext_data,cat_data,cat_size,List.take_of_length_le (by rw [List.length_append,KAG,KAG]; omega),List.drop_left' (KAG _ _),KCc,Nat.mod_eq_of_lt (lt_nby hT)]
theorem rp_ok {V:Cv} {R T:Nat} (hR:R<V.n) (hT:T<V.n):rpE V R T = 0∧rpS V R T = strOf (Kr (nby V.n) R)++strOf (Kr (nby V.n) T):=by
  unfold rpE rpS
  rw [if_neg om,if_neg om]
  exact ⟨rfl,rfl⟩
theorem rg_rp {V:Cv} {R T:Nat} (hR:R<V.n) (hT:T<V.n):rgR V (rpS V R T) = R∧rgT V (rpS V R T) = T∧rgE V (rpS V R T) = 0:=by
  rw [(rp_ok hR hT).2]
  unfold rgR rgT rgE
  rw [cat_R (Nat.le_of_lt hR),cat_T (Nat.le_of_lt hT),cat_size,if_neg om,if_neg om,if_neg om,if_neg om,if_neg om,if_neg om]
  exact ⟨rfl,rfl,rfl⟩
theorem br_shr8 {a b:Nat} {k:IntKind} (ha:a<256):Kp .shr .u8 a k b = some (.int .u8 ((a/2^b:Nat):Int)):=by
  have hb:¬ ((b:Int)<0):=by omega
  simp only [Kp,hb,if_false,IntKind.bits,Int.toNat_natCast]
  congr 2
  have:(a:Int).fdiv (2^min b 8) = ((a/2^min b 8:Nat):Int):=by
    rw [show ((2:Int)^min b 8) = ((2^min b 8:Nat):Int) by simp,Int.fdiv_eq_ediv_of_nonneg _ (Int.natCast_nonneg _)]
    rfl
  rw [this]
  congr 1
  rcases Nat.lt_or_ge b 8 with h|h
  · rw [Nat.min_eq_left om]
  · rw [Nat.min_eq_right h]
    have h1:a/2^8 = 0:=Nat.div_eq_of_lt ha
    have h2:a/2^b = 0:=Nat.div_eq_of_lt (Nat.lt_of_lt_of_le ha (Nat.pow_le_pow_right (n:=2) dc h))
    rw [h1,h2]
theorem br_and8 {a b:Nat} (ha:a<256) (hb:b<256):Kp .and .u8 a .u8 b = some (.int .u8 ((a &&& b:Nat):Int)):=by
  show some (Value.int .u8 (IntKind.u8.wrap ((BitVec.ofInt 8 (a:Int) &&& BitVec.ofInt 8 (b:Int)).toNat:Int))) = _
  rw [KAy,KAy,BitVec.toNat_and,BitVec.toNat_ofNat,BitVec.toNat_ofNat,wrap_u8_nat]
  have h1:a%2^8 = a:=Nat.mod_eq_of_lt ha
  have h2:b%2^8 = b:=Nat.mod_eq_of_lt hb
  have h3:a &&& b<256:=Nat.lt_of_le_of_lt Nat.and_le_left ha
  rw [h1,h2,Nat.mod_eq_of_lt h3]
def hxd (k:Nat):UInt8:=UInt8.ofNat (if k<10 then 48+k else 87+k)
theorem hxd_get {k:Nat} (h:k<16):((⟨#[48,49,50,51,52,53,54,55,56,57,97,98,99,100,101,102]⟩:ByteArray)).data.toList.getD k 0 = hxd k:=by
  have:k = 0∨k = 1∨k = 2∨k = 3∨k = 4∨k = 5∨k = 6∨k = 7∨k = 8∨k = 9∨k = 10∨k = 11∨k = 12∨k = 13∨k = 14∨k = 15:=by omega
  rcases this with rfl|rfl|rfl|rfl|rfl|rfl|rfl|rfl|rfl|rfl|rfl|rfl|rfl|rfl|rfl|rfl <;> rfl
def dgL (l:List Nat):List UInt8:=l.flatMap fun x=>[hxd (x/16),hxd (x%16)]
def digS (s:ByteArray):ByteArray:=strOf (dgL (ofS s))
theorem dgL_length (l:List Nat):(dgL l).length = 2*l.length:=by
  induction l with
  | nil=>rfl
  | cons x l ih =>
    show ([hxd (x/16),hxd (x%16)]++dgL l).length = _
    rw [List.length_append,ih]; simp; omega
theorem dgL_snoc (l:List Nat) (x:Nat):dgL (l++[x]) = dgL l++[hxd (x/16)]++[hxd (x%16)]:=by simp [dgL]
theorem cells_snoc (l:List UInt8) (x:UInt8):Lib.byteCells l++[Value.int .u8 ((x.toNat:Nat):Int)] = Lib.byteCells (l++[x]):=by simp [Lib.byteCells]
theorem take_snoc {l:List Nat} {i:Nat} (h:i<l.length):l.take (i+1) = l.take i++[l.getD i 0]:=by
  rw [List.take_add_one,List.getElem?_eq_getElem h]
  simp [List.getD,h]
theorem ofS_get (s:ByteArray) (i:Nat):(s.data.toList.getD i 0).toNat = (ofS s).getD i 0:=by
  unfold ofS
  rcases Nat.lt_or_ge i s.data.toList.length with h|h
  · rw [List.getD_eq_getElem?_getD,List.getD_eq_getElem?_getD,List.getElem?_map,List.getElem?_eq_getElem h]; rfl
  · rw [List.getD_eq_getElem?_getD,List.getD_eq_getElem?_getD,List.getElem?_map,List.getElem?_eq_none h]; rfl
theorem ofS_lt (s:ByteArray) (i:Nat):(ofS s).getD i 0<256:=by rw [← ofS_get]; exact UInt8.toNat_lt _
theorem c_wb (B b:Nat) (l:List UInt8) (x:UInt8) (w:World) (h:Lib.IsBuilder 149 5 B b (Lib.byteCells l) w) (hl:l.length+1≤140737488355328) (hB:B≤w.heap.size):Calls Tryz.prog 234 ([Pz b,.int .u8 ((x.toNat:Nat):Int)]:List Value).toArray w (fun e w'=>e = .returned .nilIface∧Lib.IsBuilder 149 5 B b (Lib.byteCells (l++[x])) w'∧Below B w w'):=by
  have hc:=Go.Proofs.Any.Builder_WriteByte Tryz.laysB167 Tryz.extraB B b (Lib.byteCells l) ((x.toNat:Nat):Int) w h (by simp [Lib.byteCells]; omega) hB
  have e1:Tryz.laysB_ren.f 167 = 234:=by kernel_rfl
  rw [e1] at hc
  refine hc.mono fun e w' ⟨h1,h2,h3⟩=>⟨h1,.inr ?_,h3⟩
  rw [cells_snoc] at h2
  exact h2
theorem c_bstr (B b:Nat) (l:List UInt8) (w:World) (h:Lib.IsBuilder 149 5 B b (Lib.byteCells l) w) (hB:B≤w.heap.size):Calls Tryz.prog 74 ([Pz b]:List Value).toArray w (fun e w'=>e = .returned (.string (strOf l))∧Below B w w'):=by
  have hc:=Go.Proofs.Any.Builder_String_any Tryz.laysB169 Tryz.extraB B b l w h hB
  have e1:Tryz.laysB_ren.f 169 = 74:=by kernel_rfl
  rw [e1] at hc
  exact hc
theorem KCa (s:ByteArray) (hs:s.size≤1000000) (w:World)  : CF Tryz.prog 225 [.string s] w (.string (digS s)):=by
  refine KV (N:=24) (rs:=[.tmp 2]) [] Tryz.func225 rfl Tryz.ntmps225 Tryz.results225 (Nb rfl) trivial rfl ?_
  refine KB (KA (oA (KC (KB (KA ?_)))));refine oS (mk (KK zr_149) (fun b3=>?_));refine KC (KB (KB (LCode.bd (e:=5) (fun k h=>h) (fun fp0=>?_))));refine KA (oM ?_);refine oP (KAQ u9 rfl) (oP (Kf (v:=Iz 0) rfl) (KC (LCode.block (Kc (α:=Nat×List Nat) (fun x=>x.1≤s.size) (fun x=>⟨[(0,.string s),(3,Pz b3),(6,Iz s.size),(7,Iz x.1)],[bdI 149 5 w.heap.size b3 x.2 (Lib.byteCells (dgL ((ofS s).take x.1)))]⟩) (fun x=>s.size-x.1) ((0,fp0)) (Nat.zero_le _) (Ka ⟨rfl,rfl,rfl,rfl,trivial⟩ mS) ?_))))
  intro x hx
  refine KB (KA (oP (KG rfl rfl (KAA)) (KC (KB ?_))))
  first|refine KQ rfl (fun h8=>?_) (fun h8=>?_)|refine KR rfl (fun h8=>?_) (fun h8=>?_)
  ·
   have h8:x.1<s.size:=h8
   have hL:(dgL ((ofS s).take x.1)).length≤2000000:=by rw [dgL_length,List.length_take,KBG]; omega
   refine KM (KB (LCode.block (KB (KA (oM (oA (KC (KB ?_))))))))
   have hx256:=ofS_lt s x.1
   refine KA (oM (oM ?_));refine oP (KJ (KAE u9 rfl rfl om om) (show _ = Value.int .u8 ((((ofS s).getD x.1 0):Nat):Int) from congrArg (fun z:Nat=>Value.int .u8 (z:Int)) (ofS_get s x.1))) (oP (KJ (KG rfl rfl (br_shr8 (b:=4) hx256)) (show _ = Value.int .u8 ((((ofS s).getD x.1 0)/16:Nat):Int) from rfl)) ?_);refine oP (KJ (KAE u9 rfl rfl om (by show _<16; omega)) (show _ = Value.int .u8 (((hxd (((ofS s).getD x.1 0)/16)).toNat:Nat):Int) from congrArg (fun z:UInt8=>Value.int .u8 ((z.toNat:Nat):Int)) (hxd_get (k:=((ofS s).getD x.1 0)/16) om))) ?_;refine LOps.step rfl (LStepW.callBd rfl en_234 rfl (Nb rfl) (fun w1 hw hs=>c_wb _ b3 (dgL ((ofS s).take x.1)) (hxd (((ofS s).getD x.1 0)/16)) w1 (bdI_P (hw (bdI 149 5 w.heap.size b3 x.2 (Lib.byteCells (dgL ((ofS s).take x.1)))) mM)) (by first|omega|(simp only [List.length_append,List.length_cons,List.length_nil]; omega)) hs) ?_)
   intro f1
   refine KC (KA (oM (oM ?_)));refine oP (KJ (KAE u9 rfl rfl om om) (show _ = Value.int .u8 ((((ofS s).getD x.1 0):Nat):Int) from congrArg (fun z:Nat=>Value.int .u8 (z:Int)) (ofS_get s x.1))) (oP (KJ (KG rfl rfl (br_and8 (b:=15) hx256 dc)) (show _ = Value.int .u8 ((((ofS s).getD x.1 0)%16:Nat):Int) by rw [show (15:Nat) = 2^4-1 from rfl,Nat.and_two_pow_sub_one_eq_mod])) ?_);refine oP (KJ (KAE u9 rfl rfl om (by show _<16; omega)) (show _ = Value.int .u8 (((hxd (((ofS s).getD x.1 0)%16)).toNat:Nat):Int) from congrArg (fun z:UInt8=>Value.int .u8 ((z.toNat:Nat):Int)) (hxd_get (k:=((ofS s).getD x.1 0)%16) om))) ?_;refine LOps.step rfl (LStepW.callBd rfl en_234 rfl (Nb rfl) (fun w1 hw hs=>c_wb _ b3 (dgL ((ofS s).take x.1)++[hxd (((ofS s).getD x.1 0)/16)]) (hxd (((ofS s).getD x.1 0)%16)) w1 (bdI_P (hw (bdI 149 5 w.heap.size b3 f1 (Lib.byteCells (dgL ((ofS s).take x.1)++[hxd (((ofS s).getD x.1 0)/16)]))) mM)) (by first|omega|(simp only [List.length_append,List.length_cons,List.length_nil]; omega)) hs) ?_)
   intro f2
   refine KC (KA (oP (KG rfl rfl (Kj (b:=1) om)) (oM (KC ?_))));refine ⟨(x.1+1,f2),by dsimp only; omega,by dsimp only; omega,?_⟩
   dsimp only
   rw [take_snoc (by rw [KBG]; exact h8),dgL_snoc]
   exact Ka ⟨rfl,rfl,rfl,rfl,trivial⟩ mS
  have h8:¬ x.1<s.size:=h8
  have hfin:dgL ((ofS s).take x.1) = dgL (ofS s):=by rw [List.take_of_length_le (by rw [KBG]; omega)]
  rw [hfin]
  refine Kb (KB (KA (LOps.step rfl (LStepW.callB0 rfl en_74 rfl (Nb rfl) (fun w1 hw hs=>c_bstr _ b3 (dgL (ofS s)) w1 (bdI_P (hw (bdI 149 5 w.heap.size b3 x.2 (Lib.byteCells (dgL (ofS s)))) mM)) hs) ?_))));refine oA (KC (KN ?_));refine eN (.cons rfl .nil) ?_
  rfl
theorem c_stNum (X:Nat) (hX:X<W9) (hb:blen X≤256) (w:World)  : CF Tryz.prog 228 [natV X] w (.string (digS (strOf (Kr 32 X)))):=by
  refine KV (N:=12) (rs:=[.tmp 2]) [] Tryz.func228 rfl Tryz.ntmps228 Tryz.results228 (Nb rfl) trivial rfl ?_
  refine KB (KA (oS (mB (fun b1=>?_))));refine oA (KC (KB (KA ?_)));refine oD dNa ?_;refine oS (cF rfl en_47 rfl (fun w hw=>KBg X 32 w hX dc om) ?_);refine oM ?_;refine oX ?_;refine oX ?_;refine oA (oA (KC (KB (KA (oM ?_)))));refine oS (cF rfl en_225 rfl (fun w hw=>KCa (strOf (Kr 32 X)) (by rw [KAs]; decide) w) ?_);refine oA (KC (KN ?_));refine eN (.cons rfl .nil) ?_
  rfl
theorem KDd (s:ByteArray) (n X:Nat) (h:hexB s X = true) (hs:s.size = 2*n) (hn:n≤72) (hX:X<W9) (hb:blen X≤8*n) (w:World)  : CF Tryz.prog 230 [.string s] w (.string (strOf (Kr n X))):=by
  refine KV (N:=15) (rs:=[.tmp 2]) [] Tryz.func230 rfl Tryz.ntmps230 Tryz.results230 (Nb rfl) trivial rfl ?_
  refine KB (KA (oA (KC (KB (KA (oM ?_))))));refine oS (cF rfl en_78 rfl (fun w hw=>fhex s X w h) ?_);refine oM ?_;refine oP (KAQ u9 rfl) ?_;refine oP (KJ (KG rfl rfl (KDI (b:=2) dc om)) (show _ = Iz n by congr 2; omega)) ?_;refine oS (cF rfl en_47 rfl (fun w hw=>KBg X n w hX hn om) ?_);refine oM ?_;refine oX ?_;refine oX ?_;refine oA (oA (KC (KB (KA (oM (oA (KC (KN ?_))))))));refine eN (.cons rfl .nil) ?_
  rfl

end Go.Proofs.YtnpeokiboiclfaaGreat
set_option linter.unusedVariables false
set_option linter.unusedSectionVars false
namespace Go.Proofs.YtnpeokiboiclfaaGreat
open Grp
section
variable {p:Nat} [NeZero p]
def xv:Pt p→Nat
  | .inf=>0
  | .aff x _=>x.val
def yv:Pt p→Nat
  | .inf=>0
  | .aff _ y=>y.val
def iv:Pt p→Bool
  | .inf=>true
  | .aff _ _=>false
theorem c_of_val (x:Fin p):c p x.val = x:=Fin.ext (by rw [c_val,Nat.mod_eq_of_lt x.isLt])
theorem val_c {x:Nat} (h:x<p):(c p x).val = x:=by rw [c_val,Nat.mod_eq_of_lt h]
theorem pos_p:0<p:=Nat.pos_of_ne_zero (NeZero.ne p)
theorem xv_lt (P:Pt p):xv P<p:=by
  cases P with
  | inf=>exact pos_p
  | aff x y=>exact x.isLt
theorem yv_lt (P:Pt p):yv P<p:=by
  cases P with
  | inf=>exact pos_p
  | aff x y=>exact y.isLt
theorem KCq (k:Nat):c p (k%p) = c p k:=c_mod (Nat.dvd_refl p) k
theorem c_inj {x y:Nat} (hx:x<p) (hy:y<p) (h:c p x = c p y):x = y:=by
  have:=congrArg Fin.val h
  rwa [val_c hx,val_c hy] at this
def KCw (p a b x:Nat):Nat:=((x*x%p+a)%p*x%p+b)%p
theorem c_right (a b x:Nat):c p (KCw p a b x) = c p x*c p x*c p x+c p a*c p x+c p b:=by
  unfold KCw
  rw [KCq,c_add,KCq,c_mul,KCq,c_add,KCq,c_mul]
  grind -lia
theorem right_lt (a b x:Nat):KCw p a b x<p:=Nat.mod_lt _ pos_p
def onB (p a b X Y:Nat) (i:Bool):Bool:=if i = true then decide (X = 0) && decide (Y = 0) else decide (X<p) && (decide (Y<p) && decide (Y*Y%p = KCw p a b X))
theorem onB_on {a b:Nat} {P:Pt p} (h:On (c p a) (c p b) P):onB p a b (xv P) (yv P) (iv P) = true:=by
  unfold onB
  cases P with
  | inf=>rfl
  | aff x y =>
    have h1:y*y-(x*x*x+c p a*x+c p b) = 0:=h
    simp only [iv,Bool.false_eq_true,if_false,Bool.and_eq_true,decide_eq_true_eq]
    refine ⟨x.isLt,y.isLt,c_inj (Nat.mod_lt _ pos_p) (right_lt _ _ _) ?_⟩
    rw [KCq,c_mul,c_right]
    show c p y.val*c p y.val = c p x.val*c p x.val*c p x.val+c p a*c p x.val+c p b
    rw [c_of_val,c_of_val]
    exact eq_of_sub h1
theorem c_quot {under over:Nat} (hp:Pr p) (h0:under<p) (hu:under≠0):c p (over*invM under p%p)*c p under = c p over:=by
  have hg:Nat.gcd under p = 1:=hp.cop (fun hd=>hu (Nat.eq_zero_of_dvd_of_lt hd h0))
  obtain ⟨s,hs,h1⟩:=inv_mod hg (show 1<p from hp.1)
  have hi:=invM_eq hs h1
  rw [hi,KCq,c_mul]
  have h2:c p under*c p s = 1:=by
    rw [← c_mul,← KCq,h1]; rfl
  have h3:c p over*c p s*c p under-c p over*(c p under*c p s) = 0:=by grind -lia
  have h4:=eq_of_sub h3
  rw [h4,h2]
  grind -lia
theorem add_opp {a:Fin p} {x1 y1 x2 y2:Fin p} {b:Fin p} (h:Fld p) (h1:On a b (.aff x1 y1)) (h2:On a b (.aff x2 y2)) (hx:x1 = x2) (hy:y1≠y2):padd a (.aff x1 y1) (.aff x2 y2) = .inf:=by
  refine padd_eq h h1 h2 (.opp ⟨sub_of_eq hx,?_⟩)
  subst hx
  have e1:y1*y1-(x1*x1*x1+a*x1+b) = 0:=h1
  have e2:y2*y2-(x1*x1*x1+a*x1+b) = 0:=h2
  have e3:(y1+y2)*(y1-y2) = 0:=by
    have:(y1+y2)*(y1-y2) = (y1*y1-(x1*x1*x1+a*x1+b))-(y2*y2-(x1*x1*x1+a*x1+b)):=by clear e1 e2 h1 h2; grind -lia
    rw [this,e1,e2]; grind -lia
  rcases h.dom _ _ e3 with e|e
  · exact e
  · exact absurd (eq_of_sub e) hy
theorem pmul_succ (a:Fin p) (P:Pt p) (k:Nat):pmul a P (k+1) = padd a (pmul a P k) P:=rfl
theorem KDY (a:Fin p) (P:Pt p):pmul a P 0 = .inf:=rfl
theorem pmul_bit {a b:Fin p} (h:Crv a b) {P:Pt p} (hP:On a b P) (K i:Nat):(if K/2^i%2 = 1 then padd a (padd a (pmul a P (K/2^(i+1))) (pmul a P (K/2^(i+1)))) P else padd a (pmul a P (K/2^(i+1))) (pmul a P (K/2^(i+1)))) = pmul a P (K/2^i):=by
  have h1:K/2^i = K/2^(i+1)+K/2^(i+1)+K/2^i%2:=by
    rw [Nat.pow_succ,← Nat.div_div_eq_div_mul]; omega
  have h2:=Nat.mod_two_eq_zero_or_one (K/2^i)
  rw [← pmul_add h hP]
  rcases h2 with h2|h2
  · rw [h2] at h1 ⊢
    rw [if_neg (by decide)]
    exact congrArg (pmul a P) h1.symm
  · rw [h2] at h1 ⊢
    rw [if_pos rfl]
    exact congrArg (pmul a P) h1.symm
end
section
variable {V:Cv}
theorem Cv.Ok.crv (h:V.Ok):Crv V.A V.B:=⟨h.fld,h.good.fine.sing⟩
theorem Cv.Ok.sum (h:V.Ok) {P Q:Pt V.p} (hP:On V.A V.B P) (hQ:On V.A V.B Q):On V.A V.B (padd V.A P Q):=padd_on h.fld hP hQ
theorem Cv.Ok.mul (h:V.Ok) {P:Pt V.p} (hP:On V.A V.B P) (k:Nat):On V.A V.B (pmul V.A P k):=pmul_on h.fld hP k
end
end Go.Proofs.YtnpeokiboiclfaaGreat
set_option linter.unusedVariables false
set_option linter.unusedSectionVars false
namespace Go.Proofs.YtnpeokiboiclfaaGreat
open Grp
section
variable {p:Nat} [NeZero p]
theorem fin_subv (x y:Fin p):(x-y).val = (x.val+p-y.val)%p:=by
  rw [Fin.sub_def]
  show (p-y.val+x.val)%p = _
  have:=y.isLt
  rw [show p-y.val+x.val = x.val+p-y.val by omega]
theorem fin_one (h:1<p):(1:Fin p).val = 1:=by
  have:(1:Fin p).val = 1%p:=rfl
  rw [this,Nat.mod_eq_of_lt h]
theorem fin_ne0 {x:Fin p} (h:x.val≠0):x≠0:=fun e=>h (by rw [e]; rfl)
noncomputable def finv (x:Fin p):Fin p:=c p (invM x.val p)
theorem finv_val (x:Fin p):(finv x).val = invM x.val p:=val_c (invM_lt pos_p)
theorem finv_mul (hp:Pr p) {x:Fin p} (hx:x≠0):x*finv x = 1:=by
  have h1:=c_quot (under:=x.val) (over:=1) hp x.isLt (fun e=>hx (Fin.ext e))
  rw [c_of_val,Nat.one_mul,KCq,c_one] at h1
  show x*c p (invM x.val p) = 1
  rw [← h1]; grind -lia
theorem add_chordF {a b : Fin p} {x1 y1 x2 y2 : Fin p} (hp : Pr p) (h : Fld p) (h1 : On a b (.aff x1 y1)) (h2 : On a b (.aff x2 y2)) (hne : x1 ≠ x2) :
    padd a (.aff x1 y1) (.aff x2 y2) = .aff ((y2-y1)*finv (x2-x1)*((y2-y1)*finv (x2-x1))-x1-x2) ((y2-y1)*finv (x2-x1)*(x1-((y2-y1)*finv (x2-x1)*((y2-y1)*finv (x2-x1))-x1-x2))-y1):=by
  have hd:x1-x2≠0:=fun e=>hne (eq_of_sub e)
  have hd':x2-x1≠0:=fun e=>hne (eq_of_sub e).symm
  have hi:=finv_mul hp hd'
  generalize finv (x2-x1) = i at *
  have k1:y1*y1-(x1*x1*x1+a*x1+b) = 0:=h1
  have k2:y2*y2-(x2*x2*x2+a*x2+b) = 0:=h2
  have hl:(y2-y1)*i*(x2-x1)-(y2-y1) = 0:=lin1 (c1:=y2-y1) (by clear k1 k2 h1 h2 hi; grind -lia) (sub_of_eq hi)
  generalize (y2-y1)*i = l at *
  have hc:l*(x1-x2)-(y1-y2) = 0:=lin1 (c1:=-1) (by clear k1 k2 h1 h2 hi hl; grind -lia) hl
  refine padd_eq h h1 h2 (.line l _ _ (fun ho=>hd ho.1) ⟨hc,?_⟩ (sub_of_eq rfl) (sub_of_eq rfl))
  refine h.dom _ _ ?_ |>.resolve_left hd
  exact lin3 (c1:=y1+y2) (c2:=1) (c3:=-1) (by clear k1 k2 h1 h2 hi hl hc; grind -lia) hc k1 k2
theorem add_tangF {a b : Fin p} {x y : Fin p} (hp : Pr p) (h : Fld p) (h1 : On a b (.aff x y)) (hy : y ≠ 0) :
    padd a (.aff x y) (.aff x y) = .aff ((x*x+x*x+x*x+a)*finv (y+y)*((x*x+x*x+x*x+a)*finv (y+y))-x-x) ((x*x+x*x+x*x+a)*finv (y+y)*(x-((x*x+x*x+x*x+a)*finv (y+y)*((x*x+x*x+x*x+a)*finv (y+y))-x-x))-y):=by
  have hd:y+y≠0:=fun e=>hy (h.two _ e)
  have hi:=finv_mul hp hd
  generalize finv (y+y) = i at *
  have hl:(x*x+x*x+x*x+a)*i*(y+y)-(x*x+x*x+x*x+a) = 0:=lin1 (c1:=x*x+x*x+x*x+a) (by clear h1 hi; grind -lia) (sub_of_eq hi)
  generalize (x*x+x*x+x*x+a)*i = l at *
  refine padd_eq h h1 h1 (.line l _ _ (fun ho=>hy (h.two _ ho.2)) ⟨?_,?_⟩ (sub_of_eq rfl) (sub_of_eq rfl))
  · clear hl hi h1; grind -lia
  · exact lin1 (c1:=1) (by clear h1 hi hl; grind -lia) hl
noncomputable def plainP (X Y Z:Fin p):Pt p:=open Classical in if Z = 0 then .inf else .aff (X*finv Z) (Y*finv Z)
theorem plain_inf (X Y:Fin p):plainP X Y 0 = .inf:=if_pos rfl
theorem plain_aff {X Y Z:Fin p} (h:Z≠0):plainP X Y Z = .aff (X*finv Z) (Y*finv Z):=if_neg h
theorem Rep.plain {X Y Z:Fin p} {P:Pt p} (hp:Pr p) (h:Rep X Y Z P):plainP X Y Z = P:=by
  cases h with
  | inf h=>exact plain_inf _ _
  | aff x y h =>
    rw [plain_aff h]
    have hi:=finv_mul hp h
    generalize finv Z = i at *
    have e1:x*Z*i-x = 0:=lin1 (c1:=x) (by clear hi; grind -lia) (sub_of_eq hi)
    have e2:y*Z*i-y = 0:=lin1 (c1:=y) (by clear hi; grind -lia) (sub_of_eq hi)
    rw [eq_of_sub e1,eq_of_sub e2]
def HasF (a b X Y Z:Fin p):Prop:=¬ (X = 0∧Y = 0∧Z = 0)∧Y*Y*Z = (X*X+a*(Z*Z))*X+b*(Z*Z*Z)
theorem Rep.has {a b X Y Z:Fin p} {P:Pt p} (h:Rep X Y Z P) (hP:On a b P):HasF a b X Y Z:=by
  cases h with
  | inf h=>exact ⟨fun e=>h e.2.1,by clear h; grind -lia⟩
  | aff x y h =>
    refine ⟨fun e=>h e.2.2,eq_of_sub ?_⟩
    have k:y*y-(x*x*x+a*x+b) = 0:=hP
    exact lin1 (c1:=Z*Z*Z) (by clear k hP h; grind -lia) k
theorem HasF.zero {a b X Y:Fin p} (h:Fld p) (hf:HasF a b X Y 0):X = 0∧Y≠0:=by
  have e:X*(X*X) = 0:=by
    have:=sub_of_eq hf.2
    exact lin1 (c1:=-1) (by clear hf; grind -lia) this
  have hX:X = 0:=by
    rcases h.dom _ _ e with e|e
    · exact e
    · rcases h.dom _ _ e with e|e <;> exact e
  exact ⟨hX,fun e=>hf.1 ⟨hX,e,rfl⟩⟩
theorem HasF.rep {a b X Y Z:Fin p} (hp:Pr p) (h:Fld p) (hf:HasF a b X Y Z):Rep X Y Z (plainP X Y Z)∧On a b (plainP X Y Z):=by
  by_cases hz:Z = 0
  · subst hz
    obtain ⟨hX,hY⟩:=hf.zero h
    subst hX
    rw [plain_inf]
    exact ⟨.inf hY,trivial⟩
  · rw [plain_aff hz]
    have hi:=finv_mul hp hz
    generalize finv Z = i at *
    constructor
    · have e1:X*i*Z-X = 0:=lin1 (c1:=X) (by clear hi hf; grind -lia) (sub_of_eq hi)
      have e2:Y*i*Z-Y = 0:=lin1 (c1:=Y) (by clear hi hf; grind -lia) (sub_of_eq hi)
      have:=Rep.aff (Z:=Z) (X*i) (Y*i) hz
      rwa [eq_of_sub e1,eq_of_sub e2] at this
    · have e:=sub_of_eq hf.2
      have hi':=sub_of_eq hi
      clear hf hi
      have ez:Z = Z*Z*i:=by
        refine eq_of_sub (lin1 (c1:=-Z) ?_ hi'); clear hi' e; grind -lia
      have k:(Y*i*(Y*i)-(X*i*(X*i)*(X*i)+a*(X*i)+b))*(Z*(Z*Z)) = 0:=by
        have key:(Y*i*(Y*i)-(X*i*(X*i)*(X*i)+a*(X*i)+b))*(Z*(Z*Z)) = (Z*i)*(Z*i)*Z*(Y*Y)-((Z*i)*(Z*i)*(Z*i)*(X*X*X)+a*((Z*i)*X*(Z*Z))+b*(Z*(Z*Z))):=by clear e hi' ez; grind -lia
        have hi:Z*i = 1:=eq_of_sub hi'
        rw [key,hi]
        refine lin1 (c1:=1) ?_ e
        clear e hi' ez key hi; grind -lia
      have hz3:Z*(Z*Z)≠0:=h.dom.mul hz (h.dom.mul hz hz)
      exact (h.dom _ _ k).resolve_right hz3
end
section
variable {V:Cv}
theorem Cv.Ok.A_val (h:V.Ok) (hb:V.a<V.p):V.A.val = V.a:=val_c hb
theorem Cv.Ok.B_val (h:V.Ok) (hb:V.b<V.p):V.B.val = V.b:=val_c hb
theorem Cv.Ok.rep_sum (h : V.Ok) {X1 Y1 Z1 X2 Y2 Z2 : Fin V.p} {P Q : Pt V.p} (hP : Rep X1 Y1 Z1 P) (hQ : Rep X2 Y2 Z2 Q) (oP : On V.A V.B P) (oQ : On V.A V.B Q) :
    Rep (sum3 V.A (V.B+V.B+V.B) X1 Y1 Z1 X2 Y2 Z2).1 (sum3 V.A (V.B+V.B+V.B) X1 Y1 Z1 X2 Y2 Z2).2.1 (sum3 V.A (V.B+V.B+V.B) X1 Y1 Z1 X2 Y2 Z2).2.2 (padd V.A P Q) :=
  Rep.sum h.good hP hQ oP oQ (padd_spec h.fld oP oQ)
def tripF {p:Nat} [NeZero p]:Pt p→Fin p×Fin p×Fin p
  | .inf=>(0,1,0)
  | .aff x y=>(x,y,1)
theorem Cv.Ok.one_ne (h:V.Ok):(1:Fin V.p)≠0:=Grp.one_ne h.prime.1
theorem Cv.Ok.rep_trip (h:V.Ok) (P:Pt V.p):Rep (tripF P).1 (tripF P).2.1 (tripF P).2.2 P:=by
  cases P with
  | inf=>exact .inf h.one_ne
  | aff x y =>
    have:=Rep.aff (Z:=(1:Fin V.p)) x y h.one_ne
    have e1:x*1 = x:=by grind -lia
    have e2:y*1 = y:=by grind -lia
    rw [e1,e2] at this
    exact this
theorem Cv.Ok.swap (h:V.Ok) {A B C D:Pt V.p} (hA:On V.A V.B A) (hB:On V.A V.B B) (hC:On V.A V.B C) (hD:On V.A V.B D):padd V.A (padd V.A A B) (padd V.A C D) = padd V.A (padd V.A A C) (padd V.A B D):=by
  rw [padd_assoc h.crv hA hB (h.sum hC hD),← padd_assoc h.crv hB hC hD,padd_comm h.fld hB hC,padd_assoc h.crv hC hB hD,← padd_assoc h.crv hA hC (h.sum hB hD)]
theorem Cv.Ok.dual_bit (h : V.Ok) {P Q : Pt V.p} (hP : On V.A V.B P) (hQ : On V.A V.B Q) (u v i : Nat) :
    padd V.A (padd V.A (padd V.A (pmul V.A P (u/2^(i+1))) (pmul V.A Q (v/2^(i+1)))) (padd V.A (pmul V.A P (u/2^(i+1))) (pmul V.A Q (v/2^(i+1))))) (padd V.A (pmul V.A P (u/2^i%2)) (pmul V.A Q (v/2^i%2))) =
    padd V.A (pmul V.A P (u/2^i)) (pmul V.A Q (v/2^i)):=by
  have e:∀ k:Nat,k/2^i = k/2^(i+1)+k/2^(i+1)+k/2^i%2:=fun k=>by
    rw [Nat.pow_succ,← Nat.div_div_eq_div_mul]; omega
  have m:∀ {R:Pt V.p},On V.A V.B R→∀ k,On V.A V.B (pmul V.A R k):=fun hR k=>h.mul hR k
  rw [h.swap (m hP _) (m hQ _) (m hP _) (m hQ _),← pmul_add h.crv hP,← pmul_add h.crv hQ,h.swap (m hP _) (m hQ _) (m hP _) (m hQ _),← pmul_add h.crv hP,← pmul_add h.crv hQ,← e u,← e v]
theorem Cv.Ok.add_inf (h:V.Ok) {A:Pt V.p} (hA:On V.A V.B A):padd V.A A .inf = A:=padd_inf h.fld hA
theorem Cv.Ok.inf_add (h:V.Ok) {A:Pt V.p} (hA:On V.A V.B A):padd V.A .inf A = A:=inf_padd h.fld hA
end
end Go.Proofs.YtnpeokiboiclfaaGreat
