/- Part 3 of what the proof leans on: a symbolic execution of the model, walks of the program's functions, and the mathematics. No condition. -/
import Derived.WalkKit
import Derived.Orders
import Derived.Laws.StructEq
import Derived.WalkSpells
import Derived.OrdersHeld
import Derived.KernelRfl
import Derived.Laws.Externs
import Derived.Laws.Bits64
import Derived.Laws.MakeOwn
import Derived.Laws.BytesString
import Derived.Carry
import Derived.WideShapes
import GoSem.Claim
import Derived.Test.YtlmiolnccgjjjaaProg
import Derived.Laws.AppendOwn
import Derived.Test.YtlmiolnccgjjjaaRows
import Derived.ProofKit
import Derived.OpenShut
import Derived.Test.YtlmiolnccgjjjaaE2
set_option linter.unusedVariables false
set_option linter.unusedSimpArgs false
set_option maxRecDepth 20000
namespace Go.Proofs.Ytlmiolnccgjjjaa
open Go Go.RowKit
theorem c_n_Nat (q:NV) (A n:Nat) (w:World) (hq:(numI q A n).holds w):Calls Try.prog 52 ([slV q n]:List Value).toArray w (fun e w'=>e = .returned (natV A)∧Below w.heap.size w w'):=by
  refine Ky (N:=24) (rs:=[.cell 2 33]) [numI q A n] Try.func52 rfl Try.ntmps52 Try.results52 (Nb rfl) ⟨hq,trivial⟩ rfl ?_
  show LCode _ _ _ ⟨_,_⟩ _
  refine KD (KB ?_)
  refine KI rfl (KS (KR (Ke zr_33) (Nb rfl) (fun b2=>?_)))
  refine KG ?_
  refine KD (KB ?_)
  refine KI rfl (KS (KR (Ke zr_33) (Nb rfl) (fun b3=>?_)))
  refine KG ?_
  refine KD ?_
  refine KD (KB ?_)
  refine KA (KF (v:=.int .i64 ((0:Nat):Int)) rfl) (Nb rfl) ?_
  refine KG ?_
  refine LCode.block ?_
  refine KAN (α:=Nat) (fun x=>x≤9) (fun x=>⟨[(0,slV q n),(2,.pointer (some ⟨b2,0,none⟩)),(3,.pointer (some ⟨b3,0,none⟩)),(4,.int .i64 ((x:Nat):Int))],[.blk b3 ⟨true,vec .u64 9 (fun j=>if j<x then limb A j else 0),33,(0,0)⟩,.blk b2 ⟨true,vec .u64 9 (fun _=>0),33,(0,0)⟩,numI q A n]⟩) (fun x=>9-x) (0) (Nat.zero_le _) (KAG ⟨rfl,rfl,rfl,rfl,trivial⟩ (by repeat (first|exact Sel.nil _|refine Sel.cons (by repeat (first|exact Ph _|apply Pt_)) ?_))) ?_
  intro x hx
  refine KD ?_
  refine KD (KB ?_)
  refine KA (KC rfl) (Nb rfl) ?_
  refine KA (KK rfl rfl (KAp (b:=9))) (Nb rfl) ?_
  refine KG ?_
  first|refine Kh rfl (fun h6=>?_) (fun h6=>?_)|refine Kj rfl (fun h6=>?_) (fun h6=>?_)
  ·
    refine Kf ?_
    refine KD ?_
    refine LCode.block ?_
    refine KB ?_
    refine KA (KC rfl) (Nb rfl) ?_
    refine KA (KC rfl) (Nb rfl) ?_
    refine KA (KC rfl) (Nb rfl) ?_
    refine KA (KK rfl rfl (br_mul (a:=2) (by omega))) (Nb rfl) ?_
    refine KI rfl (KS (KP (first:=[]) rfl en_95 rfl (Nb rfl) (fun w hw=>c_n_digit _ _ _ _ w (hw _ (by repeat (first|exact Mh _|apply Mt)))) ?_))
    refine KA (KC rfl) (Nb rfl) ?_
    refine KA (KC rfl) (Nb rfl) ?_
    refine KA (KK rfl rfl (br_mul (a:=2) (by omega))) (Nb rfl) ?_
    refine KA (KK rfl rfl (KAL (b:=1) (by omega))) (Nb rfl) ?_
    refine KI rfl (KS (KP (first:=[]) rfl en_95 rfl (Nb rfl) (fun w hw=>c_n_digit _ _ _ _ w (hw _ (by repeat (first|exact Mh _|apply Mt)))) ?_))
    refine KA (KK rfl rfl (br_shl64 (b:=32))) (Nb rfl) ?_
    refine KA (KK rfl rfl (br_or64 (Nat.lt_trans (D.limb_lt _ _) (by decide)) (Nat.mod_lt _ (by decide)))) (Nb rfl) ?_
    refine KA (KM (o':=0) Try.underlying33 rfl rfl rfl sz_31 (by decide)) (Nb rfl) ?_
    refine KA (KAF Try.underlying31 sz_30 rfl rfl (by omega)) (Nb rfl) ?_
    refine KI rfl (KAB rfl rfl rfl sz_30 (by repeat (first|exact Sh _|apply St_)) (by first|(simp only [KN,KH,KJ,KAK]; omega)|(simp; omega)) (by first|exact KAY _ _ _ _ _|exact KAa _ _ _ _ (by omega)|exact KAZ _ _ _ _|rfl) (by simp) ?_)
    refine KG ?_
    refine KB ?_
    refine KA (KC rfl) (Nb rfl) ?_
    refine KA (KK rfl rfl (KAL (b:=1) (by omega))) (Nb rfl) ?_
    refine KA (KF rfl) (Nb rfl) ?_
    refine KG ?_
    refine ⟨x+1,by omega,by omega,KAh (Sub.cells (b:=b3) (cs':=vec .u64 9 (fun j=>if j<x+1 then limb A j else 0)) (by repeat (first|exact Sh _|apply St_)) (KAU fun j hj=>?_)) (KAG ⟨rfl,rfl,rfl,rfl,trivial⟩ (by repeat (first|exact Sel.nil _|refine Sel.cons (by repeat (first|exact Ph _|apply Pt_)) ?_)))⟩
    by_cases e:j = x
    · rw [if_pos e,if_pos (by omega),e]
      exact word_or A x
    · rw [if_neg e]
      by_cases e3:j<x
      · rw [if_pos e3,if_pos (by omega)]
      · rw [if_neg e3,if_neg (by omega)]
  ·
    refine KAH ?_
    refine KD ?_
    obtain rfl:x = 9:=by omega
    refine LCode.sub (Sub.cells (b:=b3) (cs':=natL A) (by repeat (first|exact Sh _|apply St_)) (KAU fun j hj=>if_pos (by omega))) ?_
    refine KB ?_
    refine LOps.det (KL rfl (by repeat (first|exact Mh _|apply Mt)) (by exact KO Try.underlying33 rfl sz_33)) (Nb rfl) ?_
    refine KI rfl (KQ rfl rfl sz_33 (by repeat (first|exact Kl _|exact Kz _ _ _|exact Km _|exact Kn _ _ _|exact KAA _ _ _|exact KY|refine KW rfl ?_|refine KZ ?_ ?_)) (by repeat (first|exact Sh _|apply St_)) (by first|exact KH _|exact KN _ _ _|exact KJ _|exact KV _ _ _|exact Ki _ _ _|rfl|simp [KN,KH,KJ]) ?_)
    refine KG (KX ?_)
    refine ⟨[_],.cons ⟨_,_,_,rfl,(by repeat (first|exact Mh _|apply Mt)),by exact KO Try.underlying33 rfl sz_33⟩ .nil,fun a w' hr=>⟨?_,hr.fr.below⟩⟩
    rfl
theorem c_n_Cmp (q r:NV) (A B:Nat) (w:World) (hq:(numT q A).holds w) (hr:(numT r B).holds w) (hA:D.nw A≤1000000):Calls Try.prog 59 ([numV q A,numV r B]:List Value).toArray w (fun e w'=>e = .returned (.int .i64 (cmpI A B))∧Below w.heap.size w w'):=by
  refine Ky (N:=41) (rs:=[.tmp 4]) [numT q A,numT r B] Try.func59 rfl Try.ntmps59 Try.results59 (Nb rfl) ⟨hq,hr,trivial⟩ rfl ?_
  show LCode _ _ _ ⟨_,_⟩ _
  refine KD (KB ?_)
  refine KA (KF (v:=.int .i64 ((0:Nat):Int)) rfl) (Nb rfl) ?_
  refine KG ?_
  refine KD ?_
  refine KD (KB ?_)
  refine KA (KC rfl) (Nb rfl) ?_
  refine KA (KAX Try.underlying24 rfl) (Nb rfl) ?_
  refine KA (KC rfl) (Nb rfl) ?_
  refine KA (KAX Try.underlying24 rfl) (Nb rfl) ?_
  refine KA (KK rfl rfl (br_neq)) (Nb rfl) ?_
  refine KG ?_
  first|refine Kh rfl (fun h10=>?_) (fun h10=>?_)|refine Kj rfl (fun h10=>?_) (fun h10=>?_)
  ·
    have h10:¬ D.nw A = D.nw B:=by have:=h10; simpa using this
    refine KD ?_
    refine KD (KB ?_)
    refine KA (KC rfl) (Nb rfl) ?_
    refine KA (KAX Try.underlying24 rfl) (Nb rfl) ?_
    refine KA (KC rfl) (Nb rfl) ?_
    refine KA (KAX Try.underlying24 rfl) (Nb rfl) ?_
    refine KA (KK rfl rfl (KAp)) (Nb rfl) ?_
    refine KG ?_
    first|refine Kh rfl (fun h15=>?_) (fun h15=>?_)|refine Kj rfl (fun h15=>?_) (fun h15=>?_)
    ·
      have h15:D.nw A<D.nw B:=by have:=h15; simpa using this
      refine KD (KB ?_)
      refine KA (KF rfl) (Nb rfl) ?_
      refine KG (KX ?_)
      have he:A<B:=D.lt_of_nw h15
      refine ⟨[_],.cons rfl .nil,fun a w' hr=>⟨?_,hr.fr.below⟩⟩
      simp [resOf,cmpI,he]
    ·
      have h15:¬ D.nw A<D.nw B:=by have:=h15; simpa using this
      refine Kf ?_
      refine KD (KB ?_)
      refine KA (KF (v:=.int .i64 ((1:Nat):Int)) rfl) (Nb rfl) ?_
      refine KG (KX ?_)
      have he:B<A:=D.lt_of_nw (by omega)
      have he2:¬ A<B:=by omega
      refine ⟨[_],.cons rfl .nil,fun a w' hr=>⟨?_,hr.fr.below⟩⟩
      simp [resOf,cmpI,he,he2]
  ·
    have h10:D.nw A = D.nw B:=by have:=h10; simpa using this
    refine Kf ?_
    refine KD ?_
    refine KD (KB ?_)
    refine KA (KC rfl) (Nb rfl) ?_
    refine KA (KAX Try.underlying24 rfl) (Nb rfl) ?_
    refine KA (KK (v:=.int .i64 ((D.nw A:Int)-1)) rfl rfl (br_subI (by omega) (by omega))) (Nb rfl) ?_
    refine KA (KF rfl) (Nb rfl) ?_
    refine KG ?_
    refine LCode.block ?_
    refine KAN (α:=Nat) (fun x=>x≤D.nw A∧A/2^(32*x) = B/2^(32*x)) (fun x=>⟨[(0,numV q A),(1,numV r B),(5,.int .i64 ((x:Int)-1))],[numT q A,numT r B]⟩) (fun x=>x) (D.nw A) (⟨Nat.le_refl _,by rw [Nat.div_eq_of_lt (D.lt_nw A),h10,Nat.div_eq_of_lt (D.lt_nw B)]⟩) (KAG ⟨rfl,rfl,rfl,trivial⟩ (by repeat (first|exact Sel.nil _|refine Sel.cons (by repeat (first|exact Ph _|apply Pt_)) ?_))) ?_
    rintro x ⟨hx,hab⟩
    refine KD ?_
    refine KD ?_
    rcases Nat.eq_zero_or_pos x with h0|h0
    ·
      refine KB ?_
      refine KA (KC rfl) (Nb rfl) ?_
      refine KA (KK (v:=.bool false) rfl rfl (by subst h0; rfl)) (Nb rfl) ?_
      refine KG ?_
      refine Kd rfl ?_
      refine KAH ?_
      refine KD (KB ?_)
      refine KA (KF (v:=.int .i64 ((0:Nat):Int)) rfl) (Nb rfl) ?_
      refine KG (KX ?_)
      have he:A = B:=by subst h0; simpa using hab
      refine ⟨[_],.cons rfl .nil,fun a w' hr=>⟨?_,hr.fr.below⟩⟩
      simp [resOf,cmpI,he]
    ·
      obtain ⟨x,rfl⟩:∃ y,x = y+1:=⟨x-1,by omega⟩
      refine KB ?_
      refine KA (KC rfl) (Nb rfl) ?_
      refine KA (KK (v:=.bool true) rfl rfl (by simp [KAP])) (Nb rfl) ?_
      refine KG ?_
      refine Kw rfl ?_
      refine Kf ?_
      refine KD ?_
      refine LCode.block ?_
      refine KD ?_
      refine Kg [] (by kernel_rfl) ?_
      refine KE 0 rfl (by kernel_rfl) (Nb rfl) (KC rfl) ?_
      refine KE 1 rfl (by kernel_rfl) (Nb rfl) (KC (v:=.int .i64 ((x:Nat):Int)) (by show some _ = some _; congr 2; omega)) ?_
      refine KE 2 rfl (by kernel_rfl) (Nb rfl) (KAo Try.underlying24 sz_67 rfl rfl (by omega)) ?_
      refine LAny.take 3 rfl (by kernel_rfl) (Nb rfl) (Det.loadN Try.underlying67 rfl rfl (by repeat (first|exact Mh _|apply Mt)) (by omega)) ?_
      refine KE 4 rfl (by kernel_rfl) (Nb rfl) (KC rfl) ?_
      refine KE 5 rfl (by kernel_rfl) (Nb rfl) (KC (v:=.int .i64 ((x:Nat):Int)) (by show some _ = some _; congr 2; omega)) ?_
      refine KE 6 rfl (by kernel_rfl) (Nb rfl) (KAo Try.underlying24 sz_67 rfl rfl (by omega)) ?_
      refine LAny.take 7 rfl (by kernel_rfl) (Nb rfl) (Det.loadN Try.underlying67 rfl rfl (by repeat (first|exact Mh _|apply Mt)) (by omega)) ?_
      refine KE 8 rfl (by kernel_rfl) (Nb rfl) (KK rfl rfl (br_neq)) ?_
      refine Ko (by kernel_rfl) ?_
      first|refine Kh rfl (fun h31=>?_) (fun h31=>?_)|refine Kj rfl (fun h31=>?_) (fun h31=>?_)
      ·
        refine KD ?_
        refine KD ?_
        refine Kg [] (by kernel_rfl) ?_
        refine KE 0 rfl (by kernel_rfl) (Nb rfl) (KC rfl) ?_
        refine KE 1 rfl (by kernel_rfl) (Nb rfl) (KC (v:=.int .i64 ((x:Nat):Int)) (by show some _ = some _; congr 2; omega)) ?_
        refine KE 2 rfl (by kernel_rfl) (Nb rfl) (KAo Try.underlying24 sz_67 rfl rfl (by omega)) ?_
        refine LAny.take 3 rfl (by kernel_rfl) (Nb rfl) (Det.loadN Try.underlying67 rfl rfl (by repeat (first|exact Mh _|apply Mt)) (by omega)) ?_
        refine KE 4 rfl (by kernel_rfl) (Nb rfl) (KC rfl) ?_
        refine KE 5 rfl (by kernel_rfl) (Nb rfl) (KC (v:=.int .i64 ((x:Nat):Int)) (by show some _ = some _; congr 2; omega)) ?_
        refine KE 6 rfl (by kernel_rfl) (Nb rfl) (KAo Try.underlying24 sz_67 rfl rfl (by omega)) ?_
        refine LAny.take 7 rfl (by kernel_rfl) (Nb rfl) (Det.loadN Try.underlying67 rfl rfl (by repeat (first|exact Mh _|apply Mt)) (by omega)) ?_
        refine KE 8 rfl (by kernel_rfl) (Nb rfl) (KK rfl rfl (KAp)) ?_
        refine Ko (by kernel_rfl) ?_
        first|refine Kh rfl (fun h40=>?_) (fun h40=>?_)|refine Kj rfl (fun h40=>?_) (fun h40=>?_)
        ·
          refine KD (KB ?_)
          refine KA (KF rfl) (Nb rfl) ?_
          refine KG (KX ?_)
          have he:A<B:=D.lt_of_limb hab h40
          refine ⟨[_],.cons rfl .nil,fun a w' hr=>⟨?_,hr.fr.below⟩⟩
          simp [resOf,cmpI,he]
        ·
          refine Kf ?_
          refine KD (KB ?_)
          refine KA (KF (v:=.int .i64 ((1:Nat):Int)) rfl) (Nb rfl) ?_
          refine KG (KX ?_)
          have he:B<A:=D.lt_of_limb hab.symm (by omega)
          have he2:¬ A<B:=by omega
          refine ⟨[_],.cons rfl .nil,fun a w' hr=>⟨?_,hr.fr.below⟩⟩
          simp [resOf,cmpI,he,he2]
      ·
        refine Kf ?_
        refine KB ?_
        refine KA (KC (v:=.int .i64 ((x:Nat):Int)) (by show some _ = some _; congr 2; omega)) (Nb rfl) ?_
        refine KA (KK rfl rfl rfl) (Nb rfl) ?_
        refine KA (KF rfl) (Nb rfl) ?_
        refine KG ?_
        refine ⟨x,⟨by omega,?_⟩,by omega,KAG ⟨rfl,rfl,?_,trivial⟩ (by repeat (first|exact Sel.nil _|refine Sel.cons (by repeat (first|exact Ph _|apply Pt_)) ?_))⟩
        · have h1:D.limb A x = D.limb B x:=by have:=h31; omega
          exact (D.div_eq_iff_limb A B x).2 ⟨hab,h1⟩
        · exact congrArg (fun i:Int=>some (Value.int .i64 i)) (wrap_i64 (by omega) (by omega))
theorem c_n_Sub (q r:NV) (A B:Nat) (w:World) (hq:(numT q A).holds w) (hr:(numT r B).holds w) (hBA:B≤A) (hA:D.nw A≤1000000):Calls Try.prog 65 ([numV q A,numV r B]:List Value).toArray w (fun e w'=>NumR w ([]) (A-B) (fun v=>v) e w'):=by
  refine Ky (N:=39) (rs:=[.tmp 4]) [numT q A,numT r B] Try.func65 rfl Try.ntmps65 Try.results65 (Nb rfl) ⟨hq,hr,trivial⟩ rfl ?_
  show LCode _ _ _ ⟨_,_⟩ _
  refine KD (KB ?_)
  refine KA (KF rfl) (Nb rfl) ?_
  refine KG ?_
  refine KD (KB ?_)
  refine KA (KC rfl) (Nb rfl) ?_
  refine KA (KAX Try.underlying24 rfl) (Nb rfl) ?_
  refine KI rfl (KS (KR (Makes.mkV Try.underlying24 inf_67 rfl rfl (by omega) (by omega)) (Nb rfl) (fun b11=>?_)))
  refine KA (KF rfl) (Nb rfl) ?_
  refine KG ?_
  refine KD (KB ?_)
  refine KA (KF (v:=.int .u64 ((0:Nat):Int)) rfl) (Nb rfl) ?_
  refine KG ?_
  refine KD ?_
  refine KD (KB ?_)
  refine KA (KF (v:=.int .i64 ((0:Nat):Int)) rfl) (Nb rfl) ?_
  refine KG ?_
  refine LCode.block ?_
  refine KAN (α:=Nat) (fun x=>x≤D.nw A) (fun x=>⟨[(0,numV q A),(1,numV r B),(5,.slice (some ⟨b11,0,none⟩) (D.nw A) (D.nw A)),(6,.int .u64 ((D.borrow A B x:Nat):Int)),(7,.int .i64 ((x:Nat):Int))],[.blk b11 ⟨true,vec .u32 (D.nw A) (fun j=>if j<x then D.limb (A-B) j else 0),67,(0,0)⟩,numT q A,numT r B]⟩) (fun x=>D.nw A-x) (0) (Nat.zero_le _) (KAG ⟨rfl,rfl,rfl,by rw [D.borrow_zero]; rfl,rfl,trivial⟩ (by repeat (first|exact Sel.nil _|refine Sel.cons (by repeat (first|exact Ph _|apply Pt_)) ?_))) ?_
  intro x hx
  refine KD ?_
  refine KD (KB ?_)
  refine KA (KC rfl) (Nb rfl) ?_
  refine KA (KC rfl) (Nb rfl) ?_
  refine KA (KAX Try.underlying24 rfl) (Nb rfl) ?_
  refine KA (KK rfl rfl (KAp)) (Nb rfl) ?_
  refine KG ?_
  first|refine Kh rfl (fun h15=>?_) (fun h15=>?_)|refine Kj rfl (fun h15=>?_) (fun h15=>?_)
  ·
    refine Kf ?_
    refine KD ?_
    refine LCode.block ?_
    refine KD ?_
    have hs:=D.sub_limb hBA x
    have hbr:=D.borrow_le A B x
    have hla:=D.limb_lt A x
    have hlb:=D.limb_lt B x
    refine KB ?_
    refine KA (KC rfl) (Nb rfl) ?_
    refine KA (KC rfl) (Nb rfl) ?_
    refine KI rfl (KS (KP (first:=[]) rfl en_95 rfl (Nb rfl) (fun w hw=>c_n_digit q A (D.nw A) x w (hw _ (by repeat (first|exact Mh _|apply Mt)))) ?_))
    refine KA (KK rfl rfl (KAf (b:=4294967296))) (Nb rfl) ?_
    refine KA (KC rfl) (Nb rfl) ?_
    refine KA (KC rfl) (Nb rfl) ?_
    refine KI rfl (KS (KP (first:=[]) rfl en_95 rfl (Nb rfl) (fun w hw=>c_n_digit r B (D.nw B) x w (hw _ (by repeat (first|exact Mh _|apply Mt)))) ?_))
    refine KA (KK rfl rfl (br_sub64 (by omega))) (Nb rfl) ?_
    refine KA (KC rfl) (Nb rfl) ?_
    refine KA (KK rfl rfl (br_sub64 (by omega))) (Nb rfl) ?_
    refine KA (KF rfl) (Nb rfl) ?_
    refine KG ?_
    refine KD (KB ?_)
    refine KA (KC rfl) (Nb rfl) ?_
    refine KA (KC rfl) (Nb rfl) ?_
    refine KA (KC rfl) (Nb rfl) ?_
    refine KA (KK rfl rfl (br_and64 (b:=4294967295) (by omega) (by decide))) (Nb rfl) ?_
    refine KA (KAj Try.underlying30 Try.underlying67 rfl) (Nb rfl) ?_
    refine KA (KAE Try.underlying24 sz_67 rfl rfl (by omega)) (Nb rfl) ?_
    refine KI rfl (KAB rfl rfl rfl sz_67 (by repeat (first|exact Sh _|apply St_)) (by first|(simp only [KN,KH,KJ,KAK]; omega)|(simp; omega)) (by first|exact KAY _ _ _ _ _|exact KAa _ _ _ _ (by omega)|exact KAZ _ _ _ _|rfl) (by simp) ?_)
    refine KG ?_
    refine KB ?_
    refine KA (KC rfl) (Nb rfl) ?_
    refine KA (KK rfl rfl (KAe (b:=32) (by omega))) (Nb rfl) ?_
    refine KA (KK rfl rfl (br_sub64 (a:=1) (by omega))) (Nb rfl) ?_
    refine KA (KF rfl) (Nb rfl) ?_
    refine KG ?_
    refine KB ?_
    refine KA (KC rfl) (Nb rfl) ?_
    refine KA (KK rfl rfl (KAL (b:=1) (by omega))) (Nb rfl) ?_
    refine KA (KF rfl) (Nb rfl) ?_
    refine KG ?_
    refine ⟨x+1,by omega,by omega,KAh (Sub.cells (b:=b11) (cs':=vec .u32 (D.nw A) (fun j=>if j<x+1 then D.limb (A-B) j else 0)) (by repeat (first|exact Sh _|apply St_)) (KAU fun j hj=>?_)) (KAG ⟨rfl,rfl,rfl,congrArg (fun n:Nat=>some (Value.int .u64 (n:Int))) ?_,rfl,trivial⟩ (by repeat (first|exact Sel.nil _|refine Sel.cons (by repeat (first|exact Ph _|apply Pt_)) ?_)))⟩
    · by_cases e:j = x
      · rw [if_pos e,if_pos (by omega),e,and32]
        omega
      · rw [if_neg e]
        by_cases e3:j<x
        · rw [if_pos e3,if_pos (by omega)]
        · rw [if_neg e3,if_neg (by omega)]
    · omega
  ·
    refine KAH ?_
    refine KD ?_
    obtain rfl:x = D.nw A:=by omega
    refine LCode.sub (Sub.cells (b:=b11) (cs':=vec .u32 (D.nw A) (D.limb (A-B))) (by repeat (first|exact Sh _|apply St_)) (KAU fun j hj=>if_pos hj)) ?_
    refine KB ?_
    refine KA (KC rfl) (Nb rfl) ?_
    refine KI rfl (KS (KP (first:=[]) rfl en_87 rfl (Nb rfl) (fun w hw=>c_trim (A-B) b11 (D.nw A) (D.nw A) (D.nw A) _ true w (hw _ (by repeat (first|exact Mh _|apply Mt))) (Nat.le_refl _) (Nat.le_refl _) (by omega) (Nat.lt_of_le_of_lt (Nat.sub_le _ _) (D.lt_nw A))) ?_))
    refine KA (KF rfl) (Nb rfl) ?_
    refine KG (KX ?_)
    refine ⟨[_],.cons rfl .nil,fun a w' hr=>hr.num (by repeat (first|exact Mh _|apply Mt)) (Nat.lt_of_le_of_lt (Nat.sub_le _ _) (D.lt_nw A))⟩
end Go.Proofs.Ytlmiolnccgjjjaa
set_option linter.unusedVariables false
set_option linter.unusedSimpArgs false
set_option maxRecDepth 20000
namespace Go.Proofs.Ytlmiolnccgjjjaa
open Go Go.RowKit
theorem c_n_Add (q r:NV) (A B:Nat) (w:World) (hq:(numT q A).holds w) (hr:(numT r B).holds w) (hA:D.nw A≤1000000) (hB:D.nw B≤1000000):Calls Try.prog 50 ([numV q A,numV r B]:List Value).toArray w (fun e w'=>NumR w ([]) (A+B) (fun v=>v) e w'):=by
  refine Ky (N:=47) (rs:=[.tmp 4]) [numT q A,numT r B] Try.func50 rfl Try.ntmps50 Try.results50 (Nb rfl) ⟨hq,hr,trivial⟩ rfl ?_
  show LCode _ _ _ ⟨_,_⟩ _
  refine KD (KB ?_)
  refine KA (KF rfl) (Nb rfl) ?_
  refine KG ?_
  refine KD ?_
  obtain ⟨K,hK⟩:∃ K,K = (if D.nw A<D.nw B then D.nw B else D.nw A):=⟨_,rfl⟩
  have hAK:A<2^(32*K):=Nat.lt_of_lt_of_le (D.lt_nw A) (Nat.pow_le_pow_right (by decide) (by split at hK <;> omega))
  have hBK:B<2^(32*K):=Nat.lt_of_lt_of_le (D.lt_nw B) (Nat.pow_le_pow_right (by decide) (by split at hK <;> omega))
  have hKb:K≤1000000:=by split at hK <;> omega
  clear hA hB
  refine KB ?_
  refine KA (KC rfl) (Nb rfl) ?_
  refine KA (KAX Try.underlying24 rfl) (Nb rfl) ?_
  refine KA (KC rfl) (Nb rfl) ?_
  refine KA (KAX Try.underlying24 rfl) (Nb rfl) ?_
  refine KA (KT (Det.maxN rfl rfl) (vi (b:=K) (by rw [hK]))) (Nb rfl) ?_
  refine KA (KF rfl) (Nb rfl) ?_
  refine KG ?_
  refine KD (KB ?_)
  refine KA (KC rfl) (Nb rfl) ?_
  refine KA (KK rfl rfl (KAL (b:=1) (by omega))) (Nb rfl) ?_
  refine KI rfl (KS (KR (Makes.mkV Try.underlying24 inf_67 rfl rfl (by omega) (by omega)) (Nb rfl) (fun b17=>?_)))
  refine KA (KF rfl) (Nb rfl) ?_
  refine KG ?_
  refine KD (KB ?_)
  refine KA (KF (v:=.int .u64 ((0:Nat):Int)) rfl) (Nb rfl) ?_
  refine KG ?_
  refine KD ?_
  refine KD (KB ?_)
  refine KA (KF (v:=.int .i64 ((0:Nat):Int)) rfl) (Nb rfl) ?_
  refine KG ?_
  refine LCode.block ?_
  refine KAN (α:=Nat) (fun x=>x≤K) (fun x=>⟨[(0,numV q A),(1,numV r B),(5,.int .i64 ((K:Nat):Int)),(6,.slice (some ⟨b17,0,none⟩) (K+1) (K+1)),(7,.int .u64 ((D.carry A B x:Nat):Int)),(8,.int .i64 ((x:Nat):Int))],[.blk b17 ⟨true,vec .u32 (K+1) (fun j=>if j<x then D.limb (A+B) j else 0),67,(0,0)⟩,numT q A,numT r B]⟩) (fun x=>K-x) (0) (Nat.zero_le _) (KAG ⟨rfl,rfl,rfl,rfl,by rw [D.carry_zero]; rfl,rfl,trivial⟩ (by repeat (first|exact Sel.nil _|refine Sel.cons (by repeat (first|exact Ph _|apply Pt_)) ?_))) ?_
  intro x hx
  refine KD ?_
  refine KD (KB ?_)
  refine KA (KC rfl) (Nb rfl) ?_
  refine KA (KC rfl) (Nb rfl) ?_
  refine KA (KK rfl rfl (KAp)) (Nb rfl) ?_
  refine KG ?_
  first|refine Kh rfl (fun h20=>?_) (fun h20=>?_)|refine Kj rfl (fun h20=>?_) (fun h20=>?_)
  ·
    refine Kf ?_
    refine KD ?_
    refine LCode.block ?_
    refine KD ?_
    have hs:=D.add_limb A B x
    have hc:=D.carry_le A B x
    have hc2:=D.carry_le A B (x+1)
    have hla:=D.limb_lt A x
    have hlb:=D.limb_lt B x
    have hls:=D.limb_lt (A+B) x
    refine KB ?_
    refine KA (KC rfl) (Nb rfl) ?_
    refine KA (KC rfl) (Nb rfl) ?_
    refine KI rfl (KS (KP (first:=[]) rfl en_95 rfl (Nb rfl) (fun w hw=>c_n_digit q A (D.nw A) x w (hw _ (by repeat (first|exact Mh _|apply Mt)))) ?_))
    refine KA (KC rfl) (Nb rfl) ?_
    refine KA (KC rfl) (Nb rfl) ?_
    refine KI rfl (KS (KP (first:=[]) rfl en_95 rfl (Nb rfl) (fun w hw=>c_n_digit r B (D.nw B) x w (hw _ (by repeat (first|exact Mh _|apply Mt)))) ?_))
    refine KA (KK rfl rfl (KAf)) (Nb rfl) ?_
    refine KA (KC rfl) (Nb rfl) ?_
    refine KA (KK rfl rfl (KAf)) (Nb rfl) ?_
    refine KA (KF rfl) (Nb rfl) ?_
    refine KG ?_
    refine KD (KB ?_)
    refine KA (KC rfl) (Nb rfl) ?_
    refine KA (KC rfl) (Nb rfl) ?_
    refine KA (KC rfl) (Nb rfl) ?_
    refine KA (KK rfl rfl (br_and64 (b:=4294967295) (by omega) (by decide))) (Nb rfl) ?_
    refine KA (KAj Try.underlying30 Try.underlying67 rfl) (Nb rfl) ?_
    refine KA (KAE Try.underlying24 sz_67 rfl rfl (by omega)) (Nb rfl) ?_
    refine KI rfl (KAB rfl rfl rfl sz_67 (by repeat (first|exact Sh _|apply St_)) (by first|(simp only [KN,KH,KJ,KAK]; omega)|(simp; omega)) (by first|exact KAY _ _ _ _ _|exact KAa _ _ _ _ (by omega)|exact KAZ _ _ _ _|rfl) (by simp) ?_)
    refine KG ?_
    refine KB ?_
    refine KA (KC rfl) (Nb rfl) ?_
    refine KA (KK rfl rfl (KAe (b:=32) (by omega))) (Nb rfl) ?_
    refine KA (KF rfl) (Nb rfl) ?_
    refine KG ?_
    refine KB ?_
    refine KA (KC rfl) (Nb rfl) ?_
    refine KA (KK rfl rfl (KAL (b:=1) (by omega))) (Nb rfl) ?_
    refine KA (KF rfl) (Nb rfl) ?_
    refine KG ?_
    refine ⟨x+1,by omega,by omega,KAh (Sub.cells (b:=b17) (cs':=vec .u32 (K+1) (fun j=>if j<x+1 then D.limb (A+B) j else 0)) (by repeat (first|exact Sh _|apply St_)) (KAU fun j hj=>?_)) (KAG ⟨rfl,rfl,rfl,rfl,congrArg (fun n:Nat=>some (Value.int .u64 (n:Int))) ?_,rfl,trivial⟩ (by repeat (first|exact Sel.nil _|refine Sel.cons (by repeat (first|exact Ph _|apply Pt_)) ?_)))⟩
    · by_cases e:j = x
      · rw [if_pos e,if_pos (by omega),e,and32]
        omega
      · rw [if_neg e]
        by_cases e3:j<x
        · rw [if_pos e3,if_pos (by omega)]
        · rw [if_neg e3,if_neg (by omega)]
    · omega
  ·
    refine KAH ?_
    refine KD ?_
    obtain rfl:K = x:=by omega
    have hc:=D.carry_le A B K
    refine KB ?_
    refine KA (KC rfl) (Nb rfl) ?_
    refine KA (KC rfl) (Nb rfl) ?_
    refine KA (KC rfl) (Nb rfl) ?_
    refine KA (KAj Try.underlying30 Try.underlying67 rfl) (Nb rfl) ?_
    refine KA (KAE Try.underlying24 sz_67 rfl rfl (by omega)) (Nb rfl) ?_
    refine KI rfl (KAB rfl rfl rfl sz_67 (by repeat (first|exact Sh _|apply St_)) (by first|(simp only [KN,KH,KJ,KAK]; omega)|(simp; omega)) (by first|exact KAY _ _ _ _ _|exact KAa _ _ _ _ (by omega)|exact KAZ _ _ _ _|rfl) (by simp) ?_)
    refine LOps.sub (Sub.cells (b:=b17) (cs':=vec .u32 (K+1) (D.limb (A+B))) (by repeat (first|exact Sh _|apply St_)) (KAU fun j hj=>?_)) ?_
    · by_cases e:j = K
      · rw [if_pos e,e,D.carry_top hAK hBK]; exact Nat.mod_eq_of_lt (D.limb_lt _ _)
      · rw [if_neg e,if_pos (by omega)]
    refine KG ?_
    refine KD (KB ?_)
    refine KA (KC rfl) (Nb rfl) ?_
    refine KI rfl (KS (KP (first:=[]) rfl en_87 rfl (Nb rfl) (fun w hw=>c_trim (A+B) b17 (K+1) (K+1) (K+1) _ true w (hw _ (by repeat (first|exact Mh _|apply Mt))) (Nat.le_refl _) (Nat.le_refl _) (by omega) (D.add_lt hAK hBK)) ?_))
    refine KA (KF rfl) (Nb rfl) ?_
    refine KG (KX ?_)
    refine ⟨[_],.cons rfl .nil,fun a w' hr=>hr.num (by repeat (first|exact Mh _|apply Mt)) (D.add_lt hAK hBK)⟩
theorem blen_half {x:Nat} (h:x≠0):blen (x/2)+1 = blen x:=by
  by_cases h1:x = 1
  · subst h1; rfl
  · have:=blen_shr (x:=x) (k:=1) (show 2^1≤x by omega)
    exact this
theorem c_n_Bits (q:NV) (A:Nat) (w:World) (hq:(numT q A).holds w) (hA:D.nw A≤1000000):Calls Try.prog 70 ([numV q A]:List Value).toArray w (fun e w'=>e = .returned (.int .i64 ((blen A:Nat):Int))∧Below w.heap.size w w'):=by
  refine Ky (N:=25) (rs:=[.tmp 2]) [numT q A] Try.func70 rfl Try.ntmps70 Try.results70 (Nb rfl) ⟨hq,trivial⟩ rfl ?_
  show LCode _ _ _ ⟨_,_⟩ _
  refine KD (KB ?_)
  refine KA (KF (v:=.int .i64 ((0:Nat):Int)) rfl) (Nb rfl) ?_
  refine KG ?_
  refine KD ?_
  refine KD (KB ?_)
  refine KA (KC rfl) (Nb rfl) ?_
  refine KA (KAX Try.underlying24 rfl) (Nb rfl) ?_
  refine KA (KK rfl rfl (KAc (b:=0))) (Nb rfl) ?_
  refine KG ?_
  first|refine Kh rfl (fun h7=>?_) (fun h7=>?_)|refine Kj rfl (fun h7=>?_) (fun h7=>?_)
  ·
    have h7:D.nw A = 0:=by have:=h7; simpa using this
    refine KD (KB ?_)
    refine KA (KF (v:=.int .i64 ((0:Nat):Int)) rfl) (Nb rfl) ?_
    refine KG (KX ?_)
    have hz:A = 0:=nw_eq_zero.1 h7
    refine ⟨[_],.cons rfl .nil,fun a w' hr=>⟨?_,hr.fr.below⟩⟩
    rw [hz]; rfl
  ·
    have h7:D.nw A≠0:=by have:=h7; simpa using this
    refine Kf ?_
    refine KD (KB ?_)
    refine KA (KC rfl) (Nb rfl) ?_
    refine KA (KAX Try.underlying24 rfl) (Nb rfl) ?_
    refine KA (KK rfl rfl (br_sub (b:=1) (by omega) (by omega))) (Nb rfl) ?_
    refine KA (KK rfl rfl (br_mul (a:=32) (by omega))) (Nb rfl) ?_
    refine KA (KF rfl) (Nb rfl) ?_
    refine KG ?_
    refine KD ?_
    refine KD (KB ?_)
    refine KA (KC rfl) (Nb rfl) ?_
    refine KA (KC rfl) (Nb rfl) ?_
    refine KA (KAX Try.underlying24 rfl) (Nb rfl) ?_
    refine KA (KK rfl rfl (br_sub (b:=1) (by omega) (by omega))) (Nb rfl) ?_
    refine KA (KAo Try.underlying24 sz_67 rfl rfl (by omega)) (Nb rfl) ?_
    refine LOps.det (Det.loadN Try.underlying67 rfl rfl (by repeat (first|exact Mh _|apply Mt)) (by omega)) (Nb rfl) ?_
    refine KA (KF rfl) (Nb rfl) ?_
    refine KG ?_
    refine LCode.block ?_
    refine KAN (α:=Nat×Nat) (fun x=>x.1<4294967296∧x.2+blen x.1 = blen A∧blen A≤32000000) (fun x=>⟨[(3,.int .i64 ((x.2:Nat):Int)),(4,.int .u32 ((x.1:Nat):Int))],[]⟩) (fun x=>x.1) ((D.limb A (D.nw A-1),32*(D.nw A-1))) (⟨D.limb_lt _ _,D.bits_words h7,by have:=D.bits_words h7; have:=blen_le (n:=32) (D.limb_lt A (D.nw A-1)); omega⟩) (KAG ⟨rfl,rfl,trivial⟩ (by repeat (first|exact Sel.nil _|refine Sel.cons (by repeat (first|exact Ph _|apply Pt_)) ?_))) ?_
    rintro x ⟨hx1,hx2,hx3⟩
    refine KD ?_
    refine KD (KB ?_)
    refine KA (KC rfl) (Nb rfl) ?_
    refine KA (KK rfl rfl (br_gtr (b:=0))) (Nb rfl) ?_
    refine KG ?_
    first|refine Kh rfl (fun h19=>?_) (fun h19=>?_)|refine Kj rfl (fun h19=>?_) (fun h19=>?_)
    ·
      have h19:0<x.1:=by have:=h19; simpa using this
      refine Kf ?_
      refine KD ?_
      refine LCode.block ?_
      have hb1:=blen_ne (A:=x.1) (by omega)
      refine KB ?_
      refine KA (KC rfl) (Nb rfl) ?_
      refine KA (KK rfl rfl (KAL (b:=1) (by omega))) (Nb rfl) ?_
      refine KA (KF rfl) (Nb rfl) ?_
      refine KG ?_
      refine KB ?_
      refine KA (KC rfl) (Nb rfl) ?_
      refine KA (KK rfl rfl (br_shr32 (b:=1) (by omega))) (Nb rfl) ?_
      refine KA (KF rfl) (Nb rfl) ?_
      refine KG ?_
      have hh:=blen_half (x:=x.1) (by omega)
      refine ⟨(x.1/2,x.2+1),⟨by dsimp only; omega,by dsimp only; omega,hx3⟩,by dsimp only; omega,KAG ⟨rfl,rfl,trivial⟩ (by repeat (first|exact Sel.nil _|refine Sel.cons (by repeat (first|exact Ph _|apply Pt_)) ?_))⟩
    ·
      have h19:¬ 0<x.1:=by have:=h19; simpa using this
      refine KAH ?_
      refine KD (KB ?_)
      refine KA (KC rfl) (Nb rfl) ?_
      refine KA (KF rfl) (Nb rfl) ?_
      refine KG (KX ?_)
      have h0:x.1 = 0:=by omega
      rw [h0,blen_zero,Nat.add_zero] at hx2
      refine ⟨[_],.cons rfl .nil,fun a w' hr=>⟨?_,hr.fr.below⟩⟩
      rw [← hx2]; rfl
theorem D.bit_of (A i:Nat):D.limb A (i/32)/2^(i%32)%2 = A/2^i%2:=by
  have h1:A/2^i = A/2^(32*(i/32))/2^(i%32):=by
    rw [Nat.div_div_eq_div_mul,← Nat.pow_add]; congr 2; omega
  rw [h1]
  unfold D.limb
  generalize A/2^(32*(i/32)) = q
  have hr:i%32<32:=Nat.mod_lt _ (by decide)
  generalize i%32 = r at *
  have e:(4294967296:Nat) = 2^r*(2^(31-r)*2):=by
    rw [← Nat.pow_succ,← Nat.pow_add,show r+(31-r).succ = 32 by omega]
  rw [e,Nat.mod_mul_right_div_self,Nat.mod_mul_left_mod]
theorem and1 (x:Nat):x &&& 1 = x%2:=Nat.and_two_pow_sub_one_eq_mod x 1
theorem shift_dig {A k i:Nat}:D.limb (A/2^k) i = (D.limb A (i+k/32) ||| D.limb A (i+k/32+1)*4294967296%18446744073709551616)/2^(k%32)%4294967296:=by
  have h:=D.limb_shr A (k/32) (k%32) i (Nat.mod_lt _ (by decide))
  rw [show 32*(k/32)+k%32 = k by omega] at h
  rw [h,or_digits (D.limb_lt _ _) (D.limb_lt _ _)]
  have h1:=D.limb_lt A (i+k/32)
  have h2:=D.limb_lt A (i+k/32+1)
  have hr:k%32<32:=Nat.mod_lt _ (by decide)
  generalize D.limb A (i+k/32) = a at *
  generalize D.limb A (i+k/32+1) = b at *
  generalize k%32 = r at *
  have e:(4294967296:Nat) = 2^(32-r)*2^r:=by rw [← Nat.pow_add,show 32-r+r = 32 by omega]
  have hp:0<2^r:=Nat.pow_pos (by decide)
  have e2:(a+4294967296*b)/2^r = a/2^r+b*2^(32-r):=by
    rw [show a+4294967296*b = a+b*2^(32-r)*2^r by rw [e,Nat.mul_comm _ b,Nat.mul_assoc],Nat.add_mul_div_right _ _ hp]
  rw [e2]
  have h3:a/2^r<2^(32-r):=by rw [Nat.div_lt_iff_lt_mul hp,← e]; exact h1
  have h4:b*2^(32-r)%4294967296 = b%2^r*2^(32-r):=by
    rw [e,Nat.mul_comm (2^(32-r)),Nat.mul_mod_mul_right]
  have h5:b%2^r+1≤2^r:=Nat.mod_lt _ hp
  have h6:=Nat.mul_le_mul_right (2^(32-r)) h5
  rw [Nat.add_mul,Nat.mul_comm (2^r),← e,Nat.one_mul] at h6
  have h7:a/2^r+b*2^(32-r)%4294967296<4294967296:=by
    rw [h4]; exact Nat.lt_of_lt_of_le (Nat.add_lt_add_right h3 _) (by rw [Nat.add_comm]; exact h6)
  rw [Nat.add_mod (a/2^r),Nat.mod_eq_of_lt (show a/2^r<4294967296 by have:=Nat.div_le_self a (2^r); omega),Nat.mod_eq_of_lt h7]
theorem c_n_Bit (q:NV) (A n i:Nat) (w:World) (hq:(numI q A n).holds w) (hi:i<9223372036854775808):Calls Try.prog 86 ([slV q n,.int .i64 ((i:Nat):Int)]:List Value).toArray w (fun e w'=>e = .returned (.int .i64 ((A/2^i%2:Nat):Int))∧Below w.heap.size w w'):=by
  refine Ky (N:=14) (rs:=[.tmp 4]) [numI q A n] Try.func86 rfl Try.ntmps86 Try.results86 (Nb rfl) ⟨hq,trivial⟩ rfl ?_
  show LCode _ _ _ ⟨_,_⟩ _
  refine KD (KB ?_)
  refine KA (KF (v:=.int .i64 ((0:Nat):Int)) rfl) (Nb rfl) ?_
  refine KG ?_
  refine KD (KB ?_)
  refine KA (KC rfl) (Nb rfl) ?_
  refine KA (KC rfl) (Nb rfl) ?_
  refine KA (KK rfl rfl (br_quo (b:=32) (by omega) (by omega))) (Nb rfl) ?_
  refine KI rfl (KS (KP (first:=[]) rfl en_95 rfl (Nb rfl) (fun w hw=>c_n_digit q A n (i/32) w (hw _ (by repeat (first|exact Mh _|apply Mt)))) ?_))
  refine KA (KC rfl) (Nb rfl) ?_
  refine KA (KK rfl rfl (br_rem (b:=32) (by omega))) (Nb rfl) ?_
  refine KA (KK rfl rfl (KAe (Nat.lt_trans (D.limb_lt _ _) (by decide)))) (Nb rfl) ?_
  refine KA (KK rfl rfl (br_and64 (b:=1) (Nat.lt_of_le_of_lt (Nat.div_le_self _ _) (Nat.lt_trans (D.limb_lt _ _) (by decide))) (by decide))) (Nb rfl) ?_
  refine KA (Det.convi Try.underlying30 Try.underlying3 rfl (by rw [and1]; omega)) (Nb rfl) ?_
  refine KA (KF rfl) (Nb rfl) ?_
  refine KG (KX ?_)
  refine ⟨[_],.cons rfl .nil,fun a w' hr=>⟨?_,hr.fr.below⟩⟩
  rw [and1,D.bit_of]; rfl
theorem c_n_Shr (q:NV) (A n k:Nat) (w:World) (hq:(numI q A n).holds w) (hn:n≤1000000) (hk:k<4294967296):Calls Try.prog 111 ([slV q n,.int .i64 ((k:Nat):Int)]:List Value).toArray w (fun e w'=>NumR w ([]) (A/2^k) (fun v=>v) e w'):=by
  have hA:=numI_lt hq
  refine Ky (N:=51) (rs:=[.tmp 4]) [numI q A n] Try.func111 rfl Try.ntmps111 Try.results111 (Nb rfl) ⟨hq,trivial⟩ rfl ?_
  show LCode _ _ _ ⟨_,_⟩ _
  refine KD (KB ?_)
  refine KA (KF rfl) (Nb rfl) ?_
  refine KG ?_
  refine KD ?_
  refine KD (KB ?_)
  refine KA (KC rfl) (Nb rfl) ?_
  refine KA (KK rfl rfl (br_quo (b:=32) (by omega) (by omega))) (Nb rfl) ?_
  refine KA (KC rfl) (Nb rfl) ?_
  refine KA (KAX Try.underlying24 rfl) (Nb rfl) ?_
  refine KA (KK rfl rfl (br_geq)) (Nb rfl) ?_
  refine KG ?_
  first|refine Kh rfl (fun h12=>?_) (fun h12=>?_)|refine Kj rfl (fun h12=>?_) (fun h12=>?_)
  ·
    have h12:n≤k/32:=by have:=h12; omega
    refine KD (KB ?_)
    refine KA (KF rfl) (Nb rfl) ?_
    refine KG (KX ?_)
    have hz:A/2^k = 0:=Nat.div_eq_of_lt (Nat.lt_of_lt_of_le hA (Nat.pow_le_pow_right (by decide) (by omega)))
    rw [hz]
    refine ⟨[_],.cons rfl .nil,fun a w' hr=>hr.numNil⟩
  ·
    have h12:¬ n≤k/32:=by have:=h12; omega
    refine Kf ?_
    refine KD ?_
    have hAk:A/2^k<2^(32*(n-k/32)):=by
      rw [Nat.div_lt_iff_lt_mul (Nat.pow_pos (by decide)),← Nat.pow_add]
      exact Nat.lt_of_lt_of_le hA (Nat.pow_le_pow_right (by decide) (by omega))
    refine KB ?_
    refine KA (KC rfl) (Nb rfl) ?_
    refine KA (KAX Try.underlying24 rfl) (Nb rfl) ?_
    refine KA (KC rfl) (Nb rfl) ?_
    refine KA (KK rfl rfl (br_quo (b:=32) (by omega) (by omega))) (Nb rfl) ?_
    refine KA (KK rfl rfl (br_sub (by omega) (by omega))) (Nb rfl) ?_
    refine KI rfl (KS (KR (Makes.mkV Try.underlying24 inf_67 rfl rfl (by omega) (by omega)) (Nb rfl) (fun b18=>?_)))
    refine KA (KF rfl) (Nb rfl) ?_
    refine KG ?_
    refine KD ?_
    refine KD (KB ?_)
    refine KA (KF (v:=.int .i64 ((0:Nat):Int)) rfl) (Nb rfl) ?_
    refine KG ?_
    refine LCode.block ?_
    refine KAN (α:=Nat) (fun x=>x≤n-k/32) (fun x=>⟨[(0,slV q n),(1,.int .i64 ((k:Nat):Int)),(5,.slice (some ⟨b18,0,none⟩) (n-k/32) (n-k/32)),(6,.int .i64 ((x:Nat):Int))],[.blk b18 ⟨true,vec .u32 (n-k/32) (fun j=>if j<x then D.limb (A/2^k) j else 0),67,(0,0)⟩,numI q A n]⟩) (fun x=>n-k/32-x) (0) (Nat.zero_le _) (KAG ⟨rfl,rfl,rfl,rfl,trivial⟩ (by repeat (first|exact Sel.nil _|refine Sel.cons (by repeat (first|exact Ph _|apply Pt_)) ?_))) ?_
    intro x hx
    refine KD ?_
    refine KD (KB ?_)
    refine KA (KC rfl) (Nb rfl) ?_
    refine KA (KC rfl) (Nb rfl) ?_
    refine KA (KAX Try.underlying24 rfl) (Nb rfl) ?_
    refine KA (KK rfl rfl (KAp)) (Nb rfl) ?_
    refine KG ?_
    first|refine Kh rfl (fun h22=>?_) (fun h22=>?_)|refine Kj rfl (fun h22=>?_) (fun h22=>?_)
    ·
      refine Kf ?_
      refine KD ?_
      refine LCode.block ?_
      refine KD (KB ?_)
      refine KA (KC rfl) (Nb rfl) ?_
      refine KA (KC rfl) (Nb rfl) ?_
      refine KA (KC rfl) (Nb rfl) ?_
      refine KA (KK rfl rfl (br_quo (b:=32) (by omega) (by omega))) (Nb rfl) ?_
      refine KA (KK rfl rfl (KAL (by omega))) (Nb rfl) ?_
      refine KI rfl (KS (KP (first:=[]) rfl en_95 rfl (Nb rfl) (fun w hw=>c_n_digit q A n (x+k/32) w (hw _ (by repeat (first|exact Mh _|apply Mt)))) ?_))
      refine KA (KC rfl) (Nb rfl) ?_
      refine KA (KC rfl) (Nb rfl) ?_
      refine KA (KC rfl) (Nb rfl) ?_
      refine KA (KK rfl rfl (br_quo (b:=32) (by omega) (by omega))) (Nb rfl) ?_
      refine KA (KK rfl rfl (KAL (by omega))) (Nb rfl) ?_
      refine KA (KK rfl rfl (KAL (b:=1) (by omega))) (Nb rfl) ?_
      refine KI rfl (KS (KP (first:=[]) rfl en_95 rfl (Nb rfl) (fun w hw=>c_n_digit q A n (x+k/32+1) w (hw _ (by repeat (first|exact Mh _|apply Mt)))) ?_))
      refine KA (KK rfl rfl (br_shl64 (b:=32))) (Nb rfl) ?_
      refine KA (KK rfl rfl (br_or64 (Nat.lt_trans (D.limb_lt _ _) (by decide)) (Nat.mod_lt _ (by decide)))) (Nb rfl) ?_
      refine KA (KF rfl) (Nb rfl) ?_
      refine KG ?_
      refine KB ?_
      refine KA (KC rfl) (Nb rfl) ?_
      refine KA (KC rfl) (Nb rfl) ?_
      refine KA (KC rfl) (Nb rfl) ?_
      refine KA (KC rfl) (Nb rfl) ?_
      refine KA (KK rfl rfl (br_rem (b:=32) (by omega))) (Nb rfl) ?_
      refine KA (KK rfl rfl (KAe (Nat.or_lt_two_pow (n:=64) (Nat.lt_trans (D.limb_lt _ _) (by decide)) (Nat.mod_lt _ (by decide))))) (Nb rfl) ?_
      refine KA (KK rfl rfl (br_and64 (b:=4294967295) (Nat.lt_of_le_of_lt (Nat.div_le_self _ _) (Nat.or_lt_two_pow (n:=64) (Nat.lt_trans (D.limb_lt _ _) (by decide)) (Nat.mod_lt _ (by decide)))) (by decide))) (Nb rfl) ?_
      refine KA (KAj Try.underlying30 Try.underlying67 rfl) (Nb rfl) ?_
      refine KA (KAE Try.underlying24 sz_67 rfl rfl (by omega)) (Nb rfl) ?_
      refine KI rfl (KAB rfl rfl rfl sz_67 (by repeat (first|exact Sh _|apply St_)) (by first|(simp only [KN,KH,KJ,KAK]; omega)|(simp; omega)) (by first|exact KAY _ _ _ _ _|exact KAa _ _ _ _ (by omega)|exact KAZ _ _ _ _|rfl) (by simp) ?_)
      refine KG ?_
      refine KB ?_
      refine KA (KC rfl) (Nb rfl) ?_
      refine KA (KK rfl rfl (KAL (b:=1) (by omega))) (Nb rfl) ?_
      refine KA (KF rfl) (Nb rfl) ?_
      refine KG ?_
      refine ⟨x+1,by omega,by omega,KAh (Sub.cells (b:=b18) (cs':=vec .u32 (n-k/32) (fun j=>if j<x+1 then D.limb (A/2^k) j else 0)) (by repeat (first|exact Sh _|apply St_)) (KAU fun j hj=>?_)) (KAG ⟨rfl,rfl,rfl,rfl,trivial⟩ (by repeat (first|exact Sel.nil _|refine Sel.cons (by repeat (first|exact Ph _|apply Pt_)) ?_)))⟩
      by_cases e:j = x
      · rw [if_pos e,if_pos (by omega),e,and32,Nat.mod_mod]
        exact shift_dig.symm
      · rw [if_neg e]
        by_cases e3:j<x
        · rw [if_pos e3,if_pos (by omega)]
        · rw [if_neg e3,if_neg (by omega)]
    ·
      refine KAH ?_
      refine KD ?_
      obtain rfl:x = n-k/32:=by omega
      refine LCode.sub (Sub.cells (b:=b18) (cs':=vec .u32 (n-k/32) (D.limb (A/2^k))) (by repeat (first|exact Sh _|apply St_)) (KAU fun j hj=>if_pos hj)) ?_
      refine KB ?_
      refine KA (KC rfl) (Nb rfl) ?_
      refine KI rfl (KS (KP (first:=[]) rfl en_87 rfl (Nb rfl) (fun w hw=>c_trim (A/2^k) b18 (n-k/32) (n-k/32) (n-k/32) _ true w (hw _ (by repeat (first|exact Mh _|apply Mt))) (Nat.le_refl _) (Nat.le_refl _) (by omega) hAk) ?_))
      refine KA (KF rfl) (Nb rfl) ?_
      refine KG (KX ?_)
      refine ⟨[_],.cons rfl .nil,fun a w' hr=>hr.num (by repeat (first|exact Mh _|apply Mt)) (hAk)⟩
end Go.Proofs.Ytlmiolnccgjjjaa
set_option linter.unusedVariables false
namespace Go.Proofs.Ytlmiolnccgjjjaa.D
open Go Go.RowKit
theorem mod_nw (A:Nat):A%2^(32*nw A) = A:=Nat.mod_eq_of_lt (lt_nw A)
theorem mod_zero_word (A B:Nat):A%2^(32*0)*B = 0:=by rw [Nat.mul_zero,Nat.pow_zero,Nat.mod_one,Nat.zero_mul]
theorem row_end {X c A B i : Nat} (h : X + c * 2 ^ (32 * (i + nw B)) = A % 2 ^ (32 * i) * B + limb A i * (B % 2 ^ (32 * nw B)) * 2 ^ (32 * i)) (hX : X < 2 ^ (32 * (i + nw B))) :
    setl X (i+nw B) c = A%2^(32*(i+1))*B:=by
  have h0:=limb_high hX (Nat.le_refl _)
  have h1:=setl_eq X (i+nw B) c
  rw [h0,Nat.zero_mul,Nat.add_zero] at h1
  rw [h1,h,mod_nw,mod_succ_limb,Nat.add_mul]
  congr 1
  rw [Nat.mul_assoc,Nat.mul_comm,Nat.mul_assoc,Nat.mul_assoc,Nat.mul_comm B]
  exact Nat.mul_assoc _ _ _
theorem row_zero (A B i:Nat):A%2^(32*i)*B+0*2^(32*(i+0)) = A%2^(32*i)*B+limb A i*(B%2^(32*0))*2^(32*i):=by
  rw [Nat.mul_zero,Nat.pow_zero,Nat.mod_one,Nat.mul_zero,Nat.zero_mul,Nat.zero_mul]
theorem row_lt (A B i:Nat):A%2^(32*i)*B<2^(32*(i+nw B)):=by
  rw [pow64_add]
  exact Nat.mul_lt_mul_of_lt_of_le (Nat.mod_lt _ (pow64_pos i)) (Nat.le_of_lt (lt_nw B)) (pow64_pos _)
theorem guess_facts {U m a : Nat} (hm : m ≠ 0) (hU : U < dnm m * 2 ^ (32 * (a + 1))) :
    limb U (a+nw m)*4294967296+limb U (a+nw m-1) = U/2^(32*a)/2^(32*(nw m-1))∧limb (dnm m) (nw m-1) = dnm m/2^(32*(nw m-1))∧2147483648≤limb (dnm m) (nw m-1) ∧
    U/2^(32*a)/dnm m≤U/2^(32*a)/2^(32*(nw m-1))/limb (dnm m) (nw m-1):=by
  have hn:=nw_pos hm
  have h1:=win_lt (dnm_lt m) hU
  rw [Nat.add_assoc] at h1
  have h2:=win_div h1
  obtain ⟨h3,h4⟩:=dnm_top hm
  refine ⟨?_,h3,h4,?_⟩
  · rw [show a+nw m-1 = a+(nw m-1) by omega,← limb_div,← limb_div]
    have:=two_words (R:=U/2^(32*a)) (j:=nw m-1) (by rw [show nw m-1+2 = nw m+1 by omega]; exact h2)
    rw [this,show nw m-1+1 = nw m by omega]
  · rw [h3]
    apply div_cut (pow64_pos _)
    rw [← h3]; omega
theorem guess_step {U m a q r : Nat} (hm : m ≠ 0) (hn : 2 ≤ nw m) (h1 : q * limb (dnm m) (nw m - 1) + r = U / 2 ^ (32 * a) / 2 ^ (32 * (nw m - 1)))
    (h2:r*4294967296+limb U (a+nw m-2)<q*limb (dnm m) (nw m-2)):U/2^(32*a)/dnm m<q:=by
  refine guess_more (k:=2^(32*(nw m-2))) (M:=4294967296) (pow64_pos _) (dnm_pos hm) (top:=limb (dnm m) (nw m-1)) (d2:=limb (dnm m) (nw m-2)) ?_ (R2:=U/2^(32*a)/2^(32*(nw m-1))) (u2:=limb U (a+nw m-2)) ?_ h1 h2
  · have:=two_words (R:=dnm m) (j:=nw m-2) (by rw [show nw m-2+2 = nw m by omega]; exact dnm_lt m)
    rw [this,show nw m-2+1 = nw m-1 by omega]
  · have:=next_word (U/2^(32*a)) (nw m-2)
    rw [this,limb_div,show nw m-2+1 = nw m-1 by omega,show a+(nw m-2) = a+nw m-2 by omega]
theorem two_le {a b r u:Nat} (hb:b<4294967296) (hu:u<4294967296) (h:r<a∨(a = r∧u<b)):r*4294967296+u<a*4294967296+b:=by omega
theorem guess_next {top r q d2 u R2:Nat} (h1:q*top+r = R2) (h0:0<q):(q-1)*top+(r+top) = R2:=by
  obtain ⟨p,rfl⟩:∃ p,q = p+1:=⟨q-1,by omega⟩
  rw [Nat.add_mul] at h1
  rw [Nat.add_sub_cancel]; omega
theorem take_pre {U q D a:Nat}:U+q*(D%2^(32*0))*2^(32*a) = U+(0+0)*2^(32*(a+0)):=by
  rw [Nat.mul_zero,Nat.pow_zero,Nat.mod_one,Nat.mul_zero,Nat.zero_mul,Nat.zero_mul]
theorem back_pre {U D a:Nat}:U+0*2^(32*(a+0)) = U+(D%2^(32*0))*2^(32*a):=by
  rw [Nat.mul_zero,Nat.pow_zero,Nat.mod_one,Nat.zero_mul,Nat.zero_mul]
theorem fill_zero (W s:Nat):W%2^(32*0)*2^s = 0:=by rw [Nat.mul_zero,Nat.pow_zero,Nat.mod_one,Nat.zero_mul]
theorem quo_store {K x y:Nat} (hx:x<4294967296) (j:Nat):(if j = y then x else limb (K*2^(32*(y+1))) j) = limb ((K*4294967296+x)*2^(32*y)) j:=by
  have h0:limb (K*2^(32*(y+1))) y = 0:=by
    unfold limb
    rw [pow64_succ,← Nat.mul_assoc,Nat.mul_div_cancel _ (pow64_pos y),Nat.mul_mod_left]
  have:=limb_addl (K*2^(32*(y+1))) x y j (by rw [h0]; omega)
  rw [h0,Nat.zero_add] at this
  rw [← this,Nat.add_mul,pow64_succ,Nat.mul_assoc]
theorem quo_sum {U U0 K x y D V:Nat} (h1:U+x*D*2^(32*y) = U0) (h2:U0+K*2^(32*(y+1))*D = V):U+(K*4294967296+x)*2^(32*y)*D = V:=by
  rw [← h2,← h1,pow64_succ]
  generalize 2^(32*y) = A
  grind
theorem guess_bound {U m a q r : Nat} (hm : m ≠ 0) (hn : 2 ≤ nw m) (hq : q < 4294967296) (h1 : q * limb (dnm m) (nw m - 1) + r = U / 2 ^ (32 * a) / 2 ^ (32 * (nw m - 1)))
    (h2:q*limb (dnm m) (nw m-2)≤r*4294967296+limb U (a+nw m-2)):q≤U/2^(32*a)/dnm m+1:=by
  have hD:=two_words (R:=dnm m) (j:=nw m-2) (by rw [show nw m-2+2 = nw m by omega]; exact dnm_lt m)
  rw [show nw m-2+1 = nw m-1 by omega] at hD
  have hR:=next_word (U/2^(32*a)) (nw m-2)
  rw [limb_div,show nw m-2+1 = nw m-1 by omega,show a+(nw m-2) = a+nw m-2 by omega] at hR
  obtain ⟨ht1,ht2⟩:=dnm_top hm
  have hDp:=dnm_pos hm
  have hk:0<2^(32*(nw m-2)):=pow64_pos _
  generalize hRe:U/2^(32*a) = R at *
  generalize dnm m = D at *
  generalize 2^(32*(nw m-2)) = k at *
  generalize limb D (nw m-1) = v1 at *
  generalize limb D (nw m-2) = v2 at *
  generalize limb U (a+nw m-2) = u2 at *
  generalize R/2^(32*(nw m-1)) = x at *
  have h3:q*(D/k)≤R/k:=by
    rw [hD,hR,← h1,Nat.mul_add,Nat.add_mul,← Nat.mul_assoc]
    omega
  have h4:q<D/k:=by rw [hD]; omega
  have hD2:=Nat.div_add_mod D k
  have hD3:=Nat.mod_lt D hk
  have hR2:=Nat.div_mul_le_self R k
  have h5:q*(D/k)*k≤R:=Nat.le_trans (Nat.mul_le_mul_right k h3) hR2
  generalize D/k = V at *
  generalize D%k = d0 at *
  refine Nat.le_of_not_lt fun h=>?_
  have h6:R<(R/D+1)*D:=by
    have e1:=Nat.div_add_mod R D
    have e2:=Nat.mod_lt R hDp
    rw [Nat.add_mul,Nat.one_mul,Nat.mul_comm (R/D)]; omega
  have h0:R/D+1≤q-1:=Nat.le_sub_one_of_lt h
  have h7:(R/D+1)*D≤(q-1)*D:=Nat.mul_le_mul_right D h0
  obtain ⟨p,rfl⟩:∃ p,q = p+1:=⟨q-1,(Nat.sub_add_cancel (Nat.lt_of_le_of_lt (Nat.zero_le _) h)).symm⟩
  rw [Nat.add_sub_cancel] at h7
  have e3:p*D = p*(k*V)+p*d0:=by rw [← Nat.mul_add,hD2]
  rw [e3] at h7
  have h8:p*d0≤p*k:=Nat.mul_le_mul_left p (by omega)
  have h9:p*k≤V*k:=Nat.mul_le_mul_right k (by omega)
  rw [Nat.mul_comm k V,← Nat.mul_assoc] at h7
  rw [Nat.add_mul,Nat.add_mul,Nat.one_mul] at h5
  generalize p*V*k = X at *
  generalize (R/D+1)*D = Y at *
  generalize p*d0 = Z at *
  omega
theorem guess_top {U m a:Nat} (hm:m≠0) (hU:U<dnm m*2^(32*(a+1))):U/2^(32*a)/2^(32*(nw m-1))<(limb (dnm m) (nw m-1)+1)*4294967296:=by
  have h1:U/2^(32*a)<dnm m*4294967296:=by
    rw [Nat.div_lt_iff_lt_mul (pow64_pos a),Nat.mul_assoc,← pow64_succ]; exact hU
  rw [(dnm_top hm).1,Nat.div_lt_iff_lt_mul (pow64_pos _)]
  refine Nat.lt_trans h1 ?_
  rw [Nat.mul_right_comm]
  refine Nat.mul_lt_mul_of_pos_right ?_ (by decide)
  rw [Nat.add_mul,Nat.one_mul]
  have:=Nat.div_add_mod (dnm m) (2^(32*(nw m-1)))
  have:=Nat.mod_lt (dnm m) (pow64_pos (nw m-1))
  rw [Nat.mul_comm]; omega
theorem guess_small {v q r x:Nat} (h1:q*v+r = x) (h2:x<(v+1)*4294967296) (h3:4294967296≤r):q<4294967296:=by
  refine Nat.lt_of_not_le fun h=>?_
  have:=Nat.mul_le_mul_right v h
  rw [Nat.add_mul,Nat.one_mul] at h2
  rw [Nat.mul_comm v] at h2
  omega
theorem back_enough {U' U0 D T d a c:Nat} (hD:0<D) (hc:c≤1) (hd:d-1≤U0/2^(32*a)/D) (h:U'+(d-1)*D*2^(32*a) = U0+(1-c)*T) (hU:U' < T):c = 1:=by
  rcases Nat.lt_or_ge c 1 with h0|h0
  · exfalso
    have hc0:c = 0:=by omega
    subst hc0
    have h1:(d-1)*D*2^(32*a)≤U0:=by
      have h2:(d-1)*D≤U0/2^(32*a):=Nat.le_trans (Nat.mul_le_mul_right D hd) (Nat.div_mul_le_self _ _)
      exact Nat.le_trans (Nat.mul_le_mul_right _ h2) (Nat.div_mul_le_self _ _)
    omega
  · omega
theorem nw_dnm {m:Nat} (hm:m≠0):nw (dnm m) = nw m:=nw_eq (dnm_lt m) (.inr (by
  have h1:=(dnm_top hm).2
  rw [(dnm_top hm).1] at h1
  have h2:=Nat.mul_le_mul_right (2^(32*(nw m-1))) (Nat.le_trans (show 1≤2147483648 by decide) h1)
  rw [Nat.one_mul] at h2
  exact Nat.le_trans h2 (Nat.div_mul_le_self _ _)))
theorem limb_up_w (X w j:Nat):limb (X*2^(32*w)) j = if j<w then 0 else limb X (j-w):=by
  unfold limb
  by_cases h:j<w
  · rw [if_pos h]
    obtain ⟨d,rfl⟩:∃ d,w = j+(d+1):=⟨w-j-1,by omega⟩
    rw [pow64_add,Nat.mul_comm (2^(32*j)),← Nat.mul_assoc,Nat.mul_div_cancel _ (pow64_pos j),pow64_succ,Nat.mul_comm 4294967296,← Nat.mul_assoc,Nat.mul_mod_left]
  · rw [if_neg h]
    obtain ⟨d,rfl⟩:∃ d,j = w+d:=⟨j-w,by omega⟩
    rw [pow64_add,← Nat.div_div_eq_div_mul,Nat.mul_div_cancel _ (pow64_pos w),Nat.add_sub_cancel_left]
theorem shl_high {z s:Nat} (hs:s<32):z*2^s/4294967296 = z/2^(32-s):=by
  have e1:(4294967296:Nat) = 2^s*2^(32-s):=by rw [← Nat.pow_add,show s+(32-s) = 32 by omega]
  rw [e1,← Nat.div_div_eq_div_mul,Nat.mul_div_cancel _ (Nat.pow_pos (by decide))]
theorem shl_small {z s:Nat} (hs:s<32) (hz:z<4294967296):z*2^s<18446744073709551616:=by
  have h1:2^s≤2^31:=Nat.pow_le_pow_right (by decide) (by omega)
  have h2:=Nat.mul_le_mul (Nat.le_of_lt hz) h1
  omega
theorem shl_split (X k:Nat):X*2^k = X*2^(k%32)*2^(32*(k/32)):=by
  rw [Nat.mul_assoc,← Nat.pow_add,show k%32+32*(k/32) = k by omega]
theorem shl_step {A k i : Nat} (j : Nat) : limb (A % 2 ^ (32 * (i + 1)) * 2 ^ k) j =
    if j = i+k/32+1 then limb A i*2^(k%32)/4294967296 else if j = i+k/32 then (limb (A%2^(32*i)*2^k) (i+k/32) ||| limb A i*2^(k%32)%4294967296) else limb (A%2^(32*i)*2^k) j:=by
  have hs:k%32<32:=Nat.mod_lt _ (by decide)
  rw [shl_split _ k,shl_split (A%2^(32*i)) k,limb_up_w,limb_up_w,limb_up_w,shl_high hs,fill_step hs,if_neg (show ¬ (i+k/32<k/32) by omega),Nat.add_sub_cancel]
  by_cases h:j<k/32
  · rw [if_pos h,if_pos h,if_neg (by omega),if_neg (by omega)]
  · rw [if_neg h,if_neg h]
    by_cases h1:j = i+k/32+1
    · rw [if_pos h1,if_pos (by omega)]
    · rw [if_neg h1,if_neg (show ¬ j-k/32 = i+1 by omega)]
      by_cases h2:j = i+k/32
      · rw [if_pos h2,if_pos (by omega)]
      · rw [if_neg h2,if_neg (by omega)]
theorem shl_lt {A k:Nat}:A*2^k<2^(32*(nw A+k/32+1)):=by
  have h1:=Nat.mul_lt_mul_of_pos_right (lt_nw A) (Nat.pow_pos (n:=k) (show 0<2 by decide))
  rw [← Nat.pow_add] at h1
  exact Nat.lt_of_lt_of_le h1 (Nat.pow_le_pow_right (by decide) (by omega))
theorem short_step {A m i K r : Nat} (hm : 0 < m) (h1 : K = A / 2 ^ (32 * (i + 1)) / m) (h2 : r = A / 2 ^ (32 * (i + 1)) % m) :
    (r*4294967296+limb A i)/m+K*4294967296 = A/2^(32*i)/m∧(r*4294967296+limb A i)%m = A/2^(32*i)%m:=by
  rw [div_pow_succ A i]
  generalize A/2^(32*(i+1)) = q at *
  have h3:=Nat.div_add_mod q m
  have e:limb A i+4294967296*q = (r*4294967296+limb A i)+m*(K*4294967296):=by
    rw [h2,h1]
    conv=>lhs; rw [← h3]
    rw [Nat.mul_add,← Nat.mul_assoc m (q/m)]
    omega
  rw [e,Nat.add_mul_div_left _ _ hm,Nat.add_mul_mod_self_left]
  exact ⟨rfl,rfl⟩
end Go.Proofs.Ytlmiolnccgjjjaa.D
set_option linter.unusedVariables false
set_option linter.unusedSimpArgs false
set_option maxRecDepth 20000
namespace Go.Proofs.Ytlmiolnccgjjjaa
open Go Go.RowKit
theorem c_n_Mul (q r:NV) (A B:Nat) (w:World) (hq:(numT q A).holds w) (hr:(numT r B).holds w) (hA:D.nw A≤100000) (hB:D.nw B≤100000):Calls Try.prog 104 ([numV q A,numV r B]:List Value).toArray w (fun e w'=>NumR w ([]) (A*B) (fun v=>v) e w'):=by
  refine Ky (N:=69) (rs:=[.tmp 4]) [numT q A,numT r B] Try.func104 rfl Try.ntmps104 Try.results104 (Nb rfl) ⟨hq,hr,trivial⟩ rfl ?_
  show LCode _ _ _ ⟨_,_⟩ _
  refine KD (KB ?_)
  refine KA (KF rfl) (Nb rfl) ?_
  refine KG ?_
  refine KD (KB ?_)
  refine KA (KC rfl) (Nb rfl) ?_
  refine KA (KAX Try.underlying24 rfl) (Nb rfl) ?_
  refine KA (KC rfl) (Nb rfl) ?_
  refine KA (KAX Try.underlying24 rfl) (Nb rfl) ?_
  refine KA (KK rfl rfl (KAL (by omega))) (Nb rfl) ?_
  refine KI rfl (KS (KR (Makes.mkV Try.underlying24 inf_67 rfl rfl (by omega) (by omega)) (Nb rfl) (fun b15=>?_)))
  refine KA (KF rfl) (Nb rfl) ?_
  refine KG ?_
  refine KD ?_
  refine KD (KB ?_)
  refine KA (KF (v:=.int .i64 ((0:Nat):Int)) rfl) (Nb rfl) ?_
  refine KG ?_
  refine LCode.block ?_
  refine KAN (α:=Nat) (fun x=>x≤D.nw A) (fun x=>⟨[(0,numV q A),(1,numV r B),(5,.slice (some ⟨b15,0,none⟩) (D.nw A+D.nw B) (D.nw A+D.nw B)),(6,.int .i64 ((x:Nat):Int))],[.blk b15 ⟨true,vec .u32 (D.nw A+D.nw B) (D.limb (A%2^(32*x)*B)),67,(0,0)⟩,numT q A,numT r B]⟩) (fun x=>D.nw A-x) (0) (Nat.zero_le _) (KAh (Sub.cells (b:=b15) (cs':=vec .u32 (D.nw A+D.nw B) (D.limb (A%2^(32*0)*B))) (by repeat (first|exact Sh _|apply St_)) (by rw [D.mod_zero_word]; exact D.vec_zeros _)) (KAG ⟨rfl,rfl,rfl,rfl,trivial⟩ (by repeat (first|exact Sel.nil _|refine Sel.cons (by repeat (first|exact Ph _|apply Pt_)) ?_)))) ?_
  intro i hi
  refine KD ?_
  refine KD (KB ?_)
  refine KA (KC rfl) (Nb rfl) ?_
  refine KA (KC rfl) (Nb rfl) ?_
  refine KA (KAX Try.underlying24 rfl) (Nb rfl) ?_
  refine KA (KK rfl rfl (KAp)) (Nb rfl) ?_
  refine KG ?_
  first|refine Kh rfl (fun h19=>?_) (fun h19=>?_)|refine Kj rfl (fun h19=>?_) (fun h19=>?_)
  ·
    have h19:i<D.nw A:=h19
    refine Kf ?_
    refine KD ?_
    refine LCode.block ?_
    refine KD (KB ?_)
    refine KA (KF (v:=.int .u64 ((0:Nat):Int)) rfl) (Nb rfl) ?_
    refine KG ?_
    refine KD ?_
    refine KD (KB ?_)
    refine KA (KF (v:=.int .i64 ((0:Nat):Int)) rfl) (Nb rfl) ?_
    refine KG ?_
    refine LCode.block ?_
    refine KAN (α:=Nat×Nat×Nat) (fun x=>x.1≤D.nw B∧x.2.2<4294967296∧x.2.1<2^(32*(i+D.nw B))∧x.2.1+x.2.2*2^(32*(i+x.1)) = A%2^(32*i)*B+D.limb A i*(B%2^(32*x.1))*2^(32*i)) (fun x=>⟨[(0,numV q A),(1,numV r B),(5,.slice (some ⟨b15,0,none⟩) (D.nw A+D.nw B) (D.nw A+D.nw B)),(6,.int .i64 ((i:Nat):Int)),(7,.int .u64 ((x.2.2:Nat):Int)),(8,.int .i64 ((x.1:Nat):Int))],[.blk b15 ⟨true,vec .u32 (D.nw A+D.nw B) (D.limb x.2.1),67,(0,0)⟩,numT q A,numT r B]⟩) (fun x=>D.nw B-x.1) ((0,A%2^(32*i)*B,0)) (⟨Nat.zero_le _,show (0:Nat)<4294967296 by decide,D.row_lt A B i,D.row_zero A B i⟩) (KAG ⟨rfl,rfl,rfl,rfl,rfl,rfl,trivial⟩ (by repeat (first|exact Sel.nil _|refine Sel.cons (by repeat (first|exact Ph _|apply Pt_)) ?_))) ?_
    intro x ⟨hx1,hx2,hx3,hx4⟩
    refine KD ?_
    refine KD (KB ?_)
    refine KA (KC rfl) (Nb rfl) ?_
    refine KA (KC rfl) (Nb rfl) ?_
    refine KA (KAX Try.underlying24 rfl) (Nb rfl) ?_
    refine KA (KK rfl rfl (KAp)) (Nb rfl) ?_
    refine KG ?_
    first|refine Kh rfl (fun h25=>?_) (fun h25=>?_)|refine Kj rfl (fun h25=>?_) (fun h25=>?_)
    ·
      have h25:x.1<D.nw B:=h25
      refine Kf ?_
      refine KD ?_
      refine LCode.block ?_
      refine KD ?_
      have hla:=D.limb_lt A i
      have hlb:=D.limb_lt B x.1
      have hlx:=D.limb_lt x.2.1 (i+x.1)
      have hw:=D.row_word hla hlb hlx hx2
      refine Kg [] (by kernel_rfl) ?_
      refine KE 0 rfl (by kernel_rfl) (Nb rfl) (KC rfl) ?_
      refine KE 1 rfl (by kernel_rfl) (Nb rfl) (KC rfl) ?_
      refine KE 2 rfl (by kernel_rfl) (Nb rfl) (KAo Try.underlying24 sz_67 rfl rfl (by omega)) ?_
      refine LAny.take 3 rfl (by kernel_rfl) (Nb rfl) (Det.loadN Try.underlying67 rfl rfl (by repeat (first|exact Mh _|apply Mt)) (by omega)) ?_
      refine KE 4 rfl (by kernel_rfl) (Nb rfl) (KAW Try.underlying67 Try.underlying30 rfl (by first|omega|exact Nat.lt_trans (D.limb_lt _ _) (by decide))) ?_
      refine KE 5 rfl (by kernel_rfl) (Nb rfl) (KC rfl) ?_
      refine KE 6 rfl (by kernel_rfl) (Nb rfl) (KC rfl) ?_
      refine KE 7 rfl (by kernel_rfl) (Nb rfl) (KAo Try.underlying24 sz_67 rfl rfl (by omega)) ?_
      refine LAny.take 8 rfl (by kernel_rfl) (Nb rfl) (Det.loadN Try.underlying67 rfl rfl (by repeat (first|exact Mh _|apply Mt)) (by omega)) ?_
      refine KE 9 rfl (by kernel_rfl) (Nb rfl) (KAW Try.underlying67 Try.underlying30 rfl (by first|omega|exact Nat.lt_trans (D.limb_lt _ _) (by decide))) ?_
      refine KE 10 rfl (by kernel_rfl) (Nb rfl) (KT (KK rfl rfl br_mul64) (vi (b:=D.limb A i*D.limb B x.1) (by omega))) ?_
      refine KE 11 rfl (by kernel_rfl) (Nb rfl) (KC rfl) ?_
      refine KE 12 rfl (by kernel_rfl) (Nb rfl) (KC rfl) ?_
      refine KE 13 rfl (by kernel_rfl) (Nb rfl) (KC rfl) ?_
      refine KE 14 rfl (by kernel_rfl) (Nb rfl) (KK rfl rfl (KAL (by omega))) ?_
      refine KE 15 rfl (by kernel_rfl) (Nb rfl) (KAE Try.underlying24 sz_67 rfl rfl (by omega)) ?_
      refine LAny.take 16 rfl (by kernel_rfl) (Nb rfl) (KL rfl (by repeat (first|exact Mh _|apply Mt)) (Kb Try.underlying67 rfl (by exact Ku _ _ _ (show i+x.1<D.nw A+D.nw B by omega)))) ?_
      refine KE 17 rfl (by kernel_rfl) (Nb rfl) (KAW Try.underlying67 Try.underlying30 rfl (by first|omega|exact Nat.lt_trans (D.limb_lt _ _) (by decide))) ?_
      refine KE 18 rfl (by kernel_rfl) (Nb rfl) (KT (KK rfl rfl KAf) (vi (b:=D.limb A i*D.limb B x.1+D.limb x.2.1 (i+x.1)) (by omega))) ?_
      refine KE 19 rfl (by kernel_rfl) (Nb rfl) (KC rfl) ?_
      refine KE 20 rfl (by kernel_rfl) (Nb rfl) (KT (KK rfl rfl KAf) (vi (b:=D.limb A i*D.limb B x.1+D.limb x.2.1 (i+x.1)+x.2.2) (by omega))) ?_
      refine KE 21 rfl (by kernel_rfl) (Nb rfl) (KF rfl) ?_
      refine Ko (by kernel_rfl) ?_
      refine KD (KB ?_)
      refine KA (KC rfl) (Nb rfl) ?_
      refine KA (KC rfl) (Nb rfl) ?_
      refine KA (KC rfl) (Nb rfl) ?_
      refine KA (KK rfl rfl (KAL (by omega))) (Nb rfl) ?_
      refine KA (KC rfl) (Nb rfl) ?_
      refine KA (KK rfl rfl (br_and64 (b:=4294967295) (by omega) (by decide))) (Nb rfl) ?_
      refine KA (KAj Try.underlying30 Try.underlying67 rfl) (Nb rfl) ?_
      refine KA (KAE Try.underlying24 sz_67 rfl rfl (by omega)) (Nb rfl) ?_
      refine KI rfl (KAB rfl rfl rfl sz_67 (by repeat (first|exact Sh _|apply St_)) (by first|(simp only [KN,KH,KJ,KAK]; omega)|(simp; omega)) (by first|exact KAY _ _ _ _ _|exact KAa _ _ _ _ (by omega)|exact KAZ _ _ _ _|rfl) (by simp) ?_)
      refine KG ?_
      refine KB ?_
      refine KA (KC rfl) (Nb rfl) ?_
      refine KA (KK rfl rfl (KAe (b:=32) (by omega))) (Nb rfl) ?_
      refine KA (KF rfl) (Nb rfl) ?_
      refine KG ?_
      refine KB ?_
      refine KA (KC rfl) (Nb rfl) ?_
      refine KA (KK rfl rfl (KAL (b:=1) (by omega))) (Nb rfl) ?_
      refine KA (KF rfl) (Nb rfl) ?_
      refine KG ?_
      refine ⟨(x.1+1,D.setl x.2.1 (i+x.1) ((D.limb A i*D.limb B x.1+D.limb x.2.1 (i+x.1)+x.2.2)%4294967296),(D.limb A i*D.limb B x.1+D.limb x.2.1 (i+x.1)+x.2.2)/4294967296),⟨by dsimp only; omega,by dsimp only; omega,D.setl_lt hx3 (by omega) (Nat.mod_lt _ (by decide)),D.row_step hx4 rfl rfl⟩,by dsimp only; omega,
        KAh (Sub.cells (b:=b15) (cs':=vec .u32 (D.nw A+D.nw B) (D.limb (D.setl x.2.1 (i+x.1) ((D.limb A i*D.limb B x.1+D.limb x.2.1 (i+x.1)+x.2.2)%4294967296)))) (by repeat (first|exact Sh _|apply St_)) ?_) (KAG ⟨rfl,rfl,rfl,rfl,rfl,rfl,trivial⟩ (by repeat (first|exact Sel.nil _|refine Sel.cons (by repeat (first|exact Ph _|apply Pt_)) ?_)))⟩
      rw [and32,Nat.mod_mod]
      exact D.vec_setl (Nat.mod_lt _ (by decide))
    ·
      have h25:¬ x.1<D.nw B:=h25
      refine KAH ?_
      refine KB ?_
      refine KA (KC rfl) (Nb rfl) ?_
      refine KA (KC rfl) (Nb rfl) ?_
      refine KA (KC rfl) (Nb rfl) ?_
      refine KA (KAX Try.underlying24 rfl) (Nb rfl) ?_
      refine KA (KK rfl rfl (KAL (by omega))) (Nb rfl) ?_
      refine KA (KC rfl) (Nb rfl) ?_
      refine KA (KT (KAj Try.underlying30 Try.underlying67 rfl) (vi (b:=x.2.2) (Nat.mod_eq_of_lt hx2))) (Nb rfl) ?_
      refine KA (KAE Try.underlying24 sz_67 rfl rfl (by omega)) (Nb rfl) ?_
      refine KI rfl (KAB rfl rfl rfl sz_67 (by repeat (first|exact Sh _|apply St_)) (by first|(simp only [KN,KH,KJ,KAK]; omega)|(simp; omega)) (by first|exact KAY _ _ _ _ _|exact KAa _ _ _ _ (by omega)|exact KAZ _ _ _ _|rfl) (by simp) ?_)
      refine KG ?_
      refine KB ?_
      refine KA (KC rfl) (Nb rfl) ?_
      refine KA (KK rfl rfl (KAL (b:=1) (by omega))) (Nb rfl) ?_
      refine KA (KF rfl) (Nb rfl) ?_
      refine KG ?_
      refine ⟨i+1,by omega,by omega,KAh (Sub.cells (b:=b15) (cs':=vec .u32 (D.nw A+D.nw B) (D.limb (A%2^(32*(i+1))*B))) (by repeat (first|exact Sh _|apply St_)) ?_) (KAG ⟨rfl,rfl,rfl,rfl,trivial⟩ (by repeat (first|exact Sel.nil _|refine Sel.cons (by repeat (first|exact Ph _|apply Pt_)) ?_)))⟩
      have hk:x.1 = D.nw B:=by omega
      rw [hk] at hx4
      rw [← D.row_end hx4 hx3]
      exact D.vec_setl hx2
  ·
    have h19:¬ i<D.nw A:=h19
    refine KAH ?_
    refine KD ?_
    have hi9:i = D.nw A:=by omega
    subst hi9
    have hAB:A*B<2^(32*(D.nw A+D.nw B)):=by
      rw [D.pow64_add]
      exact Nat.mul_lt_mul_of_lt_of_le (D.lt_nw A) (Nat.le_of_lt (D.lt_nw B)) (D.pow64_pos _)
    refine LCode.sub (Sub.cells (b:=b15) (cs':=vec .u32 (D.nw A+D.nw B) (D.limb (A*B))) (by repeat (first|exact Sh _|apply St_)) (by rw [D.mod_nw])) ?_
    refine KB ?_
    refine KA (KC rfl) (Nb rfl) ?_
    refine KI rfl (KS (KP (first:=[]) rfl en_87 rfl (Nb rfl) (fun w hw=>c_trim (A*B) b15 (D.nw A+D.nw B) (D.nw A+D.nw B) (D.nw A+D.nw B) _ true w (hw _ (by repeat (first|exact Mh _|apply Mt))) (Nat.le_refl _) (Nat.le_refl _) (by omega) hAB) ?_))
    refine KA (KF rfl) (Nb rfl) ?_
    refine KG (KX ?_)
    refine ⟨[_],.cons rfl .nil,fun a w' hr=>hr.num (by repeat (first|exact Mh _|apply Mt)) (hAB)⟩
theorem c_n_Shl (q:NV) (A k:Nat) (w:World) (hq:(numT q A).holds w) (hA:D.nw A≤1000000) (hk:k≤32000000):Calls Try.prog 133 ([numV q A,.int .i64 ((k:Nat):Int)]:List Value).toArray w (fun e w'=>NumR w ([]) (A*2^k) (fun v=>v) e w'):=by
  refine Ky (N:=58) (rs:=[.tmp 4]) [numT q A] Try.func133 rfl Try.ntmps133 Try.results133 (Nb rfl) ⟨hq,trivial⟩ rfl ?_
  show LCode _ _ _ ⟨_,_⟩ _
  refine KD (KB ?_)
  refine KA (KF rfl) (Nb rfl) ?_
  refine KG ?_
  refine KD (KB ?_)
  refine KA (KC rfl) (Nb rfl) ?_
  refine KA (KAX Try.underlying24 rfl) (Nb rfl) ?_
  refine KA (KC rfl) (Nb rfl) ?_
  refine KA (KK rfl rfl (br_quo (b:=32) (by omega) (by omega))) (Nb rfl) ?_
  refine KA (KK rfl rfl (KAL (by omega))) (Nb rfl) ?_
  refine KA (KK rfl rfl (KAL (b:=1) (by omega))) (Nb rfl) ?_
  refine KI rfl (KS (KR (Makes.mkV Try.underlying24 inf_67 rfl rfl (by omega) (by omega)) (Nb rfl) (fun b14=>?_)))
  refine KA (KF rfl) (Nb rfl) ?_
  refine KG ?_
  refine KD ?_
  refine KD (KB ?_)
  refine KA (KF (v:=.int .i64 ((0:Nat):Int)) rfl) (Nb rfl) ?_
  refine KG ?_
  refine LCode.block ?_
  refine KAN (α:=Nat) (fun x=>x≤D.nw A) (fun x=>⟨[(0,numV q A),(1,.int .i64 ((k:Nat):Int)),(5,.slice (some ⟨b14,0,none⟩) (D.nw A+k/32+1) (D.nw A+k/32+1)),(6,.int .i64 ((x:Nat):Int))],[.blk b14 ⟨true,vec .u32 (D.nw A+k/32+1) (D.limb (A%2^(32*x)*2^k)),67,(0,0)⟩,numT q A]⟩) (fun x=>D.nw A-x) (0) (Nat.zero_le _) (KAh (Sub.cells (b:=b14) (cs':=vec .u32 (D.nw A+k/32+1) (D.limb (A%2^(32*0)*2^k))) (by repeat (first|exact Sh _|apply St_)) (by rw [D.mod_zero_word]; exact D.vec_zeros _)) (KAG ⟨rfl,rfl,rfl,rfl,trivial⟩ (by repeat (first|exact Sel.nil _|refine Sel.cons (by repeat (first|exact Ph _|apply Pt_)) ?_)))) ?_
  intro x hx
  refine KD ?_
  refine KD (KB ?_)
  refine KA (KC rfl) (Nb rfl) ?_
  refine KA (KC rfl) (Nb rfl) ?_
  refine KA (KAX Try.underlying24 rfl) (Nb rfl) ?_
  refine KA (KK rfl rfl (KAp)) (Nb rfl) ?_
  refine KG ?_
  first|refine Kh rfl (fun h18=>?_) (fun h18=>?_)|refine Kj rfl (fun h18=>?_) (fun h18=>?_)
  ·
    have h18:x<D.nw A:=h18
    refine Kf ?_
    refine KD ?_
    refine LCode.block ?_
    refine KD ?_
    have hla:=D.limb_lt A x
    have hsm:=D.shl_small (s:=k%32) (Nat.mod_lt _ (by decide)) hla
    have hst:=D.shl_step (A:=A) (k:=k) (i:=x)
    refine KB ?_
    refine KA (KC rfl) (Nb rfl) ?_
    refine KA (KC rfl) (Nb rfl) ?_
    refine KA (KAo Try.underlying24 sz_67 rfl rfl (by omega)) (Nb rfl) ?_
    refine LOps.det (Det.loadN Try.underlying67 rfl rfl (by repeat (first|exact Mh _|apply Mt)) (by omega)) (Nb rfl) ?_
    refine KA (KAW Try.underlying67 Try.underlying30 rfl (by first|omega|exact Nat.lt_trans (D.limb_lt _ _) (by decide))) (Nb rfl) ?_
    refine KA (KC rfl) (Nb rfl) ?_
    refine KA (KK rfl rfl (br_rem (b:=32) (by omega))) (Nb rfl) ?_
    refine KA (KT (KK rfl rfl br_shl64) (vi (b:=D.limb A x*2^(k%32)) (Nat.mod_eq_of_lt hsm))) (Nb rfl) ?_
    refine KA (KF rfl) (Nb rfl) ?_
    refine KG ?_
    refine KD (KB ?_)
    refine KA (KC rfl) (Nb rfl) ?_
    refine KA (KC rfl) (Nb rfl) ?_
    refine KA (KC rfl) (Nb rfl) ?_
    refine KA (KK rfl rfl (br_quo (b:=32) (by omega) (by omega))) (Nb rfl) ?_
    refine KA (KK rfl rfl (KAL (by omega))) (Nb rfl) ?_
    refine KA (KC rfl) (Nb rfl) ?_
    refine KA (KC rfl) (Nb rfl) ?_
    refine KA (KC rfl) (Nb rfl) ?_
    refine KA (KK rfl rfl (br_quo (b:=32) (by omega) (by omega))) (Nb rfl) ?_
    refine KA (KK rfl rfl (KAL (by omega))) (Nb rfl) ?_
    refine KA (KAE Try.underlying24 sz_67 rfl rfl (by omega)) (Nb rfl) ?_
    refine LOps.det (KL rfl (by repeat (first|exact Mh _|apply Mt)) (Kb Try.underlying67 rfl (by exact Ku _ _ _ (show x+k/32<D.nw A+k/32+1 by omega)))) (Nb rfl) ?_
    refine KA (KC rfl) (Nb rfl) ?_
    refine KA (KK rfl rfl (br_and64 (b:=4294967295) hsm (by decide))) (Nb rfl) ?_
    refine KA (KT (KAj Try.underlying30 Try.underlying67 rfl) (vi (b:=D.limb A x*2^(k%32)%4294967296) (by rw [and32,Nat.mod_mod]))) (Nb rfl) ?_
    refine KA (KK rfl rfl (br_or32 (D.limb_lt _ _) (Nat.mod_lt _ (by decide)))) (Nb rfl) ?_
    refine KA (KAE Try.underlying24 sz_67 rfl rfl (by omega)) (Nb rfl) ?_
    refine KI rfl (KAB rfl rfl rfl sz_67 (by repeat (first|exact Sh _|apply St_)) (by first|(simp only [KN,KH,KJ,KAK]; omega)|(simp; omega)) (by first|exact KAY _ _ _ _ _|exact KAa _ _ _ _ (by omega)|exact KAZ _ _ _ _|rfl) (by simp) ?_)
    refine KG ?_
    refine KB ?_
    refine KA (KC rfl) (Nb rfl) ?_
    refine KA (KC rfl) (Nb rfl) ?_
    refine KA (KC rfl) (Nb rfl) ?_
    refine KA (KK rfl rfl (br_quo (b:=32) (by omega) (by omega))) (Nb rfl) ?_
    refine KA (KK rfl rfl (KAL (by omega))) (Nb rfl) ?_
    refine KA (KK rfl rfl (KAL (b:=1) (by omega))) (Nb rfl) ?_
    refine KA (KC rfl) (Nb rfl) ?_
    refine KA (KK rfl rfl (KAe (b:=32) hsm)) (Nb rfl) ?_
    refine KA (KT (KAj Try.underlying30 Try.underlying67 rfl) (vi (b:=D.limb A x*2^(k%32)/4294967296) (by rw [show (2:Nat)^32 = 4294967296 from rfl]; omega))) (Nb rfl) ?_
    refine KA (KAE Try.underlying24 sz_67 rfl rfl (by omega)) (Nb rfl) ?_
    refine KI rfl (KAB rfl rfl rfl sz_67 (by repeat (first|exact Sh _|apply St_)) (by first|(simp only [KN,KH,KJ,KAK]; omega)|(simp; omega)) (by first|exact KAY _ _ _ _ _|exact KAa _ _ _ _ (by omega)|exact KAZ _ _ _ _|rfl) (by simp) ?_)
    refine KG ?_
    refine KB ?_
    refine KA (KC rfl) (Nb rfl) ?_
    refine KA (KK rfl rfl (KAL (b:=1) (by omega))) (Nb rfl) ?_
    refine KA (KF rfl) (Nb rfl) ?_
    refine KG ?_
    refine ⟨x+1,by omega,by omega,KAh (Sub.cells (b:=b14) (cs':=vec .u32 (D.nw A+k/32+1) (D.limb (A%2^(32*(x+1))*2^k))) (by repeat (first|exact Sh _|apply St_)) (KAU fun j hj=>(hst j).symm)) (KAG ⟨rfl,rfl,rfl,rfl,trivial⟩ (by repeat (first|exact Sel.nil _|refine Sel.cons (by repeat (first|exact Ph _|apply Pt_)) ?_)))⟩
  ·
    have h18:¬ x<D.nw A:=h18
    refine KAH ?_
    refine KD ?_
    obtain rfl:x = D.nw A:=by omega
    refine LCode.sub (Sub.cells (b:=b14) (cs':=vec .u32 (D.nw A+k/32+1) (D.limb (A*2^k))) (by repeat (first|exact Sh _|apply St_)) (by rw [D.mod_nw])) ?_
    refine KB ?_
    refine KA (KC rfl) (Nb rfl) ?_
    refine KI rfl (KS (KP (first:=[]) rfl en_87 rfl (Nb rfl) (fun w hw=>c_trim (A*2^k) b14 (D.nw A+k/32+1) (D.nw A+k/32+1) (D.nw A+k/32+1) _ true w (hw _ (by repeat (first|exact Mh _|apply Mt))) (Nat.le_refl _) (Nat.le_refl _) (by omega) D.shl_lt) ?_))
    refine KA (KF rfl) (Nb rfl) ?_
    refine KG (KX ?_)
    refine ⟨[_],.cons rfl .nil,fun a w' hr=>hr.num (by repeat (first|exact Mh _|apply Mt)) (D.shl_lt)⟩
theorem Rel.num2 {w : World} {N : Nat} {st : St} {a : Act} {w' : World} {old : List Nat} {A n b c A' n' b' c' : Nat} {ty ty' : TypeId} {fz fz' : Nat × Nat} {mk : Value → Value → Value} (hr : Rel ⟨w, NoW, N⟩ st a w') (hm : Item.blk b ⟨true, vec .u32 n (D.limb A), ty, fz⟩ ∈ st.H) (hA : A < 2 ^ (32 * n))
    (hm':Item.blk b' ⟨true,vec .u32 n' (D.limb A'),ty',fz'⟩∈st.H) (hA':A' < 2^(32*n')):Num2R w old A A' mk (.returned (mk (.slice (some ⟨b,0,none⟩) (D.nw A) c) (.slice (some ⟨b',0,none⟩) (D.nw A') c'))) w' :=
  ⟨⟨false,b,c⟩,⟨false,b',c'⟩,rfl,numT_blk (hr.hp _ hm) hA,NFr.blk _ (hr.new hm rfl),numT_blk (hr.hp _ hm') hA',NFr.blk _ (hr.new hm' rfl),hr.fr.below⟩
theorem shl32_eq {r:Nat} (h:r<4294967296):r*2^32%18446744073709551616 = r*4294967296:=by
  rw [show (2:Nat)^32 = 4294967296 from rfl]; omega
theorem shl32_lt {r:Nat} (h:r<4294967296):r*4294967296<18446744073709551616:=by omega
theorem shl32_or {r l:Nat} (h:r<4294967296) (hl:l<4294967296):(r*4294967296 ||| l) = r*4294967296+l:=by
  have:=or_digits hl h
  rw [Nat.or_comm,Nat.mod_eq_of_lt (by omega)] at this
  omega
theorem vec_one_digit {A:Nat} (h:A<4294967296):[Value.int .u32 ((A:Nat):Int)] = vec .u32 1 (D.limb A):=by
  have e:D.limb A 0 = A:=by unfold D.limb; rw [Nat.mul_zero,Nat.pow_zero,Nat.div_one,Nat.mod_eq_of_lt h]
  simp [vec,e]
theorem c_n_short (q:NV) (A m:Nat) (w:World) (hq:(numT q A).holds w) (hA:D.nw A≤1000000) (hm0:0<m) (hm:m<4294967296):Calls Try.prog 132 ([numV q A,.int .u64 ((m:Nat):Int)]:List Value).toArray w (fun e w'=>Num2R w ([]) (A/m) (A%m) (fun u v=>.tuple #[u,v]) e w'):=by
  refine Ky (N:=44) (rs:=[.tmp 4,.tmp 5]) [numT q A] Try.func132 rfl Try.ntmps132 Try.results132 (Nb rfl) ⟨hq,trivial⟩ rfl ?_
  show LCode _ _ _ ⟨_,_⟩ _
  refine KD (KB ?_)
  refine KA (KF rfl) (Nb rfl) ?_
  refine KA (KF rfl) (Nb rfl) ?_
  refine KG ?_
  refine KD (KB ?_)
  refine KA (KC rfl) (Nb rfl) ?_
  refine KA (KAX Try.underlying24 rfl) (Nb rfl) ?_
  refine KI rfl (KS (KR (Makes.mkV Try.underlying24 inf_67 rfl rfl (by omega) (by omega)) (Nb rfl) (fun b12=>?_)))
  refine KA (KF rfl) (Nb rfl) ?_
  refine KG ?_
  refine KD (KB ?_)
  refine KA (KF (v:=.int .u64 ((0:Nat):Int)) rfl) (Nb rfl) ?_
  refine KG ?_
  refine KD ?_
  refine KD (KB ?_)
  refine KA (KC rfl) (Nb rfl) ?_
  refine KA (KAX Try.underlying24 rfl) (Nb rfl) ?_
  refine KA (KK (v:=.int .i64 ((D.nw A:Int)-1)) rfl rfl (br_subI (by omega) (by omega))) (Nb rfl) ?_
  refine KA (KF rfl) (Nb rfl) ?_
  refine KG ?_
  refine LCode.block ?_
  refine KAN (α:=Nat) (fun x=>x≤D.nw A) (fun x=>⟨[(0,numV q A),(1,.int .u64 ((m:Nat):Int)),(6,.slice (some ⟨b12,0,none⟩) (D.nw A) (D.nw A)),(7,.int .u64 ((A/2^(32*x)%m:Nat):Int)),(8,.int .i64 ((x:Int)-1))],[.blk b12 ⟨true,vec .u32 (D.nw A) (D.limb (A/2^(32*x)/m*2^(32*x))),67,(0,0)⟩,numT q A]⟩) (fun x=>x) (D.nw A) (Nat.le_refl _) (KAh (Sub.cells (b:=b12) (cs':=vec .u32 (D.nw A) (D.limb (A/2^(32*(D.nw A))/m*2^(32*(D.nw A))))) (by repeat (first|exact Sh _|apply St_)) (by rw [Nat.div_eq_of_lt (D.lt_nw A),Nat.zero_div,Nat.zero_mul]; exact D.vec_zeros _)) (KAG ⟨rfl,rfl,rfl,by rw [Nat.div_eq_of_lt (D.lt_nw A),Nat.zero_mod]; rfl,rfl,trivial⟩ (by repeat (first|exact Sel.nil _|refine Sel.cons (by repeat (first|exact Ph _|apply Pt_)) ?_)))) ?_
  intro x hx
  refine KD ?_
  refine KD ?_
  rcases Nat.eq_zero_or_pos x with h0|h0
  ·
    refine KB ?_
    refine KA (KC rfl) (Nb rfl) ?_
    refine KA (KK (v:=.bool false) rfl rfl (by subst h0; rfl)) (Nb rfl) ?_
    refine KG ?_
    refine Kd rfl ?_
    refine KAH ?_
    refine KD ?_
    have hm1:A%m<m:=Nat.mod_lt _ hm0
    refine LCode.sub (Sub.cells (b:=b12) (cs':=vec .u32 (D.nw A) (D.limb (A/m))) (by repeat (first|exact Sh _|apply St_)) (by subst h0; rw [Nat.mul_zero,Nat.pow_zero,Nat.div_one,Nat.mul_one])) ?_
    have hAm:A/m<2^(32*D.nw A):=Nat.lt_of_le_of_lt (Nat.div_le_self _ _) (D.lt_nw A)
    refine KB ?_
    refine KA (KC rfl) (Nb rfl) ?_
    refine KI rfl (KS (KP (first:=[]) rfl en_87 rfl (Nb rfl) (fun w hw=>c_trim (A/m) b12 (D.nw A) (D.nw A) (D.nw A) _ true w (hw _ (by repeat (first|exact Mh _|apply Mt))) (Nat.le_refl _) (Nat.le_refl _) (by omega) hAm) ?_))
    refine KA (KC rfl) (Nb rfl) ?_
    refine KA (KAj Try.underlying30 Try.underlying67 rfl) (Nb rfl) ?_
    refine KI rfl (KS (KR (KAd Try.underlying24 inf_67 rfl rfl rfl rfl (by decide) rfl) (Nb rfl) (fun b42=>?_)))
    refine LOps.sub (Sub.cells (b:=b42) (cs':=vec .u32 1 (D.limb (A%m))) (by repeat (first|exact Sh _|apply St_)) ?_) ?_
    · subst h0
      rw [Nat.mul_zero,Nat.pow_zero,Nat.div_one,Nat.mod_eq_of_lt (show A%m<2^32 by rw [show (2:Nat)^32 = 4294967296 from rfl]; omega)]
      exact vec_one_digit (by omega)
    refine KI rfl (KS (KP (first:=[]) rfl en_87 rfl (Nb rfl) (fun w hw=>c_trim (A%m) b42 1 1 1 _ true w (hw _ (by repeat (first|exact Mh _|apply Mt))) (Nat.le_refl _) (Nat.le_refl _) (by omega) (by omega)) ?_))
    refine KA (KF rfl) (Nb rfl) ?_
    refine KA (KF rfl) (Nb rfl) ?_
    refine KG (KX ?_)
    refine ⟨[_,_],.cons rfl (.cons rfl .nil),fun a w' hr=>hr.num2 (mk:=fun u v=>.tuple #[u,v]) (n:=D.nw A) (n':=1) (b:=b12) (b':=b42) (ty:=67) (ty':=67) (fz:=(0,0)) (fz':=(0,0)) (by repeat (first|exact Mh _|apply Mt)) hAm (by repeat (first|exact Mh _|apply Mt)) (by omega)⟩
  ·
    obtain ⟨x,rfl⟩:∃ y,x = y+1:=⟨x-1,by omega⟩
    have hla:=D.limb_lt A x
    have hrm:A/2^(32*(x+1))%m<m:=Nat.mod_lt _ hm0
    obtain ⟨hs1,hs2⟩:=D.short_step (A:=A) (i:=x) hm0 rfl rfl
    have hqs:(A/2^(32*(x+1))%m*4294967296+D.limb A x)/m<4294967296:=by rw [Nat.div_lt_iff_lt_mul hm0]; have:=Nat.mul_le_mul_left 4294967296 (show A/2^(32*(x+1))%m+1≤m from hrm); omega
    refine KB ?_
    refine KA (KC rfl) (Nb rfl) ?_
    refine KA (KK (v:=.bool true) rfl rfl (by simp [KAP] <;> omega)) (Nb rfl) ?_
    refine KG ?_
    refine Kw rfl ?_
    refine Kf ?_
    refine KD ?_
    refine LCode.block ?_
    refine KD (KB ?_)
    refine KA (KC rfl) (Nb rfl) ?_
    refine KA (KT (KK rfl rfl br_shl64) (vi (b:=A/2^(32*(x+1))%m*4294967296) (shl32_eq (Nat.lt_trans hrm hm)))) (Nb rfl) ?_
    refine KA (KC rfl) (Nb rfl) ?_
    refine KA (KC (v:=.int .i64 ((x:Nat):Int)) (by show some _ = some _; congr 2; omega)) (Nb rfl) ?_
    refine KA (KAo Try.underlying24 sz_67 rfl rfl (by omega)) (Nb rfl) ?_
    refine LOps.det (Det.loadN Try.underlying67 rfl rfl (by repeat (first|exact Mh _|apply Mt)) (by omega)) (Nb rfl) ?_
    refine KA (KAW Try.underlying67 Try.underlying30 rfl (by first|omega|exact Nat.lt_trans (D.limb_lt _ _) (by decide))) (Nb rfl) ?_
    refine KA (KT (KK rfl rfl (br_or64 (shl32_lt (Nat.lt_trans hrm hm)) (Nat.lt_trans hla (by decide)))) (vi (b:=A/2^(32*(x+1))%m*4294967296+D.limb A x) (shl32_or (Nat.lt_trans hrm hm) hla))) (Nb rfl) ?_
    refine KA (KF rfl) (Nb rfl) ?_
    refine KG ?_
    refine KD (KB ?_)
    refine KA (KC rfl) (Nb rfl) ?_
    refine KA (KC (v:=.int .i64 ((x:Nat):Int)) (by show some _ = some _; congr 2; omega)) (Nb rfl) ?_
    refine KA (KC rfl) (Nb rfl) ?_
    refine KA (KC rfl) (Nb rfl) ?_
    refine KA (KK rfl rfl (br_quo64 (by omega) (by omega))) (Nb rfl) ?_
    refine KA (KT (KAj Try.underlying30 Try.underlying67 rfl) (vi (b:=(A/2^(32*(x+1))%m*4294967296+D.limb A x)/m) (Nat.mod_eq_of_lt hqs))) (Nb rfl) ?_
    refine KA (KAE Try.underlying24 sz_67 rfl rfl (by omega)) (Nb rfl) ?_
    refine KI rfl (KAB rfl rfl rfl sz_67 (by repeat (first|exact Sh _|apply St_)) (by first|(simp only [KN,KH,KJ,KAK]; omega)|(simp; omega)) (by first|exact KAY _ _ _ _ _|exact KAa _ _ _ _ (by omega)|exact KAZ _ _ _ _|rfl) (by simp) ?_)
    refine KG ?_
    refine KB ?_
    refine KA (KC rfl) (Nb rfl) ?_
    refine KA (KC rfl) (Nb rfl) ?_
    refine KA (KK rfl rfl (br_rem64 (by omega))) (Nb rfl) ?_
    refine KA (KF rfl) (Nb rfl) ?_
    refine KG ?_
    refine KB ?_
    refine KA (KC (v:=.int .i64 ((x:Nat):Int)) (by show some _ = some _; congr 2; omega)) (Nb rfl) ?_
    refine KA (KK rfl rfl rfl) (Nb rfl) ?_
    refine KA (KF rfl) (Nb rfl) ?_
    refine KG ?_
    refine ⟨x,by omega,by omega,KAh (Sub.cells (b:=b12) (cs':=vec .u32 (D.nw A) (D.limb (A/2^(32*x)/m*2^(32*x)))) (by repeat (first|exact Sh _|apply St_)) (KAU fun j _=>?_)) (KAG ⟨rfl,rfl,rfl,congrArg (fun n:Nat=>some (Value.int .u64 (n:Int))) hs2,?_,trivial⟩ (by repeat (first|exact Sel.nil _|refine Sel.cons (by repeat (first|exact Ph _|apply Pt_)) ?_)))⟩
    · rw [← hs1,Nat.add_comm (_/m)]
      exact D.quo_store hqs j
    · exact congrArg (fun i:Int=>some (Value.int .i64 i)) (wrap_i64 (by omega) (by omega))
end Go.Proofs.Ytlmiolnccgjjjaa
set_option linter.unusedVariables false
set_option linter.unusedSimpArgs false
set_option maxRecDepth 20000
namespace Go.Proofs.Ytlmiolnccgjjjaa
open Go Go.RowKit
theorem br_add32d {a b:Nat}:KAP .add .u32 a .u32 b = some (.int .u32 (((a+b)%4294967296:Nat):Int)):=by
  simp only [KAP,if_true]
  rw [show ((a:Int)+b) = ((a+b:Nat):Int) by simp,wrap_u32_nat]
theorem guess_over {q v r u:Nat} (hq:q<4294967296) (hv:v<4294967296) (hr:4294967296≤r):q*v≤r*4294967296+u:=by
  have h1:=Nat.mul_le_mul (Nat.le_of_lt hq) (Nat.le_of_lt hv)
  have h2:=Nat.mul_le_mul_right 4294967296 hr
  omega
theorem mul_lt64 {q v:Nat} (hq:q<4294967296) (hv:v<4294967296):q*v<18446744073709551616:=by
  have h1:=Nat.mul_le_mul (show q≤4294967295 by omega) (show v≤4294967295 by omega)
  omega
theorem take_parts {l t b:Nat} (hl:l<4294967296) (hb:b≤1):(l+4294967296-t%4294967296-b)%4294967296+t%4294967296+b = l+(1-(l+4294967296-t%4294967296-b)/4294967296)*4294967296:=by omega
theorem take_parts2 {l c b:Nat} (hl:l<4294967296) (hc:c<4294967296) (hb:b≤1):(l+4294967296-c-b)%4294967296+c+b = l+(1-(l+4294967296-c-b)/4294967296)*4294967296:=by omega
theorem c_n_step (qv:NV) (m U bu a l c:Nat) (hm0:m≠0) (w:World) (hbu:(Item.blk bu ⟨true,vec .u32 l (D.limb U),67,(0,0)⟩).holds w) (hv:(numI qv (D.dnm m) (D.nw m)).holds w) (hne:bu ∉ fpz qv (D.nw m)) (hn:2≤D.nw m) (hat:a+D.nw m<l) (hl:l≤1000000) (hU:U<D.dnm m*2^(32*(a+1))):Calls Try.prog 134 ([.slice (some ⟨bu,0,none⟩) l c,slV qv (D.nw m),.int .i64 ((a:Nat):Int)]:List Value).toArray w (fun e w'=>∃ v cs',(∃ q U',q<4294967296∧U'+q*D.dnm m*2^(32*a) = U∧U' < D.dnm m*2^(32*a)∧v = .int .u64 ((q:Nat):Int)∧cs' = vec .u32 l (D.limb U'))∧e = .returned v∧(Item.blk bu ⟨true,cs',67,(0,0)⟩).holds w'∧Fr (fun k=>k = bu) w w'):=by
  refine calls_w1 (N:=200) (rs:=[.tmp 6]) bu (vec .u32 l (D.limb U)) 67 (0,0) [numI qv (D.dnm m) (D.nw m)] Try.func134 rfl Try.ntmps134 Try.results134 (Nb rfl) hbu ⟨hv,trivial⟩ rfl (by intro x hx; simp at hx; subst hx; exact hne) ?_
  show LCode _ _ _ ⟨_,_⟩ _
  refine KD (KB ?_)
  refine KA (KF (v:=.int .u64 ((0:Nat):Int)) rfl) (Nb rfl) ?_
  refine KG ?_
  refine KD ?_
  obtain ⟨hf1,hf2,hf3,hf4⟩:=D.guess_facts hm0 hU
  have hgt:=D.guess_top hm0 hU
  have hql:=D.quo_lt (D.dnm_pos hm0) hU
  have hUw:=D.win_lt (D.dnm_lt m) hU
  have hqs:∀ q r,q*D.limb (D.dnm m) (D.nw m-1)+r = U/2^(32*a)/2^(32*(D.nw m-1))→r*4294967296+D.limb U (a+D.nw m-2)<q*D.limb (D.dnm m) (D.nw m-2)→U/2^(32*a)/D.dnm m<q:=fun q r=>D.guess_step hm0 hn
  have hqb:∀ q r,q<4294967296→q*D.limb (D.dnm m) (D.nw m-1)+r = U/2^(32*a)/2^(32*(D.nw m-1))→q*D.limb (D.dnm m) (D.nw m-2)≤r*4294967296+D.limb U (a+D.nw m-2)→q≤U/2^(32*a)/D.dnm m+1:=fun q r=>D.guess_bound hm0 hn
  have hXl:U/2^(32*a)/2^(32*(D.nw m-1))<18446744073709551616:=by
    rw [← hf1]
    have g1:=D.limb_lt U (a+D.nw m)
    have g2:=D.limb_lt U (a+D.nw m-1)
    omega
  have htl:=D.limb_lt (D.dnm m) (D.nw m-1)
  obtain ⟨XX,hX⟩:∃ XX,U/2^(32*a)/2^(32*(D.nw m-1)) = XX:=⟨_,rfl⟩
  rw [hX] at hf1 hf4 hgt hXl
  simp only [hX] at hqs hqb
  obtain ⟨QT,hQ⟩:∃ QT,U/2^(32*a)/D.dnm m = QT:=⟨_,rfl⟩
  rw [hQ] at hf4 hql
  simp only [hQ] at hqs hqb
  refine KB ?_
  refine KA (KC rfl) (Nb rfl) ?_
  refine KA (KAX Try.underlying24 rfl) (Nb rfl) ?_
  refine KA (KF rfl) (Nb rfl) ?_
  refine KG ?_
  refine KD ?_
  refine Kg [] (by kernel_rfl) ?_
  refine KE 0 rfl (by kernel_rfl) (Nb rfl) (KC rfl) ?_
  refine KE 1 rfl (by kernel_rfl) (Nb rfl) (KC rfl) ?_
  refine KE 2 rfl (by kernel_rfl) (Nb rfl) (KC rfl) ?_
  refine KE 3 rfl (by kernel_rfl) (Nb rfl) (KK rfl rfl (KAL (by omega))) ?_
  refine KE 4 rfl (by kernel_rfl) (Nb rfl) (KAE Try.underlying24 sz_67 rfl rfl (by omega)) ?_
  refine LAny.take 5 rfl (by kernel_rfl) (Nb rfl) (KL rfl (by repeat (first|exact Mh _|apply Mt)) (Kb Try.underlying67 rfl (by exact Ku _ _ _ (show a+D.nw m<l by omega)))) ?_
  refine KE 6 rfl (by kernel_rfl) (Nb rfl) (KAW Try.underlying67 Try.underlying30 rfl (by first|omega|exact Nat.lt_trans (D.limb_lt _ _) (by decide))) ?_
  refine KE 7 rfl (by kernel_rfl) (Nb rfl) (KT (KK rfl rfl br_shl64) (vi (b:=D.limb U (a+D.nw m)*4294967296) (shl32_eq (D.limb_lt _ _)))) ?_
  refine KE 8 rfl (by kernel_rfl) (Nb rfl) (KC rfl) ?_
  refine KE 9 rfl (by kernel_rfl) (Nb rfl) (KC rfl) ?_
  refine KE 10 rfl (by kernel_rfl) (Nb rfl) (KC rfl) ?_
  refine KE 11 rfl (by kernel_rfl) (Nb rfl) (KK rfl rfl (KAL (by omega))) ?_
  refine KE 12 rfl (by kernel_rfl) (Nb rfl) (KK rfl rfl (br_sub (b:=1) (by omega) (by omega))) ?_
  refine KE 13 rfl (by kernel_rfl) (Nb rfl) (KAE Try.underlying24 sz_67 rfl rfl (by omega)) ?_
  refine LAny.take 14 rfl (by kernel_rfl) (Nb rfl) (KL rfl (by repeat (first|exact Mh _|apply Mt)) (Kb Try.underlying67 rfl (by exact Ku _ _ _ (show a+D.nw m-1<l by omega)))) ?_
  refine KE 15 rfl (by kernel_rfl) (Nb rfl) (KAW Try.underlying67 Try.underlying30 rfl (by first|omega|exact Nat.lt_trans (D.limb_lt _ _) (by decide))) ?_
  refine KE 16 rfl (by kernel_rfl) (Nb rfl) (KT (KK rfl rfl (br_or64 (shl32_lt (D.limb_lt _ _)) (Nat.lt_trans (D.limb_lt _ _) (by decide)))) (vi (b:=XX) ((shl32_or (D.limb_lt _ _) (D.limb_lt _ _)).trans hf1))) ?_
  refine KE 17 rfl (by kernel_rfl) (Nb rfl) (KF rfl) ?_
  refine Ko (by kernel_rfl) ?_
  refine KD ?_
  refine Kg [] (by kernel_rfl) ?_
  refine KE 0 rfl (by kernel_rfl) (Nb rfl) (KC rfl) ?_
  refine KE 1 rfl (by kernel_rfl) (Nb rfl) (KC rfl) ?_
  refine KE 2 rfl (by kernel_rfl) (Nb rfl) (KC rfl) ?_
  refine KE 3 rfl (by kernel_rfl) (Nb rfl) (KK rfl rfl (br_sub (b:=1) (by omega) (by omega))) ?_
  refine KE 4 rfl (by kernel_rfl) (Nb rfl) (KAo Try.underlying24 sz_67 rfl rfl (by omega)) ?_
  refine LAny.take 5 rfl (by kernel_rfl) (Nb rfl) (Det.loadN Try.underlying67 rfl rfl (by repeat (first|exact Mh _|apply Mt)) (by omega)) ?_
  refine KE 6 rfl (by kernel_rfl) (Nb rfl) (KAW Try.underlying67 Try.underlying30 rfl (by first|omega|exact Nat.lt_trans (D.limb_lt _ _) (by decide))) ?_
  refine KE 7 rfl (by kernel_rfl) (Nb rfl) (KK rfl rfl (br_quo64 (by omega) hXl)) ?_
  refine KE 8 rfl (by kernel_rfl) (Nb rfl) (KC rfl) ?_
  refine KE 9 rfl (by kernel_rfl) (Nb rfl) (KC rfl) ?_
  refine KE 10 rfl (by kernel_rfl) (Nb rfl) (KC rfl) ?_
  refine KE 11 rfl (by kernel_rfl) (Nb rfl) (KK rfl rfl (br_sub (b:=1) (by omega) (by omega))) ?_
  refine KE 12 rfl (by kernel_rfl) (Nb rfl) (KAo Try.underlying24 sz_67 rfl rfl (by omega)) ?_
  refine LAny.take 13 rfl (by kernel_rfl) (Nb rfl) (Det.loadN Try.underlying67 rfl rfl (by repeat (first|exact Mh _|apply Mt)) (by omega)) ?_
  refine KE 14 rfl (by kernel_rfl) (Nb rfl) (KAW Try.underlying67 Try.underlying30 rfl (by first|omega|exact Nat.lt_trans (D.limb_lt _ _) (by decide))) ?_
  refine KE 15 rfl (by kernel_rfl) (Nb rfl) (KK rfl rfl (br_rem64 (by omega))) ?_
  refine KE 16 rfl (by kernel_rfl) (Nb rfl) (KF rfl) ?_
  refine KE 17 rfl (by kernel_rfl) (Nb rfl) (KF rfl) ?_
  refine Ko (by kernel_rfl) ?_
  refine LCode.cut (α:=Nat) (fun d=>d<4294967296∧QT≤d∧d≤QT+1) (fun d=>⟨[(0,.slice (some ⟨bu,0,none⟩) l c),(1,slV qv (D.nw m)),(2,.int .i64 ((a:Nat):Int)),(7,.int .i64 ((D.nw m:Nat):Int)),(9,.int .u64 ((d:Nat):Int))],[.blk bu ⟨true,vec .u32 l (D.limb U),67,(0,0)⟩,numI qv (D.dnm m) (D.nw m)]⟩) ?_ ?_
  ·
    refine LCode.block ?_
    refine KAN (α:=Nat×Nat) (fun x=>x.1*D.limb (D.dnm m) (D.nw m-1)+x.2 = XX∧QT≤x.1∧x.1<18446744073709551616∧x.2<4294967296) (fun x=>⟨[(0,.slice (some ⟨bu,0,none⟩) l c),(1,slV qv (D.nw m)),(2,.int .i64 ((a:Nat):Int)),(7,.int .i64 ((D.nw m:Nat):Int)),(9,.int .u64 ((x.1:Nat):Int)),(10,.int .u64 ((x.2:Nat):Int))],[.blk bu ⟨true,vec .u32 l (D.limb U),67,(0,0)⟩,numI qv (D.dnm m) (D.nw m)]⟩) (fun x=>x.1) ((XX/D.limb (D.dnm m) (D.nw m-1),XX%D.limb (D.dnm m) (D.nw m-1))) (⟨by rw [Nat.mul_comm]; exact Nat.div_add_mod _ _,hf4,Nat.lt_of_le_of_lt (Nat.div_le_self _ _) hXl,Nat.lt_trans (Nat.mod_lt _ (by omega)) htl⟩) (KAG ⟨rfl,rfl,rfl,rfl,rfl,rfl,trivial⟩ (by repeat (first|exact Sel.nil _|refine Sel.cons (by repeat (first|exact Ph _|apply Pt_)) ?_))) ?_
    intro x ⟨hx1,hx2,hx3,hx4⟩
    refine KD ?_
    refine KD ?_
    rcases Nat.lt_or_ge x.1 4294967296 with h4|h4
    ·
      refine Kg [] (by kernel_rfl) ?_
      refine KE 0 rfl (by kernel_rfl) (Nb rfl) (KC rfl) ?_
      refine KE 1 rfl (by kernel_rfl) (Nb rfl) (KK rfl rfl (br_f (br_geq (b:=4294967296)) (Nat.not_le_of_lt h4))) ?_
      refine KE 2 rfl (by kernel_rfl) (Nb rfl) (KC rfl) ?_
      refine KAI 3 rfl rfl rfl (by kernel_rfl) (Nb rfl) (KC rfl) ?_
      refine KAI 4 rfl rfl rfl (by kernel_rfl) (Nb rfl) (KC rfl) ?_
      refine KAI 5 rfl rfl rfl (by kernel_rfl) (Nb rfl) (KC rfl) ?_
      refine KAI 6 rfl rfl rfl (by kernel_rfl) (Nb rfl) (KK rfl rfl (br_sub (b:=2) (by omega) (by omega))) ?_
      refine KAI 7 rfl rfl rfl (by kernel_rfl) (Nb rfl) (KAo Try.underlying24 sz_67 rfl rfl (by omega)) ?_
      refine KAq 8 rfl rfl rfl (by kernel_rfl) (Nb rfl) (Det.loadN Try.underlying67 rfl rfl (by repeat (first|exact Mh _|apply Mt)) (by omega)) ?_
      refine KAI 9 rfl rfl rfl (by kernel_rfl) (Nb rfl) (KAW Try.underlying67 Try.underlying30 rfl (by first|omega|exact Nat.lt_trans (D.limb_lt _ _) (by decide))) ?_
      refine KAI 10 rfl rfl rfl (by kernel_rfl) (Nb rfl) (KT (KK rfl rfl br_mul64) (vi (b:=x.1*D.limb (D.dnm m) (D.nw m-2)) (Nat.mod_eq_of_lt (mul_lt64 h4 (D.limb_lt _ _))))) ?_
      refine KAI 11 rfl rfl rfl (by kernel_rfl) (Nb rfl) (KC rfl) ?_
      refine KAI 12 rfl rfl rfl (by kernel_rfl) (Nb rfl) (KT (KK rfl rfl br_shl64) (vi (b:=x.2*4294967296) (shl32_eq hx4))) ?_
      refine KAI 13 rfl rfl rfl (by kernel_rfl) (Nb rfl) (KC rfl) ?_
      refine KAI 14 rfl rfl rfl (by kernel_rfl) (Nb rfl) (KC rfl) ?_
      refine KAI 15 rfl rfl rfl (by kernel_rfl) (Nb rfl) (KC rfl) ?_
      refine KAI 16 rfl rfl rfl (by kernel_rfl) (Nb rfl) (KK rfl rfl (KAL (by omega))) ?_
      refine KAI 17 rfl rfl rfl (by kernel_rfl) (Nb rfl) (KK rfl rfl (br_sub (b:=2) (by omega) (by omega))) ?_
      refine KAI 18 rfl rfl rfl (by kernel_rfl) (Nb rfl) (KAE Try.underlying24 sz_67 rfl rfl (by omega)) ?_
      refine KAq 19 rfl rfl rfl (by kernel_rfl) (Nb rfl) (KL rfl (by repeat (first|exact Mh _|apply Mt)) (Kb Try.underlying67 rfl (by exact Ku _ _ _ (show a+D.nw m-2<l by omega)))) ?_
      refine KAI 20 rfl rfl rfl (by kernel_rfl) (Nb rfl) (KAW Try.underlying67 Try.underlying30 rfl (by first|omega|exact Nat.lt_trans (D.limb_lt _ _) (by decide))) ?_
      refine KAI 21 rfl rfl rfl (by kernel_rfl) (Nb rfl) (KT (KK rfl rfl (br_or64 (shl32_lt hx4) (Nat.lt_trans (D.limb_lt _ _) (by decide)))) (vi (b:=x.2*4294967296+D.limb U (a+D.nw m-2)) (shl32_or hx4 (D.limb_lt _ _)))) ?_
      refine KAI 22 rfl rfl rfl (by kernel_rfl) (Nb rfl) (KK rfl rfl (br_gtr)) ?_
      refine KE 23 rfl (by kernel_rfl) (Nb rfl) (KAC rfl rfl) ?_
      refine Ko (by kernel_rfl) ?_
      first|refine Kh rfl (fun h77=>?_) (fun h77=>?_)|refine Kj rfl (fun h77=>?_) (fun h77=>?_)
      ·
        have hq:=hqs _ _ hx1 h77
        have hq0:0<x.1:=Nat.lt_of_le_of_lt (Nat.zero_le _) hq
        have hn1:=D.guess_next (d2:=0) (u:=0) hx1 hq0
        have hq1:QT≤x.1-1:=Nat.le_sub_one_of_lt hq
        refine Kf ?_
        refine LCode.block ?_
        refine KD (KB ?_)
        refine KA (KC rfl) (Nb rfl) ?_
        refine KA (KT (KK rfl rfl (br_sub64 (b:=1) (by decide))) (vi (b:=x.1-1) (by omega))) (Nb rfl) ?_
        refine KA (KF rfl) (Nb rfl) ?_
        refine KG ?_
        refine KD (KB ?_)
        refine KA (KC rfl) (Nb rfl) ?_
        refine KA (KC rfl) (Nb rfl) ?_
        refine KA (KC rfl) (Nb rfl) ?_
        refine KA (KK rfl rfl (br_sub (b:=1) (by omega) (by omega))) (Nb rfl) ?_
        refine KA (KAo Try.underlying24 sz_67 rfl rfl (by omega)) (Nb rfl) ?_
        refine LOps.det (Det.loadN Try.underlying67 rfl rfl (by repeat (first|exact Mh _|apply Mt)) (by omega)) (Nb rfl) ?_
        refine KA (KAW Try.underlying67 Try.underlying30 rfl (by first|omega|exact Nat.lt_trans (D.limb_lt _ _) (by decide))) (Nb rfl) ?_
        refine KA (KT (KK rfl rfl KAf) (vi (b:=x.2+D.limb (D.dnm m) (D.nw m-1)) (by omega))) (Nb rfl) ?_
        refine KA (KF rfl) (Nb rfl) ?_
        refine KG ?_
        refine KD (KB ?_)
        refine KA (KC rfl) (Nb rfl) ?_
        refine KA (KK rfl rfl (br_geq (b:=4294967296))) (Nb rfl) ?_
        refine KG ?_
        first|refine Kh rfl (fun h89=>?_) (fun h89=>?_)|refine Kj rfl (fun h89=>?_) (fun h89=>?_)
        ·
          have h89:4294967296≤x.2+D.limb (D.dnm m) (D.nw m-1):=h89
          have hs1:=D.guess_small hn1 hgt h89
          refine KAH ?_
          exact ⟨x.1-1,⟨hs1,hq1,hqb _ _ hs1 hn1 (guess_over hs1 (D.limb_lt _ _) h89)⟩,KAG ⟨rfl,rfl,rfl,rfl,rfl,trivial⟩ (by repeat (first|exact Sel.nil _|refine Sel.cons (by repeat (first|exact Ph _|apply Pt_)) ?_))⟩
        ·
          have h89:¬ 4294967296≤x.2+D.limb (D.dnm m) (D.nw m-1):=h89
          refine Kf ?_
          refine ⟨(x.1-1,x.2+D.limb (D.dnm m) (D.nw m-1)),⟨hn1,hq1,by dsimp only; omega,by dsimp only; omega⟩,by dsimp only; omega,KAG ⟨rfl,rfl,rfl,rfl,rfl,rfl,trivial⟩ (by repeat (first|exact Sel.nil _|refine Sel.cons (by repeat (first|exact Ph _|apply Pt_)) ?_))⟩
      ·
        have h77:¬ x.2*4294967296+D.limb U (a+D.nw m-2)<x.1*D.limb (D.dnm m) (D.nw m-2):=h77
        refine KAH ?_
        exact ⟨x.1,⟨h4,hx2,hqb _ _ h4 hx1 (Nat.le_of_not_lt h77)⟩,KAG ⟨rfl,rfl,rfl,rfl,rfl,trivial⟩ (by repeat (first|exact Sel.nil _|refine Sel.cons (by repeat (first|exact Ph _|apply Pt_)) ?_))⟩
    ·
      refine Kg [] (by kernel_rfl) ?_
      refine KE 0 rfl (by kernel_rfl) (Nb rfl) (KC rfl) ?_
      refine KE 1 rfl (by kernel_rfl) (Nb rfl) (KK rfl rfl (br_t (br_geq (b:=4294967296)) h4)) ?_
      refine KE 2 rfl (by kernel_rfl) (Nb rfl) (KC rfl) ?_
      refine KAJ 3 rfl rfl rfl rfl (by kernel_rfl) (Nb rfl) ?_
      refine KAJ 4 rfl rfl rfl rfl (by kernel_rfl) (Nb rfl) ?_
      refine KAJ 5 rfl rfl rfl rfl (by kernel_rfl) (Nb rfl) ?_
      refine KAJ 6 rfl rfl rfl rfl (by kernel_rfl) (Nb rfl) ?_
      refine KAJ 7 rfl rfl rfl rfl (by kernel_rfl) (Nb rfl) ?_
      refine KAJ 8 rfl rfl rfl rfl (by kernel_rfl) (Nb rfl) ?_
      refine KAJ 9 rfl rfl rfl rfl (by kernel_rfl) (Nb rfl) ?_
      refine KAJ 10 rfl rfl rfl rfl (by kernel_rfl) (Nb rfl) ?_
      refine KAJ 11 rfl rfl rfl rfl (by kernel_rfl) (Nb rfl) ?_
      refine KAJ 12 rfl rfl rfl rfl (by kernel_rfl) (Nb rfl) ?_
      refine KAJ 13 rfl rfl rfl rfl (by kernel_rfl) (Nb rfl) ?_
      refine KAJ 14 rfl rfl rfl rfl (by kernel_rfl) (Nb rfl) ?_
      refine KAJ 15 rfl rfl rfl rfl (by kernel_rfl) (Nb rfl) ?_
      refine KAJ 16 rfl rfl rfl rfl (by kernel_rfl) (Nb rfl) ?_
      refine KAJ 17 rfl rfl rfl rfl (by kernel_rfl) (Nb rfl) ?_
      refine KAJ 18 rfl rfl rfl rfl (by kernel_rfl) (Nb rfl) ?_
      refine KAJ 19 rfl rfl rfl rfl (by kernel_rfl) (Nb rfl) ?_
      refine KAJ 20 rfl rfl rfl rfl (by kernel_rfl) (Nb rfl) ?_
      refine KAJ 21 rfl rfl rfl rfl (by kernel_rfl) (Nb rfl) ?_
      refine KAJ 22 rfl rfl rfl rfl (by kernel_rfl) (Nb rfl) ?_
      refine KE 23 rfl (by kernel_rfl) (Nb rfl) (Kp rfl rfl) ?_
      refine Ko (by kernel_rfl) ?_
      have hq:QT<x.1:=Nat.lt_of_lt_of_le hql h4
      have hq0:0<x.1:=Nat.lt_of_le_of_lt (Nat.zero_le _) hq
      have hn1:=D.guess_next (d2:=0) (u:=0) hx1 hq0
      have hq1:QT≤x.1-1:=Nat.le_sub_one_of_lt hq
      refine Kw rfl ?_
      refine Kf ?_
      refine LCode.block ?_
      refine KD (KB ?_)
      refine KA (KC rfl) (Nb rfl) ?_
      refine KA (KT (KK rfl rfl (br_sub64 (b:=1) (by decide))) (vi (b:=x.1-1) (by omega))) (Nb rfl) ?_
      refine KA (KF rfl) (Nb rfl) ?_
      refine KG ?_
      refine KD (KB ?_)
      refine KA (KC rfl) (Nb rfl) ?_
      refine KA (KC rfl) (Nb rfl) ?_
      refine KA (KC rfl) (Nb rfl) ?_
      refine KA (KK rfl rfl (br_sub (b:=1) (by omega) (by omega))) (Nb rfl) ?_
      refine KA (KAo Try.underlying24 sz_67 rfl rfl (by omega)) (Nb rfl) ?_
      refine LOps.det (Det.loadN Try.underlying67 rfl rfl (by repeat (first|exact Mh _|apply Mt)) (by omega)) (Nb rfl) ?_
      refine KA (KAW Try.underlying67 Try.underlying30 rfl (by first|omega|exact Nat.lt_trans (D.limb_lt _ _) (by decide))) (Nb rfl) ?_
      refine KA (KT (KK rfl rfl KAf) (vi (b:=x.2+D.limb (D.dnm m) (D.nw m-1)) (by omega))) (Nb rfl) ?_
      refine KA (KF rfl) (Nb rfl) ?_
      refine KG ?_
      refine KD (KB ?_)
      refine KA (KC rfl) (Nb rfl) ?_
      refine KA (KK rfl rfl (br_geq (b:=4294967296))) (Nb rfl) ?_
      refine KG ?_
      first|refine Kh rfl (fun h89=>?_) (fun h89=>?_)|refine Kj rfl (fun h89=>?_) (fun h89=>?_)
      ·
        have h89:4294967296≤x.2+D.limb (D.dnm m) (D.nw m-1):=h89
        have hs1:=D.guess_small hn1 hgt h89
        refine KAH ?_
        exact ⟨x.1-1,⟨hs1,hq1,hqb _ _ hs1 hn1 (guess_over hs1 (D.limb_lt _ _) h89)⟩,KAG ⟨rfl,rfl,rfl,rfl,rfl,trivial⟩ (by repeat (first|exact Sel.nil _|refine Sel.cons (by repeat (first|exact Ph _|apply Pt_)) ?_))⟩
      ·
        have h89:¬ 4294967296≤x.2+D.limb (D.dnm m) (D.nw m-1):=h89
        refine Kf ?_
        refine ⟨(x.1-1,x.2+D.limb (D.dnm m) (D.nw m-1)),⟨hn1,hq1,by dsimp only; omega,by dsimp only; omega⟩,by dsimp only; omega,KAG ⟨rfl,rfl,rfl,rfl,rfl,rfl,trivial⟩ (by repeat (first|exact Sel.nil _|refine Sel.cons (by repeat (first|exact Ph _|apply Pt_)) ?_))⟩
  ·
    rintro d ⟨hd1,hd2,hd3⟩
    refine KD (KB ?_)
    refine KA (KF (v:=.int .u64 ((0:Nat):Int)) rfl) (Nb rfl) ?_
    refine KA (KF (v:=.int .u64 ((0:Nat):Int)) rfl) (Nb rfl) ?_
    refine KG ?_
    refine KD ?_
    refine KD (KB ?_)
    refine KA (KF (v:=.int .i64 ((0:Nat):Int)) rfl) (Nb rfl) ?_
    refine KG ?_
    refine LCode.block ?_
    refine KAN (α:=Nat×Nat×Nat×Nat) (fun x=>x.1≤D.nw m∧x.2.2.1≤1∧x.2.2.2<4294967296∧x.2.1<2^(32*(a+D.nw m+1))∧x.2.1+d*(D.dnm m%2^(32*x.1))*2^(32*a) = U+(x.2.2.1+x.2.2.2)*2^(32*(a+x.1))) (fun x=>⟨[(0,.slice (some ⟨bu,0,none⟩) l c),(1,slV qv (D.nw m)),(2,.int .i64 ((a:Nat):Int)),(7,.int .i64 ((D.nw m:Nat):Int)),(9,.int .u64 ((d:Nat):Int)),(11,.int .u64 ((x.2.2.2:Nat):Int)),(12,.int .u64 ((x.2.2.1:Nat):Int)),(13,.int .i64 ((x.1:Nat):Int))],[.blk bu ⟨true,vec .u32 l (D.limb x.2.1),67,(0,0)⟩,numI qv (D.dnm m) (D.nw m)]⟩) (fun x=>D.nw m-x.1) ((0,U,0,0)) (⟨Nat.zero_le _,Nat.zero_le _,show (0:Nat)<4294967296 by decide,hUw,D.take_pre⟩) (KAG ⟨rfl,rfl,rfl,rfl,rfl,rfl,rfl,rfl,trivial⟩ (by repeat (first|exact Sel.nil _|refine Sel.cons (by repeat (first|exact Ph _|apply Pt_)) ?_))) ?_
    intro x ⟨hx1,hx2,hx3,hx4,hx5⟩
    refine KD ?_
    refine KD (KB ?_)
    refine KA (KC rfl) (Nb rfl) ?_
    refine KA (KC rfl) (Nb rfl) ?_
    refine KA (KK rfl rfl (KAp)) (Nb rfl) ?_
    refine KG ?_
    first|refine Kh rfl (fun h92=>?_) (fun h92=>?_)|refine Kj rfl (fun h92=>?_) (fun h92=>?_)
    ·
      have h92:x.1<D.nw m:=h92
      refine Kf ?_
      refine KD ?_
      refine LCode.block ?_
      refine KD ?_
      have hlv:=D.limb_lt (D.dnm m) x.1
      have hlx:=D.limb_lt x.2.1 (a+x.1)
      have hw:d*D.limb (D.dnm m) x.1+x.2.2.2<18446744073709551616:=D.mul_word hd1 hlv hx3
      refine KB ?_
      refine KA (KC rfl) (Nb rfl) ?_
      refine KA (KC rfl) (Nb rfl) ?_
      refine KA (KC rfl) (Nb rfl) ?_
      refine KA (KAo Try.underlying24 sz_67 rfl rfl (by omega)) (Nb rfl) ?_
      refine LOps.det (Det.loadN Try.underlying67 rfl rfl (by repeat (first|exact Mh _|apply Mt)) (by omega)) (Nb rfl) ?_
      refine KA (KAW Try.underlying67 Try.underlying30 rfl (by first|omega|exact Nat.lt_trans (D.limb_lt _ _) (by decide))) (Nb rfl) ?_
      refine KA (KT (KK rfl rfl br_mul64) (vi (b:=d*D.limb (D.dnm m) x.1) (Nat.mod_eq_of_lt (mul_lt64 hd1 (D.limb_lt _ _))))) (Nb rfl) ?_
      refine KA (KC rfl) (Nb rfl) ?_
      refine KA (KT (KK rfl rfl KAf) (vi (b:=d*D.limb (D.dnm m) x.1+x.2.2.2) (Nat.mod_eq_of_lt hw))) (Nb rfl) ?_
      refine KA (KF rfl) (Nb rfl) ?_
      refine KG ?_
      refine KD (KB ?_)
      refine KA (KC rfl) (Nb rfl) ?_
      refine KA (KK rfl rfl (KAe (b:=32) hw)) (Nb rfl) ?_
      refine KA (KF rfl) (Nb rfl) ?_
      refine KG ?_
      refine KD (KB ?_)
      refine KA (KC rfl) (Nb rfl) ?_
      refine KA (KC rfl) (Nb rfl) ?_
      refine KA (KC rfl) (Nb rfl) ?_
      refine KA (KT (KK rfl rfl (KAL (by omega))) (vi (b:=a+x.1) (by omega))) (Nb rfl) ?_
      refine KA (KAE Try.underlying24 sz_67 rfl rfl (by omega)) (Nb rfl) ?_
      refine LOps.det (KL rfl (by repeat (first|exact Mh _|apply Mt)) (Kb Try.underlying67 rfl (by exact Ku _ _ _ (show a+x.1<l by omega)))) (Nb rfl) ?_
      refine KA (KAW Try.underlying67 Try.underlying30 rfl (by first|omega|exact Nat.lt_trans (D.limb_lt _ _) (by decide))) (Nb rfl) ?_
      refine KA (KT (KK rfl rfl (KAf (b:=4294967296))) (vi (b:=D.limb x.2.1 (a+x.1)+4294967296) (by omega))) (Nb rfl) ?_
      refine KA (KC rfl) (Nb rfl) ?_
      refine KA (KT (KK rfl rfl (br_and64 hw (by decide))) (vi (b:=(d*D.limb (D.dnm m) x.1+x.2.2.2)%4294967296) (and32 _))) (Nb rfl) ?_
      refine KA (KT (KK rfl rfl (br_sub64 (by omega))) (vi (b:=D.limb x.2.1 (a+x.1)+4294967296-(d*D.limb (D.dnm m) x.1+x.2.2.2)%4294967296) (by omega))) (Nb rfl) ?_
      refine KA (KC rfl) (Nb rfl) ?_
      refine KA (KT (KK rfl rfl (br_sub64 (by omega))) (vi (b:=D.limb x.2.1 (a+x.1)+4294967296-(d*D.limb (D.dnm m) x.1+x.2.2.2)%4294967296-x.2.2.1) (by omega))) (Nb rfl) ?_
      refine KA (KF rfl) (Nb rfl) ?_
      refine KG ?_
      refine KD (KB ?_)
      refine KA (KC rfl) (Nb rfl) ?_
      refine KA (KC rfl) (Nb rfl) ?_
      refine KA (KC rfl) (Nb rfl) ?_
      refine KA (KT (KK rfl rfl (KAL (by omega))) (vi (b:=a+x.1) (by omega))) (Nb rfl) ?_
      refine KA (KC rfl) (Nb rfl) ?_
      refine KA (KT (KK rfl rfl (br_and64 (by omega) (by decide))) (vi (b:=(D.limb x.2.1 (a+x.1)+4294967296-(d*D.limb (D.dnm m) x.1+x.2.2.2)%4294967296-x.2.2.1)%4294967296) (and32 _))) (Nb rfl) ?_
      refine KA (KT (KAj Try.underlying30 Try.underlying67 rfl) (vi (b:=(D.limb x.2.1 (a+x.1)+4294967296-(d*D.limb (D.dnm m) x.1+x.2.2.2)%4294967296-x.2.2.1)%4294967296) (Nat.mod_mod _ _))) (Nb rfl) ?_
      refine KA (KAE Try.underlying24 sz_67 rfl rfl (by omega)) (Nb rfl) ?_
      refine KI rfl (KAB rfl rfl rfl sz_67 (by repeat (first|exact Sh _|apply St_)) (by first|(simp only [KN,KH,KJ,KAK]; omega)|(simp; omega)) (by first|exact KAY _ _ _ _ _|exact KAa _ _ _ _ (by omega)|exact KAZ _ _ _ _|rfl) (by simp) ?_)
      refine KG ?_
      refine KB ?_
      refine KA (KC rfl) (Nb rfl) ?_
      refine KA (KK rfl rfl (KAe (b:=32) (by omega))) (Nb rfl) ?_
      refine KA (KT (KK rfl rfl (br_sub64 (a:=1) (by omega))) (vi (b:=1-(D.limb x.2.1 (a+x.1)+4294967296-(d*D.limb (D.dnm m) x.1+x.2.2.2)%4294967296-x.2.2.1)/4294967296) (by rw [show (2:Nat)^32 = 4294967296 from rfl]; omega))) (Nb rfl) ?_
      refine KA (KF rfl) (Nb rfl) ?_
      refine KG ?_
      refine KB ?_
      refine KA (KC rfl) (Nb rfl) ?_
      refine KA (KK rfl rfl (KAL (b:=1) (by omega))) (Nb rfl) ?_
      refine KA (KF rfl) (Nb rfl) ?_
      refine KG ?_
      refine ⟨(x.1+1,D.setl x.2.1 (a+x.1) ((D.limb x.2.1 (a+x.1)+4294967296-(d*D.limb (D.dnm m) x.1+x.2.2.2)%4294967296-x.2.2.1)%4294967296),1-(D.limb x.2.1 (a+x.1)+4294967296-(d*D.limb (D.dnm m) x.1+x.2.2.2)%4294967296-x.2.2.1)/4294967296,(d*D.limb (D.dnm m) x.1+x.2.2.2)/4294967296),⟨by dsimp only; omega,by dsimp only; omega,by dsimp only; omega,D.setl_lt hx4 (by omega) (Nat.mod_lt _ (by decide)),D.take_step hx5 rfl (take_parts hlx hx2)⟩,by dsimp only; omega,
        KAh (Sub.cells (b:=bu) (cs':=vec .u32 l (D.limb (D.setl x.2.1 (a+x.1) ((D.limb x.2.1 (a+x.1)+4294967296-(d*D.limb (D.dnm m) x.1+x.2.2.2)%4294967296-x.2.2.1)%4294967296)))) (by repeat (first|exact Sh _|apply St_)) (D.vec_setl (Nat.mod_lt _ (by decide)))) (KAG ⟨rfl,rfl,rfl,rfl,rfl,rfl,rfl,rfl,trivial⟩ (by repeat (first|exact Sel.nil _|refine Sel.cons (by repeat (first|exact Ph _|apply Pt_)) ?_)))⟩
    ·
      have h92:¬ x.1<D.nw m:=h92
      have he:x.1 = D.nw m:=by omega
      rw [he] at hx5
      refine KAH ?_
      refine KD ?_
      have hlx:=D.limb_lt x.2.1 (a+D.nw m)
      refine KB ?_
      refine KA (KC rfl) (Nb rfl) ?_
      refine KA (KC rfl) (Nb rfl) ?_
      refine KA (KC rfl) (Nb rfl) ?_
      refine KA (KK rfl rfl (KAL (by omega))) (Nb rfl) ?_
      refine KA (KAE Try.underlying24 sz_67 rfl rfl (by omega)) (Nb rfl) ?_
      refine LOps.det (KL rfl (by repeat (first|exact Mh _|apply Mt)) (Kb Try.underlying67 rfl (by exact Ku _ _ _ (show a+D.nw m<l by omega)))) (Nb rfl) ?_
      refine KA (KAW Try.underlying67 Try.underlying30 rfl (by first|omega|exact Nat.lt_trans (D.limb_lt _ _) (by decide))) (Nb rfl) ?_
      refine KA (KT (KK rfl rfl (KAf (b:=4294967296))) (vi (b:=D.limb x.2.1 (a+D.nw m)+4294967296) (by omega))) (Nb rfl) ?_
      refine KA (KC rfl) (Nb rfl) ?_
      refine KA (KT (KK rfl rfl (br_sub64 (by omega))) (vi (b:=D.limb x.2.1 (a+D.nw m)+4294967296-x.2.2.2) (by omega))) (Nb rfl) ?_
      refine KA (KC rfl) (Nb rfl) ?_
      refine KA (KT (KK rfl rfl (br_sub64 (by omega))) (vi (b:=D.limb x.2.1 (a+D.nw m)+4294967296-x.2.2.2-x.2.2.1) (by omega))) (Nb rfl) ?_
      refine KA (KF rfl) (Nb rfl) ?_
      refine KG ?_
      refine KD (KB ?_)
      refine KA (KC rfl) (Nb rfl) ?_
      refine KA (KC rfl) (Nb rfl) ?_
      refine KA (KC rfl) (Nb rfl) ?_
      refine KA (KK rfl rfl (KAL (by omega))) (Nb rfl) ?_
      refine KA (KC rfl) (Nb rfl) ?_
      refine KA (KT (KK rfl rfl (br_and64 (by omega) (by decide))) (vi (b:=(D.limb x.2.1 (a+D.nw m)+4294967296-x.2.2.2-x.2.2.1)%4294967296) (and32 _))) (Nb rfl) ?_
      refine KA (KT (KAj Try.underlying30 Try.underlying67 rfl) (vi (b:=(D.limb x.2.1 (a+D.nw m)+4294967296-x.2.2.2-x.2.2.1)%4294967296) (Nat.mod_mod _ _))) (Nb rfl) ?_
      refine KA (KAE Try.underlying24 sz_67 rfl rfl (by omega)) (Nb rfl) ?_
      refine KI rfl (KAB rfl rfl rfl sz_67 (by repeat (first|exact Sh _|apply St_)) (by first|(simp only [KN,KH,KJ,KAK]; omega)|(simp; omega)) (by first|exact KAY _ _ _ _ _|exact KAa _ _ _ _ (by omega)|exact KAZ _ _ _ _|rfl) (by simp) ?_)
      refine KG ?_
      refine KD ?_
      refine KD (KB ?_)
      refine KA (KC rfl) (Nb rfl) ?_
      refine KA (KK rfl rfl (KAe (b:=32) (by omega))) (Nb rfl) ?_
      refine KA (KK rfl rfl (KAc (b:=1))) (Nb rfl) ?_
      refine KG ?_
      first|refine Kh rfl (fun h152=>?_) (fun h152=>?_)|refine Kj rfl (fun h152=>?_) (fun h152=>?_)
      ·
        have h152:(D.limb x.2.1 (a+D.nw m)+4294967296-x.2.2.2-x.2.2.1)/2^32 = 1:=h152
        rw [show (2:Nat)^32 = 4294967296 from rfl] at h152
        have hfl:=D.take_last (D.dnm_lt m) hx5 (take_parts2 hlx hx3 hx2)
        rw [h152,Nat.sub_self,Nat.zero_mul] at hfl
        replace hfl:=hfl.trans (Nat.add_zero U)
        refine KD (KB ?_)
        refine KA (KC rfl) (Nb rfl) ?_
        refine KA (KF rfl) (Nb rfl) ?_
        refine KG (KX ?_)
        refine ⟨[_],.cons rfl .nil,fun a' w' hr=>⟨_,_,⟨d,_,hd1,hfl,D.quo_done (D.dnm_pos hm0) hfl (by rw [hQ]; exact hd2),rfl,D.vec_setl (Nat.mod_lt _ (by decide))⟩,rfl,hr.hp _ (by repeat (first|exact Mh _|apply Mt)),hr.fr⟩⟩
      ·
        have h152:¬ (D.limb x.2.1 (a+D.nw m)+4294967296-x.2.2.2-x.2.2.1)/2^32 = 1:=h152
        rw [show (2:Nat)^32 = 4294967296 from rfl] at h152
        have hfl:=D.take_last (D.dnm_lt m) hx5 (take_parts2 hlx hx3 hx2)
        rw [show 1-(D.limb x.2.1 (a+D.nw m)+4294967296-x.2.2.2-x.2.2.1)/4294967296 = 1 by omega,Nat.one_mul] at hfl
        obtain ⟨U1,hU1⟩:∃ U1,D.setl x.2.1 (a+D.nw m) ((D.limb x.2.1 (a+D.nw m)+4294967296-x.2.2.2-x.2.2.1)%4294967296) = U1:=⟨_,rfl⟩
        have hU1l:=D.setl_lt (y:=(D.limb x.2.1 (a+D.nw m)+4294967296-x.2.2.2-x.2.2.1)%4294967296) hx4 (show a+D.nw m<a+D.nw m+1 by omega) (Nat.mod_lt _ (by decide))
        have hU1v:=D.vec_setl (n:=l) (X:=x.2.1) (p:=a+D.nw m) (y:=(D.limb x.2.1 (a+D.nw m)+4294967296-x.2.2.2-x.2.2.1)%4294967296) (Nat.mod_lt _ (by decide))
        rw [hU1] at hfl hU1l hU1v
        have hqw:=D.quo_word hU1l hfl (by rw [hQ]; exact hd2) (D.dnm_pos hm0)
        refine Kf ?_
        refine KD (KB ?_)
        refine KA (KF (v:=.int .u64 ((0:Nat):Int)) rfl) (Nb rfl) ?_
        refine KG ?_
        refine KD ?_
        refine KD (KB ?_)
        refine KA (KF (v:=.int .i64 ((0:Nat):Int)) rfl) (Nb rfl) ?_
        refine KG ?_
        refine LCode.block ?_
        refine KAN (α:=Nat×Nat×Nat) (fun x=>x.1≤D.nw m∧x.2.2≤1∧x.2.1<2^(32*(a+D.nw m+1))∧x.2.1+x.2.2*2^(32*(a+x.1)) = U1+(D.dnm m%2^(32*x.1))*2^(32*a)) (fun x=>⟨[(0,.slice (some ⟨bu,0,none⟩) l c),(1,slV qv (D.nw m)),(2,.int .i64 ((a:Nat):Int)),(7,.int .i64 ((D.nw m:Nat):Int)),(9,.int .u64 ((d:Nat):Int)),(11,.int .u64 ((x.2.2:Nat):Int)),(17,.int .i64 ((x.1:Nat):Int))],[.blk bu ⟨true,vec .u32 l (D.limb x.2.1),67,(0,0)⟩,numI qv (D.dnm m) (D.nw m)]⟩) (fun x=>D.nw m-x.1) ((0,U1,0)) (⟨Nat.zero_le _,Nat.zero_le _,hU1l,D.back_pre⟩) (KAh (Sub.cells (b:=bu) (cs':=vec .u32 l (D.limb U1)) (by repeat (first|exact Sh _|apply St_)) hU1v) (KAG ⟨rfl,rfl,rfl,rfl,rfl,rfl,rfl,trivial⟩ (by repeat (first|exact Sel.nil _|refine Sel.cons (by repeat (first|exact Ph _|apply Pt_)) ?_)))) ?_
        clear hx5
        intro x ⟨hx1,hx2,hx4,hx5⟩
        refine KD ?_
        refine KD (KB ?_)
        refine KA (KC rfl) (Nb rfl) ?_
        refine KA (KC rfl) (Nb rfl) ?_
        refine KA (KK rfl rfl (KAp)) (Nb rfl) ?_
        refine KG ?_
        first|refine Kh rfl (fun h156=>?_) (fun h156=>?_)|refine Kj rfl (fun h156=>?_) (fun h156=>?_)
        ·
          have h156:x.1<D.nw m:=h156
          refine Kf ?_
          refine KD ?_
          refine LCode.block ?_
          refine KD ?_
          have hlv:=D.limb_lt (D.dnm m) x.1
          have hlx:=D.limb_lt x.2.1 (a+x.1)
          refine Kg [] (by kernel_rfl) ?_
          refine KE 0 rfl (by kernel_rfl) (Nb rfl) (KC rfl) ?_
          refine KE 1 rfl (by kernel_rfl) (Nb rfl) (KC rfl) ?_
          refine KE 2 rfl (by kernel_rfl) (Nb rfl) (KC rfl) ?_
          refine KE 3 rfl (by kernel_rfl) (Nb rfl) (KT (KK rfl rfl (KAL (by omega))) (vi (b:=a+x.1) (by omega))) ?_
          refine KE 4 rfl (by kernel_rfl) (Nb rfl) (KAE Try.underlying24 sz_67 rfl rfl (by omega)) ?_
          refine LAny.take 5 rfl (by kernel_rfl) (Nb rfl) (KL rfl (by repeat (first|exact Mh _|apply Mt)) (Kb Try.underlying67 rfl (by exact Ku _ _ _ (show a+x.1<l by omega)))) ?_
          refine KE 6 rfl (by kernel_rfl) (Nb rfl) (KAW Try.underlying67 Try.underlying30 rfl (by first|omega|exact Nat.lt_trans (D.limb_lt _ _) (by decide))) ?_
          refine KE 7 rfl (by kernel_rfl) (Nb rfl) (KC rfl) ?_
          refine KE 8 rfl (by kernel_rfl) (Nb rfl) (KC rfl) ?_
          refine KE 9 rfl (by kernel_rfl) (Nb rfl) (KAo Try.underlying24 sz_67 rfl rfl (by omega)) ?_
          refine LAny.take 10 rfl (by kernel_rfl) (Nb rfl) (Det.loadN Try.underlying67 rfl rfl (by repeat (first|exact Mh _|apply Mt)) (by omega)) ?_
          refine KE 11 rfl (by kernel_rfl) (Nb rfl) (KAW Try.underlying67 Try.underlying30 rfl (by first|omega|exact Nat.lt_trans (D.limb_lt _ _) (by decide))) ?_
          refine KE 12 rfl (by kernel_rfl) (Nb rfl) (KT (KK rfl rfl KAf) (vi (b:=D.limb x.2.1 (a+x.1)+D.limb (D.dnm m) x.1) (by omega))) ?_
          refine KE 13 rfl (by kernel_rfl) (Nb rfl) (KC rfl) ?_
          refine KE 14 rfl (by kernel_rfl) (Nb rfl) (KT (KK rfl rfl KAf) (vi (b:=D.limb x.2.1 (a+x.1)+D.limb (D.dnm m) x.1+x.2.2) (by omega))) ?_
          refine KE 15 rfl (by kernel_rfl) (Nb rfl) (KF rfl) ?_
          refine Ko (by kernel_rfl) ?_
          refine KD (KB ?_)
          refine KA (KC rfl) (Nb rfl) ?_
          refine KA (KC rfl) (Nb rfl) ?_
          refine KA (KC rfl) (Nb rfl) ?_
          refine KA (KT (KK rfl rfl (KAL (by omega))) (vi (b:=a+x.1) (by omega))) (Nb rfl) ?_
          refine KA (KC rfl) (Nb rfl) ?_
          refine KA (KT (KK rfl rfl (br_and64 (by omega) (by decide))) (vi (b:=(D.limb x.2.1 (a+x.1)+D.limb (D.dnm m) x.1+x.2.2)%4294967296) (and32 _))) (Nb rfl) ?_
          refine KA (KT (KAj Try.underlying30 Try.underlying67 rfl) (vi (b:=(D.limb x.2.1 (a+x.1)+D.limb (D.dnm m) x.1+x.2.2)%4294967296) (Nat.mod_mod _ _))) (Nb rfl) ?_
          refine KA (KAE Try.underlying24 sz_67 rfl rfl (by omega)) (Nb rfl) ?_
          refine KI rfl (KAB rfl rfl rfl sz_67 (by repeat (first|exact Sh _|apply St_)) (by first|(simp only [KN,KH,KJ,KAK]; omega)|(simp; omega)) (by first|exact KAY _ _ _ _ _|exact KAa _ _ _ _ (by omega)|exact KAZ _ _ _ _|rfl) (by simp) ?_)
          refine KG ?_
          refine KB ?_
          refine KA (KC rfl) (Nb rfl) ?_
          refine KA (KK rfl rfl (KAe (b:=32) (by omega))) (Nb rfl) ?_
          refine KA (KF rfl) (Nb rfl) ?_
          refine KG ?_
          refine KB ?_
          refine KA (KC rfl) (Nb rfl) ?_
          refine KA (KK rfl rfl (KAL (b:=1) (by omega))) (Nb rfl) ?_
          refine KA (KF rfl) (Nb rfl) ?_
          refine KG ?_
          refine ⟨(x.1+1,D.setl x.2.1 (a+x.1) ((D.limb x.2.1 (a+x.1)+D.limb (D.dnm m) x.1+x.2.2)%4294967296),(D.limb x.2.1 (a+x.1)+D.limb (D.dnm m) x.1+x.2.2)/4294967296),⟨by dsimp only; omega,by dsimp only; omega,D.setl_lt hx4 (by omega) (Nat.mod_lt _ (by decide)),D.back_step hx5 D.add_word⟩,by dsimp only; omega,
            KAh (Sub.cells (b:=bu) (cs':=vec .u32 l (D.limb (D.setl x.2.1 (a+x.1) ((D.limb x.2.1 (a+x.1)+D.limb (D.dnm m) x.1+x.2.2)%4294967296)))) (by repeat (first|exact Sh _|apply St_)) (D.vec_setl (Nat.mod_lt _ (by decide)))) (KAG ⟨rfl,rfl,rfl,rfl,rfl,rfl,rfl,trivial⟩ (by repeat (first|exact Sel.nil _|refine Sel.cons (by repeat (first|exact Ph _|apply Pt_)) ?_)))⟩
        ·
          have h156:¬ x.1<D.nw m:=h156
          have he:x.1 = D.nw m:=by omega
          rw [he] at hx5
          refine KAH ?_
          refine KD ?_
          have hlx:=D.limb_lt x.2.1 (a+D.nw m)
          refine KB ?_
          refine KA (KC rfl) (Nb rfl) ?_
          refine KA (KC rfl) (Nb rfl) ?_
          refine KA (KC rfl) (Nb rfl) ?_
          refine KA (KK rfl rfl (KAL (by omega))) (Nb rfl) ?_
          refine KA (KC rfl) (Nb rfl) ?_
          refine KA (KC rfl) (Nb rfl) ?_
          refine KA (KC rfl) (Nb rfl) ?_
          refine KA (KK rfl rfl (KAL (by omega))) (Nb rfl) ?_
          refine KA (KAE Try.underlying24 sz_67 rfl rfl (by omega)) (Nb rfl) ?_
          refine LOps.det (KL rfl (by repeat (first|exact Mh _|apply Mt)) (Kb Try.underlying67 rfl (by exact Ku _ _ _ (show a+D.nw m<l by omega)))) (Nb rfl) ?_
          refine KA (KC rfl) (Nb rfl) ?_
          refine KA (KT (KAj Try.underlying30 Try.underlying67 rfl) (vi (b:=x.2.2) (Nat.mod_eq_of_lt (by omega)))) (Nb rfl) ?_
          refine KA (KK rfl rfl (br_add32d)) (Nb rfl) ?_
          refine KA (KAE Try.underlying24 sz_67 rfl rfl (by omega)) (Nb rfl) ?_
          refine KI rfl (KAB rfl rfl rfl sz_67 (by repeat (first|exact Sh _|apply St_)) (by first|(simp only [KN,KH,KJ,KAK]; omega)|(simp; omega)) (by first|exact KAY _ _ _ _ _|exact KAa _ _ _ _ (by omega)|exact KAZ _ _ _ _|rfl) (by simp) ?_)
          refine KG ?_
          refine KD (KB ?_)
          refine KA (KC rfl) (Nb rfl) ?_
          refine KA (KT (KK rfl rfl (br_sub64 (b:=1) (by decide))) (vi (b:=d-1) (by omega))) (Nb rfl) ?_
          refine KA (KF rfl) (Nb rfl) ?_
          refine KG (KX ?_)
          have hb:=D.back_step (a:=a) (i:=D.nw m) (D:=D.dnm m) hx5 (lo:=(D.limb x.2.1 (a+D.nw m)+x.2.2)%4294967296) (c':=(D.limb x.2.1 (a+D.nw m)+x.2.2)/4294967296) (by rw [D.limb_high (D.dnm_lt m) (Nat.le_refl _)]; omega)
          rw [Nat.mod_eq_of_lt (Nat.lt_of_lt_of_le (D.dnm_lt m) (Nat.pow_le_pow_right (by decide) (by omega)))] at hb
          have hlt9:=D.limb_lt x.2.1 (a+D.nw m)
          have hc9:(D.limb x.2.1 (a+D.nw m)+x.2.2)/4294967296≤1:=by omega
          have hU9:=D.setl_lt (y:=(D.limb x.2.1 (a+D.nw m)+x.2.2)%4294967296) hx4 (show a+D.nw m<a+D.nw m+1 by omega) (Nat.mod_lt _ (by decide))
          have hqb9:=D.quo_back hqw.2 hfl (by rw [← Nat.add_assoc] at hb; exact hb) hc9
          have hce:=D.back_enough (D.dnm_pos hm0) hc9 (by rw [hQ]; omega) hqb9 hU9
          rw [hce,Nat.sub_self,Nat.zero_mul,Nat.add_zero] at hqb9
          refine ⟨[_],.cons rfl .nil,fun a' w' hr=>⟨_,_,⟨d-1,_,by omega,hqb9,D.quo_done (D.dnm_pos hm0) hqb9 (by rw [hQ]; rw [hQ] at hqw; exact hqw.1),rfl,D.vec_setl (Nat.mod_lt _ (by decide))⟩,rfl,hr.hp _ (by repeat (first|exact Mh _|apply Mt)),hr.fr⟩⟩
end Go.Proofs.Ytlmiolnccgjjjaa
set_option linter.unusedVariables false
set_option linter.unusedSimpArgs false
set_option maxRecDepth 20000
namespace Go.Proofs.Ytlmiolnccgjjjaa
open Go Go.RowKit
theorem cmp_lss {A B:Nat}:KAP .lss .i64 (cmpI A B) .i64 0 = some (.bool (decide (A<B))):=by
  unfold cmpI
  by_cases h:A<B
  · rw [if_pos h,decide_eq_true h]; rfl
  · rw [if_neg h,decide_eq_false h]
    split <;> rfl
theorem cmp_geq {A B:Nat}:KAP .geq .i64 (cmpI A B) .i64 0 = some (.bool (decide (B≤A))):=by
  unfold cmpI
  by_cases h:A<B
  · rw [if_pos h,decide_eq_false (Nat.not_le_of_lt h)]; rfl
  · rw [if_neg h,decide_eq_true (Nat.le_of_not_lt h)]
    split <;> rfl
theorem cmp_leq {A B:Nat}:KAP .leq .i64 (cmpI A B) .i64 0 = some (.bool (decide (A≤B))):=by
  unfold cmpI
  by_cases h:A<B
  · rw [if_pos h,decide_eq_true (Nat.le_of_lt h)]; rfl
  · rw [if_neg h]
    by_cases h2:B<A
    · rw [if_pos h2,decide_eq_false (Nat.not_le_of_lt h2)]; rfl
    · rw [if_neg h2,decide_eq_true (by omega)]; rfl
theorem cmp_neq {A B:Nat}:KAP .neq .i64 (cmpI A B) .i64 0 = some (.bool (decide (A≠B))):=by
  unfold cmpI
  by_cases h:A<B
  · rw [if_pos h,decide_eq_true (by omega)]; rfl
  · rw [if_neg h]
    by_cases h2:B<A
    · rw [if_pos h2,decide_eq_true (by omega)]; rfl
    · rw [if_neg h2,decide_eq_false (by omega)]; rfl
theorem cmp_eql {A B:Nat}:KAP .eql .i64 (cmpI A B) .i64 0 = some (.bool (decide (A = B))):=by
  unfold cmpI
  by_cases h:A<B
  · rw [if_pos h,decide_eq_false (by omega)]; rfl
  · rw [if_neg h]
    by_cases h2:B<A
    · rw [if_pos h2,decide_eq_false (by omega)]; rfl
    · rw [if_neg h2,decide_eq_true (by omega)]; rfl
theorem one_digit {m:Nat} (h:D.nw m = 1):D.limb m 0 = m:=by
  have h1:=D.lt_nw m
  rw [h] at h1
  unfold D.limb
  rw [Nat.mul_zero,Nat.pow_zero,Nat.div_one,Nat.mod_eq_of_lt (by omega)]
theorem splice_num {A n l:Nat} (hA:A<2^(32*n)) (h:n≤l):splice (vec .u32 l (fun _=>0)) 0 (vec .u32 n (D.limb A)) = vec .u32 l (D.limb A):=by
  apply List.ext_getElem?
  intro i
  simp only [splice,List.take_zero,List.nil_append,Nat.zero_add,KN]
  rcases Nat.lt_or_ge i n with h1|h1
  · rw [List.getElem?_append_left (by rw [KN]; exact h1),Ku _ _ _ h1,Ku _ _ _ (by omega)]
  · rw [List.getElem?_append_right (by rw [KN]; exact h1),KN,List.getElem?_drop,show n+(i-n) = i by omega]
    rcases Nat.lt_or_ge i l with h2|h2
    · rw [Ku _ _ _ h2,Ku _ _ _ h2,D.limb_high hA h1]
    · rw [List.getElem?_eq_none (by rw [KN]; exact h2),List.getElem?_eq_none (by rw [KN]; exact h2)]
theorem numV_dnm {q:NV} {m:Nat} (h:m≠0):numV q (D.dnm m) = slV q (D.nw m):=by unfold numV; rw [D.nw_dnm h]
theorem numT_dnm {q:NV} {m:Nat} (h:m≠0):numT q (D.dnm m) = numI q (D.dnm m) (D.nw m):=by unfold numT; rw [D.nw_dnm h]
theorem Rel.num2Q {w : World} {N : Nat} {st : St} {a : Act} {w' : World} {old : List Nat} {A B : Nat} {q r : NV} {mk : Value → Value → Value} (hr : Rel ⟨w, NoW, N⟩ st a w') (hm : numT q A ∈ st.H) (hn : NFr w.heap.size old q (D.nw A)) (hm' : numT r B ∈ st.H) (hn' : NFr w.heap.size old r (D.nw B)) :
    Num2R w old A B mk (.returned (mk (numV q A) (numV r B))) w':=⟨q,r,rfl,hr.hp _ hm,hn,hr.hp _ hm',hn',hr.fr.below⟩
theorem Rel.num2B {w : World} {N : Nat} {st : St} {a : Act} {w' : World} {old : List Nat} {A n b c B : Nat} {r : NV} {ty : TypeId} {fz : Nat × Nat} {mk : Value → Value → Value} (hr : Rel ⟨w, NoW, N⟩ st a w') (hm : Item.blk b ⟨true, vec .u32 n (D.limb A), ty, fz⟩ ∈ st.H) (hA : A < 2 ^ (32 * n)) (hm' : numT r B ∈ st.H) (hn' : NFr w.heap.size old r (D.nw B)) :
    Num2R w old A B mk (.returned (mk (.slice (some ⟨b,0,none⟩) (D.nw A) c) (numV r B))) w':=⟨⟨false,b,c⟩,r,rfl,numT_blk (hr.hp _ hm) hA,NFr.blk _ (hr.new hm rfl),hr.hp _ hm',hn',hr.fr.below⟩
theorem c_n_Div (q r:NV) (A m:Nat) (hm0:m≠0) (w:World) (hq:(numT q A).holds w) (hr:(numT r m).holds w) (hA:D.nw A≤900000):Calls Try.prog 99 ([numV q A,numV r m]:List Value).toArray w (fun e w'=>Num2R w (fpz q (D.nw A)) (A/m) (A%m) (fun u v=>.tuple #[u,v]) e w'):=by
  refine Ky (N:=78) (rs:=[.tmp 4,.tmp 5]) [numT q A,numT r m] Try.func99 rfl Try.ntmps99 Try.results99 (Nb rfl) ⟨hq,hr,trivial⟩ rfl ?_
  show LCode _ _ _ ⟨_,_⟩ _
  refine KD (KB ?_)
  refine KA (KF rfl) (Nb rfl) ?_
  refine KA (KF rfl) (Nb rfl) ?_
  refine KG ?_
  refine KD ?_
  refine KD (KB ?_)
  refine KA (KC rfl) (Nb rfl) ?_
  refine KA (KC rfl) (Nb rfl) ?_
  refine KI rfl (KS (KP (first:=[]) rfl en_59 rfl (Nb rfl) (fun w hw=>c_n_Cmp q r A m w (hw _ (by repeat (first|exact Mh _|apply Mt))) (hw _ (by repeat (first|exact Mh _|apply Mt))) (by omega)) ?_))
  refine KA (KK rfl rfl cmp_lss) (Nb rfl) ?_
  refine KG ?_
  first|refine Kh rfl (fun h15=>?_) (fun h15=>?_)|refine Kj rfl (fun h15=>?_) (fun h15=>?_)
  ·
    have h15:A<m:=h15
    refine KD (KB ?_)
    refine KA (KC rfl) (Nb rfl) ?_
    refine KA (KF rfl) (Nb rfl) ?_
    refine KA (KF rfl) (Nb rfl) ?_
    refine KG (KX ?_)
    refine ⟨[_,_],.cons rfl (.cons rfl .nil),fun a w' hr=>?_⟩
    rw [Nat.div_eq_of_lt h15,Nat.mod_eq_of_lt h15]
    exact ⟨⟨true,0,0⟩,q,rfl,numT_nil _ _ _,NFr.nil _ _ _ _,hr.hp _ (by repeat (first|exact Mh _|apply Mt)),NFr.self _ _ _,hr.fr.below⟩
  ·
    have h15:¬ A<m:=h15
    have hmA:=D.nw_mono (Nat.le_of_not_lt h15)
    have hm9:=D.nw_pos hm0
    refine Kf ?_
    refine KD ?_
    refine KD (KB ?_)
    refine KA (KC rfl) (Nb rfl) ?_
    refine KA (KAX Try.underlying24 rfl) (Nb rfl) ?_
    refine KA (KK rfl rfl (KAc (b:=1))) (Nb rfl) ?_
    refine KG ?_
    first|refine Kh rfl (fun h19=>?_) (fun h19=>?_)|refine Kj rfl (fun h19=>?_) (fun h19=>?_)
    ·
      have h19:D.nw m = 1:=h19
      have hm1:m<4294967296:=by have:=D.lt_nw m; rw [h19] at this; omega
      refine KD (KB ?_)
      refine KA (KC rfl) (Nb rfl) ?_
      refine KA (KC rfl) (Nb rfl) ?_
      refine KA (KAo (i:=0) Try.underlying24 sz_67 rfl rfl (by omega)) (Nb rfl) ?_
      refine LOps.det (Det.loadN Try.underlying67 rfl rfl (by repeat (first|exact Mh _|apply Mt)) (by omega)) (Nb rfl) ?_
      refine KA (KT (KAW Try.underlying67 Try.underlying30 rfl (Nat.lt_trans (D.limb_lt _ _) (by decide))) (vi (b:=m) (one_digit h19))) (Nb rfl) ?_
      refine KI rfl (KS (Kx (first:=[]) rfl en_132 rfl (Nb rfl) (fun w hw hs=>(c_n_short q A m w (hw _ (by repeat (first|exact Mh _|apply Mt))) (by omega) (Nat.pos_of_ne_zero hm0) hm1).mono fun e w' h=>Num2R.q (Old.nil _) hs h) ?_))
      rintro _ _ ⟨q25a,q25b,rfl,rfl,hn25a,hn25b⟩
      refine KA (Ka rfl rfl) (Nb rfl) ?_
      refine KA (Ka rfl rfl) (Nb rfl) ?_
      refine KA (KF rfl) (Nb rfl) ?_
      refine KA (KF rfl) (Nb rfl) ?_
      refine KG (KX ?_)
      refine ⟨[_,_],.cons rfl (.cons rfl .nil),fun a w' hr=>hr.num2Q (by repeat (first|exact Mh _|apply Mt)) hn25a.any (by repeat (first|exact Mh _|apply Mt)) hn25b.any⟩
    ·
      have h19:¬ D.nw m = 1:=h19
      have hs32:=D.dsh_lt hm0
      have hbl:=D.dsh_add m
      refine Kf ?_
      refine KD (KB ?_)
      refine KA (KC rfl) (Nb rfl) ?_
      refine KA (KAX Try.underlying24 rfl) (Nb rfl) ?_
      refine KA (KK rfl rfl (br_mul (a:=32) (by omega))) (Nb rfl) ?_
      refine KA (KC rfl) (Nb rfl) ?_
      refine KI rfl (KS (KP (first:=[]) rfl en_70 rfl (Nb rfl) (fun w hw=>c_n_Bits r m w (hw _ (by repeat (first|exact Mh _|apply Mt))) (by omega)) ?_))
      refine KA (KT (KK rfl rfl (br_sub (by omega) (by omega))) (vi (b:=D.dsh m) rfl)) (Nb rfl) ?_
      refine KA (KF rfl) (Nb rfl) ?_
      refine KG ?_
      refine KD (KB ?_)
      refine KA (KC rfl) (Nb rfl) ?_
      refine KA (KC rfl) (Nb rfl) ?_
      refine KI rfl (KS (Kx (first:=[]) rfl en_133 rfl (Nb rfl) (fun w hw hs=>(c_n_Shl r m (D.dsh m) w (hw _ (by repeat (first|exact Mh _|apply Mt))) (by omega) (by omega)).mono fun e w' h=>NumR.q (Old.nil _) hs h) ?_))
      rintro _ _ ⟨q36,rfl,rfl,hn36⟩
      rw [show numV q36 (m*2^D.dsh m) = slV q36 (D.nw m) from numV_dnm hm0,show numT q36 (m*2^D.dsh m) = numI q36 (D.dnm m) (D.nw m) from numT_dnm hm0]
      refine KA (KF rfl) (Nb rfl) ?_
      refine KG ?_
      refine KD (KB ?_)
      refine KA (KC rfl) (Nb rfl) ?_
      refine KA (KAX Try.underlying24 rfl) (Nb rfl) ?_
      refine KA (KK rfl rfl (KAL (b:=1) (by omega))) (Nb rfl) ?_
      refine KI rfl (KS (KR (Makes.mkV Try.underlying24 inf_67 rfl rfl (by omega) (by omega)) (Nb rfl) (fun b40=>?_)))
      refine KA (KF rfl) (Nb rfl) ?_
      refine KG ?_
      refine KD ?_
      have hle:D.nw (A*2^D.dsh m)≤D.nw A+1:=D.nw_le (Nat.lt_of_lt_of_le D.shl_lt (Nat.pow_le_pow_right (by decide) (by rw [Nat.div_eq_of_lt hs32]; omega)))
      refine KB ?_
      refine KA (KC rfl) (Nb rfl) ?_
      refine KA (KC rfl) (Nb rfl) ?_
      refine KA (KC rfl) (Nb rfl) ?_
      refine KI rfl (KS (Kx (first:=[]) rfl en_133 rfl (Nb rfl) (fun w hw hs=>(c_n_Shl q A (D.dsh m) w (hw _ (by repeat (first|exact Mh _|apply Mt))) (by omega) (by omega)).mono fun e w' h=>NumR.q (Old.nil _) hs h) ?_))
      rintro _ _ ⟨q44,rfl,rfl,hn44⟩
      refine KI rfl (LStepW.copyN (ats:=[24,24]) (n:=D.nw (A*2^D.dsh m)) (A:=A*2^D.dsh m) (q:=q44) (l:=D.nw A+1) rfl rfl rfl Try.underlying24 sz_67 (by repeat (first|exact Mh _|apply Mt)) hle (by rw [KN]; exact Nat.le_refl _) (Nb rfl) (by repeat (first|exact Sh _|apply St_)) (splice_num (D.lt_nw _) hle) ?_)
      refine KG ?_
      refine KD (KB ?_)
      refine KA (KC rfl) (Nb rfl) ?_
      refine KA (KAX Try.underlying24 rfl) (Nb rfl) ?_
      refine KA (KF rfl) (Nb rfl) ?_
      refine KG ?_
      refine KD (KB ?_)
      refine KA (KC rfl) (Nb rfl) ?_
      refine KA (KAX Try.underlying24 rfl) (Nb rfl) ?_
      refine KA (KC rfl) (Nb rfl) ?_
      refine KA (KK rfl rfl (br_sub (by omega) (by omega))) (Nb rfl) ?_
      refine KI rfl (KS (KR (Makes.mkV Try.underlying24 inf_67 rfl rfl (by omega) (by omega)) (Nb rfl) (fun b52=>?_)))
      refine KA (KF rfl) (Nb rfl) ?_
      refine KG ?_
      refine KD ?_
      refine KD (KB ?_)
      refine KA (KC rfl) (Nb rfl) ?_
      refine KA (KAX Try.underlying24 rfl) (Nb rfl) ?_
      refine KA (KC rfl) (Nb rfl) ?_
      refine KA (KK rfl rfl (br_sub (by omega) (by omega))) (Nb rfl) ?_
      refine KA (KK (v:=.int .i64 (((D.nw A+1-D.nw m:Nat):Int)-1)) rfl rfl (br_subI (by omega) (by omega))) (Nb rfl) ?_
      refine KA (KF rfl) (Nb rfl) ?_
      refine KG ?_
      refine LCode.block ?_
      refine KAN (α:=Nat×Nat×Nat) (fun x=>x.1≤D.nw A+1-D.nw m∧x.2.1+x.2.2*2^(32*x.1)*D.dnm m = A*2^D.dsh m∧x.2.1<D.dnm m*2^(32*x.1)) (fun x=>⟨[(6,.int .i64 ((D.dsh m:Nat):Int)),(7,slV q36 (D.nw m)),(8,.slice (some ⟨b40,0,none⟩) (D.nw A+1) (D.nw A+1)),(9,.int .i64 ((D.nw m:Nat):Int)),(10,.slice (some ⟨b52,0,none⟩) (D.nw A+1-D.nw m) (D.nw A+1-D.nw m)),(11,.int .i64 ((x.1:Int)-1))],[.blk b52 ⟨true,vec .u32 (D.nw A+1-D.nw m) (D.limb (x.2.2*2^(32*x.1))),67,(0,0)⟩,.blk b40 ⟨true,vec .u32 (D.nw A+1) (D.limb x.2.1),67,(0,0)⟩,numI q36 (D.dnm m) (D.nw m)]⟩) (fun x=>x.1) ((D.nw A+1-D.nw m,A*2^D.dsh m,0)) (⟨Nat.le_refl _,by dsimp only; rw [Nat.zero_mul,Nat.zero_mul,Nat.add_zero],by have:=D.div_begin hm0 hmA (D.lt_nw A); dsimp only; rwa [show D.nw A+1-D.nw m = D.nw A-D.nw m+1 by omega]⟩) (KAh (Sub.cells (b:=b52) (cs':=vec .u32 (D.nw A+1-D.nw m) (D.limb (0*2^(32*(D.nw A+1-D.nw m))))) (by repeat (first|exact Sh _|apply St_)) (by rw [Nat.zero_mul]; exact D.vec_zeros _)) (KAG ⟨rfl,rfl,rfl,rfl,rfl,rfl,trivial⟩ (by repeat (first|exact Sel.nil _|refine Sel.cons (by repeat (first|exact Ph _|apply Pt_)) ?_)))) ?_
      rintro x ⟨hx1,hx3,hx4⟩
      refine KD ?_
      refine KD ?_
      rcases Nat.eq_zero_or_pos x.1 with h0|h0
      ·
        refine KB ?_
        refine KA (KC rfl) (Nb rfl) ?_
        refine KA (KK (v:=.bool false) rfl rfl (by rw [h0]; rfl)) (Nb rfl) ?_
        refine KG ?_
        rw [h0,Nat.mul_zero,Nat.pow_zero,Nat.mul_one] at hx3
        rw [h0,Nat.mul_zero,Nat.pow_zero,Nat.mul_one] at hx4
        have hU:x.2.1<D.dnm m:=hx4
        obtain ⟨he1,he2⟩:=D.div_end hm0 hx3 hx4
        refine Kd rfl ?_
        refine KAH ?_
        refine KD ?_
        have hQl:A/m<2^(32*(D.nw A+1-D.nw m)):=by
          rw [← he1]
          refine Nat.lt_of_mul_lt_mul_right (a:=D.dnm m) (Nat.lt_of_le_of_lt (Nat.le_trans (Nat.le_add_left _ _) (Nat.le_of_eq hx3)) ?_)
          have:=D.div_begin hm0 hmA (D.lt_nw A)
          rw [show D.nw A-D.nw m+1 = D.nw A+1-D.nw m by omega] at this
          rw [Nat.mul_comm (2^_)]
          exact this
        refine LCode.sub (Sub.cells (b:=b52) (cs':=vec .u32 (D.nw A+1-D.nw m) (D.limb (A/m))) (by repeat (first|exact Sh _|apply St_)) (by rw [h0,Nat.mul_zero,Nat.pow_zero,Nat.mul_one,he1])) ?_
        refine Kg [] (by kernel_rfl) ?_
        refine KE 0 rfl (by kernel_rfl) (Nb rfl) (KC rfl) ?_
        refine KE 2 rfl (by kernel_rfl) (Nb rfl) (KC rfl) ?_
        refine KE 3 rfl (by kernel_rfl) (Nb rfl) (KC rfl) ?_
        refine KE 4 rfl (by kernel_rfl) (Nb rfl) (Det.slH Try.underlying24 sz_67 rfl rfl (by omega) (by omega)) ?_
        refine KE 6 rfl (by kernel_rfl) (Nb rfl) (KC rfl) ?_
        refine Kt 1 rfl rfl (by kernel_rfl) (KP (first:=[]) rfl en_87 rfl (Nb rfl) (fun w hw=>c_trim (A/m) b52 (D.nw A+1-D.nw m) (D.nw A+1-D.nw m) (D.nw A+1-D.nw m) _ true w (hw _ (by repeat (first|exact Mh _|apply Mt))) (Nat.le_refl _) (Nat.le_refl _) (by omega) hQl) ?_)
        refine Kt 5 rfl rfl (by kernel_rfl) (KP (first:=[]) rfl en_87 rfl (Nb rfl) (fun w hw=>c_trim x.2.1 b40 (D.nw m) (D.nw A+1) (D.nw A+1) _ true w (hw _ (by repeat (first|exact Mh _|apply Mt))) (by omega) (by omega) (by omega) (Nat.lt_trans hU (D.dnm_lt m))) ?_)
        refine Kt 7 rfl rfl (by kernel_rfl) (Kx (first:=[]) rfl en_111 rfl (Nb rfl) (fun w hw hs=>(c_n_Shr ⟨false,b40,D.nw A+1⟩ x.2.1 (D.nw x.2.1) (D.dsh m) w (numI_blk0 (hw _ (by repeat (first|exact Mh _|apply Mt))) (by have:=D.nw_le (Nat.lt_trans hU (D.dnm_lt m)); omega) (D.lt_nw _)) (by have:=D.nw_le (Nat.lt_trans hU (D.dnm_lt m)); omega) (by omega)).mono fun e w' h=>NumR.q (Old.nil _) hs h) ?_)
        rintro _ _ ⟨q77,rfl,rfl,hn77⟩
        refine KE 8 rfl (by kernel_rfl) (Nb rfl) (KF rfl) ?_
        refine KE 9 rfl (by kernel_rfl) (Nb rfl) (KF rfl) ?_
        refine Ko (by kernel_rfl) ?_
        refine KX ?_
        rw [he2] at *
        refine ⟨[_,_],.cons rfl (.cons rfl .nil),fun a w' hr=>hr.num2B (mk:=fun u v=>.tuple #[u,v]) (n:=D.nw A+1-D.nw m) (b:=b52) (ty:=67) (fz:=(0,0)) (by repeat (first|exact Mh _|apply Mt)) hQl (by repeat (first|exact Mh _|apply Mt)) hn77.any⟩
      ·
        obtain ⟨y,hy⟩:∃ y,x.1 = y+1:=⟨x.1-1,by omega⟩
        rw [hy] at hx1 hx3 hx4
        refine KB ?_
        refine KA (KC rfl) (Nb rfl) ?_
        refine KA (KK (v:=.bool true) rfl rfl (by rw [hy]; simp [KAP] <;> omega)) (Nb rfl) ?_
        refine KG ?_
        refine Kw rfl ?_
        refine Kf ?_
        refine KD ?_
        refine LCode.block ?_
        refine KB ?_
        refine KA (KC rfl) (Nb rfl) ?_
        refine KA (KC (v:=.int .i64 ((y:Nat):Int)) (by show some _ = some _; congr 2; omega)) (Nb rfl) ?_
        refine KA (KC rfl) (Nb rfl) ?_
        refine KA (KC rfl) (Nb rfl) ?_
        refine KA (KC (v:=.int .i64 ((y:Nat):Int)) (by show some _ = some _; congr 2; omega)) (Nb rfl) ?_
        refine KI rfl (LStepW.callWF (Post:=fun v cs'=>∃ q U',q<4294967296∧U'+q*D.dnm m*2^(32*y) = x.2.1∧U' < D.dnm m*2^(32*y)∧v = .int .u64 ((q:Nat):Int)∧cs' = vec .u32 (D.nw A+1) (D.limb U')) (first:=[]) rfl en_134 rfl (Nb rfl) (fun cs'=>(by repeat (first|exact Sh _|apply St_))) (fun w hw hap=>c_n_step q36 m x.2.1 b40 y (D.nw A+1) (D.nw A+1) hm0 w (hw _ (by repeat (first|exact Mh _|apply Mt))) (hw _ (by repeat (first|exact Mh _|apply Mt))) (apart_mem hap (x:=Item.blk b40 _) (y:=numI q36 (D.dnm m) (D.nw m)) (by repeat (first|exact Mh _|apply Mt)) (by repeat (first|exact Mh _|apply Mt)) rfl rfl b40 (List.Mem.head _)) (by omega) (by omega) (by omega) hx4) ?_)
        rintro _ _ ⟨d,U',hd1,hd2,hd3,rfl,rfl⟩
        refine KA (KT (KAj Try.underlying30 Try.underlying67 rfl) (vi (b:=d) (Nat.mod_eq_of_lt hd1))) (Nb rfl) ?_
        refine KA (KAE Try.underlying24 sz_67 rfl rfl (by omega)) (Nb rfl) ?_
        refine KI rfl (KAB rfl rfl rfl sz_67 (by repeat (first|exact Sh _|apply St_)) (by first|(simp only [KN,KH,KJ,KAK]; omega)|(simp; omega)) (by first|exact KAY _ _ _ _ _|exact KAa _ _ _ _ (by omega)|exact KAZ _ _ _ _|rfl) (by simp) ?_)
        refine KG ?_
        refine KB ?_
        refine KA (KC (v:=.int .i64 ((y:Nat):Int)) (by show some _ = some _; congr 2; omega)) (Nb rfl) ?_
        refine KA (KK rfl rfl rfl) (Nb rfl) ?_
        refine KA (KF rfl) (Nb rfl) ?_
        refine KG ?_
        refine ⟨(y,U',x.2.2*4294967296+d),⟨by dsimp only; omega,D.quo_sum hd2 hx3,hd3⟩,by dsimp only; omega,KAh (Sub.cells (b:=b52) (cs':=vec .u32 (D.nw A+1-D.nw m) (D.limb ((x.2.2*4294967296+d)*2^(32*y)))) (by repeat (first|exact Sh _|apply St_)) (KAU fun j _=>?_)) (KAG ⟨rfl,rfl,rfl,rfl,rfl,?_,trivial⟩ (by repeat (first|exact Sel.nil _|refine Sel.cons (by repeat (first|exact Ph _|apply Pt_)) ?_)))⟩
        · rw [hy]
          exact D.quo_store hd1 j
        · exact congrArg (fun i:Int=>some (Value.int .i64 i)) (wrap_i64 (by omega) (by omega))
theorem c_n_Mod (q r:NV) (A m:Nat) (hm0:m≠0) (w:World) (hq:(numT q A).holds w) (hr:(numT r m).holds w) (hA:D.nw A≤900000):Calls Try.prog 60 ([numV q A,numV r m]:List Value).toArray w (fun e w'=>NumR w (fpz q (D.nw A)) (A%m) (fun v=>v) e w'):=by
  refine Ky (N:=14) (rs:=[.tmp 4]) [numT q A,numT r m] Try.func60 rfl Try.ntmps60 Try.results60 (Nb rfl) ⟨hq,hr,trivial⟩ rfl ?_
  show LCode _ _ _ ⟨_,_⟩ _
  refine KD (KB ?_)
  refine KA (KF rfl) (Nb rfl) ?_
  refine KG ?_
  refine KD (KB ?_)
  refine KA (KC rfl) (Nb rfl) ?_
  refine KA (KC rfl) (Nb rfl) ?_
  refine KI rfl (KS (Kx (first:=[]) rfl en_99 rfl (Nb rfl) (fun w hw hs=>(c_n_Div q r A m hm0 w (hw _ (by repeat (first|exact Mh _|apply Mt))) (hw _ (by repeat (first|exact Mh _|apply Mt))) hA).mono fun e w' h=>Num2R.q (Old.one (x:=numT q A) (by repeat (first|exact Mh _|apply Mt)) rfl) hs h) ?_))
  rintro _ _ ⟨q10a,q10b,rfl,rfl,hn10a,hn10b⟩
  refine KA (KC rfl) (Nb rfl) ?_
  refine KA (Ka rfl rfl) (Nb rfl) ?_
  refine KA (Ka rfl rfl) (Nb rfl) ?_
  refine KA (KF rfl) (Nb rfl) ?_
  refine KA (KF rfl) (Nb rfl) ?_
  refine KG ?_
  refine KD (KB ?_)
  refine KA (KC rfl) (Nb rfl) ?_
  refine KA (KF rfl) (Nb rfl) ?_
  refine KG (KX ?_)
  refine ⟨[_],.cons rfl .nil,fun a w' hr=>hr.numQ (by repeat (first|exact Mh _|apply Mt)) hn10b⟩
theorem nw_mul_le (A B:Nat):D.nw (A*B)≤D.nw A+D.nw B:=D.nw_le (by
  rw [D.pow64_add]
  exact Nat.mul_lt_mul_of_lt_of_le (D.lt_nw A) (Nat.le_of_lt (D.lt_nw B)) (D.pow64_pos _))
theorem nw_add_le (A B:Nat):D.nw (A+B)≤D.nw A+D.nw B+1:=D.nw_le (D.add_lt (Nat.lt_of_lt_of_le (D.lt_nw A) (Nat.pow_le_pow_right (by decide) (by omega))) (Nat.lt_of_lt_of_le (D.lt_nw B) (Nat.pow_le_pow_right (by decide) (by omega))))
theorem c_n_MulMod (q r p:NV) (A B m:Nat) (hm0:m≠0) (w:World) (hq:(numT q A).holds w) (hr:(numT r B).holds w) (hp:(numT p m).holds w) (hA:D.nw A≤100000) (hB:D.nw B≤100000):Calls Try.prog 67 ([numV q A,numV r B,numV p m]:List Value).toArray w (fun e w'=>NumR w ([]) (A*B%m) (fun v=>v) e w'):=by
  refine Ky (N:=12) (rs:=[.tmp 6]) [numT q A,numT r B,numT p m] Try.func67 rfl Try.ntmps67 Try.results67 (Nb rfl) ⟨hq,hr,hp,trivial⟩ rfl ?_
  show LCode _ _ _ ⟨_,_⟩ _
  refine KD (KB ?_)
  refine KA (KF rfl) (Nb rfl) ?_
  refine KG ?_
  refine KD ?_
  have hmb:=nw_mul_le A B
  refine KB ?_
  refine KA (KC rfl) (Nb rfl) ?_
  refine KA (KC rfl) (Nb rfl) ?_
  refine KI rfl (KS (Kx (first:=[]) rfl en_104 rfl (Nb rfl) (fun w hw hs=>(c_n_Mul q r A B w (hw _ (by repeat (first|exact Mh _|apply Mt))) (hw _ (by repeat (first|exact Mh _|apply Mt))) (by omega) (by omega)).mono fun e w' h=>NumR.q (Old.nil _) hs h) ?_))
  rintro _ _ ⟨q9,rfl,rfl,hn9⟩
  refine KA (KC rfl) (Nb rfl) ?_
  refine KI rfl (KS (Kx (first:=[]) rfl en_60 rfl (Nb rfl) (fun w hw hs=>(c_n_Mod q9 p (A*B) m hm0 w (hw _ (by repeat (first|exact Mh _|apply Mt))) (hw _ (by repeat (first|exact Mh _|apply Mt))) (by omega)).mono fun e w' h=>NumR.q (Old.one (x:=numT q9 (A*B)) (by repeat (first|exact Mh _|apply Mt)) rfl) hs h) ?_))
  rintro _ _ ⟨q11,rfl,rfl,hn11⟩
  refine KA (KF rfl) (Nb rfl) ?_
  refine KG (KX ?_)
  refine ⟨[_],.cons rfl .nil,fun a w' hr=>hr.numQ (by repeat (first|exact Mh _|apply Mt)) (hn11.old hn9)⟩
theorem c_n_AddMod (q r p:NV) (A B m:Nat) (w:World) (hq:(numT q A).holds w) (hr:(numT r B).holds w) (hp:(numT p m).holds w) (hA:D.nw A≤100000) (hB:D.nw B≤100000) (hAm:A<m) (hBm:B<m):Calls Try.prog 71 ([numV q A,numV r B,numV p m]:List Value).toArray w (fun e w'=>NumR w ([]) ((A+B)%m) (fun v=>v) e w'):=by
  refine Ky (N:=19) (rs:=[.tmp 6]) [numT q A,numT r B,numT p m] Try.func71 rfl Try.ntmps71 Try.results71 (Nb rfl) ⟨hq,hr,hp,trivial⟩ rfl ?_
  show LCode _ _ _ ⟨_,_⟩ _
  refine KD (KB ?_)
  refine KA (KF rfl) (Nb rfl) ?_
  refine KG ?_
  refine KD ?_
  have hmb:=nw_add_le A B
  refine KB ?_
  refine KA (KC rfl) (Nb rfl) ?_
  refine KA (KC rfl) (Nb rfl) ?_
  refine KI rfl (KS (Kx (first:=[]) rfl en_50 rfl (Nb rfl) (fun w hw hs=>(c_n_Add q r A B w (hw _ (by repeat (first|exact Mh _|apply Mt))) (hw _ (by repeat (first|exact Mh _|apply Mt))) (by omega) (by omega)).mono fun e w' h=>NumR.q (Old.nil _) hs h) ?_))
  rintro _ _ ⟨q10,rfl,rfl,hn10⟩
  refine KA (KF rfl) (Nb rfl) ?_
  refine KG ?_
  refine KD ?_
  refine KD (KB ?_)
  refine KA (KC rfl) (Nb rfl) ?_
  refine KA (KC rfl) (Nb rfl) ?_
  refine KI rfl (KS (KP (first:=[]) rfl en_59 rfl (Nb rfl) (fun w hw=>c_n_Cmp q10 p (A+B) m w (hw _ (by repeat (first|exact Mh _|apply Mt))) (hw _ (by repeat (first|exact Mh _|apply Mt))) (by omega)) ?_))
  refine KA (KK rfl rfl cmp_geq) (Nb rfl) ?_
  refine KG ?_
  first|refine Kh rfl (fun h14=>?_) (fun h14=>?_)|refine Kj rfl (fun h14=>?_) (fun h14=>?_)
  ·
    have h14:m≤A+B:=h14
    have he:(A+B)%m = A+B-m:=by rw [Nat.mod_eq_sub_mod h14,Nat.mod_eq_of_lt (by omega)]
    rw [he]
    refine KD (KB ?_)
    refine KA (KC rfl) (Nb rfl) ?_
    refine KA (KC rfl) (Nb rfl) ?_
    refine KI rfl (KS (Kx (first:=[]) rfl en_65 rfl (Nb rfl) (fun w hw hs=>(c_n_Sub q10 p (A+B) m w (hw _ (by repeat (first|exact Mh _|apply Mt))) (hw _ (by repeat (first|exact Mh _|apply Mt))) h14 (by omega)).mono fun e w' h=>NumR.q (Old.nil _) hs h) ?_))
    rintro _ _ ⟨q17,rfl,rfl,hn17⟩
    refine KA (KF rfl) (Nb rfl) ?_
    refine KG (KX ?_)
    refine ⟨[_],.cons rfl .nil,fun a w' hr=>hr.numQ (by repeat (first|exact Mh _|apply Mt)) hn17⟩
  ·
    have h14:¬ m≤A+B:=h14
    have he:(A+B)%m = A+B:=Nat.mod_eq_of_lt (by omega)
    rw [he]
    refine Kf ?_
    refine KD (KB ?_)
    refine KA (KC rfl) (Nb rfl) ?_
    refine KA (KF rfl) (Nb rfl) ?_
    refine KG (KX ?_)
    refine ⟨[_],.cons rfl .nil,fun a w' hr=>hr.numQ (by repeat (first|exact Mh _|apply Mt)) hn10⟩
theorem c_n_SubMod (q r p:NV) (A B m:Nat) (w:World) (hq:(numT q A).holds w) (hr:(numT r B).holds w) (hp:(numT p m).holds w) (hA:D.nw A≤100000) (hm:D.nw m≤100000) (hBm:B<m):Calls Try.prog 105 ([numV q A,numV r B,numV p m]:List Value).toArray w (fun e w'=>NumR w ([]) (lessM A B m) (fun v=>v) e w'):=by
  refine Ky (N:=19) (rs:=[.tmp 6]) [numT q A,numT r B,numT p m] Try.func105 rfl Try.ntmps105 Try.results105 (Nb rfl) ⟨hq,hr,hp,trivial⟩ rfl ?_
  show LCode _ _ _ ⟨_,_⟩ _
  refine KD (KB ?_)
  refine KA (KF rfl) (Nb rfl) ?_
  refine KG ?_
  refine KD ?_
  refine KD ?_
  have hmb:=nw_add_le A m
  refine KB ?_
  refine KA (KC rfl) (Nb rfl) ?_
  refine KA (KC rfl) (Nb rfl) ?_
  refine KI rfl (KS (KP (first:=[]) rfl en_59 rfl (Nb rfl) (fun w hw=>c_n_Cmp q r A B w (hw _ (by repeat (first|exact Mh _|apply Mt))) (hw _ (by repeat (first|exact Mh _|apply Mt))) (by omega)) ?_))
  refine KA (KK rfl rfl cmp_geq) (Nb rfl) ?_
  refine KG ?_
  first|refine Kh rfl (fun h14=>?_) (fun h14=>?_)|refine Kj rfl (fun h14=>?_) (fun h14=>?_)
  ·
    have h14:B≤A:=h14
    have he:lessM A B m = A-B:=if_neg (by omega)
    rw [he]
    refine KD (KB ?_)
    refine KA (KC rfl) (Nb rfl) ?_
    refine KA (KC rfl) (Nb rfl) ?_
    refine KI rfl (KS (Kx (first:=[]) rfl en_65 rfl (Nb rfl) (fun w hw hs=>(c_n_Sub q r A B w (hw _ (by repeat (first|exact Mh _|apply Mt))) (hw _ (by repeat (first|exact Mh _|apply Mt))) h14 (by omega)).mono fun e w' h=>NumR.q (Old.nil _) hs h) ?_))
    rintro _ _ ⟨q13,rfl,rfl,hn13⟩
    refine KA (KF rfl) (Nb rfl) ?_
    refine KG (KX ?_)
    refine ⟨[_],.cons rfl .nil,fun a w' hr=>hr.numQ (by repeat (first|exact Mh _|apply Mt)) hn13⟩
  ·
    have h14:¬ B≤A:=h14
    have he:lessM A B m = A+m-B:=if_pos (by omega)
    rw [he]
    refine Kf ?_
    refine KD (KB ?_)
    refine KA (KC rfl) (Nb rfl) ?_
    refine KA (KC rfl) (Nb rfl) ?_
    refine KI rfl (KS (Kx (first:=[]) rfl en_50 rfl (Nb rfl) (fun w hw hs=>(c_n_Add q p A m w (hw _ (by repeat (first|exact Mh _|apply Mt))) (hw _ (by repeat (first|exact Mh _|apply Mt))) (by omega) (by omega)).mono fun e w' h=>NumR.q (Old.nil _) hs h) ?_))
    rintro _ _ ⟨q16,rfl,rfl,hn16⟩
    refine KA (KC rfl) (Nb rfl) ?_
    refine KI rfl (KS (Kx (first:=[]) rfl en_65 rfl (Nb rfl) (fun w hw hs=>(c_n_Sub q16 r (A+m) B w (hw _ (by repeat (first|exact Mh _|apply Mt))) (hw _ (by repeat (first|exact Mh _|apply Mt))) (by omega) (by omega)).mono fun e w' h=>NumR.q (Old.nil _) hs h) ?_))
    rintro _ _ ⟨q18,rfl,rfl,hn18⟩
    refine KA (KF rfl) (Nb rfl) ?_
    refine KG (KX ?_)
    refine ⟨[_],.cons rfl .nil,fun a w' hr=>hr.numQ (by repeat (first|exact Mh _|apply Mt)) hn18⟩
theorem vec_two_digits {A:Nat} (h:A<18446744073709551616):[Value.int .u32 ((A%4294967296:Nat):Int),Value.int .u32 ((A/4294967296:Nat):Int)] = vec .u32 2 (D.limb A):=by
  have e:D.limb A 0 = A%4294967296:=by unfold D.limb; rw [Nat.mul_zero,Nat.pow_zero,Nat.div_one]
  have e1:D.limb A 1 = A/4294967296:=by unfold D.limb; rw [Nat.mul_one,show (2:Nat)^32 = 4294967296 from rfl,Nat.mod_eq_of_lt (by omega)]
  simp [vec,List.range_succ,e,e1]
theorem c_n_Small (x:Nat) (w:World) (hx:x<9223372036854775808):Calls Try.prog 39 ([.int .i64 ((x:Nat):Int)]:List Value).toArray w (fun e w'=>NumR w ([]) (x) (fun v=>v) e w'):=by
  refine Ky (N:=15) (rs:=[.tmp 2]) [] Try.func39 rfl Try.ntmps39 Try.results39 (Nb rfl) trivial rfl ?_
  show LCode _ _ _ ⟨_,_⟩ _
  refine KD (KB ?_)
  refine KA (KF rfl) (Nb rfl) ?_
  refine KG ?_
  refine KD ?_
  refine KD (KB ?_)
  refine KA (KC rfl) (Nb rfl) ?_
  refine KA (KK (v:=.bool false) rfl rfl (br_f (KAp (b:=0)) (Nat.not_lt_zero _))) (Nb rfl) ?_
  refine KG ?_
  refine Kd rfl ?_
  refine Kf ?_
  refine KD ?_
  have hx2:x<2^(32*2):=by rw [show (2:Nat)^(32*2) = 18446744073709551616 from rfl]; omega
  refine KB ?_
  refine KA (KC rfl) (Nb rfl) ?_
  refine KA (KAW Try.underlying3 Try.underlying30 rfl (by first|omega|exact Nat.lt_trans (D.limb_lt _ _) (by decide))) (Nb rfl) ?_
  refine KA (KK rfl rfl (br_and64 (by omega) (by decide))) (Nb rfl) ?_
  refine KA (KT (KAj Try.underlying30 Try.underlying67 rfl) (vi (b:=x%4294967296) (by rw [and32,Nat.mod_mod]))) (Nb rfl) ?_
  refine KA (KC rfl) (Nb rfl) ?_
  refine KA (KAW Try.underlying3 Try.underlying30 rfl (by first|omega|exact Nat.lt_trans (D.limb_lt _ _) (by decide))) (Nb rfl) ?_
  refine KA (KK rfl rfl (KAe (b:=32) (by omega))) (Nb rfl) ?_
  refine KA (KT (KAj Try.underlying30 Try.underlying67 rfl) (vi (b:=x/4294967296) (by rw [show (2:Nat)^32 = 4294967296 from rfl]; omega))) (Nb rfl) ?_
  refine KI rfl (KS (KR (KAd Try.underlying24 inf_67 rfl rfl rfl rfl (by decide) rfl) (Nb rfl) (fun b13=>?_)))
  refine LOps.sub (Sub.cells (b:=b13) (cs':=vec .u32 2 (D.limb x)) (by repeat (first|exact Sh _|apply St_)) (vec_two_digits (by omega))) ?_
  refine KI rfl (KS (KP (first:=[]) rfl en_87 rfl (Nb rfl) (fun w hw=>c_trim x b13 2 2 2 _ true w (hw _ (by repeat (first|exact Mh _|apply Mt))) (Nat.le_refl _) (Nat.le_refl _) (by omega) hx2) ?_))
  refine KA (KF rfl) (Nb rfl) ?_
  refine KG (KX ?_)
  refine ⟨[_],.cons rfl .nil,fun a w' hr=>hr.num (by repeat (first|exact Mh _|apply Mt)) (hx2)⟩
end Go.Proofs.Ytlmiolnccgjjjaa
set_option linter.unusedVariables false
set_option linter.unusedSimpArgs false
set_option maxRecDepth 20000
namespace Go.Proofs.Ytlmiolnccgjjjaa
open Go Go.RowKit
structure InvS where
  t:Nat
  u:Nat
  r:Nat
  s:Nat
  qt:NV
  qu:NV
  qr:NV
  qs:NV
theorem nw_one:D.nw 1 = 1:=by decide
theorem numV_one (b:Nat):some (Value.slice (some ⟨b,0,none⟩) 1 1) = some (numV ⟨false,b,1⟩ 1):=by
  unfold numV slV pz
  rw [nw_one]
  rfl
theorem numV_nil:some (Value.slice none 0 0) = some (numV ⟨true,0,0⟩ 0):=by
  unfold numV slV pz
  rw [nw_zero]
  rfl
theorem nfr_zero (lo:Nat) (old:List Nat):NFr lo old ⟨true,0,0⟩ (D.nw 0):=fun k hk=>by
  have:k∈fpz ⟨true,0,0⟩ (D.nw 0):=hk
  unfold fpz at this
  rw [nw_zero] at this
  cases this
theorem n1_blk {w:World} {b c n:Nat} {wr:Bool} {ty:TypeId} {fz:Nat×Nat} (h:(Item.blk b ⟨wr,[Value.int .u32 ((n:Nat):Int)],ty,fz⟩).holds w) (hn:n<4294967296):(numT ⟨false,b,c⟩ n).holds w:=by
  rw [vec_one_digit hn] at h
  exact numT_blk (n:=1) h (by omega)
theorem numT_zero_holds (w:World):(numT ⟨true,0,0⟩ 0).holds w:=numT_nil w 0 0
theorem LCode.zeroNum {P:Program} {C:Ctx} {co:Code} {Q:Exit→St→Prop} {T:List (Nat×Value)} {H:List Item} (h:LCode P C co ⟨T,numT ⟨true,0,0⟩ 0 :: H⟩ Q):LCode P C co ⟨T,H⟩ Q:=by
  unfold LCode at *
  intro a w hr
  refine h a w ⟨hr.size,hr.defers,hr.tm,?_,?_,List.pairwise_cons.2 ⟨?_,hr.dist⟩,hr.fr⟩
  · intro x hx
    rcases List.mem_cons.1 hx with rfl|hx
    · exact numT_zero_holds w
    · exact hr.hp x hx
  · intro x hx hw
    rcases List.mem_cons.1 hx with rfl|hx
    · cases hw
    · exact hr.own x hx hw
  · intro y _ _ k hk
    exact ((nfr_zero 0 [] k hk).elim (fun _=>absurd hk (by unfold numT numI Item.fp fpz; rw [nw_zero]; exact List.not_mem_nil)) (fun h=>by cases h))
theorem c_n_Inverse (q r:NV) (A m:Nat) (w:World) (hq:(numT q A).holds w) (hr:(numT r m).holds w) (hA:D.nw A≤900000) (hnm:D.nw m≤100000) (hm:1<m) (hg:Nat.gcd A m = 1):Calls Try.prog 106 ([numV q A,numV r m]:List Value).toArray w (fun e w'=>NumR w ([]) (invM A m) (fun v=>.tuple #[v,.bool true]) e w'):=by
  have hmp:0<m:=by omega
  have hm0:m≠0:=by omega
  refine Ky (N:=53) (rs:=[.tmp 4,.tmp 5]) [numT q A,numT r m] Try.func106 rfl Try.ntmps106 Try.results106 (Nb rfl) ⟨hq,hr,trivial⟩ rfl ?_
  show LCode _ _ _ ⟨_,_⟩ _
  refine KD (KB ?_)
  refine KA (KF rfl) (Nb rfl) ?_
  refine KA (KF rfl) (Nb rfl) ?_
  refine KG ?_
  refine KD ?_
  refine KD (KB ?_)
  refine KA (KC rfl) (Nb rfl) ?_
  refine KI rfl (KS (KR (KAd Try.underlying24 inf_67 rfl rfl rfl rfl (by decide) rfl) (Nb rfl) (fun b14=>?_)))
  refine KI rfl (KS (KP (first:=[]) rfl en_59 rfl (Nb rfl) (fun w hw=>c_n_Cmp r ⟨false,b14,1⟩ m 1 w (hw _ (by repeat (first|exact Mh _|apply Mt))) (n1_blk (hw _ (by repeat (first|exact Mh _|apply Mt))) (by decide)) (by omega)) ?_))
  refine KA (KK (v:=.bool false) rfl rfl (br_f cmp_leq (by omega))) (Nb rfl) ?_
  refine KG ?_
  refine Kd rfl ?_
  refine Kf ?_
  refine KD (KB ?_)
  refine KI rfl (KS (KR (KAd Try.underlying24 inf_67 rfl rfl rfl rfl (by decide) rfl) (Nb rfl) (fun b17=>?_)))
  refine KA (KC rfl) (Nb rfl) ?_
  refine KI rfl (KS (LStep.appendN (q:=r) (A:=m) rfl rfl Try.underlying24 inf_67 rfl (by repeat (first|exact Pick.head _|apply Pick.tail)) (by repeat (first|exact Mh _|apply Mt)) (by omega) (by omega) (Nb rfl) ?_))
  intro q19 hf19
  refine KA (KC rfl) (Nb rfl) ?_
  refine KA (KC rfl) (Nb rfl) ?_
  refine KI rfl (KS (Kx (first:=[]) rfl en_60 rfl (Nb rfl) (fun w hw hs=>(c_n_Mod q r (A) m hm0 w (hw _ (by repeat (first|exact Mh _|apply Mt))) (hw _ (by repeat (first|exact Mh _|apply Mt))) (by omega)).mono fun e w' h=>NumR.q (Old.one (x:=numT q (A)) (by repeat (first|exact Mh _|apply Mt)) rfl) hs h) ?_))
  rintro _ _ ⟨q22,rfl,rfl,hn22⟩
  refine KA (KF rfl) (Nb rfl) ?_
  refine KA (KF rfl) (Nb rfl) ?_
  refine KG ?_
  refine KD ?_
  refine LCode.zeroNum ?_
  refine KB ?_
  refine KA (KF rfl) (Nb rfl) ?_
  refine KG ?_
  refine KD (KB ?_)
  refine KI rfl (KS (KR (KAd Try.underlying24 inf_67 rfl rfl rfl rfl (by decide) rfl) (Nb rfl) (fun b23=>?_)))
  refine KA (KF rfl) (Nb rfl) ?_
  refine LOps.sub (Sub.cells (b:=b23) (cs':=vec .u32 1 (D.limb 1)) (by repeat (first|exact Sh _|apply St_)) (vec_one_digit (by decide))) ?_
  refine LOps.toNum (b:=b23) (n:=1) (A:=1) (c:=1) (by repeat (first|exact Pick.head _|apply Pick.tail)) (by decide) (fun hb23=>?_)
  refine KG ?_
  refine KD ?_
  refine LCode.block ?_
  refine KAN (α:=InvS) (fun x=>(x.t<m∧x.u<m)∧A*x.t%m = x.r%m∧A*x.u%m = x.s%m∧Nat.gcd x.r x.s = 1∧(x.r≤m∧x.s≤m)∧NFr w.heap.size [] x.qt (D.nw x.t)∧NFr w.heap.size [] x.qu (D.nw x.u)) (fun x=>⟨[(1,numV r m),(6,numV x.qr x.r),(7,numV x.qs x.s),(8,numV x.qt x.t),(9,numV x.qu x.u)],[numT x.qr x.r,numT x.qs x.s,numT x.qt x.t,numT x.qu x.u,numT r m]⟩) (fun x=>x.s) (⟨0,1,m,A%m,⟨true,0,0⟩,⟨false,b23,1⟩,q19,q22⟩) (⟨⟨hmp,hm⟩,by dsimp only; rw [Nat.mul_zero,Nat.zero_mod,Nat.mod_self],by dsimp only; rw [Nat.mul_one,Nat.mod_mod],by dsimp only; rw [Nat.gcd_comm,← Nat.gcd_rec,Nat.gcd_comm]; exact hg,⟨Nat.le_refl _,Nat.le_of_lt (Nat.mod_lt _ hmp)⟩,nfr_zero _ _,NFr.blk _ (hb23.elim id (fun h=>h.elim))⟩) (KAG ⟨rfl,rfl,rfl,numV_nil,numV_one b23,trivial⟩ (by repeat (first|exact Sel.nil _|refine Sel.cons (by repeat (first|exact Ph _|apply Pt_)) ?_))) ?_
  rintro x ⟨⟨hx1,hx2⟩,hx3,hx4,hx5,⟨hx6,hx7⟩,hx8,hx9⟩
  have hnr:=D.nw_mono hx6
  have hns:=D.nw_mono hx7
  have hnt:=D.nw_mono (Nat.le_of_lt hx1)
  have hnu:=D.nw_mono (Nat.le_of_lt hx2)
  refine KD ?_
  refine KD (KB ?_)
  refine KA (KC rfl) (Nb rfl) ?_
  refine KA (KAX Try.underlying24 rfl) (Nb rfl) ?_
  refine KA (KK rfl rfl (br_gtr (b:=0))) (Nb rfl) ?_
  refine KG ?_
  first|refine Kh rfl (fun h26=>?_) (fun h26=>?_)|refine Kj rfl (fun h26=>?_) (fun h26=>?_)
  ·
    have h26:x.s≠0:=by
      intro e
      rw [e] at h26
      exact absurd h26 (by decide)
    refine Kf ?_
    refine LCode.block ?_
    refine KD (KB ?_)
    refine KA (KC rfl) (Nb rfl) ?_
    refine KA (KC rfl) (Nb rfl) ?_
    refine KI rfl (KS (Kx (first:=[]) rfl en_99 rfl (Nb rfl) (fun w hw hs=>(c_n_Div x.qr x.qs x.r x.s h26 w (hw _ (by repeat (first|exact Mh _|apply Mt))) (hw _ (by repeat (first|exact Mh _|apply Mt))) (by omega)).mono fun e w' h=>Num2R.q (Old.one (x:=numT x.qr x.r) (by repeat (first|exact Mh _|apply Mt)) rfl) hs h) ?_))
    rintro _ _ ⟨q30a,q30b,rfl,rfl,hn30a,hn30b⟩
    refine KA (KC rfl) (Nb rfl) ?_
    refine KA (Ka rfl rfl) (Nb rfl) ?_
    refine KA (Ka rfl rfl) (Nb rfl) ?_
    refine KA (KF rfl) (Nb rfl) ?_
    refine KA (KF rfl) (Nb rfl) ?_
    refine KG ?_
    refine KD (KB ?_)
    refine KA (KC rfl) (Nb rfl) ?_
    refine KA (KC rfl) (Nb rfl) ?_
    refine KA (KC rfl) (Nb rfl) ?_
    refine KI rfl (KS (Kx (first:=[]) rfl en_60 rfl (Nb rfl) (fun w hw hs=>(c_n_Mod q30a r (x.r/x.s) m hm0 w (hw _ (by repeat (first|exact Mh _|apply Mt))) (hw _ (by repeat (first|exact Mh _|apply Mt))) (by have:=D.nw_le (Nat.lt_of_le_of_lt (Nat.div_le_self x.r x.s) (D.lt_nw x.r)); omega)).mono fun e w' h=>NumR.q (Old.one (x:=numT q30a (x.r/x.s)) (by repeat (first|exact Mh _|apply Mt)) rfl) hs h) ?_))
    rintro _ _ ⟨q36,rfl,rfl,hn36⟩
    refine KA (KC rfl) (Nb rfl) ?_
    refine KA (KC rfl) (Nb rfl) ?_
    refine KI rfl (KS (Kx (first:=[]) rfl en_67 rfl (Nb rfl) (fun w hw hs=>(c_n_MulMod q36 x.qu r (x.r/x.s%m) x.u m hm0 w (hw _ (by repeat (first|exact Mh _|apply Mt))) (hw _ (by repeat (first|exact Mh _|apply Mt))) (hw _ (by repeat (first|exact Mh _|apply Mt))) (by have:=D.nw_mono (Nat.le_of_lt (Nat.mod_lt (x.r/x.s) hmp)); omega) (by omega)).mono fun e w' h=>NumR.q (Old.nil _) hs h) ?_))
    rintro _ _ ⟨q39,rfl,rfl,hn39⟩
    refine KA (KC rfl) (Nb rfl) ?_
    refine KI rfl (KS (Kx (first:=[]) rfl en_105 rfl (Nb rfl) (fun w hw hs=>(c_n_SubMod x.qt q39 r x.t ((x.r/x.s)%m*x.u%m) m w (hw _ (by repeat (first|exact Mh _|apply Mt))) (hw _ (by repeat (first|exact Mh _|apply Mt))) (hw _ (by repeat (first|exact Mh _|apply Mt))) (by omega) (by omega) (Nat.mod_lt _ hmp)).mono fun e w' h=>NumR.q (Old.nil _) hs h) ?_))
    rintro _ _ ⟨q41,rfl,rfl,hn41⟩
    refine KA (KF rfl) (Nb rfl) ?_
    refine KG ?_
    refine KD (KB ?_)
    refine KA (KC rfl) (Nb rfl) ?_
    refine KA (KF rfl) (Nb rfl) ?_
    refine KG ?_
    refine KD (KB ?_)
    have hnrest:=D.nw_mono (Nat.le_of_lt (Nat.mod_lt x.r (Nat.pos_of_ne_zero h26)))
    refine KI rfl (KS (KR (KAd Try.underlying24 inf_67 rfl rfl rfl rfl (by decide) rfl) (Nb rfl) (fun b43=>?_)))
    refine KA (KC rfl) (Nb rfl) ?_
    refine KI rfl (KS (LStep.appendN (q:=q30b) (A:=x.r%x.s) rfl rfl Try.underlying24 inf_67 rfl (by repeat (first|exact Pick.head _|apply Pick.tail)) (by repeat (first|exact Mh _|apply Mt)) (by omega) (by omega) (Nb rfl) ?_))
    intro q45 hf45
    refine KA (KF rfl) (Nb rfl) ?_
    refine KG ?_
    refine KD (KB ?_)
    refine KA (KC rfl) (Nb rfl) ?_
    refine KA (KF rfl) (Nb rfl) ?_
    refine KG ?_
    refine KB ?_
    refine KA (KC rfl) (Nb rfl) ?_
    refine KA (KF rfl) (Nb rfl) ?_
    refine KG ?_
    have hlt:x.r%x.s<x.s:=Nat.mod_lt _ (Nat.pos_of_ne_zero h26)
    refine ⟨⟨x.u,lessM x.t ((x.r/x.s)%m*x.u%m) m,x.s,x.r%x.s,x.qu,q41,x.qs,q45⟩,⟨⟨hx2,lessM_lt hx1 (Nat.mod_lt _ hmp)⟩,hx4,?_,?_,⟨hx7,Nat.le_trans (Nat.le_of_lt hlt) hx7⟩,hx9,hn41⟩,hlt,KAG ⟨rfl,rfl,rfl,rfl,rfl,trivial⟩ (by repeat (first|exact Sel.nil _|refine Sel.cons (by repeat (first|exact Ph _|apply Pt_)) ?_))⟩
    · dsimp only
      rw [Nat.mod_mul_mod]
      exact inv_step rfl hx1 hmp hx3 hx4
    · dsimp only
      rw [Nat.gcd_comm,← Nat.gcd_rec,Nat.gcd_comm]; exact hx5
  ·
    have h26:x.s = 0:=nw_eq_zero.1 (by have:=h26; omega)
    have hr1:x.r = 1:=by rw [h26,Nat.gcd_zero_right] at hx5; exact hx5
    refine KAH ?_
    refine KD ?_
    refine KD (KB ?_)
    refine KA (KC rfl) (Nb rfl) ?_
    refine KI rfl (KS (KR (KAd Try.underlying24 inf_67 rfl rfl rfl rfl (by decide) rfl) (Nb rfl) (fun b49=>?_)))
    refine KI rfl (KS (KP (first:=[]) rfl en_59 rfl (Nb rfl) (fun w hw=>c_n_Cmp x.qr ⟨false,b49,1⟩ x.r 1 w (hw _ (by repeat (first|exact Mh _|apply Mt))) (n1_blk (hw _ (by repeat (first|exact Mh _|apply Mt))) (by decide)) (by omega)) ?_))
    refine KA (KK (v:=.bool false) rfl rfl (br_f cmp_neq (by rw [hr1]; simp))) (Nb rfl) ?_
    refine KG ?_
    refine Kd rfl ?_
    refine Kf ?_
    refine KD (KB ?_)
    refine KA (KC rfl) (Nb rfl) ?_
    refine KA (KF rfl) (Nb rfl) ?_
    refine KA (KF rfl) (Nb rfl) ?_
    refine KG (KX ?_)
    have he:invM A m = x.t:=invM_eq hx1 (by rw [hx3,hr1,Nat.mod_eq_of_lt hm])
    rw [he]
    refine ⟨[_,_],.cons rfl (.cons rfl .nil),fun a w' hr=>hr.numQ (mk:=fun v=>.tuple #[v,.bool true]) (by repeat (first|exact Mh _|apply Mt)) hx8⟩
end Go.Proofs.Ytlmiolnccgjjjaa
set_option linter.unusedVariables false
namespace Go.Proofs.Ytlmiolnccgjjjaa.Grp
section
variable {p:Nat} [NeZero p]
abbrev F (p:Nat):=Fin p
theorem eq_of_sub {x y:Fin p} (h:x-y = 0):x = y:=by grind -lia
theorem sub_of_eq {x y:Fin p} (h:x = y):x-y = 0:=by grind -lia
theorem lin1 {x c1 e1:Fin p} (h:x = c1*e1) (h1:e1 = 0):x = 0:=by rw [h,h1]; grind -lia
theorem lin2 {x c1 e1 c2 e2:Fin p} (h:x = c1*e1+c2*e2) (h1:e1 = 0) (h2:e2 = 0):x = 0:=by rw [h,h1,h2]; grind -lia
theorem lin3 {x c1 e1 c2 e2 c3 e3:Fin p} (h:x = c1*e1+c2*e2+c3*e3) (h1:e1 = 0) (h2:e2 = 0) (h3:e3 = 0):x = 0:=by rw [h,h1,h2,h3]; grind -lia
theorem lin4 {x c1 e1 c2 e2 c3 e3 c4 e4:Fin p} (h:x = c1*e1+c2*e2+c3*e3+c4*e4) (h1:e1 = 0) (h2:e2 = 0) (h3:e3 = 0) (h4:e4 = 0):x = 0:=by rw [h,h1,h2,h3,h4]; grind -lia
def Dom (p:Nat) [NeZero p]:Prop:=∀ x y:Fin p,x*y = 0→x = 0∨y = 0
theorem Dom.cancel (hd:Dom p) {x y c:Fin p} (hc:c≠0) (h:(x-y)*c = 0):x = y:=by
  rcases hd _ _ h with h|h
  · exact eq_of_sub h
  · exact absurd h hc
structure Slope (a x1 y1 x2 y2 l:Fin p):Prop where
  chord:l*(x1-x2)-(y1-y2) = 0
  tang:l*(y1+y2)-(x1*x1+x1*x2+x2*x2+a) = 0
theorem Slope.symm {a x1 y1 x2 y2 l:Fin p} (h:Slope a x1 y1 x2 y2 l):Slope a x2 y2 x1 y1 l :=
  ⟨lin1 (c1:=-1) (by grind -lia) h.chord,lin1 (c1:=1) (by grind -lia) h.tang⟩
def Opp (x1 y1 x2 y2:Fin p):Prop:=x1-x2 = 0∧y1+y2 = 0
theorem Slope.unique (hd:Dom p) {a x1 y1 x2 y2 l m:Fin p} (hn:¬ Opp x1 y1 x2 y2) (hl:Slope a x1 y1 x2 y2 l) (hm:Slope a x1 y1 x2 y2 m):l = m:=by
  by_cases h:x1-x2 = 0
  · have h2:y1+y2≠0:=fun e=>hn ⟨h,e⟩
    exact hd.cancel h2 (lin2 (c1:=1) (c2:=-1) (by grind -lia) hl.tang hm.tang)
  · exact hd.cancel h (lin2 (c1:=1) (c2:=-1) (by grind -lia) hl.chord hm.chord)
theorem slope_next (hd : Dom p) {a x1 y1 x2 y2 x3 y3 l m s x4 y4 : Fin p} (hA : Slope a x1 y1 x2 y2 l) (hC : Slope a x3 y3 x2 y2 m) (h4 : x4 - (l * l - x1 - x2) = 0) (h5 : y4 - (l * (x1 - x4) - y1) = 0)
    (hs:Slope a x3 y3 x4 y4 s) (hlm:l-m≠0) (hn:¬ Opp x3 y3 x4 y4):(s+l)*(l-m) = x1-x3:=by
  obtain ⟨hA1,hA2⟩:=hA
  obtain ⟨hC1,hC2⟩:=hC
  obtain ⟨hs1,hs2⟩:=hs
  obtain rfl:y1 = y2+l*(x1-x2):=eq_of_sub (lin1 (c1:=-1) (by grind -lia) hA1)
  obtain rfl:y3 = y2+m*(x3-x2):=eq_of_sub (lin1 (c1:=-1) (by grind -lia) hC1)
  obtain rfl:x4 = l*l-x1-x2:=eq_of_sub h4
  obtain rfl:y4 = _:=eq_of_sub h5
  have hK1:(s*(l-m)-(l*m-l*l+x1-x3))*(x3-(l*l-x1-x2)) = 0 :=
    lin3 (c1:=l-m) (c2:=1) (c3:=-1) (by clear hA1 hA2 hC1 hC2 hs1 hs2 h4 h5 hlm hn; grind -lia) hs1 hA2 hC2
  have hK2:(s*(l-m)-(l*m-l*l+x1-x3))*(y2+m*(x3-x2)+(l*(x1-(l*l-x1-x2))-(y2+l*(x1-x2)))) = 0 :=
    lin3 (c1:=l-m) (c2:=m) (c3:=-l) (by clear hA1 hA2 hC1 hC2 hs1 hs2 h4 h5 hlm hn hK1; grind -lia) hs2 hA2 hC2
  have hK:s*(l-m) = l*m-l*l+x1-x3:=by
    by_cases h:x3-(l*l-x1-x2) = 0
    · exact hd.cancel (fun e=>hn ⟨h,e⟩) hK2
    · exact hd.cancel h hK1
  clear hA1 hA2 hC1 hC2 hs1 hs2 h4 h5 hlm hn hK1 hK2
  have:(s+l)*(l-m) = s*(l-m)+l*(l-m):=by clear hK; grind -lia
  rw [this,hK]; clear hK this; grind -lia
inductive Pt (p:Nat) where
  | inf
  | aff (x y:Fin p)
def Pt.neg:Pt p→Pt p
  | .inf=>.inf
  | .aff x y=>.aff x (-y)
inductive Add (a:Fin p):Pt p→Pt p→Pt p→Prop where
  | left (q:Pt p):Add a .inf q q
  | right (q:Pt p):Add a q .inf q
  | opp {x1 y1 x2 y2:Fin p}:Opp x1 y1 x2 y2→Add a (.aff x1 y1) (.aff x2 y2) .inf
  | line {x1 y1 x2 y2:Fin p} (l x y:Fin p):¬ Opp x1 y1 x2 y2→Slope a x1 y1 x2 y2 l→x-(l*l-x1-x2) = 0→y-(l*(x1-x)-y1) = 0→Add a (.aff x1 y1) (.aff x2 y2) (.aff x y)
theorem Opp.symm {x1 y1 x2 y2:Fin p} (h:Opp x1 y1 x2 y2):Opp x2 y2 x1 y1:=⟨lin1 (c1:=-1) (by grind -lia) h.1,lin1 (c1:=1) (by grind -lia) h.2⟩
theorem Add.symm {a:Fin p} {A B R:Pt p} (h:Add a A B R):Add a B A R:=by
  cases h with
  | left q=>exact .right _
  | right q=>exact .left _
  | opp h=>exact .opp h.symm
  | line l x y hn hs hx hy =>
    refine .line l x y (fun h=>hn h.symm) hs.symm ?_ ?_
    · exact lin1 (c1:=1) (by clear hs hx hy hn; grind -lia) hx
    · exact lin2 (c1:=1) (c2:=1) (by clear hs hx hy hn; grind -lia) hy hs.chord
theorem Add.unique (hd:Dom p) {a:Fin p} {A B R S:Pt p} (h:Add a A B R) (k:Add a A B S):R = S:=by
  cases h with
  | left q=>cases k <;> rfl
  | right q=>cases k <;> rfl
  | opp h=>cases k with
    | opp _=>rfl
    | line _ _ _ hn _ _ _=>exact absurd h hn
  | line l x y hn hs hx hy=>cases k with
    | opp h=>exact absurd h hn
    | line m x' y' hn' hs' hx' hy' =>
      obtain rfl:=hs.unique hd hn hs'
      obtain rfl:=eq_of_sub hx
      obtain rfl:=eq_of_sub hy
      obtain rfl:=eq_of_sub hx'
      obtain rfl:=eq_of_sub hy'
      rfl
def On (a b:Fin p):Pt p→Prop
  | .inf=>True
  | .aff x y=>y*y-(x*x*x+a*x+b) = 0
theorem Add.on {a b:Fin p} {A B R:Pt p} (h:Add a A B R) (hA:On a b A) (hB:On a b B):On a b R:=by
  cases h with
  | left q=>exact hB
  | right q=>exact hA
  | opp h=>trivial
  | @line x1 y1 x2 y2 l x y hn hs hx hy =>
    obtain ⟨h1,h2⟩:=hs
    simp only [On] at hA hB ⊢
    obtain rfl:=eq_of_sub hy
    have hx':l*l-x1-x2-x = 0:=lin1 (c1:=-1) (by clear h1 h2 hA hB hn hx; grind -lia) hx
    exact lin4 (c1:=1) (c2:=x-x1) (c3:=-((x-x1)*l)) (c4:=(x-x1)*(x-x2)) (by clear h1 h2 hA hB hn hx hx'; grind -lia) hA h2 h1 hx'
structure Fine (a b:Fin p):Prop where
  dom:Dom p
  two:∀ y:Fin p,y+y = 0→y = 0
  sing:∀ x:Fin p,On a b (.aff x 0)→x*x+x*x+x*x+a = 0→False
theorem Opp.eq {x1 y1 x2 y2:Fin p} (h:Opp x1 y1 x2 y2):(.aff x2 y2:Pt p) = .aff x1 (-y1):=by
  have e1:x2 = x1:=eq_of_sub (lin1 (c1:=-1) (by grind -lia) h.1)
  have e2:y2 = -y1:=eq_of_sub (lin1 (c1:=1) (by grind -lia) h.2)
  rw [e1,e2]
theorem opp_neg (x y:Fin p):Opp x (-y) x y:=⟨by grind -lia,by grind -lia⟩
theorem opp_neg' (x y:Fin p):Opp x y x (-y):=⟨by grind -lia,by grind -lia⟩
theorem Pt.neg_neg (A:Pt p):A.neg.neg = A:=by
  cases A with
  | inf=>rfl
  | aff x y=>simp only [Pt.neg]; congr 1; grind -lia
theorem Add.cancel {a b:Fin p} (hf:Fine a b) {B C E:Pt p} (hB:On a b B) (h:Add a B C E):Add a B.neg E C:=by
  cases h with
  | left q=>exact .left _
  | right q =>
    cases B with
    | inf=>exact .right _
    | aff x y=>exact .opp (opp_neg x y)
  | opp h=>rw [h.eq]; exact .right _
  | @line x2 y2 x3 y3 m x y hn hs hx hy =>
    obtain ⟨h1,h2⟩:=hs
    have ht:-m*(-y2+y)-(x2*x2+x2*x+x*x+a) = 0:=by
      clear hB hn
      obtain rfl:y3 = y2-m*(x2-x3):=eq_of_sub (lin1 (c1:=1) (by clear h1 h2 hx hy; grind -lia) h1)
      obtain rfl:=eq_of_sub hx
      obtain rfl:=eq_of_sub hy
      exact lin1 (c1:=1) (by clear h1 h2 hx hy; grind -lia) h2
    refine .line (-m) x3 y3 ?_ ⟨?_,ht⟩ ?_ ?_
    · rintro ⟨o1,o2⟩
      obtain rfl:=eq_of_sub o1
      have e1:y2+y2 = 0:=lin2 (c1:=-1) (c2:=1) (by clear h1 h2 hx hy hB hn ht o1 o2; grind -lia) o2 hy
      have e2:=hf.two _ e1
      subst e2
      have e3:y = 0:=by
        have:y-0 = 0:=lin1 (c1:=1) (by clear h1 h2 hx hy hB hn ht o1 o2 e1; grind -lia) o2
        exact eq_of_sub this
      subst e3
      exact hf.sing _ hB (lin1 (c1:=-1) (by clear h1 h2 hx hy hB hn ht o1 o2 e1; grind -lia) ht)
    · exact lin1 (c1:=1) (by clear h1 h2 hx hB hn ht hy; grind -lia) hy
    · exact lin1 (c1:=1) (by clear h1 h2 hx hB hn ht hy; grind -lia) hx
    · exact lin1 (c1:=1) (by clear h1 h2 hx hB hn ht hy; grind -lia) h1
theorem Add.neg {a:Fin p} {A B R:Pt p} (h:Add a A B R):Add a A.neg B.neg R.neg:=by
  cases h with
  | left q=>exact .left _
  | right q=>exact .right _
  | opp h=>exact .opp ⟨h.1,lin1 (c1:=-1) (by grind -lia) h.2⟩
  | @line x1 y1 x2 y2 l x y hn hs hx hy =>
    refine .line (-l) x (-y) (fun h=>hn ⟨h.1,lin1 (c1:=-1) (by grind -lia) h.2⟩) ⟨lin1 (c1:=-1) (by clear hn hx hy; grind -lia) hs.1,lin1 (c1:=1) (by clear hn hx hy; grind -lia) hs.2⟩ ?_ ?_
    · exact lin1 (c1:=1) (by clear hn hx hy hs; grind -lia) hx
    · exact lin1 (c1:=-1) (by clear hn hx hy hs; grind -lia) hy
theorem neg_on {a b:Fin p} {A:Pt p} (h:On a b A):On a b A.neg:=by
  cases A with
  | inf=>trivial
  | aff x y =>
    simp only [On,Pt.neg] at h ⊢
    exact lin1 (c1:=1) (by clear h; grind -lia) h
theorem add_neg (a:Fin p) (A:Pt p):Add a A A.neg .inf:=by
  cases A with
  | inf=>exact .left _
  | aff x y=>exact .opp (opp_neg' x y)
theorem Add.assoc {a b:Fin p} (hf:Fine a b) {A B C D E R S:Pt p} (hA:On a b A) (hB:On a b B) (hC:On a b C) (h1:Add a A B D) (h2:Add a D C R) (h3:Add a B C E) (h4:Add a A E S):R = S:=by
  have hd:=hf.dom
  have hnA:∀ {A' B' D':Pt p},Add a A' B' D'→On a b A'→On a b B'→Add a B' D'.neg A'.neg:=by
    intro A' B' D' h hA hB
    have:=(Add.cancel hf hB h.symm).neg
    rwa [Pt.neg_neg] at this
  cases h1 with
  | left q =>
    have:=h2.unique hd h3
    subst this
    cases h4 <;> rfl
  | right q =>
    cases h3 <;> exact h2.unique hd h4
  | @opp x1 y1 x2 y2 h =>
    have e:R = C:=by cases h2 <;> rfl
    subst e
    have e2:=Add.cancel hf hB h3
    have e3:(Pt.aff x2 y2).neg = .aff x1 y1:=by
      have:=h.symm.eq
      simp only [Pt.neg]; exact this.symm
    rw [e3] at e2
    exact e2.unique hd h4
  | @line x1 y1 x2 y2 l x4 y4 hn hs hx hy =>
    have hAB:Add a (.aff x1 y1) (.aff x2 y2) (.aff x4 y4):=.line l x4 y4 hn hs hx hy
    cases h3 with
    | right q =>
      have e:R = .aff x4 y4:=by cases h2; rfl
      subst e
      exact hAB.unique hd h4
    | @opp _ _ x3 y3 h =>
      have e:S = .aff x1 y1:=by cases h4; rfl
      subst e
      have e2:=Add.cancel hf hB hAB.symm
      rw [show (Pt.aff x2 y2).neg = .aff x3 y3 from h.eq.symm] at e2
      exact h2.unique hd e2.symm
    | @line _ _ x3 y3 m x6 y6 hn' hs' hx' hy' =>
      have hBC:Add a (.aff x2 y2) (.aff x3 y3) (.aff x6 y6):=.line m x6 y6 hn' hs' hx' hy'
      cases h2 with
      | opp h =>
        have e:=hnA hAB hA hB
        rw [show (Pt.aff x4 y4).neg = .aff x3 y3 from h.eq.symm] at e
        have e2:=e.unique hd hBC
        rw [← e2] at h4
        exact (add_neg a _).unique hd h4
      | @line _ _ _ _ s xr yr ns ss hxr hyr =>
        cases h4 with
        | opp h =>
          have e:=Add.cancel hf hB hBC
          have e1:=e.neg
          rw [Pt.neg_neg,show (Pt.aff x6 y6).neg = Pt.aff x1 y1 from h.symm.eq.symm] at e1
          have e2:=hAB.unique hd e1.symm
          exact absurd (show Opp x4 y4 x3 y3 by injection e2 with e3 e4; rw [e3,e4]; exact opp_neg _ _) ns
        | @line _ _ _ _ t xs ys nt st hxs hys =>
          by_cases hlm:l-m = 0
          · obtain rfl:=eq_of_sub hlm
            clear hlm
            have hz:(x1-x3)*(x1+x3+x2-l*l) = 0:=by
              obtain rfl:y1 = y2+l*(x1-x2):=eq_of_sub (lin1 (c1:=-1) (by clear hA hB hC hAB hBC hn hs hx hy hn' hs' hx' hy' ns ss hxr hyr nt st hxs hys; grind -lia) hs.1)
              obtain rfl:y3 = y2-l*(x2-x3):=eq_of_sub (lin1 (c1:=1) (by clear hA hB hC hAB hBC hn hs hx hy hn' hs' hx' hy' ns ss hxr hyr nt st hxs hys; grind -lia) hs'.1)
              exact lin2 (c1:=-1) (c2:=1) (by clear hA hB hC hAB hBC hn hs hx hy hn' hs' hx' hy' ns ss hxr hyr nt st hxs hys; grind -lia) hs.2 hs'.2
            rcases hd _ _ hz with h|h
            · have hac : (Pt.aff x3 y3) = .aff x1 y1 := by
                obtain rfl:=eq_of_sub h
                have:y3-y1 = 0:=lin2 (c1:=1) (c2:=1) (by clear hA hB hC hAB hBC hn hs hx hy hn' hs' hx' hy' ns ss hxr hyr nt st hxs hys hz h; grind -lia) hs.1 hs'.1
                rw [eq_of_sub this]
              have h2':Add a (.aff x4 y4) (.aff x3 y3) (.aff xr yr):=.line s xr yr ns ss hxr hyr
              have h4':Add a (.aff x1 y1) (.aff x6 y6) (.aff xs ys):=.line t xs ys nt st hxs hys
              rw [hac] at hBC h2'
              have e:=hAB.symm.unique hd hBC
              rw [e] at h2'
              exact h2'.symm.unique hd h4'
            · have h':x4-x3 = 0:=lin2 (c1:=1) (c2:=-1) (by clear hA hB hC hAB hBC hn hs hx hy hn' hs' hx' hy' ns ss hxr hyr nt st hxs hys hz h; grind -lia) hx h
              exact absurd (show Opp x4 y4 x3 y3 from ⟨h',lin4 (c1:=1) (c2:=1) (c3:=1) (c4:=-l) (by clear hA hB hC hAB hBC hn hs hx hy hn' hs' hx' hy' ns ss hxr hyr nt st hxs hys hz h; clear h'; grind -lia) hy hs.1 hs'.1 h'⟩) ns
          · have e1:=slope_next hd hs hs'.symm hx hy ss.symm hlm (fun h=>ns h.symm)
            have hs3:Slope a x3 y3 x2 y2 m:=hs'.symm
            have hx3:x6-(m*m-x3-x2) = 0:=lin1 (c1:=1) (by clear hA hB hC hAB hBC hn hs hx hy hn' hs' hx' hy' ns ss hxr hyr nt st hxs hys hlm; grind -lia) hx'
            have hy3:y6-(m*(x3-x6)-y3) = 0:=lin2 (c1:=1) (c2:=1) (by clear hA hB hC hAB hBC hn hs hx hy hn' hs' hx' hy' ns ss hxr hyr nt st hxs hys hlm; clear hx3; grind -lia) hy' hs'.1
            have hml:m-l≠0:=fun e=>hlm (lin1 (c1:=-1) (by clear hA hB hC hAB hBC hn hs hx hy hn' hs' hx' hy' ns ss hxr hyr nt st hxs hys hlm; clear hx3 hy3 e; grind -lia) e)
            have e2:=slope_next hd hs3 hs hx3 hy3 st hml nt
            have e3:s = t+m-l:=by
              refine hd.cancel hlm (lin2 (c1:=1) (c2:=1) (by clear hA hB hC hAB hBC hn hs hx hy hn' hs' hx' hy' ns ss hxr hyr nt st hxs hys hlm; clear hx3 hy3 hml e1 e2; grind -lia) (sub_of_eq e1) (sub_of_eq e2))
            have e4:=sub_of_eq e2
            clear e1 e2 hx3 hy3 hml hs3
            subst e3
            have z0:=lin2 (c1:=1) (c2:=2) rfl hx' e4
            have hxx:xr = xs:=eq_of_sub (lin4 (c1:=1) (c2:=-1) (c3:=-1) (c4:=1) (by clear hA hB hC hAB hBC hn hs hx hy hn' hs' hx' hy' ns ss hxr hyr nt st hxs hys hlm e4; clear z0; grind -lia) hxr hxs hx z0)
            clear z0
            subst hxx
            have z1:=lin4 (c1:=1) (c2:=-1) (c3:=1) (c4:=-1) rfl hyr hys ss.1 hs.1
            have z2:=lin4 (c1:=-1) (c2:=m-l) (c3:=-(m-l)) (c4:=-(t-m)) rfl hs'.1 hx' hxs e4
            have hyy:yr = ys:=eq_of_sub (lin2 (c1:=1) (c2:=1) (by clear hA hB hC hAB hBC hn hs hx hy hn' hs' hx' hy' ns ss hxr hyr nt st hxs hys hlm e4; clear z1 z2; grind -lia) z1 z2)
            rw [hyy]
end
end Go.Proofs.Ytlmiolnccgjjjaa.Grp
set_option linter.unusedVariables false
namespace Go.Proofs.Ytlmiolnccgjjjaa.Grp
section
variable {p:Nat} [NeZero p]
def sum3 (A T X1 Y1 Z1 X2 Y2 Z2:Fin p):Fin p×Fin p×Fin p :=
  let t0:=X1*X2
  let t1:=Y1*Y2
  let t2:=Z1*Z2
  let t3:=(X1+Y1)*(X2+Y2)-(t0+t1)
  let t4:=(X1+Z1)*(X2+Z2)-(t0+t2)
  let t5:=(Y1+Z1)*(Y2+Z2)-(t1+t2)
  let z:=T*t2+A*t4
  let x:=t1-z
  let z:=t1+z
  let y:=x*z
  let t1:=t0+t0+t0
  let t2:=A*t2
  let t4:=T*t4
  let t1:=t1+t2
  let t2:=A*(t0-t2)
  let t4:=t4+t2
  let y:=y+t1*t4
  let x:=t3*x-t5*t4
  let z:=t5*z+t3*t1
  (x,y,z)
inductive Rep:Fin p→Fin p→Fin p→Pt p→Prop where
  | inf {Y:Fin p}:Y≠0→Rep 0 Y 0 .inf
  | aff {Z:Fin p} (x y:Fin p):Z≠0→Rep (x*Z) (y*Z) Z (.aff x y)
theorem sum3_scale (A T x1 y1 Z1 x2 y2 Z2 : Fin p) : sum3 A T (x1 * Z1) (y1 * Z1) Z1 (x2 * Z2) (y2 * Z2) Z2 =
    ((sum3 A T x1 y1 1 x2 y2 1).1*(Z1*Z1*(Z2*Z2)),(sum3 A T x1 y1 1 x2 y2 1).2.1*(Z1*Z1*(Z2*Z2)),(sum3 A T x1 y1 1 x2 y2 1).2.2*(Z1*Z1*(Z2*Z2))):=by
  simp only [sum3]
  refine Prod.ext ?_ (Prod.ext ?_ ?_)
  · dsimp only; grind -lia
  · dsimp only; grind -lia
  · dsimp only; grind -lia
theorem sum3_line {x1 x2 y2 l A B : Fin p} (hA : A = l * (y2 + l * (x1 - x2) + y2) - (x1 * x1 + x1 * x2 + x2 * x2)) (hB : B = (y2 + l * (x1 - x2)) * (y2 + l * (x1 - x2)) - x1 * x1 * x1 - A * x1) :
    (sum3 A (B+B+B) x1 (y2+l*(x1-x2)) 1 x2 y2 1).1 = (l*l-x1-x2)*(sum3 A (B+B+B) x1 (y2+l*(x1-x2)) 1 x2 y2 1).2.2 ∧
    (sum3 A (B+B+B) x1 (y2+l*(x1-x2)) 1 x2 y2 1).2.1 = (l*(x1-(l*l-x1-x2))-(y2+l*(x1-x2)))*(sum3 A (B+B+B) x1 (y2+l*(x1-x2)) 1 x2 y2 1).2.2 ∧
    (sum3 A (B+B+B) x1 (y2+l*(x1-x2)) 1 x2 y2 1).2.2 = -((y2+l*(x1-x2)+y2)*(x1*(x1-x2)*(x1-x2)-((y2+l*(x1-x2)+y2)*(y2+l*(x1-x2)+y2)-(x1+x2)*((x1-x2)*(x1-x2))))-(y2+l*(x1-x2))*((x1-x2)*(x1-x2)*(x1-x2))):=by
  subst hB hA
  simp only [sum3]
  refine ⟨?_,?_,?_⟩ <;> grind -lia
theorem sum3_opp {x y A B : Fin p} (hB : B = y * y - x * x * x - A * x) : sum3 A (B + B + B) x y 1 x (-y) 1 =
    (0,-(8*(y*y*(y*y))-12*x*(y*y)*(3*(x*x)+A)+(3*(x*x)+A)*(3*(x*x)+A)*(3*(x*x)+A)),0):=by
  subst hB
  simp only [sum3]
  refine Prod.ext ?_ (Prod.ext ?_ ?_)
  · dsimp only; grind -lia
  · dsimp only; grind -lia
  · dsimp only; grind -lia
theorem sum3_left (A T Y1 x2 y2 Z2:Fin p):sum3 A T 0 Y1 0 (x2*Z2) (y2*Z2) Z2 = (x2*(Y1*Y1*(y2*Z2)*Z2),y2*(Y1*Y1*(y2*Z2)*Z2),Y1*Y1*(y2*Z2)*Z2):=by
  simp only [sum3]
  refine Prod.ext ?_ (Prod.ext ?_ ?_)
  · dsimp only; grind -lia
  · dsimp only; grind -lia
  · dsimp only; grind -lia
theorem sum3_right (A T Y1 x2 y2 Z2:Fin p):sum3 A T (x2*Z2) (y2*Z2) Z2 0 Y1 0 = (x2*(Y1*Y1*(y2*Z2)*Z2),y2*(Y1*Y1*(y2*Z2)*Z2),Y1*Y1*(y2*Z2)*Z2):=by
  simp only [sum3]
  refine Prod.ext ?_ (Prod.ext ?_ ?_)
  · dsimp only; grind -lia
  · dsimp only; grind -lia
  · dsimp only; grind -lia
theorem sum3_none (A T Y1 Y2:Fin p):sum3 A T 0 Y1 0 0 Y2 0 = (0,Y1*Y2*(Y1*Y2),0):=by
  simp only [sum3]
  refine Prod.ext ?_ (Prod.ext ?_ ?_)
  · dsimp only; grind -lia
  · dsimp only; grind -lia
  · dsimp only; grind -lia
theorem Dom.mul (hd:Dom p) {x y:Fin p} (hx:x≠0) (hy:y≠0):x*y≠0:=fun h=>(hd _ _ h).elim hx hy
theorem neg_ne {x : Fin p} (h : x ≠ 0) : -x ≠ 0 := fun e => h (by have : x = -(-x) := by grind -lia
                                                                  rw [this,e]; grind -lia)
structure Good (a b:Fin p):Prop where
  dom:Dom p
  inv:∀ x:Fin p,x≠0→∃ y,x*y = 1
  two:∀ y:Fin p,y+y = 0→y = 0
  root:∀ x:Fin p,¬ On a b (.aff x 0)
theorem Good.fine {a b:Fin p} (h:Good a b):Fine a b:=⟨h.dom,h.two,fun x hx _=>h.root x hx⟩
theorem Good.y_ne {a b x y:Fin p} (h:Good a b) (hP:On a b (.aff x y)):y≠0:=fun e=>h.root x (e ▸ hP)
theorem Good.quot {a b:Fin p} (h:Good a b) {x:Fin p} (hx:x≠0) (y:Fin p):∃ l,l*x = y:=by
  obtain ⟨i,hi⟩:=h.inv x hx
  refine ⟨y*i,?_⟩
  have e:y*i*x = y*(x*i):=by clear hi; grind -lia
  rw [e,hi]; clear hi e; grind -lia
theorem Good.sum {a b:Fin p} (h:Good a b) {A B:Pt p} (hA:On a b A) (hB:On a b B):∃ R,Add a A B R:=by
  cases A with
  | inf=>exact ⟨_,.left _⟩
  | aff x1 y1=>cases B with
    | inf=>exact ⟨_,.right _⟩
    | aff x2 y2 =>
      by_cases ho:Opp x1 y1 x2 y2
      · exact ⟨_,.opp ho⟩
      · have key : ∃ l, Slope a x1 y1 x2 y2 l := by
          simp only [On] at hA hB
          by_cases hx:x1-x2 = 0
          · have hs:y1+y2≠0:=fun e=>ho ⟨hx,e⟩
            obtain ⟨l,hl⟩:=h.quot hs (x1*x1+x1*x2+x2*x2+a)
            refine ⟨l,?_,sub_of_eq hl⟩
            obtain rfl:=eq_of_sub hx
            have e:(y1-y2)*(y1+y2) = 0:=lin2 (c1:=1) (c2:=-1) (by clear hl hs hx ho hA hB; grind -lia) hA hB
            have e2:y1-y2 = 0:=(h.dom _ _ e).elim id (fun e=>absurd e hs)
            exact lin1 (c1:=-1) (by clear hl hs hx ho hA hB e e2; grind -lia) e2
          · obtain ⟨l,hl⟩:=h.quot hx (y1-y2)
            refine ⟨l,sub_of_eq hl,?_⟩
            have e:(l*(y1+y2)-(x1*x1+x1*x2+x2*x2+a))*(x1-x2) = 0:=lin3 (c1:=y1+y2) (c2:=1) (c3:=-1) (by clear hl hx ho hA hB; grind -lia) (sub_of_eq hl) hA hB
            exact (h.dom _ _ e).elim id (fun e=>absurd e hx)
        obtain ⟨l,hl⟩:=key
        exact ⟨_,.line l (l*l-x1-x2) (l*(x1-(l*l-x1-x2))-y1) ho hl (by clear hl ho hA hB; grind -lia) (by clear hl ho hA hB; grind -lia)⟩
theorem rep_scale {X Y Z k:Fin p} {P:Pt p} (hd:Dom p) (h:Rep X Y Z P) (hk:k≠0):Rep (X*k) (Y*k) (Z*k) P:=by
  cases h with
  | inf h =>
    have e:(0:Fin p)*k = 0:=by clear h hk; grind -lia
    rw [e]
    exact .inf (hd.mul h hk)
  | aff x y h =>
    have e1:x*Z*k = x*(Z*k):=by clear h hk; grind -lia
    have e2:y*Z*k = y*(Z*k):=by clear h hk; grind -lia
    rw [e1,e2]
    exact .aff x y (hd.mul h hk)
theorem Rep.sum {a b X1 Y1 Z1 X2 Y2 Z2 : Fin p} (h : Good a b) {P Q R : Pt p} (hP : Rep X1 Y1 Z1 P) (hQ : Rep X2 Y2 Z2 Q) (oP : On a b P) (oQ : On a b Q) (hR : Add a P Q R) :
    Rep (sum3 a (b+b+b) X1 Y1 Z1 X2 Y2 Z2).1 (sum3 a (b+b+b) X1 Y1 Z1 X2 Y2 Z2).2.1 (sum3 a (b+b+b) X1 Y1 Z1 X2 Y2 Z2).2.2 R:=by
  have hd:=h.dom
  cases hP with
  | inf h1=>cases hQ with
    | inf h2 =>
      have e:R = .inf:=by cases hR <;> rfl
      subst e
      rw [sum3_none]
      exact .inf (hd.mul (hd.mul h1 h2) (hd.mul h1 h2))
    | aff x2 y2 h2 =>
      have e:R = .aff x2 y2:=by cases hR; rfl
      subst e
      rw [sum3_left]
      exact .aff x2 y2 (hd.mul (hd.mul (hd.mul h1 h1) (hd.mul (h.y_ne oQ) h2)) h2)
  | aff x1 y1 h1=>cases hQ with
    | inf h2 =>
      have e:R = .aff x1 y1:=by cases hR; rfl
      subst e
      rw [sum3_right]
      exact .aff x1 y1 (hd.mul (hd.mul (hd.mul h2 h2) (hd.mul (h.y_ne oP) h1)) h1)
    | aff x2 y2 h2 =>
      rw [sum3_scale]
      refine rep_scale hd ?_ (hd.mul (hd.mul h1 h1) (hd.mul h2 h2))
      have hb:=oP
      simp only [On] at hb
      cases hR with
      | opp ho =>
        have e:=ho.eq
        injection e with e1 e2
        subst e1 e2
        have hB:b = y1*y1-x2*x2*x2-a*x2:=eq_of_sub (lin1 (c1:=-1) (by clear hb ho oP oQ h1 h2; grind -lia) hb)
        rw [sum3_opp hB]
        refine .inf (neg_ne ?_)
        intro hV
        have hy:=h.y_ne oP
        have hyy:y1+y1≠0:=fun e=>hy (h.two _ e)
        obtain ⟨l,hl⟩:=h.quot hyy (3*(x2*x2)+a)
        have hs:Slope a x2 y1 x2 y1 l:=⟨by clear hl hV hB hb; grind -lia,lin1 (c1:=1) (by clear hl hV hB hb; grind -lia) (sub_of_eq hl)⟩
        have hA:Add a (.aff x2 y1) (.aff x2 y1) (.aff (l*l-x2-x2) (l*(x2-(l*l-x2-x2))-y1)):=.line l _ _ (fun e=>hyy e.2) hs (by clear hl hV hB hb; grind -lia) (by clear hl hV hB hb; grind -lia)
        have hO:=hA.on oP oP
        have hy4:=h.y_ne hO
        apply hd.mul hy4 (hd.mul hyy (hd.mul hyy hyy))
        have hl':=hl.symm
        rw [hl'] at hV
        refine lin1 (c1:=-1) ?_ hV
        clear hV hl' hl hB hb hs hA hO hy4 hyy hy oP oQ ho
        grind -lia
      | line l x y hn hs hx hy =>
        obtain rfl:=eq_of_sub hx
        obtain rfl:=eq_of_sub hy
        have hs1:=hs.chord
        have hs2:=hs.tang
        obtain rfl:y1 = y2+l*(x1-x2):=eq_of_sub (lin1 (c1:=-1) (by clear hs1 hs2 hb hx hy oP oQ; grind -lia) hs1)
        have hA:a = l*(y2+l*(x1-x2)+y2)-(x1*x1+x1*x2+x2*x2):=eq_of_sub (lin1 (c1:=-1) (by clear hs1 hs2 hb hx hy oP oQ; grind -lia) hs2)
        have hB:b = (y2+l*(x1-x2))*(y2+l*(x1-x2))-x1*x1*x1-a*x1:=eq_of_sub (lin1 (c1:=-1) (by clear hs1 hs2 hb hx hy oP oQ hA; grind -lia) hb)
        obtain ⟨e1,e2,e3⟩:=sum3_line hA hB
        rw [e1,e2]
        refine .aff _ _ ?_
        rw [e3]
        refine neg_ne ?_
        clear e1 e2 e3
        by_cases hxx:x1-x2 = 0
        · have hss:y2+l*(x1-x2)+y2≠0:=fun e=>hn ⟨hxx,e⟩
          intro hV
          obtain rfl:=eq_of_sub hxx
          apply hd.mul hss (hd.mul hss hss)
          refine lin1 (c1:=-1) ?_ hV
          clear hV hss hA hB hb hs hs1 hs2 hx hy oP oQ hxx hn
          grind -lia
        · obtain ⟨n,hn'⟩:=h.quot hxx (y2+l*(x1-x2)+y2)
          have oQ':On a b (.aff x2 (-y2)):=neg_on oQ
          have hs':Slope a x1 (y2+l*(x1-x2)) x2 (-y2) n:=by
            have c1:n*(x1-x2)-(y2+l*(x1-x2) - -y2) = 0:=lin1 (c1:=1) (by clear hn' hA hB hb hs hs1 hs2 hx hy oP oQ oQ' hxx hn; grind -lia) (sub_of_eq hn')
            refine ⟨c1,?_⟩
            have e:(n*(y2+l*(x1-x2)+-y2)-(x1*x1+x1*x2+x2*x2+a))*(x1-x2) = 0:=lin2 (c1:=l*(x1-x2)) (c2:=x1-x2) (by clear hn' hA hB hb hs hs1 hs2 hx hy oP oQ oQ' hxx hn; grind -lia) (sub_of_eq hn') hs2
            exact (hd _ _ e).elim id (fun e=>absurd e hxx)
          have hA':Add a (.aff x1 (y2+l*(x1-x2))) (.aff x2 (-y2)) (.aff (n*n-x1-x2) (n*(x1-(n*n-x1-x2))-(y2+l*(x1-x2)))):=.line n _ _ (fun e=>hxx e.1) hs' (by clear hn' hA hB hb hs hs1 hs2 hx hy oP oQ oQ' hxx hn hs'; grind -lia) (by clear hn' hA hB hb hs hs1 hs2 hx hy oP oQ oQ' hxx hn hs'; grind -lia)
          have hO:=hA'.on oP oQ'
          have hy4:=h.y_ne hO
          intro hV
          apply hd.mul hy4 (hd.mul hxx (hd.mul hxx hxx))
          rw [← hn'] at hV
          refine lin1 (c1:=1) ?_ hV
          clear hV hA hB hb hs hs1 hs2 hx hy oP oQ oQ' hxx hn hs' hA' hO hy4 hn'
          grind -lia
end
end Go.Proofs.Ytlmiolnccgjjjaa.Grp
set_option linter.unusedVariables false
set_option linter.unusedSectionVars false
namespace Go.Proofs.Ytlmiolnccgjjjaa.Grp
section
def Pr (p:Nat):Prop:=2≤p∧∀ d,d ∣ p→d = 1∨d = p
theorem bez (a m:Nat):∃ s t:Int,(a:Int)*s+(m:Int)*t = ((Nat.gcd a m:Nat):Int):=by
  induction a,m using Nat.gcd.induction with
  | H0 n=>exact ⟨0,1,by simp⟩
  | H1 m n hm ih =>
    obtain ⟨s,t,h⟩:=ih
    refine ⟨t-((n/m:Nat):Int)*s,s,?_⟩
    rw [Nat.gcd_rec m n,← h]
    have e:((n:Nat):Int) = (m:Int)*((n/m:Nat):Int)+((n%m:Nat):Int):=by
      rw [← Int.natCast_mul,← Int.natCast_add,Nat.div_add_mod]
    generalize ((n/m:Nat):Int) = q at *
    generalize ((n%m:Nat):Int) = r at *
    rw [e]
    grind
theorem inv_mod {a m:Nat} (h:Nat.gcd a m = 1) (hm:1<m):∃ s,s<m∧a*s%m = 1:=by
  obtain ⟨s,t,e⟩:=bez a m
  rw [h] at e
  have hm':(m:Int)≠0:=by omega
  refine ⟨(s%(m:Int)).toNat,?_,?_⟩
  · have:=Int.emod_lt_of_pos s (show (0:Int)<m by omega)
    have:=Int.emod_nonneg s hm'
    omega
  · have h0:=Int.emod_nonneg s hm'
    have h1:((a*(s%(m:Int)).toNat%m:Nat):Int) = 1:=by
      rw [Int.natCast_emod,Int.natCast_mul,Int.toNat_of_nonneg h0,Int.mul_emod,Int.emod_emod,← Int.mul_emod]
      have e2:(a:Int)*s = 1+(m:Int)*(-t):=by
        rw [Int.mul_neg]; simp at e; omega
      rw [e2,Int.add_mul_emod_self_left]
      exact Int.emod_eq_of_lt (by decide) (by omega)
    omega
theorem Pr.cop {p x:Nat} (h:Pr p) (hx:¬ p ∣ x):Nat.gcd x p = 1:=by
  rcases h.2 _ (Nat.gcd_dvd_right x p) with e|e
  · exact e
  · exact absurd (e ▸ Nat.gcd_dvd_left x p) hx
theorem Pr.mul {p x y:Nat} (h:Pr p) (hd:p ∣ x*y):p ∣ x∨p ∣ y:=by
  by_cases hx:p ∣ x
  · exact .inl hx
  · refine .inr (Nat.Coprime.dvd_of_dvd_mul_left ?_ hd)
    rw [Nat.coprime_comm]
    exact h.cop hx
variable {p:Nat} [NeZero p]
structure Fld (p:Nat) [NeZero p]:Prop where
  dom:Dom p
  inv:∀ x:Fin p,x≠0→∃ y,x*y = 1
  two:∀ y:Fin p,y+y = 0→y = 0
theorem Pr.fld (h:Pr p) (h2:p≠2):Fld p:=by
  have hp:=h.1
  have zero_of:∀ x:Fin p,p ∣ x.val→x = 0:=fun x hx=>by
    apply Fin.ext
    rw [Fin.val_zero]
    exact Nat.eq_zero_of_dvd_of_lt hx x.isLt
  refine ⟨fun x y e=>?_,fun x hx=>?_,fun y e=>?_⟩
  · have e1:x.val*y.val%p = 0:=by rw [← Fin.val_mul,e,Fin.val_zero]
    exact (h.mul (Nat.dvd_of_mod_eq_zero e1)).imp (zero_of x) (zero_of y)
  · obtain ⟨s,hs,e⟩:=inv_mod (a:=x.val) (h.cop (fun hd=>hx (zero_of x hd))) (show 1<p by omega)
    refine ⟨⟨s,hs⟩,Fin.ext ?_⟩
    rw [Fin.val_mul]
    show x.val*s%p = _
    rw [e]
    have:(1:Fin p).val = 1%p:=rfl
    rw [this,Nat.mod_eq_of_lt (by omega)]
  · have e1:(y.val+y.val)%p = 0:=by rw [← Fin.val_add,e,Fin.val_zero]
    have e2:p ∣ 2*y.val:=by rw [Nat.two_mul]; exact Nat.dvd_of_mod_eq_zero e1
    rcases h.mul e2 with e3|e3
    · have:=Nat.le_of_dvd (by decide) e3
      exact absurd (show p = 2 by omega) h2
    · exact zero_of y e3
structure Crv (a b:Fin p):Prop where
  fld:Fld p
  sing:∀ x:Fin p,On a b (.aff x 0)→x*x+x*x+x*x+a = 0→False
theorem Crv.fine {a b:Fin p} (h:Crv a b):Fine a b:=⟨h.fld.dom,h.fld.two,h.sing⟩
theorem Fld.quot (h:Fld p) {x:Fin p} (hx:x≠0) (y:Fin p):∃ l,l*x = y:=by
  obtain ⟨i,hi⟩:=h.inv x hx
  refine ⟨y*i,?_⟩
  have e:y*i*x = y*(x*i):=by clear hi; grind -lia
  rw [e,hi]; clear hi e; grind -lia
theorem Fld.sum (h:Fld p) {a b:Fin p} {A B:Pt p} (hA:On a b A) (hB:On a b B):∃ R,Add a A B R:=by
  cases A with
  | inf=>exact ⟨_,.left _⟩
  | aff x1 y1=>cases B with
    | inf=>exact ⟨_,.right _⟩
    | aff x2 y2 =>
      by_cases ho:Opp x1 y1 x2 y2
      · exact ⟨_,.opp ho⟩
      · have key : ∃ l, Slope a x1 y1 x2 y2 l := by
          simp only [On] at hA hB
          by_cases hx:x1-x2 = 0
          · have hs:y1+y2≠0:=fun e=>ho ⟨hx,e⟩
            obtain ⟨l,hl⟩:=h.quot hs (x1*x1+x1*x2+x2*x2+a)
            refine ⟨l,?_,sub_of_eq hl⟩
            obtain rfl:=eq_of_sub hx
            have e:(y1-y2)*(y1+y2) = 0:=lin2 (c1:=1) (c2:=-1) (by clear hl hs hx ho hA hB; grind -lia) hA hB
            have e2:y1-y2 = 0:=(h.dom _ _ e).elim id (fun e=>absurd e hs)
            exact lin1 (c1:=-1) (by clear hl hs hx ho hA hB e e2; grind -lia) e2
          · obtain ⟨l,hl⟩:=h.quot hx (y1-y2)
            refine ⟨l,sub_of_eq hl,?_⟩
            have e:(l*(y1+y2)-(x1*x1+x1*x2+x2*x2+a))*(x1-x2) = 0:=lin3 (c1:=y1+y2) (c2:=1) (c3:=-1) (by clear hl hx ho hA hB; grind -lia) (sub_of_eq hl) hA hB
            exact (h.dom _ _ e).elim id (fun e=>absurd e hx)
        obtain ⟨l,hl⟩:=key
        exact ⟨_,.line l (l*l-x1-x2) (l*(x1-(l*l-x1-x2))-y1) ho hl (by clear hl ho hA hB; grind -lia) (by clear hl ho hA hB; grind -lia)⟩
instance:Nonempty (Pt p):=⟨.inf⟩
noncomputable def padd (a:Fin p) (A B:Pt p):Pt p:=Classical.epsilon (fun R=>Add a A B R)
theorem padd_spec (h:Fld p) {a b:Fin p} {A B:Pt p} (hA:On a b A) (hB:On a b B):Add a A B (padd a A B):=Classical.epsilon_spec (h.sum hA hB)
theorem padd_eq (h:Fld p) {a b:Fin p} {A B R:Pt p} (hA:On a b A) (hB:On a b B) (hR:Add a A B R):padd a A B = R:=(padd_spec h hA hB).unique h.dom hR
theorem padd_on (h:Fld p) {a b:Fin p} {A B:Pt p} (hA:On a b A) (hB:On a b B):On a b (padd a A B):=(padd_spec h hA hB).on hA hB
theorem padd_comm (h:Fld p) {a b:Fin p} {A B:Pt p} (hA:On a b A) (hB:On a b B):padd a A B = padd a B A:=padd_eq h hA hB (padd_spec h hB hA).symm
theorem padd_assoc {a b:Fin p} (h:Crv a b) {A B C:Pt p} (hA:On a b A) (hB:On a b B) (hC:On a b C):padd a (padd a A B) C = padd a A (padd a B C) :=
  Add.assoc h.fine hA hB hC (padd_spec h.fld hA hB) (padd_spec h.fld (padd_on h.fld hA hB) hC) (padd_spec h.fld hB hC) (padd_spec h.fld hA (padd_on h.fld hB hC))
theorem padd_inf (h:Fld p) {a b:Fin p} {A:Pt p} (hA:On a b A):padd a A .inf = A:=padd_eq h hA (b:=b) trivial (.right _)
theorem inf_padd (h:Fld p) {a b:Fin p} {A:Pt p} (hA:On a b A):padd a .inf A = A:=padd_eq h (b:=b) trivial hA (.left _)
theorem padd_neg (h:Fld p) {a b:Fin p} {A:Pt p} (hA:On a b A):padd a A A.neg = .inf:=padd_eq h hA (neg_on hA) (add_neg a A)
theorem padd_cancel {a b:Fin p} (h:Crv a b) {A B C:Pt p} (hA:On a b A) (hB:On a b B) (hC:On a b C) (e:padd a A C = padd a B C):A = B:=by
  have e1:=congrArg (fun X=>padd a X C.neg) e
  simp only [padd_assoc h hA hC (neg_on hC),padd_assoc h hB hC (neg_on hC),padd_neg h.fld hC,padd_inf h.fld hA,padd_inf h.fld hB] at e1
  exact e1
noncomputable def pmul (a:Fin p) (P:Pt p):Nat→Pt p
  | 0=>.inf
  | k+1=>padd a (pmul a P k) P
theorem pmul_on (h:Fld p) {a b:Fin p} {P:Pt p} (hP:On a b P):∀ k,On a b (pmul a P k)
  | 0=>trivial
  | k+1=>padd_on h (pmul_on h hP k) hP
theorem pmul_one (h:Fld p) {a b:Fin p} {P:Pt p} (hP:On a b P):pmul a P 1 = P:=inf_padd h hP
theorem pmul_add {a b:Fin p} (h:Crv a b) {P:Pt p} (hP:On a b P) (i:Nat):∀ j,pmul a P (i+j) = padd a (pmul a P i) (pmul a P j)
  | 0=>(padd_inf h.fld (pmul_on h.fld hP i)).symm
  | j+1=>by
    show padd a (pmul a P (i+j)) P = _
    rw [pmul_add h hP i j,padd_assoc h (pmul_on h.fld hP i) (pmul_on h.fld hP j) hP]
    rfl
theorem pmul_mul {a b:Fin p} (h:Crv a b) {P:Pt p} (hP:On a b P) (i:Nat):∀ j,pmul a P (i*j) = pmul a (pmul a P i) j
  | 0=>rfl
  | j+1=>by
    rw [Nat.mul_succ,pmul_add h hP,pmul_mul h hP i j]
    rfl
theorem pmul_inf {a b:Fin p} (h:Fld p):∀ j,pmul a (.inf:Pt p) j = .inf
  | 0=>rfl
  | j+1=>by
    show padd a (pmul a .inf j) .inf = _
    rw [pmul_inf (b:=b) h j,padd_inf h (show On a b (.inf:Pt p) from trivial)]
theorem pmul_order {a b:Fin p} (h:Crv a b) {P:Pt p} (hP:On a b P) {q:Nat} (hq:Pr q) (h0:P≠.inf) (hqP:pmul a P q = .inf) {k:Nat} (hk:pmul a P k = .inf):q ∣ k:=by
  refine Classical.byContradiction fun hn=>h0 ?_
  have hq2:=hq.1
  obtain ⟨s,_,hs⟩:=inv_mod (hq.cop hn) (show 1<q by omega)
  have e1:k*s = q*(k*s/q)+1:=by
    have:=Nat.div_add_mod (k*s) q
    omega
  have e2:pmul a P (k*s) = .inf:=by rw [pmul_mul h hP,hk,pmul_inf (b:=b) h.fld]
  rw [e1,pmul_add h hP,pmul_mul h hP,hqP,pmul_inf (b:=b) h.fld,pmul_one h.fld hP,inf_padd h.fld hP] at e2
  exact e2
theorem pmul_inj {a b:Fin p} (h:Crv a b) {P:Pt p} (hP:On a b P) {q:Nat} (hq:Pr q) (h0:P≠.inf) (hqP:pmul a P q = .inf) {i j:Nat} (hj:j<q) (hi:i≤j) (e:pmul a P i = pmul a P j):i = j:=by
  have e1:pmul a P j = padd a (pmul a P (j-i)) (pmul a P i):=by rw [← pmul_add h hP,Nat.sub_add_cancel hi]
  have e2:padd a .inf (pmul a P i) = padd a (pmul a P (j-i)) (pmul a P i):=by rw [inf_padd h.fld (pmul_on h.fld hP i),← e1,e]
  have e3:=padd_cancel h (show On a b (.inf:Pt p) from trivial) (pmul_on h.fld hP _) (pmul_on h.fld hP i) e2
  have e4:=pmul_order h hP hq h0 hqP e3.symm
  have:=Nat.eq_zero_of_dvd_of_lt e4 (by omega)
  omega
theorem doves:∀ (M N:Nat) (f:Nat→Nat),(∀ i,i<N→f i<M)→(∀ i j,i<j→j<N→f i≠f j)→N≤M
  | 0,N,f,h,_=>Nat.le_of_not_lt fun hN=>Nat.not_lt_zero _ (h 0 hN)
  | M+1,N,f,h,hi=>by
    by_cases hex:∃ i0,i0<N∧f i0 = M
    · obtain ⟨i0,h0,e0⟩:=hex
      have:=doves M (N-1) (fun i=>if i<i0 then f i else f (i+1)) (fun i hiN=>by
        split
        · have:=h i (by omega)
          have:=hi i i0 (by omega) h0
          omega
        · have:=h (i+1) (by omega)
          have:=hi i0 (i+1) (by omega) (by omega)
          omega) (fun i j hij hj=>by
        split
        · split
          · exact hi i j hij (by omega)
          · exact hi i (j+1) (by omega) (by omega)
        · split
          · omega
          · exact hi (i+1) (j+1) (by omega) (by omega))
      omega
    · have := doves M N f (fun i hiN => by
        have:=h i hiN
        have:f i≠M:=fun e=>hex ⟨i,hiN,e⟩
        omega) hi
      omega
def pcode:Pt p→Nat
  | .inf=>2*p
  | .aff x y=>2*x.val+(if 2*y.val<p then 0 else 1)
theorem pcode_lt (P:Pt p):pcode P<2*p+1:=by
  cases P with
  | inf=>simp [pcode]
  | aff x y=>have:=x.isLt; simp only [pcode]; split <;> omega
theorem pcode_inj (h:Fld p) {a b:Fin p} {P Q:Pt p} (hP:On a b P) (hQ:On a b Q) (e:pcode P = pcode Q):P = Q:=by
  cases P with
  | inf=>cases Q with
    | inf=>rfl
    | aff x y=>have:=x.isLt; simp only [pcode] at e; split at e <;> omega
  | aff x y=>cases Q with
    | inf=>have:=x.isLt; simp only [pcode] at e; split at e <;> omega
    | aff x' y' =>
      simp only [pcode] at e
      have hx:x = x':=Fin.ext (by split at e <;> split at e <;> omega)
      subst hx
      simp only [On] at hP hQ
      have hm:(y-y')*(y+y') = 0:=lin2 (c1:=1) (c2:=-1) (by clear hP hQ e; grind -lia) hP hQ
      rcases h.dom _ _ hm with h1|h1
      · rw [eq_of_sub h1]
      · have h2:(y.val+y'.val)%p = 0:=by rw [← Fin.val_add,h1,Fin.val_zero]
        have h3:=y.isLt
        have h4:=y'.isLt
        have h5:y.val+y'.val = 0∨y.val+y'.val = p:=by
          rcases Nat.lt_or_ge (y.val+y'.val) p with h6|h6
          · rw [Nat.mod_eq_of_lt h6] at h2; exact .inl h2
          · have:(y.val+y'.val-p)%p = 0:=by rw [← Nat.mod_eq_sub_mod h6]; exact h2
            rw [Nat.mod_eq_of_lt (by omega)] at this
            omega
        have h7:y = y':=Fin.ext (by split at e <;> split at e <;> omega)
        rw [h7]
theorem order_le {a b:Fin p} (h:Crv a b) {P:Pt p} (hP:On a b P) {q:Nat} (hq:Pr q) (h0:P≠.inf) (hqP:pmul a P q = .inf):q≤2*p+1 :=
  doves (2*p+1) q (fun i=>pcode (pmul a P i)) (fun i _=>pcode_lt _) (fun i j hij hj e =>
    absurd (pmul_inj h hP hq h0 hqP hj (Nat.le_of_lt hij) (pcode_inj h.fld (pmul_on h.fld hP i) (pmul_on h.fld hP j) e)) (by omega))
end
end Go.Proofs.Ytlmiolnccgjjjaa.Grp
set_option linter.unusedVariables false
set_option linter.unusedSectionVars false
namespace Go.Proofs.Ytlmiolnccgjjjaa.Grp
section
variable {p:Nat} [NeZero p]
def c (p:Nat) [NeZero p] (k:Nat):Fin p:=Fin.ofNat p k
theorem c_val (k:Nat):(c p k).val = k%p:=rfl
theorem c_add (i j:Nat):c p (i+j) = c p i+c p j:=Fin.ext (by rw [Fin.val_add,c_val,c_val,c_val,← Nat.add_mod])
theorem c_mul (i j:Nat):c p (i*j) = c p i*c p j:=Fin.ext (by rw [Fin.val_mul,c_val,c_val,c_val,← Nat.mul_mod])
theorem c_mod {n:Nat} (hn:p ∣ n) (i:Nat):c p (i%n) = c p i:=Fin.ext (by rw [c_val,c_val,Nat.mod_mod_of_dvd _ hn])
theorem c_zero_iff {k:Nat}:c p k = 0↔p ∣ k:=by
  constructor
  · intro h
    have:=congrArg Fin.val h
    rw [c_val,Fin.val_zero] at this
    exact Nat.dvd_of_mod_eq_zero this
  · intro h
    apply Fin.ext
    rw [c_val,Fin.val_zero]
    exact Nat.mod_eq_zero_of_dvd h
theorem c_sub {n j:Nat} (hn:p ∣ n) (hj:j≤n):c p (n-j) = -c p j:=by
  have h1:c p (n-j)+c p j = 0:=by rw [← c_add,Nat.sub_add_cancel hj]; exact c_zero_iff.2 hn
  have h2:c p (n-j) - -c p j = 0:=by rw [← h1]; grind -lia
  exact eq_of_sub h2
theorem c_one:c p 1 = 1:=rfl
theorem c_two:c p 2 = 2:=rfl
theorem c_three:c p 3 = 3:=rfl
theorem c_four:c p 4 = 4:=rfl
theorem c_six:c p 6 = 6:=rfl
def RZ (X Y Z:Fin p) (A:Pt p):Prop:=Z≠0→∃ x y,A = .aff x y∧X = x*Z∧Y = y*Z
theorem RZ.dbl {a b X Y Z W S : Fin p} {A : Pt p} (h : Fld p) (hA : On a b A) (hr : RZ X Y Z A) (hW : W = 3 * X * X + a * (Z * Z)) (hS : S = 2 * Y * Z) :
    RZ (S*(W*W-4*(X*Y*S))) (W*(6*(X*Y*S)-W*W)-2*(Y*S)*(Y*S)) (S*S*S) (padd a A A):=by
  intro hz
  have hS0:S≠0:=fun e=>hz (by rw [e]; clear hr hW hS e hz; grind -lia)
  have hZ0:Z≠0:=fun e=>hS0 (by rw [hS,e]; clear hr hW hS e hz hS0; grind -lia)
  obtain ⟨x,y,rfl,hX,hY⟩:=hr hZ0
  have hy0:y≠0:=fun e=>hS0 (by rw [hS,hY,e]; clear hr hW hS e hz hS0 hX hY; grind -lia)
  have hsp:=padd_spec h hA hA
  generalize padd a (.aff x y) (.aff x y) = R at hsp
  cases hsp with
  | opp ho=>exact absurd (h.two _ ho.2) hy0
  | line l x4 y4 hn hs hx hy =>
    have ha:a = l*(y+y)-(x*x+x*x+x*x):=eq_of_sub (lin1 (c1:=-1) (by clear hr hW hS hz hS0 hX hY hx hy hs hA; grind -lia) hs.tang)
    obtain rfl:=eq_of_sub hx
    obtain rfl:=eq_of_sub hy
    refine ⟨_,_,rfl,?_,?_⟩
    · rw [hW,hS,hX,hY,ha]; clear hr hW hS hz hS0 hX hY hx hy hs hA ha; grind -lia
    · rw [hW,hS,hX,hY,ha]; clear hr hW hS hz hS0 hX hY hx hy hs hA ha; grind -lia
theorem RZ.add {a b X Y Z x2 y2 u v : Fin p} {A : Pt p} (h : Fld p) (hA : On a b A) (hQ : On a b (.aff x2 y2)) (hr : RZ X Y Z A) (hu : u = y2 * Z - Y) (hv : v = x2 * Z - X) :
    RZ (v*(u*u*Z-v*v*v-2*(v*v*X))) (u*(v*v*X-(u*u*Z-v*v*v-2*(v*v*X)))-v*v*v*Y) (v*v*v*Z) (padd a A (.aff x2 y2)):=by
  intro hz
  have hv0:v≠0:=fun e=>hz (by rw [e]; clear hr hu hv e hz; grind -lia)
  have hZ0:Z≠0:=fun e=>hz (by rw [e]; clear hr hu hv e hz hv0; grind -lia)
  obtain ⟨x,y,rfl,hX,hY⟩:=hr hZ0
  have hx0:x-x2≠0:=fun e=>hv0 (by
    obtain rfl:=eq_of_sub e
    rw [hv,hX]; clear hr hu hv e hz hv0 hX hY; grind -lia)
  have hsp:=padd_spec h hA hQ
  generalize padd a (.aff x y) (.aff x2 y2) = R at hsp
  cases hsp with
  | opp ho=>exact absurd ho.1 hx0
  | line l x4 y4 hn hs hx hy =>
    have e:y = y2+l*(x-x2):=eq_of_sub (lin1 (c1:=-1) (by clear hr hu hv hz hv0 hX hY hx hy hs hA hQ; grind -lia) hs.chord)
    obtain rfl:=eq_of_sub hx
    obtain rfl:=eq_of_sub hy
    refine ⟨_,_,rfl,?_,?_⟩
    · rw [hu,hv,hX,hY,e]; clear hr hu hv hz hv0 hX hY hx hy hs hA hQ e; grind -lia
    · rw [hu,hv,hX,hY,e]; clear hr hu hv hz hv0 hX hY hx hy hs hA hQ e; grind -lia
end
@[reducible] noncomputable def force (m:Nat) (f:Nat→Bool):Bool:=Nat.rec (motive:=fun _=>Bool) (f 0) (fun m _=>f (Nat.succ m)) m
theorem force_eq (m:Nat) (f:Nat→Bool):force m f = f m:=by cases m <;> rfl
noncomputable def lad (n a x y k:Nat) (fin:Nat→Nat→Nat→Bool):Nat→Nat→Nat→Nat→Bool :=
  Nat.rec (motive:=fun _=>Nat→Nat→Nat→Bool) fin (fun i ih X Y Z =>
    force ((3*X*X+a*(Z*Z))%n) fun W=>force (2*Y*Z%n) fun S=>force (X*Y%n*S%n) fun B=>force (Y*S%n) fun E =>
    force (S*(W*W+4*(n-B))%n) fun X1=>force ((W*(6*B+(n-W)*W)+2*(n-E)*E)%n) fun Y1=>force (S*S%n*S%n) fun Z1 =>
    Bool.rec (ih X1 Y1 Z1) (
      force ((y*Z1+(n-Y1))%n) fun u=>force ((x*Z1+(n-X1))%n) fun v=>force (v*v%n) fun vv=>force (vv*v%n) fun v3 =>
      force (vv*X1%n) fun R=>force ((u*u%n*Z1+(n-v3)+2*(n-R))%n) fun A =>
      force (v*A%n) fun X2=>force ((u*(R+(n-A))+(n-v3)*Y1)%n) fun Y2=>force (v3*Z1%n) fun Z2=>ih X2 Y2 Z2)
      (Nat.testBit k i))
theorem lad_unf (n a x y k : Nat) (fin : Nat → Nat → Nat → Bool) (i X Y Z : Nat) : lad n a x y k fin (i + 1) X Y Z =
    force ((3*X*X+a*(Z*Z))%n) fun W=>force (2*Y*Z%n) fun S=>force (X*Y%n*S%n) fun B=>force (Y*S%n) fun E =>
    force (S*(W*W+4*(n-B))%n) fun X1=>force ((W*(6*B+(n-W)*W)+2*(n-E)*E)%n) fun Y1=>force (S*S%n*S%n) fun Z1 =>
    Bool.rec (lad n a x y k fin i X1 Y1 Z1) (
      force ((y*Z1+(n-Y1))%n) fun u=>force ((x*Z1+(n-X1))%n) fun v=>force (v*v%n) fun vv=>force (vv*v%n) fun v3 =>
      force (vv*X1%n) fun R=>force ((u*u%n*Z1+(n-v3)+2*(n-R))%n) fun A =>
      force (v*A%n) fun X2=>force ((u*(R+(n-A))+(n-v3)*Y1)%n) fun Y2=>force (v3*Z1%n) fun Z2=>lad n a x y k fin i X2 Y2 Z2)
      (Nat.testBit k i):=rfl
theorem lad_succ (n a x y k : Nat) (fin : Nat → Nat → Nat → Bool) (i X Y Z W S B E X1 Y1 Z1 u v vv v3 R A : Nat) (hW : W = (3 * X * X + a * (Z * Z)) % n) (hS : S = 2 * Y * Z % n) (hB : B = X * Y % n * S % n) (hE : E = Y * S % n)
    (hX1:X1 = S*(W*W+4*(n-B))%n) (hY1:Y1 = (W*(6*B+(n-W)*W)+2*(n-E)*E)%n) (hZ1:Z1 = S*S%n*S%n)
    (hu:u = (y*Z1+(n-Y1))%n) (hv:v = (x*Z1+(n-X1))%n) (hvv:vv = v*v%n) (hv3:v3 = vv*v%n) (hR:R = vv*X1%n) (hA:A = (u*u%n*Z1+(n-v3)+2*(n-R))%n) :
    lad n a x y k fin (i+1) X Y Z = if k.testBit i then lad n a x y k fin i (v*A%n) ((u*(R+(n-A))+(n-v3)*Y1)%n) (v3*Z1%n) else lad n a x y k fin i X1 Y1 Z1:=by
  subst hA hR hv3 hvv hv hu hZ1 hY1 hX1 hE hB hS hW
  rw [lad_unf]
  simp only [force_eq]
  cases k.testBit i <;> rfl
section
variable {p:Nat} [NeZero p]
theorem lad_spec {n a b x y k : Nat} {fin : Nat → Nat → Nat → Bool} (hn : 0 < n) : ∀ (i X Y Z : Nat), lad n a x y k fin i X Y Z = true → ∃ X' Y' Z', fin X' Y' Z' = true ∧
    ∀ (p:Nat) [NeZero p],p ∣ n→Crv (c p a) (c p b)→On (c p a) (c p b) (.aff (c p x) (c p y))→RZ (c p X) (c p Y) (c p Z) (pmul (c p a) (.aff (c p x) (c p y)) (k >>> i))→RZ (c p X') (c p Y') (c p Z') (pmul (c p a) (.aff (c p x) (c p y)) k)
  | 0,X,Y,Z,h=>⟨X,Y,Z,h,fun p _ _ _ _ hr=>by simpa using hr⟩
  | i+1,X,Y,Z,h=>by
    have hlt:∀ z,z%n≤n:=fun z=>Nat.le_of_lt (Nat.mod_lt _ hn)
    obtain ⟨W,hW⟩:∃ W,W = (3*X*X+a*(Z*Z))%n:=⟨_,rfl⟩
    obtain ⟨S,hS⟩:∃ S,S = 2*Y*Z%n:=⟨_,rfl⟩
    obtain ⟨B,hB⟩:∃ B,B = X*Y%n*S%n:=⟨_,rfl⟩
    obtain ⟨E,hE⟩:∃ E,E = Y*S%n:=⟨_,rfl⟩
    obtain ⟨X1,hX1⟩:∃ X1,X1 = S*(W*W+4*(n-B))%n:=⟨_,rfl⟩
    obtain ⟨Y1,hY1⟩:∃ Y1,Y1 = (W*(6*B+(n-W)*W)+2*(n-E)*E)%n:=⟨_,rfl⟩
    obtain ⟨Z1,hZ1⟩:∃ Z1,Z1 = S*S%n*S%n:=⟨_,rfl⟩
    obtain ⟨u,hu⟩:∃ u,u = (y*Z1+(n-Y1))%n:=⟨_,rfl⟩
    obtain ⟨v,hv⟩:∃ v,v = (x*Z1+(n-X1))%n:=⟨_,rfl⟩
    obtain ⟨vv,hvv⟩:∃ vv,vv = v*v%n:=⟨_,rfl⟩
    obtain ⟨v3,hv3⟩:∃ v3,v3 = vv*v%n:=⟨_,rfl⟩
    obtain ⟨R,hR⟩:∃ R,R = vv*X1%n:=⟨_,rfl⟩
    obtain ⟨A,hA⟩:∃ A,A = (u*u%n*Z1+(n-v3)+2*(n-R))%n:=⟨_,rfl⟩
    rw [lad_succ n a x y k fin i X Y Z W S B E X1 Y1 Z1 u v vv v3 R A hW hS hB hE hX1 hY1 hZ1 hu hv hvv hv3 hR hA] at h
    have key1 : ∀ (p : Nat) [NeZero p], p ∣ n → Crv (c p a) (c p b) → On (c p a) (c p b) (.aff (c p x) (c p y)) → RZ (c p X) (c p Y) (c p Z) (pmul (c p a) (.aff (c p x) (c p y)) (k >>> (i + 1))) →
        RZ (c p X1) (c p Y1) (c p Z1) (pmul (c p a) (.aff (c p x) (c p y)) (k >>> (i+1)+k >>> (i+1))):=by
      intro p _ hp hc hP hr
      rw [pmul_add hc hP]
      have h1:=RZ.dbl (W:=c p W) (S:=c p S) hc.fld (pmul_on hc.fld hP _) hr (by rw [hW,c_mod hp]; simp only [c_add,c_mul,c_three]) (by rw [hS,c_mod hp]; simp only [c_mul,c_two])
      have eB:c p B = c p X*c p Y*c p S:=by rw [hB,c_mod hp,c_mul,c_mod hp,c_mul]
      have eE:c p E = c p Y*c p S:=by rw [hE,c_mod hp,c_mul]
      have e1:c p X1 = c p S*(c p W*c p W-4*(c p X*c p Y*c p S)):=by
        rw [hX1,c_mod hp]; simp only [c_add,c_mul,c_four,c_sub hp (show B≤n by rw [hB]; exact hlt _),eB]
        clear h1 eB eE hr hP; grind -lia
      have e2:c p Y1 = c p W*(6*(c p X*c p Y*c p S)-c p W*c p W)-2*(c p Y*c p S)*(c p Y*c p S):=by
        rw [hY1,c_mod hp]; simp only [c_add,c_mul,c_six,c_two,c_sub hp (show W≤n by rw [hW]; exact hlt _),c_sub hp (show E≤n by rw [hE]; exact hlt _),eB,eE]
        clear h1 eB eE hr hP e1; grind -lia
      have e3:c p Z1 = c p S*c p S*c p S:=by rw [hZ1,c_mod hp,c_mul,c_mod hp,c_mul]
      rw [e1,e2,e3]
      exact h1
    have hsh:k >>> i = k >>> (i+1)+k >>> (i+1)+(if k.testBit i then 1 else 0):=by
      have e1:k >>> (i+1) = k >>> i/2:=by rw [Nat.shiftRight_add]; rfl
      have e2:k.testBit i = decide (k >>> i%2 = 1):=by rw [Nat.testBit_eq_decide_div_mod_eq,Nat.shiftRight_eq_div_pow]
      rw [e1,e2]
      generalize k >>> i = z
      have:=Nat.mod_two_eq_zero_or_one z
      have:=Nat.div_add_mod z 2
      by_cases hz:z%2 = 1
      · rw [if_pos (by rw [hz]; rfl)]; omega
      · rw [if_neg (by simp [hz])]; omega
    by_cases hb:k.testBit i = true
    · rw [if_pos hb] at h hsh
      obtain ⟨X',Y',Z',hf,hk⟩:=lad_spec hn i _ _ _ h
      refine ⟨X',Y',Z',hf,fun p _ hp hc hP hr=>hk p hp hc hP ?_⟩
      have h1:=key1 p hp hc hP hr
      rw [hsh,pmul_add hc hP,pmul_one hc.fld hP]
      have h2:=RZ.add (u:=c p u) (v:=c p v) hc.fld (pmul_on hc.fld hP _) hP h1 (by rw [hu,c_mod hp]; simp only [c_add,c_mul,c_sub hp (show Y1≤n by rw [hY1]; exact hlt _)]; clear h1 hr hP; grind -lia)
        (by rw [hv,c_mod hp]; simp only [c_add,c_mul,c_sub hp (show X1≤n by rw [hX1]; exact hlt _)]; clear h1 hr hP; grind -lia)
      have evv:c p vv = c p v*c p v:=by rw [hvv,c_mod hp,c_mul]
      have ev3:c p v3 = c p v*c p v*c p v:=by rw [hv3,c_mod hp,c_mul,evv]
      have eR:c p R = c p v*c p v*c p X1:=by rw [hR,c_mod hp,c_mul,evv]
      have eA:c p A = c p u*c p u*c p Z1-c p v*c p v*c p v-2*(c p v*c p v*c p X1):=by
        rw [hA,c_mod hp]; simp only [c_add,c_mul,c_mod hp,c_two,c_sub hp (show v3≤n by rw [hv3]; exact hlt _),c_sub hp (show R≤n by rw [hR]; exact hlt _),ev3,eR]
        clear h1 h2 hr hP evv ev3 eR; grind -lia
      have e1:c p (v*A%n) = c p v*(c p u*c p u*c p Z1-c p v*c p v*c p v-2*(c p v*c p v*c p X1)):=by rw [c_mod hp,c_mul,eA]
      have e2:c p ((u*(R+(n-A))+(n-v3)*Y1)%n) = c p u*(c p v*c p v*c p X1-(c p u*c p u*c p Z1-c p v*c p v*c p v-2*(c p v*c p v*c p X1)))-c p v*c p v*c p v*c p Y1:=by
        rw [c_mod hp]; simp only [c_add,c_mul,c_sub hp (show A≤n by rw [hA]; exact hlt _),c_sub hp (show v3≤n by rw [hv3]; exact hlt _),ev3,eR,eA]
        clear h1 h2 hr hP evv ev3 eR eA e1; grind -lia
      have e3:c p (v3*Z1%n) = c p v*c p v*c p v*c p Z1:=by rw [c_mod hp,c_mul,ev3]
      rw [e1,e2,e3]
      exact h2
    · rw [if_neg hb] at h hsh
      obtain ⟨X',Y',Z',hf,hk⟩:=lad_spec hn i _ _ _ h
      refine ⟨X',Y',Z',hf,fun p _ hp hc hP hr=>hk p hp hc hP ?_⟩
      rw [hsh,Nat.add_zero]
      exact key1 p hp hc hP hr
noncomputable def gkOK (n a b x y q l:Nat):Bool :=
  Nat.ble 2 n && Nat.beq (Nat.gcd 6 n) 1 && Nat.beq (Nat.gcd (4*(a*(a*a))+27*(b*b)) n) 1 && Nat.beq (y*y%n) ((x*x*x+a*x+b)%n) && Nat.ble (4*n+1) ((q-1)*(q-1)) && Nat.beq ((q-1) >>> l) 1 &&
    lad n a x y (q-1) (fun X Y Z=>Nat.beq (Nat.gcd Z n) 1 && Nat.beq (X%n) (x*Z%n) && Nat.beq ((Y+y*Z)%n) 0) l x y 1
theorem prime_of {n:Nat} (hn:1<n) (h:∀ p,Pr p→p ∣ n→n<p*p):Pr n:=by
  refine ⟨hn,fun d hd=>?_⟩
  refine Classical.byContradiction fun hne=>?_
  have hd0:d≠0:=fun e=>by rw [e] at hd; have:=Nat.eq_zero_of_zero_dvd hd; omega
  have hd2:2≤d:=by omega
  have least:∃ e,(2≤e∧e ∣ n)∧∀ f,2≤f→f ∣ n→e≤f:=by
    have main:∀ m e,e≤m→2≤e→e ∣ n→∃ e,(2≤e∧e ∣ n)∧∀ f,2≤f→f ∣ n→e≤f:=by
      intro m
      induction m with
      | zero=>intro e h1 h2; omega
      | succ m ih =>
        intro e h1 h2 h3
        by_cases hx:∃ f,2≤f∧f ∣ n∧f<e
        · obtain ⟨f,f1,f2,f3⟩:=hx
          exact ih f (by omega) f1 f2
        · exact ⟨e,⟨h2,h3⟩,fun f f1 f2=>Nat.le_of_not_lt fun f3=>hx ⟨f,f1,f2,f3⟩⟩
    exact main d d (Nat.le_refl _) hd2 hd
  obtain ⟨e,⟨e1,e2⟩,e3⟩:=least
  have hp:Pr e:=⟨e1,fun f hf=>by
    have hf0:f≠0:=fun z=>by rw [z] at hf; have:=Nat.eq_zero_of_zero_dvd hf; omega
    by_cases h1:f = 1
    · exact .inl h1
    · have h2:=e3 f (by omega) (Nat.dvd_trans hf e2)
      have h3:=Nat.le_of_dvd (by omega) hf
      exact .inr (by omega)⟩
  have h1:=h e hp e2
  obtain ⟨g,rfl⟩:=hd
  have hg2:2≤g:=by
    have:g≠0:=fun z=>by rw [z] at hn; omega
    have:g≠1:=fun z=>by rw [z] at hne; omega
    omega
  have h2:=e3 d hd2 (Nat.dvd_mul_right d g)
  have h3:=e3 g hg2 (Nat.dvd_mul_left g d)
  have:=Nat.mul_le_mul h2 h3
  omega
theorem crv_of {n a b p:Nat} [NeZero p] (hp:Pr p) (hd:p ∣ n) (h6:Nat.gcd 6 n = 1) (hg:Nat.gcd (4*(a*(a*a))+27*(b*b)) n = 1):Crv (c p a) (c p b):=by
  have no:∀ z,Nat.gcd z n = 1→¬ p ∣ z:=fun z hz hpz=>by
    have:=Nat.dvd_gcd hpz hd
    rw [hz] at this
    have:=Nat.le_of_dvd (by decide) this
    have:=hp.1
    omega
  have h2:p≠2:=fun e=>no 6 h6 (by rw [e]; decide)
  refine ⟨hp.fld h2,fun x hx h3=>no _ hg (c_zero_iff.1 ?_)⟩
  simp only [On] at hx
  have e4:c p (4*(a*(a*a))+27*(b*b)) = 4*(c p a*(c p a*c p a))+27*(c p b*c p b):=by simp only [c_add,c_mul]; rfl
  rw [e4]
  generalize c p a = A at *
  generalize c p b = B at *
  have hA:A = -(x*x+x*x+x*x):=eq_of_sub (lin1 (c1:=1) (by clear hx h3 e4; grind -lia) h3)
  subst hA
  have hB:B = x*x*x+x*x*x:=eq_of_sub (lin1 (c1:=-1) (by clear hx h3 e4; grind -lia) hx)
  subst hB
  clear hx h3 e4
  grind -lia
theorem beq_eq {i j:Nat} (h:Nat.beq i j = true):i = j:=Nat.eq_of_beq_eq_true h
theorem gk_mul {n a b x y q l:Nat} (h:gkOK n a b x y q l = true) (hn:0<n):∀ (p:Nat) [NeZero p],Pr p→p ∣ n→Crv (c p a) (c p b)∧On (c p a) (c p b) (.aff (c p x) (c p y))∧pmul (c p a) (.aff (c p x) (c p y)) q = .inf:=by
  intro p _ hp hd
  simp only [gkOK,Bool.and_eq_true] at h
  obtain ⟨⟨⟨⟨⟨⟨_,h1⟩,h2⟩,h3⟩,h4⟩,h5⟩,h6⟩:=h
  have hc:=crv_of hp hd (beq_eq h1) (beq_eq h2)
  have hP:On (c p a) (c p b) (.aff (c p x) (c p y)):=by
    have:=congrArg (c p) (beq_eq h3)
    rw [c_mod hd,c_mod hd] at this
    simp only [c_add,c_mul] at this
    exact sub_of_eq this
  refine ⟨hc,hP,?_⟩
  obtain ⟨X,Y,Z,hf,hk⟩:=lad_spec (b:=b) hn _ _ _ _ h6
  simp only [Bool.and_eq_true] at hf
  obtain ⟨⟨f1,f2⟩,f3⟩:=hf
  have hZ:c p Z≠0:=fun e=>by
    have h1:=Nat.dvd_gcd (c_zero_iff.1 e) hd
    rw [beq_eq f1] at h1
    have h2:=Nat.le_of_dvd (by decide) h1
    have h3:=hp.1
    omega
  have hr:=hk p hd hc hP (by
    rw [beq_eq h5,pmul_one hc.fld hP]
    intro _
    refine ⟨_,_,rfl,?_,?_⟩ <;> rw [c_one] <;> grind -lia)
  obtain ⟨x',y',e1,e2,e3⟩:=hr hZ
  have g2:=congrArg (c p) (beq_eq f2)
  rw [c_mod hd,c_mod hd,c_mul,e2] at g2
  have g3:=congrArg (c p) (beq_eq f3)
  rw [c_mod hd,c_add,c_mul,e3] at g3
  have hx:x' = c p x:=hc.fld.dom.cancel hZ (lin1 (c1:=1) (by clear g2 g3 e1 e2 e3 hZ hk hP; grind -lia) (sub_of_eq g2))
  have hy:y' = -c p y:=hc.fld.dom.cancel hZ (lin1 (c1:=1) (by clear g2 g3 e1 e2 e3 hZ hk hP hx; grind -lia) (show y'*c p Z+c p y*c p Z = 0 from g3))
  have hq:q = q-1+1:=by
    have:q≠0:=fun e=>by rw [e] at h5; simp at h5
    omega
  rw [hq]
  show padd (c p a) (pmul _ _ (q-1)) _ = _
  rw [e1,hx,hy]
  exact (padd_comm hc.fld (neg_on hP) hP).trans (padd_neg hc.fld hP)
theorem gk {n a b x y q l:Nat} (h:gkOK n a b x y q l = true) (hq:Pr q):Pr n:=by
  have h':=h
  simp only [gkOK,Bool.and_eq_true] at h'
  obtain ⟨⟨⟨⟨⟨⟨h0,h1⟩,h2⟩,h3⟩,h4⟩,h5⟩,h6⟩:=h'
  have h4:=Nb h4
  have hn2:=Nb h0
  · refine prime_of hn2 fun p hp hd=>?_
    have:NeZero p:=⟨by have:=hp.1; omega⟩
    obtain ⟨hc,hP,hm⟩:=gk_mul h (by omega) p hp hd
    have:=order_le hc hP hq (fun e=>by cases e) hm
    refine Nat.lt_of_not_le fun hle=>?_
    have h7:(q-1)*(q-1)≤(2*p)*(2*p):=Nat.mul_le_mul (by omega) (by omega)
    have h8:(2*p)*(2*p) = 4*(p*p):=by rw [Nat.mul_mul_mul_comm]
    omega
end
end Go.Proofs.Ytlmiolnccgjjjaa.Grp
set_option linter.unusedVariables false
set_option linter.unusedSectionVars false
namespace Go.Proofs.Ytlmiolnccgjjjaa.Grp
section
variable {p:Nat} [NeZero p]
def fpow (x:Fin p):Nat→Fin p
  | 0=>1
  | k+1=>fpow x k*x
theorem fpow_one (x:Fin p):fpow x 1 = x:=by show (1:Fin p)*x = x; grind -lia
theorem fpow_add (x:Fin p) (i:Nat):∀ j,fpow x (i+j) = fpow x i*fpow x j
  | 0=>by show fpow x i = fpow x i*1; grind -lia
  | j+1=>by
    show fpow x (i+j)*x = fpow x i*(fpow x j*x)
    rw [fpow_add x i j]; grind -lia
theorem fpow_mul (x:Fin p) (i:Nat):∀ j,fpow x (i*j) = fpow (fpow x i) j
  | 0=>rfl
  | j+1=>by
    rw [Nat.mul_succ,fpow_add,fpow_mul x i j]; rfl
theorem mul_fpow (x y:Fin p):∀ j,fpow (x*y) j = fpow x j*fpow y j
  | 0=>by show (1:Fin p) = 1*1; grind -lia
  | j+1=>by
    show fpow (x*y) j*(x*y) = fpow x j*x*(fpow y j*y)
    rw [mul_fpow x y j]; grind -lia
def prodL:List (Fin p)→Fin p
  | []=>1
  | x :: l=>x*prodL l
theorem prodL_perm {l m:List (Fin p)} (h:l.Perm m):prodL l = prodL m:=by
  induction h with
  | nil=>rfl
  | cons x _ ih=>simp only [prodL,ih]
  | swap x y l=>simp only [prodL]; grind -lia
  | trans _ _ ih1 ih2=>exact ih1.trans ih2
theorem prodL_map (x:Fin p):∀ l:List (Fin p),prodL (l.map fun y=>x*y) = fpow x l.length*prodL l
  | []=>by show (1:Fin p) = 1*1; grind -lia
  | y :: l=>by
    show x*y*prodL (l.map fun y=>x*y) = fpow x l.length*x*(y*prodL l)
    rw [prodL_map x l]; grind -lia
theorem prodL_ne (hd:Dom p) (h1:(1:Fin p)≠0):∀ l:List (Fin p),(∀ x,x∈l→x≠0)→prodL l≠0
  | [],_=>h1
  | x :: l,h=>hd.mul (h x (.head _)) (prodL_ne hd h1 l fun y hy=>h y (.tail _ hy))
end
theorem one_ne {p:Nat} [NeZero p] (hp:2≤p):(1:Fin p)≠0:=fun e=>by
  have:=congrArg Fin.val e
  rw [Fin.val_zero] at this
  have h1:(1:Fin p).val = 1%p:=rfl
  rw [h1,Nat.mod_eq_of_lt (by omega)] at this
  cases this
theorem fermat {p:Nat} [NeZero p] (h:Fld p) (hp:2≤p) {x:Fin p} (hx:x≠0):fpow x (p-1) = 1:=by
  obtain ⟨k,rfl⟩:∃ k,p = k+1:=⟨p-1,by omega⟩
  have hd:=h.dom
  obtain ⟨xi,hxi⟩:=h.inv x hx
  have hU:∀ y:Fin (k+1),y∈(List.finRange k).map Fin.succ↔y≠0:=fun y=>by
    constructor
    · intro hy e
      obtain ⟨z,_,hz⟩:=List.mem_map.1 hy
      exact Fin.succ_ne_zero z (hz.trans e)
    · intro hy
      obtain ⟨z,hz⟩:∃ z:Fin k,z.succ = y:=⟨y.pred hy,Fin.succ_pred y hy⟩
      exact List.mem_map.2 ⟨z,List.mem_finRange z,hz⟩
  have hn:((List.finRange k).map Fin.succ).Nodup:=by
    have:=List.nodup_finRange (k+1)
    rw [List.finRange_succ] at this
    exact (List.nodup_cons.1 this).2
  have hcan:∀ y z:Fin (k+1),x*y = x*z→y = z:=fun y z e=>by
    have:(y-z)*x = 0:=lin1 (c1:=1) (by clear hU hn hxi e; grind -lia) (sub_of_eq e)
    exact hd.cancel hx this
  have hn2:(((List.finRange k).map Fin.succ).map fun y=>x*y).Nodup:=by
    rw [List.nodup_iff_pairwise_ne] at hn ⊢
    exact List.Pairwise.map _ (fun y z hne e=>hne (hcan y z e)) hn
  have hperm:(((List.finRange k).map Fin.succ).map fun y=>x*y).Perm ((List.finRange k).map Fin.succ):=by
    rw [List.perm_ext_iff_of_nodup hn2 hn]
    intro y
    rw [hU]
    constructor
    · intro hy e
      obtain ⟨z,hz,e2⟩:=List.mem_map.1 hy
      exact hd.mul hx ((hU z).1 hz) (e2.trans e)
    · intro hy
      refine List.mem_map.2 ⟨xi*y,(hU _).2 ?_,?_⟩
      · refine hd.mul (fun e=>?_) hy
        rw [e] at hxi
        exact one_ne hp (by rw [← hxi]; clear hU hn hcan hn2 hxi; grind -lia)
      · have:x*(xi*y) = x*xi*y:=by clear hU hn hcan hn2 hxi; grind -lia
        rw [this,hxi]; clear this hU hn hcan hn2 hxi; grind -lia
  have e:=prodL_perm hperm
  rw [prodL_map,List.length_map,List.length_finRange] at e
  have hP:=prodL_ne hd (one_ne hp) _ fun y hy=>(hU y).1 hy
  generalize prodL ((List.finRange k).map Fin.succ) = P at e hP
  rw [Nat.add_sub_cancel]
  exact hd.cancel hP (lin1 (c1:=1) (by clear hU hn hcan hn2 hperm hxi hP e; grind -lia) (sub_of_eq e))
theorem fermat' {p:Nat} [NeZero p] (h:Fld p) (hp:2≤p) (x:Fin p):fpow x p = x:=by
  by_cases hx:x = 0
  · obtain ⟨k,rfl⟩:∃ k,p = k+1:=⟨p-1,by omega⟩
    rw [hx]
    show fpow 0 k*0 = 0
    grind -lia
  · have e:=fermat h hp hx
    obtain ⟨k,rfl⟩:∃ k,p = k+1:=⟨p-1,by omega⟩
    show fpow x k*x = x
    rw [Nat.add_sub_cancel] at e
    rw [e]; clear e hx; grind -lia
end Go.Proofs.Ytlmiolnccgjjjaa.Grp
set_option linter.unusedVariables false
set_option linter.unusedSectionVars false
namespace Go.Proofs.Ytlmiolnccgjjjaa.Grp
noncomputable def lad3 (p a b k:Nat) (fin:Nat→Nat→Nat→Bool):Nat→Nat→Nat→Nat→Bool :=
  Nat.rec (motive:=fun _=>Nat→Nat→Nat→Bool) fin (fun i ih A B C =>
    force (A*A%p) fun AA=>force (A*B%p) fun AB =>
    force ((B*B+2*A*C+a*(p-AA))%p) fun A1=>force ((2*B*C+b*(p-AA)+2*a*(p-AB))%p) fun B1=>force ((C*C+2*b*(p-AB))%p) fun C1 =>
    Bool.rec (ih A1 B1 C1) (force ((C1+a*(p-A1))%p) fun B2=>force (b*(p-A1)%p) fun C2=>ih B1 B2 C2) (Nat.testBit k i))
theorem lad3_unf (p a b k : Nat) (fin : Nat → Nat → Nat → Bool) (i A B C : Nat) : lad3 p a b k fin (i + 1) A B C =
    force (A*A%p) fun AA=>force (A*B%p) fun AB =>
    force ((B*B+2*A*C+a*(p-AA))%p) fun A1=>force ((2*B*C+b*(p-AA)+2*a*(p-AB))%p) fun B1=>force ((C*C+2*b*(p-AB))%p) fun C1 =>
    Bool.rec (lad3 p a b k fin i A1 B1 C1) (force ((C1+a*(p-A1))%p) fun B2=>force (b*(p-A1)%p) fun C2=>lad3 p a b k fin i B1 B2 C2) (Nat.testBit k i):=rfl
theorem lad3_succ (p a b k : Nat) (fin : Nat → Nat → Nat → Bool) (i A B C AA AB A1 B1 C1 : Nat) (hAA : AA = A * A % p) (hAB : AB = A * B % p) (hA1 : A1 = (B * B + 2 * A * C + a * (p - AA)) % p) (hB1 : B1 = (2 * B * C + b * (p - AA) + 2 * a * (p - AB)) % p) (hC1 : C1 = (C * C + 2 * b * (p - AB)) % p) :
    lad3 p a b k fin (i+1) A B C = if k.testBit i then lad3 p a b k fin i B1 ((C1+a*(p-A1))%p) (b*(p-A1)%p) else lad3 p a b k fin i A1 B1 C1:=by
  subst hC1 hB1 hA1 hAB hAA
  rw [lad3_unf]
  simp only [force_eq]
  cases k.testBit i <;> rfl
theorem shift_bit (k i:Nat):k >>> i = k >>> (i+1)+k >>> (i+1)+(if k.testBit i then 1 else 0):=by
  have e1:k >>> (i+1) = k >>> i/2:=by rw [Nat.shiftRight_add]; rfl
  have e2:k.testBit i = decide (k >>> i%2 = 1):=by rw [Nat.testBit_eq_decide_div_mod_eq,Nat.shiftRight_eq_div_pow]
  rw [e1,e2]
  generalize k >>> i = z
  have:=Nat.mod_two_eq_zero_or_one z
  have:=Nat.div_add_mod z 2
  by_cases hz:z%2 = 1
  · rw [if_pos (by rw [hz]; rfl)]; omega
  · rw [if_neg (by simp [hz])]; omega
section
variable {p:Nat} [NeZero p]
theorem lad3_spec {a b k : Nat} {fin : Nat → Nat → Nat → Bool} (hp : 0 < p) {r : Fin p} (hr : r * r * r + c p a * r + c p b = 0) : ∀ (i A B C : Nat), lad3 p a b k fin i A B C = true → c p A * (r * r) + c p B * r + c p C = fpow r (k >>> i) →
    ∃ A' B' C',fin A' B' C' = true∧c p A'*(r*r)+c p B'*r+c p C' = fpow r k
  | 0,A,B,C,h,e=>⟨A,B,C,h,by simpa using e⟩
  | i+1,A,B,C,h,e=>by
    have hlt:∀ z,z%p≤p:=fun z=>Nat.le_of_lt (Nat.mod_lt _ hp)
    have hd:p ∣ p:=Nat.dvd_refl p
    obtain ⟨AA,hAA⟩:∃ z,z = A*A%p:=⟨_,rfl⟩
    obtain ⟨AB,hAB⟩:∃ z,z = A*B%p:=⟨_,rfl⟩
    obtain ⟨A1,hA1⟩:∃ z,z = (B*B+2*A*C+a*(p-AA))%p:=⟨_,rfl⟩
    obtain ⟨B1,hB1⟩:∃ z,z = (2*B*C+b*(p-AA)+2*a*(p-AB))%p:=⟨_,rfl⟩
    obtain ⟨C1,hC1⟩:∃ z,z = (C*C+2*b*(p-AB))%p:=⟨_,rfl⟩
    rw [lad3_succ p a b k fin i A B C AA AB A1 B1 C1 hAA hAB hA1 hB1 hC1] at h
    have eAA:c p AA = c p A*c p A:=by rw [hAA,c_mod hd,c_mul]
    have eAB:c p AB = c p A*c p B:=by rw [hAB,c_mod hd,c_mul]
    have eA1:c p A1 = c p B*c p B+2*c p A*c p C-c p a*(c p A*c p A):=by
      rw [hA1,c_mod hd]; simp only [c_add,c_mul,c_two,c_sub hd (show AA≤p by rw [hAA]; exact hlt _),eAA]
      clear eAA eAB hr e; grind -lia
    have eB1:c p B1 = 2*c p B*c p C-c p b*(c p A*c p A)-2*c p a*(c p A*c p B):=by
      rw [hB1,c_mod hd]; simp only [c_add,c_mul,c_two,c_sub hd (show AA≤p by rw [hAA]; exact hlt _),c_sub hd (show AB≤p by rw [hAB]; exact hlt _),eAA,eAB]
      clear eAA eAB hr e eA1; grind -lia
    have eC1:c p C1 = c p C*c p C-2*c p b*(c p A*c p B):=by
      rw [hC1,c_mod hd]; simp only [c_add,c_mul,c_two,c_sub hd (show AB≤p by rw [hAB]; exact hlt _),eAB]
      clear eAA eAB hr e eA1 eB1; grind -lia
    have key:c p A1*(r*r)+c p B1*r+c p C1 = fpow r (k >>> (i+1)+k >>> (i+1)):=by
      rw [fpow_add,← e,eA1,eB1,eC1]
      clear eAA eAB e eA1 eB1 eC1 h
      refine eq_of_sub (lin1 (c1:=-(c p A*c p A*r+2*c p A*c p B)) ?_ hr)
      clear hr; grind -lia
    have hsh:=shift_bit k i
    by_cases hb:k.testBit i = true
    · rw [if_pos hb] at h hsh
      refine lad3_spec hp hr i _ _ _ h ?_
      rw [hsh,fpow_add,← key,fpow_one,c_mod hd,c_mod hd,c_add,c_mul,c_mul,c_sub hd (show A1≤p by rw [hA1]; exact hlt _)]
      generalize c p A1 = A1' at *
      generalize c p B1 = B1' at *
      generalize c p C1 = C1' at *
      clear eAA eAB e eA1 eB1 eC1 h key
      refine eq_of_sub (lin1 (c1:=-A1') ?_ hr)
      clear hr; grind -lia
    · rw [if_neg hb] at h hsh
      rw [Nat.add_zero] at hsh
      exact lad3_spec hp hr i _ _ _ h (by rw [hsh]; exact key)
noncomputable def rootOK (p a b l u1 u0 v2 v1 v0:Nat):Bool:=Nat.beq (p >>> l) 1 &&
  lad3 p a b p (fun A B C=>Nat.beq ((u1+v2*A)%p) 0 && Nat.beq ((u0+v2*(B+(p-1))+v1*A)%p) 0 && Nat.beq ((u1*a+v2*C+v1*(B+(p-1))+v0*A)%p) 0 &&
    Nat.beq ((u1*b+u0*a+v1*C+v0*(B+(p-1)))%p) 0 && Nat.beq ((u0*b+v0*C)%p) 1) l 0 1 0
theorem noroot {a b l u1 u0 v2 v1 v0:Nat} (h:Fld p) (hp:2≤p) (hok:rootOK p a b l u1 u0 v2 v1 v0 = true) (x:Fin p):¬ On (c p a) (c p b) (.aff x 0):=by
  intro hx
  simp only [On] at hx
  have hr:x*x*x+c p a*x+c p b = 0:=lin1 (c1:=-1) (by clear hx; grind -lia) hx
  simp only [rootOK,Bool.and_eq_true] at hok
  obtain ⟨h1,h2⟩:=hok
  obtain ⟨A,B,C,hf,e⟩:=lad3_spec (by omega) hr _ _ _ _ h2 (by
    rw [beq_eq h1,fpow_one,c_one]
    have:c p 0 = 0:=c_zero_iff.2 (Nat.dvd_zero p)
    rw [this]; clear hx hr; grind -lia)
  rw [fermat' h hp] at e
  simp only [Bool.and_eq_true] at hf
  obtain ⟨⟨⟨⟨f1,f2⟩,f3⟩,f4⟩,f5⟩:=hf
  have hd:p ∣ p:=Nat.dvd_refl p
  have z:c p 0 = 0:=c_zero_iff.2 (Nat.dvd_zero p)
  have g1:=congrArg (c p) (beq_eq f1)
  have g2:=congrArg (c p) (beq_eq f2)
  have g3:=congrArg (c p) (beq_eq f3)
  have g4:=congrArg (c p) (beq_eq f4)
  have g5:=congrArg (c p) (beq_eq f5)
  rw [c_mod hd] at g1 g2 g3 g4 g5
  simp only [c_add,c_mul,c_sub hd (show 1≤p by omega),c_one,z] at g1 g2 g3 g4 g5
  generalize c p A = A' at *
  generalize c p B = B' at *
  generalize c p C = C' at *
  generalize c p u1 = U1 at *
  generalize c p u0 = U0 at *
  generalize c p v2 = V2 at *
  generalize c p v1 = V1 at *
  generalize c p v0 = V0 at *
  generalize c p a = a' at *
  generalize c p b = b' at *
  clear h1 h2 f1 f2 f3 f4 f5 hx
  apply one_ne hp
  have s1:=lin4 (c1:=x*x*x*x) (c2:=x*x*x) (c3:=x*x) (c4:=x) rfl g1 g2 g3 g4
  have s2:=lin2 (c1:=U1*x+U0) (c2:=V2*(x*x)+V1*x+V0) rfl hr (sub_of_eq e)
  have s3:=sub_of_eq g5
  refine lin3 (c1:=1) (c2:=-1) (c3:=-1) ?_ s2 s1 s3
  clear s1 s2 s3 g1 g2 g3 g4 g5 e hr z
  grind -lia
end
end Go.Proofs.Ytlmiolnccgjjjaa.Grp
