/- Part 2 of what the proof leans on: a symbolic execution of the model, walks of the program's functions, and the mathematics. No condition. -/
import Derived.WalkKit
import Derived.Orders
import Derived.Laws.StructEq
import Derived.WalkSpells
import Derived.OrdersHeld
import Derived.KernelRfl
import Derived.Laws.Externs
import Derived.Laws.Bits64
import Derived.Laws.MakeOwn
import Derived.Laws.BytesString
import Derived.Carry
import Derived.WideShapes
import GoSem.Claim
import Derived.Test.YtljblbgogjieaaaProg
import Derived.Laws.AppendOwn
import Derived.Test.YtljblbgogjieaaaRows
import Derived.ProofKit
import Derived.OpenShut
import Derived.Test.YtljblbgogjieaaaJ1
set_option linter.unusedVariables false
set_option linter.unusedSimpArgs false
set_option maxRecDepth 20000
namespace Go.Proofs.Ytljblbgogjieaaa
open Go Go.RowKit
theorem c_nat_Add (A B:Nat) (hA:A<W9) (hB:B<W9) (w:World)  : Calls Try.prog 174 ([natV A,natV B]:List Value).toArray w (fun e w'=>e = .returned (.tuple #[natV ((A+B)%W9),.bool (decide (W9≤A+B))])∧Below w.heap.size w w'):=by
  refine Kw (N:=31) (rs:=[.cell 4 25,.tmp 5]) [] Try.func174 rfl Try.ntmps174 Try.results174 (Nb rfl) trivial rfl ?_
  show LCode _ _ _ ⟨_,_⟩ _
  refine KD (KB ?_)
  refine KK rfl (KX (KQ (Ks rfl) (Nb rfl) (fun b2=>?_)))
  refine KK rfl (KX (KQ (Ks rfl) (Nb rfl) (fun b3=>?_)))
  refine KK rfl (KX (KQ (Kd zr_25) (Nb rfl) (fun b4=>?_)))
  refine KA (KH rfl) (Nb rfl) ?_
  refine KG ?_
  refine KD (KB ?_)
  refine KA (KH (v:=.int .u64 ((0:Nat):Int)) rfl) (Nb rfl) ?_
  refine KG ?_
  refine KD ?_
  refine KD (KB ?_)
  refine KA (KE (v:=.int .i64 ((0:Nat):Int)) rfl) (Nb rfl) ?_
  refine KG ?_
  refine LCode.block ?_
  refine KAQ (α:=Nat) (fun x=>x≤9) (fun x=>⟨[(2,.pointer (some ⟨b2,0,none⟩)),(3,.pointer (some ⟨b3,0,none⟩)),(4,.pointer (some ⟨b4,0,none⟩)),(6,.int .u64 ((carry A B x:Nat):Int)),(8,.int .i64 ((x:Nat):Int))],[.blk b4 ⟨true,vec .u64 9 (fun _=>0),25,(0,0)⟩,.blk b3 ⟨true,natL B,25,(0,0)⟩,.blk b2 ⟨true,vec .u64 9 (fun j=>if j<x then limb (A+B) j else limb A j),25,(0,0)⟩]⟩) (fun x=>9-x) (0) (by omega) (KAF ⟨rfl,rfl,rfl,by rw [carry_zero]; rfl,rfl,trivial⟩ (by repeat (first|exact Sel.nil _|refine Sel.cons (by repeat (first|exact Ph _|apply Pt_)) ?_))) ?_
  intro x hx
  have hc:=carry_le A B x
  have ha:=add_limb A B x
  have hl:=limb_lt (A+B) x
  refine KD (KB ?_)
  refine KA (KP rfl rfl (br_lss (b:=9))) (Nb rfl) ?_
  refine KG ?_
  refine KD ?_
  first|refine Kf rfl (fun h9=>?_) (fun h9=>?_)|refine Ki rfl (fun h9=>?_) (fun h9=>?_)
  ·
    have h9:x<9:=h9
    refine Km ?_
    refine KD ?_
    refine LCode.block ?_
    refine KD (KB ?_)
    refine KA (KE rfl) (Nb rfl) ?_
    refine KA (KH rfl) (Nb rfl) ?_
    refine KG ?_
    refine Ka [16] (by kernel_rfl) ?_
    refine KC 0 rfl (by kernel_rfl) (Nb rfl) (KE rfl) ?_
    refine KC 1 rfl (by kernel_rfl) (Nb rfl) (KE rfl) ?_
    refine KC 2 rfl (by kernel_rfl) (Nb rfl) (KN (o':=0) Try.underlying25 rfl rfl rfl sz_23 (by decide)) ?_
    refine KC 3 rfl (by kernel_rfl) (Nb rfl) (Kv Try.underlying23 sz_22 rfl rfl (by omega)) ?_
    refine LAny.take 4 rfl (by kernel_rfl) (Nb rfl) (KM rfl (by repeat (first|exact Mh _|apply Mt)) (Kc Try.underlying22 rfl (by exact KAG _ _ _ (by omega)))) ?_
    refine KC 5 rfl (by kernel_rfl) (Nb rfl) (KE rfl) ?_
    refine KC 6 rfl (by kernel_rfl) (Nb rfl) (KN (o':=0) Try.underlying25 rfl rfl rfl sz_23 (by decide)) ?_
    refine KC 7 rfl (by kernel_rfl) (Nb rfl) (Kv Try.underlying23 sz_22 rfl rfl (by omega)) ?_
    refine LAny.take 8 rfl (by kernel_rfl) (Nb rfl) (KM rfl (by repeat (first|exact Mh _|apply Mt)) (Kc Try.underlying22 rfl (by exact KAD _ (by omega)))) ?_
    refine KC 9 rfl (by kernel_rfl) (Nb rfl) (KE rfl) ?_
    refine KC 10 rfl (by kernel_rfl) (Nb rfl) (Det.add64 ex_184 rfl rfl rfl (by omega)) ?_
    refine KC 11 rfl (by kernel_rfl) (Nb rfl) (KE rfl) ?_
    refine KC 12 rfl (by kernel_rfl) (Nb rfl) (Kj rfl rfl) ?_
    refine KC 13 rfl (by kernel_rfl) (Nb rfl) (Kj rfl rfl) ?_
    refine KC 14 rfl (by kernel_rfl) (Nb rfl) (KN (o':=0) Try.underlying25 rfl rfl rfl sz_23 (by decide)) ?_
    refine KC 15 rfl (by kernel_rfl) (Nb rfl) (Kv Try.underlying23 sz_22 rfl rfl (by omega)) ?_
    refine Kn 16 rfl rfl (by kernel_rfl) (by kernel_rfl) (KAC rfl rfl rfl sz_22 (by repeat (first|exact Sh _|apply St_)) (by first|(simp only [KJ,KF,KI,KAO]; omega)|(simp; omega)) (by first|exact vec_set _ _ _ _ _|exact dv_setm _ _ _ _ (by omega)|exact dv_sets _ _ _ _|rfl) (by simp) ?_)
    refine KC 17 rfl (by kernel_rfl) (Nb rfl) (KH rfl) ?_
    refine Ko (by kernel_rfl) ?_
    refine KB ?_
    refine KA (KP rfl rfl (KAT (b:=1) (by omega))) (Nb rfl) ?_
    refine KA (KE rfl) (Nb rfl) ?_
    refine KG ?_
    refine ⟨x+1,by omega,by omega,Sub.re (Sub.cells (b:=b2) (cs':=vec .u64 9 (fun j=>if j<x+1 then limb (A+B) j else limb A j)) (by repeat (first|exact Sh _|apply St_)) ?_) (KAF ⟨rfl,rfl,rfl,congrArg (fun n:Nat=>some (Value.int .u64 (n:Int))) ?_,rfl,trivial⟩ (by repeat (first|exact Sel.nil _|refine Sel.cons (by repeat (first|exact Ph _|apply Pt_)) ?_)))⟩
    · apply KAS
      intro j hj
      by_cases e:j = x
      · subst e
        simp
        omega
      · simp only [e,if_false]
        by_cases e2:j<x
        · rw [if_pos e2,if_pos (by omega)]
        · rw [if_neg e2,if_neg (by omega)]
    · simp
      omega
  ·
    have h9:¬ x<9:=h9
    refine KAI ?_
    refine KD (KB ?_)
    refine LOps.det (KM rfl (by repeat (first|exact Mh _|apply Mt)) (by exact KL Try.underlying25 rfl sz_25)) (Nb rfl) ?_
    refine KA (KE rfl) (Nb rfl) ?_
    refine KA (KP rfl rfl (br_eql (b:=1))) (Nb rfl) ?_
    refine KK rfl (KO rfl rfl sz_25 (by repeat (first|exact Kg _|exact Kr _ _ _|exact Kh _|exact Kl _ _ _|exact Kq _ _ _|exact KV|refine KR rfl ?_|refine KT ?_ ?_)) (by repeat (first|exact Sh _|apply St_)) (by first|exact KF _|exact KJ _ _ _|exact KI _|exact KS _ _ _|exact KZ _ _ _|rfl|simp [KJ,KF,KI]) ?_)
    refine KA (KH rfl) (Nb rfl) ?_
    refine KG (KY ?_)
    obtain rfl:x = 9:=by omega
    refine ⟨[_,_],.cons ⟨_,_,_,rfl,(by repeat (first|exact Mh _|apply Mt)),by exact KL Try.underlying25 rfl sz_25⟩ (.cons rfl .nil),fun a w' hr=>⟨?_,hr.fr.below⟩⟩
    rw [natV_mod]
    have h1:(vec IntKind.u64 9 fun j=>if j<9 then limb (A+B) j else limb A j) = natL (A+B):=KAS (fun i hi=>if_pos hi)
    have h2:decide (carry A B 9 = 1) = decide (W9≤A+B):=by
      rw [carry_nine A B 9 rfl hA hB]
      by_cases h:W9≤A+B <;> simp [h]
    show Ending.returned (.tuple #[.agg (vec IntKind.u64 9 fun j=>if j<9 then limb (A+B) j else limb A j).toArray,.bool (decide (carry A B 9 = 1))]) = _
    rw [h1,h2]
    rfl
theorem c_nat_Sub (A B:Nat) (hA:A<W9) (hB:B<W9) (w:World)  : Calls Try.prog 149 ([natV A,natV B]:List Value).toArray w (fun e w'=>e = .returned (.tuple #[natV (dif A B),.bool (decide (A<B))])∧Below w.heap.size w w'):=by
  refine Kw (N:=31) (rs:=[.cell 4 25,.tmp 5]) [] Try.func149 rfl Try.ntmps149 Try.results149 (Nb rfl) trivial rfl ?_
  show LCode _ _ _ ⟨_,_⟩ _
  refine KD (KB ?_)
  refine KK rfl (KX (KQ (Ks rfl) (Nb rfl) (fun b2=>?_)))
  refine KK rfl (KX (KQ (Ks rfl) (Nb rfl) (fun b3=>?_)))
  refine KK rfl (KX (KQ (Kd zr_25) (Nb rfl) (fun b4=>?_)))
  refine KA (KH rfl) (Nb rfl) ?_
  refine KG ?_
  refine KD (KB ?_)
  refine KA (KH (v:=.int .u64 ((0:Nat):Int)) rfl) (Nb rfl) ?_
  refine KG ?_
  refine KD ?_
  refine KD (KB ?_)
  refine KA (KE (v:=.int .i64 ((0:Nat):Int)) rfl) (Nb rfl) ?_
  refine KG ?_
  refine LCode.block ?_
  refine KAQ (α:=Nat) (fun x=>x≤9) (fun x=>⟨[(2,.pointer (some ⟨b2,0,none⟩)),(3,.pointer (some ⟨b3,0,none⟩)),(4,.pointer (some ⟨b4,0,none⟩)),(6,.int .u64 ((borrow A B x:Nat):Int)),(8,.int .i64 ((x:Nat):Int))],[.blk b4 ⟨true,vec .u64 9 (fun _=>0),25,(0,0)⟩,.blk b3 ⟨true,natL B,25,(0,0)⟩,.blk b2 ⟨true,vec .u64 9 (fun j=>if j<x then limb (dif A B) j else limb A j),25,(0,0)⟩]⟩) (fun x=>9-x) (0) (by omega) (KAF ⟨rfl,rfl,rfl,by rw [borrow_zero]; rfl,rfl,trivial⟩ (by repeat (first|exact Sel.nil _|refine Sel.cons (by repeat (first|exact Ph _|apply Pt_)) ?_))) ?_
  intro x hx
  have hc:=borrow_le A B x
  refine KD (KB ?_)
  refine KA (KP rfl rfl (br_lss (b:=9))) (Nb rfl) ?_
  refine KG ?_
  refine KD ?_
  first|refine Kf rfl (fun h9=>?_) (fun h9=>?_)|refine Ki rfl (fun h9=>?_) (fun h9=>?_)
  ·
    have h9:x<9:=h9
    have ha:=sub_limb A B x hA hB h9
    have hb:=borrow_succ A B x
    refine Km ?_
    refine KD ?_
    refine LCode.block ?_
    refine KD (KB ?_)
    refine KA (KE rfl) (Nb rfl) ?_
    refine KA (KH rfl) (Nb rfl) ?_
    refine KG ?_
    refine Ka [16] (by kernel_rfl) ?_
    refine KC 0 rfl (by kernel_rfl) (Nb rfl) (KE rfl) ?_
    refine KC 1 rfl (by kernel_rfl) (Nb rfl) (KE rfl) ?_
    refine KC 2 rfl (by kernel_rfl) (Nb rfl) (KN (o':=0) Try.underlying25 rfl rfl rfl sz_23 (by decide)) ?_
    refine KC 3 rfl (by kernel_rfl) (Nb rfl) (Kv Try.underlying23 sz_22 rfl rfl (by omega)) ?_
    refine LAny.take 4 rfl (by kernel_rfl) (Nb rfl) (KM rfl (by repeat (first|exact Mh _|apply Mt)) (Kc Try.underlying22 rfl (by exact KAG _ _ _ (by omega)))) ?_
    refine KC 5 rfl (by kernel_rfl) (Nb rfl) (KE rfl) ?_
    refine KC 6 rfl (by kernel_rfl) (Nb rfl) (KN (o':=0) Try.underlying25 rfl rfl rfl sz_23 (by decide)) ?_
    refine KC 7 rfl (by kernel_rfl) (Nb rfl) (Kv Try.underlying23 sz_22 rfl rfl (by omega)) ?_
    refine LAny.take 8 rfl (by kernel_rfl) (Nb rfl) (KM rfl (by repeat (first|exact Mh _|apply Mt)) (Kc Try.underlying22 rfl (by exact KAD _ (by omega)))) ?_
    refine KC 9 rfl (by kernel_rfl) (Nb rfl) (KE rfl) ?_
    refine KC 10 rfl (by kernel_rfl) (Nb rfl) (Det.sub64 ex_171 rfl rfl rfl (by omega)) ?_
    refine KC 11 rfl (by kernel_rfl) (Nb rfl) (KE rfl) ?_
    refine KC 12 rfl (by kernel_rfl) (Nb rfl) (Kj rfl rfl) ?_
    refine KC 13 rfl (by kernel_rfl) (Nb rfl) (Kj rfl rfl) ?_
    refine KC 14 rfl (by kernel_rfl) (Nb rfl) (KN (o':=0) Try.underlying25 rfl rfl rfl sz_23 (by decide)) ?_
    refine KC 15 rfl (by kernel_rfl) (Nb rfl) (Kv Try.underlying23 sz_22 rfl rfl (by omega)) ?_
    refine Kn 16 rfl rfl (by kernel_rfl) (by kernel_rfl) (KAC rfl rfl rfl sz_22 (by repeat (first|exact Sh _|apply St_)) (by first|(simp only [KJ,KF,KI,KAO]; omega)|(simp; omega)) (by first|exact vec_set _ _ _ _ _|exact dv_setm _ _ _ _ (by omega)|exact dv_sets _ _ _ _|rfl) (by simp) ?_)
    refine KC 17 rfl (by kernel_rfl) (Nb rfl) (KH rfl) ?_
    refine Ko (by kernel_rfl) ?_
    refine KB ?_
    refine KA (KP rfl rfl (KAT (b:=1) (by omega))) (Nb rfl) ?_
    refine KA (KE rfl) (Nb rfl) ?_
    refine KG ?_
    refine ⟨x+1,by omega,by omega,Sub.re (Sub.cells (b:=b2) (cs':=vec .u64 9 (fun j=>if j<x+1 then limb (dif A B) j else limb A j)) (by repeat (first|exact Sh _|apply St_)) ?_) (KAF ⟨rfl,rfl,rfl,congrArg (fun n:Nat=>some (Value.int .u64 (n:Int))) ?_,rfl,trivial⟩ (by repeat (first|exact Sel.nil _|refine Sel.cons (by repeat (first|exact Ph _|apply Pt_)) ?_)))⟩
    · apply KAS
      intro j hj
      by_cases e:j = x
      · subst e
        simp
        omega
      · simp only [e,if_false]
        by_cases e2:j<x
        · rw [if_pos e2,if_pos (by omega)]
        · rw [if_neg e2,if_neg (by omega)]
    · simp
      omega
  ·
    have h9:¬ x<9:=h9
    refine KAI ?_
    refine KD (KB ?_)
    refine LOps.det (KM rfl (by repeat (first|exact Mh _|apply Mt)) (by exact KL Try.underlying25 rfl sz_25)) (Nb rfl) ?_
    refine KA (KE rfl) (Nb rfl) ?_
    refine KA (KP rfl rfl (br_eql (b:=1))) (Nb rfl) ?_
    refine KK rfl (KO rfl rfl sz_25 (by repeat (first|exact Kg _|exact Kr _ _ _|exact Kh _|exact Kl _ _ _|exact Kq _ _ _|exact KV|refine KR rfl ?_|refine KT ?_ ?_)) (by repeat (first|exact Sh _|apply St_)) (by first|exact KF _|exact KJ _ _ _|exact KI _|exact KS _ _ _|exact KZ _ _ _|rfl|simp [KJ,KF,KI]) ?_)
    refine KA (KH rfl) (Nb rfl) ?_
    refine KG (KY ?_)
    obtain rfl:x = 9:=by omega
    refine ⟨[_,_],.cons ⟨_,_,_,rfl,(by repeat (first|exact Mh _|apply Mt)),by exact KL Try.underlying25 rfl sz_25⟩ (.cons rfl .nil),fun a w' hr=>⟨?_,hr.fr.below⟩⟩
    have h1:(vec IntKind.u64 9 fun j=>if j<9 then limb (dif A B) j else limb A j) = natL (dif A B):=KAS (fun i hi=>if_pos hi)
    have h2:decide (borrow A B 9 = 1) = decide (A<B):=by
      rw [borrow_nine A B 9 rfl hA hB]
      by_cases h:A<B <;> simp [h]
    show Ending.returned (.tuple #[.agg (vec IntKind.u64 9 fun j=>if j<9 then limb (dif A B) j else limb A j).toArray,.bool (decide (borrow A B 9 = 1))]) = _
    rw [h1,h2]
    rfl
theorem c_nat_used (A b:Nat) (wr:Bool) (w:World) (hb:(Item.blk b ⟨wr,natL A,25,(0,0)⟩).holds w) (hA:A<W9):Calls Try.prog 172 ([.pointer (some ⟨b,0,none⟩)]:List Value).toArray w (fun e w'=>e = .returned (.int .i64 ((nw A:Nat):Int))∧Below w.heap.size w w'):=by
  refine Kw (N:=19) (rs:=[.tmp 2]) [.blk b ⟨false,natL A,25,(0,0)⟩] Try.func172 rfl Try.ntmps172 Try.results172 (Nb rfl) ⟨hb,trivial⟩ rfl ?_
  show LCode _ _ _ ⟨_,_⟩ _
  refine KD (KB ?_)
  refine KA (KH (v:=.int .i64 ((0:Nat):Int)) rfl) (Nb rfl) ?_
  refine KG ?_
  refine KD (KB ?_)
  refine KA (KH (v:=.int .i64 ((9:Nat):Int)) rfl) (Nb rfl) ?_
  refine KG ?_
  refine KD ?_
  refine LCode.block ?_
  refine KAQ (α:=Nat) (fun x=>x≤9∧A<2^(64*x)) (fun x=>⟨[(0,.pointer (some ⟨b,0,none⟩)),(3,.int .i64 ((x:Nat):Int))],[.blk b ⟨false,natL A,25,(0,0)⟩]⟩) (fun x=>x) (9) (⟨by omega,lt_w9_pow hA 9 rfl⟩) (KAF ⟨rfl,rfl,trivial⟩ (by repeat (first|exact Sel.nil _|refine Sel.cons (by repeat (first|exact Ph _|apply Pt_)) ?_))) ?_
  rintro x ⟨hx,hlt⟩
  refine KD ?_
  refine KD ?_
  by_cases h0:0<x
  ·
    refine KB ?_
    refine KA (KE rfl) (Nb rfl) ?_
    refine KA (KP rfl rfl (br_t (br_gtr (b:=0)) h0)) (Nb rfl) ?_
    refine KA (KE rfl) (Nb rfl) ?_
    refine Ke rfl rfl (KE rfl) (Nb rfl) ?_
    refine Ke rfl rfl (KE rfl) (Nb rfl) ?_
    refine Ke rfl rfl (KP rfl rfl (br_sub (b:=1) (by omega) (by omega))) (Nb rfl) ?_
    refine Ke rfl rfl (KW rfl) (Nb rfl) ?_
    refine Ke rfl rfl (KN (o':=0) Try.underlying25 rfl rfl rfl sz_23 (by decide)) (Nb rfl) ?_
    refine Ke rfl rfl (Kv Try.underlying23 sz_22 rfl rfl (by omega)) (Nb rfl) ?_
    refine KAZ rfl rfl (KM rfl (by repeat (first|exact Mh _|apply Mt)) (Kc Try.underlying22 rfl (by exact KAD _ (show x-1<9 by omega)))) (Nb rfl) ?_
    refine Ke rfl rfl (KP rfl rfl (br_eql (b:=0))) (Nb rfl) ?_
    refine KA (KAE rfl rfl) (Nb rfl) ?_
    refine KG ?_
    first|refine Kf rfl (fun h15=>?_) (fun h15=>?_)|refine Ki rfl (fun h15=>?_) (fun h15=>?_)
    ·
      have h15:limb A (x-1) = 0:=by have:=h15; simpa using this
      refine Km ?_
      refine LCode.block ?_
      refine KB ?_
      refine KA (KE rfl) (Nb rfl) ?_
      refine KA (KP rfl rfl (br_sub (b:=1) (by omega) (by omega))) (Nb rfl) ?_
      refine KA (KH rfl) (Nb rfl) ?_
      refine KG ?_
      refine ⟨x-1,⟨by omega,?_⟩,by omega,KAF ⟨rfl,rfl,trivial⟩ (by repeat (first|exact Sel.nil _|refine Sel.cons (by repeat (first|exact Ph _|apply Pt_)) ?_))⟩
      exact lt_of_limb_zero (A:=A) (n:=x-1) (by rw [show x-1+1 = x by omega]; exact hlt) h15
    ·
      have h15:¬ limb A (x-1) = 0:=by have:=h15; simpa using this
      refine KAI ?_
      refine KD (KB ?_)
      refine KA (KE rfl) (Nb rfl) ?_
      refine KA (KH rfl) (Nb rfl) ?_
      refine KG (KY ?_)
      have he:nw A = x:=nw_eq hlt (.inr (le_of_limb (A:=A) (n:=x-1) (by rw [show x-1+1 = x by omega]; exact hlt) h15))
      refine ⟨[_],.cons rfl .nil,fun a w' hr=>⟨?_,hr.fr.below⟩⟩
      rw [he]; rfl
  ·
    refine KB ?_
    refine KA (KE rfl) (Nb rfl) ?_
    refine KA (KP rfl rfl (br_f (br_gtr (b:=0)) h0)) (Nb rfl) ?_
    refine KA (KE rfl) (Nb rfl) ?_
    refine Ku rfl rfl rfl (Nb rfl) ?_
    refine Ku rfl rfl rfl (Nb rfl) ?_
    refine Ku rfl rfl rfl (Nb rfl) ?_
    refine Ku rfl rfl rfl (Nb rfl) ?_
    refine Ku rfl rfl rfl (Nb rfl) ?_
    refine Ku rfl rfl rfl (Nb rfl) ?_
    refine Ku rfl rfl rfl (Nb rfl) ?_
    refine Ku rfl rfl rfl (Nb rfl) ?_
    refine KA (Kz rfl rfl) (Nb rfl) ?_
    refine KG ?_
    refine Kp rfl ?_
    refine KAI ?_
    refine KD (KB ?_)
    refine KA (KE rfl) (Nb rfl) ?_
    refine KA (KH rfl) (Nb rfl) ?_
    refine KG (KY ?_)
    have he:nw A = x:=nw_eq hlt (.inl (by omega))
    refine ⟨[_],.cons rfl .nil,fun a w' hr=>⟨?_,hr.fr.below⟩⟩
    rw [he]; rfl
theorem c_nat_Cmp (A B:Nat) (hA:A<W9) (hB:B<W9) (w:World)  : Calls Try.prog 113 ([natV A,natV B]:List Value).toArray w (fun e w'=>e = .returned (.int .i64 (cmpI A B))∧Below w.heap.size w w'):=by
  refine Kw (N:=30) (rs:=[.tmp 4]) [] Try.func113 rfl Try.ntmps113 Try.results113 (Nb rfl) trivial rfl ?_
  show LCode _ _ _ ⟨_,_⟩ _
  refine KD (KB ?_)
  refine KK rfl (KX (KQ (Ks rfl) (Nb rfl) (fun b2=>?_)))
  refine KK rfl (KX (KQ (Ks rfl) (Nb rfl) (fun b3=>?_)))
  refine KA (KH (v:=.int .i64 ((0:Nat):Int)) rfl) (Nb rfl) ?_
  refine KG ?_
  refine KD ?_
  refine KD (KB ?_)
  refine KA (KH (v:=.int .i64 ((8:Nat):Int)) rfl) (Nb rfl) ?_
  refine KG ?_
  refine LCode.block ?_
  refine KAQ (α:=Nat) (fun x=>x≤9∧A/2^(64*x) = B/2^(64*x)) (fun x=>⟨[(2,.pointer (some ⟨b2,0,none⟩)),(3,.pointer (some ⟨b3,0,none⟩)),(5,.int .i64 ((x:Int)-1))],[.blk b3 ⟨true,natL B,25,(0,0)⟩,.blk b2 ⟨true,natL A,25,(0,0)⟩]⟩) (fun x=>x) (9) (⟨by omega,by rw [Nat.div_eq_of_lt (lt_w9_pow hA 9 rfl),Nat.div_eq_of_lt (lt_w9_pow hB 9 rfl)]⟩) (KAF ⟨rfl,rfl,rfl,trivial⟩ (by repeat (first|exact Sel.nil _|refine Sel.cons (by repeat (first|exact Ph _|apply Pt_)) ?_))) ?_
  rintro x ⟨hx,hab⟩
  refine KD ?_
  refine KD ?_
  rcases Nat.eq_zero_or_pos x with h0|h0
  ·
    refine KB ?_
    refine KA (KE rfl) (Nb rfl) ?_
    refine KA (KP (v:=.bool false) rfl rfl (by subst h0; rfl)) (Nb rfl) ?_
    refine KG ?_
    refine Kp rfl ?_
    refine KAI ?_
    refine KD (KB ?_)
    refine KA (KH (v:=.int .i64 ((0:Nat):Int)) rfl) (Nb rfl) ?_
    refine KG (KY ?_)
    have he:A = B:=by subst h0; simpa using hab
    refine ⟨[_],.cons rfl .nil,fun a w' hr=>⟨?_,hr.fr.below⟩⟩
    simp [resOf,cmpI,he]
  ·
    obtain ⟨x,rfl⟩:∃ y,x = y+1:=⟨x-1,by omega⟩
    refine KB ?_
    refine KA (KE rfl) (Nb rfl) ?_
    refine KA (KP (v:=.bool true) rfl rfl (by simp [KAR])) (Nb rfl) ?_
    refine KG ?_
    refine Kx rfl ?_
    refine Km ?_
    refine KD ?_
    refine LCode.block ?_
    refine LCode.block ?_
    refine KD ?_
    refine Ka [] (by kernel_rfl) ?_
    refine KC 0 rfl (by kernel_rfl) (Nb rfl) (KE (v:=.int .i64 ((x:Nat):Int)) (by show some _ = some _; congr 2; omega)) ?_
    refine KC 1 rfl (by kernel_rfl) (Nb rfl) (KN (o':=0) Try.underlying25 rfl rfl rfl sz_23 (by decide)) ?_
    refine KC 2 rfl (by kernel_rfl) (Nb rfl) (Kv Try.underlying23 sz_22 rfl rfl (by omega)) ?_
    refine LAny.take 3 rfl (by kernel_rfl) (Nb rfl) (KM rfl (by repeat (first|exact Mh _|apply Mt)) (Kc Try.underlying22 rfl (by exact KAD _ (show x<9 by omega)))) ?_
    refine KC 4 rfl (by kernel_rfl) (Nb rfl) (KE (v:=.int .i64 ((x:Nat):Int)) (by show some _ = some _; congr 2; omega)) ?_
    refine KC 5 rfl (by kernel_rfl) (Nb rfl) (KN (o':=0) Try.underlying25 rfl rfl rfl sz_23 (by decide)) ?_
    refine KC 6 rfl (by kernel_rfl) (Nb rfl) (Kv Try.underlying23 sz_22 rfl rfl (by omega)) ?_
    refine LAny.take 7 rfl (by kernel_rfl) (Nb rfl) (KM rfl (by repeat (first|exact Mh _|apply Mt)) (Kc Try.underlying22 rfl (by exact KAD _ (show x<9 by omega)))) ?_
    refine KC 8 rfl (by kernel_rfl) (Nb rfl) (KP rfl rfl (br_lss)) ?_
    refine KC 9 rfl (by kernel_rfl) (Nb rfl) (KH rfl) ?_
    refine Ko (by kernel_rfl) ?_
    first|refine Kf rfl (fun h10=>?_) (fun h10=>?_)|refine Ki rfl (fun h10=>?_) (fun h10=>?_)
    ·
      refine KD (KB ?_)
      refine KA (KH rfl) (Nb rfl) ?_
      refine KG (KY ?_)
      have he:A<B:=lt_of_limb hab h10
      refine ⟨[_],.cons rfl .nil,fun a w' hr=>⟨?_,hr.fr.below⟩⟩
      simp [resOf,cmpI,he]
    ·
      refine KD ?_
      refine Ka [] (by kernel_rfl) ?_
      refine KC 0 rfl (by kernel_rfl) (Nb rfl) (KE (v:=.int .i64 ((x:Nat):Int)) (by show some _ = some _; congr 2; omega)) ?_
      refine KC 1 rfl (by kernel_rfl) (Nb rfl) (KN (o':=0) Try.underlying25 rfl rfl rfl sz_23 (by decide)) ?_
      refine KC 2 rfl (by kernel_rfl) (Nb rfl) (Kv Try.underlying23 sz_22 rfl rfl (by omega)) ?_
      refine LAny.take 3 rfl (by kernel_rfl) (Nb rfl) (KM rfl (by repeat (first|exact Mh _|apply Mt)) (Kc Try.underlying22 rfl (by exact KAD _ (show x<9 by omega)))) ?_
      refine KC 4 rfl (by kernel_rfl) (Nb rfl) (KE (v:=.int .i64 ((x:Nat):Int)) (by show some _ = some _; congr 2; omega)) ?_
      refine KC 5 rfl (by kernel_rfl) (Nb rfl) (KN (o':=0) Try.underlying25 rfl rfl rfl sz_23 (by decide)) ?_
      refine KC 6 rfl (by kernel_rfl) (Nb rfl) (Kv Try.underlying23 sz_22 rfl rfl (by omega)) ?_
      refine LAny.take 7 rfl (by kernel_rfl) (Nb rfl) (KM rfl (by repeat (first|exact Mh _|apply Mt)) (Kc Try.underlying22 rfl (by exact KAD _ (show x<9 by omega)))) ?_
      refine KC 8 rfl (by kernel_rfl) (Nb rfl) (KP rfl rfl (br_gtr)) ?_
      refine KC 9 rfl (by kernel_rfl) (Nb rfl) (KH rfl) ?_
      refine Ko (by kernel_rfl) ?_
      first|refine Kf rfl (fun h20=>?_) (fun h20=>?_)|refine Ki rfl (fun h20=>?_) (fun h20=>?_)
      ·
        refine KD (KB ?_)
        refine KA (KH (v:=.int .i64 ((1:Nat):Int)) rfl) (Nb rfl) ?_
        refine KG (KY ?_)
        have he:B<A:=lt_of_limb hab.symm h20
        have he2:¬ A<B:=by omega
        refine ⟨[_],.cons rfl .nil,fun a w' hr=>⟨?_,hr.fr.below⟩⟩
        simp [resOf,cmpI,he,he2]
      ·
        refine Km ?_
        refine KB ?_
        refine KA (KE (v:=.int .i64 ((x:Nat):Int)) (by show some _ = some _; congr 2; omega)) (Nb rfl) ?_
        refine KA (KP rfl rfl rfl) (Nb rfl) ?_
        refine KA (KH rfl) (Nb rfl) ?_
        refine KG ?_
        refine ⟨x,⟨by omega,?_⟩,by omega,KAF ⟨rfl,rfl,?_,trivial⟩ (by repeat (first|exact Sel.nil _|refine Sel.cons (by repeat (first|exact Ph _|apply Pt_)) ?_))⟩
        · have h1:limb A x = limb B x:=by omega
          exact (div_eq_iff_limb A B x).2 ⟨hab,h1⟩
        · exact congrArg (fun i:Int=>some (Value.int .i64 i)) (wrap_i64 (by omega) (by omega))
end Go.Proofs.Ytljblbgogjieaaa
set_option linter.unusedVariables false
set_option linter.unusedSimpArgs false
set_option maxRecDepth 20000
namespace Go.Proofs.Ytljblbgogjieaaa
open Go Go.RowKit
theorem c_Mul64 (x y:Nat) (hx:x<18446744073709551616) (hy:y<18446744073709551616) (w:World)  : Calls Try.prog 193 ([.int .u64 ((x:Nat):Int),.int .u64 ((y:Nat):Int)]:List Value).toArray w (fun e w'=>e = .returned (.tuple #[.int .u64 ((x*y/18446744073709551616:Nat):Int),.int .u64 ((x*y%18446744073709551616:Nat):Int)])∧Below w.heap.size w w'):=by
  refine Kw (N:=51) (rs:=[.tmp 4,.tmp 5]) [] Try.func193 rfl Try.ntmps193 Try.results193 (Nb rfl) trivial rfl ?_
  show LCode _ _ _ ⟨_,_⟩ _
  refine KD (KB ?_)
  refine KA (KH (v:=.int .u64 ((0:Nat):Int)) rfl) (Nb rfl) ?_
  refine KA (KH (v:=.int .u64 ((0:Nat):Int)) rfl) (Nb rfl) ?_
  refine KG ?_
  refine KD (KB ?_)
  refine KA (KE rfl) (Nb rfl) ?_
  refine KA (KP rfl rfl (br_and64 (b:=4294967295) (by omega) (by omega))) (Nb rfl) ?_
  refine KA (KH rfl) (Nb rfl) ?_
  refine KG ?_
  refine KD (KB ?_)
  refine KA (KE rfl) (Nb rfl) ?_
  refine KA (KP rfl rfl (br_shr64 (b:=32) (by omega))) (Nb rfl) ?_
  refine KA (KH rfl) (Nb rfl) ?_
  refine KG ?_
  refine KD (KB ?_)
  refine KA (KE rfl) (Nb rfl) ?_
  refine KA (KP rfl rfl (br_and64 (b:=4294967295) (by omega) (by omega))) (Nb rfl) ?_
  refine KA (KH rfl) (Nb rfl) ?_
  refine KG ?_
  refine KD (KB ?_)
  refine KA (KE rfl) (Nb rfl) ?_
  refine KA (KP rfl rfl (br_shr64 (b:=32) (by omega))) (Nb rfl) ?_
  refine KA (KH rfl) (Nb rfl) ?_
  refine KG ?_
  refine KD (KB ?_)
  refine KA (KE rfl) (Nb rfl) ?_
  refine KA (KE rfl) (Nb rfl) ?_
  refine KA (KP rfl rfl (br_mul64)) (Nb rfl) ?_
  refine KA (KH rfl) (Nb rfl) ?_
  refine KG ?_
  refine KD (KB ?_)
  refine KA (KE rfl) (Nb rfl) ?_
  refine KA (KE rfl) (Nb rfl) ?_
  refine KA (KP rfl rfl (br_mul64)) (Nb rfl) ?_
  refine KA (KE rfl) (Nb rfl) ?_
  refine KA (KP rfl rfl (br_shr64 (b:=32) (by omega))) (Nb rfl) ?_
  refine KA (KP rfl rfl (br_add64)) (Nb rfl) ?_
  refine KA (KH rfl) (Nb rfl) ?_
  refine KG ?_
  refine KD (KB ?_)
  refine KA (KE rfl) (Nb rfl) ?_
  refine KA (KP rfl rfl (br_and64 (b:=4294967295) (by omega) (by omega))) (Nb rfl) ?_
  refine KA (KH rfl) (Nb rfl) ?_
  refine KG ?_
  refine KD (KB ?_)
  refine KA (KE rfl) (Nb rfl) ?_
  refine KA (KP rfl rfl (br_shr64 (b:=32) (by omega))) (Nb rfl) ?_
  refine KA (KH rfl) (Nb rfl) ?_
  refine KG ?_
  refine KD (KB ?_)
  refine KA (KE rfl) (Nb rfl) ?_
  refine KA (KE rfl) (Nb rfl) ?_
  refine KA (KE rfl) (Nb rfl) ?_
  refine KA (KP rfl rfl (br_mul64)) (Nb rfl) ?_
  refine KA (KP rfl rfl (br_add64)) (Nb rfl) ?_
  refine KA (KH rfl) (Nb rfl) ?_
  refine KG ?_
  refine KD (KB ?_)
  refine KA (KE rfl) (Nb rfl) ?_
  refine KA (KE rfl) (Nb rfl) ?_
  refine KA (KP rfl rfl (br_mul64)) (Nb rfl) ?_
  refine KA (KE rfl) (Nb rfl) ?_
  refine KA (KP rfl rfl (br_add64)) (Nb rfl) ?_
  refine KA (KE rfl) (Nb rfl) ?_
  refine KA (KP rfl rfl (br_shr64 (b:=32) (by omega))) (Nb rfl) ?_
  refine KA (KP rfl rfl (br_add64)) (Nb rfl) ?_
  refine KA (KH rfl) (Nb rfl) ?_
  refine KG ?_
  refine KD (KB ?_)
  refine KA (KE rfl) (Nb rfl) ?_
  refine KA (KE rfl) (Nb rfl) ?_
  refine KA (KP rfl rfl (br_mul64)) (Nb rfl) ?_
  refine KA (KH rfl) (Nb rfl) ?_
  refine KG (KY ?_)
  refine ⟨[_,_],.cons rfl (.cons rfl .nil),fun a w' hr=>⟨?_,hr.fr.below⟩⟩
  have h:=mul64_hi x y hx hy
  rw [← h]
  rfl
def lenTab:List UInt8:=[0,1,2,2,3,3,3,3,4,4,4,4,4,4,4,4,5,5,5,5,5,5,5,5,5,5,5,5,5,5,5,5,6,6,6,6,6,6,6,6,6,6,6,6,6,6,6,6,6,6,6,6,6,6,6,6,6,6,6,6,6,6,6,6,7,7,7,7,7,7,7,7,7,7,7,7,7,7,7,7,7,7,7,7,7,7,7,7,7,7,7,7,7,7,7,7,7,7,7,7,7,7,7,7,7,7,7,7,7,7,7,7,7,7,7,7,7,7,7,7,7,7,7,7,7,7,7,7,8,8,8,8,8,8,8,8,8,8,8,8,8,8,8,8,8,8,8,8,8,8,8,8,8,8,8,8,8,8,8,8,8,8,8,8,8,8,8,8,8,8,8,8,8,8,8,8,8,8,8,8,8,8,8,8,8,8,8,8,8,8,8,8,8,8,8,8,8,8,8,8,8,8,8,8,8,8,8,8,8,8,8,8,8,8,8,8,8,8,8,8,8,8,8,8,8,8,8,8,8,8,8,8,8,8,8,8,8,8,8,8,8,8,8,8,8,8,8,8,8,8,8,8,8,8,8,8]
theorem len_tab:∀ i,i<256→(lenTab.getD i 0).toNat = blen i:=by decide +kernel
theorem len_tab_int (i:Nat) (h:i<256):(Value.int .u8 ((lenTab.getD ((i:Int).toNat) 0).toNat:Int)) = .int .u8 ((blen i:Nat):Int):=by rw [Int.toNat_natCast,len_tab i h]
theorem blen_m8 (z:Nat):blen (z%256)≤8:=blen_le (Nat.mod_lt _ (by decide))
theorem c_Len64 (x:Nat) (hx:x<18446744073709551616) (w:World)  : Calls Try.prog 173 ([.int .u64 ((x:Nat):Int)]:List Value).toArray w (fun e w'=>e = .returned (.int .i64 ((blen x:Nat):Int))∧Below w.heap.size w w'):=by
  refine Kw (N:=25) (rs:=[.tmp 2]) [] Try.func173 rfl Try.ntmps173 Try.results173 (Nb rfl) trivial rfl ?_
  show LCode _ _ _ ⟨_,_⟩ _
  refine KD (KB ?_)
  refine KA (KH (v:=.int .i64 ((0:Nat):Int)) rfl) (Nb rfl) ?_
  refine KG ?_
  refine KD ?_
  refine KD (KB ?_)
  refine KA (KE rfl) (Nb rfl) ?_
  refine KA (KP rfl rfl (br_geq (b:=4294967296))) (Nb rfl) ?_
  refine KG ?_
  first|refine Kf rfl (fun h4=>?_) (fun h4=>?_)|refine Ki rfl (fun h4=>?_) (fun h4=>?_)
  ·
    refine KD (KB ?_)
    refine KA (KE rfl) (Nb rfl) ?_
    refine KA (KP rfl rfl (br_shr64 (b:=32) (by omega))) (Nb rfl) ?_
    refine KA (KH rfl) (Nb rfl) ?_
    refine KG ?_
    refine KB ?_
    refine KA (KH (v:=.int .i64 ((32:Nat):Int)) rfl) (Nb rfl) ?_
    refine KG ?_
    refine KD ?_
    refine KD (KB ?_)
    refine KA (KE rfl) (Nb rfl) ?_
    refine KA (KP rfl rfl (br_geq (b:=65536))) (Nb rfl) ?_
    refine KG ?_
    first|refine Kf rfl (fun h8=>?_) (fun h8=>?_)|refine Ki rfl (fun h8=>?_) (fun h8=>?_)
    ·
      refine KD (KB ?_)
      refine KA (KE rfl) (Nb rfl) ?_
      refine KA (KP rfl rfl (br_shr64 (b:=16) (by omega))) (Nb rfl) ?_
      refine KA (KH rfl) (Nb rfl) ?_
      refine KG ?_
      refine KB ?_
      refine KA (KE rfl) (Nb rfl) ?_
      refine KA (KP rfl rfl (KAT (b:=16) (by omega))) (Nb rfl) ?_
      refine KA (KH rfl) (Nb rfl) ?_
      refine KG ?_
      refine KD ?_
      refine KD (KB ?_)
      refine KA (KE rfl) (Nb rfl) ?_
      refine KA (KP rfl rfl (br_geq (b:=256))) (Nb rfl) ?_
      refine KG ?_
      first|refine Kf rfl (fun h14=>?_) (fun h14=>?_)|refine Ki rfl (fun h14=>?_) (fun h14=>?_)
      ·
        refine KD (KB ?_)
        refine KA (KE rfl) (Nb rfl) ?_
        refine KA (KP rfl rfl (br_shr64 (b:=8) (by omega))) (Nb rfl) ?_
        refine KA (KH rfl) (Nb rfl) ?_
        refine KG ?_
        refine KB ?_
        refine KA (KE rfl) (Nb rfl) ?_
        refine KA (KP rfl rfl (KAT (b:=8) (by omega))) (Nb rfl) ?_
        refine KA (KH rfl) (Nb rfl) ?_
        refine KG ?_
        refine KD (KB ?_)
        refine KA (KE rfl) (Nb rfl) ?_
        refine KA (KE rfl) (Nb rfl) ?_
        refine KA (Det.conv8 Try.underlying22 Try.underlying5 rfl) (Nb rfl) ?_
        refine KA (Kb (Det.indexStr Try.underlying9 rfl rfl (by omega) (by show ((_%256:Nat):Int)<256; omega)) (len_tab_int _ (Nat.mod_lt _ (by decide)))) (Nb rfl) ?_
        refine KA (Det.convi Try.underlying5 Try.underlying3 rfl (Nat.lt_of_le_of_lt (blen_m8 _) (by decide))) (Nb rfl) ?_
        refine KA (KP rfl rfl (KAT (Nat.lt_of_le_of_lt (Nat.add_le_add_left (blen_m8 _) _) (by omega)))) (Nb rfl) ?_
        refine KA (KH rfl) (Nb rfl) ?_
        refine KG (KY ?_)
        have hm:∀ z:Nat,z<256→blen (z%256) = blen z:=fun z hz=>by rw [Nat.mod_eq_of_lt hz]
        refine ⟨[_],.cons rfl .nil,fun a w' hr=>⟨?_,hr.fr.below⟩⟩
        refine congrArg (fun n:Nat=>Ending.returned (.int .i64 (n:Int))) ?_
        have e32:=blen_shr (k:=32) (show 2^32≤x by omega)
        have e16:=blen_shr (k:=16) (show 2^16≤(x/2^32) by omega)
        have e8:=blen_shr (k:=8) (show 2^8≤((x/2^32)/2^16) by omega)
        rw [hm (((x/2^32)/2^16)/2^8) (by omega)]
        omega
      ·
        refine Km ?_
        refine KD (KB ?_)
        refine KA (KE rfl) (Nb rfl) ?_
        refine KA (KE rfl) (Nb rfl) ?_
        refine KA (Det.conv8 Try.underlying22 Try.underlying5 rfl) (Nb rfl) ?_
        refine KA (Kb (Det.indexStr Try.underlying9 rfl rfl (by omega) (by show ((_%256:Nat):Int)<256; omega)) (len_tab_int _ (Nat.mod_lt _ (by decide)))) (Nb rfl) ?_
        refine KA (Det.convi Try.underlying5 Try.underlying3 rfl (Nat.lt_of_le_of_lt (blen_m8 _) (by decide))) (Nb rfl) ?_
        refine KA (KP rfl rfl (KAT (Nat.lt_of_le_of_lt (Nat.add_le_add_left (blen_m8 _) _) (by omega)))) (Nb rfl) ?_
        refine KA (KH rfl) (Nb rfl) ?_
        refine KG (KY ?_)
        have hm:∀ z:Nat,z<256→blen (z%256) = blen z:=fun z hz=>by rw [Nat.mod_eq_of_lt hz]
        refine ⟨[_],.cons rfl .nil,fun a w' hr=>⟨?_,hr.fr.below⟩⟩
        refine congrArg (fun n:Nat=>Ending.returned (.int .i64 (n:Int))) ?_
        have e32:=blen_shr (k:=32) (show 2^32≤x by omega)
        have e16:=blen_shr (k:=16) (show 2^16≤(x/2^32) by omega)
        rw [hm ((x/2^32)/2^16) (by omega)]
        omega
    ·
      refine Km ?_
      refine KD ?_
      refine KD (KB ?_)
      refine KA (KE rfl) (Nb rfl) ?_
      refine KA (KP rfl rfl (br_geq (b:=256))) (Nb rfl) ?_
      refine KG ?_
      first|refine Kf rfl (fun h14=>?_) (fun h14=>?_)|refine Ki rfl (fun h14=>?_) (fun h14=>?_)
      ·
        refine KD (KB ?_)
        refine KA (KE rfl) (Nb rfl) ?_
        refine KA (KP rfl rfl (br_shr64 (b:=8) (by omega))) (Nb rfl) ?_
        refine KA (KH rfl) (Nb rfl) ?_
        refine KG ?_
        refine KB ?_
        refine KA (KE rfl) (Nb rfl) ?_
        refine KA (KP rfl rfl (KAT (b:=8) (by omega))) (Nb rfl) ?_
        refine KA (KH rfl) (Nb rfl) ?_
        refine KG ?_
        refine KD (KB ?_)
        refine KA (KE rfl) (Nb rfl) ?_
        refine KA (KE rfl) (Nb rfl) ?_
        refine KA (Det.conv8 Try.underlying22 Try.underlying5 rfl) (Nb rfl) ?_
        refine KA (Kb (Det.indexStr Try.underlying9 rfl rfl (by omega) (by show ((_%256:Nat):Int)<256; omega)) (len_tab_int _ (Nat.mod_lt _ (by decide)))) (Nb rfl) ?_
        refine KA (Det.convi Try.underlying5 Try.underlying3 rfl (Nat.lt_of_le_of_lt (blen_m8 _) (by decide))) (Nb rfl) ?_
        refine KA (KP rfl rfl (KAT (Nat.lt_of_le_of_lt (Nat.add_le_add_left (blen_m8 _) _) (by omega)))) (Nb rfl) ?_
        refine KA (KH rfl) (Nb rfl) ?_
        refine KG (KY ?_)
        have hm:∀ z:Nat,z<256→blen (z%256) = blen z:=fun z hz=>by rw [Nat.mod_eq_of_lt hz]
        refine ⟨[_],.cons rfl .nil,fun a w' hr=>⟨?_,hr.fr.below⟩⟩
        refine congrArg (fun n:Nat=>Ending.returned (.int .i64 (n:Int))) ?_
        have e32:=blen_shr (k:=32) (show 2^32≤x by omega)
        have e8:=blen_shr (k:=8) (show 2^8≤(x/2^32) by omega)
        rw [hm ((x/2^32)/2^8) (by omega)]
        omega
      ·
        refine Km ?_
        refine KD (KB ?_)
        refine KA (KE rfl) (Nb rfl) ?_
        refine KA (KE rfl) (Nb rfl) ?_
        refine KA (Det.conv8 Try.underlying22 Try.underlying5 rfl) (Nb rfl) ?_
        refine KA (Kb (Det.indexStr Try.underlying9 rfl rfl (by omega) (by show ((_%256:Nat):Int)<256; omega)) (len_tab_int _ (Nat.mod_lt _ (by decide)))) (Nb rfl) ?_
        refine KA (Det.convi Try.underlying5 Try.underlying3 rfl (Nat.lt_of_le_of_lt (blen_m8 _) (by decide))) (Nb rfl) ?_
        refine KA (KP rfl rfl (KAT (Nat.lt_of_le_of_lt (Nat.add_le_add_left (blen_m8 _) _) (by omega)))) (Nb rfl) ?_
        refine KA (KH rfl) (Nb rfl) ?_
        refine KG (KY ?_)
        have hm:∀ z:Nat,z<256→blen (z%256) = blen z:=fun z hz=>by rw [Nat.mod_eq_of_lt hz]
        refine ⟨[_],.cons rfl .nil,fun a w' hr=>⟨?_,hr.fr.below⟩⟩
        refine congrArg (fun n:Nat=>Ending.returned (.int .i64 (n:Int))) ?_
        have e32:=blen_shr (k:=32) (show 2^32≤x by omega)
        rw [hm (x/2^32) (by omega)]
        omega
  ·
    refine Km ?_
    refine KD ?_
    refine KD (KB ?_)
    refine KA (KE rfl) (Nb rfl) ?_
    refine KA (KP rfl rfl (br_geq (b:=65536))) (Nb rfl) ?_
    refine KG ?_
    first|refine Kf rfl (fun h8=>?_) (fun h8=>?_)|refine Ki rfl (fun h8=>?_) (fun h8=>?_)
    ·
      refine KD (KB ?_)
      refine KA (KE rfl) (Nb rfl) ?_
      refine KA (KP rfl rfl (br_shr64 (b:=16) (by omega))) (Nb rfl) ?_
      refine KA (KH rfl) (Nb rfl) ?_
      refine KG ?_
      refine KB ?_
      refine KA (KE rfl) (Nb rfl) ?_
      refine KA (KP rfl rfl (KAT (b:=16) (by omega))) (Nb rfl) ?_
      refine KA (KH rfl) (Nb rfl) ?_
      refine KG ?_
      refine KD ?_
      refine KD (KB ?_)
      refine KA (KE rfl) (Nb rfl) ?_
      refine KA (KP rfl rfl (br_geq (b:=256))) (Nb rfl) ?_
      refine KG ?_
      first|refine Kf rfl (fun h14=>?_) (fun h14=>?_)|refine Ki rfl (fun h14=>?_) (fun h14=>?_)
      ·
        refine KD (KB ?_)
        refine KA (KE rfl) (Nb rfl) ?_
        refine KA (KP rfl rfl (br_shr64 (b:=8) (by omega))) (Nb rfl) ?_
        refine KA (KH rfl) (Nb rfl) ?_
        refine KG ?_
        refine KB ?_
        refine KA (KE rfl) (Nb rfl) ?_
        refine KA (KP rfl rfl (KAT (b:=8) (by omega))) (Nb rfl) ?_
        refine KA (KH rfl) (Nb rfl) ?_
        refine KG ?_
        refine KD (KB ?_)
        refine KA (KE rfl) (Nb rfl) ?_
        refine KA (KE rfl) (Nb rfl) ?_
        refine KA (Det.conv8 Try.underlying22 Try.underlying5 rfl) (Nb rfl) ?_
        refine KA (Kb (Det.indexStr Try.underlying9 rfl rfl (by omega) (by show ((_%256:Nat):Int)<256; omega)) (len_tab_int _ (Nat.mod_lt _ (by decide)))) (Nb rfl) ?_
        refine KA (Det.convi Try.underlying5 Try.underlying3 rfl (Nat.lt_of_le_of_lt (blen_m8 _) (by decide))) (Nb rfl) ?_
        refine KA (KP rfl rfl (KAT (Nat.lt_of_le_of_lt (Nat.add_le_add_left (blen_m8 _) _) (by omega)))) (Nb rfl) ?_
        refine KA (KH rfl) (Nb rfl) ?_
        refine KG (KY ?_)
        have hm:∀ z:Nat,z<256→blen (z%256) = blen z:=fun z hz=>by rw [Nat.mod_eq_of_lt hz]
        refine ⟨[_],.cons rfl .nil,fun a w' hr=>⟨?_,hr.fr.below⟩⟩
        refine congrArg (fun n:Nat=>Ending.returned (.int .i64 (n:Int))) ?_
        have e16:=blen_shr (k:=16) (show 2^16≤x by omega)
        have e8:=blen_shr (k:=8) (show 2^8≤(x/2^16) by omega)
        rw [hm ((x/2^16)/2^8) (by omega)]
        omega
      ·
        refine Km ?_
        refine KD (KB ?_)
        refine KA (KE rfl) (Nb rfl) ?_
        refine KA (KE rfl) (Nb rfl) ?_
        refine KA (Det.conv8 Try.underlying22 Try.underlying5 rfl) (Nb rfl) ?_
        refine KA (Kb (Det.indexStr Try.underlying9 rfl rfl (by omega) (by show ((_%256:Nat):Int)<256; omega)) (len_tab_int _ (Nat.mod_lt _ (by decide)))) (Nb rfl) ?_
        refine KA (Det.convi Try.underlying5 Try.underlying3 rfl (Nat.lt_of_le_of_lt (blen_m8 _) (by decide))) (Nb rfl) ?_
        refine KA (KP rfl rfl (KAT (Nat.lt_of_le_of_lt (Nat.add_le_add_left (blen_m8 _) _) (by omega)))) (Nb rfl) ?_
        refine KA (KH rfl) (Nb rfl) ?_
        refine KG (KY ?_)
        have hm:∀ z:Nat,z<256→blen (z%256) = blen z:=fun z hz=>by rw [Nat.mod_eq_of_lt hz]
        refine ⟨[_],.cons rfl .nil,fun a w' hr=>⟨?_,hr.fr.below⟩⟩
        refine congrArg (fun n:Nat=>Ending.returned (.int .i64 (n:Int))) ?_
        have e16:=blen_shr (k:=16) (show 2^16≤x by omega)
        rw [hm (x/2^16) (by omega)]
        omega
    ·
      refine Km ?_
      refine KD ?_
      refine KD (KB ?_)
      refine KA (KE rfl) (Nb rfl) ?_
      refine KA (KP rfl rfl (br_geq (b:=256))) (Nb rfl) ?_
      refine KG ?_
      first|refine Kf rfl (fun h14=>?_) (fun h14=>?_)|refine Ki rfl (fun h14=>?_) (fun h14=>?_)
      ·
        refine KD (KB ?_)
        refine KA (KE rfl) (Nb rfl) ?_
        refine KA (KP rfl rfl (br_shr64 (b:=8) (by omega))) (Nb rfl) ?_
        refine KA (KH rfl) (Nb rfl) ?_
        refine KG ?_
        refine KB ?_
        refine KA (KE rfl) (Nb rfl) ?_
        refine KA (KP rfl rfl (KAT (b:=8) (by omega))) (Nb rfl) ?_
        refine KA (KH rfl) (Nb rfl) ?_
        refine KG ?_
        refine KD (KB ?_)
        refine KA (KE rfl) (Nb rfl) ?_
        refine KA (KE rfl) (Nb rfl) ?_
        refine KA (Det.conv8 Try.underlying22 Try.underlying5 rfl) (Nb rfl) ?_
        refine KA (Kb (Det.indexStr Try.underlying9 rfl rfl (by omega) (by show ((_%256:Nat):Int)<256; omega)) (len_tab_int _ (Nat.mod_lt _ (by decide)))) (Nb rfl) ?_
        refine KA (Det.convi Try.underlying5 Try.underlying3 rfl (Nat.lt_of_le_of_lt (blen_m8 _) (by decide))) (Nb rfl) ?_
        refine KA (KP rfl rfl (KAT (Nat.lt_of_le_of_lt (Nat.add_le_add_left (blen_m8 _) _) (by omega)))) (Nb rfl) ?_
        refine KA (KH rfl) (Nb rfl) ?_
        refine KG (KY ?_)
        have hm:∀ z:Nat,z<256→blen (z%256) = blen z:=fun z hz=>by rw [Nat.mod_eq_of_lt hz]
        refine ⟨[_],.cons rfl .nil,fun a w' hr=>⟨?_,hr.fr.below⟩⟩
        refine congrArg (fun n:Nat=>Ending.returned (.int .i64 (n:Int))) ?_
        have e8:=blen_shr (k:=8) (show 2^8≤x by omega)
        rw [hm (x/2^8) (by omega)]
        omega
      ·
        refine Km ?_
        refine KD (KB ?_)
        refine KA (KE rfl) (Nb rfl) ?_
        refine KA (KE rfl) (Nb rfl) ?_
        refine KA (Det.conv8 Try.underlying22 Try.underlying5 rfl) (Nb rfl) ?_
        refine KA (Kb (Det.indexStr Try.underlying9 rfl rfl (by omega) (by show ((_%256:Nat):Int)<256; omega)) (len_tab_int _ (Nat.mod_lt _ (by decide)))) (Nb rfl) ?_
        refine KA (Det.convi Try.underlying5 Try.underlying3 rfl (Nat.lt_of_le_of_lt (blen_m8 _) (by decide))) (Nb rfl) ?_
        refine KA (KP rfl rfl (KAT (Nat.lt_of_le_of_lt (Nat.add_le_add_left (blen_m8 _) _) (by omega)))) (Nb rfl) ?_
        refine KA (KH rfl) (Nb rfl) ?_
        refine KG (KY ?_)
        have hm:∀ z:Nat,z<256→blen (z%256) = blen z:=fun z hz=>by rw [Nat.mod_eq_of_lt hz]
        refine ⟨[_],.cons rfl .nil,fun a w' hr=>⟨?_,hr.fr.below⟩⟩
        refine congrArg (fun n:Nat=>Ending.returned (.int .i64 (n:Int))) ?_
        rw [hm x (by omega)]
        omega
theorem c_LeadingZeros64 (x:Nat) (hx:x<18446744073709551616) (w:World)  : Calls Try.prog 192 ([.int .u64 ((x:Nat):Int)]:List Value).toArray w (fun e w'=>e = .returned (.int .i64 ((64-blen x:Nat):Int))∧Below w.heap.size w w'):=by
  refine Kw (N:=6) (rs:=[.tmp 2]) [] Try.func192 rfl Try.ntmps192 Try.results192 (Nb rfl) trivial rfl ?_
  show LCode _ _ _ ⟨_,_⟩ _
  refine KD (KB ?_)
  refine KA (KH (v:=.int .i64 ((0:Nat):Int)) rfl) (Nb rfl) ?_
  refine KG ?_
  refine KD (KB ?_)
  refine KA (KE rfl) (Nb rfl) ?_
  refine KK rfl (KX (KU (first:=[]) rfl en_173 rfl (Nb rfl) (fun w hw=>c_Len64 _ (by omega) w) ?_))
  refine KA (KP rfl rfl (br_sub (a:=64) (blen_le hx) (by omega))) (Nb rfl) ?_
  refine KA (KH rfl) (Nb rfl) ?_
  refine KG (KY ?_)
  refine ⟨[_],.cons rfl .nil,fun a w' hr=>⟨?_,hr.fr.below⟩⟩
  rfl
theorem c_Div64 (hi lo y:Nat) (hlo:lo<18446744073709551616) (hy:9223372036854775808≤y) (hy2:y<18446744073709551616) (hh:hi<y) (w:World)  : Calls Try.prog 197 ([.int .u64 ((hi:Nat):Int),.int .u64 ((lo:Nat):Int),.int .u64 ((y:Nat):Int)]:List Value).toArray w (fun e w'=>e = .returned (.tuple #[.int .u64 (((hi*18446744073709551616+lo)/y:Nat):Int),.int .u64 (((hi*18446744073709551616+lo)%y:Nat):Int)])∧Below w.heap.size w w'):=by
  have hb:64-blen y = 0:=by have:=le_blen (A:=y) (n:=63) (by omega); omega
  refine Kw (N:=135) (rs:=[.tmp 6,.tmp 7]) [] Try.func197 rfl Try.ntmps197 Try.results197 (Nb rfl) trivial rfl ?_
  show LCode _ _ _ ⟨_,_⟩ _
  refine KD (KB ?_)
  refine KA (KH (v:=.int .u64 ((0:Nat):Int)) rfl) (Nb rfl) ?_
  refine KA (KH (v:=.int .u64 ((0:Nat):Int)) rfl) (Nb rfl) ?_
  refine KG ?_
  refine KD ?_
  refine KD (KB ?_)
  refine KA (KE rfl) (Nb rfl) ?_
  refine KA (KP rfl rfl (br_f (br_eql (b:=0)) (by omega))) (Nb rfl) ?_
  refine KG ?_
  refine Kp rfl ?_
  refine Km ?_
  refine KD ?_
  refine KD (KB ?_)
  refine KA (KE rfl) (Nb rfl) ?_
  refine KA (KE rfl) (Nb rfl) ?_
  refine KA (KP rfl rfl (br_f br_leq (by omega))) (Nb rfl) ?_
  refine KG ?_
  refine Kp rfl ?_
  refine Km ?_
  refine KD ?_
  refine KD (KB ?_)
  refine KA (KE rfl) (Nb rfl) ?_
  refine KA (KP rfl rfl (br_eql (b:=0))) (Nb rfl) ?_
  refine KG ?_
  first|refine Kf rfl (fun h27=>?_) (fun h27=>?_)|refine Ki rfl (fun h27=>?_) (fun h27=>?_)
  ·
    refine KD ?_
    refine Ka [] (by kernel_rfl) ?_
    refine KC 0 rfl (by kernel_rfl) (Nb rfl) (KE rfl) ?_
    refine KC 1 rfl (by kernel_rfl) (Nb rfl) (KE rfl) ?_
    refine KC 2 rfl (by kernel_rfl) (Nb rfl) (KP rfl rfl (br_quo64 (by omega) (by omega))) ?_
    refine KC 3 rfl (by kernel_rfl) (Nb rfl) (KE rfl) ?_
    refine KC 4 rfl (by kernel_rfl) (Nb rfl) (KE rfl) ?_
    refine KC 5 rfl (by kernel_rfl) (Nb rfl) (KP rfl rfl (br_rem64 (by omega))) ?_
    refine KC 6 rfl (by kernel_rfl) (Nb rfl) (KH rfl) ?_
    refine KC 7 rfl (by kernel_rfl) (Nb rfl) (KH rfl) ?_
    refine Ko (by kernel_rfl) ?_
    refine KY ?_
    refine ⟨[_,_],.cons rfl (.cons rfl .nil),fun a w' hr=>⟨?_,hr.fr.below⟩⟩
    subst h27
    rw [Nat.zero_mul,Nat.zero_add]
    rfl
  ·
    refine Km ?_
    refine KD (KB ?_)
    refine KA (KE rfl) (Nb rfl) ?_
    refine KK rfl (KX (KU (first:=[]) rfl en_192 rfl (Nb rfl) (fun w hw=>c_LeadingZeros64 _ (by omega) w) ?_))
    refine KA (Kb (v:=.int .u64 ((64-blen y:Nat):Int)) (Det.conv64 Try.underlying3 Try.underlying46 rfl (by omega)) (by rw [hb])) (Nb rfl) ?_
    refine KA (KH rfl) (Nb rfl) ?_
    refine KG ?_
    refine KD (KB ?_)
    refine KA (KE rfl) (Nb rfl) ?_
    refine KA (KE rfl) (Nb rfl) ?_
    refine KA (Kb (KP rfl rfl (br_shl64 (b:=0))) (vi (b:=y) (by omega))) (Nb rfl) ?_
    refine KA (KH rfl) (Nb rfl) ?_
    refine KG ?_
    refine KD (KB ?_)
    refine KA (KE rfl) (Nb rfl) ?_
    refine KA (KP rfl rfl (br_shr64 (b:=32) (by omega))) (Nb rfl) ?_
    refine KA (KH rfl) (Nb rfl) ?_
    refine KG ?_
    refine KD (KB ?_)
    refine KA (KE rfl) (Nb rfl) ?_
    refine KA (Kb (KP rfl rfl (br_and64 (b:=4294967295) (by omega) (by omega))) (vi (b:=y%4294967296) (by rw [and32]))) (Nb rfl) ?_
    refine KA (KH rfl) (Nb rfl) ?_
    refine KG ?_
    refine KD (KB ?_)
    refine KA (KE rfl) (Nb rfl) ?_
    refine KA (KE rfl) (Nb rfl) ?_
    refine KA (Kb (KP rfl rfl (br_shl64 (b:=0))) (vi (b:=hi) (by omega))) (Nb rfl) ?_
    refine KA (KE rfl) (Nb rfl) ?_
    refine KA (KE rfl) (Nb rfl) ?_
    refine KA (KP (v:=.int .u64 ((64:Nat):Int)) rfl rfl rfl) (Nb rfl) ?_
    refine KA (Kb (KP rfl rfl (br_shr64 (b:=64) (by omega))) (vi (b:=0) (by omega))) (Nb rfl) ?_
    refine KA (Kb (KP rfl rfl (br_or64 (by omega) (by omega))) (vi (b:=hi) (by rw [Nat.or_zero]))) (Nb rfl) ?_
    refine KA (KH rfl) (Nb rfl) ?_
    refine KG ?_
    refine KD (KB ?_)
    refine KA (KE rfl) (Nb rfl) ?_
    refine KA (KE rfl) (Nb rfl) ?_
    refine KA (Kb (KP rfl rfl (br_shl64 (b:=0))) (vi (b:=lo) (by omega))) (Nb rfl) ?_
    refine KA (KH rfl) (Nb rfl) ?_
    refine KG ?_
    refine KD (KB ?_)
    refine KA (KE rfl) (Nb rfl) ?_
    refine KA (KP rfl rfl (br_shr64 (b:=32) (by omega))) (Nb rfl) ?_
    refine KA (KH rfl) (Nb rfl) ?_
    refine KG ?_
    refine KD (KB ?_)
    refine KA (KE rfl) (Nb rfl) ?_
    refine KA (Kb (KP rfl rfl (br_and64 (b:=4294967295) (by omega) (by omega))) (vi (b:=lo%4294967296) (by rw [and32]))) (Nb rfl) ?_
    refine KA (KH rfl) (Nb rfl) ?_
    refine KG ?_
    refine KD (KB ?_)
    refine KA (KE rfl) (Nb rfl) ?_
    refine KA (KE rfl) (Nb rfl) ?_
    refine KA (KP rfl rfl (br_quo64 (by omega) (by omega))) (Nb rfl) ?_
    refine KA (KH rfl) (Nb rfl) ?_
    refine KG ?_
    refine KD (KB ?_)
    refine KA (KE rfl) (Nb rfl) ?_
    refine KA (KE rfl) (Nb rfl) ?_
    refine KA (KE rfl) (Nb rfl) ?_
    refine KA (KP rfl rfl (br_mul64)) (Nb rfl) ?_
    refine KA (Kb (KP rfl rfl (br_sub64 (Nat.mod_lt _ (by decide)))) (vi (b:=hi%(y/2^32)) (minus_div (by omega)))) (Nb rfl) ?_
    refine KA (KH rfl) (Nb rfl) ?_
    refine KG ?_
    refine LCode.cut (α:=Unit) (fun _=>True) (fun _=>⟨[(2,.int .u64 ((y:Nat):Int)),(9,.int .u64 ((y/2^32:Nat):Int)),(10,.int .u64 ((y%4294967296:Nat):Int)),(11,.int .u64 ((hi:Nat):Int)),(12,.int .u64 ((lo:Nat):Int)),(13,.int .u64 ((lo/2^32:Nat):Int)),(14,.int .u64 ((lo%4294967296:Nat):Int)),(8,.int .u64 ((0:Nat):Int)),(15,.int .u64 (((hi*4294967296+lo/2^32)/y:Nat):Int))],[]⟩) ?_ ?_
    ·
      refine LCode.block ?_
      refine KAQ (α:=Nat×Nat) (fun x=>x.1*(y/2^32)+x.2 = hi∧(hi*4294967296+lo/2^32)/y≤x.1∧x.2<4294967296) (fun x=>⟨[(2,.int .u64 ((y:Nat):Int)),(9,.int .u64 ((y/2^32:Nat):Int)),(10,.int .u64 ((y%4294967296:Nat):Int)),(11,.int .u64 ((hi:Nat):Int)),(12,.int .u64 ((lo:Nat):Int)),(13,.int .u64 ((lo/2^32:Nat):Int)),(14,.int .u64 ((lo%4294967296:Nat):Int)),(8,.int .u64 ((0:Nat):Int)),(15,.int .u64 ((x.1:Nat):Int)),(16,.int .u64 ((x.2:Nat):Int))],[]⟩) (fun x=>x.1) ((hi/(y/2^32),hi%(y/2^32))) (half_init _ _ _ hy hy2 (by first|assumption|exact Nat.mod_lt _ (by omega)) (by omega)) (KAF (by exact ⟨rfl,rfl,rfl,rfl,rfl,rfl,rfl,rfl,rfl,rfl,trivial⟩) (by repeat (first|exact Sel.nil _|refine Sel.cons (by repeat (first|exact Ph _|apply Pt_)) ?_))) ?_
      rintro x ⟨hq1,hq2,hq3⟩
      have hql:x.1<18446744073709551616:=by
        have h1:x.1*1≤x.1*(y/2^32):=Nat.mul_le_mul_left _ (by omega)
        have h2:hi<y:=by first|assumption|exact Nat.mod_lt _ (by omega)
        generalize x.1*(y/2^32) = z at *
        omega
      refine KD ?_
      refine KD ?_
      rcases Nat.lt_or_ge x.1 4294967296 with hge|hge
      rotate_left
      ·
        refine KB ?_
        refine KA (KE rfl) (Nb rfl) ?_
        refine KA (KP rfl rfl (br_t (br_geq (b:=4294967296)) hge)) (Nb rfl) ?_
        refine KA (KE rfl) (Nb rfl) ?_
        refine Ku rfl rfl rfl (Nb rfl) ?_
        refine Ku rfl rfl rfl (Nb rfl) ?_
        refine Ku rfl rfl rfl (Nb rfl) ?_
        refine Ku rfl rfl rfl (Nb rfl) ?_
        refine Ku rfl rfl rfl (Nb rfl) ?_
        refine Ku rfl rfl rfl (Nb rfl) ?_
        refine Ku rfl rfl rfl (Nb rfl) ?_
        refine Ku rfl rfl rfl (Nb rfl) ?_
        refine KA (KAE rfl rfl) (Nb rfl) ?_
        refine KG ?_
        have hcont:4294967296≤x.1∨(x.1<4294967296∧4294967296*x.2+(lo/2^32)<x.1*(y%4294967296)):=.inl hge
        have hm:=half_more (by omega) (by first|assumption|exact Nat.mod_lt _ (by omega)) (by omega) hq1 hq2 hcont
        refine Kx rfl ?_
        refine Km ?_
        refine LCode.block ?_
        refine KD (KB ?_)
        refine KA (KE rfl) (Nb rfl) ?_
        refine KA (Kb (KP rfl rfl (br_sub64 (b:=1) (by omega))) (vi (b:=x.1-1) (by have:=hm.1; have:x.1<18446744073709551616:=hql; omega))) (Nb rfl) ?_
        refine KA (KH rfl) (Nb rfl) ?_
        refine KG ?_
        refine KD (KB ?_)
        refine KA (KE rfl) (Nb rfl) ?_
        refine KA (KE rfl) (Nb rfl) ?_
        refine KA (Kb (KP rfl rfl br_add64) (vi (b:=x.2+y/2^32) (by omega))) (Nb rfl) ?_
        refine KA (KH rfl) (Nb rfl) ?_
        refine KG ?_
        refine KD (KB ?_)
        refine KA (KE rfl) (Nb rfl) ?_
        refine KA (KP rfl rfl (br_geq (b:=4294967296))) (Nb rfl) ?_
        refine KG ?_
        first|refine Kf rfl (fun hbrk=>?_) (fun hbrk=>?_)|refine Ki rfl (fun hbrk=>?_) (fun hbrk=>?_)
        ·
          refine KAI ?_
          have hqq:=half_break hy (by first|assumption|exact Nat.mod_lt _ (by omega)) hm.2.1 hm.2.2 hbrk
          rw [hqq]
          exact ⟨(),trivial,KAF (by exact ⟨rfl,rfl,rfl,rfl,rfl,rfl,rfl,rfl,rfl,trivial⟩) (by repeat (first|exact Sel.nil _|refine Sel.cons (by repeat (first|exact Ph _|apply Pt_)) ?_))⟩
        ·
          refine Km ?_
          refine ⟨(x.1-1,x.2+y/2^32),⟨hm.2.1,hm.2.2,Nat.lt_of_not_le hbrk⟩,?_,KAF (by exact ⟨rfl,rfl,rfl,rfl,rfl,rfl,rfl,rfl,rfl,rfl,trivial⟩) (by repeat (first|exact Sel.nil _|refine Sel.cons (by repeat (first|exact Ph _|apply Pt_)) ?_))⟩
          show x.1-1<x.1
          have:=hm.1
          omega
      ·
        refine KB ?_
        refine KA (KE rfl) (Nb rfl) ?_
        refine KA (KP rfl rfl (br_f (br_geq (b:=4294967296)) (Nat.not_le_of_lt hge))) (Nb rfl) ?_
        refine KA (KE rfl) (Nb rfl) ?_
        refine Ke rfl rfl (KE rfl) (Nb rfl) ?_
        refine Ke rfl rfl (KE rfl) (Nb rfl) ?_
        refine Ke rfl rfl (Kb (KP rfl rfl br_mul64) (vi (b:=x.1*(y%4294967296)) (by exact Nat.mod_eq_of_lt (by have:=Nat.mul_le_mul (show x.1≤4294967295 by omega) (show y%4294967296≤4294967295 by omega); omega)))) (Nb rfl) ?_
        refine Ke rfl rfl (KE rfl) (Nb rfl) ?_
        refine Ke rfl rfl (KP rfl rfl (br_mul64 (a:=4294967296))) (Nb rfl) ?_
        refine Ke rfl rfl (KE rfl) (Nb rfl) ?_
        refine Ke rfl rfl (Kb (KP rfl rfl br_add64) (vi (b:=4294967296*x.2+(lo/2^32)) (by omega))) (Nb rfl) ?_
        refine Ke rfl rfl (KP rfl rfl (br_gtr)) (Nb rfl) ?_
        refine KA (Kz rfl rfl) (Nb rfl) ?_
        refine KG ?_
        first|refine Kf rfl (fun hgt=>?_) (fun hgt=>?_)|refine Ki rfl (fun hgt=>?_) (fun hgt=>?_)
        ·
          have hcont:4294967296≤x.1∨(x.1<4294967296∧4294967296*x.2+(lo/2^32)<x.1*(y%4294967296)):=.inr ⟨by omega,hgt⟩
          have hm:=half_more (by omega) (by first|assumption|exact Nat.mod_lt _ (by omega)) (by omega) hq1 hq2 hcont
          refine Km ?_
          refine LCode.block ?_
          refine KD (KB ?_)
          refine KA (KE rfl) (Nb rfl) ?_
          refine KA (Kb (KP rfl rfl (br_sub64 (b:=1) (by omega))) (vi (b:=x.1-1) (by have:=hm.1; have:x.1<18446744073709551616:=hql; omega))) (Nb rfl) ?_
          refine KA (KH rfl) (Nb rfl) ?_
          refine KG ?_
          refine KD (KB ?_)
          refine KA (KE rfl) (Nb rfl) ?_
          refine KA (KE rfl) (Nb rfl) ?_
          refine KA (Kb (KP rfl rfl br_add64) (vi (b:=x.2+y/2^32) (by omega))) (Nb rfl) ?_
          refine KA (KH rfl) (Nb rfl) ?_
          refine KG ?_
          refine KD (KB ?_)
          refine KA (KE rfl) (Nb rfl) ?_
          refine KA (KP rfl rfl (br_geq (b:=4294967296))) (Nb rfl) ?_
          refine KG ?_
          first|refine Kf rfl (fun hbrk=>?_) (fun hbrk=>?_)|refine Ki rfl (fun hbrk=>?_) (fun hbrk=>?_)
          ·
            refine KAI ?_
            have hqq:=half_break hy (by first|assumption|exact Nat.mod_lt _ (by omega)) hm.2.1 hm.2.2 hbrk
            rw [hqq]
            exact ⟨(),trivial,KAF (by exact ⟨rfl,rfl,rfl,rfl,rfl,rfl,rfl,rfl,rfl,trivial⟩) (by repeat (first|exact Sel.nil _|refine Sel.cons (by repeat (first|exact Ph _|apply Pt_)) ?_))⟩
          ·
            refine Km ?_
            refine ⟨(x.1-1,x.2+y/2^32),⟨hm.2.1,hm.2.2,Nat.lt_of_not_le hbrk⟩,?_,KAF (by exact ⟨rfl,rfl,rfl,rfl,rfl,rfl,rfl,rfl,rfl,rfl,trivial⟩) (by repeat (first|exact Sel.nil _|refine Sel.cons (by repeat (first|exact Ph _|apply Pt_)) ?_))⟩
            show x.1-1<x.1
            have:=hm.1
            omega
        ·
          have hle:x.1*(y%4294967296)≤4294967296*x.2+(lo/2^32):=Nat.le_of_not_lt hgt
          refine KAI ?_
          have hqq:=half_quit (by omega) hq1 hq2 hle
          rw [hqq]
          exact ⟨(),trivial,KAF (by exact ⟨rfl,rfl,rfl,rfl,rfl,rfl,rfl,rfl,rfl,trivial⟩) (by repeat (first|exact Sel.nil _|refine Sel.cons (by repeat (first|exact Ph _|apply Pt_)) ?_))⟩
    ·
      intro _ _
      refine KD (KB ?_)
      refine KA (KE rfl) (Nb rfl) ?_
      refine KA (KP rfl rfl (br_mul64 (b:=4294967296))) (Nb rfl) ?_
      refine KA (KE rfl) (Nb rfl) ?_
      refine KA (KP rfl rfl (br_add64)) (Nb rfl) ?_
      refine KA (KE rfl) (Nb rfl) ?_
      refine KA (KE rfl) (Nb rfl) ?_
      refine KA (KP rfl rfl (br_mul64)) (Nb rfl) ?_
      refine KA (Kb (KP rfl rfl (br_sub64 (Nat.mod_lt _ (by decide)))) (vi (b:=(hi*4294967296+lo/2^32)%y) (by exact half_rest (by omega) hy2))) (Nb rfl) ?_
      refine KA (KH rfl) (Nb rfl) ?_
      refine KG ?_
      refine KD ?_
      have hrr:(hi*4294967296+lo/2^32)%y<y:=Nat.mod_lt _ (by omega)
      refine KB ?_
      refine KA (KE rfl) (Nb rfl) ?_
      refine KA (KE rfl) (Nb rfl) ?_
      refine KA (KP rfl rfl (br_quo64 (by omega) (by omega))) (Nb rfl) ?_
      refine KA (KH rfl) (Nb rfl) ?_
      refine KG ?_
      refine KD (KB ?_)
      refine KA (KE rfl) (Nb rfl) ?_
      refine KA (KE rfl) (Nb rfl) ?_
      refine KA (KE rfl) (Nb rfl) ?_
      refine KA (KP rfl rfl (br_mul64)) (Nb rfl) ?_
      refine KA (Kb (KP rfl rfl (br_sub64 (Nat.mod_lt _ (by decide)))) (vi (b:=((hi*4294967296+lo/2^32)%y)%(y/2^32)) (minus_div (by omega)))) (Nb rfl) ?_
      refine KA (KH rfl) (Nb rfl) ?_
      refine KG ?_
      refine LCode.cut (α:=Unit) (fun _=>True) (fun _=>⟨[(2,.int .u64 ((y:Nat):Int)),(9,.int .u64 ((y/2^32:Nat):Int)),(10,.int .u64 ((y%4294967296:Nat):Int)),(14,.int .u64 ((lo%4294967296:Nat):Int)),(8,.int .u64 ((0:Nat):Int)),(15,.int .u64 (((hi*4294967296+lo/2^32)/y:Nat):Int)),(17,.int .u64 (((hi*4294967296+lo/2^32)%y:Nat):Int)),(18,.int .u64 ((((hi*4294967296+lo/2^32)%y*4294967296+lo%4294967296)/y:Nat):Int))],[]⟩) ?_ ?_
      ·
        refine LCode.block ?_
        refine KAQ (α:=Nat×Nat) (fun x=>x.1*(y/2^32)+x.2 = ((hi*4294967296+lo/2^32)%y)∧(((hi*4294967296+lo/2^32)%y)*4294967296+lo%4294967296)/y≤x.1∧x.2<4294967296) (fun x=>⟨[(2,.int .u64 ((y:Nat):Int)),(9,.int .u64 ((y/2^32:Nat):Int)),(10,.int .u64 ((y%4294967296:Nat):Int)),(14,.int .u64 ((lo%4294967296:Nat):Int)),(8,.int .u64 ((0:Nat):Int)),(15,.int .u64 (((hi*4294967296+lo/2^32)/y:Nat):Int)),(17,.int .u64 (((hi*4294967296+lo/2^32)%y:Nat):Int)),(18,.int .u64 ((x.1:Nat):Int)),(16,.int .u64 ((x.2:Nat):Int))],[]⟩) (fun x=>x.1) ((((hi*4294967296+lo/2^32)%y)/(y/2^32),((hi*4294967296+lo/2^32)%y)%(y/2^32))) (half_init _ _ _ hy hy2 (by first|assumption|exact Nat.mod_lt _ (by omega)) (by omega)) (KAF (by exact ⟨rfl,rfl,rfl,rfl,rfl,rfl,rfl,rfl,rfl,trivial⟩) (by repeat (first|exact Sel.nil _|refine Sel.cons (by repeat (first|exact Ph _|apply Pt_)) ?_))) ?_
        rintro x ⟨hq1,hq2,hq3⟩
        have hql:x.1<18446744073709551616:=by
          have h1:x.1*1≤x.1*(y/2^32):=Nat.mul_le_mul_left _ (by omega)
          have h2:((hi*4294967296+lo/2^32)%y)<y:=by first|assumption|exact Nat.mod_lt _ (by omega)
          generalize x.1*(y/2^32) = z at *
          omega
        refine KD ?_
        refine KD ?_
        rcases Nat.lt_or_ge x.1 4294967296 with hge|hge
        rotate_left
        ·
          refine KB ?_
          refine KA (KE rfl) (Nb rfl) ?_
          refine KA (KP rfl rfl (br_t (br_geq (b:=4294967296)) hge)) (Nb rfl) ?_
          refine KA (KE rfl) (Nb rfl) ?_
          refine Ku rfl rfl rfl (Nb rfl) ?_
          refine Ku rfl rfl rfl (Nb rfl) ?_
          refine Ku rfl rfl rfl (Nb rfl) ?_
          refine Ku rfl rfl rfl (Nb rfl) ?_
          refine Ku rfl rfl rfl (Nb rfl) ?_
          refine Ku rfl rfl rfl (Nb rfl) ?_
          refine Ku rfl rfl rfl (Nb rfl) ?_
          refine Ku rfl rfl rfl (Nb rfl) ?_
          refine KA (KAE rfl rfl) (Nb rfl) ?_
          refine KG ?_
          have hcont:4294967296≤x.1∨(x.1<4294967296∧4294967296*x.2+(lo%4294967296)<x.1*(y%4294967296)):=.inl hge
          have hm:=half_more (by omega) (by first|assumption|exact Nat.mod_lt _ (by omega)) (by omega) hq1 hq2 hcont
          refine Kx rfl ?_
          refine Km ?_
          refine LCode.block ?_
          refine KD (KB ?_)
          refine KA (KE rfl) (Nb rfl) ?_
          refine KA (Kb (KP rfl rfl (br_sub64 (b:=1) (by omega))) (vi (b:=x.1-1) (by have:=hm.1; have:x.1<18446744073709551616:=hql; omega))) (Nb rfl) ?_
          refine KA (KH rfl) (Nb rfl) ?_
          refine KG ?_
          refine KD (KB ?_)
          refine KA (KE rfl) (Nb rfl) ?_
          refine KA (KE rfl) (Nb rfl) ?_
          refine KA (Kb (KP rfl rfl br_add64) (vi (b:=x.2+y/2^32) (by omega))) (Nb rfl) ?_
          refine KA (KH rfl) (Nb rfl) ?_
          refine KG ?_
          refine KD (KB ?_)
          refine KA (KE rfl) (Nb rfl) ?_
          refine KA (KP rfl rfl (br_geq (b:=4294967296))) (Nb rfl) ?_
          refine KG ?_
          first|refine Kf rfl (fun hbrk=>?_) (fun hbrk=>?_)|refine Ki rfl (fun hbrk=>?_) (fun hbrk=>?_)
          ·
            refine KAI ?_
            have hqq:=half_break hy (by first|assumption|exact Nat.mod_lt _ (by omega)) hm.2.1 hm.2.2 hbrk
            rw [hqq]
            exact ⟨(),trivial,KAF (by exact ⟨rfl,rfl,rfl,rfl,rfl,rfl,rfl,rfl,trivial⟩) (by repeat (first|exact Sel.nil _|refine Sel.cons (by repeat (first|exact Ph _|apply Pt_)) ?_))⟩
          ·
            refine Km ?_
            refine ⟨(x.1-1,x.2+y/2^32),⟨hm.2.1,hm.2.2,Nat.lt_of_not_le hbrk⟩,?_,KAF (by exact ⟨rfl,rfl,rfl,rfl,rfl,rfl,rfl,rfl,rfl,trivial⟩) (by repeat (first|exact Sel.nil _|refine Sel.cons (by repeat (first|exact Ph _|apply Pt_)) ?_))⟩
            show x.1-1<x.1
            have:=hm.1
            omega
        ·
          refine KB ?_
          refine KA (KE rfl) (Nb rfl) ?_
          refine KA (KP rfl rfl (br_f (br_geq (b:=4294967296)) (Nat.not_le_of_lt hge))) (Nb rfl) ?_
          refine KA (KE rfl) (Nb rfl) ?_
          refine Ke rfl rfl (KE rfl) (Nb rfl) ?_
          refine Ke rfl rfl (KE rfl) (Nb rfl) ?_
          refine Ke rfl rfl (Kb (KP rfl rfl br_mul64) (vi (b:=x.1*(y%4294967296)) (by exact Nat.mod_eq_of_lt (by have:=Nat.mul_le_mul (show x.1≤4294967295 by omega) (show y%4294967296≤4294967295 by omega); omega)))) (Nb rfl) ?_
          refine Ke rfl rfl (KE rfl) (Nb rfl) ?_
          refine Ke rfl rfl (KP rfl rfl (br_mul64 (a:=4294967296))) (Nb rfl) ?_
          refine Ke rfl rfl (KE rfl) (Nb rfl) ?_
          refine Ke rfl rfl (Kb (KP rfl rfl br_add64) (vi (b:=4294967296*x.2+(lo%4294967296)) (by omega))) (Nb rfl) ?_
          refine Ke rfl rfl (KP rfl rfl (br_gtr)) (Nb rfl) ?_
          refine KA (Kz rfl rfl) (Nb rfl) ?_
          refine KG ?_
          first|refine Kf rfl (fun hgt=>?_) (fun hgt=>?_)|refine Ki rfl (fun hgt=>?_) (fun hgt=>?_)
          ·
            have hcont:4294967296≤x.1∨(x.1<4294967296∧4294967296*x.2+(lo%4294967296)<x.1*(y%4294967296)):=.inr ⟨by omega,hgt⟩
            have hm:=half_more (by omega) (by first|assumption|exact Nat.mod_lt _ (by omega)) (by omega) hq1 hq2 hcont
            refine Km ?_
            refine LCode.block ?_
            refine KD (KB ?_)
            refine KA (KE rfl) (Nb rfl) ?_
            refine KA (Kb (KP rfl rfl (br_sub64 (b:=1) (by omega))) (vi (b:=x.1-1) (by have:=hm.1; have:x.1<18446744073709551616:=hql; omega))) (Nb rfl) ?_
            refine KA (KH rfl) (Nb rfl) ?_
            refine KG ?_
            refine KD (KB ?_)
            refine KA (KE rfl) (Nb rfl) ?_
            refine KA (KE rfl) (Nb rfl) ?_
            refine KA (Kb (KP rfl rfl br_add64) (vi (b:=x.2+y/2^32) (by omega))) (Nb rfl) ?_
            refine KA (KH rfl) (Nb rfl) ?_
            refine KG ?_
            refine KD (KB ?_)
            refine KA (KE rfl) (Nb rfl) ?_
            refine KA (KP rfl rfl (br_geq (b:=4294967296))) (Nb rfl) ?_
            refine KG ?_
            first|refine Kf rfl (fun hbrk=>?_) (fun hbrk=>?_)|refine Ki rfl (fun hbrk=>?_) (fun hbrk=>?_)
            ·
              refine KAI ?_
              have hqq:=half_break hy (by first|assumption|exact Nat.mod_lt _ (by omega)) hm.2.1 hm.2.2 hbrk
              rw [hqq]
              exact ⟨(),trivial,KAF (by exact ⟨rfl,rfl,rfl,rfl,rfl,rfl,rfl,rfl,trivial⟩) (by repeat (first|exact Sel.nil _|refine Sel.cons (by repeat (first|exact Ph _|apply Pt_)) ?_))⟩
            ·
              refine Km ?_
              refine ⟨(x.1-1,x.2+y/2^32),⟨hm.2.1,hm.2.2,Nat.lt_of_not_le hbrk⟩,?_,KAF (by exact ⟨rfl,rfl,rfl,rfl,rfl,rfl,rfl,rfl,rfl,trivial⟩) (by repeat (first|exact Sel.nil _|refine Sel.cons (by repeat (first|exact Ph _|apply Pt_)) ?_))⟩
              show x.1-1<x.1
              have:=hm.1
              omega
          ·
            have hle:x.1*(y%4294967296)≤4294967296*x.2+(lo%4294967296):=Nat.le_of_not_lt hgt
            refine KAI ?_
            have hqq:=half_quit (by omega) hq1 hq2 hle
            rw [hqq]
            exact ⟨(),trivial,KAF (by exact ⟨rfl,rfl,rfl,rfl,rfl,rfl,rfl,rfl,trivial⟩) (by repeat (first|exact Sel.nil _|refine Sel.cons (by repeat (first|exact Ph _|apply Pt_)) ?_))⟩
      ·
        intro _ _
        refine KD (KB ?_)
        refine KA (KE rfl) (Nb rfl) ?_
        refine KA (KP rfl rfl (br_mul64 (b:=4294967296))) (Nb rfl) ?_
        refine KA (KE rfl) (Nb rfl) ?_
        refine KA (KP rfl rfl (br_add64)) (Nb rfl) ?_
        refine KA (KE rfl) (Nb rfl) ?_
        refine KA (KP rfl rfl (br_mul64 (b:=4294967296))) (Nb rfl) ?_
        refine KA (KE rfl) (Nb rfl) ?_
        refine KA (KP rfl rfl (br_add64)) (Nb rfl) ?_
        refine KA (KE rfl) (Nb rfl) ?_
        refine KA (KE rfl) (Nb rfl) ?_
        refine KA (KP rfl rfl (br_mul64)) (Nb rfl) ?_
        refine KA (Kb (KP rfl rfl (br_sub64 (Nat.mod_lt _ (by decide)))) (vi (b:=(((hi*4294967296+lo/2^32)%y)*4294967296+lo%4294967296)%y) (by exact half_rest (by omega) hy2))) (Nb rfl) ?_
        refine KA (KE rfl) (Nb rfl) ?_
        refine KA (Kb (KP rfl rfl (br_shr64 (b:=0) (Nat.lt_trans (Nat.mod_lt _ (by omega)) hy2))) (vi (b:=(((hi*4294967296+lo/2^32)%y)*4294967296+lo%4294967296)%y) (by rw [Nat.pow_zero,Nat.div_one]))) (Nb rfl) ?_
        refine KA (KH rfl) (Nb rfl) ?_
        refine KA (KH rfl) (Nb rfl) ?_
        refine KG (KY ?_)
        have hv:=halves (hi:=hi) (lo:=lo) (show 0<y by omega)
        have hq9:(hi*18446744073709551616+lo)/y<18446744073709551616:=by
          rw [Nat.div_lt_iff_lt_mul (by omega),Nat.mul_comm]
          omega
        refine ⟨[_,_],.cons rfl (.cons rfl .nil),fun a w' hr=>⟨?_,hr.fr.below⟩⟩
        rw [← hv.1,← hv.2]
        rw [← hv.1] at hq9
        refine congrArg (fun n:Nat=>Ending.returned (.tuple #[.int .u64 (n:Int),_])) ?_
        exact wrap_sum hq9
end Go.Proofs.Ytljblbgogjieaaa
set_option linter.unusedVariables false
set_option linter.unusedSimpArgs false
set_option maxRecDepth 20000
namespace Go.Proofs.Ytljblbgogjieaaa
open Go Go.RowKit
theorem nw_ne {A:Nat} (h:nw A≠0):2^(64*(nw A-1))≤A:=by
  have h0:A≠0:=by intro e; subst e; exact h rfl
  refine Nat.le_trans (Nat.pow_le_pow_right (by decide) ?_) (blen_pos h0)
  unfold nw at *; omega
theorem bits_words {A:Nat} (h:nw A≠0):(nw A-1)*64+blen (limb A (nw A-1)) = blen A:=by
  have h1:=nw_ne h
  rw [limb_top (A:=A) (n:=nw A-1) (by rw [show nw A-1+1 = nw A by omega]; exact lt_nw A)]
  have:=blen_shr h1
  omega
theorem mod_nw (A:Nat):A%2^(64*nw A) = A:=Nat.mod_eq_of_lt (lt_nw A)
theorem mod_zero_word (A B:Nat):A%2^(64*0)*B = 0:=by rw [Nat.mul_zero,Nat.pow_zero,Nat.mod_one,Nat.zero_mul]
theorem row_end {X c A B i : Nat} (h : X + c * 2 ^ (64 * (i + nw B)) = A % 2 ^ (64 * i) * B + limb A i * (B % 2 ^ (64 * nw B)) * 2 ^ (64 * i)) (hX : X < 2 ^ (64 * (i + nw B))) :
    setl X (i+nw B) c = A%2^(64*(i+1))*B:=by
  have h0:=limb_high hX (Nat.le_refl _)
  have h1:=setl_eq X (i+nw B) c
  rw [h0,Nat.zero_mul,Nat.add_zero] at h1
  rw [h1,h,mod_nw,mod_succ_limb,Nat.add_mul]
  congr 1
  rw [Nat.mul_assoc,Nat.mul_comm,Nat.mul_assoc,Nat.mul_assoc,Nat.mul_comm B]
  exact Nat.mul_assoc _ _ _
theorem row_zero (A B i:Nat):A%2^(64*i)*B+0*2^(64*(i+0)) = A%2^(64*i)*B+limb A i*(B%2^(64*0))*2^(64*i):=by
  rw [Nat.mul_zero,Nat.pow_zero,Nat.mod_one,Nat.mul_zero,Nat.zero_mul,Nat.zero_mul]
theorem row_lt (A B i:Nat):A%2^(64*i)*B<2^(64*(i+nw B)):=by
  rw [pow64_add]
  exact Nat.mul_lt_mul_of_lt_of_le (Nat.mod_lt _ (pow64_pos i)) (Nat.le_of_lt (lt_nw B)) (pow64_pos _)
theorem bit_of (A i:Nat):(limb A (i/64)/2^(i%64) &&& 1) = A/2^i%2:=by
  rw [Nat.and_one_is_mod]
  have h1:A/2^i = A/2^(64*(i/64))/2^(i%64):=by
    rw [Nat.div_div_eq_div_mul,← Nat.pow_add]; congr 2; omega
  rw [h1]
  unfold limb
  generalize A/2^(64*(i/64)) = q
  have hr:i%64<64:=Nat.mod_lt _ (by decide)
  generalize i%64 = r at *
  have e:(18446744073709551616:Nat) = 2^r*(2*2^(63-r)):=by
    rw [← Nat.pow_succ',← Nat.pow_add,show r+(63-r+1) = 64 by omega]
  rw [e,Nat.mod_mul_right_div_self,Nat.mod_mul_right_mod]
theorem c_nat_Mul (A B:Nat) (hA:A<W9) (hB:B<W9) (w:World)  : Calls Try.prog 185 ([natV A,natV B]:List Value).toArray w (fun e w'=>e = .returned (wideV (A*B))∧Below w.heap.size w w'):=by
  refine Kw (N:=74) (rs:=[.cell 4 230]) [] Try.func185 rfl Try.ntmps185 Try.results185 (Nb rfl) trivial rfl ?_
  show LCode _ _ _ ⟨_,_⟩ _
  refine KD (KB ?_)
  refine KK rfl (KX (KQ (Ks rfl) (Nb rfl) (fun b2=>?_)))
  refine KK rfl (KX (KQ (Ks rfl) (Nb rfl) (fun b3=>?_)))
  refine KK rfl (KX (KQ (Kd zr_230) (Nb rfl) (fun b4=>?_)))
  refine KG ?_
  refine KD (KB ?_)
  refine KK rfl (KX (KQ (Kd zr_230) (Nb rfl) (fun b5=>?_)))
  refine KG ?_
  refine KD (KB ?_)
  refine KK rfl (KX (KU (first:=[]) rfl en_172 rfl (Nb rfl) (fun w hw=>c_nat_used _ _ _ w (hw _ (by repeat (first|exact Mh _|apply Mt))) (by omega)) ?_))
  refine KK rfl (KX (KU (first:=[]) rfl en_172 rfl (Nb rfl) (fun w hw=>c_nat_used _ _ _ w (hw _ (by repeat (first|exact Mh _|apply Mt))) (by omega)) ?_))
  refine KA (KH rfl) (Nb rfl) ?_
  refine KA (KH rfl) (Nb rfl) ?_
  refine KG ?_
  refine KD ?_
  refine KD (KB ?_)
  refine KA (KE rfl) (Nb rfl) ?_
  refine KA (KE (v:=.int .i64 ((0:Nat):Int)) rfl) (Nb rfl) ?_
  refine KG ?_
  refine LCode.block ?_
  refine KAQ (α:=Nat) (fun x=>x≤nw A) (fun x=>⟨[(2,.pointer (some ⟨b2,0,none⟩)),(3,.pointer (some ⟨b3,0,none⟩)),(4,.pointer (some ⟨b4,0,none⟩)),(5,.pointer (some ⟨b5,0,none⟩)),(7,.int .i64 ((nw B:Nat):Int)),(16,.int .i64 ((nw A:Nat):Int)),(17,.int .i64 ((x:Nat):Int))],[.blk b5 ⟨true,wideL (A%2^(64*x)*B),230,(0,0)⟩,.blk b4 ⟨true,vec .u64 18 (fun _=>0),230,(0,0)⟩,.blk b3 ⟨true,natL B,25,(0,0)⟩,.blk b2 ⟨true,natL A,25,(0,0)⟩]⟩) (fun x=>nw A-x) (0) (Nat.zero_le _) (Sub.re (Sub.cells (b:=b5) (cs':=wideL (A%2^(64*0)*B)) (by repeat (first|exact Sh _|apply St_)) (by rw [mod_zero_word]; exact vec_zeros 18)) (KAF ⟨rfl,rfl,rfl,rfl,rfl,rfl,rfl,trivial⟩ (by repeat (first|exact Sel.nil _|refine Sel.cons (by repeat (first|exact Ph _|apply Pt_)) ?_)))) ?_
  intro i hi
  refine KD ?_
  have hA9:=nw_w9 hA
  have hB9:=nw_w9 hB
  refine KB ?_
  refine KA (KP rfl rfl (br_lss)) (Nb rfl) ?_
  refine KG ?_
  refine KD ?_
  first|refine Kf rfl (fun h18=>?_) (fun h18=>?_)|refine Ki rfl (fun h18=>?_) (fun h18=>?_)
  ·
    refine Km ?_
    refine KD ?_
    refine LCode.block ?_
    refine KD (KB ?_)
    refine KA (KE rfl) (Nb rfl) ?_
    refine KA (KH rfl) (Nb rfl) ?_
    refine KG ?_
    refine KD (KB ?_)
    refine KA (KH (v:=.int .u64 ((0:Nat):Int)) rfl) (Nb rfl) ?_
    refine KG ?_
    refine KD ?_
    refine KD (KB ?_)
    refine KA (KE rfl) (Nb rfl) ?_
    refine KA (KE (v:=.int .i64 ((0:Nat):Int)) rfl) (Nb rfl) ?_
    refine KG ?_
    refine LCode.block ?_
    refine KAQ (α:=Nat×Nat×Nat) (fun x=>x.1≤nw B∧x.2.2<18446744073709551616∧x.2.1<2^(64*(i+nw B))∧x.2.1+x.2.2*2^(64*(i+x.1)) = A%2^(64*i)*B+limb A i*(B%2^(64*x.1))*2^(64*i)) (fun x=>⟨[(2,.pointer (some ⟨b2,0,none⟩)),(3,.pointer (some ⟨b3,0,none⟩)),(4,.pointer (some ⟨b4,0,none⟩)),(5,.pointer (some ⟨b5,0,none⟩)),(7,.int .i64 ((nw B:Nat):Int)),(8,.int .i64 ((i:Nat):Int)),(9,.int .u64 ((x.2.2:Nat):Int)),(16,.int .i64 ((nw A:Nat):Int)),(17,.int .i64 ((i:Nat):Int)),(20,.int .i64 ((nw B:Nat):Int)),(21,.int .i64 ((x.1:Nat):Int))],[.blk b5 ⟨true,wideL x.2.1,230,(0,0)⟩,.blk b4 ⟨true,vec .u64 18 (fun _=>0),230,(0,0)⟩,.blk b3 ⟨true,natL B,25,(0,0)⟩,.blk b2 ⟨true,natL A,25,(0,0)⟩]⟩) (fun x=>nw B-x.1) ((0,A%2^(64*i)*B,0)) (⟨Nat.zero_le _,show (0:Nat)<18446744073709551616 by decide,row_lt A B i,row_zero A B i⟩) (KAF ⟨rfl,rfl,rfl,rfl,rfl,rfl,rfl,rfl,rfl,rfl,rfl,trivial⟩ (by repeat (first|exact Sel.nil _|refine Sel.cons (by repeat (first|exact Ph _|apply Pt_)) ?_))) ?_
    intro x ⟨hx1,hx2,hx3,hx4⟩
    refine KD (KB ?_)
    refine KA (KP rfl rfl (br_lss)) (Nb rfl) ?_
    refine KG ?_
    refine KD ?_
    first|refine Kf rfl (fun h22=>?_) (fun h22=>?_)|refine Ki rfl (fun h22=>?_) (fun h22=>?_)
    ·
      refine Km ?_
      refine KD ?_
      refine LCode.block ?_
      refine KD (KB ?_)
      refine KA (KE rfl) (Nb rfl) ?_
      refine KA (KH rfl) (Nb rfl) ?_
      refine KG ?_
      refine KD ?_
      have hla:=limb_lt A i
      have hlb:=limb_lt B x.1
      have hlx:=limb_lt x.2.1 (i+x.1)
      have h18:i<nw A:=h18
      have h22:x.1<nw B:=h22
      refine Ka [] (by kernel_rfl) ?_
      refine KC 0 rfl (by kernel_rfl) (Nb rfl) (KE rfl) ?_
      refine KC 1 rfl (by kernel_rfl) (Nb rfl) (KN (o':=0) Try.underlying25 rfl rfl rfl sz_23 (by decide)) ?_
      refine KC 2 rfl (by kernel_rfl) (Nb rfl) (Kv Try.underlying23 sz_22 rfl rfl (by omega)) ?_
      refine LAny.take 3 rfl (by kernel_rfl) (Nb rfl) (KM rfl (by repeat (first|exact Mh _|apply Mt)) (Kc Try.underlying22 rfl (by exact KAD _ (show i<9 by omega)))) ?_
      refine KC 4 rfl (by kernel_rfl) (Nb rfl) (KE rfl) ?_
      refine KC 5 rfl (by kernel_rfl) (Nb rfl) (KN (o':=0) Try.underlying25 rfl rfl rfl sz_23 (by decide)) ?_
      refine KC 6 rfl (by kernel_rfl) (Nb rfl) (Kv Try.underlying23 sz_22 rfl rfl (by omega)) ?_
      refine LAny.take 7 rfl (by kernel_rfl) (Nb rfl) (KM rfl (by repeat (first|exact Mh _|apply Mt)) (Kc Try.underlying22 rfl (by exact KAD _ (show x.1<9 by omega)))) ?_
      refine Kt 8 rfl rfl (by kernel_rfl) (KU (first:=[]) rfl en_193 rfl (Nb rfl) (fun w hw=>c_Mul64 _ _ (by omega) (by omega) w) ?_)
      refine KC 9 rfl (by kernel_rfl) (Nb rfl) (KE rfl) ?_
      refine KC 10 rfl (by kernel_rfl) (Nb rfl) (Kj rfl rfl) ?_
      refine KC 11 rfl (by kernel_rfl) (Nb rfl) (Kj rfl rfl) ?_
      refine KC 12 rfl (by kernel_rfl) (Nb rfl) (KH rfl) ?_
      refine KC 13 rfl (by kernel_rfl) (Nb rfl) (KH rfl) ?_
      refine Ko (by kernel_rfl) ?_
      refine KD (KB ?_)
      refine KA (KH (v:=.int .u64 ((0:Nat):Int)) rfl) (Nb rfl) ?_
      refine KG ?_
      refine KD (KB ?_)
      refine KA (KE rfl) (Nb rfl) ?_
      refine KA (KE rfl) (Nb rfl) ?_
      refine KA (KE rfl) (Nb rfl) ?_
      refine KA (KP rfl rfl (KAT (by omega))) (Nb rfl) ?_
      refine KA (KN (o':=0) Try.underlying230 rfl rfl rfl sz_228 (by decide)) (Nb rfl) ?_
      refine KA (Kv Try.underlying228 sz_22 rfl rfl (by omega)) (Nb rfl) ?_
      refine LOps.det (KM rfl (by repeat (first|exact Mh _|apply Mt)) (Kc Try.underlying22 rfl (by exact KAK _ (show i+x.1<18 by omega)))) (Nb rfl) ?_
      refine KA (Det.add64 (c:=0) ex_184 rfl rfl rfl (by omega)) (Nb rfl) ?_
      refine KA (KE rfl) (Nb rfl) ?_
      refine KA (Kj rfl rfl) (Nb rfl) ?_
      refine KA (Kj rfl rfl) (Nb rfl) ?_
      refine KA (KH rfl) (Nb rfl) ?_
      refine KA (KH rfl) (Nb rfl) ?_
      refine KG ?_
      refine KD (KB ?_)
      refine KA (KE rfl) (Nb rfl) ?_
      refine KA (KE rfl) (Nb rfl) ?_
      refine KA (KP rfl rfl (br_add64)) (Nb rfl) ?_
      refine KA (KH rfl) (Nb rfl) ?_
      refine KG ?_
      refine KD (KB ?_)
      refine KA (KE rfl) (Nb rfl) ?_
      refine KA (KE rfl) (Nb rfl) ?_
      refine KA (Det.add64 (c:=0) ex_184 rfl rfl rfl (by omega)) (Nb rfl) ?_
      refine KA (KE rfl) (Nb rfl) ?_
      refine KA (Kj rfl rfl) (Nb rfl) ?_
      refine KA (Kj rfl rfl) (Nb rfl) ?_
      refine KA (KH rfl) (Nb rfl) ?_
      refine KA (KH rfl) (Nb rfl) ?_
      refine KG ?_
      refine KB ?_
      refine KA (KE rfl) (Nb rfl) ?_
      refine KA (KE rfl) (Nb rfl) ?_
      refine KA (KP rfl rfl (KAT (by omega))) (Nb rfl) ?_
      refine KA (KE rfl) (Nb rfl) ?_
      refine KA (KE rfl) (Nb rfl) ?_
      refine KA (KE rfl) (Nb rfl) ?_
      refine KA (KP rfl rfl (br_add64)) (Nb rfl) ?_
      refine KA (KN (o':=0) Try.underlying230 rfl rfl rfl sz_228 (by decide)) (Nb rfl) ?_
      refine KA (Kv Try.underlying228 sz_22 rfl rfl (by omega)) (Nb rfl) ?_
      refine KK rfl (KAC rfl rfl rfl sz_22 (by repeat (first|exact Sh _|apply St_)) (by first|(simp only [KJ,KF,KI,KAO]; omega)|(simp; omega)) (by first|exact vec_set _ _ _ _ _|exact dv_setm _ _ _ _ (by omega)|exact dv_sets _ _ _ _|rfl) (by simp) ?_)
      refine KA (KH rfl) (Nb rfl) ?_
      refine KG ?_
      refine KB ?_
      refine KA (KP rfl rfl (KAT (b:=1) (by omega))) (Nb rfl) ?_
      refine KA (KE rfl) (Nb rfl) ?_
      refine KG ?_
      have hw:=row_word (limb_lt A i) (limb_lt B x.1) (limb_lt x.2.1 (i+x.1)) hx2
      have hp:=row_parts (limb_lt x.2.1 (i+x.1)) hx2 hw
      refine ⟨(x.1+1,setl x.2.1 (i+x.1) ((limb A i*limb B x.1+limb x.2.1 (i+x.1)+x.2.2)%18446744073709551616),(limb A i*limb B x.1+limb x.2.1 (i+x.1)+x.2.2)/18446744073709551616),⟨by omega,by dsimp only; omega,setl_lt hx3 (by omega) (Nat.mod_lt _ (by decide)),row_step hx4 rfl rfl⟩,by dsimp only; omega,
        Sub.re (Sub.cells (b:=b5) (cs':=wideL (setl x.2.1 (i+x.1) ((limb A i*limb B x.1+limb x.2.1 (i+x.1)+x.2.2)%18446744073709551616))) (by repeat (first|exact Sh _|apply St_)) ?_) (KAF ⟨rfl,rfl,rfl,rfl,rfl,rfl,congrArg some (vi hp.2),rfl,rfl,rfl,rfl,trivial⟩ (by repeat (first|exact Sel.nil _|refine Sel.cons (by repeat (first|exact Ph _|apply Pt_)) ?_)))⟩
      rw [hp.1]
      exact vec_setl (Nat.mod_lt _ (by decide))
    ·
      refine KAI ?_
      have h18:i<nw A:=h18
      refine KB ?_
      refine KA (KE rfl) (Nb rfl) ?_
      refine KA (KE rfl) (Nb rfl) ?_
      refine KA (KP rfl rfl (KAT (by omega))) (Nb rfl) ?_
      refine KA (KE rfl) (Nb rfl) ?_
      refine KA (KN (o':=0) Try.underlying230 rfl rfl rfl sz_228 (by decide)) (Nb rfl) ?_
      refine KA (Kv Try.underlying228 sz_22 rfl rfl (by omega)) (Nb rfl) ?_
      refine KK rfl (KAC rfl rfl rfl sz_22 (by repeat (first|exact Sh _|apply St_)) (by first|(simp only [KJ,KF,KI,KAO]; omega)|(simp; omega)) (by first|exact vec_set _ _ _ _ _|exact dv_setm _ _ _ _ (by omega)|exact dv_sets _ _ _ _|rfl) (by simp) ?_)
      refine KG ?_
      refine KB ?_
      refine KA (KP rfl rfl (KAT (b:=1) (by omega))) (Nb rfl) ?_
      refine KA (KE rfl) (Nb rfl) ?_
      refine KG ?_
      refine ⟨i+1,by omega,by omega,Sub.re (Sub.cells (b:=b5) (cs':=wideL (A%2^(64*(i+1))*B)) (by repeat (first|exact Sh _|apply St_)) ?_) (KAF ⟨rfl,rfl,rfl,rfl,rfl,rfl,rfl,trivial⟩ (by repeat (first|exact Sel.nil _|refine Sel.cons (by repeat (first|exact Ph _|apply Pt_)) ?_)))⟩
      have hk:x.1 = nw B:=by omega
      rw [hk] at hx4
      rw [← row_end hx4 hx3]
      exact vec_setl hx2
  ·
    refine KAI ?_
    refine KD (KB ?_)
    refine LOps.det (KM rfl (by repeat (first|exact Mh _|apply Mt)) (by exact KL Try.underlying230 rfl sz_230)) (Nb rfl) ?_
    refine KK rfl (KO rfl rfl sz_230 (by repeat (first|exact Kg _|exact Kr _ _ _|exact Kh _|exact Kl _ _ _|exact Kq _ _ _|exact KV|refine KR rfl ?_|refine KT ?_ ?_)) (by repeat (first|exact Sh _|apply St_)) (by first|exact KF _|exact KJ _ _ _|exact KI _|exact KS _ _ _|exact KZ _ _ _|rfl|simp [KJ,KF,KI]) ?_)
    refine KG (KY ?_)
    have hi9:i = nw A:=by omega
    subst hi9
    refine ⟨[_],.cons ⟨_,_,_,rfl,(by repeat (first|exact Mh _|apply Mt)),by exact KL Try.underlying230 rfl sz_230⟩ .nil,fun a w' hr=>⟨?_,hr.fr.below⟩⟩
    rw [mod_nw]
    rfl
theorem c_nat_Bits (A:Nat) (hA:A<W9) (w:World)  : Calls Try.prog 151 ([natV A]:List Value).toArray w (fun e w'=>e = .returned (.int .i64 ((blen A:Nat):Int))∧Below w.heap.size w w'):=by
  refine Kw (N:=17) (rs:=[.tmp 2]) [] Try.func151 rfl Try.ntmps151 Try.results151 (Nb rfl) trivial rfl ?_
  show LCode _ _ _ ⟨_,_⟩ _
  refine KD (KB ?_)
  refine KK rfl (KX (KQ (Ks rfl) (Nb rfl) (fun b1=>?_)))
  refine KA (KH (v:=.int .i64 ((0:Nat):Int)) rfl) (Nb rfl) ?_
  refine KG ?_
  refine KD (KB ?_)
  refine KK rfl (KX (KU (first:=[]) rfl en_172 rfl (Nb rfl) (fun w hw=>c_nat_used _ _ _ w (hw _ (by repeat (first|exact Mh _|apply Mt))) (by omega)) ?_))
  refine KA (KH rfl) (Nb rfl) ?_
  refine KG ?_
  refine KD ?_
  refine KD (KB ?_)
  refine KA (KE rfl) (Nb rfl) ?_
  refine KA (KP rfl rfl (br_eql (b:=0))) (Nb rfl) ?_
  refine KG ?_
  first|refine Kf rfl (fun h6=>?_) (fun h6=>?_)|refine Ki rfl (fun h6=>?_) (fun h6=>?_)
  ·
    refine KD (KB ?_)
    refine KA (KH (v:=.int .i64 ((0:Nat):Int)) rfl) (Nb rfl) ?_
    refine KG (KY ?_)
    have hz:blen A = 0:=by
      unfold nw at h6
      omega
    refine ⟨[_],.cons rfl .nil,fun a w' hr=>⟨?_,hr.fr.below⟩⟩
    rw [hz]
    rfl
  ·
    have hA9:=nw_w9 hA
    have hbl:blen (limb A (nw A-1))≤64:=blen_le (limb_lt _ _)
    have hll:=limb_lt A (nw A-1)
    refine Km ?_
    refine KD (KB ?_)
    refine KA (KE rfl) (Nb rfl) ?_
    refine KA (KP rfl rfl (br_sub (b:=1) (by omega) (by omega))) (Nb rfl) ?_
    refine KA (KP rfl rfl (br_mul (b:=64) (by omega))) (Nb rfl) ?_
    refine KA (KE rfl) (Nb rfl) ?_
    refine KA (KP rfl rfl (br_sub (b:=1) (by omega) (by omega))) (Nb rfl) ?_
    refine KA (KN (o':=0) Try.underlying25 rfl rfl rfl sz_23 (by decide)) (Nb rfl) ?_
    refine KA (Kv Try.underlying23 sz_22 rfl rfl (by omega)) (Nb rfl) ?_
    refine LOps.det (KM rfl (by repeat (first|exact Mh _|apply Mt)) (Kc Try.underlying22 rfl (by exact KAD _ (show nw A-1<9 by omega)))) (Nb rfl) ?_
    refine KK rfl (KX (KU (first:=[]) rfl en_173 rfl (Nb rfl) (fun w hw=>c_Len64 _ (by omega) w) ?_))
    refine KA (KP rfl rfl (KAT (by omega))) (Nb rfl) ?_
    refine KA (KH rfl) (Nb rfl) ?_
    refine KG (KY ?_)
    refine ⟨[_],.cons rfl .nil,fun a w' hr=>⟨?_,hr.fr.below⟩⟩
    rw [← bits_words h6]
    rfl
theorem c_nat_Bit (A i:Nat) (hA:A<W9) (hi:i<576) (w:World)  : Calls Try.prog 139 ([natV A,.int .i64 ((i:Nat):Int)]:List Value).toArray w (fun e w'=>e = .returned (.int .i64 ((A/2^i%2:Nat):Int))∧Below w.heap.size w w'):=by
  refine Kw (N:=21) (rs:=[.tmp 4]) [] Try.func139 rfl Try.ntmps139 Try.results139 (Nb rfl) trivial rfl ?_
  show LCode _ _ _ ⟨_,_⟩ _
  refine KD (KB ?_)
  refine KK rfl (KX (KQ (Ks rfl) (Nb rfl) (fun b2=>?_)))
  refine KA (KH (v:=.int .i64 ((0:Nat):Int)) rfl) (Nb rfl) ?_
  refine KG ?_
  refine KD ?_
  refine KD (KB ?_)
  refine KA (KE rfl) (Nb rfl) ?_
  refine KA (KP rfl rfl (br_f (br_lss (b:=0)) (Nat.not_lt_zero _))) (Nb rfl) ?_
  refine KA (KE rfl) (Nb rfl) ?_
  refine Ke rfl rfl (KE rfl) (Nb rfl) ?_
  refine Ke rfl rfl (KP rfl rfl (br_f (br_geq (b:=576)) (by omega))) (Nb rfl) ?_
  refine KA (Kz rfl rfl) (Nb rfl) ?_
  refine KG ?_
  refine Kp rfl ?_
  refine Km ?_
  refine KD (KB ?_)
  refine KA (KE rfl) (Nb rfl) ?_
  refine KA (KP rfl rfl (br_quo (b:=64) (by omega) (by omega))) (Nb rfl) ?_
  refine KA (KN (o':=0) Try.underlying25 rfl rfl rfl sz_23 (by decide)) (Nb rfl) ?_
  refine KA (Kv Try.underlying23 sz_22 rfl rfl (by omega)) (Nb rfl) ?_
  refine LOps.det (KM rfl (by repeat (first|exact Mh _|apply Mt)) (Kc Try.underlying22 rfl (by exact KAD _ (show i/64<9 by omega)))) (Nb rfl) ?_
  refine KA (KE rfl) (Nb rfl) ?_
  refine KA (KP rfl rfl (br_rem (b:=64) (by omega))) (Nb rfl) ?_
  refine KA (KP rfl rfl (br_shr64 (limb_lt _ _))) (Nb rfl) ?_
  refine KA (Kb (KP rfl rfl (br_and64 (b:=1) (Nat.lt_of_le_of_lt (Nat.div_le_self _ _) (limb_lt _ _)) (by decide))) (vi (bit_of A i))) (Nb rfl) ?_
  refine KA (Det.convi Try.underlying22 Try.underlying3 rfl (Nat.lt_trans (Nat.mod_lt _ (by decide)) (by decide))) (Nb rfl) ?_
  refine KA (KH rfl) (Nb rfl) ?_
  refine KG (KY ?_)
  refine ⟨[_],.cons rfl .nil,fun a w' hr=>⟨?_,hr.fr.below⟩⟩
  rfl
theorem c_nat_Small (x:Nat) (hx:x<9223372036854775808) (w:World)  : Calls Try.prog 150 ([.int .i64 ((x:Nat):Int)]:List Value).toArray w (fun e w'=>e = .returned (natV x)∧Below w.heap.size w w'):=by
  refine Kw (N:=8) (rs:=[.cell 2 25]) [] Try.func150 rfl Try.ntmps150 Try.results150 (Nb rfl) trivial rfl ?_
  show LCode _ _ _ ⟨_,_⟩ _
  refine KD (KB ?_)
  refine KK rfl (KX (KQ (Kd zr_25) (Nb rfl) (fun b2=>?_)))
  refine KG ?_
  refine KD (KB ?_)
  refine KA (KE rfl) (Nb rfl) ?_
  refine KA (Det.max0 rfl rfl) (Nb rfl) ?_
  refine KA (Det.conv64 Try.underlying3 Try.underlying22 rfl (by first|omega|exact Nat.lt_trans (D.limb_lt _ _) (by decide))) (Nb rfl) ?_
  refine KA (KAP pl_23 zr_23 rfl (by exact fill_small (by omega))) (Nb rfl) ?_
  refine KA (KAP pl_25 zr_25 rfl (by exact fillL_whole (KJ _ _ _) (KF _))) (Nb rfl) ?_
  refine KK rfl (KO rfl rfl sz_25 (by repeat (first|exact Kg _|exact Kr _ _ _|exact Kh _|exact Kl _ _ _|exact Kq _ _ _|exact KV|refine KR rfl ?_|refine KT ?_ ?_)) (by repeat (first|exact Sh _|apply St_)) (by first|exact KF _|exact KJ _ _ _|exact KI _|exact KS _ _ _|exact KZ _ _ _|rfl|simp [KJ,KF,KI]) ?_)
  refine KG (KY ?_)
  refine ⟨[_],.cons ⟨_,_,_,rfl,(by repeat (first|exact Mh _|apply Mt)),by exact KL Try.underlying25 rfl sz_25⟩ .nil,fun a w' hr=>⟨?_,hr.fr.below⟩⟩
  rfl
end Go.Proofs.Ytljblbgogjieaaa
set_option linter.unusedVariables false
set_option linter.unusedSimpArgs false
set_option maxRecDepth 20000
namespace Go.Proofs.Ytljblbgogjieaaa
open Go Go.RowKit
theorem drop_step {l:List UInt8} {x:Nat} (h:x<l.length):l.drop (l.length-(x+1)) = l.getD (l.length-1-x) 0 :: l.drop (l.length-x):=by
  rw [show l.length-x = l.length-(x+1)+1 by omega,List.drop_eq_getElem_cons (by omega)]
  congr 1
  rw [List.getD_eq_getElem?_getD,List.getElem?_eq_getElem (by omega)]
  simp only [Option.getD_some]
  congr 1
  omega
theorem size_list (s:ByteArray):s.data.toList.length = s.size:=rfl
end Go.Proofs.Ytljblbgogjieaaa
set_option linter.unusedVariables false
set_option linter.unusedSimpArgs false
set_option maxRecDepth 20000
namespace Go.Proofs.Ytljblbgogjieaaa
open Go Go.RowKit
theorem c_length (A b l c:Nat) (ty:TypeId) (wr:Bool) (w:World) (hb:(Item.blk b ⟨wr,vec .u64 c (limb A),ty,(0,0)⟩).holds w) (hlc:l≤c) (hc:c<9223372036854775808) (hA:A<2^(64*l)):Calls Try.prog 187 ([.slice (some ⟨b,0,none⟩) l c]:List Value).toArray w (fun e w'=>e = .returned (.int .i64 ((nw A:Nat):Int))∧Below w.heap.size w w'):=by
  refine Kw (N:=19) (rs:=[.tmp 2]) [.blk b ⟨false,vec .u64 c (limb A),ty,(0,0)⟩] Try.func187 rfl Try.ntmps187 Try.results187 (Nb rfl) ⟨hb,trivial⟩ rfl ?_
  show LCode _ _ _ ⟨_,_⟩ _
  refine KD (KB ?_)
  refine KA (KH (v:=.int .i64 ((0:Nat):Int)) rfl) (Nb rfl) ?_
  refine KG ?_
  refine KD (KB ?_)
  refine KA (KE rfl) (Nb rfl) ?_
  refine KA (Det.len Try.underlying234 rfl) (Nb rfl) ?_
  refine KA (KH rfl) (Nb rfl) ?_
  refine KG ?_
  refine KD ?_
  refine LCode.block ?_
  refine KAQ (α:=Nat) (fun x=>x≤l∧A<2^(64*x)) (fun x=>⟨[(0,.slice (some ⟨b,0,none⟩) l c),(3,.int .i64 ((x:Nat):Int))],[.blk b ⟨false,vec .u64 c (limb A),ty,(0,0)⟩]⟩) (fun x=>x) (l) (⟨Nat.le_refl _,hA⟩) (KAF ⟨rfl,rfl,trivial⟩ (by repeat (first|exact Sel.nil _|refine Sel.cons (by repeat (first|exact Ph _|apply Pt_)) ?_))) ?_
  rintro x ⟨hx,hlt⟩
  refine KD ?_
  refine KD ?_
  by_cases h0:0<x
  ·
    refine KB ?_
    refine KA (KE rfl) (Nb rfl) ?_
    refine KA (KP rfl rfl (br_t (br_gtr (b:=0)) h0)) (Nb rfl) ?_
    refine KA (KE rfl) (Nb rfl) ?_
    refine Ke rfl rfl (KE rfl) (Nb rfl) ?_
    refine Ke rfl rfl (KE rfl) (Nb rfl) ?_
    refine Ke rfl rfl (KP rfl rfl (br_sub (b:=1) (by omega) (by omega))) (Nb rfl) ?_
    refine Ke rfl rfl (KAN Try.underlying234 sz_22 rfl rfl (by omega)) (Nb rfl) ?_
    refine KAZ rfl rfl (KM rfl (by repeat (first|exact Mh _|apply Mt)) (Kc Try.underlying22 rfl (by exact KAG _ _ _ (show x-1<c by omega)))) (Nb rfl) ?_
    refine Ke rfl rfl (KP rfl rfl (br_eql (b:=0))) (Nb rfl) ?_
    refine KA (KAE rfl rfl) (Nb rfl) ?_
    refine KG ?_
    first|refine Kf rfl (fun h15=>?_) (fun h15=>?_)|refine Ki rfl (fun h15=>?_) (fun h15=>?_)
    ·
      have h15:limb A (x-1) = 0:=by have:=h15; simpa using this
      refine Km ?_
      refine LCode.block ?_
      refine KB ?_
      refine KA (KE rfl) (Nb rfl) ?_
      refine KA (KP rfl rfl (br_sub (b:=1) (by omega) (by omega))) (Nb rfl) ?_
      refine KA (KH rfl) (Nb rfl) ?_
      refine KG ?_
      refine ⟨x-1,⟨by omega,?_⟩,by omega,KAF ⟨rfl,rfl,trivial⟩ (by repeat (first|exact Sel.nil _|refine Sel.cons (by repeat (first|exact Ph _|apply Pt_)) ?_))⟩
      exact lt_of_limb_zero (A:=A) (n:=x-1) (by rw [show x-1+1 = x by omega]; exact hlt) h15
    ·
      have h15:¬ limb A (x-1) = 0:=by have:=h15; simpa using this
      refine KAI ?_
      refine KD (KB ?_)
      refine KA (KE rfl) (Nb rfl) ?_
      refine KA (KH rfl) (Nb rfl) ?_
      refine KG (KY ?_)
      have he:nw A = x:=nw_eq hlt (.inr (le_of_limb (A:=A) (n:=x-1) (by rw [show x-1+1 = x by omega]; exact hlt) h15))
      refine ⟨[_],.cons rfl .nil,fun a w' hr=>⟨?_,hr.fr.below⟩⟩
      rw [he]; rfl
  ·
    refine KB ?_
    refine KA (KE rfl) (Nb rfl) ?_
    refine KA (KP rfl rfl (br_f (br_gtr (b:=0)) h0)) (Nb rfl) ?_
    refine KA (KE rfl) (Nb rfl) ?_
    refine Ku rfl rfl rfl (Nb rfl) ?_
    refine Ku rfl rfl rfl (Nb rfl) ?_
    refine Ku rfl rfl rfl (Nb rfl) ?_
    refine Ku rfl rfl rfl (Nb rfl) ?_
    refine Ku rfl rfl rfl (Nb rfl) ?_
    refine Ku rfl rfl rfl (Nb rfl) ?_
    refine KA (Kz rfl rfl) (Nb rfl) ?_
    refine KG ?_
    refine Kp rfl ?_
    refine KAI ?_
    refine KD (KB ?_)
    refine KA (KE rfl) (Nb rfl) ?_
    refine KA (KH rfl) (Nb rfl) ?_
    refine KG (KY ?_)
    have he:nw A = x:=nw_eq hlt (.inl (by omega))
    refine ⟨[_],.cons rfl .nil,fun a w' hr=>⟨?_,hr.fr.below⟩⟩
    rw [he]; rfl
def dvL (m:Nat):List Value:=dv (limb (dnm m)) (nw m) (dsh m)
theorem Brings.blk1 {w w':World} {H:List Item} {b:Nat} {B:Blk} (hb:Below w.heap.size w w') (hn:w.heap.size≤b) (hh:(Item.blk b B).holds w'):Brings w H [.blk b B] w' :=
  ⟨hb,fun x hx=>by simp at hx; subst hx; exact hh,fun x hx k hk=>by simp at hx; subst hx; simp [Item.fp] at hk; subst hk; exact .inl hn,
    fun x hx _ k hk=>by simp at hx; subst hx; simp [Item.fp] at hk; subst hk; exact hn,List.pairwise_singleton _ _⟩
theorem of_word {m x:Nat} (h0:0<dsh m) (hm:m≠0) (hx:0<x):(limb m x*2^dsh m%18446744073709551616 ||| limb m (x-1)/2^(64-dsh m)) = limb (dnm m) x:=by
  unfold dnm
  rw [limb_shl m (dsh m) x (dsh_lt hm) h0,if_neg (by omega),or_low (limb_lt _ _) h0 (dsh_lt hm)]
theorem of_word0 {m x:Nat} (hm:m≠0) (h:x = 0∨dsh m = 0):limb m x*2^dsh m%18446744073709551616 = limb (dnm m) x:=by
  rcases Nat.eq_zero_or_pos (dsh m) with h0|h0
  · unfold dnm
    rw [h0,Nat.pow_zero,Nat.mul_one,Nat.mul_one,Nat.mod_eq_of_lt (limb_lt _ _)]
  · unfold dnm
    rw [limb_shl m (dsh m) x (dsh_lt hm) h0,if_pos (by omega),Nat.add_zero]
theorem lz_top {m:Nat} (hm:m≠0):64-blen (limb m (nw m-1)) = dsh m:=by
  have h:=bits_words (A:=m) (by have:=nw_pos hm; omega)
  have:=blen_le (n:=64) (limb_lt m (nw m-1))
  have:=nw_pos hm
  unfold dsh; omega
theorem c_of (m bm:Nat) (wr:Bool) (hm0:m≠0) (w:World) (hb:(Item.blk bm ⟨wr,natL m,25,(0,0)⟩).holds w) (hm:m<W9):Calls Try.prog 183 ([.pointer (some ⟨bm,0,none⟩)]:List Value).toArray w (fun e w'=>∃ b,e = .returned (.pointer (some ⟨b,0,none⟩))∧w.heap.size≤b∧(Item.blk b ⟨false,dvL m,241,(0,0)⟩).holds w'∧Below w.heap.size w w'):=by
  refine Kw (N:=86) (rs:=[.tmp 2]) [.blk bm ⟨false,natL m,25,(0,0)⟩] Try.func183 rfl Try.ntmps183 Try.results183 (Nb rfl) ⟨hb,trivial⟩ rfl ?_
  show LCode _ _ _ ⟨_,_⟩ _
  refine KD (KB ?_)
  refine KA (KH rfl) (Nb rfl) ?_
  refine KG ?_
  refine KD ?_
  refine Ka [] (by kernel_rfl) ?_
  refine KC 0 rfl (by kernel_rfl) (Nb rfl) (KE rfl) ?_
  refine KC 1 rfl (by kernel_rfl) (Nb rfl) (KW rfl) ?_
  refine KC 2 rfl (by kernel_rfl) (Nb rfl) (KN (o':=0) Try.underlying25 rfl rfl rfl sz_23 (by decide)) ?_
  refine LAny.take 3 rfl (by kernel_rfl) (Nb rfl) (KM rfl (by repeat (first|exact Mh _|apply Mt)) (by exact KL Try.underlying23 rfl sz_23)) ?_
  refine KC 4 rfl (by kernel_rfl) (Nb rfl) (KE rfl) ?_
  refine KC 5 rfl (by kernel_rfl) (Nb rfl) (KW rfl) ?_
  refine KC 6 rfl (by kernel_rfl) (Nb rfl) (KN (o':=0) Try.underlying25 rfl rfl rfl sz_23 (by decide)) ?_
  refine KC 7 rfl (by kernel_rfl) (Nb rfl) (Det.slArr Try.underlying23 sz_22 rfl) ?_
  refine Kt 8 rfl rfl (by kernel_rfl) (KU (first:=[]) rfl en_187 rfl (Nb rfl) (fun w hw=>c_length m bm 9 9 _ false w (hw _ (by repeat (first|exact Mh _|apply Mt))) (Nat.le_refl _) (by decide) (lt_w9_pow hm 9 rfl)) ?_)
  refine KC 9 rfl (by kernel_rfl) (Nb rfl) (KAP pl_241 zr_241 rfl (show fillL _ _ _ = some (dv (limb m) (nw m) 0) from (KAX (A:=[]) (B:=vec .u64 9 (fun _=>0)) (D:=[.int .i64 ((0:Nat):Int),.int .i64 ((0:Nat):Int)]) (cs:=natL m) rfl rfl (KF _) rfl rfl (KJ _ _ _) ((KAX (A:=natL m) (B:=[.int .i64 ((0:Nat):Int)]) (D:=[.int .i64 ((0:Nat):Int)]) (cs:=[.int .i64 ((nw m:Nat):Int)]) rfl rfl rfl rfl (KF _) rfl rfl).trans rfl)))) ?_
  refine Kt 10 rfl rfl (by kernel_rfl) (KQ (Ks rfl) (Nb rfl) (fun b15=>?_))
  refine KC 11 rfl (by kernel_rfl) (Nb rfl) (KH rfl) ?_
  refine Ko (by kernel_rfl) ?_
  refine KD ?_
  have hn0:=nw_pos hm0
  have hn9:=nw_w9 hm
  have hs64:=dsh_lt hm0
  refine Ka [14] (by kernel_rfl) ?_
  refine KC 0 rfl (by kernel_rfl) (Nb rfl) (KE rfl) ?_
  refine KC 1 rfl (by kernel_rfl) (Nb rfl) (KE rfl) ?_
  refine KC 2 rfl (by kernel_rfl) (Nb rfl) (KE rfl) ?_
  refine KC 3 rfl (by kernel_rfl) (Nb rfl) (KW rfl) ?_
  refine KC 4 rfl (by kernel_rfl) (Nb rfl) (KN (o':=9) Try.underlying241 rfl rfl rfl sz_3 (by decide)) ?_
  refine LAny.take 5 rfl (by kernel_rfl) (Nb rfl) (KM rfl (by repeat (first|exact Mh _|apply Mt)) (Kc Try.underlying3 rfl (by first|rfl|exact KAG _ _ _ (by omega)|exact KAD _ (by omega)|exact KAK _ (by omega)|exact dv_m _ _ _ (by omega)))) ?_
  refine KC 6 rfl (by kernel_rfl) (Nb rfl) (KP rfl rfl (br_sub (b:=1) (by omega) (by omega))) ?_
  refine KC 7 rfl (by kernel_rfl) (Nb rfl) (KW rfl) ?_
  refine KC 8 rfl (by kernel_rfl) (Nb rfl) (KN (o':=0) Try.underlying241 rfl rfl rfl sz_23 (by decide)) ?_
  refine KC 9 rfl (by kernel_rfl) (Nb rfl) (Kv Try.underlying23 sz_22 rfl rfl (by omega)) ?_
  refine LAny.take 10 rfl (by kernel_rfl) (Nb rfl) (KM rfl (by repeat (first|exact Mh _|apply Mt)) (Kc Try.underlying22 rfl (by exact dv_m _ _ _ (show nw m-1<9 by omega)))) ?_
  refine Kt 11 rfl rfl (by kernel_rfl) (KU (first:=[]) rfl en_192 rfl (Nb rfl) (fun w hw=>c_LeadingZeros64 _ (limb_lt _ _) w) ?_)
  refine KC 12 rfl (by kernel_rfl) (Nb rfl) (KW rfl) ?_
  refine KC 13 rfl (by kernel_rfl) (Nb rfl) (KN (o':=10) Try.underlying241 rfl rfl rfl sz_3 (by decide)) ?_
  refine Kn 14 rfl rfl (by kernel_rfl) (by kernel_rfl) (KAC rfl rfl rfl sz_3 (by repeat (first|exact Sh _|apply St_)) (by simp only [KAO]; omega) (show (dv (limb m) (nw m) 0).set 10 _ = dv (limb m) (nw m) (dsh m) by rw [← lz_top hm0]; exact dv_sets _ _ _ _) (by simp) ?_)
  refine Ko (by kernel_rfl) ?_
  refine KD ?_
  refine KD (KB ?_)
  refine KA (KE rfl) (Nb rfl) ?_
  refine KA (KW rfl) (Nb rfl) ?_
  refine KA (KN (o':=9) Try.underlying241 rfl rfl rfl sz_3 (by decide)) (Nb rfl) ?_
  refine LOps.det (KM rfl (by repeat (first|exact Mh _|apply Mt)) (Kc Try.underlying3 rfl (by first|rfl|exact KAG _ _ _ (by omega)|exact KAD _ (by omega)|exact KAK _ (by omega)|exact dv_m _ _ _ (by omega)))) (Nb rfl) ?_
  refine KA (KP rfl rfl (br_sub (b:=1) (by omega) (by omega))) (Nb rfl) ?_
  refine KA (KH rfl) (Nb rfl) ?_
  refine KG ?_
  refine LCode.block ?_
  refine KAQ (α:=Nat) (fun x=>x≤nw m) (fun x=>⟨[(3,.pointer (some ⟨b15,0,none⟩)),(4,.int .i64 ((x:Int)-1))],[.blk b15 ⟨true,dv (fun j=>if x≤j then limb (dnm m) j else limb m j) (nw m) (dsh m),241,(0,0)⟩]⟩) (fun x=>x) (nw m) (Nat.le_refl _) (Sub.re (Sub.cells (b:=b15) (cs':=dv (fun j=>if nw m≤j then limb (dnm m) j else limb m j) (nw m) (dsh m)) (by repeat (first|exact Sh _|apply St_)) (dv_congr fun j _=>by
    by_cases e:nw m≤j
    · rw [if_pos e,limb_high (lt_nw m) e,limb_high (dnm_lt m) e]
    · rw [if_neg e])) (KAF ⟨rfl,congrArg (fun i:Int=>some (Value.int .i64 i)) (by omega),trivial⟩ (by repeat (first|exact Sel.nil _|refine Sel.cons (by repeat (first|exact Ph _|apply Pt_)) ?_)))) ?_
  intro x hx
  refine KD ?_
  refine KD ?_
  rcases Nat.eq_zero_or_pos x with h0|h0
  ·
    refine KB ?_
    refine KA (KE rfl) (Nb rfl) ?_
    refine KA (KP (v:=.bool false) rfl rfl (by subst h0; rfl)) (Nb rfl) ?_
    refine KG ?_
    refine Kp rfl ?_
    refine KAI ?_
    refine KD (KB ?_)
    refine KA (KE rfl) (Nb rfl) ?_
    refine KA (KH rfl) (Nb rfl) ?_
    refine KG (KY ?_)
    have e0:(dv (fun j=>if 0≤j then limb (dnm m) j else limb m j) (nw m) (dsh m)) = dvL m:=dv_congr fun j _=>if_pos (Nat.zero_le _)
    refine ⟨[_],.cons rfl .nil,fun a w' hr=>⟨b15,rfl,hr.new (by repeat (first|exact Mh _|apply Mt)) rfl,?_,hr.fr.below⟩⟩
    have:=hr.hp _ (by repeat (first|exact Mh _|apply Mt))
    rw [← e0]
    subst h0
    exact this
  ·
    obtain ⟨y,rfl⟩:∃ y,x = y+1:=⟨x-1,by omega⟩
    refine KB ?_
    refine KA (KE rfl) (Nb rfl) ?_
    refine KA (KP (v:=.bool true) rfl rfl (by simp [KAR])) (Nb rfl) ?_
    refine KG ?_
    refine Kx rfl ?_
    refine Km ?_
    refine KD ?_
    refine LCode.block ?_
    refine KD ?_
    refine Ka [14] (by kernel_rfl) ?_
    refine KC 0 rfl (by kernel_rfl) (Nb rfl) (KE rfl) ?_
    refine KC 1 rfl (by kernel_rfl) (Nb rfl) (KE (v:=.int .i64 ((y:Nat):Int)) (by show some _ = some _; congr 2; omega)) ?_
    refine KC 2 rfl (by kernel_rfl) (Nb rfl) (KW rfl) ?_
    refine KC 3 rfl (by kernel_rfl) (Nb rfl) (KN (o':=0) Try.underlying241 rfl rfl rfl sz_23 (by decide)) ?_
    refine KC 4 rfl (by kernel_rfl) (Nb rfl) (Kv Try.underlying23 sz_22 rfl rfl (by omega)) ?_
    refine LAny.take 5 rfl (by kernel_rfl) (Nb rfl) (KM rfl (by repeat (first|exact Mh _|apply Mt)) (Kc Try.underlying22 rfl (by exact (dv_m _ _ _ (show y<9 by omega)).trans (congrArg some (vi (b:=limb m y) (if_neg (by omega))))))) ?_
    refine KC 6 rfl (by kernel_rfl) (Nb rfl) (KE rfl) ?_
    refine KC 7 rfl (by kernel_rfl) (Nb rfl) (KW rfl) ?_
    refine KC 8 rfl (by kernel_rfl) (Nb rfl) (KN (o':=10) Try.underlying241 rfl rfl rfl sz_3 (by decide)) ?_
    refine LAny.take 9 rfl (by kernel_rfl) (Nb rfl) (KM rfl (by repeat (first|exact Mh _|apply Mt)) (Kc Try.underlying3 rfl (by first|rfl|exact KAG _ _ _ (by omega)|exact KAD _ (by omega)|exact KAK _ (by omega)|exact dv_m _ _ _ (by omega)))) ?_
    refine KC 10 rfl (by kernel_rfl) (Nb rfl) (KP rfl rfl (br_shl64)) ?_
    refine KC 11 rfl (by kernel_rfl) (Nb rfl) (KW rfl) ?_
    refine KC 12 rfl (by kernel_rfl) (Nb rfl) (KN (o':=0) Try.underlying241 rfl rfl rfl sz_23 (by decide)) ?_
    refine KC 13 rfl (by kernel_rfl) (Nb rfl) (Kv Try.underlying23 sz_22 rfl rfl (by omega)) ?_
    refine Kn 14 rfl rfl (by kernel_rfl) (by kernel_rfl) (KAC rfl rfl rfl sz_22 (by repeat (first|exact Sh _|apply St_)) (by first|(simp only [KJ,KF,KI,KAO]; omega)|(simp; omega)) (by first|exact vec_set _ _ _ _ _|exact dv_setm _ _ _ _ (by omega)|exact dv_sets _ _ _ _|rfl) (by simp) ?_)
    refine Ko (by kernel_rfl) ?_
    refine KD ?_
    rcases Nat.eq_zero_or_pos y with hy0|hy0
    rotate_left
    rcases Nat.eq_zero_or_pos (dsh m) with hs0|hs0
    ·
      refine KB ?_
      refine KA (KE (v:=.int .i64 ((y:Nat):Int)) (by show some _ = some _; congr 2; omega)) (Nb rfl) ?_
      refine KA (KP rfl rfl (br_t (br_gtr (b:=0)) hy0)) (Nb rfl) ?_
      refine KA (KE rfl) (Nb rfl) ?_
      refine Ke rfl rfl (KE rfl) (Nb rfl) ?_
      refine Ke rfl rfl (KW rfl) (Nb rfl) ?_
      refine Ke rfl rfl (KN (o':=10) Try.underlying241 rfl rfl rfl sz_3 (by decide)) (Nb rfl) ?_
      refine KAZ rfl rfl (KM rfl (by repeat (first|exact Mh _|apply Mt)) (Kc Try.underlying3 rfl (by first|rfl|exact KAG _ _ _ (by omega)|exact KAD _ (by omega)|exact KAK _ (by omega)|exact dv_m _ _ _ (by omega)))) (Nb rfl) ?_
      refine Ke rfl rfl (KP rfl rfl (br_f (br_gtr (b:=0)) (by omega))) (Nb rfl) ?_
      refine KA (KAE rfl rfl) (Nb rfl) ?_
      refine KG ?_
      refine Kp rfl ?_
      refine Km ?_
      refine KB ?_
      refine KA (KE (v:=.int .i64 ((y:Nat):Int)) (by show some _ = some _; congr 2; omega)) (Nb rfl) ?_
      refine KA (KP rfl rfl rfl) (Nb rfl) ?_
      refine KA (KH rfl) (Nb rfl) ?_
      refine KG ?_
      refine ⟨y,by omega,by omega,Sub.re (Sub.cells (b:=b15) (cs':=dv (fun j=>if y≤j then limb (dnm m) j else limb m j) (nw m) (dsh m)) (by repeat (first|exact Sh _|apply St_)) (dv_congr fun j hj=>?_)) (KAF ⟨rfl,?_,trivial⟩ (by repeat (first|exact Sel.nil _|refine Sel.cons (by repeat (first|exact Ph _|apply Pt_)) ?_)))⟩
      · by_cases e:j = y
        · subst e
          rw [if_pos rfl,if_pos (Nat.le_refl _)]
          exact of_word0 hm0 (.inr hs0)
        · simp only [e,if_false]
          by_cases e2:y+1≤j
          · rw [if_pos e2,if_pos (by omega)]
          · rw [if_neg e2,if_neg (by omega)]
      · exact congrArg (fun i:Int=>some (Value.int .i64 i)) (wrap_i64 (by omega) (by omega))
    ·
      refine KB ?_
      refine KA (KE (v:=.int .i64 ((y:Nat):Int)) (by show some _ = some _; congr 2; omega)) (Nb rfl) ?_
      refine KA (KP rfl rfl (br_t (br_gtr (b:=0)) hy0)) (Nb rfl) ?_
      refine KA (KE rfl) (Nb rfl) ?_
      refine Ke rfl rfl (KE rfl) (Nb rfl) ?_
      refine Ke rfl rfl (KW rfl) (Nb rfl) ?_
      refine Ke rfl rfl (KN (o':=10) Try.underlying241 rfl rfl rfl sz_3 (by decide)) (Nb rfl) ?_
      refine KAZ rfl rfl (KM rfl (by repeat (first|exact Mh _|apply Mt)) (Kc Try.underlying3 rfl (by first|rfl|exact KAG _ _ _ (by omega)|exact KAD _ (by omega)|exact KAK _ (by omega)|exact dv_m _ _ _ (by omega)))) (Nb rfl) ?_
      refine Ke rfl rfl (KP rfl rfl (br_t (br_gtr (b:=0)) hs0)) (Nb rfl) ?_
      refine KA (KAE rfl rfl) (Nb rfl) ?_
      refine KG ?_
      refine Kx rfl ?_
      refine Ka [23] (by kernel_rfl) ?_
      refine KC 0 rfl (by kernel_rfl) (Nb rfl) (KE rfl) ?_
      refine KC 1 rfl (by kernel_rfl) (Nb rfl) (KE (v:=.int .i64 ((y:Nat):Int)) (by show some _ = some _; congr 2; omega)) ?_
      refine KC 2 rfl (by kernel_rfl) (Nb rfl) (KW rfl) ?_
      refine KC 3 rfl (by kernel_rfl) (Nb rfl) (KN (o':=0) Try.underlying241 rfl rfl rfl sz_23 (by decide)) ?_
      refine KC 4 rfl (by kernel_rfl) (Nb rfl) (Kv Try.underlying23 sz_22 rfl rfl (by omega)) ?_
      refine LAny.take 5 rfl (by kernel_rfl) (Nb rfl) (KM rfl (by repeat (first|exact Mh _|apply Mt)) (Kc Try.underlying22 rfl (by exact (dv_m _ _ _ (show y<9 by omega)).trans (congrArg some (vi (b:=limb m y*2^dsh m%18446744073709551616) (if_pos rfl)))))) ?_
      refine KC 6 rfl (by kernel_rfl) (Nb rfl) (KE rfl) ?_
      refine KC 7 rfl (by kernel_rfl) (Nb rfl) (KE (v:=.int .i64 ((y:Nat):Int)) (by show some _ = some _; congr 2; omega)) ?_
      refine KC 8 rfl (by kernel_rfl) (Nb rfl) (KP rfl rfl (br_sub (b:=1) (by omega) (by omega))) ?_
      refine KC 9 rfl (by kernel_rfl) (Nb rfl) (KW rfl) ?_
      refine KC 10 rfl (by kernel_rfl) (Nb rfl) (KN (o':=0) Try.underlying241 rfl rfl rfl sz_23 (by decide)) ?_
      refine KC 11 rfl (by kernel_rfl) (Nb rfl) (Kv Try.underlying23 sz_22 rfl rfl (by omega)) ?_
      refine LAny.take 12 rfl (by kernel_rfl) (Nb rfl) (KM rfl (by repeat (first|exact Mh _|apply Mt)) (Kc Try.underlying22 rfl (by exact (dv_m _ _ _ (show y-1<9 by omega)).trans (congrArg some (vi (b:=limb m (y-1)) (by rw [if_neg (by omega),if_neg (by omega)])))))) ?_
      refine KC 13 rfl (by kernel_rfl) (Nb rfl) (KE rfl) ?_
      refine KC 14 rfl (by kernel_rfl) (Nb rfl) (KW rfl) ?_
      refine KC 15 rfl (by kernel_rfl) (Nb rfl) (KN (o':=10) Try.underlying241 rfl rfl rfl sz_3 (by decide)) ?_
      refine LAny.take 16 rfl (by kernel_rfl) (Nb rfl) (KM rfl (by repeat (first|exact Mh _|apply Mt)) (Kc Try.underlying3 rfl (by first|rfl|exact KAG _ _ _ (by omega)|exact KAD _ (by omega)|exact KAK _ (by omega)|exact dv_m _ _ _ (by omega)))) ?_
      refine KC 17 rfl (by kernel_rfl) (Nb rfl) (KP rfl rfl (br_sub (a:=64) (by omega) (by omega))) ?_
      refine KC 18 rfl (by kernel_rfl) (Nb rfl) (KP rfl rfl (br_shr64 (limb_lt _ _))) ?_
      refine KC 19 rfl (by kernel_rfl) (Nb rfl) (KP rfl rfl (br_or64 (Nat.mod_lt _ (by decide)) (Nat.lt_of_le_of_lt (Nat.div_le_self _ _) (limb_lt _ _)))) ?_
      refine KC 20 rfl (by kernel_rfl) (Nb rfl) (KW rfl) ?_
      refine KC 21 rfl (by kernel_rfl) (Nb rfl) (KN (o':=0) Try.underlying241 rfl rfl rfl sz_23 (by decide)) ?_
      refine KC 22 rfl (by kernel_rfl) (Nb rfl) (Kv Try.underlying23 sz_22 rfl rfl (by omega)) ?_
      refine Kn 23 rfl rfl (by kernel_rfl) (by kernel_rfl) (KAC rfl rfl rfl sz_22 (by repeat (first|exact Sh _|apply St_)) (by first|(simp only [KJ,KF,KI,KAO]; omega)|(simp; omega)) (by first|exact vec_set _ _ _ _ _|exact dv_setm _ _ _ _ (by omega)|exact dv_sets _ _ _ _|rfl) (by simp) ?_)
      refine Ko (by kernel_rfl) ?_
      refine KB ?_
      refine KA (KE (v:=.int .i64 ((y:Nat):Int)) (by show some _ = some _; congr 2; omega)) (Nb rfl) ?_
      refine KA (KP rfl rfl rfl) (Nb rfl) ?_
      refine KA (KH rfl) (Nb rfl) ?_
      refine KG ?_
      refine ⟨y,by omega,by omega,Sub.re (Sub.cells (b:=b15) (cs':=dv (fun j=>if y≤j then limb (dnm m) j else limb m j) (nw m) (dsh m)) (by repeat (first|exact Sh _|apply St_)) (dv_congr fun j hj=>?_)) (KAF ⟨rfl,?_,trivial⟩ (by repeat (first|exact Sel.nil _|refine Sel.cons (by repeat (first|exact Ph _|apply Pt_)) ?_)))⟩
      · by_cases e:j = y
        · subst e
          rw [if_pos rfl,if_pos (Nat.le_refl _)]
          exact of_word hs0 hm0 hy0
        · simp only [e,if_false]
          by_cases e2:y+1≤j
          · rw [if_pos e2,if_pos (by omega)]
          · rw [if_neg e2,if_neg (by omega)]
      · exact congrArg (fun i:Int=>some (Value.int .i64 i)) (wrap_i64 (by omega) (by omega))
    ·
      refine KB ?_
      refine KA (KE (v:=.int .i64 ((y:Nat):Int)) (by show some _ = some _; congr 2; omega)) (Nb rfl) ?_
      refine KA (KP rfl rfl (br_f (br_gtr (b:=0)) (by omega))) (Nb rfl) ?_
      refine KA (KE rfl) (Nb rfl) ?_
      refine Ku rfl rfl rfl (Nb rfl) ?_
      refine Ku rfl rfl rfl (Nb rfl) ?_
      refine Ku rfl rfl rfl (Nb rfl) ?_
      refine Ku rfl rfl rfl (Nb rfl) ?_
      refine Ku rfl rfl rfl (Nb rfl) ?_
      refine KA (Kz rfl rfl) (Nb rfl) ?_
      refine KG ?_
      refine Kp rfl ?_
      refine Km ?_
      refine KB ?_
      refine KA (KE (v:=.int .i64 ((y:Nat):Int)) (by show some _ = some _; congr 2; omega)) (Nb rfl) ?_
      refine KA (KP rfl rfl rfl) (Nb rfl) ?_
      refine KA (KH rfl) (Nb rfl) ?_
      refine KG ?_
      refine ⟨y,by omega,by omega,Sub.re (Sub.cells (b:=b15) (cs':=dv (fun j=>if y≤j then limb (dnm m) j else limb m j) (nw m) (dsh m)) (by repeat (first|exact Sh _|apply St_)) (dv_congr fun j hj=>?_)) (KAF ⟨rfl,?_,trivial⟩ (by repeat (first|exact Sel.nil _|refine Sel.cons (by repeat (first|exact Ph _|apply Pt_)) ?_)))⟩
      · by_cases e:j = y
        · subst e
          rw [if_pos rfl,if_pos (Nat.le_refl _)]
          exact of_word0 hm0 (.inl hy0)
        · simp only [e,if_false]
          by_cases e2:y+1≤j
          · rw [if_pos e2,if_pos (by omega)]
          · rw [if_neg e2,if_neg (by omega)]
      · exact congrArg (fun i:Int=>some (Value.int .i64 i)) (wrap_i64 (by omega) (by omega))
end Go.Proofs.Ytljblbgogjieaaa
set_option linter.unusedVariables false
set_option linter.unusedSimpArgs false
set_option maxRecDepth 20000
namespace Go.Proofs.Ytljblbgogjieaaa
open Go Go.RowKit
theorem dvL_m (m:Nat) {i:Nat} (h:i<9):(dvL m)[i]? = some (.int .u64 (limb (dnm m) i:Int)):=dv_m _ _ _ h
theorem dvL_n (m:Nat):(dvL m)[9]? = some (.int .i64 (nw m:Int)):=dv_n _ _ _
theorem dvL_s (m:Nat):(dvL m)[10]? = some (.int .i64 (dsh m:Int)):=dv_s _ _ _
theorem guess_facts {U m a : Nat} (hm : m ≠ 0) (hU : U < dnm m * 2 ^ (64 * (a + 1))) :
    limb U (a+nw m)*18446744073709551616+limb U (a+nw m-1) = U/2^(64*a)/2^(64*(nw m-1))∧limb (dnm m) (nw m-1) = dnm m/2^(64*(nw m-1))∧9223372036854775808≤limb (dnm m) (nw m-1) ∧
    U/2^(64*a)/dnm m≤U/2^(64*a)/2^(64*(nw m-1))/limb (dnm m) (nw m-1):=by
  have hn:=nw_pos hm
  have h1:=win_lt (dnm_lt m) hU
  rw [Nat.add_assoc] at h1
  have h2:=win_div h1
  obtain ⟨h3,h4⟩:=dnm_top hm
  refine ⟨?_,h3,h4,?_⟩
  · rw [show a+nw m-1 = a+(nw m-1) by omega,← limb_div,← limb_div]
    have:=two_words (R:=U/2^(64*a)) (j:=nw m-1) (by rw [show nw m-1+2 = nw m+1 by omega]; exact h2)
    rw [this,show nw m-1+1 = nw m by omega]
  · rw [h3]
    apply div_cut (pow64_pos _)
    rw [← h3]; omega
theorem guess_step {U m a q r : Nat} (hm : m ≠ 0) (hn : 2 ≤ nw m) (h1 : q * limb (dnm m) (nw m - 1) + r = U / 2 ^ (64 * a) / 2 ^ (64 * (nw m - 1)))
    (h2:r*18446744073709551616+limb U (a+nw m-2)<q*limb (dnm m) (nw m-2)):U/2^(64*a)/dnm m<q:=by
  refine guess_more (k:=2^(64*(nw m-2))) (M:=18446744073709551616) (pow64_pos _) (dnm_pos hm) (top:=limb (dnm m) (nw m-1)) (d2:=limb (dnm m) (nw m-2)) ?_ (R2:=U/2^(64*a)/2^(64*(nw m-1))) (u2:=limb U (a+nw m-2)) ?_ h1 h2
  · have:=two_words (R:=dnm m) (j:=nw m-2) (by rw [show nw m-2+2 = nw m by omega]; exact dnm_lt m)
    rw [this,show nw m-2+1 = nw m-1 by omega]
  · have:=next_word (U/2^(64*a)) (nw m-2)
    rw [this,limb_div,show nw m-2+1 = nw m-1 by omega,show a+(nw m-2) = a+nw m-2 by omega]
theorem two_le {a b r u:Nat} (hb:b<18446744073709551616) (hu:u<18446744073709551616) (h:r<a∨(a = r∧u<b)):r*18446744073709551616+u<a*18446744073709551616+b:=by omega
theorem prod_parts (p:Nat):p/18446744073709551616*18446744073709551616+p%18446744073709551616 = p:=by omega
theorem guess_next {top r q d2 u R2:Nat} (h1:q*top+r = R2) (h0:0<q):(q-1)*top+(r+top) = R2:=by
  obtain ⟨p,rfl⟩:∃ p,q = p+1:=⟨q-1,by omega⟩
  rw [Nat.add_mul] at h1
  rw [Nat.add_sub_cancel]; omega
theorem c_guess (m U bd bu at_:Nat) (wu:Bool) (hm0:m≠0) (w:World) (hbd:(Item.blk bd ⟨false,dvL m,241,(0,0)⟩).holds w) (hbu:(Item.blk bu ⟨wu,vec .u64 19 (limb U),243,(0,0)⟩).holds w) (hm:m<W9) (hat:at_+nw m<19) (hU:U<dnm m*2^(64*(at_+1))):Calls Try.prog 194 ([.pointer (some ⟨bd,0,none⟩),.slice (some ⟨bu,0,none⟩) 19 19,.int .i64 ((at_:Nat):Int)]:List Value).toArray w (fun e w'=>∃ q,(q<18446744073709551616∧U/2^(64*at_)/dnm m≤q)∧e = .returned (.int .u64 ((q:Nat):Int))∧Below w.heap.size w w'):=by
  refine Kw (N:=108) (rs:=[.tmp 6]) [.blk bd ⟨false,dvL m,241,(0,0)⟩,.blk bu ⟨false,vec .u64 19 (limb U),243,(0,0)⟩] Try.func194 rfl Try.ntmps194 Try.results194 (Nb rfl) ⟨hbd,hbu,trivial⟩ rfl ?_
  show LCode _ _ _ ⟨_,_⟩ _
  refine KD (KB ?_)
  refine KA (KH (v:=.int .u64 ((0:Nat):Int)) rfl) (Nb rfl) ?_
  refine KG ?_
  refine KD ?_
  have hn0:=nw_pos hm0
  have hn9:=nw_w9 hm
  obtain ⟨hf1,hf2,hf3,hf4⟩:=guess_facts hm0 hU
  have hlt:=limb_lt (dnm m) (nw m-1)
  have hlu:=limb_lt U (at_+nw m-1)
  refine Ka [] (by kernel_rfl) ?_
  refine KC 0 rfl (by kernel_rfl) (Nb rfl) (KE rfl) ?_
  refine KC 1 rfl (by kernel_rfl) (Nb rfl) (KE rfl) ?_
  refine KC 2 rfl (by kernel_rfl) (Nb rfl) (KW rfl) ?_
  refine KC 3 rfl (by kernel_rfl) (Nb rfl) (KN (o':=9) Try.underlying241 rfl rfl rfl sz_3 (by decide)) ?_
  refine LAny.take 4 rfl (by kernel_rfl) (Nb rfl) (KM rfl (by repeat (first|exact Mh _|apply Mt)) (Kc Try.underlying3 rfl (dvL_n _))) ?_
  refine KC 5 rfl (by kernel_rfl) (Nb rfl) (KP rfl rfl (br_sub (b:=1) (by omega) (by omega))) ?_
  refine KC 6 rfl (by kernel_rfl) (Nb rfl) (KW rfl) ?_
  refine KC 7 rfl (by kernel_rfl) (Nb rfl) (KN (o':=0) Try.underlying241 rfl rfl rfl sz_23 (by decide)) ?_
  refine KC 8 rfl (by kernel_rfl) (Nb rfl) (Kv Try.underlying23 sz_22 rfl rfl (by omega)) ?_
  refine LAny.take 9 rfl (by kernel_rfl) (Nb rfl) (KM rfl (by repeat (first|exact Mh _|apply Mt)) (Kc Try.underlying22 rfl (by exact dvL_m _ (show nw m-1<9 by omega)))) ?_
  refine KC 10 rfl (by kernel_rfl) (Nb rfl) (KH rfl) ?_
  refine Ko (by kernel_rfl) ?_
  refine KD ?_
  refine Ka [] (by kernel_rfl) ?_
  refine KC 0 rfl (by kernel_rfl) (Nb rfl) (KE rfl) ?_
  refine KC 1 rfl (by kernel_rfl) (Nb rfl) (KE rfl) ?_
  refine KC 2 rfl (by kernel_rfl) (Nb rfl) (KE rfl) ?_
  refine KC 3 rfl (by kernel_rfl) (Nb rfl) (KW rfl) ?_
  refine KC 4 rfl (by kernel_rfl) (Nb rfl) (KN (o':=9) Try.underlying241 rfl rfl rfl sz_3 (by decide)) ?_
  refine LAny.take 5 rfl (by kernel_rfl) (Nb rfl) (KM rfl (by repeat (first|exact Mh _|apply Mt)) (Kc Try.underlying3 rfl (dvL_n _))) ?_
  refine KC 6 rfl (by kernel_rfl) (Nb rfl) (KP rfl rfl (KAT (by omega))) ?_
  refine KC 7 rfl (by kernel_rfl) (Nb rfl) (KAN Try.underlying234 sz_22 rfl rfl (by omega)) ?_
  refine LAny.take 8 rfl (by kernel_rfl) (Nb rfl) (KM rfl (by repeat (first|exact Mh _|apply Mt)) (Kc Try.underlying22 rfl (by exact KAG _ _ _ (show at_+nw m<19 by omega)))) ?_
  refine KC 9 rfl (by kernel_rfl) (Nb rfl) (KE rfl) ?_
  refine KC 10 rfl (by kernel_rfl) (Nb rfl) (KE rfl) ?_
  refine KC 11 rfl (by kernel_rfl) (Nb rfl) (KE rfl) ?_
  refine KC 12 rfl (by kernel_rfl) (Nb rfl) (KW rfl) ?_
  refine KC 13 rfl (by kernel_rfl) (Nb rfl) (KN (o':=9) Try.underlying241 rfl rfl rfl sz_3 (by decide)) ?_
  refine LAny.take 14 rfl (by kernel_rfl) (Nb rfl) (KM rfl (by repeat (first|exact Mh _|apply Mt)) (Kc Try.underlying3 rfl (dvL_n _))) ?_
  refine KC 15 rfl (by kernel_rfl) (Nb rfl) (KP rfl rfl (KAT (by omega))) ?_
  refine KC 16 rfl (by kernel_rfl) (Nb rfl) (KP rfl rfl (br_sub (b:=1) (by omega) (by omega))) ?_
  refine KC 17 rfl (by kernel_rfl) (Nb rfl) (KAN Try.underlying234 sz_22 rfl rfl (by omega)) ?_
  refine LAny.take 18 rfl (by kernel_rfl) (Nb rfl) (KM rfl (by repeat (first|exact Mh _|apply Mt)) (Kc Try.underlying22 rfl (by exact KAG _ _ _ (show at_+nw m-1<19 by omega)))) ?_
  refine KC 19 rfl (by kernel_rfl) (Nb rfl) (KH rfl) ?_
  refine KC 20 rfl (by kernel_rfl) (Nb rfl) (KH rfl) ?_
  refine Ko (by kernel_rfl) ?_
  refine KD ?_
  refine KD (KB ?_)
  refine KA (KE rfl) (Nb rfl) ?_
  refine KA (KE rfl) (Nb rfl) ?_
  refine KA (KP rfl rfl (br_geq)) (Nb rfl) ?_
  refine KG ?_
  first|refine Kf rfl (fun h46=>?_) (fun h46=>?_)|refine Ki rfl (fun h46=>?_) (fun h46=>?_)
  ·
    refine KD (KB ?_)
    refine KA (KH (v:=.int .u64 ((18446744073709551615:Nat):Int)) rfl) (Nb rfl) ?_
    refine KG (KY ?_)
    refine ⟨[_],.cons rfl .nil,fun a w' hr=>⟨18446744073709551615,?_,rfl,hr.fr.below⟩⟩
    exact ⟨by decide,by have:=quo_lt (dnm_pos hm0) hU; omega⟩
  ·
    have h46:limb U (at_+nw m)<limb (dnm m) (nw m-1):=Nat.lt_of_not_le h46
    have hq9:U/2^(64*at_)/2^(64*(nw m-1))/limb (dnm m) (nw m-1)<18446744073709551616:=by
      rw [← hf1,Nat.div_lt_iff_lt_mul (by omega),Nat.mul_comm]
      omega
    refine Km ?_
    refine KD (KB ?_)
    refine KA (KE rfl) (Nb rfl) ?_
    refine KA (KE rfl) (Nb rfl) ?_
    refine KA (KE rfl) (Nb rfl) ?_
    refine KK rfl (KX (KU (v:=.tuple #[.int .u64 ((U/2^(64*at_)/2^(64*(nw m-1))/limb (dnm m) (nw m-1):Nat):Int),.int .u64 ((U/2^(64*at_)/2^(64*(nw m-1))%limb (dnm m) (nw m-1):Nat):Int)]) (first:=[]) rfl en_197 rfl (Nb rfl) (fun w hw=>by have h:=c_Div64 (limb U (at_+nw m)) (limb U (at_+nw m-1)) _ (limb_lt _ _) hf3 hlt h46 w; rw [hf1] at h; exact h) ?_))
    refine KA (KE rfl) (Nb rfl) ?_
    refine KA (Kj rfl rfl) (Nb rfl) ?_
    refine KA (Kj rfl rfl) (Nb rfl) ?_
    refine KA (KH rfl) (Nb rfl) ?_
    refine KA (KH rfl) (Nb rfl) ?_
    refine KG ?_
    refine KD ?_
    refine KD (KB ?_)
    refine KA (KE rfl) (Nb rfl) ?_
    refine KA (KW rfl) (Nb rfl) ?_
    refine KA (KN (o':=9) Try.underlying241 rfl rfl rfl sz_3 (by decide)) (Nb rfl) ?_
    refine LOps.det (KM rfl (by repeat (first|exact Mh _|apply Mt)) (Kc Try.underlying3 rfl (dvL_n _))) (Nb rfl) ?_
    refine KA (KP rfl rfl (br_eql (b:=1))) (Nb rfl) ?_
    refine KG ?_
    first|refine Kf rfl (fun h58=>?_) (fun h58=>?_)|refine Ki rfl (fun h58=>?_) (fun h58=>?_)
    ·
      refine KD (KB ?_)
      refine KA (KE rfl) (Nb rfl) ?_
      refine KA (KH rfl) (Nb rfl) ?_
      refine KG (KY ?_)
      refine ⟨[_],.cons rfl .nil,fun a w' hr=>⟨(U/2^(64*at_)/2^(64*(nw m-1)))/limb (dnm m) (nw m-1),?_,rfl,hr.fr.below⟩⟩
      exact ⟨hq9,hf4⟩
    ·
      refine Km ?_
      refine LCode.block ?_
      refine KAQ (α:=Nat×Nat) (fun x=>x.1*limb (dnm m) (nw m-1)+x.2 = U/2^(64*at_)/2^(64*(nw m-1))∧U/2^(64*at_)/dnm m≤x.1∧x.1<18446744073709551616∧x.2<18446744073709551616) (fun x=>⟨[(0,.pointer (some ⟨bd,0,none⟩)),(1,.slice (some ⟨bu,0,none⟩) 19 19),(2,.int .i64 ((at_:Nat):Int)),(7,.int .u64 ((limb (dnm m) (nw m-1):Nat):Int)),(10,.int .u64 ((x.1:Nat):Int)),(11,.int .u64 ((x.2:Nat):Int))],[.blk bd ⟨false,dvL m,241,(0,0)⟩,.blk bu ⟨false,vec .u64 19 (limb U),243,(0,0)⟩]⟩) (fun x=>x.1) (((U/2^(64*at_)/2^(64*(nw m-1)))/limb (dnm m) (nw m-1),(U/2^(64*at_)/2^(64*(nw m-1)))%limb (dnm m) (nw m-1))) (⟨by rw [Nat.mul_comm]; exact Nat.div_add_mod _ _,hf4,hq9,Nat.lt_trans (Nat.mod_lt _ (by omega)) hlt⟩) (KAF ⟨rfl,rfl,rfl,rfl,rfl,rfl,trivial⟩ (by repeat (first|exact Sel.nil _|refine Sel.cons (by repeat (first|exact Ph _|apply Pt_)) ?_))) ?_
      intro x ⟨hx1,hx2,hx3,hx4⟩
      have h58:¬ nw m = 1:=h58
      refine LCode.block ?_
      refine KD ?_
      refine Ka [] (by kernel_rfl) ?_
      refine KC 0 rfl (by kernel_rfl) (Nb rfl) (KE rfl) ?_
      refine KC 1 rfl (by kernel_rfl) (Nb rfl) (KE rfl) ?_
      refine KC 2 rfl (by kernel_rfl) (Nb rfl) (KE rfl) ?_
      refine KC 3 rfl (by kernel_rfl) (Nb rfl) (KW rfl) ?_
      refine KC 4 rfl (by kernel_rfl) (Nb rfl) (KN (o':=9) Try.underlying241 rfl rfl rfl sz_3 (by decide)) ?_
      refine LAny.take 5 rfl (by kernel_rfl) (Nb rfl) (KM rfl (by repeat (first|exact Mh _|apply Mt)) (Kc Try.underlying3 rfl (dvL_n _))) ?_
      refine KC 6 rfl (by kernel_rfl) (Nb rfl) (KP rfl rfl (br_sub (b:=2) (by omega) (by omega))) ?_
      refine KC 7 rfl (by kernel_rfl) (Nb rfl) (KW rfl) ?_
      refine KC 8 rfl (by kernel_rfl) (Nb rfl) (KN (o':=0) Try.underlying241 rfl rfl rfl sz_23 (by decide)) ?_
      refine KC 9 rfl (by kernel_rfl) (Nb rfl) (Kv Try.underlying23 sz_22 rfl rfl (by omega)) ?_
      refine LAny.take 10 rfl (by kernel_rfl) (Nb rfl) (KM rfl (by repeat (first|exact Mh _|apply Mt)) (Kc Try.underlying22 rfl (by exact dvL_m _ (show nw m-2<9 by omega)))) ?_
      refine Kt 11 rfl rfl (by kernel_rfl) (KU (first:=[]) rfl en_193 rfl (Nb rfl) (fun w hw=>c_Mul64 _ _ hx3 (limb_lt _ _) w) ?_)
      refine KC 12 rfl (by kernel_rfl) (Nb rfl) (KE rfl) ?_
      refine KC 13 rfl (by kernel_rfl) (Nb rfl) (Kj rfl rfl) ?_
      refine KC 14 rfl (by kernel_rfl) (Nb rfl) (Kj rfl rfl) ?_
      refine KC 15 rfl (by kernel_rfl) (Nb rfl) (KH rfl) ?_
      refine KC 16 rfl (by kernel_rfl) (Nb rfl) (KH rfl) ?_
      refine Ko (by kernel_rfl) ?_
      refine KD ?_
      refine KD ?_
      rcases Nat.lt_trichotomy (x.1*limb (dnm m) (nw m-2)/18446744073709551616) x.2 with h9|h9|h9
      ·
        refine KB ?_
        refine KA (KE rfl) (Nb rfl) ?_
        refine KA (KE rfl) (Nb rfl) ?_
        refine KA (KP rfl rfl (br_t br_lss h9)) (Nb rfl) ?_
        refine KA (KE rfl) (Nb rfl) ?_
        refine Ku rfl rfl rfl (Nb rfl) ?_
        refine Ku rfl rfl rfl (Nb rfl) ?_
        refine Ku rfl rfl rfl (Nb rfl) ?_
        refine Ku rfl rfl rfl (Nb rfl) ?_
        refine LOps.skipU rfl rfl (Nb rfl) ?_
        refine LOps.skipU rfl rfl (Nb rfl) ?_
        refine LOps.skipU rfl rfl (Nb rfl) ?_
        refine LOps.skipU rfl rfl (Nb rfl) ?_
        refine LOps.skipU rfl rfl (Nb rfl) ?_
        refine LOps.skipU rfl rfl (Nb rfl) ?_
        refine LOps.skipU rfl rfl (Nb rfl) ?_
        refine LOps.skipU rfl rfl (Nb rfl) ?_
        refine LOps.skipU rfl rfl (Nb rfl) ?_
        refine LOps.skipU rfl rfl (Nb rfl) ?_
        refine LOps.skipU rfl rfl (Nb rfl) ?_
        refine LOps.skipU rfl rfl (Nb rfl) ?_
        refine Ku rfl rfl rfl (Nb rfl) ?_
        refine KA (KAE rfl rfl) (Nb rfl) ?_
        refine KG ?_
        refine Kx rfl ?_
        refine KD (KB ?_)
        refine KA (KE rfl) (Nb rfl) ?_
        refine KA (KH rfl) (Nb rfl) ?_
        refine KG (KY ?_)
        refine ⟨[_],.cons rfl .nil,fun a w' hr=>⟨x.1,?_,rfl,hr.fr.below⟩⟩
        exact ⟨hx3,hx2⟩
      ·
        refine KB ?_
        refine KA (KE rfl) (Nb rfl) ?_
        refine KA (KE rfl) (Nb rfl) ?_
        refine KA (KP rfl rfl (br_f br_lss (by omega))) (Nb rfl) ?_
        refine KA (KE rfl) (Nb rfl) ?_
        refine Ke rfl rfl (KE rfl) (Nb rfl) ?_
        refine Ke rfl rfl (KE rfl) (Nb rfl) ?_
        refine Ke rfl rfl (KP rfl rfl (br_t br_eql h9)) (Nb rfl) ?_
        refine Ke rfl rfl (KE rfl) (Nb rfl) ?_
        refine Ke rfl rfl (KE rfl) (Nb rfl) ?_
        refine Ke rfl rfl (KE rfl) (Nb rfl) ?_
        refine Ke rfl rfl (KE rfl) (Nb rfl) ?_
        refine Ke rfl rfl (KE rfl) (Nb rfl) ?_
        refine Ke rfl rfl (KW rfl) (Nb rfl) ?_
        refine Ke rfl rfl (KN (o':=9) Try.underlying241 rfl rfl rfl sz_3 (by decide)) (Nb rfl) ?_
        refine KAZ rfl rfl (KM rfl (by repeat (first|exact Mh _|apply Mt)) (Kc Try.underlying3 rfl (dvL_n _))) (Nb rfl) ?_
        refine Ke rfl rfl (KP rfl rfl (KAT (by omega))) (Nb rfl) ?_
        refine Ke rfl rfl (KP rfl rfl (br_sub (b:=2) (by omega) (by omega))) (Nb rfl) ?_
        refine Ke rfl rfl (KAN Try.underlying234 sz_22 rfl rfl (by omega)) (Nb rfl) ?_
        refine KAZ rfl rfl (KM rfl (by repeat (first|exact Mh _|apply Mt)) (Kc Try.underlying22 rfl (by exact KAG _ _ _ (show at_+nw m-2<19 by omega)))) (Nb rfl) ?_
        refine Ke rfl rfl (KP rfl rfl (br_leq)) (Nb rfl) ?_
        refine Ke rfl rfl (KAE rfl rfl) (Nb rfl) ?_
        refine KA (Kz rfl rfl) (Nb rfl) ?_
        refine KG ?_
        first|refine Kf rfl (fun h96=>?_) (fun h96=>?_)|refine Ki rfl (fun h96=>?_) (fun h96=>?_)
        ·
          refine KD (KB ?_)
          refine KA (KE rfl) (Nb rfl) ?_
          refine KA (KH rfl) (Nb rfl) ?_
          refine KG (KY ?_)
          refine ⟨[_],.cons rfl .nil,fun a w' hr=>⟨x.1,?_,rfl,hr.fr.below⟩⟩
          exact ⟨hx3,hx2⟩
        ·
          have h96:¬ x.1*limb (dnm m) (nw m-2)%18446744073709551616≤limb U (at_+nw m-2):=h96
          have hq:=guess_step hm0 (by omega) hx1 (by rw [← prod_parts (x.1*limb (dnm m) (nw m-2))]; exact two_le (Nat.mod_lt _ (by decide)) (limb_lt _ _) (.inr ⟨h9,by omega⟩))
          have hq0:=Nat.lt_of_le_of_lt (Nat.zero_le _) hq
          refine Km ?_
          refine KD (KB ?_)
          refine KA (KE rfl) (Nb rfl) ?_
          refine KA (Kb (KP rfl rfl (br_sub64 (b:=1) (by decide))) (vi (b:=x.1-1) (by omega))) (Nb rfl) ?_
          refine KA (KH rfl) (Nb rfl) ?_
          refine KG ?_
          refine KD (KB ?_)
          refine KA (KE rfl) (Nb rfl) ?_
          refine KA (KE rfl) (Nb rfl) ?_
          refine KA (KP rfl rfl (br_add64)) (Nb rfl) ?_
          refine KA (KH rfl) (Nb rfl) ?_
          refine KG ?_
          refine KD ?_
          refine KD (KB ?_)
          refine KA (KE rfl) (Nb rfl) ?_
          refine KA (KE rfl) (Nb rfl) ?_
          refine KA (KP rfl rfl (br_lss)) (Nb rfl) ?_
          refine KG ?_
          first|refine Kf rfl (fun h105=>?_) (fun h105=>?_)|refine Ki rfl (fun h105=>?_) (fun h105=>?_)
          ·
            have h105:(x.2+limb (dnm m) (nw m-1))%18446744073709551616<x.2:=h105
            refine KD (KB ?_)
            refine KA (KE rfl) (Nb rfl) ?_
            refine KA (KH rfl) (Nb rfl) ?_
            refine KG (KY ?_)
            refine ⟨[_],.cons rfl .nil,fun a w' hr=>⟨x.1-1,?_,rfl,hr.fr.below⟩⟩
            exact ⟨by omega,Nat.le_sub_one_of_lt hq⟩
          ·
            have h105:¬ (x.2+limb (dnm m) (nw m-1))%18446744073709551616<x.2:=h105
            refine Km ?_
            refine KB ?_
            refine KA (KE rfl) (Nb rfl) ?_
            refine KA (KH rfl) (Nb rfl) ?_
            refine KG ?_
            refine ⟨(x.1-1,x.2+limb (dnm m) (nw m-1)),⟨guess_next (d2:=0) (u:=0) hx1 hq0,Nat.le_sub_one_of_lt hq,by dsimp only; omega,by dsimp only; omega⟩,by dsimp only; omega,KAF ⟨rfl,rfl,rfl,rfl,rfl,congrArg some (vi (by dsimp only; omega)),trivial⟩ (by repeat (first|exact Sel.nil _|refine Sel.cons (by repeat (first|exact Ph _|apply Pt_)) ?_))⟩
      ·
        refine KB ?_
        refine KA (KE rfl) (Nb rfl) ?_
        refine KA (KE rfl) (Nb rfl) ?_
        refine KA (KP rfl rfl (br_f br_lss (by omega))) (Nb rfl) ?_
        refine KA (KE rfl) (Nb rfl) ?_
        refine Ke rfl rfl (KE rfl) (Nb rfl) ?_
        refine Ke rfl rfl (KE rfl) (Nb rfl) ?_
        refine Ke rfl rfl (KP rfl rfl (br_f br_eql (by omega))) (Nb rfl) ?_
        refine Ke rfl rfl (KE rfl) (Nb rfl) ?_
        refine Ku rfl rfl rfl (Nb rfl) ?_
        refine Ku rfl rfl rfl (Nb rfl) ?_
        refine Ku rfl rfl rfl (Nb rfl) ?_
        refine Ku rfl rfl rfl (Nb rfl) ?_
        refine Ku rfl rfl rfl (Nb rfl) ?_
        refine Ku rfl rfl rfl (Nb rfl) ?_
        refine Ku rfl rfl rfl (Nb rfl) ?_
        refine Ku rfl rfl rfl (Nb rfl) ?_
        refine Ku rfl rfl rfl (Nb rfl) ?_
        refine Ku rfl rfl rfl (Nb rfl) ?_
        refine Ku rfl rfl rfl (Nb rfl) ?_
        refine Ku rfl rfl rfl (Nb rfl) ?_
        refine Ke rfl rfl (Kz rfl rfl) (Nb rfl) ?_
        refine KA (Kz rfl rfl) (Nb rfl) ?_
        refine KG ?_
        have hq:=guess_step hm0 (by omega) hx1 (by rw [← prod_parts (x.1*limb (dnm m) (nw m-2))]; exact two_le (Nat.mod_lt _ (by decide)) (limb_lt _ _) (.inl h9))
        have hq0:=Nat.lt_of_le_of_lt (Nat.zero_le _) hq
        refine Kp rfl ?_
        refine Km ?_
        refine KD (KB ?_)
        refine KA (KE rfl) (Nb rfl) ?_
        refine KA (Kb (KP rfl rfl (br_sub64 (b:=1) (by decide))) (vi (b:=x.1-1) (by omega))) (Nb rfl) ?_
        refine KA (KH rfl) (Nb rfl) ?_
        refine KG ?_
        refine KD (KB ?_)
        refine KA (KE rfl) (Nb rfl) ?_
        refine KA (KE rfl) (Nb rfl) ?_
        refine KA (KP rfl rfl (br_add64)) (Nb rfl) ?_
        refine KA (KH rfl) (Nb rfl) ?_
        refine KG ?_
        refine KD ?_
        refine KD (KB ?_)
        refine KA (KE rfl) (Nb rfl) ?_
        refine KA (KE rfl) (Nb rfl) ?_
        refine KA (KP rfl rfl (br_lss)) (Nb rfl) ?_
        refine KG ?_
        first|refine Kf rfl (fun h105=>?_) (fun h105=>?_)|refine Ki rfl (fun h105=>?_) (fun h105=>?_)
        ·
          have h105:(x.2+limb (dnm m) (nw m-1))%18446744073709551616<x.2:=h105
          refine KD (KB ?_)
          refine KA (KE rfl) (Nb rfl) ?_
          refine KA (KH rfl) (Nb rfl) ?_
          refine KG (KY ?_)
          refine ⟨[_],.cons rfl .nil,fun a w' hr=>⟨x.1-1,?_,rfl,hr.fr.below⟩⟩
          exact ⟨by omega,Nat.le_sub_one_of_lt hq⟩
        ·
          have h105:¬ (x.2+limb (dnm m) (nw m-1))%18446744073709551616<x.2:=h105
          refine Km ?_
          refine KB ?_
          refine KA (KE rfl) (Nb rfl) ?_
          refine KA (KH rfl) (Nb rfl) ?_
          refine KG ?_
          refine ⟨(x.1-1,x.2+limb (dnm m) (nw m-1)),⟨guess_next (d2:=0) (u:=0) hx1 hq0,Nat.le_sub_one_of_lt hq,by dsimp only; omega,by dsimp only; omega⟩,by dsimp only; omega,KAF ⟨rfl,rfl,rfl,rfl,rfl,congrArg some (vi (by dsimp only; omega)),trivial⟩ (by repeat (first|exact Sel.nil _|refine Sel.cons (by repeat (first|exact Ph _|apply Pt_)) ?_))⟩
end Go.Proofs.Ytljblbgogjieaaa
set_option linter.unusedVariables false
set_option linter.unusedSimpArgs false
set_option maxRecDepth 20000
namespace Go.Proofs.Ytljblbgogjieaaa
open Go Go.RowKit
theorem take_pre {U q D a:Nat}:U+q*(D%2^(64*0))*2^(64*a) = U+(0+0)*2^(64*(a+0)):=by
  rw [Nat.mul_zero,Nat.pow_zero,Nat.mod_one,Nat.mul_zero,Nat.zero_mul,Nat.zero_mul]
theorem back_pre {U D a:Nat}:U+0*2^(64*(a+0)) = U+(D%2^(64*0))*2^(64*a):=by
  rw [Nat.mul_zero,Nat.pow_zero,Nat.mod_one,Nat.zero_mul,Nat.zero_mul]
theorem c_take (m U bd bu at_ q:Nat) (hq:q<18446744073709551616) (w:World) (hbd:(Item.blk bd ⟨false,dvL m,241,(0,0)⟩).holds w) (hbu:(Item.blk bu ⟨true,vec .u64 19 (limb U),243,(0,0)⟩).holds w) (hne:bd≠bu) (hm:m<W9) (hat:at_+nw m<19) (hU:U<2^(64*(at_+nw m+1))):Calls Try.prog 195 ([.pointer (some ⟨bd,0,none⟩),.slice (some ⟨bu,0,none⟩) 19 19,.int .i64 ((at_:Nat):Int),.int .u64 ((q:Nat):Int)]:List Value).toArray w (fun e w'=>∃ v cs',(∃ U' bw,bw≤1∧U' < 2^(64*(at_+nw m+1))∧U'+q*dnm m*2^(64*at_) = U+bw*2^(64*(at_+nw m+1))∧v = .bool (decide (bw = 1))∧cs' = vec .u64 19 (limb U'))∧e = .returned v∧(Item.blk bu ⟨true,cs',243,(0,0)⟩).holds w'∧Fr (fun k=>k = bu) w w'):=by
  refine calls_w1 (N:=85) (rs:=[.tmp 8]) bu (vec .u64 19 (limb U)) 243 (0,0) [.blk bd ⟨false,dvL m,241,(0,0)⟩] Try.func195 rfl Try.ntmps195 Try.results195 (Nb rfl) hbu ⟨hbd,trivial⟩ rfl (by intro x hx; simp at hx; subst hx; simp [Item.fp]; exact fun e=>hne e.symm) ?_
  show LCode _ _ _ ⟨_,_⟩ _
  refine KD ?_
  have hn9:=nw_w9 hm
  refine KB ?_
  refine KA (KH rfl) (Nb rfl) ?_
  refine KG ?_
  refine KD (KB ?_)
  refine KA (KH (v:=.int .u64 ((0:Nat):Int)) rfl) (Nb rfl) ?_
  refine KA (KH (v:=.int .u64 ((0:Nat):Int)) rfl) (Nb rfl) ?_
  refine KG ?_
  refine KD ?_
  refine KD (KB ?_)
  refine KA (KE rfl) (Nb rfl) ?_
  refine KA (KW rfl) (Nb rfl) ?_
  refine KA (KN (o':=9) Try.underlying241 rfl rfl rfl sz_3 (by decide)) (Nb rfl) ?_
  refine LOps.det (KM rfl (by repeat (first|exact Mh _|apply Mt)) (Kc Try.underlying3 rfl (dvL_n _))) (Nb rfl) ?_
  refine KA (KE (v:=.int .i64 ((0:Nat):Int)) rfl) (Nb rfl) ?_
  refine KG ?_
  refine LCode.block ?_
  refine KAQ (α:=Nat×Nat×Nat×Nat) (fun x=>x.1≤nw m∧x.2.2.1≤1∧x.2.2.2<18446744073709551616∧x.2.1<2^(64*(at_+nw m+1))∧x.2.1+q*(dnm m%2^(64*x.1))*2^(64*at_) = U+(x.2.2.1+x.2.2.2)*2^(64*(at_+x.1))) (fun x=>⟨[(0,.pointer (some ⟨bd,0,none⟩)),(1,.slice (some ⟨bu,0,none⟩) 19 19),(2,.int .i64 ((at_:Nat):Int)),(3,.int .u64 ((q:Nat):Int)),(9,.int .u64 ((x.2.2.1:Nat):Int)),(10,.int .u64 ((x.2.2.2:Nat):Int)),(18,.int .i64 ((nw m:Nat):Int)),(19,.int .i64 ((x.1:Nat):Int))],[.blk bu ⟨true,vec .u64 19 (limb x.2.1),243,(0,0)⟩,.blk bd ⟨false,dvL m,241,(0,0)⟩]⟩) (fun x=>nw m-x.1) ((0,U,0,0)) (⟨Nat.zero_le _,Nat.zero_le _,show (0:Nat)<18446744073709551616 by decide,hU,take_pre⟩) (KAF ⟨rfl,rfl,rfl,rfl,rfl,rfl,rfl,rfl,trivial⟩ (by repeat (first|exact Sel.nil _|refine Sel.cons (by repeat (first|exact Ph _|apply Pt_)) ?_))) ?_
  intro x ⟨hx1,hx2,hx3,hx4,hx5⟩
  refine KD (KB ?_)
  refine KA (KP rfl rfl (br_lss)) (Nb rfl) ?_
  refine KG ?_
  refine KD ?_
  first|refine Kf rfl (fun h20=>?_) (fun h20=>?_)|refine Ki rfl (fun h20=>?_) (fun h20=>?_)
  ·
    have h20:x.1<nw m:=h20
    refine Km ?_
    refine KD ?_
    refine LCode.block ?_
    refine KD (KB ?_)
    refine KA (KE rfl) (Nb rfl) ?_
    refine KA (KH rfl) (Nb rfl) ?_
    refine KG ?_
    refine KD (KB ?_)
    refine KA (KE rfl) (Nb rfl) ?_
    refine KA (KE rfl) (Nb rfl) ?_
    refine KA (KE rfl) (Nb rfl) ?_
    refine KA (KW rfl) (Nb rfl) ?_
    refine KA (KN (o':=0) Try.underlying241 rfl rfl rfl sz_23 (by decide)) (Nb rfl) ?_
    refine KA (Kv Try.underlying23 sz_22 rfl rfl (by omega)) (Nb rfl) ?_
    refine LOps.det (KM rfl (by repeat (first|exact Mh _|apply Mt)) (Kc Try.underlying22 rfl (by exact dvL_m _ (show x.1<9 by omega)))) (Nb rfl) ?_
    refine KK rfl (KX (KU (first:=[]) rfl en_193 rfl (Nb rfl) (fun w hw=>c_Mul64 _ _ hq (limb_lt _ _) w) ?_))
    refine KA (KE rfl) (Nb rfl) ?_
    refine KA (Kj rfl rfl) (Nb rfl) ?_
    refine KA (Kj rfl rfl) (Nb rfl) ?_
    refine KA (KH rfl) (Nb rfl) ?_
    refine KA (KH rfl) (Nb rfl) ?_
    refine KG ?_
    refine KD (KB ?_)
    refine KA (KH (v:=.int .u64 ((0:Nat):Int)) rfl) (Nb rfl) ?_
    refine KG ?_
    refine KD (KB ?_)
    refine KA (KE rfl) (Nb rfl) ?_
    refine KA (KE rfl) (Nb rfl) ?_
    refine KA (Det.add64 (c:=0) ex_184 rfl rfl rfl (by omega)) (Nb rfl) ?_
    refine KA (KE rfl) (Nb rfl) ?_
    refine KA (Kj rfl rfl) (Nb rfl) ?_
    refine KA (Kj rfl rfl) (Nb rfl) ?_
    refine KA (KH rfl) (Nb rfl) ?_
    refine KA (KH rfl) (Nb rfl) ?_
    refine KG ?_
    refine KD (KB ?_)
    refine KA (KE rfl) (Nb rfl) ?_
    refine KA (KE rfl) (Nb rfl) ?_
    refine KA (KP rfl rfl (br_add64)) (Nb rfl) ?_
    refine KA (KH rfl) (Nb rfl) ?_
    refine KG ?_
    refine KB ?_
    refine KA (KE rfl) (Nb rfl) ?_
    refine KA (KE rfl) (Nb rfl) ?_
    refine KA (KE rfl) (Nb rfl) ?_
    refine KA (KP rfl rfl (KAT (by omega))) (Nb rfl) ?_
    refine KA (KE rfl) (Nb rfl) ?_
    refine KA (KE rfl) (Nb rfl) ?_
    refine KA (KE rfl) (Nb rfl) ?_
    refine KA (KP rfl rfl (KAT (by omega))) (Nb rfl) ?_
    refine KA (KAN Try.underlying234 sz_22 rfl rfl (by omega)) (Nb rfl) ?_
    refine LOps.det (KM rfl (by repeat (first|exact Mh _|apply Mt)) (Kc Try.underlying22 rfl (by exact KAG _ _ _ (show at_+x.1<19 by omega)))) (Nb rfl) ?_
    refine KA (KE rfl) (Nb rfl) ?_
    refine KA (KE rfl) (Nb rfl) ?_
    refine KA (Det.sub64 ex_171 rfl rfl rfl (by omega)) (Nb rfl) ?_
    refine KA (KE rfl) (Nb rfl) ?_
    refine KA (Kj rfl rfl) (Nb rfl) ?_
    refine KA (Kj rfl rfl) (Nb rfl) ?_
    refine KA (KAN Try.underlying234 sz_22 rfl rfl (by omega)) (Nb rfl) ?_
    refine KK rfl (KAC rfl rfl rfl sz_22 (by repeat (first|exact Sh _|apply St_)) (by first|(simp only [KJ,KF,KI,KAO]; omega)|(simp; omega)) (by first|exact vec_set _ _ _ _ _|exact dv_setm _ _ _ _ (by omega)|exact dv_sets _ _ _ _|rfl) (by simp) ?_)
    refine KA (KH rfl) (Nb rfl) ?_
    refine KG ?_
    refine KB ?_
    refine KA (KP rfl rfl (KAT (b:=1) (by omega))) (Nb rfl) ?_
    refine KA (KE rfl) (Nb rfl) ?_
    refine KG ?_
    have hw:=mul_word hq (limb_lt (dnm m) x.1) hx3
    have hp:=mul_parts hx3 hw
    refine ⟨(x.1+1,setl x.2.1 (at_+x.1) ((limb x.2.1 (at_+x.1)+18446744073709551616-(q*limb (dnm m) x.1+x.2.2.2)%18446744073709551616-x.2.2.1)%18446744073709551616),(if limb x.2.1 (at_+x.1)<(q*limb (dnm m) x.1+x.2.2.2)%18446744073709551616+x.2.2.1 then 1 else 0),(q*limb (dnm m) x.1+x.2.2.2)/18446744073709551616),⟨by dsimp only; omega,by dsimp only; split <;> omega,by dsimp only; omega,setl_lt hx4 (by omega) (Nat.mod_lt _ (by decide)),take_step hx5 rfl (sub_word (limb_lt _ _) (Nat.mod_lt _ (by decide)) hx2)⟩,by dsimp only; omega,
      Sub.re (Sub.cells (b:=bu) (cs':=vec .u64 19 (limb (setl x.2.1 (at_+x.1) ((limb x.2.1 (at_+x.1)+18446744073709551616-(q*limb (dnm m) x.1+x.2.2.2)%18446744073709551616-x.2.2.1)%18446744073709551616)))) (by repeat (first|exact Sh _|apply St_)) ?_) (KAF ⟨rfl,rfl,rfl,rfl,congrArg some (vi (by dsimp only; rw [hp.1])),congrArg some (vi hp.2),rfl,rfl,trivial⟩ (by repeat (first|exact Sel.nil _|refine Sel.cons (by repeat (first|exact Ph _|apply Pt_)) ?_)))⟩
    rw [hp.1]
    exact vec_setl (Nat.mod_lt _ (by decide))
  ·
    have h20:¬ x.1<nw m:=h20
    have he:x.1 = nw m:=by omega
    rw [he] at hx5
    refine KAI ?_
    refine KD ?_
    refine Ka [23] (by kernel_rfl) ?_
    refine KC 0 rfl (by kernel_rfl) (Nb rfl) (KE rfl) ?_
    refine KC 1 rfl (by kernel_rfl) (Nb rfl) (KE rfl) ?_
    refine KC 2 rfl (by kernel_rfl) (Nb rfl) (KE rfl) ?_
    refine KC 3 rfl (by kernel_rfl) (Nb rfl) (KW rfl) ?_
    refine KC 4 rfl (by kernel_rfl) (Nb rfl) (KN (o':=9) Try.underlying241 rfl rfl rfl sz_3 (by decide)) ?_
    refine LAny.take 5 rfl (by kernel_rfl) (Nb rfl) (KM rfl (by repeat (first|exact Mh _|apply Mt)) (Kc Try.underlying3 rfl (dvL_n _))) ?_
    refine KC 6 rfl (by kernel_rfl) (Nb rfl) (KP rfl rfl (KAT (by omega))) ?_
    refine KC 7 rfl (by kernel_rfl) (Nb rfl) (KE rfl) ?_
    refine KC 8 rfl (by kernel_rfl) (Nb rfl) (KE rfl) ?_
    refine KC 9 rfl (by kernel_rfl) (Nb rfl) (KE rfl) ?_
    refine KC 10 rfl (by kernel_rfl) (Nb rfl) (KW rfl) ?_
    refine KC 11 rfl (by kernel_rfl) (Nb rfl) (KN (o':=9) Try.underlying241 rfl rfl rfl sz_3 (by decide)) ?_
    refine LAny.take 12 rfl (by kernel_rfl) (Nb rfl) (KM rfl (by repeat (first|exact Mh _|apply Mt)) (Kc Try.underlying3 rfl (dvL_n _))) ?_
    refine KC 13 rfl (by kernel_rfl) (Nb rfl) (KP rfl rfl (KAT (by omega))) ?_
    refine KC 14 rfl (by kernel_rfl) (Nb rfl) (KAN Try.underlying234 sz_22 rfl rfl (by omega)) ?_
    refine LAny.take 15 rfl (by kernel_rfl) (Nb rfl) (KM rfl (by repeat (first|exact Mh _|apply Mt)) (Kc Try.underlying22 rfl (by exact KAG _ _ _ (show at_+nw m<19 by omega)))) ?_
    refine KC 16 rfl (by kernel_rfl) (Nb rfl) (KE rfl) ?_
    refine KC 17 rfl (by kernel_rfl) (Nb rfl) (KE rfl) ?_
    refine KC 18 rfl (by kernel_rfl) (Nb rfl) (Det.sub64 ex_171 rfl rfl rfl (by omega)) ?_
    refine KC 19 rfl (by kernel_rfl) (Nb rfl) (KE rfl) ?_
    refine KC 20 rfl (by kernel_rfl) (Nb rfl) (Kj rfl rfl) ?_
    refine KC 21 rfl (by kernel_rfl) (Nb rfl) (Kj rfl rfl) ?_
    refine KC 22 rfl (by kernel_rfl) (Nb rfl) (KAN Try.underlying234 sz_22 rfl rfl (by omega)) ?_
    refine Kn 23 rfl rfl (by kernel_rfl) (by kernel_rfl) (KAC rfl rfl rfl sz_22 (by repeat (first|exact Sh _|apply St_)) (by first|(simp only [KJ,KF,KI,KAO]; omega)|(simp; omega)) (by first|exact vec_set _ _ _ _ _|exact dv_setm _ _ _ _ (by omega)|exact dv_sets _ _ _ _|rfl) (by simp) ?_)
    refine KC 24 rfl (by kernel_rfl) (Nb rfl) (KH rfl) ?_
    refine Ko (by kernel_rfl) ?_
    refine KD (KB ?_)
    refine KA (KE rfl) (Nb rfl) ?_
    refine KA (KP rfl rfl (br_eql (b:=1))) (Nb rfl) ?_
    refine KA (KH rfl) (Nb rfl) ?_
    refine KG (KY ?_)
    refine ⟨[_],.cons rfl .nil,fun a w' hr=>⟨_,_,⟨setl x.2.1 (at_+nw m) ((limb x.2.1 (at_+nw m)+18446744073709551616-x.2.2.2-x.2.2.1)%18446744073709551616),(if limb x.2.1 (at_+nw m)<x.2.2.2+x.2.2.1 then 1 else 0),by split <;> omega,setl_lt hx4 (by omega) (Nat.mod_lt _ (by decide)),take_last (dnm_lt m) hx5 (sub_word (limb_lt _ _) hx3 hx2),rfl,vec_setl (Nat.mod_lt _ (by decide))⟩,rfl,hr.hp _ (by repeat (first|exact Mh _|apply Mt)),hr.fr⟩⟩
theorem c_back (m U bd bu at_:Nat) (w:World) (hbd:(Item.blk bd ⟨false,dvL m,241,(0,0)⟩).holds w) (hbu:(Item.blk bu ⟨true,vec .u64 19 (limb U),243,(0,0)⟩).holds w) (hne:bd≠bu) (hm:m<W9) (hat:at_+nw m<19) (hU:U<2^(64*(at_+nw m+1))):Calls Try.prog 196 ([.pointer (some ⟨bd,0,none⟩),.slice (some ⟨bu,0,none⟩) 19 19,.int .i64 ((at_:Nat):Int)]:List Value).toArray w (fun e w'=>∃ v cs',(∃ U' c,c≤1∧U' < 2^(64*(at_+nw m+1))∧U'+c*2^(64*(at_+(nw m+1))) = U+dnm m*2^(64*at_)∧v = .bool (decide (c = 1))∧cs' = vec .u64 19 (limb U'))∧e = .returned v∧(Item.blk bu ⟨true,cs',243,(0,0)⟩).holds w'∧Fr (fun k=>k = bu) w w'):=by
  refine calls_w1 (N:=63) (rs:=[.tmp 6]) bu (vec .u64 19 (limb U)) 243 (0,0) [.blk bd ⟨false,dvL m,241,(0,0)⟩] Try.func196 rfl Try.ntmps196 Try.results196 (Nb rfl) hbu ⟨hbd,trivial⟩ rfl (by intro x hx; simp at hx; subst hx; simp [Item.fp]; exact fun e=>hne e.symm) ?_
  show LCode _ _ _ ⟨_,_⟩ _
  refine KD ?_
  have hn9:=nw_w9 hm
  refine KB ?_
  refine KA (KH rfl) (Nb rfl) ?_
  refine KG ?_
  refine KD (KB ?_)
  refine KA (KH (v:=.int .u64 ((0:Nat):Int)) rfl) (Nb rfl) ?_
  refine KG ?_
  refine KD ?_
  refine KD (KB ?_)
  refine KA (KE rfl) (Nb rfl) ?_
  refine KA (KW rfl) (Nb rfl) ?_
  refine KA (KN (o':=9) Try.underlying241 rfl rfl rfl sz_3 (by decide)) (Nb rfl) ?_
  refine LOps.det (KM rfl (by repeat (first|exact Mh _|apply Mt)) (Kc Try.underlying3 rfl (dvL_n _))) (Nb rfl) ?_
  refine KA (KE (v:=.int .i64 ((0:Nat):Int)) rfl) (Nb rfl) ?_
  refine KG ?_
  refine LCode.block ?_
  refine KAQ (α:=Nat×Nat×Nat) (fun x=>x.1≤nw m∧x.2.2≤1∧x.2.1<2^(64*(at_+nw m+1))∧x.2.1+x.2.2*2^(64*(at_+x.1)) = U+(dnm m%2^(64*x.1))*2^(64*at_)) (fun x=>⟨[(0,.pointer (some ⟨bd,0,none⟩)),(1,.slice (some ⟨bu,0,none⟩) 19 19),(2,.int .i64 ((at_:Nat):Int)),(7,.int .u64 ((x.2.2:Nat):Int)),(12,.int .i64 ((nw m:Nat):Int)),(13,.int .i64 ((x.1:Nat):Int))],[.blk bu ⟨true,vec .u64 19 (limb x.2.1),243,(0,0)⟩,.blk bd ⟨false,dvL m,241,(0,0)⟩]⟩) (fun x=>nw m-x.1) ((0,U,0)) (⟨Nat.zero_le _,Nat.zero_le _,hU,back_pre⟩) (KAF ⟨rfl,rfl,rfl,rfl,rfl,rfl,trivial⟩ (by repeat (first|exact Sel.nil _|refine Sel.cons (by repeat (first|exact Ph _|apply Pt_)) ?_))) ?_
  intro x ⟨hx1,hx2,hx4,hx5⟩
  refine KD (KB ?_)
  refine KA (KP rfl rfl (br_lss)) (Nb rfl) ?_
  refine KG ?_
  refine KD ?_
  first|refine Kf rfl (fun h20=>?_) (fun h20=>?_)|refine Ki rfl (fun h20=>?_) (fun h20=>?_)
  ·
    have h20:x.1<nw m:=h20
    refine Km ?_
    refine KD ?_
    refine LCode.block ?_
    refine KD (KB ?_)
    refine KA (KE rfl) (Nb rfl) ?_
    refine KA (KH rfl) (Nb rfl) ?_
    refine KG ?_
    refine Ka [22] (by kernel_rfl) ?_
    refine KC 0 rfl (by kernel_rfl) (Nb rfl) (KE rfl) ?_
    refine KC 1 rfl (by kernel_rfl) (Nb rfl) (KE rfl) ?_
    refine KC 2 rfl (by kernel_rfl) (Nb rfl) (KE rfl) ?_
    refine KC 3 rfl (by kernel_rfl) (Nb rfl) (KP rfl rfl (KAT (by omega))) ?_
    refine KC 4 rfl (by kernel_rfl) (Nb rfl) (KE rfl) ?_
    refine KC 5 rfl (by kernel_rfl) (Nb rfl) (KE rfl) ?_
    refine KC 6 rfl (by kernel_rfl) (Nb rfl) (KE rfl) ?_
    refine KC 7 rfl (by kernel_rfl) (Nb rfl) (KP rfl rfl (KAT (by omega))) ?_
    refine KC 8 rfl (by kernel_rfl) (Nb rfl) (KAN Try.underlying234 sz_22 rfl rfl (by omega)) ?_
    refine LAny.take 9 rfl (by kernel_rfl) (Nb rfl) (KM rfl (by repeat (first|exact Mh _|apply Mt)) (Kc Try.underlying22 rfl (by exact KAG _ _ _ (show at_+x.1<19 by omega)))) ?_
    refine KC 10 rfl (by kernel_rfl) (Nb rfl) (KE rfl) ?_
    refine KC 11 rfl (by kernel_rfl) (Nb rfl) (KE rfl) ?_
    refine KC 12 rfl (by kernel_rfl) (Nb rfl) (KW rfl) ?_
    refine KC 13 rfl (by kernel_rfl) (Nb rfl) (KN (o':=0) Try.underlying241 rfl rfl rfl sz_23 (by decide)) ?_
    refine KC 14 rfl (by kernel_rfl) (Nb rfl) (Kv Try.underlying23 sz_22 rfl rfl (by omega)) ?_
    refine LAny.take 15 rfl (by kernel_rfl) (Nb rfl) (KM rfl (by repeat (first|exact Mh _|apply Mt)) (Kc Try.underlying22 rfl (by exact dvL_m _ (show x.1<9 by omega)))) ?_
    refine KC 16 rfl (by kernel_rfl) (Nb rfl) (KE rfl) ?_
    refine KC 17 rfl (by kernel_rfl) (Nb rfl) (Det.add64 ex_184 rfl rfl rfl (by omega)) ?_
    refine KC 18 rfl (by kernel_rfl) (Nb rfl) (KE rfl) ?_
    refine KC 19 rfl (by kernel_rfl) (Nb rfl) (Kj rfl rfl) ?_
    refine KC 20 rfl (by kernel_rfl) (Nb rfl) (Kj rfl rfl) ?_
    refine KC 21 rfl (by kernel_rfl) (Nb rfl) (KAN Try.underlying234 sz_22 rfl rfl (by omega)) ?_
    refine Kn 22 rfl rfl (by kernel_rfl) (by kernel_rfl) (KAC rfl rfl rfl sz_22 (by repeat (first|exact Sh _|apply St_)) (by first|(simp only [KJ,KF,KI,KAO]; omega)|(simp; omega)) (by first|exact vec_set _ _ _ _ _|exact dv_setm _ _ _ _ (by omega)|exact dv_sets _ _ _ _|rfl) (by simp) ?_)
    refine KC 23 rfl (by kernel_rfl) (Nb rfl) (KH rfl) ?_
    refine Ko (by kernel_rfl) ?_
    refine KB ?_
    refine KA (KP rfl rfl (KAT (b:=1) (by omega))) (Nb rfl) ?_
    refine KA (KE rfl) (Nb rfl) ?_
    refine KG ?_
    refine ⟨(x.1+1,setl x.2.1 (at_+x.1) ((limb x.2.1 (at_+x.1)+limb (dnm m) x.1+x.2.2)%18446744073709551616),(limb x.2.1 (at_+x.1)+limb (dnm m) x.1+x.2.2)/18446744073709551616),⟨by dsimp only; omega,add_carry (limb_lt _ _) (limb_lt _ _) hx2,setl_lt hx4 (by omega) (Nat.mod_lt _ (by decide)),back_step hx5 add_word⟩,by dsimp only; omega,
      Sub.re (Sub.cells (b:=bu) (cs':=vec .u64 19 (limb (setl x.2.1 (at_+x.1) ((limb x.2.1 (at_+x.1)+limb (dnm m) x.1+x.2.2)%18446744073709551616)))) (by repeat (first|exact Sh _|apply St_)) (vec_setl (Nat.mod_lt _ (by decide)))) (KAF ⟨rfl,rfl,rfl,rfl,rfl,rfl,trivial⟩ (by repeat (first|exact Sel.nil _|refine Sel.cons (by repeat (first|exact Ph _|apply Pt_)) ?_)))⟩
  ·
    have h20:¬ x.1<nw m:=h20
    have he:x.1 = nw m:=by omega
    rw [he] at hx5
    refine KAI ?_
    refine KD ?_
    refine Ka [22] (by kernel_rfl) ?_
    refine KC 0 rfl (by kernel_rfl) (Nb rfl) (KE rfl) ?_
    refine KC 1 rfl (by kernel_rfl) (Nb rfl) (KE rfl) ?_
    refine KC 2 rfl (by kernel_rfl) (Nb rfl) (KE rfl) ?_
    refine KC 3 rfl (by kernel_rfl) (Nb rfl) (KW rfl) ?_
    refine KC 4 rfl (by kernel_rfl) (Nb rfl) (KN (o':=9) Try.underlying241 rfl rfl rfl sz_3 (by decide)) ?_
    refine LAny.take 5 rfl (by kernel_rfl) (Nb rfl) (KM rfl (by repeat (first|exact Mh _|apply Mt)) (Kc Try.underlying3 rfl (dvL_n _))) ?_
    refine KC 6 rfl (by kernel_rfl) (Nb rfl) (KP rfl rfl (KAT (by omega))) ?_
    refine KC 7 rfl (by kernel_rfl) (Nb rfl) (KE rfl) ?_
    refine KC 8 rfl (by kernel_rfl) (Nb rfl) (KE rfl) ?_
    refine KC 9 rfl (by kernel_rfl) (Nb rfl) (KE rfl) ?_
    refine KC 10 rfl (by kernel_rfl) (Nb rfl) (KW rfl) ?_
    refine KC 11 rfl (by kernel_rfl) (Nb rfl) (KN (o':=9) Try.underlying241 rfl rfl rfl sz_3 (by decide)) ?_
    refine LAny.take 12 rfl (by kernel_rfl) (Nb rfl) (KM rfl (by repeat (first|exact Mh _|apply Mt)) (Kc Try.underlying3 rfl (dvL_n _))) ?_
    refine KC 13 rfl (by kernel_rfl) (Nb rfl) (KP rfl rfl (KAT (by omega))) ?_
    refine KC 14 rfl (by kernel_rfl) (Nb rfl) (KAN Try.underlying234 sz_22 rfl rfl (by omega)) ?_
    refine LAny.take 15 rfl (by kernel_rfl) (Nb rfl) (KM rfl (by repeat (first|exact Mh _|apply Mt)) (Kc Try.underlying22 rfl (by exact KAG _ _ _ (show at_+nw m<19 by omega)))) ?_
    refine KC 16 rfl (by kernel_rfl) (Nb rfl) (KE rfl) ?_
    refine KC 17 rfl (by kernel_rfl) (Nb rfl) (Det.add64 (j:=0) ex_184 rfl rfl rfl (by omega)) ?_
    refine KC 18 rfl (by kernel_rfl) (Nb rfl) (KE rfl) ?_
    refine KC 19 rfl (by kernel_rfl) (Nb rfl) (Kj rfl rfl) ?_
    refine KC 20 rfl (by kernel_rfl) (Nb rfl) (Kj rfl rfl) ?_
    refine KC 21 rfl (by kernel_rfl) (Nb rfl) (KAN Try.underlying234 sz_22 rfl rfl (by omega)) ?_
    refine Kn 22 rfl rfl (by kernel_rfl) (by kernel_rfl) (KAC rfl rfl rfl sz_22 (by repeat (first|exact Sh _|apply St_)) (by first|(simp only [KJ,KF,KI,KAO]; omega)|(simp; omega)) (by first|exact vec_set _ _ _ _ _|exact dv_setm _ _ _ _ (by omega)|exact dv_sets _ _ _ _|rfl) (by simp) ?_)
    refine KC 23 rfl (by kernel_rfl) (Nb rfl) (KH rfl) ?_
    refine Ko (by kernel_rfl) ?_
    refine KD (KB ?_)
    refine KA (KE rfl) (Nb rfl) ?_
    refine KA (KP rfl rfl (br_eql (b:=1))) (Nb rfl) ?_
    refine KA (KH rfl) (Nb rfl) ?_
    refine KG (KY ?_)
    have hb:=back_step (a:=at_) (i:=nw m) (D:=dnm m) hx5 (lo:=(limb x.2.1 (at_+nw m)+0+x.2.2)%18446744073709551616) (c':=(limb x.2.1 (at_+nw m)+0+x.2.2)/18446744073709551616) (by rw [limb_high (dnm_lt m) (Nat.le_refl _)]; exact add_word)
    rw [Nat.mod_eq_of_lt (Nat.lt_of_lt_of_le (dnm_lt m) (Nat.pow_le_pow_right (by decide) (by omega)))] at hb
    refine ⟨[_],.cons rfl .nil,fun a w' hr=>⟨_,_,⟨setl x.2.1 (at_+nw m) ((limb x.2.1 (at_+nw m)+0+x.2.2)%18446744073709551616),(limb x.2.1 (at_+nw m)+0+x.2.2)/18446744073709551616,add_carry (limb_lt _ _) (by decide) hx2,setl_lt hx4 (by omega) (Nat.mod_lt _ (by decide)),hb,rfl,vec_setl (Nat.mod_lt _ (by decide))⟩,rfl,hr.hp _ (by repeat (first|exact Mh _|apply Mt)),hr.fr⟩⟩
end Go.Proofs.Ytljblbgogjieaaa
set_option linter.unusedVariables false
set_option linter.unusedSimpArgs false
set_option maxRecDepth 20000
namespace Go.Proofs.Ytljblbgogjieaaa
open Go Go.RowKit
theorem fill_zero (W s:Nat):W%2^(64*0)*2^s = 0:=by rw [Nat.mul_zero,Nat.pow_zero,Nat.mod_one,Nat.zero_mul]
theorem rest_or {U s i:Nat} (hs:s<64):(limb U i/2^s ||| limb U (i+1)*2^(64-s)%18446744073709551616) = limb (U/2^s) i:=by
  have:=shr_or (A:=U) (w:=0) (r:=s) (i:=i) hs
  rwa [Nat.add_zero,Nat.mul_zero,Nat.zero_add] at this
theorem quo_store {K x y:Nat} (hx:x<18446744073709551616) (j:Nat):(if j = y then x else limb (K*2^(64*(y+1))) j) = limb ((K*18446744073709551616+x)*2^(64*y)) j:=by
  have h0:limb (K*2^(64*(y+1))) y = 0:=by
    unfold limb
    rw [pow64_succ,← Nat.mul_assoc,Nat.mul_div_cancel _ (pow64_pos y),Nat.mul_mod_left]
  have:=limb_addl (K*2^(64*(y+1))) x y j (by rw [h0]; omega)
  rw [h0,Nat.zero_add] at this
  rw [← this,Nat.add_mul,pow64_succ,Nat.mul_assoc]
theorem quo_sum {U U0 K x y D V:Nat} (h1:U+x*D*2^(64*y) = U0) (h2:U0+K*2^(64*(y+1))*D = V):U+(K*18446744073709551616+x)*2^(64*y)*D = V:=by
  rw [← h2,← h1,pow64_succ]
  generalize 2^(64*y) = A
  grind
theorem c_divide (m W bd bw l c:Nat) (tw:TypeId) (ww:Bool) (hm0:m≠0) (w:World) (hbd:(Item.blk bd ⟨false,dvL m,241,(0,0)⟩).holds w) (hbw:(Item.blk bw ⟨ww,vec .u64 c (limb W),tw,(0,0)⟩).holds w) (hm:m<W9) (hlc:l≤c) (hc:c≤18) (hW:W<2^(64*l)):Calls Try.prog 186 ([.pointer (some ⟨bd,0,none⟩),.slice (some ⟨bw,0,none⟩) l c]:List Value).toArray w (fun e w'=>e = .returned (.tuple #[wideV (W/m),natV (W%m)])∧Below w.heap.size w w'):=by
  refine Kw (N:=124) (rs:=[.cell 4 230,.cell 5 25]) [.blk bd ⟨false,dvL m,241,(0,0)⟩,.blk bw ⟨false,vec .u64 c (limb W),tw,(0,0)⟩] Try.func186 rfl Try.ntmps186 Try.results186 (Nb rfl) ⟨hbd,hbw,trivial⟩ rfl ?_
  show LCode _ _ _ ⟨_,_⟩ _
  refine KD ?_
  have hn0:=nw_pos hm0
  have hn9:=nw_w9 hm
  have hs64:=dsh_lt hm0
  refine KB ?_
  refine KK rfl (KX (KQ (Kd zr_230) (Nb rfl) (fun b4=>?_)))
  refine KK rfl (KX (KQ (Kd zr_25) (Nb rfl) (fun b5=>?_)))
  refine KG ?_
  refine KD (KB ?_)
  refine KK rfl (KX (KQ (Kd zr_243) (Nb rfl) (fun b6=>?_)))
  refine KG ?_
  refine KD (KB ?_)
  refine KK rfl (KX (KQ (Kd zr_230) (Nb rfl) (fun b7=>?_)))
  refine KG ?_
  refine KD ?_
  refine KD (KB ?_)
  refine KA (KE rfl) (Nb rfl) ?_
  refine KA (Det.len Try.underlying234 rfl) (Nb rfl) ?_
  refine KA (KE (v:=.int .i64 ((0:Nat):Int)) rfl) (Nb rfl) ?_
  refine KG ?_
  refine LCode.block ?_
  refine KAQ (α:=Nat) (fun x=>x≤l) (fun x=>⟨[(0,.pointer (some ⟨bd,0,none⟩)),(1,.slice (some ⟨bw,0,none⟩) l c),(4,.pointer (some ⟨b4,0,none⟩)),(5,.pointer (some ⟨b5,0,none⟩)),(6,.pointer (some ⟨b6,0,none⟩)),(7,.pointer (some ⟨b7,0,none⟩)),(15,.slice (some ⟨bw,0,none⟩) l c),(16,.int .i64 ((l:Nat):Int)),(17,.int .i64 ((x:Nat):Int))],[.blk b6 ⟨true,vec .u64 19 (limb (W%2^(64*x)*2^dsh m)),243,(0,0)⟩,.blk b7 ⟨true,vec .u64 18 (fun _=>0),230,(0,0)⟩,.blk b5 ⟨true,vec .u64 9 (fun _=>0),25,(0,0)⟩,.blk b4 ⟨true,vec .u64 18 (fun _=>0),230,(0,0)⟩,.blk bd ⟨false,dvL m,241,(0,0)⟩,.blk bw ⟨false,vec .u64 c (limb W),tw,(0,0)⟩]⟩) (fun x=>l-x) (0) (Nat.zero_le _) (Sub.re (Sub.cells (b:=b6) (cs':=vec .u64 19 (limb (W%2^(64*0)*2^dsh m))) (by repeat (first|exact Sh _|apply St_)) (by rw [fill_zero]; exact vec_zeros 19)) (KAF ⟨rfl,rfl,rfl,rfl,rfl,rfl,rfl,rfl,rfl,trivial⟩ (by repeat (first|exact Sel.nil _|refine Sel.cons (by repeat (first|exact Ph _|apply Pt_)) ?_)))) ?_
  intro x hx
  refine KD (KB ?_)
  refine KA (KP rfl rfl (br_lss)) (Nb rfl) ?_
  refine KG ?_
  refine KD ?_
  first|refine Kf rfl (fun h18=>?_) (fun h18=>?_)|refine Ki rfl (fun h18=>?_) (fun h18=>?_)
  ·
    have h18:x<l:=h18
    refine Km ?_
    refine KD ?_
    refine LCode.block ?_
    refine KD (KB ?_)
    refine KA (KE rfl) (Nb rfl) ?_
    refine KA (KAN Try.underlying234 sz_22 rfl rfl (by omega)) (Nb rfl) ?_
    refine LOps.det (KM rfl (by repeat (first|exact Mh _|apply Mt)) (Kc Try.underlying22 rfl (by exact KAG _ _ _ (show x<c by omega)))) (Nb rfl) ?_
    refine KA (KH rfl) (Nb rfl) ?_
    refine KA (KH rfl) (Nb rfl) ?_
    refine KG ?_
    refine KD ?_
    refine Ka [11] (by kernel_rfl) ?_
    refine KC 0 rfl (by kernel_rfl) (Nb rfl) (KE rfl) ?_
    refine KC 1 rfl (by kernel_rfl) (Nb rfl) (Kv Try.underlying243 sz_22 rfl rfl (by omega)) ?_
    refine LAny.take 2 rfl (by kernel_rfl) (Nb rfl) (KM rfl (by repeat (first|exact Mh _|apply Mt)) (Kc Try.underlying22 rfl (by exact KAG _ _ _ (show x<19 by omega)))) ?_
    refine KC 3 rfl (by kernel_rfl) (Nb rfl) (KE rfl) ?_
    refine KC 4 rfl (by kernel_rfl) (Nb rfl) (KE rfl) ?_
    refine KC 5 rfl (by kernel_rfl) (Nb rfl) (KW rfl) ?_
    refine KC 6 rfl (by kernel_rfl) (Nb rfl) (KN (o':=10) Try.underlying241 rfl rfl rfl sz_3 (by decide)) ?_
    refine LAny.take 7 rfl (by kernel_rfl) (Nb rfl) (KM rfl (by repeat (first|exact Mh _|apply Mt)) (Kc Try.underlying3 rfl (dvL_s _))) ?_
    refine KC 8 rfl (by kernel_rfl) (Nb rfl) (KP rfl rfl (br_shl64)) ?_
    refine KC 9 rfl (by kernel_rfl) (Nb rfl) (KP rfl rfl (br_or64 (limb_lt _ _) (Nat.mod_lt _ (by decide)))) ?_
    refine KC 10 rfl (by kernel_rfl) (Nb rfl) (Kv Try.underlying243 sz_22 rfl rfl (by omega)) ?_
    refine Kn 11 rfl rfl (by kernel_rfl) (by kernel_rfl) (KAC rfl rfl rfl sz_22 (by repeat (first|exact Sh _|apply St_)) (by first|(simp only [KJ,KF,KI,KAO]; omega)|(simp; omega)) (by first|exact vec_set _ _ _ _ _|exact dv_setm _ _ _ _ (by omega)|exact dv_sets _ _ _ _|rfl) (by simp) ?_)
    refine Ko (by kernel_rfl) ?_
    refine KD (KB ?_)
    refine KA (KE rfl) (Nb rfl) ?_
    refine KA (KW rfl) (Nb rfl) ?_
    refine KA (KN (o':=10) Try.underlying241 rfl rfl rfl sz_3 (by decide)) (Nb rfl) ?_
    refine LOps.det (KM rfl (by repeat (first|exact Mh _|apply Mt)) (Kc Try.underlying3 rfl (dvL_s _))) (Nb rfl) ?_
    refine KA (KP rfl rfl (br_gtr (b:=0))) (Nb rfl) ?_
    refine KG ?_
    first|refine Kf rfl (fun h37=>?_) (fun h37=>?_)|refine Ki rfl (fun h37=>?_) (fun h37=>?_)
    ·
      have h37:0<dsh m:=h37
      refine KB ?_
      refine KA (KE rfl) (Nb rfl) ?_
      refine KA (KP rfl rfl (KAT (b:=1) (by omega))) (Nb rfl) ?_
      refine KA (KE rfl) (Nb rfl) ?_
      refine KA (KE rfl) (Nb rfl) ?_
      refine KA (KW rfl) (Nb rfl) ?_
      refine KA (KN (o':=10) Try.underlying241 rfl rfl rfl sz_3 (by decide)) (Nb rfl) ?_
      refine LOps.det (KM rfl (by repeat (first|exact Mh _|apply Mt)) (Kc Try.underlying3 rfl (dvL_s _))) (Nb rfl) ?_
      refine KA (KP rfl rfl (br_sub (a:=64) (by omega) (by omega))) (Nb rfl) ?_
      refine KA (KP rfl rfl (br_shr64 (limb_lt _ _))) (Nb rfl) ?_
      refine KA (Kv Try.underlying243 sz_22 rfl rfl (by omega)) (Nb rfl) ?_
      refine KK rfl (KAC rfl rfl rfl sz_22 (by repeat (first|exact Sh _|apply St_)) (by first|(simp only [KJ,KF,KI,KAO]; omega)|(simp; omega)) (by first|exact vec_set _ _ _ _ _|exact dv_setm _ _ _ _ (by omega)|exact dv_sets _ _ _ _|rfl) (by simp) ?_)
      refine KG ?_
      refine KB ?_
      refine KA (KP rfl rfl (KAT (b:=1) (by omega))) (Nb rfl) ?_
      refine KA (KE rfl) (Nb rfl) ?_
      refine KG ?_
      refine ⟨x+1,by omega,by omega,Sub.re (Sub.cells (b:=b6) (cs':=vec .u64 19 (limb (W%2^(64*(x+1))*2^dsh m))) (by repeat (first|exact Sh _|apply St_)) (KAS fun j _=>(fill_step hs64 j).symm)) (KAF ⟨rfl,rfl,rfl,rfl,rfl,rfl,rfl,rfl,rfl,trivial⟩ (by repeat (first|exact Sel.nil _|refine Sel.cons (by repeat (first|exact Ph _|apply Pt_)) ?_)))⟩
    ·
      have h37:¬ 0<dsh m:=h37
      refine Km ?_
      refine KB ?_
      refine KA (KP rfl rfl (KAT (b:=1) (by omega))) (Nb rfl) ?_
      refine KA (KE rfl) (Nb rfl) ?_
      refine KG ?_
      refine ⟨x+1,by omega,by omega,Sub.re (Sub.cells (b:=b6) (cs':=vec .u64 19 (limb (W%2^(64*(x+1))*2^dsh m))) (by repeat (first|exact Sh _|apply St_)) (KAS fun j _=>?_)) (KAF ⟨rfl,rfl,rfl,rfl,rfl,rfl,rfl,rfl,rfl,trivial⟩ (by repeat (first|exact Sel.nil _|refine Sel.cons (by repeat (first|exact Ph _|apply Pt_)) ?_)))⟩
      rw [fill_step hs64 j]
      by_cases e:j = x+1
      · rw [if_pos e,if_neg (by omega),e,(fill_word hs64).2,show 64-dsh m = 64 by omega]
        exact (Nat.div_eq_of_lt (limb_lt W x)).symm
      · rw [if_neg e]
  ·
    have h18:¬ x<l:=h18
    have hxl:x = l:=by omega
    subst hxl
    refine KAI ?_
    refine KD ?_
    refine KD (KB ?_)
    refine KA (KE rfl) (Nb rfl) ?_
    refine KA (Det.len Try.underlying234 rfl) (Nb rfl) ?_
    refine KA (KE rfl) (Nb rfl) ?_
    refine KA (KW rfl) (Nb rfl) ?_
    refine KA (KN (o':=9) Try.underlying241 rfl rfl rfl sz_3 (by decide)) (Nb rfl) ?_
    refine LOps.det (KM rfl (by repeat (first|exact Mh _|apply Mt)) (Kc Try.underlying3 rfl (dvL_n _))) (Nb rfl) ?_
    refine KA (KP (v:=.int .i64 ((x:Int)-(nw m:Int))) rfl rfl (br_subI (by omega) (by omega))) (Nb rfl) ?_
    refine KA (KH rfl) (Nb rfl) ?_
    refine KG ?_
    refine LCode.block ?_
    refine KAQ (α:=Int×Nat×Nat) (fun x=>(-20≤x.1∧x.1+nw m≤18)∧x.2.1+x.2.2*2^(64*(x.1+1).toNat)*dnm m = W*2^dsh m∧x.2.1<dnm m*2^(64*(x.1+1).toNat)) (fun x=>⟨[(0,.pointer (some ⟨bd,0,none⟩)),(4,.pointer (some ⟨b4,0,none⟩)),(5,.pointer (some ⟨b5,0,none⟩)),(6,.pointer (some ⟨b6,0,none⟩)),(7,.pointer (some ⟨b7,0,none⟩)),(10,.int .i64 x.1)],[.blk b6 ⟨true,vec .u64 19 (limb x.2.1),243,(0,0)⟩,.blk b7 ⟨true,wideL (x.2.2*2^(64*(x.1+1).toNat)),230,(0,0)⟩,.blk b5 ⟨true,vec .u64 9 (fun _=>0),25,(0,0)⟩,.blk b4 ⟨true,vec .u64 18 (fun _=>0),230,(0,0)⟩,.blk bd ⟨false,dvL m,241,(0,0)⟩]⟩) (fun x=>(x.1+1).toNat) (((x:Int)-nw m,W*2^dsh m,0)) (⟨⟨by dsimp only; omega,by dsimp only; omega⟩,by dsimp only; rw [Nat.zero_mul,Nat.zero_mul,Nat.add_zero],by
      dsimp only
      rcases Nat.lt_or_ge x (nw m) with hlt|hge
      · rw [show ((x:Int)-nw m+1).toNat = 0 by omega,Nat.mul_zero,Nat.pow_zero,Nat.mul_one]
        exact div_short hm0 hlt hW
      · rw [show ((x:Int)-nw m+1).toNat = x-nw m+1 by omega]
        exact div_begin hm0 hge hW⟩) (Sub.re (Sub.cells (b:=b6) (cs':=vec .u64 19 (limb (W*2^dsh m))) (by repeat (first|exact Sh _|apply St_)) (by rw [Nat.mod_eq_of_lt hW])) (Sub.re (Sub.cells (b:=b7) (cs':=wideL (0*2^(64*((x:Int)-nw m+1).toNat))) (by repeat (first|exact Sh _|apply St_)) (by rw [Nat.zero_mul]; exact vec_zeros 18)) (KAF ⟨rfl,rfl,rfl,rfl,rfl,rfl,trivial⟩ (by repeat (first|exact Sel.nil _|refine Sel.cons (by repeat (first|exact Ph _|apply Pt_)) ?_))))) ?_
    intro x ⟨⟨hx1,hx2⟩,hx3,hx4⟩
    refine KD ?_
    refine KD ?_
    rcases Int.lt_or_le x.1 0 with hz|hz
    ·
      refine KB ?_
      refine KA (KE rfl) (Nb rfl) ?_
      refine KA (KP (v:=.bool false) rfl rfl (by simp [KAR]; omega)) (Nb rfl) ?_
      refine KG ?_
      have ha0:(x.1+1).toNat = 0:=by omega
      rw [ha0,Nat.mul_zero,Nat.pow_zero,Nat.mul_one] at hx3
      rw [ha0,Nat.mul_zero,Nat.pow_zero,Nat.mul_one] at hx4
      have hend:=div_end hm0 hx3 hx4
      refine Kp rfl ?_
      refine KAI ?_
      refine KD (KB ?_)
      refine KK rfl (KX (KQ (Kd zr_25) (Nb rfl) (fun b13=>?_)))
      refine KG ?_
      refine KD ?_
      refine KD (KB ?_)
      refine KA (KE rfl) (Nb rfl) ?_
      refine KA (KW rfl) (Nb rfl) ?_
      refine KA (KN (o':=9) Try.underlying241 rfl rfl rfl sz_3 (by decide)) (Nb rfl) ?_
      refine LOps.det (KM rfl (by repeat (first|exact Mh _|apply Mt)) (Kc Try.underlying3 rfl (dvL_n _))) (Nb rfl) ?_
      refine KA (KE (v:=.int .i64 ((0:Nat):Int)) rfl) (Nb rfl) ?_
      refine KG ?_
      refine LCode.block ?_
      refine KAQ (α:=Nat) (fun i=>i≤nw m) (fun i=>⟨[(0,.pointer (some ⟨bd,0,none⟩)),(4,.pointer (some ⟨b4,0,none⟩)),(5,.pointer (some ⟨b5,0,none⟩)),(6,.pointer (some ⟨b6,0,none⟩)),(7,.pointer (some ⟨b7,0,none⟩)),(13,.pointer (some ⟨b13,0,none⟩)),(84,.int .i64 ((nw m:Nat):Int)),(85,.int .i64 ((i:Nat):Int))],[.blk b13 ⟨true,vec .u64 9 (fun j=>if j<i then limb (x.2.1/2^dsh m) j else 0),25,(0,0)⟩,.blk b6 ⟨true,vec .u64 19 (limb x.2.1),243,(0,0)⟩,.blk b7 ⟨true,wideL (x.2.2*2^(64*(x.1+1).toNat)),230,(0,0)⟩,.blk b5 ⟨true,vec .u64 9 (fun _=>0),25,(0,0)⟩,.blk b4 ⟨true,vec .u64 18 (fun _=>0),230,(0,0)⟩,.blk bd ⟨false,dvL m,241,(0,0)⟩]⟩) (fun i=>nw m-i) (0) (Nat.zero_le _) (KAF ⟨rfl,rfl,rfl,rfl,rfl,rfl,rfl,rfl,trivial⟩ (by repeat (first|exact Sel.nil _|refine Sel.cons (by repeat (first|exact Ph _|apply Pt_)) ?_))) ?_
      intro i hi
      refine KD (KB ?_)
      refine KA (KP rfl rfl (br_lss)) (Nb rfl) ?_
      refine KG ?_
      refine KD ?_
      first|refine Kf rfl (fun h86=>?_) (fun h86=>?_)|refine Ki rfl (fun h86=>?_) (fun h86=>?_)
      ·
        have h86:i<nw m:=h86
        refine Km ?_
        refine KD ?_
        refine LCode.block ?_
        refine KD (KB ?_)
        refine KA (KE rfl) (Nb rfl) ?_
        refine KA (KH rfl) (Nb rfl) ?_
        refine KG ?_
        refine KD ?_
        refine Ka [11] (by kernel_rfl) ?_
        refine KC 0 rfl (by kernel_rfl) (Nb rfl) (KE rfl) ?_
        refine KC 1 rfl (by kernel_rfl) (Nb rfl) (KE rfl) ?_
        refine KC 2 rfl (by kernel_rfl) (Nb rfl) (Kv Try.underlying243 sz_22 rfl rfl (by omega)) ?_
        refine LAny.take 3 rfl (by kernel_rfl) (Nb rfl) (KM rfl (by repeat (first|exact Mh _|apply Mt)) (Kc Try.underlying22 rfl (by exact KAG _ _ _ (show i<19 by omega)))) ?_
        refine KC 4 rfl (by kernel_rfl) (Nb rfl) (KE rfl) ?_
        refine KC 5 rfl (by kernel_rfl) (Nb rfl) (KW rfl) ?_
        refine KC 6 rfl (by kernel_rfl) (Nb rfl) (KN (o':=10) Try.underlying241 rfl rfl rfl sz_3 (by decide)) ?_
        refine LAny.take 7 rfl (by kernel_rfl) (Nb rfl) (KM rfl (by repeat (first|exact Mh _|apply Mt)) (Kc Try.underlying3 rfl (dvL_s _))) ?_
        refine KC 8 rfl (by kernel_rfl) (Nb rfl) (KP rfl rfl (br_shr64 (limb_lt _ _))) ?_
        refine KC 9 rfl (by kernel_rfl) (Nb rfl) (KN (o':=0) Try.underlying25 rfl rfl rfl sz_23 (by decide)) ?_
        refine KC 10 rfl (by kernel_rfl) (Nb rfl) (Kv Try.underlying23 sz_22 rfl rfl (by omega)) ?_
        refine Kn 11 rfl rfl (by kernel_rfl) (by kernel_rfl) (KAC rfl rfl rfl sz_22 (by repeat (first|exact Sh _|apply St_)) (by first|(simp only [KJ,KF,KI,KAO]; omega)|(simp; omega)) (by first|exact vec_set _ _ _ _ _|exact dv_setm _ _ _ _ (by omega)|exact dv_sets _ _ _ _|rfl) (by simp) ?_)
        refine Ko (by kernel_rfl) ?_
        refine KD (KB ?_)
        refine KA (KE rfl) (Nb rfl) ?_
        refine KA (KW rfl) (Nb rfl) ?_
        refine KA (KN (o':=10) Try.underlying241 rfl rfl rfl sz_3 (by decide)) (Nb rfl) ?_
        refine LOps.det (KM rfl (by repeat (first|exact Mh _|apply Mt)) (Kc Try.underlying3 rfl (dvL_s _))) (Nb rfl) ?_
        refine KA (KP rfl rfl (br_gtr (b:=0))) (Nb rfl) ?_
        refine KG ?_
        first|refine Kf rfl (fun h103=>?_) (fun h103=>?_)|refine Ki rfl (fun h103=>?_) (fun h103=>?_)
        ·
          have h103:0<dsh m:=h103
          refine Ka [17] (by kernel_rfl) ?_
          refine KC 0 rfl (by kernel_rfl) (Nb rfl) (KE rfl) ?_
          refine KC 1 rfl (by kernel_rfl) (Nb rfl) (KN (o':=0) Try.underlying25 rfl rfl rfl sz_23 (by decide)) ?_
          refine KC 2 rfl (by kernel_rfl) (Nb rfl) (Kv Try.underlying23 sz_22 rfl rfl (by omega)) ?_
          refine LAny.take 3 rfl (by kernel_rfl) (Nb rfl) (KM (v:=.int .u64 ((limb x.2.1 i/2^dsh m:Nat):Int)) rfl (by repeat (first|exact Mh _|apply Mt)) (Kc Try.underlying22 rfl (by exact (KAG .u64 9 (fun j=>if j = i then limb x.2.1 i/2^dsh m else if j<i then limb (x.2.1/2^dsh m) j else 0) (show i<9 by omega)).trans (by show some (Value.int .u64 ((if i = i then _ else _:Nat):Int)) = _; rw [if_pos rfl])))) ?_
          refine KC 4 rfl (by kernel_rfl) (Nb rfl) (KE rfl) ?_
          refine KC 5 rfl (by kernel_rfl) (Nb rfl) (KP rfl rfl (KAT (b:=1) (by omega))) ?_
          refine KC 6 rfl (by kernel_rfl) (Nb rfl) (Kv Try.underlying243 sz_22 rfl rfl (by omega)) ?_
          refine LAny.take 7 rfl (by kernel_rfl) (Nb rfl) (KM rfl (by repeat (first|exact Mh _|apply Mt)) (Kc Try.underlying22 rfl (by exact KAG _ _ _ (show i+1<19 by omega)))) ?_
          refine KC 8 rfl (by kernel_rfl) (Nb rfl) (KE rfl) ?_
          refine KC 9 rfl (by kernel_rfl) (Nb rfl) (KW rfl) ?_
          refine KC 10 rfl (by kernel_rfl) (Nb rfl) (KN (o':=10) Try.underlying241 rfl rfl rfl sz_3 (by decide)) ?_
          refine LAny.take 11 rfl (by kernel_rfl) (Nb rfl) (KM rfl (by repeat (first|exact Mh _|apply Mt)) (Kc Try.underlying3 rfl (dvL_s _))) ?_
          refine KC 12 rfl (by kernel_rfl) (Nb rfl) (KP rfl rfl (br_sub (a:=64) (by omega) (by omega))) ?_
          refine KC 13 rfl (by kernel_rfl) (Nb rfl) (KP rfl rfl (br_shl64)) ?_
          refine KC 14 rfl (by kernel_rfl) (Nb rfl) (KP rfl rfl (br_or64 (Nat.lt_of_le_of_lt (Nat.div_le_self _ _) (limb_lt _ _)) (Nat.mod_lt _ (by decide)))) ?_
          refine KC 15 rfl (by kernel_rfl) (Nb rfl) (KN (o':=0) Try.underlying25 rfl rfl rfl sz_23 (by decide)) ?_
          refine KC 16 rfl (by kernel_rfl) (Nb rfl) (Kv Try.underlying23 sz_22 rfl rfl (by omega)) ?_
          refine Kn 17 rfl rfl (by kernel_rfl) (by kernel_rfl) (KAC rfl rfl rfl sz_22 (by repeat (first|exact Sh _|apply St_)) (by first|(simp only [KJ,KF,KI,KAO]; omega)|(simp; omega)) (by first|exact vec_set _ _ _ _ _|exact dv_setm _ _ _ _ (by omega)|exact dv_sets _ _ _ _|rfl) (by simp) ?_)
          refine Ko (by kernel_rfl) ?_
          refine KB ?_
          refine KA (KP rfl rfl (KAT (b:=1) (by omega))) (Nb rfl) ?_
          refine KA (KE rfl) (Nb rfl) ?_
          refine KG ?_
          refine ⟨i+1,by omega,by omega,Sub.re (Sub.cells (b:=b13) (cs':=vec .u64 9 (fun j=>if j<i+1 then limb (x.2.1/2^dsh m) j else 0)) (by repeat (first|exact Sh _|apply St_)) (KAS fun j _=>?_)) (KAF ⟨rfl,rfl,rfl,rfl,rfl,rfl,rfl,rfl,trivial⟩ (by repeat (first|exact Sel.nil _|refine Sel.cons (by repeat (first|exact Ph _|apply Pt_)) ?_)))⟩
          by_cases e:j = i
          · subst e
            rw [if_pos rfl,if_pos (by omega)]
            exact rest_or hs64
          · rw [if_neg e,if_neg e]
            by_cases e2:j<i
            · rw [if_pos e2,if_pos (by omega)]
            · rw [if_neg e2,if_neg (by omega)]
        ·
          have h103:¬ 0<dsh m:=h103
          refine Km ?_
          refine KB ?_
          refine KA (KP rfl rfl (KAT (b:=1) (by omega))) (Nb rfl) ?_
          refine KA (KE rfl) (Nb rfl) ?_
          refine KG ?_
          refine ⟨i+1,by omega,by omega,Sub.re (Sub.cells (b:=b13) (cs':=vec .u64 9 (fun j=>if j<i+1 then limb (x.2.1/2^dsh m) j else 0)) (by repeat (first|exact Sh _|apply St_)) (KAS fun j _=>?_)) (KAF ⟨rfl,rfl,rfl,rfl,rfl,rfl,rfl,rfl,trivial⟩ (by repeat (first|exact Sel.nil _|refine Sel.cons (by repeat (first|exact Ph _|apply Pt_)) ?_)))⟩
          by_cases e:j = i
          · subst e
            rw [if_pos rfl,if_pos (by omega),show dsh m = 0 by omega,Nat.pow_zero,Nat.div_one,Nat.div_one]
          · rw [if_neg e]
            by_cases e2:j<i
            · rw [if_pos e2,if_pos (by omega)]
            · rw [if_neg e2,if_neg (by omega)]
      ·
        have h86:¬ i<nw m:=h86
        have hin:i = nw m:=by omega
        subst hin
        refine KAI ?_
        refine KD ?_
        refine Ka [2,3] (by kernel_rfl) ?_
        refine LAny.take 0 rfl (by kernel_rfl) (Nb rfl) (KM rfl (by repeat (first|exact Mh _|apply Mt)) (by exact KL Try.underlying230 rfl sz_230)) ?_
        refine LAny.twoX 1 2 rfl rfl rfl rfl (by kernel_rfl) (.inr (LStep.det (KM rfl (by repeat (first|exact Mh _|apply Mt)) (by exact KL Try.underlying25 rfl sz_25)) (Nb rfl) ?_)) (.inl ⟨rfl,KO rfl rfl sz_230 (by repeat (first|exact Kg _|exact Kr _ _ _|exact Kh _|exact Kl _ _ _|exact Kq _ _ _|exact KV|refine KR rfl ?_|refine KT ?_ ?_)) (by repeat (first|exact Sh _|apply St_)) (by first|exact KF _|exact KJ _ _ _|exact KI _|exact KS _ _ _|exact KZ _ _ _|rfl|simp [KJ,KF,KI]) ?_⟩)
        ·
          refine Kn 2 rfl rfl (by kernel_rfl) (by kernel_rfl) (KO rfl rfl sz_230 (by repeat (first|exact Kg _|exact Kr _ _ _|exact Kh _|exact Kl _ _ _|exact Kq _ _ _|exact KV|refine KR rfl ?_|refine KT ?_ ?_)) (by repeat (first|exact Sh _|apply St_)) (by first|exact KF _|exact KJ _ _ _|exact KI _|exact KS _ _ _|exact KZ _ _ _|rfl|simp [KJ,KF,KI]) ?_)
          refine Kn 3 rfl rfl (by kernel_rfl) (by kernel_rfl) (KO rfl rfl sz_25 (by repeat (first|exact Kg _|exact Kr _ _ _|exact Kh _|exact Kl _ _ _|exact Kq _ _ _|exact KV|refine KR rfl ?_|refine KT ?_ ?_)) (by repeat (first|exact Sh _|apply St_)) (by first|exact KF _|exact KJ _ _ _|exact KI _|exact KS _ _ _|exact KZ _ _ _|rfl|simp [KJ,KF,KI]) ?_)
          refine Ko (by kernel_rfl) ?_
          refine KY ?_
          have hr9:(vec IntKind.u64 9 fun j=>if j<nw m then limb (x.2.1/2^dsh m) j else 0) = natL (W%m):=by
            rw [← hend.2]
            apply KAS
            intro j hj
            by_cases e:j<nw m
            · rw [if_pos e]
            · rw [if_neg e,limb_high (Nat.lt_of_le_of_lt (Nat.div_le_self _ _) (Nat.lt_trans hx4 (dnm_lt m))) (by omega)]
          have hq9:wideL (x.2.2*2^(64*(x.1+1).toNat)) = wideL (W/m):=by rw [ha0,Nat.mul_zero,Nat.pow_zero,Nat.mul_one,hend.1]
          refine ⟨[_,_],.cons ⟨_,_,_,rfl,(by repeat (first|exact Mh _|apply Mt)),by exact KL Try.underlying230 rfl sz_230⟩ (.cons ⟨_,_,_,rfl,(by repeat (first|exact Mh _|apply Mt)),by exact KL Try.underlying25 rfl sz_25⟩ .nil),fun a w' hr=>⟨?_,hr.fr.below⟩⟩
          show Ending.returned (.tuple #[.agg (wideL (x.2.2*2^(64*(x.1+1).toNat))).toArray,.agg (vec IntKind.u64 9 fun j=>if j<nw m then limb (x.2.1/2^dsh m) j else 0).toArray]) = _
          rw [hr9,hq9]
          rfl
        ·
          refine LAny.take 1 rfl (by kernel_rfl) (Nb rfl) (KM rfl (by repeat (first|exact Mh _|apply Mt)) (by exact KL Try.underlying25 rfl sz_25)) ?_
          refine Kn 3 rfl rfl (by kernel_rfl) (by kernel_rfl) (KO rfl rfl sz_25 (by repeat (first|exact Kg _|exact Kr _ _ _|exact Kh _|exact Kl _ _ _|exact Kq _ _ _|exact KV|refine KR rfl ?_|refine KT ?_ ?_)) (by repeat (first|exact Sh _|apply St_)) (by first|exact KF _|exact KJ _ _ _|exact KI _|exact KS _ _ _|exact KZ _ _ _|rfl|simp [KJ,KF,KI]) ?_)
          refine Ko (by kernel_rfl) ?_
          refine KY ?_
          have hr9:(vec IntKind.u64 9 fun j=>if j<nw m then limb (x.2.1/2^dsh m) j else 0) = natL (W%m):=by
            rw [← hend.2]
            apply KAS
            intro j hj
            by_cases e:j<nw m
            · rw [if_pos e]
            · rw [if_neg e,limb_high (Nat.lt_of_le_of_lt (Nat.div_le_self _ _) (Nat.lt_trans hx4 (dnm_lt m))) (by omega)]
          have hq9:wideL (x.2.2*2^(64*(x.1+1).toNat)) = wideL (W/m):=by rw [ha0,Nat.mul_zero,Nat.pow_zero,Nat.mul_one,hend.1]
          refine ⟨[_,_],.cons ⟨_,_,_,rfl,(by repeat (first|exact Mh _|apply Mt)),by exact KL Try.underlying230 rfl sz_230⟩ (.cons ⟨_,_,_,rfl,(by repeat (first|exact Mh _|apply Mt)),by exact KL Try.underlying25 rfl sz_25⟩ .nil),fun a w' hr=>⟨?_,hr.fr.below⟩⟩
          show Ending.returned (.tuple #[.agg (wideL (x.2.2*2^(64*(x.1+1).toNat))).toArray,.agg (vec IntKind.u64 9 fun j=>if j<nw m then limb (x.2.1/2^dsh m) j else 0).toArray]) = _
          rw [hr9,hq9]
          rfl
    ·
      refine KB ?_
      refine KA (KE rfl) (Nb rfl) ?_
      refine KA (KP (v:=.bool true) rfl rfl (by simp [KAR]; omega)) (Nb rfl) ?_
      refine KG ?_
      obtain ⟨y,hy⟩:∃ y:Nat,x.1 = y:=⟨x.1.toNat,by omega⟩
      have ha1:(x.1+1).toNat = y+1:=by omega
      rw [ha1] at hx3
      rw [ha1] at hx4
      refine Kx rfl ?_
      refine Km ?_
      refine KD ?_
      refine LCode.block ?_
      refine KD (KB ?_)
      refine KA (KE rfl) (Nb rfl) ?_
      refine KA (Det.slArr Try.underlying243 sz_22 rfl) (Nb rfl) ?_
      refine KA (KE (v:=.int .i64 ((y:Nat):Int)) (by show some _ = some _; rw [hy])) (Nb rfl) ?_
      refine KK rfl (KX (LStep.callV (Post:=fun v=>∃ q:Nat,(q<18446744073709551616∧x.2.1/2^(64*y)/dnm m≤q)∧v = .int .u64 ((q:Nat):Int)) (first:=[]) rfl en_194 rfl (Nb rfl) (fun w hw=>(c_guess m x.2.1 bd b6 y true hm0 w (hw _ (by repeat (first|exact Mh _|apply Mt))) (hw _ (by repeat (first|exact Mh _|apply Mt))) hm (by omega) hx4).mono fun e w' ⟨q,h,h1,h2⟩=>⟨_,⟨q,h,rfl⟩,h1,h2⟩) ?_))
      rintro _ ⟨q,⟨hq1,hq2⟩,rfl⟩
      refine KA (KH rfl) (Nb rfl) ?_
      refine KG ?_
      refine KD ?_
      refine KD (KB ?_)
      refine KA (KE rfl) (Nb rfl) ?_
      refine KA (Det.slArr Try.underlying243 sz_22 rfl) (Nb rfl) ?_
      refine KA (KE (v:=.int .i64 ((y:Nat):Int)) (by show some _ = some _; rw [hy])) (Nb rfl) ?_
      refine KA (KE rfl) (Nb rfl) ?_
      refine KK rfl (LStepW.callWF (Post:=fun v cs'=>∃ U' bw,bw≤1∧U' < 2^(64*(y+nw m+1))∧U'+q*dnm m*2^(64*y) = x.2.1+bw*2^(64*(y+nw m+1))∧v = .bool (decide (bw = 1))∧cs' = vec .u64 19 (limb U')) (first:=[]) rfl en_195 rfl (Nb rfl) (fun cs'=>(by repeat (first|exact Sh _|apply St_))) (fun w hw hap=>c_take m x.2.1 bd b6 y q hq1 w (hw _ (by repeat (first|exact Mh _|apply Mt))) (hw _ (by repeat (first|exact Mh _|apply Mt))) (apart_blk hap (b:=b6) (by repeat (first|exact Mh _|apply Mt)) (c:=bd) (by repeat (first|exact Mh _|apply Mt)) rfl rfl) hm (by omega) (win_lt (dnm_lt m) hx4)) ?_)
      rintro _ _ ⟨U1,bw1,ht1,ht2,ht3,rfl,rfl⟩
      refine KA (KH rfl) (Nb rfl) ?_
      refine KG ?_
      refine LCode.block ?_
      refine KAQ (α:=Nat×Nat×Nat) (fun k=>k.2.2≤1∧k.2.1<2^(64*(y+nw m+1))∧k.2.1+k.1*dnm m*2^(64*y) = x.2.1+k.2.2*2^(64*(y+nw m+1))∧x.2.1/2^(64*y)/dnm m≤k.1∧k.1<18446744073709551616) (fun k=>⟨[(0,.pointer (some ⟨bd,0,none⟩)),(4,.pointer (some ⟨b4,0,none⟩)),(5,.pointer (some ⟨b5,0,none⟩)),(6,.pointer (some ⟨b6,0,none⟩)),(7,.pointer (some ⟨b7,0,none⟩)),(10,.int .i64 ((y:Nat):Int)),(11,.int .u64 ((k.1:Nat):Int)),(12,.bool (decide (k.2.2 = 1)))],[.blk b6 ⟨true,vec .u64 19 (limb k.2.1),243,(0,0)⟩,.blk b7 ⟨true,wideL (x.2.2*2^(64*(x.1+1).toNat)),230,(0,0)⟩,.blk b5 ⟨true,vec .u64 9 (fun _=>0),25,(0,0)⟩,.blk b4 ⟨true,vec .u64 18 (fun _=>0),230,(0,0)⟩,.blk bd ⟨false,dvL m,241,(0,0)⟩]⟩) (fun k=>k.1) ((q,U1,bw1)) (⟨ht1,ht2,ht3,hq2,hq1⟩) (KAF ⟨rfl,rfl,rfl,rfl,rfl,congrArg (fun i:Int=>some (Value.int .i64 i)) hy,rfl,rfl,trivial⟩ (by repeat (first|exact Sel.nil _|refine Sel.cons (by repeat (first|exact Ph _|apply Pt_)) ?_))) ?_
      intro k ⟨hk1,hk2,hk3,hk4,hk5⟩
      refine KD ?_
      refine KD (KB ?_)
      refine KA (KE rfl) (Nb rfl) ?_
      refine KG ?_
      first|refine Kf rfl (fun h69=>?_) (fun h69=>?_)|refine Ki rfl (fun h69=>?_) (fun h69=>?_)
      ·
        have h69:k.2.2 = 1:=h69
        rw [h69,Nat.one_mul] at hk3
        have hqw:=quo_word hk2 hk3 hk4 (dnm_pos hm0)
        refine Km ?_
        refine KD ?_
        refine LCode.block ?_
        refine KB ?_
        refine KA (KE rfl) (Nb rfl) ?_
        refine KA (Kb (KP rfl rfl (br_sub64 (b:=1) (by decide))) (vi (b:=k.1-1) (by omega))) (Nb rfl) ?_
        refine KA (KH rfl) (Nb rfl) ?_
        refine KG ?_
        refine KB ?_
        refine KA (KE rfl) (Nb rfl) ?_
        refine KA (Det.slArr Try.underlying243 sz_22 rfl) (Nb rfl) ?_
        refine KA (KE rfl) (Nb rfl) ?_
        refine KK rfl (LStepW.callWF (Post:=fun v cs'=>∃ U' c,c≤1∧U' < 2^(64*(y+nw m+1))∧U'+c*2^(64*(y+(nw m+1))) = k.2.1+dnm m*2^(64*y)∧v = .bool (decide (c = 1))∧cs' = vec .u64 19 (limb U')) (first:=[]) rfl en_196 rfl (Nb rfl) (fun cs'=>(by repeat (first|exact Sh _|apply St_))) (fun w hw hap=>c_back m k.2.1 bd b6 y w (hw _ (by repeat (first|exact Mh _|apply Mt))) (hw _ (by repeat (first|exact Mh _|apply Mt))) (apart_blk hap (b:=b6) (by repeat (first|exact Mh _|apply Mt)) (c:=bd) (by repeat (first|exact Mh _|apply Mt)) rfl rfl) hm (by omega) hk2) ?_)
        rintro _ _ ⟨U2,c2,hb1,hb2,hb3,rfl,rfl⟩
        refine KA (Det.not rfl) (Nb rfl) ?_
        refine KA (KH rfl) (Nb rfl) ?_
        refine KG ?_
        refine ⟨(k.1-1,U2,1-c2),⟨by dsimp only; omega,hb2,quo_back hqw.2 hk3 (by rw [← Nat.add_assoc] at hb3; exact hb3) hb1,hqw.1,by dsimp only; omega⟩,by have:=hqw.2; dsimp only; omega,KAF ⟨rfl,rfl,rfl,rfl,rfl,rfl,rfl,?_,trivial⟩ (by repeat (first|exact Sel.nil _|refine Sel.cons (by repeat (first|exact Ph _|apply Pt_)) ?_))⟩
        refine congrArg (fun b:Bool=>some (Value.bool b)) ?_
        rcases Nat.le_one_iff_eq_zero_or_eq_one.1 hb1 with h|h <;> subst h <;> rfl
      ·
        have h69:¬ k.2.2 = 1:=h69
        have hk0:k.2.2 = 0:=by omega
        rw [hk0,Nat.zero_mul,Nat.add_zero] at hk3
        have hdn:=quo_done (dnm_pos hm0) hk3 hk4
        refine KAI ?_
        refine KB ?_
        refine KA (KE rfl) (Nb rfl) ?_
        refine KA (KE rfl) (Nb rfl) ?_
        refine KA (KN (o':=0) Try.underlying230 rfl rfl rfl sz_228 (by decide)) (Nb rfl) ?_
        refine KA (Kv Try.underlying228 sz_22 rfl rfl (by omega)) (Nb rfl) ?_
        refine KK rfl (KAC rfl rfl rfl sz_22 (by repeat (first|exact Sh _|apply St_)) (by first|(simp only [KJ,KF,KI,KAO]; omega)|(simp; omega)) (by first|exact vec_set _ _ _ _ _|exact dv_setm _ _ _ _ (by omega)|exact dv_sets _ _ _ _|rfl) (by simp) ?_)
        refine KG ?_
        refine KB ?_
        refine KA (KE rfl) (Nb rfl) ?_
        refine KA (KP (v:=.int .i64 ((y:Int)-1)) rfl rfl (br_subI (by omega) (by omega))) (Nb rfl) ?_
        refine KA (KH rfl) (Nb rfl) ?_
        refine KG ?_
        refine ⟨((y:Int)-1,k.2.1,x.2.2*18446744073709551616+k.1),⟨⟨by dsimp only; omega,by dsimp only; omega⟩,?_,?_⟩,by dsimp only; omega,Sub.re (Sub.cells (b:=b7) (cs':=wideL ((x.2.2*18446744073709551616+k.1)*2^(64*((y:Int)-1+1).toNat))) (by repeat (first|exact Sh _|apply St_)) (KAS fun j _=>?_)) (KAF ⟨rfl,rfl,rfl,rfl,rfl,rfl,trivial⟩ (by repeat (first|exact Sel.nil _|refine Sel.cons (by repeat (first|exact Ph _|apply Pt_)) ?_)))⟩
        · dsimp only
          rw [show ((y:Int)-1+1).toNat = y by omega]
          exact quo_sum hk3 hx3
        · dsimp only
          rw [show ((y:Int)-1+1).toNat = y by omega]
          exact hdn
        · rw [show ((y:Int)-1+1).toNat = y by omega,ha1]
          exact quo_store hk5 j
end Go.Proofs.Ytljblbgogjieaaa
set_option linter.unusedVariables false
set_option linter.unusedSimpArgs false
set_option maxRecDepth 20000
namespace Go.Proofs.Ytljblbgogjieaaa
open Go Go.RowKit
theorem nat_eq_iff {A B:Nat} (hA:A<W9) (hB:B<W9):(decide (A = B)) = true↔∀ i,i<9→limb A i = limb B i:=by
  constructor
  · intro h i _; rw [of_decide_eq_true h]
  · intro h; exact decide_eq_true (limb_ext hA hB h)
theorem take_all (A:Nat):(natL A).take 9 = natL A:=List.take_of_length_le (by rw [KF]; exact Nat.le_refl _)
theorem eq_nat (A B:Nat) (hA:A<W9) (hB:B<W9):EqD 3 Try.prog 25 (natV A) (natV B) (decide (A = B)):=by
  rw [← Bool.and_true (decide (A = B))]
  exact EqD.struct (fs:=[_]) Try.underlying25 (by kernel_rfl) (EqFs.cons (by decide) (PartOf.agg Try.underlying23 rfl sz_23 (take_all A)) (PartOf.agg Try.underlying23 rfl sz_23 (take_all B)) (EqD.nums (nat_eq_iff hA hB) Try.underlying23 Try.underlying22 sz_22) EqFs.nil)
theorem mul_pow18 {A B:Nat} (hA:A<W9) (hB:B<W9):∀ i,i = 18→A*B<2^(64*i):=fun i h=>by
  rw [w18 h]; exact mul_w18 hA hB
theorem nw_mul {A B:Nat} (hA:A<W9) (hB:B<W9):nw (A*B)≤18:=nw_le (mul_pow18 hA hB 18 rfl)
theorem one_w9:1<W9:=Nat.one_lt_pow (by decide) (by decide)
theorem mod_w9 {A m:Nat} (hm0:m≠0) (hm:m<W9):A%m<W9:=Nat.lt_trans (Nat.mod_lt _ (Nat.pos_of_ne_zero hm0)) hm
theorem wide_take {Q:Nat}:((wideL Q).drop 0).take 9 = natL Q:=by
  unfold wideL natL vec
  rw [List.drop_zero,← List.map_take,List.take_range]
  rfl
theorem c_zero (m bm:Nat) (wr:Bool) (w:World) (hb:(Item.blk bm ⟨wr,natL m,25,(0,0)⟩).holds w) (hm:m<W9):Calls Try.prog 188 ([.pointer (some ⟨bm,0,none⟩)]:List Value).toArray w (fun e w'=>e = .returned (.bool (decide (m = 0)))∧Below w.heap.size w w'):=by
  refine Kw (N:=8) (rs:=[.tmp 2]) [.blk bm ⟨false,natL m,25,(0,0)⟩] Try.func188 rfl Try.ntmps188 Try.results188 (Nb rfl) ⟨hb,trivial⟩ rfl ?_
  show LCode _ _ _ ⟨_,_⟩ _
  refine KD (KB ?_)
  refine KA (KH rfl) (Nb rfl) ?_
  refine KG ?_
  refine KD (KB ?_)
  refine KA (KE rfl) (Nb rfl) ?_
  refine KA (KW rfl) (Nb rfl) ?_
  refine LOps.det (KM rfl (by repeat (first|exact Mh _|apply Mt)) (by exact KL Try.underlying25 rfl sz_25)) (Nb rfl) ?_
  refine KA (Kb (KAP pl_25 zr_25 rfl rfl) (show _ = natV 0 by unfold natV natL; rw [← vec_zeros 9])) (Nb rfl) ?_
  refine KA (Det.eqa (by kernel_rfl) (fun w=>eq_nat m 0 hm (by exact w9_pos) 10000 (by decide) w) rfl rfl) (Nb rfl) ?_
  refine KA (KH rfl) (Nb rfl) ?_
  refine KG (KY ?_)
  refine ⟨[_],.cons rfl .nil,fun a w' hr=>⟨?_,hr.fr.below⟩⟩
  rfl
theorem c_zeroN (m bm:Nat) (wr:Bool) (hm0:m≠0) (w:World) (hb:(Item.blk bm ⟨wr,natL m,25,(0,0)⟩).holds w) (hm:m<W9):Calls Try.prog 188 ([.pointer (some ⟨bm,0,none⟩)]:List Value).toArray w (fun e w'=>e = .returned (.bool false)∧Below w.heap.size w w'):=by
  have h:=c_zero m bm wr w hb hm
  rw [decide_eq_false hm0] at h
  exact h
theorem c_By (m:Nat) (hm0:m≠0) (hm:m<W9) (w:World)  : Calls Try.prog 170 ([natV m]:List Value).toArray w (fun e w'=>∃ b,e = .returned (.agg [.pointer (some ⟨b,0,none⟩)].toArray)∧w.heap.size≤b∧(Item.blk b ⟨false,dvL m,241,(0,0)⟩).holds w'∧Below w.heap.size w w'):=by
  refine Kw (N:=5) (rs:=[.cell 2 192]) [] Try.func170 rfl Try.ntmps170 Try.results170 (Nb rfl) trivial rfl ?_
  show LCode _ _ _ ⟨_,_⟩ _
  refine KD (KB ?_)
  refine KK rfl (KX (KQ (Ks rfl) (Nb rfl) (fun b1=>?_)))
  refine KK rfl (KX (KQ (Kd zr_192) (Nb rfl) (fun b2=>?_)))
  refine KG ?_
  refine KD (KB ?_)
  refine KK rfl (KX (LStep.call (Post:=fun v its=>∃ b,v = .pointer (some ⟨b,0,none⟩)∧its = [.blk b ⟨true,dvL m,241,(0,0)⟩]) (first:=[]) rfl en_183 rfl (Nb rfl) (fun w hw=>(c_of m b1 _ hm0 w (hw _ (by repeat (first|exact Mh _|apply Mt))) hm).mono fun e w' ⟨b,h1,h2,h3,h4⟩=>⟨_,_,⟨b,rfl,rfl⟩,h1,Brings.blk1 h4 h2 h3⟩) ?_))
  rintro _ _ ⟨bd,rfl,rfl⟩
  refine KA (KAP pl_192 zr_192 rfl (((KAX (A:=([]:List Value)) (B:=([Value.pointer none])) (D:=([]:List Value)) (cs:=[.pointer (some ⟨bd,0,none⟩)]) rfl rfl (by first|exact KF _|exact KJ _ _ _|exact KI _|exact KAO _ _ _|rfl|(simp only [List.length_append,List.length_cons,List.length_nil,KF,KJ,KI,KAO,KS,KZ])) (by first|rfl|simp only [List.append_assoc,List.nil_append,List.append_nil,List.cons_append]) (by first|exact KF _|exact KJ _ _ _|exact KI _|exact KAO _ _ _|rfl|(simp only [List.length_append,List.length_cons,List.length_nil,KF,KJ,KI,KAO,KS,KZ])) (by first|exact KF _|exact KJ _ _ _|exact KI _|exact KAO _ _ _|rfl|(simp only [List.length_append,List.length_cons,List.length_nil,KF,KJ,KI,KAO,KS,KZ])) rfl):fillL _ _ _ = _).trans (congrArg some (show _ = ([.pointer (some ⟨bd,0,none⟩)]) from by first|rfl|simp only [List.append_assoc,List.nil_append,List.append_nil,List.cons_append])))) (Nb rfl) ?_
  refine KK rfl (KO rfl rfl sz_192 (by repeat (first|exact Kg _|exact Kr _ _ _|exact Kh _|exact Kl _ _ _|exact Kq _ _ _|exact KV|refine KR rfl ?_|refine KT ?_ ?_)) (by repeat (first|exact Sh _|apply St_)) (by first|exact KF _|exact KJ _ _ _|exact KI _|exact KS _ _ _|exact KZ _ _ _|rfl|simp [KJ,KF,KI]) ?_)
  refine KG (KY ?_)
  refine ⟨[_],.cons ⟨_,_,_,rfl,(by repeat (first|exact Mh _|apply Mt)),by exact KL Try.underlying192 rfl sz_192⟩ .nil,fun a w' hr=>⟨bd,rfl,hr.new (B:=⟨true,dvL m,241,(0,0)⟩) (by repeat (first|exact Mh _|apply Mt)) rfl,(show (Item.blk bd ⟨true,dvL m,241,(0,0)⟩).holds w' from hr.hp _ (by repeat (first|exact Mh _|apply Mt))),hr.fr.below⟩⟩
theorem c_Mul (m A B bd:Nat) (hm0:m≠0) (hm:m<W9) (w:World) (hbd:(Item.blk bd ⟨false,dvL m,241,(0,0)⟩).holds w) (hA:A<W9) (hB:B<W9):Calls Try.prog 175 ([.agg [.pointer (some ⟨bd,0,none⟩)].toArray,natV A,natV B]:List Value).toArray w (fun e w'=>e = .returned (natV (A*B%m))∧Below w.heap.size w w'):=by
  refine Kw (N:=25) (rs:=[.cell 6 25]) [.blk bd ⟨false,dvL m,241,(0,0)⟩] Try.func175 rfl Try.ntmps175 Try.results175 (Nb rfl) ⟨hbd,trivial⟩ rfl ?_
  show LCode _ _ _ ⟨_,_⟩ _
  refine KD (KB ?_)
  refine KK rfl (KX (KQ (Ks rfl) (Nb rfl) (fun b3=>?_)))
  refine KK rfl (KX (KQ (Ks rfl) (Nb rfl) (fun b4=>?_)))
  refine KK rfl (KX (KQ (Ks rfl) (Nb rfl) (fun b5=>?_)))
  refine KK rfl (KX (KQ (Kd zr_25) (Nb rfl) (fun b6=>?_)))
  refine KG ?_
  refine KD (KB ?_)
  refine LOps.det (KM rfl (by repeat (first|exact Mh _|apply Mt)) (by exact KL Try.underlying25 rfl sz_25)) (Nb rfl) ?_
  refine LOps.det (KM rfl (by repeat (first|exact Mh _|apply Mt)) (by exact KL Try.underlying25 rfl sz_25)) (Nb rfl) ?_
  refine KK rfl (KX (KU (first:=[]) rfl en_185 rfl (Nb rfl) (fun w hw=>c_nat_Mul A B hA hB w) ?_))
  refine KK rfl (KX (KQ (Kd zr_230) (Nb rfl) (fun b7=>?_)))
  refine KK rfl (KO rfl rfl sz_230 (by repeat (first|exact Kg _|exact Kr _ _ _|exact Kh _|exact Kl _ _ _|exact Kq _ _ _|exact KV|refine KR rfl ?_|refine KT ?_ ?_)) (by repeat (first|exact Sh _|apply St_)) (by first|exact KF _|exact KJ _ _ _|exact KI _|exact KS _ _ _|exact KZ _ _ _|rfl|simp [KJ,KF,KI]) ?_)
  refine KG ?_
  refine KD ?_
  refine Ka [13,14] (by kernel_rfl) ?_
  refine KC 0 rfl (by kernel_rfl) (Nb rfl) (KN (o':=0) Try.underlying192 rfl rfl rfl sz_190 (by decide)) ?_
  refine LAny.take 1 rfl (by kernel_rfl) (Nb rfl) (KM rfl (by repeat (first|exact Mh _|apply Mt)) (Kc Try.underlying190 rfl (by first|rfl|exact KAG _ _ _ (by omega)|exact KAD _ (by omega)|exact KAK _ (by omega)|exact dv_m _ _ _ (by omega)))) ?_
  refine KC 2 rfl (by kernel_rfl) (Nb rfl) (KN (o':=0) Try.underlying230 rfl rfl rfl sz_228 (by decide)) ?_
  refine KC 3 rfl (by kernel_rfl) (Nb rfl) (KN (o':=0) Try.underlying230 rfl rfl rfl sz_228 (by decide)) ?_
  refine KC 4 rfl (by kernel_rfl) (Nb rfl) (Det.slArr Try.underlying228 sz_22 rfl) ?_
  refine LAny.toP ?_
  refine KAU 11 rfl (.inl zr_230) (Nb rfl) rfl rfl rfl ?_
  refine KAU 12 rfl (.inl zr_25) (Nb rfl) rfl rfl rfl ?_
  refine Ky 5 rfl rfl rfl (Nb rfl) (by kernel_rfl) rfl (KAA (first:=[]) rfl en_187 rfl (fun w hw=>c_length (A*B) b7 18 18 _ true w (hw _ (by repeat (first|exact Mh _|apply Mt))) (Nat.le_refl _) (by decide) (mul_pow18 hA hB 18 rfl))) ?_
  rintro _ _ ⟨rfl,rfl⟩
  refine KAM 6 rfl (by kernel_rfl) (Nb rfl) rfl (Det.slArrH Try.underlying228 sz_22 rfl rfl (by omega) (by have:=nw_mul hA hB; omega)) ?_
  refine Ky 7 rfl rfl rfl (Nb rfl) (by kernel_rfl) rfl (KAA (first:=[]) rfl en_186 rfl (fun w hw=>c_divide m (A*B) bd b7 (nw (A*B)) 18 _ true hm0 w (hw _ (by repeat (first|exact Mh _|apply Mt))) (hw _ (by repeat (first|exact Mh _|apply Mt))) hm (nw_mul hA hB) (by decide) (lt_nw _))) ?_
  rintro _ _ ⟨rfl,rfl⟩
  refine KAM 8 rfl (by kernel_rfl) (Nb rfl) rfl (KE rfl) ?_
  refine KAM 9 rfl (by kernel_rfl) (Nb rfl) rfl (Kj rfl rfl) ?_
  refine KAM 10 rfl (by kernel_rfl) (Nb rfl) rfl (Kj rfl rfl) ?_
  refine KAb (by kernel_rfl) (fun b9=>?_)
  refine KAb (by kernel_rfl) (fun b8=>?_)
  refine KAa ?_
  refine Kn 13 rfl rfl (by kernel_rfl) (by kernel_rfl) (KO rfl rfl sz_230 (by repeat (first|exact Kg _|exact Kr _ _ _|exact Kh _|exact Kl _ _ _|exact Kq _ _ _|exact KV|refine KR rfl ?_|refine KT ?_ ?_)) (by repeat (first|exact Sh _|apply St_)) (by first|exact KF _|exact KJ _ _ _|exact KI _|exact KS _ _ _|exact KZ _ _ _|rfl|simp [KJ,KF,KI]) ?_)
  refine Kn 14 rfl rfl (by kernel_rfl) (by kernel_rfl) (KO rfl rfl sz_25 (by repeat (first|exact Kg _|exact Kr _ _ _|exact Kh _|exact Kl _ _ _|exact Kq _ _ _|exact KV|refine KR rfl ?_|refine KT ?_ ?_)) (by repeat (first|exact Sh _|apply St_)) (by first|exact KF _|exact KJ _ _ _|exact KI _|exact KS _ _ _|exact KZ _ _ _|rfl|simp [KJ,KF,KI]) ?_)
  refine Ko (by kernel_rfl) ?_
  refine KD (KB ?_)
  refine LOps.det (KM rfl (by repeat (first|exact Mh _|apply Mt)) (by exact KL Try.underlying25 rfl sz_25)) (Nb rfl) ?_
  refine KK rfl (KO rfl rfl sz_25 (by repeat (first|exact Kg _|exact Kr _ _ _|exact Kh _|exact Kl _ _ _|exact Kq _ _ _|exact KV|refine KR rfl ?_|refine KT ?_ ?_)) (by repeat (first|exact Sh _|apply St_)) (by first|exact KF _|exact KJ _ _ _|exact KI _|exact KS _ _ _|exact KZ _ _ _|rfl|simp [KJ,KF,KI]) ?_)
  refine KG (KY ?_)
  refine ⟨[_],.cons ⟨_,_,_,rfl,(by repeat (first|exact Mh _|apply Mt)),by exact KL Try.underlying25 rfl sz_25⟩ .nil,fun a w' hr=>⟨?_,hr.fr.below⟩⟩
  rfl
theorem c_Div (A m:Nat) (hm0:m≠0) (w:World) (hA:A<W9) (hm:m<W9):Calls Try.prog 189 ([natV A,natV m]:List Value).toArray w (fun e w'=>e = .returned (.tuple #[natV (A/m),natV (A%m),.int .i64 ((0:Nat):Int)])∧Below w.heap.size w w'):=by
  refine Kw (N:=25) (rs:=[.cell 4 25,.cell 5 25,.tmp 6]) [] Try.func189 rfl Try.ntmps189 Try.results189 (Nb rfl) trivial rfl ?_
  show LCode _ _ _ ⟨_,_⟩ _
  refine KD (KB ?_)
  refine KK rfl (KX (KQ (Ks rfl) (Nb rfl) (fun b2=>?_)))
  refine KK rfl (KX (KQ (Ks rfl) (Nb rfl) (fun b3=>?_)))
  refine KK rfl (KX (KQ (Kd zr_25) (Nb rfl) (fun b4=>?_)))
  refine KK rfl (KX (KQ (Kd zr_25) (Nb rfl) (fun b5=>?_)))
  refine KA (KH (v:=.int .i64 ((0:Nat):Int)) rfl) (Nb rfl) ?_
  refine KG ?_
  refine KD ?_
  refine KD (KB ?_)
  refine KK rfl (KX (KU (first:=[]) rfl en_188 rfl (Nb rfl) (fun w hw=>c_zeroN m b3 _ hm0 w (hw _ (by repeat (first|exact Mh _|apply Mt))) hm) ?_))
  refine KG ?_
  refine Kp rfl ?_
  refine Km ?_
  refine KD ?_
  refine Ka [9,10] (by kernel_rfl) ?_
  refine KC 1 rfl (by kernel_rfl) (Nb rfl) (KN (o':=0) Try.underlying25 rfl rfl rfl sz_23 (by decide)) ?_
  refine KC 2 rfl (by kernel_rfl) (Nb rfl) (Det.slArr Try.underlying23 sz_22 rfl) ?_
  refine LAny.toP ?_
  refine KAU 7 rfl (.inl zr_230) (Nb rfl) rfl rfl rfl ?_
  refine KAU 8 rfl (.inl zr_25) (Nb rfl) rfl rfl rfl ?_
  refine Ky 0 rfl rfl rfl (Nb rfl) (by kernel_rfl) rfl (LExt.call (Post:=fun v its=>∃ b,v = .pointer (some ⟨b,0,none⟩)∧its = [.blk b ⟨false,dvL m,241,(0,0)⟩]) (first:=[]) rfl en_183 rfl (fun w hw=>(c_of m b3 _ hm0 w (hw _ (by repeat (first|exact Mh _|apply Mt))) hm).mono fun e w' ⟨b,h1,h2,h3,h4⟩=>⟨_,_,⟨b,rfl,rfl⟩,h1,Brings.blk1 h4 h2 h3⟩)) ?_
  rintro _ _ ⟨bd,rfl,rfl⟩
  refine Ky 3 rfl rfl rfl (Nb rfl) (by kernel_rfl) rfl (KAA (first:=[]) rfl en_186 rfl (fun w hw=>c_divide m A bd b2 9 9 _ true hm0 w (hw _ (by repeat (first|exact Mh _|apply Mt))) (hw _ (by repeat (first|exact Mh _|apply Mt))) hm (Nat.le_refl _) (by decide) (lt_w9_pow hA 9 rfl))) ?_
  rintro _ _ ⟨rfl,rfl⟩
  refine KAM 4 rfl (by kernel_rfl) (Nb rfl) rfl (KE rfl) ?_
  refine KAM 5 rfl (by kernel_rfl) (Nb rfl) rfl (Kj rfl rfl) ?_
  refine KAM 6 rfl (by kernel_rfl) (Nb rfl) rfl (Kj rfl rfl) ?_
  refine KAb (by kernel_rfl) (fun b8=>?_)
  refine KAb (by kernel_rfl) (fun b7=>?_)
  refine KAa ?_
  refine Kn 9 rfl rfl (by kernel_rfl) (by kernel_rfl) (KO rfl rfl sz_230 (by repeat (first|exact Kg _|exact Kr _ _ _|exact Kh _|exact Kl _ _ _|exact Kq _ _ _|exact KV|refine KR rfl ?_|refine KT ?_ ?_)) (by repeat (first|exact Sh _|apply St_)) (by first|exact KF _|exact KJ _ _ _|exact KI _|exact KS _ _ _|exact KZ _ _ _|rfl|simp [KJ,KF,KI]) ?_)
  refine Kn 10 rfl rfl (by kernel_rfl) (by kernel_rfl) (KO rfl rfl sz_25 (by repeat (first|exact Kg _|exact Kr _ _ _|exact Kh _|exact Kl _ _ _|exact Kq _ _ _|exact KV|refine KR rfl ?_|refine KT ?_ ?_)) (by repeat (first|exact Sh _|apply St_)) (by first|exact KF _|exact KJ _ _ _|exact KI _|exact KS _ _ _|exact KZ _ _ _|rfl|simp [KJ,KF,KI]) ?_)
  refine Ko (by kernel_rfl) ?_
  refine KD ?_
  refine Ka [6,7] (by kernel_rfl) ?_
  refine KC 0 rfl (by kernel_rfl) (Nb rfl) (KN (o':=0) Try.underlying230 rfl rfl rfl sz_228 (by decide)) ?_
  refine KC 1 rfl (by kernel_rfl) (Nb rfl) (Det.slArrH Try.underlying228 sz_22 rfl rfl (by omega) (by omega)) ?_
  refine KC 2 rfl (by kernel_rfl) (Nb rfl) (Det.s2a Try.underlying23 rfl (by omega)) ?_
  refine LAny.take 3 rfl (by kernel_rfl) (Nb rfl) (KM (v:=.agg (natL (A/m)).toArray) rfl (by repeat (first|exact Mh _|apply Mt)) (LoadV.many Try.underlying23 rfl sz_23 wide_take (by simp only [KI]; decide))) ?_
  refine KC 4 rfl (by kernel_rfl) (Nb rfl) (KAP pl_25 zr_25 rfl (((KAX (A:=([]:List Value)) (B:=(vec .u64 9 (fun _=>0))) (D:=([]:List Value)) (cs:=natL (A/m)) rfl rfl (by first|exact KF _|exact KJ _ _ _|exact KI _|exact KAO _ _ _|rfl|(simp only [List.length_append,List.length_cons,List.length_nil,KF,KJ,KI,KAO,KS,KZ])) (by first|rfl|simp only [List.append_assoc,List.nil_append,List.append_nil,List.cons_append]) (by first|exact KF _|exact KJ _ _ _|exact KI _|exact KAO _ _ _|rfl|(simp only [List.length_append,List.length_cons,List.length_nil,KF,KJ,KI,KAO,KS,KZ])) (by first|exact KF _|exact KJ _ _ _|exact KI _|exact KAO _ _ _|rfl|(simp only [List.length_append,List.length_cons,List.length_nil,KF,KJ,KI,KAO,KS,KZ])) rfl):fillL _ _ _ = _).trans (congrArg some (show _ = (natL (A/m)) from by first|rfl|simp only [List.append_assoc,List.nil_append,List.append_nil,List.cons_append])))) ?_
  refine LAny.twoX 5 6 rfl rfl rfl rfl (by kernel_rfl) (.inr (LStep.det (KM rfl (by repeat (first|exact Mh _|apply Mt)) (by exact KL Try.underlying25 rfl sz_25)) (Nb rfl) ?_)) (.inl ⟨rfl,KO rfl rfl sz_25 (by repeat (first|exact Kg _|exact Kr _ _ _|exact Kh _|exact Kl _ _ _|exact Kq _ _ _|exact KV|refine KR rfl ?_|refine KT ?_ ?_)) (by repeat (first|exact Sh _|apply St_)) (by first|exact KF _|exact KJ _ _ _|exact KI _|exact KS _ _ _|exact KZ _ _ _|rfl|simp [KJ,KF,KI]) ?_⟩)
  ·
    refine Kn 6 rfl rfl (by kernel_rfl) (by kernel_rfl) (KO rfl rfl sz_25 (by repeat (first|exact Kg _|exact Kr _ _ _|exact Kh _|exact Kl _ _ _|exact Kq _ _ _|exact KV|refine KR rfl ?_|refine KT ?_ ?_)) (by repeat (first|exact Sh _|apply St_)) (by first|exact KF _|exact KJ _ _ _|exact KI _|exact KS _ _ _|exact KZ _ _ _|rfl|simp [KJ,KF,KI]) ?_)
    refine Kn 7 rfl rfl (by kernel_rfl) (by kernel_rfl) (KO rfl rfl sz_25 (by repeat (first|exact Kg _|exact Kr _ _ _|exact Kh _|exact Kl _ _ _|exact Kq _ _ _|exact KV|refine KR rfl ?_|refine KT ?_ ?_)) (by repeat (first|exact Sh _|apply St_)) (by first|exact KF _|exact KJ _ _ _|exact KI _|exact KS _ _ _|exact KZ _ _ _|rfl|simp [KJ,KF,KI]) ?_)
    refine KC 8 rfl (by kernel_rfl) (Nb rfl) (KH (v:=.int .i64 ((0:Nat):Int)) rfl) ?_
    refine Ko (by kernel_rfl) ?_
    refine KY ?_
    refine ⟨[_,_,_],.cons ⟨_,_,_,rfl,(by repeat (first|exact Mh _|apply Mt)),by exact KL Try.underlying25 rfl sz_25⟩ (.cons ⟨_,_,_,rfl,(by repeat (first|exact Mh _|apply Mt)),by exact KL Try.underlying25 rfl sz_25⟩ (.cons rfl .nil)),fun a w' hr=>⟨?_,hr.fr.below⟩⟩
    rfl
  ·
    refine LAny.take 5 rfl (by kernel_rfl) (Nb rfl) (KM rfl (by repeat (first|exact Mh _|apply Mt)) (by exact KL Try.underlying25 rfl sz_25)) ?_
    refine Kn 7 rfl rfl (by kernel_rfl) (by kernel_rfl) (KO rfl rfl sz_25 (by repeat (first|exact Kg _|exact Kr _ _ _|exact Kh _|exact Kl _ _ _|exact Kq _ _ _|exact KV|refine KR rfl ?_|refine KT ?_ ?_)) (by repeat (first|exact Sh _|apply St_)) (by first|exact KF _|exact KJ _ _ _|exact KI _|exact KS _ _ _|exact KZ _ _ _|rfl|simp [KJ,KF,KI]) ?_)
    refine KC 8 rfl (by kernel_rfl) (Nb rfl) (KH (v:=.int .i64 ((0:Nat):Int)) rfl) ?_
    refine Ko (by kernel_rfl) ?_
    refine KY ?_
    refine ⟨[_,_,_],.cons ⟨_,_,_,rfl,(by repeat (first|exact Mh _|apply Mt)),by exact KL Try.underlying25 rfl sz_25⟩ (.cons ⟨_,_,_,rfl,(by repeat (first|exact Mh _|apply Mt)),by exact KL Try.underlying25 rfl sz_25⟩ (.cons rfl .nil)),fun a w' hr=>⟨?_,hr.fr.below⟩⟩
    rfl
end Go.Proofs.Ytljblbgogjieaaa
set_option linter.unusedVariables false
namespace Go.Proofs.Ytljblbgogjieaaa
open Go Go.RowKit
theorem word_digits (A i:Nat):limb A i = D.limb A (2*i)+4294967296*D.limb A (2*i+1):=by
  unfold limb D.limb
  have h1:A/2^(32*(2*i+1)) = A/2^(64*i)/4294967296:=by
    rw [Nat.div_div_eq_div_mul,show (4294967296:Nat) = 2^32 from rfl,← Nat.pow_add]; congr 2; omega
  rw [h1,show 32*(2*i) = 64*i by omega]
  generalize A/2^(64*i) = q
  omega
theorem or_digits {a b:Nat} (ha:a<4294967296) (hb:b<4294967296):(a ||| b*4294967296%18446744073709551616) = a+4294967296*b:=by
  have h:=or_high (a:=a) (z:=b) (s:=32) ha (by decide)
  rw [show (2:Nat)^32 = 4294967296 from rfl] at h
  rw [h,Nat.mod_eq_of_lt (by omega)]; omega
theorem word_or (A i:Nat):(D.limb A (2*i) ||| D.limb A (2*i+1)*4294967296%18446744073709551616) = limb A i:=by
  rw [or_digits (D.limb_lt _ _) (D.limb_lt _ _),word_digits]
namespace D
theorem limb_zero (i:Nat):limb 0 i = 0:=by simp [limb]
theorem nw_ne {A:Nat} (h:nw A≠0):2^(32*(nw A-1))≤A:=by
  have hA:A≠0:=fun e=>h (by rw [e]; rfl)
  have h1:=blen_pos hA
  have h2:=blen_ne hA
  exact Nat.le_trans (Nat.pow_le_pow_right (by decide) (by unfold nw; omega)) h1
theorem bits_words {A:Nat} (h:nw A≠0):32*(nw A-1)+blen (limb A (nw A-1)) = blen A:=by
  have h1:=nw_ne h
  rw [limb_top (A:=A) (n:=nw A-1) (by rw [show nw A-1+1 = nw A by omega]; exact lt_nw A)]
  have:=blen_shr h1
  omega
theorem nw_mono {A B:Nat} (h:A≤B):nw A≤nw B:=nw_le (Nat.lt_of_le_of_lt h (lt_nw B))
theorem carry_borrow {A B:Nat} (h:B≤A) (i:Nat):carry B (A-B) i = borrow A B i:=by
  have hp:=pow64_pos i
  have h0:(B%2^(32*i)+(A-B)%2^(32*i))%2^(32*i) = A%2^(32*i):=by rw [← Nat.add_mod]; congr 1; omega
  unfold carry borrow
  have h1:=Nat.mod_lt B hp
  have h2:=Nat.mod_lt (A-B) hp
  generalize B%2^(32*i) = b at *
  generalize (A-B)%2^(32*i) = d at *
  generalize A%2^(32*i) = a at *
  generalize 2^(32*i) = M at *
  by_cases hc:b+d<M
  · rw [Nat.mod_eq_of_lt hc] at h0
    rw [Nat.div_eq_of_lt hc,if_neg (by omega)]
  · have e:b+d = (b+d-M)+M:=by omega
    rw [e,Nat.add_mod_right,Nat.mod_eq_of_lt (by omega)] at h0
    rw [e,Nat.add_div_right _ hp,Nat.div_eq_of_lt (by omega),if_pos (by omega)]
theorem sub_limb {A B:Nat} (h:B≤A) (i:Nat):(limb A i+4294967296-limb B i-borrow A B i)%4294967296 = limb (A-B) i∧1-(limb A i+4294967296-limb B i-borrow A B i)/4294967296 = borrow A B (i+1):=by
  have h1:=add_limb B (A-B) i
  rw [carry_borrow h,carry_borrow h,show B+(A-B) = A by omega] at h1
  have h2:=limb_lt A i
  have h3:=limb_lt B i
  have h4:=limb_lt (A-B) i
  have h5:=borrow_le A B i
  have h6:=borrow_le A B (i+1)
  omega
theorem ext {n A B:Nat} (hA:A<2^(32*n)) (hB:B<2^(32*n)) (h:∀ i,i<n→limb A i = limb B i):A = B:=by
  have key:∀ k,k≤n→A/2^(32*(n-k)) = B/2^(32*(n-k)):=by
    intro k
    induction k with
    | zero=>intro _; rw [Nat.sub_zero,Nat.div_eq_of_lt hA,Nat.div_eq_of_lt hB]
    | succ k ih =>
      intro hk
      refine (div_eq_iff_limb A B (n-(k+1))).2 ⟨?_,h _ (by omega)⟩
      rw [show n-(k+1)+1 = n-k by omega]
      exact ih (by omega)
  have:=key n (Nat.le_refl _)
  simpa using this
theorem limb_below {V y s i k w : Nat} (hs : s * w = 32) (hk : k < w) (hi : V % 2 ^ (s * (w * i + k + 1)) = 0) (hy : y < 2 ^ s) : (limb V i ||| y * 2 ^ (s * k) % 4294967296) < 4294967296 ∧
    ∀ j,limb (V+y*2^(s*(w*i+k))) j = if j = i then (limb V i ||| y*2^(s*k)%4294967296) else limb V j:=by
  have h1:2^(s*(w*i+k)) = 2^(s*k)*2^(32*i):=by
    rw [← Nat.pow_add,Nat.mul_add,← Nat.mul_assoc,hs]; congr 1; omega
  have hle:s*k+s≤32:=by
    have:s*(k+1)≤s*w:=Nat.mul_le_mul_left _ hk
    rw [Nat.mul_succ] at this
    omega
  have hpos:0<2^(s*k):=Nat.pow_pos (by decide)
  have hylt:y*2^(s*k)<2^(s*k+s):=by
    rw [Nat.add_comm,Nat.pow_add]; exact Nat.mul_lt_mul_of_pos_right hy hpos
  have hle2:2^(s*k+s)≤4294967296:=by
    have:2^(s*k+s)≤2^32:=Nat.pow_le_pow_right (by decide) hle
    exact this
  have h2:2^(s*(w*i+k+1)) = 2^(s*k+s)*2^(32*i):=by
    rw [← Nat.pow_add,Nat.mul_add,Nat.mul_add,← Nat.mul_assoc,hs]; congr 1; omega
  obtain ⟨m,hm⟩:=Nat.dvd_of_mod_eq_zero hi
  have hl:limb V i = m*2^(s*k+s)%4294967296:=by
    unfold limb
    rw [hm,h2,show 2^(s*k+s)*2^(32*i)*m = m*2^(s*k+s)*2^(32*i) by rw [Nat.mul_comm _ m,Nat.mul_assoc],Nat.mul_div_cancel _ (pow64_pos _)]
  have ho:(limb V i ||| y*2^(s*k)%4294967296) = limb V i+y*2^(s*k):=by
    rw [Nat.mod_eq_of_lt (show y*2^(s*k)<4294967296 by omega),hl,Nat.or_comm,or_high hylt hle,Nat.add_comm]
  have hlt:limb V i+y*2^(s*k)<4294967296:=by
    rw [← ho]
    exact Nat.or_lt_two_pow (n:=32) (limb_lt V i) (Nat.mod_lt _ (by decide))
  rw [ho]
  refine ⟨hlt,fun j=>?_⟩
  have:=limb_addl V (y*2^(s*k)) i j hlt
  rw [← this,h1,Nat.mul_assoc]
end D
theorem limb_piece64 {V y s i k w : Nat} (hs : s * w = 64) (hk : k < w) (hi : V < 2 ^ (s * (w * i + k))) (hy : y < 2 ^ s) : (limb V i ||| y * 2 ^ (s * k) % 18446744073709551616) < 18446744073709551616 ∧
    ∀ j,limb (y*2^(s*(w*i+k))+V) j = if j = i then (limb V i ||| y*2^(s*k)%18446744073709551616) else limb V j:=by
  have h1:2^(s*(w*i+k)) = 2^(s*k)*2^(64*i):=by
    rw [← Nat.pow_add,Nat.mul_add,← Nat.mul_assoc,hs]; congr 1; omega
  have hl:limb V i<2^(s*k):=by
    have:V/2^(64*i)<2^(s*k):=by
      rw [Nat.div_lt_iff_lt_mul (pow64_pos _),← h1]; exact hi
    exact Nat.lt_of_le_of_lt (Nat.mod_le _ _) this
  have hle:s*k+s≤64:=by
    have:s*(k+1)≤s*w:=Nat.mul_le_mul_left _ hk
    rw [Nat.mul_succ] at this
    omega
  have hlt:y*2^(s*k)+2^(s*k)≤18446744073709551616:=by
    have h2:(y+1)*2^(s*k)≤2^s*2^(s*k):=Nat.mul_le_mul_right _ hy
    have h3:2^s*2^(s*k)≤2^64:=by rw [← Nat.pow_add]; exact Nat.pow_le_pow_right (by decide) (by omega)
    rw [Nat.add_mul] at h2
    have h4:(2:Nat)^64 = 18446744073709551616:=rfl
    omega
  have hpos:0<2^(s*k):=Nat.pow_pos (by decide)
  have ho:(limb V i ||| y*2^(s*k)%18446744073709551616) = limb V i+y*2^(s*k):=by
    rw [or_high hl (by omega),Nat.mod_eq_of_lt (by omega)]
  rw [ho]
  refine ⟨by omega,fun j=>?_⟩
  have:=limb_addl V (y*2^(s*k)) i j (by omega)
  rw [← this,h1,Nat.mul_assoc,Nat.add_comm]
end Go.Proofs.Ytljblbgogjieaaa
set_option linter.unusedVariables false
set_option linter.unusedSimpArgs false
set_option maxRecDepth 20000
namespace Go.Proofs.Ytljblbgogjieaaa
open Go Go.RowKit
theorem c_trim (A b n c m:Nat) (ty:TypeId) (wr:Bool) (w:World) (hb:(Item.blk b ⟨wr,vec .u32 m (D.limb A),ty,(0,0)⟩).holds w) (hnm:n≤m) (hnc:n≤c) (hc:n<9223372036854775808) (hA:A<2^(32*n)):Calls Try.prog 120 ([.slice (some ⟨b,0,none⟩) n c]:List Value).toArray w (fun e w'=>e = .returned (.slice (some ⟨b,0,none⟩) (D.nw A) c)∧Below w.heap.size w w'):=by
  refine Kw (N:=21) (rs:=[.tmp 2]) [.blk b ⟨false,vec .u32 m (D.limb A),ty,(0,0)⟩] Try.func120 rfl Try.ntmps120 Try.results120 (Nb rfl) ⟨hb,trivial⟩ rfl ?_
  show LCode _ _ _ ⟨_,_⟩ _
  refine KD (KB ?_)
  refine KA (KH rfl) (Nb rfl) ?_
  refine KG ?_
  refine KD (KB ?_)
  refine KA (KE rfl) (Nb rfl) ?_
  refine KA (Det.len Try.underlying29 rfl) (Nb rfl) ?_
  refine KA (KH rfl) (Nb rfl) ?_
  refine KG ?_
  refine KD ?_
  refine LCode.block ?_
  refine KAQ (α:=Nat) (fun x=>x≤n∧A<2^(32*x)) (fun x=>⟨[(0,.slice (some ⟨b,0,none⟩) n c),(3,.int .i64 ((x:Nat):Int))],[.blk b ⟨false,vec .u32 m (D.limb A),ty,(0,0)⟩]⟩) (fun x=>x) (n) (⟨Nat.le_refl _,hA⟩) (KAF ⟨rfl,rfl,trivial⟩ (by repeat (first|exact Sel.nil _|refine Sel.cons (by repeat (first|exact Ph _|apply Pt_)) ?_))) ?_
  rintro x ⟨hx,hlt⟩
  refine KD ?_
  refine KD ?_
  by_cases h0:0<x
  ·
    refine KB ?_
    refine KA (KE rfl) (Nb rfl) ?_
    refine KA (KP rfl rfl (br_t (br_gtr (b:=0)) h0)) (Nb rfl) ?_
    refine KA (KE rfl) (Nb rfl) ?_
    refine Ke rfl rfl (KE rfl) (Nb rfl) ?_
    refine Ke rfl rfl (KE rfl) (Nb rfl) ?_
    refine Ke rfl rfl (KP rfl rfl (br_sub (b:=1) (by omega) (by omega))) (Nb rfl) ?_
    refine Ke rfl rfl (KAN Try.underlying29 sz_56 rfl rfl (by omega)) (Nb rfl) ?_
    refine KAZ rfl rfl (KM rfl (by repeat (first|exact Mh _|apply Mt)) (Kc Try.underlying56 rfl (by exact KAG _ _ _ (show x-1<m by omega)))) (Nb rfl) ?_
    refine Ke rfl rfl (KP rfl rfl (br_eql (b:=0))) (Nb rfl) ?_
    refine KA (KAE rfl rfl) (Nb rfl) ?_
    refine KG ?_
    first|refine Kf rfl (fun h15=>?_) (fun h15=>?_)|refine Ki rfl (fun h15=>?_) (fun h15=>?_)
    ·
      have h15:D.limb A (x-1) = 0:=by have:=h15; simpa using this
      refine Km ?_
      refine LCode.block ?_
      refine KB ?_
      refine KA (KE rfl) (Nb rfl) ?_
      refine KA (KP rfl rfl (br_sub (b:=1) (by omega) (by omega))) (Nb rfl) ?_
      refine KA (KH rfl) (Nb rfl) ?_
      refine KG ?_
      refine ⟨x-1,⟨by omega,?_⟩,by omega,KAF ⟨rfl,rfl,trivial⟩ (by repeat (first|exact Sel.nil _|refine Sel.cons (by repeat (first|exact Ph _|apply Pt_)) ?_))⟩
      exact D.lt_of_limb_zero (A:=A) (n:=x-1) (by rw [show x-1+1 = x by omega]; exact hlt) h15
    ·
      have h15:¬ D.limb A (x-1) = 0:=by have:=h15; simpa using this
      refine KAI ?_
      refine KD (KB ?_)
      refine KA (KE rfl) (Nb rfl) ?_
      refine KA (KE rfl) (Nb rfl) ?_
      refine KA (Det.slH Try.underlying29 sz_56 rfl rfl (by omega) (by omega)) (Nb rfl) ?_
      refine KA (KH rfl) (Nb rfl) ?_
      refine KG (KY ?_)
      have he:D.nw A = x:=D.nw_eq hlt (.inr (D.le_of_limb (A:=A) (n:=x-1) (by rw [show x-1+1 = x by omega]; exact hlt) h15))
      refine ⟨[_],.cons rfl .nil,fun a w' hr=>⟨?_,hr.fr.below⟩⟩
      rw [he]; rfl
  ·
    refine KB ?_
    refine KA (KE rfl) (Nb rfl) ?_
    refine KA (KP rfl rfl (br_f (br_gtr (b:=0)) h0)) (Nb rfl) ?_
    refine KA (KE rfl) (Nb rfl) ?_
    refine Ku rfl rfl rfl (Nb rfl) ?_
    refine Ku rfl rfl rfl (Nb rfl) ?_
    refine Ku rfl rfl rfl (Nb rfl) ?_
    refine Ku rfl rfl rfl (Nb rfl) ?_
    refine Ku rfl rfl rfl (Nb rfl) ?_
    refine Ku rfl rfl rfl (Nb rfl) ?_
    refine KA (Kz rfl rfl) (Nb rfl) ?_
    refine KG ?_
    refine Kp rfl ?_
    refine KAI ?_
    refine KD (KB ?_)
    refine KA (KE rfl) (Nb rfl) ?_
    refine KA (KE rfl) (Nb rfl) ?_
    refine KA (Det.slH Try.underlying29 sz_56 rfl rfl (by omega) (by omega)) (Nb rfl) ?_
    refine KA (KH rfl) (Nb rfl) ?_
    refine KG (KY ?_)
    have he:D.nw A = x:=D.nw_eq hlt (.inl (by omega))
    refine ⟨[_],.cons rfl .nil,fun a w' hr=>⟨?_,hr.fr.below⟩⟩
    rw [he]; rfl
theorem c_n_digit (q:NV) (A n i:Nat) (w:World) (hq:(numI q A n).holds w):Calls Try.prog 118 ([slV q n,.int .i64 ((i:Nat):Int)]:List Value).toArray w (fun e w'=>e = .returned (.int .u64 ((D.limb A i:Nat):Int))∧Below w.heap.size w w'):=by
  have hA:=numI_lt hq
  refine Kw (N:=14) (rs:=[.tmp 4]) [numI q A n] Try.func118 rfl Try.ntmps118 Try.results118 (Nb rfl) ⟨hq,trivial⟩ rfl ?_
  show LCode _ _ _ ⟨_,_⟩ _
  refine KD (KB ?_)
  refine KA (KH (v:=.int .u64 ((0:Nat):Int)) rfl) (Nb rfl) ?_
  refine KG ?_
  refine KD ?_
  refine KD (KB ?_)
  refine KA (KE rfl) (Nb rfl) ?_
  refine KA (KE rfl) (Nb rfl) ?_
  refine KA (Det.len Try.underlying29 rfl) (Nb rfl) ?_
  refine KA (KP rfl rfl (br_lss)) (Nb rfl) ?_
  refine KG ?_
  first|refine Kf rfl (fun h8=>?_) (fun h8=>?_)|refine Ki rfl (fun h8=>?_) (fun h8=>?_)
  ·
    have h8:i<n:=h8
    refine KD (KB ?_)
    refine KA (KE rfl) (Nb rfl) ?_
    refine KA (KE rfl) (Nb rfl) ?_
    refine KA (Det.indexN Try.underlying29 sz_56 rfl rfl (by omega)) (Nb rfl) ?_
    refine LOps.det (Det.loadN Try.underlying56 rfl rfl (by repeat (first|exact Mh _|apply Mt)) (by omega)) (Nb rfl) ?_
    refine KA (Det.conv64 Try.underlying56 Try.underlying22 rfl (by first|omega|exact Nat.lt_trans (D.limb_lt _ _) (by decide))) (Nb rfl) ?_
    refine KA (KH rfl) (Nb rfl) ?_
    refine KG (KY ?_)
    refine ⟨[_],.cons rfl .nil,fun a w' hr=>⟨rfl,hr.fr.below⟩⟩
  ·
    have h8:¬ i<n:=h8
    refine Km ?_
    refine KD (KB ?_)
    refine KA (KH (v:=.int .u64 ((0:Nat):Int)) rfl) (Nb rfl) ?_
    refine KG (KY ?_)
    have hz:D.limb A i = 0:=D.limb_high (n:=n) hA (by omega)
    refine ⟨[_],.cons rfl .nil,fun a w' hr=>⟨?_,hr.fr.below⟩⟩
    rw [hz]; rfl
end Go.Proofs.Ytljblbgogjieaaa
set_option linter.unusedVariables false
set_option linter.unusedSimpArgs false
set_option maxRecDepth 20000
namespace Go.Proofs.Ytljblbgogjieaaa
open Go Go.RowKit
theorem c_n_Nat (q:NV) (A n:Nat) (w:World) (hq:(numI q A n).holds w):Calls Try.prog 50 ([slV q n]:List Value).toArray w (fun e w'=>e = .returned (natV A)∧Below w.heap.size w w'):=by
  refine Kw (N:=24) (rs:=[.cell 2 25]) [numI q A n] Try.func50 rfl Try.ntmps50 Try.results50 (Nb rfl) ⟨hq,trivial⟩ rfl ?_
  show LCode _ _ _ ⟨_,_⟩ _
  refine KD (KB ?_)
  refine KK rfl (KX (KQ (Kd zr_25) (Nb rfl) (fun b2=>?_)))
  refine KG ?_
  refine KD (KB ?_)
  refine KK rfl (KX (KQ (Kd zr_25) (Nb rfl) (fun b3=>?_)))
  refine KG ?_
  refine KD ?_
  refine KD (KB ?_)
  refine KA (KH (v:=.int .i64 ((0:Nat):Int)) rfl) (Nb rfl) ?_
  refine KG ?_
  refine LCode.block ?_
  refine KAQ (α:=Nat) (fun x=>x≤9) (fun x=>⟨[(0,slV q n),(2,.pointer (some ⟨b2,0,none⟩)),(3,.pointer (some ⟨b3,0,none⟩)),(4,.int .i64 ((x:Nat):Int))],[.blk b3 ⟨true,vec .u64 9 (fun j=>if j<x then limb A j else 0),25,(0,0)⟩,.blk b2 ⟨true,vec .u64 9 (fun _=>0),25,(0,0)⟩,numI q A n]⟩) (fun x=>9-x) (0) (Nat.zero_le _) (KAF ⟨rfl,rfl,rfl,rfl,trivial⟩ (by repeat (first|exact Sel.nil _|refine Sel.cons (by repeat (first|exact Ph _|apply Pt_)) ?_))) ?_
  intro x hx
  refine KD ?_
  refine KD (KB ?_)
  refine KA (KE rfl) (Nb rfl) ?_
  refine KA (KP rfl rfl (br_lss (b:=9))) (Nb rfl) ?_
  refine KG ?_
  first|refine Kf rfl (fun h6=>?_) (fun h6=>?_)|refine Ki rfl (fun h6=>?_) (fun h6=>?_)
  ·
    refine Km ?_
    refine KD ?_
    refine LCode.block ?_
    refine KB ?_
    refine KA (KE rfl) (Nb rfl) ?_
    refine KA (KE rfl) (Nb rfl) ?_
    refine KA (KE rfl) (Nb rfl) ?_
    refine KA (KP rfl rfl (br_mul (a:=2) (by omega))) (Nb rfl) ?_
    refine KK rfl (KX (KU (first:=[]) rfl en_118 rfl (Nb rfl) (fun w hw=>c_n_digit _ _ _ _ w (hw _ (by repeat (first|exact Mh _|apply Mt)))) ?_))
    refine KA (KE rfl) (Nb rfl) ?_
    refine KA (KE rfl) (Nb rfl) ?_
    refine KA (KP rfl rfl (br_mul (a:=2) (by omega))) (Nb rfl) ?_
    refine KA (KP rfl rfl (KAT (b:=1) (by omega))) (Nb rfl) ?_
    refine KK rfl (KX (KU (first:=[]) rfl en_118 rfl (Nb rfl) (fun w hw=>c_n_digit _ _ _ _ w (hw _ (by repeat (first|exact Mh _|apply Mt)))) ?_))
    refine KA (KP rfl rfl (br_shl64 (b:=32))) (Nb rfl) ?_
    refine KA (KP rfl rfl (br_or64 (Nat.lt_trans (D.limb_lt _ _) (by decide)) (Nat.mod_lt _ (by decide)))) (Nb rfl) ?_
    refine KA (KN (o':=0) Try.underlying25 rfl rfl rfl sz_23 (by decide)) (Nb rfl) ?_
    refine KA (Kv Try.underlying23 sz_22 rfl rfl (by omega)) (Nb rfl) ?_
    refine KK rfl (KAC rfl rfl rfl sz_22 (by repeat (first|exact Sh _|apply St_)) (by first|(simp only [KJ,KF,KI,KAO]; omega)|(simp; omega)) (by first|exact vec_set _ _ _ _ _|exact dv_setm _ _ _ _ (by omega)|exact dv_sets _ _ _ _|rfl) (by simp) ?_)
    refine KG ?_
    refine KB ?_
    refine KA (KE rfl) (Nb rfl) ?_
    refine KA (KP rfl rfl (KAT (b:=1) (by omega))) (Nb rfl) ?_
    refine KA (KH rfl) (Nb rfl) ?_
    refine KG ?_
    refine ⟨x+1,by omega,by omega,Sub.re (Sub.cells (b:=b3) (cs':=vec .u64 9 (fun j=>if j<x+1 then limb A j else 0)) (by repeat (first|exact Sh _|apply St_)) (KAS fun j hj=>?_)) (KAF ⟨rfl,rfl,rfl,rfl,trivial⟩ (by repeat (first|exact Sel.nil _|refine Sel.cons (by repeat (first|exact Ph _|apply Pt_)) ?_)))⟩
    by_cases e:j = x
    · rw [if_pos e,if_pos (by omega),e]
      exact word_or A x
    · rw [if_neg e]
      by_cases e3:j<x
      · rw [if_pos e3,if_pos (by omega)]
      · rw [if_neg e3,if_neg (by omega)]
  ·
    refine KAI ?_
    refine KD ?_
    obtain rfl:x = 9:=by omega
    refine LCode.sub (Sub.cells (b:=b3) (cs':=natL A) (by repeat (first|exact Sh _|apply St_)) (KAS fun j hj=>if_pos (by omega))) ?_
    refine KB ?_
    refine LOps.det (KM rfl (by repeat (first|exact Mh _|apply Mt)) (by exact KL Try.underlying25 rfl sz_25)) (Nb rfl) ?_
    refine KK rfl (KO rfl rfl sz_25 (by repeat (first|exact Kg _|exact Kr _ _ _|exact Kh _|exact Kl _ _ _|exact Kq _ _ _|exact KV|refine KR rfl ?_|refine KT ?_ ?_)) (by repeat (first|exact Sh _|apply St_)) (by first|exact KF _|exact KJ _ _ _|exact KI _|exact KS _ _ _|exact KZ _ _ _|rfl|simp [KJ,KF,KI]) ?_)
    refine KG (KY ?_)
    refine ⟨[_],.cons ⟨_,_,_,rfl,(by repeat (first|exact Mh _|apply Mt)),by exact KL Try.underlying25 rfl sz_25⟩ .nil,fun a w' hr=>⟨?_,hr.fr.below⟩⟩
    rfl
theorem c_n_Sub (q r:NV) (A B:Nat) (w:World) (hq:(numT q A).holds w) (hr:(numT r B).holds w) (hBA:B≤A) (hA:D.nw A≤1000000):Calls Try.prog 65 ([numV q A,numV r B]:List Value).toArray w (fun e w'=>NumR w ([]) (A-B) (fun v=>v) e w'):=by
  refine Kw (N:=39) (rs:=[.tmp 4]) [numT q A,numT r B] Try.func65 rfl Try.ntmps65 Try.results65 (Nb rfl) ⟨hq,hr,trivial⟩ rfl ?_
  show LCode _ _ _ ⟨_,_⟩ _
  refine KD (KB ?_)
  refine KA (KH rfl) (Nb rfl) ?_
  refine KG ?_
  refine KD (KB ?_)
  refine KA (KE rfl) (Nb rfl) ?_
  refine KA (Det.len Try.underlying29 rfl) (Nb rfl) ?_
  refine KK rfl (KX (KQ (Makes.mkV Try.underlying29 inf_56 rfl rfl (by omega) (by omega)) (Nb rfl) (fun b11=>?_)))
  refine KA (KH rfl) (Nb rfl) ?_
  refine KG ?_
  refine KD (KB ?_)
  refine KA (KH (v:=.int .u64 ((0:Nat):Int)) rfl) (Nb rfl) ?_
  refine KG ?_
  refine KD ?_
  refine KD (KB ?_)
  refine KA (KH (v:=.int .i64 ((0:Nat):Int)) rfl) (Nb rfl) ?_
  refine KG ?_
  refine LCode.block ?_
  refine KAQ (α:=Nat) (fun x=>x≤D.nw A) (fun x=>⟨[(0,numV q A),(1,numV r B),(5,.slice (some ⟨b11,0,none⟩) (D.nw A) (D.nw A)),(6,.int .u64 ((D.borrow A B x:Nat):Int)),(7,.int .i64 ((x:Nat):Int))],[.blk b11 ⟨true,vec .u32 (D.nw A) (fun j=>if j<x then D.limb (A-B) j else 0),56,(0,0)⟩,numT q A,numT r B]⟩) (fun x=>D.nw A-x) (0) (Nat.zero_le _) (KAF ⟨rfl,rfl,rfl,by rw [D.borrow_zero]; rfl,rfl,trivial⟩ (by repeat (first|exact Sel.nil _|refine Sel.cons (by repeat (first|exact Ph _|apply Pt_)) ?_))) ?_
  intro x hx
  refine KD ?_
  refine KD (KB ?_)
  refine KA (KE rfl) (Nb rfl) ?_
  refine KA (KE rfl) (Nb rfl) ?_
  refine KA (Det.len Try.underlying29 rfl) (Nb rfl) ?_
  refine KA (KP rfl rfl (br_lss)) (Nb rfl) ?_
  refine KG ?_
  first|refine Kf rfl (fun h15=>?_) (fun h15=>?_)|refine Ki rfl (fun h15=>?_) (fun h15=>?_)
  ·
    refine Km ?_
    refine KD ?_
    refine LCode.block ?_
    refine KD ?_
    have hs:=D.sub_limb hBA x
    have hbr:=D.borrow_le A B x
    have hla:=D.limb_lt A x
    have hlb:=D.limb_lt B x
    refine KB ?_
    refine KA (KE rfl) (Nb rfl) ?_
    refine KA (KE rfl) (Nb rfl) ?_
    refine KK rfl (KX (KU (first:=[]) rfl en_118 rfl (Nb rfl) (fun w hw=>c_n_digit q A (D.nw A) x w (hw _ (by repeat (first|exact Mh _|apply Mt)))) ?_))
    refine KA (KP rfl rfl (br_add64 (b:=4294967296))) (Nb rfl) ?_
    refine KA (KE rfl) (Nb rfl) ?_
    refine KA (KE rfl) (Nb rfl) ?_
    refine KK rfl (KX (KU (first:=[]) rfl en_118 rfl (Nb rfl) (fun w hw=>c_n_digit r B (D.nw B) x w (hw _ (by repeat (first|exact Mh _|apply Mt)))) ?_))
    refine KA (KP rfl rfl (br_sub64 (by omega))) (Nb rfl) ?_
    refine KA (KE rfl) (Nb rfl) ?_
    refine KA (KP rfl rfl (br_sub64 (by omega))) (Nb rfl) ?_
    refine KA (KH rfl) (Nb rfl) ?_
    refine KG ?_
    refine KD (KB ?_)
    refine KA (KE rfl) (Nb rfl) ?_
    refine KA (KE rfl) (Nb rfl) ?_
    refine KA (KE rfl) (Nb rfl) ?_
    refine KA (KP rfl rfl (br_and64 (b:=4294967295) (by omega) (by decide))) (Nb rfl) ?_
    refine KA (Det.conv32 Try.underlying22 Try.underlying56 rfl) (Nb rfl) ?_
    refine KA (KAN Try.underlying29 sz_56 rfl rfl (by omega)) (Nb rfl) ?_
    refine KK rfl (KAC rfl rfl rfl sz_56 (by repeat (first|exact Sh _|apply St_)) (by first|(simp only [KJ,KF,KI,KAO]; omega)|(simp; omega)) (by first|exact vec_set _ _ _ _ _|exact dv_setm _ _ _ _ (by omega)|exact dv_sets _ _ _ _|rfl) (by simp) ?_)
    refine KG ?_
    refine KB ?_
    refine KA (KE rfl) (Nb rfl) ?_
    refine KA (KP rfl rfl (br_shr64 (b:=32) (by omega))) (Nb rfl) ?_
    refine KA (KP rfl rfl (br_sub64 (a:=1) (by omega))) (Nb rfl) ?_
    refine KA (KH rfl) (Nb rfl) ?_
    refine KG ?_
    refine KB ?_
    refine KA (KE rfl) (Nb rfl) ?_
    refine KA (KP rfl rfl (KAT (b:=1) (by omega))) (Nb rfl) ?_
    refine KA (KH rfl) (Nb rfl) ?_
    refine KG ?_
    refine ⟨x+1,by omega,by omega,Sub.re (Sub.cells (b:=b11) (cs':=vec .u32 (D.nw A) (fun j=>if j<x+1 then D.limb (A-B) j else 0)) (by repeat (first|exact Sh _|apply St_)) (KAS fun j hj=>?_)) (KAF ⟨rfl,rfl,rfl,congrArg (fun n:Nat=>some (Value.int .u64 (n:Int))) ?_,rfl,trivial⟩ (by repeat (first|exact Sel.nil _|refine Sel.cons (by repeat (first|exact Ph _|apply Pt_)) ?_)))⟩
    · by_cases e:j = x
      · rw [if_pos e,if_pos (by omega),e,and32]
        omega
      · rw [if_neg e]
        by_cases e3:j<x
        · rw [if_pos e3,if_pos (by omega)]
        · rw [if_neg e3,if_neg (by omega)]
    · omega
  ·
    refine KAI ?_
    refine KD ?_
    obtain rfl:x = D.nw A:=by omega
    refine LCode.sub (Sub.cells (b:=b11) (cs':=vec .u32 (D.nw A) (D.limb (A-B))) (by repeat (first|exact Sh _|apply St_)) (KAS fun j hj=>if_pos hj)) ?_
    refine KB ?_
    refine KA (KE rfl) (Nb rfl) ?_
    refine KK rfl (KX (KU (first:=[]) rfl en_120 rfl (Nb rfl) (fun w hw=>c_trim (A-B) b11 (D.nw A) (D.nw A) (D.nw A) _ true w (hw _ (by repeat (first|exact Mh _|apply Mt))) (Nat.le_refl _) (Nat.le_refl _) (by omega) (Nat.lt_of_le_of_lt (Nat.sub_le _ _) (D.lt_nw A))) ?_))
    refine KA (KH rfl) (Nb rfl) ?_
    refine KG (KY ?_)
    refine ⟨[_],.cons rfl .nil,fun a w' hr=>hr.num (by repeat (first|exact Mh _|apply Mt)) (Nat.lt_of_le_of_lt (Nat.sub_le _ _) (D.lt_nw A))⟩
end Go.Proofs.Ytljblbgogjieaaa
set_option linter.unusedVariables false
set_option linter.unusedSimpArgs false
set_option maxRecDepth 20000
namespace Go.Proofs.Ytljblbgogjieaaa
open Go Go.RowKit
theorem D.bit_of (A i:Nat):D.limb A (i/32)/2^(i%32)%2 = A/2^i%2:=by
  have h1:A/2^i = A/2^(32*(i/32))/2^(i%32):=by
    rw [Nat.div_div_eq_div_mul,← Nat.pow_add]; congr 2; omega
  rw [h1]
  unfold D.limb
  generalize A/2^(32*(i/32)) = q
  have hr:i%32<32:=Nat.mod_lt _ (by decide)
  generalize i%32 = r at *
  have e:(4294967296:Nat) = 2^r*(2^(31-r)*2):=by
    rw [← Nat.pow_succ,← Nat.pow_add,show r+(31-r).succ = 32 by omega]
  rw [e,Nat.mod_mul_right_div_self,Nat.mod_mul_left_mod]
theorem shift_dig {A k i:Nat}:D.limb (A/2^k) i = (D.limb A (i+k/32) ||| D.limb A (i+k/32+1)*4294967296%18446744073709551616)/2^(k%32)%4294967296:=by
  have h:=D.limb_shr A (k/32) (k%32) i (Nat.mod_lt _ (by decide))
  rw [show 32*(k/32)+k%32 = k by omega] at h
  rw [h,or_digits (D.limb_lt _ _) (D.limb_lt _ _)]
  have h1:=D.limb_lt A (i+k/32)
  have h2:=D.limb_lt A (i+k/32+1)
  have hr:k%32<32:=Nat.mod_lt _ (by decide)
  generalize D.limb A (i+k/32) = a at *
  generalize D.limb A (i+k/32+1) = b at *
  generalize k%32 = r at *
  have e:(4294967296:Nat) = 2^(32-r)*2^r:=by rw [← Nat.pow_add,show 32-r+r = 32 by omega]
  have hp:0<2^r:=Nat.pow_pos (by decide)
  have e2:(a+4294967296*b)/2^r = a/2^r+b*2^(32-r):=by
    rw [show a+4294967296*b = a+b*2^(32-r)*2^r by rw [e,Nat.mul_comm _ b,Nat.mul_assoc],Nat.add_mul_div_right _ _ hp]
  rw [e2]
  have h3:a/2^r<2^(32-r):=by rw [Nat.div_lt_iff_lt_mul hp,← e]; exact h1
  have h4:b*2^(32-r)%4294967296 = b%2^r*2^(32-r):=by
    rw [e,Nat.mul_comm (2^(32-r)),Nat.mul_mod_mul_right]
  have h5:b%2^r+1≤2^r:=Nat.mod_lt _ hp
  have h6:=Nat.mul_le_mul_right (2^(32-r)) h5
  rw [Nat.add_mul,Nat.mul_comm (2^r),← e,Nat.one_mul] at h6
  have h7:a/2^r+b*2^(32-r)%4294967296<4294967296:=by
    rw [h4]; exact Nat.lt_of_lt_of_le (Nat.add_lt_add_right h3 _) (by rw [Nat.add_comm]; exact h6)
  rw [Nat.add_mod (a/2^r),Nat.mod_eq_of_lt (show a/2^r<4294967296 by have:=Nat.div_le_self a (2^r); omega),Nat.mod_eq_of_lt h7]
theorem c_n_Shr (q:NV) (A n k:Nat) (w:World) (hq:(numI q A n).holds w) (hn:n≤1000000) (hk:k<4294967296):Calls Try.prog 145 ([slV q n,.int .i64 ((k:Nat):Int)]:List Value).toArray w (fun e w'=>NumR w ([]) (A/2^k) (fun v=>v) e w'):=by
  have hA:=numI_lt hq
  refine Kw (N:=51) (rs:=[.tmp 4]) [numI q A n] Try.func145 rfl Try.ntmps145 Try.results145 (Nb rfl) ⟨hq,trivial⟩ rfl ?_
  show LCode _ _ _ ⟨_,_⟩ _
  refine KD (KB ?_)
  refine KA (KH rfl) (Nb rfl) ?_
  refine KG ?_
  refine KD ?_
  refine KD (KB ?_)
  refine KA (KE rfl) (Nb rfl) ?_
  refine KA (KP rfl rfl (br_quo (b:=32) (by omega) (by omega))) (Nb rfl) ?_
  refine KA (KE rfl) (Nb rfl) ?_
  refine KA (Det.len Try.underlying29 rfl) (Nb rfl) ?_
  refine KA (KP rfl rfl (br_geq)) (Nb rfl) ?_
  refine KG ?_
  first|refine Kf rfl (fun h12=>?_) (fun h12=>?_)|refine Ki rfl (fun h12=>?_) (fun h12=>?_)
  ·
    have h12:n≤k/32:=by have:=h12; omega
    refine KD (KB ?_)
    refine KA (KH rfl) (Nb rfl) ?_
    refine KG (KY ?_)
    have hz:A/2^k = 0:=Nat.div_eq_of_lt (Nat.lt_of_lt_of_le hA (Nat.pow_le_pow_right (by decide) (by omega)))
    rw [hz]
    refine ⟨[_],.cons rfl .nil,fun a w' hr=>hr.numNil⟩
  ·
    have h12:¬ n≤k/32:=by have:=h12; omega
    refine Km ?_
    refine KD ?_
    have hAk:A/2^k<2^(32*(n-k/32)):=by
      rw [Nat.div_lt_iff_lt_mul (Nat.pow_pos (by decide)),← Nat.pow_add]
      exact Nat.lt_of_lt_of_le hA (Nat.pow_le_pow_right (by decide) (by omega))
    refine KB ?_
    refine KA (KE rfl) (Nb rfl) ?_
    refine KA (Det.len Try.underlying29 rfl) (Nb rfl) ?_
    refine KA (KE rfl) (Nb rfl) ?_
    refine KA (KP rfl rfl (br_quo (b:=32) (by omega) (by omega))) (Nb rfl) ?_
    refine KA (KP rfl rfl (br_sub (by omega) (by omega))) (Nb rfl) ?_
    refine KK rfl (KX (KQ (Makes.mkV Try.underlying29 inf_56 rfl rfl (by omega) (by omega)) (Nb rfl) (fun b18=>?_)))
    refine KA (KH rfl) (Nb rfl) ?_
    refine KG ?_
    refine KD ?_
    refine KD (KB ?_)
    refine KA (KH (v:=.int .i64 ((0:Nat):Int)) rfl) (Nb rfl) ?_
    refine KG ?_
    refine LCode.block ?_
    refine KAQ (α:=Nat) (fun x=>x≤n-k/32) (fun x=>⟨[(0,slV q n),(1,.int .i64 ((k:Nat):Int)),(5,.slice (some ⟨b18,0,none⟩) (n-k/32) (n-k/32)),(6,.int .i64 ((x:Nat):Int))],[.blk b18 ⟨true,vec .u32 (n-k/32) (fun j=>if j<x then D.limb (A/2^k) j else 0),56,(0,0)⟩,numI q A n]⟩) (fun x=>n-k/32-x) (0) (Nat.zero_le _) (KAF ⟨rfl,rfl,rfl,rfl,trivial⟩ (by repeat (first|exact Sel.nil _|refine Sel.cons (by repeat (first|exact Ph _|apply Pt_)) ?_))) ?_
    intro x hx
    refine KD ?_
    refine KD (KB ?_)
    refine KA (KE rfl) (Nb rfl) ?_
    refine KA (KE rfl) (Nb rfl) ?_
    refine KA (Det.len Try.underlying29 rfl) (Nb rfl) ?_
    refine KA (KP rfl rfl (br_lss)) (Nb rfl) ?_
    refine KG ?_
    first|refine Kf rfl (fun h22=>?_) (fun h22=>?_)|refine Ki rfl (fun h22=>?_) (fun h22=>?_)
    ·
      refine Km ?_
      refine KD ?_
      refine LCode.block ?_
      refine KD (KB ?_)
      refine KA (KE rfl) (Nb rfl) ?_
      refine KA (KE rfl) (Nb rfl) ?_
      refine KA (KE rfl) (Nb rfl) ?_
      refine KA (KP rfl rfl (br_quo (b:=32) (by omega) (by omega))) (Nb rfl) ?_
      refine KA (KP rfl rfl (KAT (by omega))) (Nb rfl) ?_
      refine KK rfl (KX (KU (first:=[]) rfl en_118 rfl (Nb rfl) (fun w hw=>c_n_digit q A n (x+k/32) w (hw _ (by repeat (first|exact Mh _|apply Mt)))) ?_))
      refine KA (KE rfl) (Nb rfl) ?_
      refine KA (KE rfl) (Nb rfl) ?_
      refine KA (KE rfl) (Nb rfl) ?_
      refine KA (KP rfl rfl (br_quo (b:=32) (by omega) (by omega))) (Nb rfl) ?_
      refine KA (KP rfl rfl (KAT (by omega))) (Nb rfl) ?_
      refine KA (KP rfl rfl (KAT (b:=1) (by omega))) (Nb rfl) ?_
      refine KK rfl (KX (KU (first:=[]) rfl en_118 rfl (Nb rfl) (fun w hw=>c_n_digit q A n (x+k/32+1) w (hw _ (by repeat (first|exact Mh _|apply Mt)))) ?_))
      refine KA (KP rfl rfl (br_shl64 (b:=32))) (Nb rfl) ?_
      refine KA (KP rfl rfl (br_or64 (Nat.lt_trans (D.limb_lt _ _) (by decide)) (Nat.mod_lt _ (by decide)))) (Nb rfl) ?_
      refine KA (KH rfl) (Nb rfl) ?_
      refine KG ?_
      refine KB ?_
      refine KA (KE rfl) (Nb rfl) ?_
      refine KA (KE rfl) (Nb rfl) ?_
      refine KA (KE rfl) (Nb rfl) ?_
      refine KA (KE rfl) (Nb rfl) ?_
      refine KA (KP rfl rfl (br_rem (b:=32) (by omega))) (Nb rfl) ?_
      refine KA (KP rfl rfl (br_shr64 (Nat.or_lt_two_pow (n:=64) (Nat.lt_trans (D.limb_lt _ _) (by decide)) (Nat.mod_lt _ (by decide))))) (Nb rfl) ?_
      refine KA (KP rfl rfl (br_and64 (b:=4294967295) (Nat.lt_of_le_of_lt (Nat.div_le_self _ _) (Nat.or_lt_two_pow (n:=64) (Nat.lt_trans (D.limb_lt _ _) (by decide)) (Nat.mod_lt _ (by decide)))) (by decide))) (Nb rfl) ?_
      refine KA (Det.conv32 Try.underlying22 Try.underlying56 rfl) (Nb rfl) ?_
      refine KA (KAN Try.underlying29 sz_56 rfl rfl (by omega)) (Nb rfl) ?_
      refine KK rfl (KAC rfl rfl rfl sz_56 (by repeat (first|exact Sh _|apply St_)) (by first|(simp only [KJ,KF,KI,KAO]; omega)|(simp; omega)) (by first|exact vec_set _ _ _ _ _|exact dv_setm _ _ _ _ (by omega)|exact dv_sets _ _ _ _|rfl) (by simp) ?_)
      refine KG ?_
      refine KB ?_
      refine KA (KE rfl) (Nb rfl) ?_
      refine KA (KP rfl rfl (KAT (b:=1) (by omega))) (Nb rfl) ?_
      refine KA (KH rfl) (Nb rfl) ?_
      refine KG ?_
      refine ⟨x+1,by omega,by omega,Sub.re (Sub.cells (b:=b18) (cs':=vec .u32 (n-k/32) (fun j=>if j<x+1 then D.limb (A/2^k) j else 0)) (by repeat (first|exact Sh _|apply St_)) (KAS fun j hj=>?_)) (KAF ⟨rfl,rfl,rfl,rfl,trivial⟩ (by repeat (first|exact Sel.nil _|refine Sel.cons (by repeat (first|exact Ph _|apply Pt_)) ?_)))⟩
      by_cases e:j = x
      · rw [if_pos e,if_pos (by omega),e,and32,Nat.mod_mod]
        exact shift_dig.symm
      · rw [if_neg e]
        by_cases e3:j<x
        · rw [if_pos e3,if_pos (by omega)]
        · rw [if_neg e3,if_neg (by omega)]
    ·
      refine KAI ?_
      refine KD ?_
      obtain rfl:x = n-k/32:=by omega
      refine LCode.sub (Sub.cells (b:=b18) (cs':=vec .u32 (n-k/32) (D.limb (A/2^k))) (by repeat (first|exact Sh _|apply St_)) (KAS fun j hj=>if_pos hj)) ?_
      refine KB ?_
      refine KA (KE rfl) (Nb rfl) ?_
      refine KK rfl (KX (KU (first:=[]) rfl en_120 rfl (Nb rfl) (fun w hw=>c_trim (A/2^k) b18 (n-k/32) (n-k/32) (n-k/32) _ true w (hw _ (by repeat (first|exact Mh _|apply Mt))) (Nat.le_refl _) (Nat.le_refl _) (by omega) hAk) ?_))
      refine KA (KH rfl) (Nb rfl) ?_
      refine KG (KY ?_)
      refine ⟨[_],.cons rfl .nil,fun a w' hr=>hr.num (by repeat (first|exact Mh _|apply Mt)) (hAk)⟩
end Go.Proofs.Ytljblbgogjieaaa
set_option linter.unusedVariables false
namespace Go.Proofs.Ytljblbgogjieaaa.D
open Go Go.RowKit
theorem mod_nw (A:Nat):A%2^(32*nw A) = A:=Nat.mod_eq_of_lt (lt_nw A)
theorem mod_zero_word (A B:Nat):A%2^(32*0)*B = 0:=by rw [Nat.mul_zero,Nat.pow_zero,Nat.mod_one,Nat.zero_mul]
theorem row_end {X c A B i : Nat} (h : X + c * 2 ^ (32 * (i + nw B)) = A % 2 ^ (32 * i) * B + limb A i * (B % 2 ^ (32 * nw B)) * 2 ^ (32 * i)) (hX : X < 2 ^ (32 * (i + nw B))) :
    setl X (i+nw B) c = A%2^(32*(i+1))*B:=by
  have h0:=limb_high hX (Nat.le_refl _)
  have h1:=setl_eq X (i+nw B) c
  rw [h0,Nat.zero_mul,Nat.add_zero] at h1
  rw [h1,h,mod_nw,mod_succ_limb,Nat.add_mul]
  congr 1
  rw [Nat.mul_assoc,Nat.mul_comm,Nat.mul_assoc,Nat.mul_assoc,Nat.mul_comm B]
  exact Nat.mul_assoc _ _ _
theorem row_zero (A B i:Nat):A%2^(32*i)*B+0*2^(32*(i+0)) = A%2^(32*i)*B+limb A i*(B%2^(32*0))*2^(32*i):=by
  rw [Nat.mul_zero,Nat.pow_zero,Nat.mod_one,Nat.mul_zero,Nat.zero_mul,Nat.zero_mul]
theorem row_lt (A B i:Nat):A%2^(32*i)*B<2^(32*(i+nw B)):=by
  rw [pow64_add]
  exact Nat.mul_lt_mul_of_lt_of_le (Nat.mod_lt _ (pow64_pos i)) (Nat.le_of_lt (lt_nw B)) (pow64_pos _)
theorem guess_facts {U m a : Nat} (hm : m ≠ 0) (hU : U < dnm m * 2 ^ (32 * (a + 1))) :
    limb U (a+nw m)*4294967296+limb U (a+nw m-1) = U/2^(32*a)/2^(32*(nw m-1))∧limb (dnm m) (nw m-1) = dnm m/2^(32*(nw m-1))∧2147483648≤limb (dnm m) (nw m-1) ∧
    U/2^(32*a)/dnm m≤U/2^(32*a)/2^(32*(nw m-1))/limb (dnm m) (nw m-1):=by
  have hn:=nw_pos hm
  have h1:=win_lt (dnm_lt m) hU
  rw [Nat.add_assoc] at h1
  have h2:=win_div h1
  obtain ⟨h3,h4⟩:=dnm_top hm
  refine ⟨?_,h3,h4,?_⟩
  · rw [show a+nw m-1 = a+(nw m-1) by omega,← limb_div,← limb_div]
    have:=two_words (R:=U/2^(32*a)) (j:=nw m-1) (by rw [show nw m-1+2 = nw m+1 by omega]; exact h2)
    rw [this,show nw m-1+1 = nw m by omega]
  · rw [h3]
    apply div_cut (pow64_pos _)
    rw [← h3]; omega
theorem guess_step {U m a q r : Nat} (hm : m ≠ 0) (hn : 2 ≤ nw m) (h1 : q * limb (dnm m) (nw m - 1) + r = U / 2 ^ (32 * a) / 2 ^ (32 * (nw m - 1)))
    (h2:r*4294967296+limb U (a+nw m-2)<q*limb (dnm m) (nw m-2)):U/2^(32*a)/dnm m<q:=by
  refine guess_more (k:=2^(32*(nw m-2))) (M:=4294967296) (pow64_pos _) (dnm_pos hm) (top:=limb (dnm m) (nw m-1)) (d2:=limb (dnm m) (nw m-2)) ?_ (R2:=U/2^(32*a)/2^(32*(nw m-1))) (u2:=limb U (a+nw m-2)) ?_ h1 h2
  · have:=two_words (R:=dnm m) (j:=nw m-2) (by rw [show nw m-2+2 = nw m by omega]; exact dnm_lt m)
    rw [this,show nw m-2+1 = nw m-1 by omega]
  · have:=next_word (U/2^(32*a)) (nw m-2)
    rw [this,limb_div,show nw m-2+1 = nw m-1 by omega,show a+(nw m-2) = a+nw m-2 by omega]
theorem two_le {a b r u:Nat} (hb:b<4294967296) (hu:u<4294967296) (h:r<a∨(a = r∧u<b)):r*4294967296+u<a*4294967296+b:=by omega
theorem guess_next {top r q d2 u R2:Nat} (h1:q*top+r = R2) (h0:0<q):(q-1)*top+(r+top) = R2:=by
  obtain ⟨p,rfl⟩:∃ p,q = p+1:=⟨q-1,by omega⟩
  rw [Nat.add_mul] at h1
  rw [Nat.add_sub_cancel]; omega
theorem take_pre {U q D a:Nat}:U+q*(D%2^(32*0))*2^(32*a) = U+(0+0)*2^(32*(a+0)):=by
  rw [Nat.mul_zero,Nat.pow_zero,Nat.mod_one,Nat.mul_zero,Nat.zero_mul,Nat.zero_mul]
theorem back_pre {U D a:Nat}:U+0*2^(32*(a+0)) = U+(D%2^(32*0))*2^(32*a):=by
  rw [Nat.mul_zero,Nat.pow_zero,Nat.mod_one,Nat.zero_mul,Nat.zero_mul]
theorem fill_zero (W s:Nat):W%2^(32*0)*2^s = 0:=by rw [Nat.mul_zero,Nat.pow_zero,Nat.mod_one,Nat.zero_mul]
theorem quo_store {K x y:Nat} (hx:x<4294967296) (j:Nat):(if j = y then x else limb (K*2^(32*(y+1))) j) = limb ((K*4294967296+x)*2^(32*y)) j:=by
  have h0:limb (K*2^(32*(y+1))) y = 0:=by
    unfold limb
    rw [pow64_succ,← Nat.mul_assoc,Nat.mul_div_cancel _ (pow64_pos y),Nat.mul_mod_left]
  have:=limb_addl (K*2^(32*(y+1))) x y j (by rw [h0]; omega)
  rw [h0,Nat.zero_add] at this
  rw [← this,Nat.add_mul,pow64_succ,Nat.mul_assoc]
theorem quo_sum {U U0 K x y D V:Nat} (h1:U+x*D*2^(32*y) = U0) (h2:U0+K*2^(32*(y+1))*D = V):U+(K*4294967296+x)*2^(32*y)*D = V:=by
  rw [← h2,← h1,pow64_succ]
  generalize 2^(32*y) = A
  grind
end Go.Proofs.Ytljblbgogjieaaa.D
set_option linter.unusedVariables false
namespace Go.Proofs.Ytljblbgogjieaaa.Grp
section
variable {p:Nat} [NeZero p]
abbrev F (p:Nat):=Fin p
theorem eq_of_sub {x y:Fin p} (h:x-y = 0):x = y:=by grind -lia
theorem sub_of_eq {x y:Fin p} (h:x = y):x-y = 0:=by grind -lia
theorem lin1 {x c1 e1:Fin p} (h:x = c1*e1) (h1:e1 = 0):x = 0:=by rw [h,h1]; grind -lia
theorem lin2 {x c1 e1 c2 e2:Fin p} (h:x = c1*e1+c2*e2) (h1:e1 = 0) (h2:e2 = 0):x = 0:=by rw [h,h1,h2]; grind -lia
theorem lin3 {x c1 e1 c2 e2 c3 e3:Fin p} (h:x = c1*e1+c2*e2+c3*e3) (h1:e1 = 0) (h2:e2 = 0) (h3:e3 = 0):x = 0:=by rw [h,h1,h2,h3]; grind -lia
theorem lin4 {x c1 e1 c2 e2 c3 e3 c4 e4:Fin p} (h:x = c1*e1+c2*e2+c3*e3+c4*e4) (h1:e1 = 0) (h2:e2 = 0) (h3:e3 = 0) (h4:e4 = 0):x = 0:=by rw [h,h1,h2,h3,h4]; grind -lia
def Dom (p:Nat) [NeZero p]:Prop:=∀ x y:Fin p,x*y = 0→x = 0∨y = 0
theorem Dom.cancel (hd:Dom p) {x y c:Fin p} (hc:c≠0) (h:(x-y)*c = 0):x = y:=by
  rcases hd _ _ h with h|h
  · exact eq_of_sub h
  · exact absurd h hc
structure Slope (a x1 y1 x2 y2 l:Fin p):Prop where
  chord:l*(x1-x2)-(y1-y2) = 0
  tang:l*(y1+y2)-(x1*x1+x1*x2+x2*x2+a) = 0
theorem Slope.symm {a x1 y1 x2 y2 l:Fin p} (h:Slope a x1 y1 x2 y2 l):Slope a x2 y2 x1 y1 l :=
  ⟨lin1 (c1:=-1) (by grind -lia) h.chord,lin1 (c1:=1) (by grind -lia) h.tang⟩
def Opp (x1 y1 x2 y2:Fin p):Prop:=x1-x2 = 0∧y1+y2 = 0
theorem Slope.unique (hd:Dom p) {a x1 y1 x2 y2 l m:Fin p} (hn:¬ Opp x1 y1 x2 y2) (hl:Slope a x1 y1 x2 y2 l) (hm:Slope a x1 y1 x2 y2 m):l = m:=by
  by_cases h:x1-x2 = 0
  · have h2:y1+y2≠0:=fun e=>hn ⟨h,e⟩
    exact hd.cancel h2 (lin2 (c1:=1) (c2:=-1) (by grind -lia) hl.tang hm.tang)
  · exact hd.cancel h (lin2 (c1:=1) (c2:=-1) (by grind -lia) hl.chord hm.chord)
theorem slope_next (hd : Dom p) {a x1 y1 x2 y2 x3 y3 l m s x4 y4 : Fin p} (hA : Slope a x1 y1 x2 y2 l) (hC : Slope a x3 y3 x2 y2 m) (h4 : x4 - (l * l - x1 - x2) = 0) (h5 : y4 - (l * (x1 - x4) - y1) = 0)
    (hs:Slope a x3 y3 x4 y4 s) (hlm:l-m≠0) (hn:¬ Opp x3 y3 x4 y4):(s+l)*(l-m) = x1-x3:=by
  obtain ⟨hA1,hA2⟩:=hA
  obtain ⟨hC1,hC2⟩:=hC
  obtain ⟨hs1,hs2⟩:=hs
  obtain rfl:y1 = y2+l*(x1-x2):=eq_of_sub (lin1 (c1:=-1) (by grind -lia) hA1)
  obtain rfl:y3 = y2+m*(x3-x2):=eq_of_sub (lin1 (c1:=-1) (by grind -lia) hC1)
  obtain rfl:x4 = l*l-x1-x2:=eq_of_sub h4
  obtain rfl:y4 = _:=eq_of_sub h5
  have hK1:(s*(l-m)-(l*m-l*l+x1-x3))*(x3-(l*l-x1-x2)) = 0 :=
    lin3 (c1:=l-m) (c2:=1) (c3:=-1) (by clear hA1 hA2 hC1 hC2 hs1 hs2 h4 h5 hlm hn; grind -lia) hs1 hA2 hC2
  have hK2:(s*(l-m)-(l*m-l*l+x1-x3))*(y2+m*(x3-x2)+(l*(x1-(l*l-x1-x2))-(y2+l*(x1-x2)))) = 0 :=
    lin3 (c1:=l-m) (c2:=m) (c3:=-l) (by clear hA1 hA2 hC1 hC2 hs1 hs2 h4 h5 hlm hn hK1; grind -lia) hs2 hA2 hC2
  have hK:s*(l-m) = l*m-l*l+x1-x3:=by
    by_cases h:x3-(l*l-x1-x2) = 0
    · exact hd.cancel (fun e=>hn ⟨h,e⟩) hK2
    · exact hd.cancel h hK1
  clear hA1 hA2 hC1 hC2 hs1 hs2 h4 h5 hlm hn hK1 hK2
  have:(s+l)*(l-m) = s*(l-m)+l*(l-m):=by clear hK; grind -lia
  rw [this,hK]; clear hK this; grind -lia
inductive Pt (p:Nat) where
  | inf
  | aff (x y:Fin p)
def Pt.neg:Pt p→Pt p
  | .inf=>.inf
  | .aff x y=>.aff x (-y)
inductive Add (a:Fin p):Pt p→Pt p→Pt p→Prop where
  | left (q:Pt p):Add a .inf q q
  | right (q:Pt p):Add a q .inf q
  | opp {x1 y1 x2 y2:Fin p}:Opp x1 y1 x2 y2→Add a (.aff x1 y1) (.aff x2 y2) .inf
  | line {x1 y1 x2 y2:Fin p} (l x y:Fin p):¬ Opp x1 y1 x2 y2→Slope a x1 y1 x2 y2 l→x-(l*l-x1-x2) = 0→y-(l*(x1-x)-y1) = 0→Add a (.aff x1 y1) (.aff x2 y2) (.aff x y)
theorem Opp.symm {x1 y1 x2 y2:Fin p} (h:Opp x1 y1 x2 y2):Opp x2 y2 x1 y1:=⟨lin1 (c1:=-1) (by grind -lia) h.1,lin1 (c1:=1) (by grind -lia) h.2⟩
theorem Add.symm {a:Fin p} {A B R:Pt p} (h:Add a A B R):Add a B A R:=by
  cases h with
  | left q=>exact .right _
  | right q=>exact .left _
  | opp h=>exact .opp h.symm
  | line l x y hn hs hx hy =>
    refine .line l x y (fun h=>hn h.symm) hs.symm ?_ ?_
    · exact lin1 (c1:=1) (by clear hs hx hy hn; grind -lia) hx
    · exact lin2 (c1:=1) (c2:=1) (by clear hs hx hy hn; grind -lia) hy hs.chord
theorem Add.unique (hd:Dom p) {a:Fin p} {A B R S:Pt p} (h:Add a A B R) (k:Add a A B S):R = S:=by
  cases h with
  | left q=>cases k <;> rfl
  | right q=>cases k <;> rfl
  | opp h=>cases k with
    | opp _=>rfl
    | line _ _ _ hn _ _ _=>exact absurd h hn
  | line l x y hn hs hx hy=>cases k with
    | opp h=>exact absurd h hn
    | line m x' y' hn' hs' hx' hy' =>
      obtain rfl:=hs.unique hd hn hs'
      obtain rfl:=eq_of_sub hx
      obtain rfl:=eq_of_sub hy
      obtain rfl:=eq_of_sub hx'
      obtain rfl:=eq_of_sub hy'
      rfl
def On (a b:Fin p):Pt p→Prop
  | .inf=>True
  | .aff x y=>y*y-(x*x*x+a*x+b) = 0
theorem Add.on {a b:Fin p} {A B R:Pt p} (h:Add a A B R) (hA:On a b A) (hB:On a b B):On a b R:=by
  cases h with
  | left q=>exact hB
  | right q=>exact hA
  | opp h=>trivial
  | @line x1 y1 x2 y2 l x y hn hs hx hy =>
    obtain ⟨h1,h2⟩:=hs
    simp only [On] at hA hB ⊢
    obtain rfl:=eq_of_sub hy
    have hx':l*l-x1-x2-x = 0:=lin1 (c1:=-1) (by clear h1 h2 hA hB hn hx; grind -lia) hx
    exact lin4 (c1:=1) (c2:=x-x1) (c3:=-((x-x1)*l)) (c4:=(x-x1)*(x-x2)) (by clear h1 h2 hA hB hn hx hx'; grind -lia) hA h2 h1 hx'
structure Fine (a b:Fin p):Prop where
  dom:Dom p
  two:∀ y:Fin p,y+y = 0→y = 0
  sing:∀ x:Fin p,On a b (.aff x 0)→x*x+x*x+x*x+a = 0→False
theorem Opp.eq {x1 y1 x2 y2:Fin p} (h:Opp x1 y1 x2 y2):(.aff x2 y2:Pt p) = .aff x1 (-y1):=by
  have e1:x2 = x1:=eq_of_sub (lin1 (c1:=-1) (by grind -lia) h.1)
  have e2:y2 = -y1:=eq_of_sub (lin1 (c1:=1) (by grind -lia) h.2)
  rw [e1,e2]
theorem opp_neg (x y:Fin p):Opp x (-y) x y:=⟨by grind -lia,by grind -lia⟩
theorem opp_neg' (x y:Fin p):Opp x y x (-y):=⟨by grind -lia,by grind -lia⟩
theorem Pt.neg_neg (A:Pt p):A.neg.neg = A:=by
  cases A with
  | inf=>rfl
  | aff x y=>simp only [Pt.neg]; congr 1; grind -lia
theorem Add.cancel {a b:Fin p} (hf:Fine a b) {B C E:Pt p} (hB:On a b B) (h:Add a B C E):Add a B.neg E C:=by
  cases h with
  | left q=>exact .left _
  | right q =>
    cases B with
    | inf=>exact .right _
    | aff x y=>exact .opp (opp_neg x y)
  | opp h=>rw [h.eq]; exact .right _
  | @line x2 y2 x3 y3 m x y hn hs hx hy =>
    obtain ⟨h1,h2⟩:=hs
    have ht:-m*(-y2+y)-(x2*x2+x2*x+x*x+a) = 0:=by
      clear hB hn
      obtain rfl:y3 = y2-m*(x2-x3):=eq_of_sub (lin1 (c1:=1) (by clear h1 h2 hx hy; grind -lia) h1)
      obtain rfl:=eq_of_sub hx
      obtain rfl:=eq_of_sub hy
      exact lin1 (c1:=1) (by clear h1 h2 hx hy; grind -lia) h2
    refine .line (-m) x3 y3 ?_ ⟨?_,ht⟩ ?_ ?_
    · rintro ⟨o1,o2⟩
      obtain rfl:=eq_of_sub o1
      have e1:y2+y2 = 0:=lin2 (c1:=-1) (c2:=1) (by clear h1 h2 hx hy hB hn ht o1 o2; grind -lia) o2 hy
      have e2:=hf.two _ e1
      subst e2
      have e3:y = 0:=by
        have:y-0 = 0:=lin1 (c1:=1) (by clear h1 h2 hx hy hB hn ht o1 o2 e1; grind -lia) o2
        exact eq_of_sub this
      subst e3
      exact hf.sing _ hB (lin1 (c1:=-1) (by clear h1 h2 hx hy hB hn ht o1 o2 e1; grind -lia) ht)
    · exact lin1 (c1:=1) (by clear h1 h2 hx hB hn ht hy; grind -lia) hy
    · exact lin1 (c1:=1) (by clear h1 h2 hx hB hn ht hy; grind -lia) hx
    · exact lin1 (c1:=1) (by clear h1 h2 hx hB hn ht hy; grind -lia) h1
theorem Add.neg {a:Fin p} {A B R:Pt p} (h:Add a A B R):Add a A.neg B.neg R.neg:=by
  cases h with
  | left q=>exact .left _
  | right q=>exact .right _
  | opp h=>exact .opp ⟨h.1,lin1 (c1:=-1) (by grind -lia) h.2⟩
  | @line x1 y1 x2 y2 l x y hn hs hx hy =>
    refine .line (-l) x (-y) (fun h=>hn ⟨h.1,lin1 (c1:=-1) (by grind -lia) h.2⟩) ⟨lin1 (c1:=-1) (by clear hn hx hy; grind -lia) hs.1,lin1 (c1:=1) (by clear hn hx hy; grind -lia) hs.2⟩ ?_ ?_
    · exact lin1 (c1:=1) (by clear hn hx hy hs; grind -lia) hx
    · exact lin1 (c1:=-1) (by clear hn hx hy hs; grind -lia) hy
theorem neg_on {a b:Fin p} {A:Pt p} (h:On a b A):On a b A.neg:=by
  cases A with
  | inf=>trivial
  | aff x y =>
    simp only [On,Pt.neg] at h ⊢
    exact lin1 (c1:=1) (by clear h; grind -lia) h
theorem add_neg (a:Fin p) (A:Pt p):Add a A A.neg .inf:=by
  cases A with
  | inf=>exact .left _
  | aff x y=>exact .opp (opp_neg' x y)
theorem Add.assoc {a b:Fin p} (hf:Fine a b) {A B C D E R S:Pt p} (hA:On a b A) (hB:On a b B) (hC:On a b C) (h1:Add a A B D) (h2:Add a D C R) (h3:Add a B C E) (h4:Add a A E S):R = S:=by
  have hd:=hf.dom
  have hnA:∀ {A' B' D':Pt p},Add a A' B' D'→On a b A'→On a b B'→Add a B' D'.neg A'.neg:=by
    intro A' B' D' h hA hB
    have:=(Add.cancel hf hB h.symm).neg
    rwa [Pt.neg_neg] at this
  cases h1 with
  | left q =>
    have:=h2.unique hd h3
    subst this
    cases h4 <;> rfl
  | right q =>
    cases h3 <;> exact h2.unique hd h4
  | @opp x1 y1 x2 y2 h =>
    have e:R = C:=by cases h2 <;> rfl
    subst e
    have e2:=Add.cancel hf hB h3
    have e3:(Pt.aff x2 y2).neg = .aff x1 y1:=by
      have:=h.symm.eq
      simp only [Pt.neg]; exact this.symm
    rw [e3] at e2
    exact e2.unique hd h4
  | @line x1 y1 x2 y2 l x4 y4 hn hs hx hy =>
    have hAB:Add a (.aff x1 y1) (.aff x2 y2) (.aff x4 y4):=.line l x4 y4 hn hs hx hy
    cases h3 with
    | right q =>
      have e:R = .aff x4 y4:=by cases h2; rfl
      subst e
      exact hAB.unique hd h4
    | @opp _ _ x3 y3 h =>
      have e:S = .aff x1 y1:=by cases h4; rfl
      subst e
      have e2:=Add.cancel hf hB hAB.symm
      rw [show (Pt.aff x2 y2).neg = .aff x3 y3 from h.eq.symm] at e2
      exact h2.unique hd e2.symm
    | @line _ _ x3 y3 m x6 y6 hn' hs' hx' hy' =>
      have hBC:Add a (.aff x2 y2) (.aff x3 y3) (.aff x6 y6):=.line m x6 y6 hn' hs' hx' hy'
      cases h2 with
      | opp h =>
        have e:=hnA hAB hA hB
        rw [show (Pt.aff x4 y4).neg = .aff x3 y3 from h.eq.symm] at e
        have e2:=e.unique hd hBC
        rw [← e2] at h4
        exact (add_neg a _).unique hd h4
      | @line _ _ _ _ s xr yr ns ss hxr hyr =>
        cases h4 with
        | opp h =>
          have e:=Add.cancel hf hB hBC
          have e1:=e.neg
          rw [Pt.neg_neg,show (Pt.aff x6 y6).neg = Pt.aff x1 y1 from h.symm.eq.symm] at e1
          have e2:=hAB.unique hd e1.symm
          exact absurd (show Opp x4 y4 x3 y3 by injection e2 with e3 e4; rw [e3,e4]; exact opp_neg _ _) ns
        | @line _ _ _ _ t xs ys nt st hxs hys =>
          by_cases hlm:l-m = 0
          · obtain rfl:=eq_of_sub hlm
            clear hlm
            have hz:(x1-x3)*(x1+x3+x2-l*l) = 0:=by
              obtain rfl:y1 = y2+l*(x1-x2):=eq_of_sub (lin1 (c1:=-1) (by clear hA hB hC hAB hBC hn hs hx hy hn' hs' hx' hy' ns ss hxr hyr nt st hxs hys; grind -lia) hs.1)
              obtain rfl:y3 = y2-l*(x2-x3):=eq_of_sub (lin1 (c1:=1) (by clear hA hB hC hAB hBC hn hs hx hy hn' hs' hx' hy' ns ss hxr hyr nt st hxs hys; grind -lia) hs'.1)
              exact lin2 (c1:=-1) (c2:=1) (by clear hA hB hC hAB hBC hn hs hx hy hn' hs' hx' hy' ns ss hxr hyr nt st hxs hys; grind -lia) hs.2 hs'.2
            rcases hd _ _ hz with h|h
            · have hac : (Pt.aff x3 y3) = .aff x1 y1 := by
                obtain rfl:=eq_of_sub h
                have:y3-y1 = 0:=lin2 (c1:=1) (c2:=1) (by clear hA hB hC hAB hBC hn hs hx hy hn' hs' hx' hy' ns ss hxr hyr nt st hxs hys hz h; grind -lia) hs.1 hs'.1
                rw [eq_of_sub this]
              have h2':Add a (.aff x4 y4) (.aff x3 y3) (.aff xr yr):=.line s xr yr ns ss hxr hyr
              have h4':Add a (.aff x1 y1) (.aff x6 y6) (.aff xs ys):=.line t xs ys nt st hxs hys
              rw [hac] at hBC h2'
              have e:=hAB.symm.unique hd hBC
              rw [e] at h2'
              exact h2'.symm.unique hd h4'
            · have h':x4-x3 = 0:=lin2 (c1:=1) (c2:=-1) (by clear hA hB hC hAB hBC hn hs hx hy hn' hs' hx' hy' ns ss hxr hyr nt st hxs hys hz h; grind -lia) hx h
              exact absurd (show Opp x4 y4 x3 y3 from ⟨h',lin4 (c1:=1) (c2:=1) (c3:=1) (c4:=-l) (by clear hA hB hC hAB hBC hn hs hx hy hn' hs' hx' hy' ns ss hxr hyr nt st hxs hys hz h; clear h'; grind -lia) hy hs.1 hs'.1 h'⟩) ns
          · have e1:=slope_next hd hs hs'.symm hx hy ss.symm hlm (fun h=>ns h.symm)
            have hs3:Slope a x3 y3 x2 y2 m:=hs'.symm
            have hx3:x6-(m*m-x3-x2) = 0:=lin1 (c1:=1) (by clear hA hB hC hAB hBC hn hs hx hy hn' hs' hx' hy' ns ss hxr hyr nt st hxs hys hlm; grind -lia) hx'
            have hy3:y6-(m*(x3-x6)-y3) = 0:=lin2 (c1:=1) (c2:=1) (by clear hA hB hC hAB hBC hn hs hx hy hn' hs' hx' hy' ns ss hxr hyr nt st hxs hys hlm; clear hx3; grind -lia) hy' hs'.1
            have hml:m-l≠0:=fun e=>hlm (lin1 (c1:=-1) (by clear hA hB hC hAB hBC hn hs hx hy hn' hs' hx' hy' ns ss hxr hyr nt st hxs hys hlm; clear hx3 hy3 e; grind -lia) e)
            have e2:=slope_next hd hs3 hs hx3 hy3 st hml nt
            have e3:s = t+m-l:=by
              refine hd.cancel hlm (lin2 (c1:=1) (c2:=1) (by clear hA hB hC hAB hBC hn hs hx hy hn' hs' hx' hy' ns ss hxr hyr nt st hxs hys hlm; clear hx3 hy3 hml e1 e2; grind -lia) (sub_of_eq e1) (sub_of_eq e2))
            have e4:=sub_of_eq e2
            clear e1 e2 hx3 hy3 hml hs3
            subst e3
            have z0:=lin2 (c1:=1) (c2:=2) rfl hx' e4
            have hxx:xr = xs:=eq_of_sub (lin4 (c1:=1) (c2:=-1) (c3:=-1) (c4:=1) (by clear hA hB hC hAB hBC hn hs hx hy hn' hs' hx' hy' ns ss hxr hyr nt st hxs hys hlm e4; clear z0; grind -lia) hxr hxs hx z0)
            clear z0
            subst hxx
            have z1:=lin4 (c1:=1) (c2:=-1) (c3:=1) (c4:=-1) rfl hyr hys ss.1 hs.1
            have z2:=lin4 (c1:=-1) (c2:=m-l) (c3:=-(m-l)) (c4:=-(t-m)) rfl hs'.1 hx' hxs e4
            have hyy:yr = ys:=eq_of_sub (lin2 (c1:=1) (c2:=1) (by clear hA hB hC hAB hBC hn hs hx hy hn' hs' hx' hy' ns ss hxr hyr nt st hxs hys hlm e4; clear z1 z2; grind -lia) z1 z2)
            rw [hyy]
end
end Go.Proofs.Ytljblbgogjieaaa.Grp
set_option linter.unusedVariables false
namespace Go.Proofs.Ytljblbgogjieaaa.Grp
section
variable {p:Nat} [NeZero p]
def sum3 (A T X1 Y1 Z1 X2 Y2 Z2:Fin p):Fin p×Fin p×Fin p :=
  let t0:=X1*X2
  let t1:=Y1*Y2
  let t2:=Z1*Z2
  let t3:=(X1+Y1)*(X2+Y2)-(t0+t1)
  let t4:=(X1+Z1)*(X2+Z2)-(t0+t2)
  let t5:=(Y1+Z1)*(Y2+Z2)-(t1+t2)
  let z:=T*t2+A*t4
  let x:=t1-z
  let z:=t1+z
  let y:=x*z
  let t1:=t0+t0+t0
  let t2:=A*t2
  let t4:=T*t4
  let t1:=t1+t2
  let t2:=A*(t0-t2)
  let t4:=t4+t2
  let y:=y+t1*t4
  let x:=t3*x-t5*t4
  let z:=t5*z+t3*t1
  (x,y,z)
inductive Rep:Fin p→Fin p→Fin p→Pt p→Prop where
  | inf {Y:Fin p}:Y≠0→Rep 0 Y 0 .inf
  | aff {Z:Fin p} (x y:Fin p):Z≠0→Rep (x*Z) (y*Z) Z (.aff x y)
theorem sum3_scale (A T x1 y1 Z1 x2 y2 Z2 : Fin p) : sum3 A T (x1 * Z1) (y1 * Z1) Z1 (x2 * Z2) (y2 * Z2) Z2 =
    ((sum3 A T x1 y1 1 x2 y2 1).1*(Z1*Z1*(Z2*Z2)),(sum3 A T x1 y1 1 x2 y2 1).2.1*(Z1*Z1*(Z2*Z2)),(sum3 A T x1 y1 1 x2 y2 1).2.2*(Z1*Z1*(Z2*Z2))):=by
  simp only [sum3]
  refine Prod.ext ?_ (Prod.ext ?_ ?_)
  · dsimp only; grind -lia
  · dsimp only; grind -lia
  · dsimp only; grind -lia
theorem sum3_line {x1 x2 y2 l A B : Fin p} (hA : A = l * (y2 + l * (x1 - x2) + y2) - (x1 * x1 + x1 * x2 + x2 * x2)) (hB : B = (y2 + l * (x1 - x2)) * (y2 + l * (x1 - x2)) - x1 * x1 * x1 - A * x1) :
    (sum3 A (B+B+B) x1 (y2+l*(x1-x2)) 1 x2 y2 1).1 = (l*l-x1-x2)*(sum3 A (B+B+B) x1 (y2+l*(x1-x2)) 1 x2 y2 1).2.2 ∧
    (sum3 A (B+B+B) x1 (y2+l*(x1-x2)) 1 x2 y2 1).2.1 = (l*(x1-(l*l-x1-x2))-(y2+l*(x1-x2)))*(sum3 A (B+B+B) x1 (y2+l*(x1-x2)) 1 x2 y2 1).2.2 ∧
    (sum3 A (B+B+B) x1 (y2+l*(x1-x2)) 1 x2 y2 1).2.2 = -((y2+l*(x1-x2)+y2)*(x1*(x1-x2)*(x1-x2)-((y2+l*(x1-x2)+y2)*(y2+l*(x1-x2)+y2)-(x1+x2)*((x1-x2)*(x1-x2))))-(y2+l*(x1-x2))*((x1-x2)*(x1-x2)*(x1-x2))):=by
  subst hB hA
  simp only [sum3]
  refine ⟨?_,?_,?_⟩ <;> grind -lia
theorem sum3_opp {x y A B : Fin p} (hB : B = y * y - x * x * x - A * x) : sum3 A (B + B + B) x y 1 x (-y) 1 =
    (0,-(8*(y*y*(y*y))-12*x*(y*y)*(3*(x*x)+A)+(3*(x*x)+A)*(3*(x*x)+A)*(3*(x*x)+A)),0):=by
  subst hB
  simp only [sum3]
  refine Prod.ext ?_ (Prod.ext ?_ ?_)
  · dsimp only; grind -lia
  · dsimp only; grind -lia
  · dsimp only; grind -lia
theorem sum3_left (A T Y1 x2 y2 Z2:Fin p):sum3 A T 0 Y1 0 (x2*Z2) (y2*Z2) Z2 = (x2*(Y1*Y1*(y2*Z2)*Z2),y2*(Y1*Y1*(y2*Z2)*Z2),Y1*Y1*(y2*Z2)*Z2):=by
  simp only [sum3]
  refine Prod.ext ?_ (Prod.ext ?_ ?_)
  · dsimp only; grind -lia
  · dsimp only; grind -lia
  · dsimp only; grind -lia
theorem sum3_right (A T Y1 x2 y2 Z2:Fin p):sum3 A T (x2*Z2) (y2*Z2) Z2 0 Y1 0 = (x2*(Y1*Y1*(y2*Z2)*Z2),y2*(Y1*Y1*(y2*Z2)*Z2),Y1*Y1*(y2*Z2)*Z2):=by
  simp only [sum3]
  refine Prod.ext ?_ (Prod.ext ?_ ?_)
  · dsimp only; grind -lia
  · dsimp only; grind -lia
  · dsimp only; grind -lia
theorem sum3_none (A T Y1 Y2:Fin p):sum3 A T 0 Y1 0 0 Y2 0 = (0,Y1*Y2*(Y1*Y2),0):=by
  simp only [sum3]
  refine Prod.ext ?_ (Prod.ext ?_ ?_)
  · dsimp only; grind -lia
  · dsimp only; grind -lia
  · dsimp only; grind -lia
theorem Dom.mul (hd:Dom p) {x y:Fin p} (hx:x≠0) (hy:y≠0):x*y≠0:=fun h=>(hd _ _ h).elim hx hy
theorem neg_ne {x : Fin p} (h : x ≠ 0) : -x ≠ 0 := fun e => h (by have : x = -(-x) := by grind -lia
                                                                  rw [this,e]; grind -lia)
structure Good (a b:Fin p):Prop where
  dom:Dom p
  inv:∀ x:Fin p,x≠0→∃ y,x*y = 1
  two:∀ y:Fin p,y+y = 0→y = 0
  root:∀ x:Fin p,¬ On a b (.aff x 0)
theorem Good.fine {a b:Fin p} (h:Good a b):Fine a b:=⟨h.dom,h.two,fun x hx _=>h.root x hx⟩
theorem Good.y_ne {a b x y:Fin p} (h:Good a b) (hP:On a b (.aff x y)):y≠0:=fun e=>h.root x (e ▸ hP)
theorem Good.quot {a b:Fin p} (h:Good a b) {x:Fin p} (hx:x≠0) (y:Fin p):∃ l,l*x = y:=by
  obtain ⟨i,hi⟩:=h.inv x hx
  refine ⟨y*i,?_⟩
  have e:y*i*x = y*(x*i):=by clear hi; grind -lia
  rw [e,hi]; clear hi e; grind -lia
theorem Good.sum {a b:Fin p} (h:Good a b) {A B:Pt p} (hA:On a b A) (hB:On a b B):∃ R,Add a A B R:=by
  cases A with
  | inf=>exact ⟨_,.left _⟩
  | aff x1 y1=>cases B with
    | inf=>exact ⟨_,.right _⟩
    | aff x2 y2 =>
      by_cases ho:Opp x1 y1 x2 y2
      · exact ⟨_,.opp ho⟩
      · have key : ∃ l, Slope a x1 y1 x2 y2 l := by
          simp only [On] at hA hB
          by_cases hx:x1-x2 = 0
          · have hs:y1+y2≠0:=fun e=>ho ⟨hx,e⟩
            obtain ⟨l,hl⟩:=h.quot hs (x1*x1+x1*x2+x2*x2+a)
            refine ⟨l,?_,sub_of_eq hl⟩
            obtain rfl:=eq_of_sub hx
            have e:(y1-y2)*(y1+y2) = 0:=lin2 (c1:=1) (c2:=-1) (by clear hl hs hx ho hA hB; grind -lia) hA hB
            have e2:y1-y2 = 0:=(h.dom _ _ e).elim id (fun e=>absurd e hs)
            exact lin1 (c1:=-1) (by clear hl hs hx ho hA hB e e2; grind -lia) e2
          · obtain ⟨l,hl⟩:=h.quot hx (y1-y2)
            refine ⟨l,sub_of_eq hl,?_⟩
            have e:(l*(y1+y2)-(x1*x1+x1*x2+x2*x2+a))*(x1-x2) = 0:=lin3 (c1:=y1+y2) (c2:=1) (c3:=-1) (by clear hl hx ho hA hB; grind -lia) (sub_of_eq hl) hA hB
            exact (h.dom _ _ e).elim id (fun e=>absurd e hx)
        obtain ⟨l,hl⟩:=key
        exact ⟨_,.line l (l*l-x1-x2) (l*(x1-(l*l-x1-x2))-y1) ho hl (by clear hl ho hA hB; grind -lia) (by clear hl ho hA hB; grind -lia)⟩
theorem rep_scale {X Y Z k:Fin p} {P:Pt p} (hd:Dom p) (h:Rep X Y Z P) (hk:k≠0):Rep (X*k) (Y*k) (Z*k) P:=by
  cases h with
  | inf h =>
    have e:(0:Fin p)*k = 0:=by clear h hk; grind -lia
    rw [e]
    exact .inf (hd.mul h hk)
  | aff x y h =>
    have e1:x*Z*k = x*(Z*k):=by clear h hk; grind -lia
    have e2:y*Z*k = y*(Z*k):=by clear h hk; grind -lia
    rw [e1,e2]
    exact .aff x y (hd.mul h hk)
theorem Rep.sum {a b X1 Y1 Z1 X2 Y2 Z2 : Fin p} (h : Good a b) {P Q R : Pt p} (hP : Rep X1 Y1 Z1 P) (hQ : Rep X2 Y2 Z2 Q) (oP : On a b P) (oQ : On a b Q) (hR : Add a P Q R) :
    Rep (sum3 a (b+b+b) X1 Y1 Z1 X2 Y2 Z2).1 (sum3 a (b+b+b) X1 Y1 Z1 X2 Y2 Z2).2.1 (sum3 a (b+b+b) X1 Y1 Z1 X2 Y2 Z2).2.2 R:=by
  have hd:=h.dom
  cases hP with
  | inf h1=>cases hQ with
    | inf h2 =>
      have e:R = .inf:=by cases hR <;> rfl
      subst e
      rw [sum3_none]
      exact .inf (hd.mul (hd.mul h1 h2) (hd.mul h1 h2))
    | aff x2 y2 h2 =>
      have e:R = .aff x2 y2:=by cases hR; rfl
      subst e
      rw [sum3_left]
      exact .aff x2 y2 (hd.mul (hd.mul (hd.mul h1 h1) (hd.mul (h.y_ne oQ) h2)) h2)
  | aff x1 y1 h1=>cases hQ with
    | inf h2 =>
      have e:R = .aff x1 y1:=by cases hR; rfl
      subst e
      rw [sum3_right]
      exact .aff x1 y1 (hd.mul (hd.mul (hd.mul h2 h2) (hd.mul (h.y_ne oP) h1)) h1)
    | aff x2 y2 h2 =>
      rw [sum3_scale]
      refine rep_scale hd ?_ (hd.mul (hd.mul h1 h1) (hd.mul h2 h2))
      have hb:=oP
      simp only [On] at hb
      cases hR with
      | opp ho =>
        have e:=ho.eq
        injection e with e1 e2
        subst e1 e2
        have hB:b = y1*y1-x2*x2*x2-a*x2:=eq_of_sub (lin1 (c1:=-1) (by clear hb ho oP oQ h1 h2; grind -lia) hb)
        rw [sum3_opp hB]
        refine .inf (neg_ne ?_)
        intro hV
        have hy:=h.y_ne oP
        have hyy:y1+y1≠0:=fun e=>hy (h.two _ e)
        obtain ⟨l,hl⟩:=h.quot hyy (3*(x2*x2)+a)
        have hs:Slope a x2 y1 x2 y1 l:=⟨by clear hl hV hB hb; grind -lia,lin1 (c1:=1) (by clear hl hV hB hb; grind -lia) (sub_of_eq hl)⟩
        have hA:Add a (.aff x2 y1) (.aff x2 y1) (.aff (l*l-x2-x2) (l*(x2-(l*l-x2-x2))-y1)):=.line l _ _ (fun e=>hyy e.2) hs (by clear hl hV hB hb; grind -lia) (by clear hl hV hB hb; grind -lia)
        have hO:=hA.on oP oP
        have hy4:=h.y_ne hO
        apply hd.mul hy4 (hd.mul hyy (hd.mul hyy hyy))
        have hl':=hl.symm
        rw [hl'] at hV
        refine lin1 (c1:=-1) ?_ hV
        clear hV hl' hl hB hb hs hA hO hy4 hyy hy oP oQ ho
        grind -lia
      | line l x y hn hs hx hy =>
        obtain rfl:=eq_of_sub hx
        obtain rfl:=eq_of_sub hy
        have hs1:=hs.chord
        have hs2:=hs.tang
        obtain rfl:y1 = y2+l*(x1-x2):=eq_of_sub (lin1 (c1:=-1) (by clear hs1 hs2 hb hx hy oP oQ; grind -lia) hs1)
        have hA:a = l*(y2+l*(x1-x2)+y2)-(x1*x1+x1*x2+x2*x2):=eq_of_sub (lin1 (c1:=-1) (by clear hs1 hs2 hb hx hy oP oQ; grind -lia) hs2)
        have hB:b = (y2+l*(x1-x2))*(y2+l*(x1-x2))-x1*x1*x1-a*x1:=eq_of_sub (lin1 (c1:=-1) (by clear hs1 hs2 hb hx hy oP oQ hA; grind -lia) hb)
        obtain ⟨e1,e2,e3⟩:=sum3_line hA hB
        rw [e1,e2]
        refine .aff _ _ ?_
        rw [e3]
        refine neg_ne ?_
        clear e1 e2 e3
        by_cases hxx:x1-x2 = 0
        · have hss:y2+l*(x1-x2)+y2≠0:=fun e=>hn ⟨hxx,e⟩
          intro hV
          obtain rfl:=eq_of_sub hxx
          apply hd.mul hss (hd.mul hss hss)
          refine lin1 (c1:=-1) ?_ hV
          clear hV hss hA hB hb hs hs1 hs2 hx hy oP oQ hxx hn
          grind -lia
        · obtain ⟨n,hn'⟩:=h.quot hxx (y2+l*(x1-x2)+y2)
          have oQ':On a b (.aff x2 (-y2)):=neg_on oQ
          have hs':Slope a x1 (y2+l*(x1-x2)) x2 (-y2) n:=by
            have c1:n*(x1-x2)-(y2+l*(x1-x2) - -y2) = 0:=lin1 (c1:=1) (by clear hn' hA hB hb hs hs1 hs2 hx hy oP oQ oQ' hxx hn; grind -lia) (sub_of_eq hn')
            refine ⟨c1,?_⟩
            have e:(n*(y2+l*(x1-x2)+-y2)-(x1*x1+x1*x2+x2*x2+a))*(x1-x2) = 0:=lin2 (c1:=l*(x1-x2)) (c2:=x1-x2) (by clear hn' hA hB hb hs hs1 hs2 hx hy oP oQ oQ' hxx hn; grind -lia) (sub_of_eq hn') hs2
            exact (hd _ _ e).elim id (fun e=>absurd e hxx)
          have hA':Add a (.aff x1 (y2+l*(x1-x2))) (.aff x2 (-y2)) (.aff (n*n-x1-x2) (n*(x1-(n*n-x1-x2))-(y2+l*(x1-x2)))):=.line n _ _ (fun e=>hxx e.1) hs' (by clear hn' hA hB hb hs hs1 hs2 hx hy oP oQ oQ' hxx hn hs'; grind -lia) (by clear hn' hA hB hb hs hs1 hs2 hx hy oP oQ oQ' hxx hn hs'; grind -lia)
          have hO:=hA'.on oP oQ'
          have hy4:=h.y_ne hO
          intro hV
          apply hd.mul hy4 (hd.mul hxx (hd.mul hxx hxx))
          rw [← hn'] at hV
          refine lin1 (c1:=1) ?_ hV
          clear hV hA hB hb hs hs1 hs2 hx hy oP oQ oQ' hxx hn hs' hA' hO hy4 hn'
          grind -lia
end
end Go.Proofs.Ytljblbgogjieaaa.Grp
set_option linter.unusedVariables false
set_option linter.unusedSectionVars false
namespace Go.Proofs.Ytljblbgogjieaaa.Grp
section
def Pr (p:Nat):Prop:=2≤p∧∀ d,d ∣ p→d = 1∨d = p
theorem bez (a m:Nat):∃ s t:Int,(a:Int)*s+(m:Int)*t = ((Nat.gcd a m:Nat):Int):=by
  induction a,m using Nat.gcd.induction with
  | H0 n=>exact ⟨0,1,by simp⟩
  | H1 m n hm ih =>
    obtain ⟨s,t,h⟩:=ih
    refine ⟨t-((n/m:Nat):Int)*s,s,?_⟩
    rw [Nat.gcd_rec m n,← h]
    have e:((n:Nat):Int) = (m:Int)*((n/m:Nat):Int)+((n%m:Nat):Int):=by
      rw [← Int.natCast_mul,← Int.natCast_add,Nat.div_add_mod]
    generalize ((n/m:Nat):Int) = q at *
    generalize ((n%m:Nat):Int) = r at *
    rw [e]
    grind
theorem inv_mod {a m:Nat} (h:Nat.gcd a m = 1) (hm:1<m):∃ s,s<m∧a*s%m = 1:=by
  obtain ⟨s,t,e⟩:=bez a m
  rw [h] at e
  have hm':(m:Int)≠0:=by omega
  refine ⟨(s%(m:Int)).toNat,?_,?_⟩
  · have:=Int.emod_lt_of_pos s (show (0:Int)<m by omega)
    have:=Int.emod_nonneg s hm'
    omega
  · have h0:=Int.emod_nonneg s hm'
    have h1:((a*(s%(m:Int)).toNat%m:Nat):Int) = 1:=by
      rw [Int.natCast_emod,Int.natCast_mul,Int.toNat_of_nonneg h0,Int.mul_emod,Int.emod_emod,← Int.mul_emod]
      have e2:(a:Int)*s = 1+(m:Int)*(-t):=by
        rw [Int.mul_neg]; simp at e; omega
      rw [e2,Int.add_mul_emod_self_left]
      exact Int.emod_eq_of_lt (by decide) (by omega)
    omega
theorem Pr.cop {p x:Nat} (h:Pr p) (hx:¬ p ∣ x):Nat.gcd x p = 1:=by
  rcases h.2 _ (Nat.gcd_dvd_right x p) with e|e
  · exact e
  · exact absurd (e ▸ Nat.gcd_dvd_left x p) hx
theorem Pr.mul {p x y:Nat} (h:Pr p) (hd:p ∣ x*y):p ∣ x∨p ∣ y:=by
  by_cases hx:p ∣ x
  · exact .inl hx
  · refine .inr (Nat.Coprime.dvd_of_dvd_mul_left ?_ hd)
    rw [Nat.coprime_comm]
    exact h.cop hx
variable {p:Nat} [NeZero p]
structure Fld (p:Nat) [NeZero p]:Prop where
  dom:Dom p
  inv:∀ x:Fin p,x≠0→∃ y,x*y = 1
  two:∀ y:Fin p,y+y = 0→y = 0
theorem Pr.fld (h:Pr p) (h2:p≠2):Fld p:=by
  have hp:=h.1
  have zero_of:∀ x:Fin p,p ∣ x.val→x = 0:=fun x hx=>by
    apply Fin.ext
    rw [Fin.val_zero]
    exact Nat.eq_zero_of_dvd_of_lt hx x.isLt
  refine ⟨fun x y e=>?_,fun x hx=>?_,fun y e=>?_⟩
  · have e1:x.val*y.val%p = 0:=by rw [← Fin.val_mul,e,Fin.val_zero]
    exact (h.mul (Nat.dvd_of_mod_eq_zero e1)).imp (zero_of x) (zero_of y)
  · obtain ⟨s,hs,e⟩:=inv_mod (a:=x.val) (h.cop (fun hd=>hx (zero_of x hd))) (show 1<p by omega)
    refine ⟨⟨s,hs⟩,Fin.ext ?_⟩
    rw [Fin.val_mul]
    show x.val*s%p = _
    rw [e]
    have:(1:Fin p).val = 1%p:=rfl
    rw [this,Nat.mod_eq_of_lt (by omega)]
  · have e1:(y.val+y.val)%p = 0:=by rw [← Fin.val_add,e,Fin.val_zero]
    have e2:p ∣ 2*y.val:=by rw [Nat.two_mul]; exact Nat.dvd_of_mod_eq_zero e1
    rcases h.mul e2 with e3|e3
    · have:=Nat.le_of_dvd (by decide) e3
      exact absurd (show p = 2 by omega) h2
    · exact zero_of y e3
structure Crv (a b:Fin p):Prop where
  fld:Fld p
  sing:∀ x:Fin p,On a b (.aff x 0)→x*x+x*x+x*x+a = 0→False
theorem Crv.fine {a b:Fin p} (h:Crv a b):Fine a b:=⟨h.fld.dom,h.fld.two,h.sing⟩
theorem Fld.quot (h:Fld p) {x:Fin p} (hx:x≠0) (y:Fin p):∃ l,l*x = y:=by
  obtain ⟨i,hi⟩:=h.inv x hx
  refine ⟨y*i,?_⟩
  have e:y*i*x = y*(x*i):=by clear hi; grind -lia
  rw [e,hi]; clear hi e; grind -lia
theorem Fld.sum (h:Fld p) {a b:Fin p} {A B:Pt p} (hA:On a b A) (hB:On a b B):∃ R,Add a A B R:=by
  cases A with
  | inf=>exact ⟨_,.left _⟩
  | aff x1 y1=>cases B with
    | inf=>exact ⟨_,.right _⟩
    | aff x2 y2 =>
      by_cases ho:Opp x1 y1 x2 y2
      · exact ⟨_,.opp ho⟩
      · have key : ∃ l, Slope a x1 y1 x2 y2 l := by
          simp only [On] at hA hB
          by_cases hx:x1-x2 = 0
          · have hs:y1+y2≠0:=fun e=>ho ⟨hx,e⟩
            obtain ⟨l,hl⟩:=h.quot hs (x1*x1+x1*x2+x2*x2+a)
            refine ⟨l,?_,sub_of_eq hl⟩
            obtain rfl:=eq_of_sub hx
            have e:(y1-y2)*(y1+y2) = 0:=lin2 (c1:=1) (c2:=-1) (by clear hl hs hx ho hA hB; grind -lia) hA hB
            have e2:y1-y2 = 0:=(h.dom _ _ e).elim id (fun e=>absurd e hs)
            exact lin1 (c1:=-1) (by clear hl hs hx ho hA hB e e2; grind -lia) e2
          · obtain ⟨l,hl⟩:=h.quot hx (y1-y2)
            refine ⟨l,sub_of_eq hl,?_⟩
            have e:(l*(y1+y2)-(x1*x1+x1*x2+x2*x2+a))*(x1-x2) = 0:=lin3 (c1:=y1+y2) (c2:=1) (c3:=-1) (by clear hl hx ho hA hB; grind -lia) (sub_of_eq hl) hA hB
            exact (h.dom _ _ e).elim id (fun e=>absurd e hx)
        obtain ⟨l,hl⟩:=key
        exact ⟨_,.line l (l*l-x1-x2) (l*(x1-(l*l-x1-x2))-y1) ho hl (by clear hl ho hA hB; grind -lia) (by clear hl ho hA hB; grind -lia)⟩
instance:Nonempty (Pt p):=⟨.inf⟩
noncomputable def padd (a:Fin p) (A B:Pt p):Pt p:=Classical.epsilon (fun R=>Add a A B R)
theorem padd_spec (h:Fld p) {a b:Fin p} {A B:Pt p} (hA:On a b A) (hB:On a b B):Add a A B (padd a A B):=Classical.epsilon_spec (h.sum hA hB)
theorem padd_eq (h:Fld p) {a b:Fin p} {A B R:Pt p} (hA:On a b A) (hB:On a b B) (hR:Add a A B R):padd a A B = R:=(padd_spec h hA hB).unique h.dom hR
theorem padd_on (h:Fld p) {a b:Fin p} {A B:Pt p} (hA:On a b A) (hB:On a b B):On a b (padd a A B):=(padd_spec h hA hB).on hA hB
theorem padd_comm (h:Fld p) {a b:Fin p} {A B:Pt p} (hA:On a b A) (hB:On a b B):padd a A B = padd a B A:=padd_eq h hA hB (padd_spec h hB hA).symm
theorem padd_assoc {a b:Fin p} (h:Crv a b) {A B C:Pt p} (hA:On a b A) (hB:On a b B) (hC:On a b C):padd a (padd a A B) C = padd a A (padd a B C) :=
  Add.assoc h.fine hA hB hC (padd_spec h.fld hA hB) (padd_spec h.fld (padd_on h.fld hA hB) hC) (padd_spec h.fld hB hC) (padd_spec h.fld hA (padd_on h.fld hB hC))
theorem padd_inf (h:Fld p) {a b:Fin p} {A:Pt p} (hA:On a b A):padd a A .inf = A:=padd_eq h hA (b:=b) trivial (.right _)
theorem inf_padd (h:Fld p) {a b:Fin p} {A:Pt p} (hA:On a b A):padd a .inf A = A:=padd_eq h (b:=b) trivial hA (.left _)
theorem padd_neg (h:Fld p) {a b:Fin p} {A:Pt p} (hA:On a b A):padd a A A.neg = .inf:=padd_eq h hA (neg_on hA) (add_neg a A)
theorem padd_cancel {a b:Fin p} (h:Crv a b) {A B C:Pt p} (hA:On a b A) (hB:On a b B) (hC:On a b C) (e:padd a A C = padd a B C):A = B:=by
  have e1:=congrArg (fun X=>padd a X C.neg) e
  simp only [padd_assoc h hA hC (neg_on hC),padd_assoc h hB hC (neg_on hC),padd_neg h.fld hC,padd_inf h.fld hA,padd_inf h.fld hB] at e1
  exact e1
noncomputable def pmul (a:Fin p) (P:Pt p):Nat→Pt p
  | 0=>.inf
  | k+1=>padd a (pmul a P k) P
theorem pmul_on (h:Fld p) {a b:Fin p} {P:Pt p} (hP:On a b P):∀ k,On a b (pmul a P k)
  | 0=>trivial
  | k+1=>padd_on h (pmul_on h hP k) hP
theorem pmul_one (h:Fld p) {a b:Fin p} {P:Pt p} (hP:On a b P):pmul a P 1 = P:=inf_padd h hP
theorem pmul_add {a b:Fin p} (h:Crv a b) {P:Pt p} (hP:On a b P) (i:Nat):∀ j,pmul a P (i+j) = padd a (pmul a P i) (pmul a P j)
  | 0=>(padd_inf h.fld (pmul_on h.fld hP i)).symm
  | j+1=>by
    show padd a (pmul a P (i+j)) P = _
    rw [pmul_add h hP i j,padd_assoc h (pmul_on h.fld hP i) (pmul_on h.fld hP j) hP]
    rfl
theorem pmul_mul {a b:Fin p} (h:Crv a b) {P:Pt p} (hP:On a b P) (i:Nat):∀ j,pmul a P (i*j) = pmul a (pmul a P i) j
  | 0=>rfl
  | j+1=>by
    rw [Nat.mul_succ,pmul_add h hP,pmul_mul h hP i j]
    rfl
theorem pmul_inf {a b:Fin p} (h:Fld p):∀ j,pmul a (.inf:Pt p) j = .inf
  | 0=>rfl
  | j+1=>by
    show padd a (pmul a .inf j) .inf = _
    rw [pmul_inf (b:=b) h j,padd_inf h (show On a b (.inf:Pt p) from trivial)]
theorem pmul_order {a b:Fin p} (h:Crv a b) {P:Pt p} (hP:On a b P) {q:Nat} (hq:Pr q) (h0:P≠.inf) (hqP:pmul a P q = .inf) {k:Nat} (hk:pmul a P k = .inf):q ∣ k:=by
  refine Classical.byContradiction fun hn=>h0 ?_
  have hq2:=hq.1
  obtain ⟨s,_,hs⟩:=inv_mod (hq.cop hn) (show 1<q by omega)
  have e1:k*s = q*(k*s/q)+1:=by
    have:=Nat.div_add_mod (k*s) q
    omega
  have e2:pmul a P (k*s) = .inf:=by rw [pmul_mul h hP,hk,pmul_inf (b:=b) h.fld]
  rw [e1,pmul_add h hP,pmul_mul h hP,hqP,pmul_inf (b:=b) h.fld,pmul_one h.fld hP,inf_padd h.fld hP] at e2
  exact e2
theorem pmul_mod {a b:Fin p} (h:Crv a b) {P:Pt p} (hP:On a b P) {q:Nat} (hqP:pmul a P q = .inf) (k:Nat):pmul a P k = pmul a P (k%q):=by
  have e:=Nat.div_add_mod k q
  have e2:pmul a P k = pmul a P (q*(k/q)+k%q):=by rw [e]
  rw [e2,pmul_add h hP,pmul_mul h hP,hqP,pmul_inf (b:=b) h.fld,inf_padd h.fld (pmul_on h.fld hP _)]
theorem pmul_inj {a b:Fin p} (h:Crv a b) {P:Pt p} (hP:On a b P) {q:Nat} (hq:Pr q) (h0:P≠.inf) (hqP:pmul a P q = .inf) {i j:Nat} (hj:j<q) (hi:i≤j) (e:pmul a P i = pmul a P j):i = j:=by
  have e1:pmul a P j = padd a (pmul a P (j-i)) (pmul a P i):=by rw [← pmul_add h hP,Nat.sub_add_cancel hi]
  have e2:padd a .inf (pmul a P i) = padd a (pmul a P (j-i)) (pmul a P i):=by rw [inf_padd h.fld (pmul_on h.fld hP i),← e1,e]
  have e3:=padd_cancel h (show On a b (.inf:Pt p) from trivial) (pmul_on h.fld hP _) (pmul_on h.fld hP i) e2
  have e4:=pmul_order h hP hq h0 hqP e3.symm
  have:=Nat.eq_zero_of_dvd_of_lt e4 (by omega)
  omega
theorem doves:∀ (M N:Nat) (f:Nat→Nat),(∀ i,i<N→f i<M)→(∀ i j,i<j→j<N→f i≠f j)→N≤M
  | 0,N,f,h,_=>Nat.le_of_not_lt fun hN=>Nat.not_lt_zero _ (h 0 hN)
  | M+1,N,f,h,hi=>by
    by_cases hex:∃ i0,i0<N∧f i0 = M
    · obtain ⟨i0,h0,e0⟩:=hex
      have:=doves M (N-1) (fun i=>if i<i0 then f i else f (i+1)) (fun i hiN=>by
        split
        · have:=h i (by omega)
          have:=hi i i0 (by omega) h0
          omega
        · have:=h (i+1) (by omega)
          have:=hi i0 (i+1) (by omega) (by omega)
          omega) (fun i j hij hj=>by
        split
        · split
          · exact hi i j hij (by omega)
          · exact hi i (j+1) (by omega) (by omega)
        · split
          · omega
          · exact hi (i+1) (j+1) (by omega) (by omega))
      omega
    · have := doves M N f (fun i hiN => by
        have:=h i hiN
        have:f i≠M:=fun e=>hex ⟨i,hiN,e⟩
        omega) hi
      omega
def pcode:Pt p→Nat
  | .inf=>2*p
  | .aff x y=>2*x.val+(if 2*y.val<p then 0 else 1)
theorem pcode_lt (P:Pt p):pcode P<2*p+1:=by
  cases P with
  | inf=>simp [pcode]
  | aff x y=>have:=x.isLt; simp only [pcode]; split <;> omega
theorem pcode_inj (h:Fld p) {a b:Fin p} {P Q:Pt p} (hP:On a b P) (hQ:On a b Q) (e:pcode P = pcode Q):P = Q:=by
  cases P with
  | inf=>cases Q with
    | inf=>rfl
    | aff x y=>have:=x.isLt; simp only [pcode] at e; split at e <;> omega
  | aff x y=>cases Q with
    | inf=>have:=x.isLt; simp only [pcode] at e; split at e <;> omega
    | aff x' y' =>
      simp only [pcode] at e
      have hx:x = x':=Fin.ext (by split at e <;> split at e <;> omega)
      subst hx
      simp only [On] at hP hQ
      have hm:(y-y')*(y+y') = 0:=lin2 (c1:=1) (c2:=-1) (by clear hP hQ e; grind -lia) hP hQ
      rcases h.dom _ _ hm with h1|h1
      · rw [eq_of_sub h1]
      · have h2:(y.val+y'.val)%p = 0:=by rw [← Fin.val_add,h1,Fin.val_zero]
        have h3:=y.isLt
        have h4:=y'.isLt
        have h5:y.val+y'.val = 0∨y.val+y'.val = p:=by
          rcases Nat.lt_or_ge (y.val+y'.val) p with h6|h6
          · rw [Nat.mod_eq_of_lt h6] at h2; exact .inl h2
          · have:(y.val+y'.val-p)%p = 0:=by rw [← Nat.mod_eq_sub_mod h6]; exact h2
            rw [Nat.mod_eq_of_lt (by omega)] at this
            omega
        have h7:y = y':=Fin.ext (by split at e <;> split at e <;> omega)
        rw [h7]
theorem order_le {a b:Fin p} (h:Crv a b) {P:Pt p} (hP:On a b P) {q:Nat} (hq:Pr q) (h0:P≠.inf) (hqP:pmul a P q = .inf):q≤2*p+1 :=
  doves (2*p+1) q (fun i=>pcode (pmul a P i)) (fun i _=>pcode_lt _) (fun i j hij hj e =>
    absurd (pmul_inj h hP hq h0 hqP hj (Nat.le_of_lt hij) (pcode_inj h.fld (pmul_on h.fld hP i) (pmul_on h.fld hP j) e)) (by omega))
end
end Go.Proofs.Ytljblbgogjieaaa.Grp
set_option linter.unusedVariables false
set_option linter.unusedSectionVars false
namespace Go.Proofs.Ytljblbgogjieaaa.Grp
section
variable {p:Nat} [NeZero p]
def c (p:Nat) [NeZero p] (k:Nat):Fin p:=Fin.ofNat p k
theorem c_val (k:Nat):(c p k).val = k%p:=rfl
theorem c_add (i j:Nat):c p (i+j) = c p i+c p j:=Fin.ext (by rw [Fin.val_add,c_val,c_val,c_val,← Nat.add_mod])
theorem c_mul (i j:Nat):c p (i*j) = c p i*c p j:=Fin.ext (by rw [Fin.val_mul,c_val,c_val,c_val,← Nat.mul_mod])
theorem c_mod {n:Nat} (hn:p ∣ n) (i:Nat):c p (i%n) = c p i:=Fin.ext (by rw [c_val,c_val,Nat.mod_mod_of_dvd _ hn])
theorem c_zero_iff {k:Nat}:c p k = 0↔p ∣ k:=by
  constructor
  · intro h
    have:=congrArg Fin.val h
    rw [c_val,Fin.val_zero] at this
    exact Nat.dvd_of_mod_eq_zero this
  · intro h
    apply Fin.ext
    rw [c_val,Fin.val_zero]
    exact Nat.mod_eq_zero_of_dvd h
theorem c_sub {n j:Nat} (hn:p ∣ n) (hj:j≤n):c p (n-j) = -c p j:=by
  have h1:c p (n-j)+c p j = 0:=by rw [← c_add,Nat.sub_add_cancel hj]; exact c_zero_iff.2 hn
  have h2:c p (n-j) - -c p j = 0:=by rw [← h1]; grind -lia
  exact eq_of_sub h2
theorem c_one:c p 1 = 1:=rfl
theorem c_two:c p 2 = 2:=rfl
theorem c_three:c p 3 = 3:=rfl
theorem c_four:c p 4 = 4:=rfl
theorem c_six:c p 6 = 6:=rfl
def RZ (X Y Z:Fin p) (A:Pt p):Prop:=Z≠0→∃ x y,A = .aff x y∧X = x*Z∧Y = y*Z
theorem RZ.dbl {a b X Y Z W S : Fin p} {A : Pt p} (h : Fld p) (hA : On a b A) (hr : RZ X Y Z A) (hW : W = 3 * X * X + a * (Z * Z)) (hS : S = 2 * Y * Z) :
    RZ (S*(W*W-4*(X*Y*S))) (W*(6*(X*Y*S)-W*W)-2*(Y*S)*(Y*S)) (S*S*S) (padd a A A):=by
  intro hz
  have hS0:S≠0:=fun e=>hz (by rw [e]; clear hr hW hS e hz; grind -lia)
  have hZ0:Z≠0:=fun e=>hS0 (by rw [hS,e]; clear hr hW hS e hz hS0; grind -lia)
  obtain ⟨x,y,rfl,hX,hY⟩:=hr hZ0
  have hy0:y≠0:=fun e=>hS0 (by rw [hS,hY,e]; clear hr hW hS e hz hS0 hX hY; grind -lia)
  have hsp:=padd_spec h hA hA
  generalize padd a (.aff x y) (.aff x y) = R at hsp
  cases hsp with
  | opp ho=>exact absurd (h.two _ ho.2) hy0
  | line l x4 y4 hn hs hx hy =>
    have ha:a = l*(y+y)-(x*x+x*x+x*x):=eq_of_sub (lin1 (c1:=-1) (by clear hr hW hS hz hS0 hX hY hx hy hs hA; grind -lia) hs.tang)
    obtain rfl:=eq_of_sub hx
    obtain rfl:=eq_of_sub hy
    refine ⟨_,_,rfl,?_,?_⟩
    · rw [hW,hS,hX,hY,ha]; clear hr hW hS hz hS0 hX hY hx hy hs hA ha; grind -lia
    · rw [hW,hS,hX,hY,ha]; clear hr hW hS hz hS0 hX hY hx hy hs hA ha; grind -lia
theorem RZ.add {a b X Y Z x2 y2 u v : Fin p} {A : Pt p} (h : Fld p) (hA : On a b A) (hQ : On a b (.aff x2 y2)) (hr : RZ X Y Z A) (hu : u = y2 * Z - Y) (hv : v = x2 * Z - X) :
    RZ (v*(u*u*Z-v*v*v-2*(v*v*X))) (u*(v*v*X-(u*u*Z-v*v*v-2*(v*v*X)))-v*v*v*Y) (v*v*v*Z) (padd a A (.aff x2 y2)):=by
  intro hz
  have hv0:v≠0:=fun e=>hz (by rw [e]; clear hr hu hv e hz; grind -lia)
  have hZ0:Z≠0:=fun e=>hz (by rw [e]; clear hr hu hv e hz hv0; grind -lia)
  obtain ⟨x,y,rfl,hX,hY⟩:=hr hZ0
  have hx0:x-x2≠0:=fun e=>hv0 (by
    obtain rfl:=eq_of_sub e
    rw [hv,hX]; clear hr hu hv e hz hv0 hX hY; grind -lia)
  have hsp:=padd_spec h hA hQ
  generalize padd a (.aff x y) (.aff x2 y2) = R at hsp
  cases hsp with
  | opp ho=>exact absurd ho.1 hx0
  | line l x4 y4 hn hs hx hy =>
    have e:y = y2+l*(x-x2):=eq_of_sub (lin1 (c1:=-1) (by clear hr hu hv hz hv0 hX hY hx hy hs hA hQ; grind -lia) hs.chord)
    obtain rfl:=eq_of_sub hx
    obtain rfl:=eq_of_sub hy
    refine ⟨_,_,rfl,?_,?_⟩
    · rw [hu,hv,hX,hY,e]; clear hr hu hv hz hv0 hX hY hx hy hs hA hQ e; grind -lia
    · rw [hu,hv,hX,hY,e]; clear hr hu hv hz hv0 hX hY hx hy hs hA hQ e; grind -lia
end
@[reducible] noncomputable def force (m:Nat) (f:Nat→Bool):Bool:=Nat.rec (motive:=fun _=>Bool) (f 0) (fun m _=>f (Nat.succ m)) m
theorem force_eq (m:Nat) (f:Nat→Bool):force m f = f m:=by cases m <;> rfl
noncomputable def lad (n a x y k:Nat) (fin:Nat→Nat→Nat→Bool):Nat→Nat→Nat→Nat→Bool :=
  Nat.rec (motive:=fun _=>Nat→Nat→Nat→Bool) fin (fun i ih X Y Z =>
    force ((3*X*X+a*(Z*Z))%n) fun W=>force (2*Y*Z%n) fun S=>force (X*Y%n*S%n) fun B=>force (Y*S%n) fun E =>
    force (S*(W*W+4*(n-B))%n) fun X1=>force ((W*(6*B+(n-W)*W)+2*(n-E)*E)%n) fun Y1=>force (S*S%n*S%n) fun Z1 =>
    Bool.rec (ih X1 Y1 Z1) (
      force ((y*Z1+(n-Y1))%n) fun u=>force ((x*Z1+(n-X1))%n) fun v=>force (v*v%n) fun vv=>force (vv*v%n) fun v3 =>
      force (vv*X1%n) fun R=>force ((u*u%n*Z1+(n-v3)+2*(n-R))%n) fun A =>
      force (v*A%n) fun X2=>force ((u*(R+(n-A))+(n-v3)*Y1)%n) fun Y2=>force (v3*Z1%n) fun Z2=>ih X2 Y2 Z2)
      (Nat.testBit k i))
theorem lad_unf (n a x y k : Nat) (fin : Nat → Nat → Nat → Bool) (i X Y Z : Nat) : lad n a x y k fin (i + 1) X Y Z =
    force ((3*X*X+a*(Z*Z))%n) fun W=>force (2*Y*Z%n) fun S=>force (X*Y%n*S%n) fun B=>force (Y*S%n) fun E =>
    force (S*(W*W+4*(n-B))%n) fun X1=>force ((W*(6*B+(n-W)*W)+2*(n-E)*E)%n) fun Y1=>force (S*S%n*S%n) fun Z1 =>
    Bool.rec (lad n a x y k fin i X1 Y1 Z1) (
      force ((y*Z1+(n-Y1))%n) fun u=>force ((x*Z1+(n-X1))%n) fun v=>force (v*v%n) fun vv=>force (vv*v%n) fun v3 =>
      force (vv*X1%n) fun R=>force ((u*u%n*Z1+(n-v3)+2*(n-R))%n) fun A =>
      force (v*A%n) fun X2=>force ((u*(R+(n-A))+(n-v3)*Y1)%n) fun Y2=>force (v3*Z1%n) fun Z2=>lad n a x y k fin i X2 Y2 Z2)
      (Nat.testBit k i):=rfl
theorem lad_succ (n a x y k : Nat) (fin : Nat → Nat → Nat → Bool) (i X Y Z W S B E X1 Y1 Z1 u v vv v3 R A : Nat) (hW : W = (3 * X * X + a * (Z * Z)) % n) (hS : S = 2 * Y * Z % n) (hB : B = X * Y % n * S % n) (hE : E = Y * S % n)
    (hX1:X1 = S*(W*W+4*(n-B))%n) (hY1:Y1 = (W*(6*B+(n-W)*W)+2*(n-E)*E)%n) (hZ1:Z1 = S*S%n*S%n)
    (hu:u = (y*Z1+(n-Y1))%n) (hv:v = (x*Z1+(n-X1))%n) (hvv:vv = v*v%n) (hv3:v3 = vv*v%n) (hR:R = vv*X1%n) (hA:A = (u*u%n*Z1+(n-v3)+2*(n-R))%n) :
    lad n a x y k fin (i+1) X Y Z = if k.testBit i then lad n a x y k fin i (v*A%n) ((u*(R+(n-A))+(n-v3)*Y1)%n) (v3*Z1%n) else lad n a x y k fin i X1 Y1 Z1:=by
  subst hA hR hv3 hvv hv hu hZ1 hY1 hX1 hE hB hS hW
  rw [lad_unf]
  simp only [force_eq]
  cases k.testBit i <;> rfl
section
variable {p:Nat} [NeZero p]
theorem lad_spec {n a b x y k : Nat} {fin : Nat → Nat → Nat → Bool} (hn : 0 < n) : ∀ (i X Y Z : Nat), lad n a x y k fin i X Y Z = true → ∃ X' Y' Z', fin X' Y' Z' = true ∧
    ∀ (p:Nat) [NeZero p],p ∣ n→Crv (c p a) (c p b)→On (c p a) (c p b) (.aff (c p x) (c p y))→RZ (c p X) (c p Y) (c p Z) (pmul (c p a) (.aff (c p x) (c p y)) (k >>> i))→RZ (c p X') (c p Y') (c p Z') (pmul (c p a) (.aff (c p x) (c p y)) k)
  | 0,X,Y,Z,h=>⟨X,Y,Z,h,fun p _ _ _ _ hr=>by simpa using hr⟩
  | i+1,X,Y,Z,h=>by
    have hlt:∀ z,z%n≤n:=fun z=>Nat.le_of_lt (Nat.mod_lt _ hn)
    obtain ⟨W,hW⟩:∃ W,W = (3*X*X+a*(Z*Z))%n:=⟨_,rfl⟩
    obtain ⟨S,hS⟩:∃ S,S = 2*Y*Z%n:=⟨_,rfl⟩
    obtain ⟨B,hB⟩:∃ B,B = X*Y%n*S%n:=⟨_,rfl⟩
    obtain ⟨E,hE⟩:∃ E,E = Y*S%n:=⟨_,rfl⟩
    obtain ⟨X1,hX1⟩:∃ X1,X1 = S*(W*W+4*(n-B))%n:=⟨_,rfl⟩
    obtain ⟨Y1,hY1⟩:∃ Y1,Y1 = (W*(6*B+(n-W)*W)+2*(n-E)*E)%n:=⟨_,rfl⟩
    obtain ⟨Z1,hZ1⟩:∃ Z1,Z1 = S*S%n*S%n:=⟨_,rfl⟩
    obtain ⟨u,hu⟩:∃ u,u = (y*Z1+(n-Y1))%n:=⟨_,rfl⟩
    obtain ⟨v,hv⟩:∃ v,v = (x*Z1+(n-X1))%n:=⟨_,rfl⟩
    obtain ⟨vv,hvv⟩:∃ vv,vv = v*v%n:=⟨_,rfl⟩
    obtain ⟨v3,hv3⟩:∃ v3,v3 = vv*v%n:=⟨_,rfl⟩
    obtain ⟨R,hR⟩:∃ R,R = vv*X1%n:=⟨_,rfl⟩
    obtain ⟨A,hA⟩:∃ A,A = (u*u%n*Z1+(n-v3)+2*(n-R))%n:=⟨_,rfl⟩
    rw [lad_succ n a x y k fin i X Y Z W S B E X1 Y1 Z1 u v vv v3 R A hW hS hB hE hX1 hY1 hZ1 hu hv hvv hv3 hR hA] at h
    have key1 : ∀ (p : Nat) [NeZero p], p ∣ n → Crv (c p a) (c p b) → On (c p a) (c p b) (.aff (c p x) (c p y)) → RZ (c p X) (c p Y) (c p Z) (pmul (c p a) (.aff (c p x) (c p y)) (k >>> (i + 1))) →
        RZ (c p X1) (c p Y1) (c p Z1) (pmul (c p a) (.aff (c p x) (c p y)) (k >>> (i+1)+k >>> (i+1))):=by
      intro p _ hp hc hP hr
      rw [pmul_add hc hP]
      have h1:=RZ.dbl (W:=c p W) (S:=c p S) hc.fld (pmul_on hc.fld hP _) hr (by rw [hW,c_mod hp]; simp only [c_add,c_mul,c_three]) (by rw [hS,c_mod hp]; simp only [c_mul,c_two])
      have eB:c p B = c p X*c p Y*c p S:=by rw [hB,c_mod hp,c_mul,c_mod hp,c_mul]
      have eE:c p E = c p Y*c p S:=by rw [hE,c_mod hp,c_mul]
      have e1:c p X1 = c p S*(c p W*c p W-4*(c p X*c p Y*c p S)):=by
        rw [hX1,c_mod hp]; simp only [c_add,c_mul,c_four,c_sub hp (show B≤n by rw [hB]; exact hlt _),eB]
        clear h1 eB eE hr hP; grind -lia
      have e2:c p Y1 = c p W*(6*(c p X*c p Y*c p S)-c p W*c p W)-2*(c p Y*c p S)*(c p Y*c p S):=by
        rw [hY1,c_mod hp]; simp only [c_add,c_mul,c_six,c_two,c_sub hp (show W≤n by rw [hW]; exact hlt _),c_sub hp (show E≤n by rw [hE]; exact hlt _),eB,eE]
        clear h1 eB eE hr hP e1; grind -lia
      have e3:c p Z1 = c p S*c p S*c p S:=by rw [hZ1,c_mod hp,c_mul,c_mod hp,c_mul]
      rw [e1,e2,e3]
      exact h1
    have hsh:k >>> i = k >>> (i+1)+k >>> (i+1)+(if k.testBit i then 1 else 0):=by
      have e1:k >>> (i+1) = k >>> i/2:=by rw [Nat.shiftRight_add]; rfl
      have e2:k.testBit i = decide (k >>> i%2 = 1):=by rw [Nat.testBit_eq_decide_div_mod_eq,Nat.shiftRight_eq_div_pow]
      rw [e1,e2]
      generalize k >>> i = z
      have:=Nat.mod_two_eq_zero_or_one z
      have:=Nat.div_add_mod z 2
      by_cases hz:z%2 = 1
      · rw [if_pos (by rw [hz]; rfl)]; omega
      · rw [if_neg (by simp [hz])]; omega
    by_cases hb:k.testBit i = true
    · rw [if_pos hb] at h hsh
      obtain ⟨X',Y',Z',hf,hk⟩:=lad_spec hn i _ _ _ h
      refine ⟨X',Y',Z',hf,fun p _ hp hc hP hr=>hk p hp hc hP ?_⟩
      have h1:=key1 p hp hc hP hr
      rw [hsh,pmul_add hc hP,pmul_one hc.fld hP]
      have h2:=RZ.add (u:=c p u) (v:=c p v) hc.fld (pmul_on hc.fld hP _) hP h1 (by rw [hu,c_mod hp]; simp only [c_add,c_mul,c_sub hp (show Y1≤n by rw [hY1]; exact hlt _)]; clear h1 hr hP; grind -lia)
        (by rw [hv,c_mod hp]; simp only [c_add,c_mul,c_sub hp (show X1≤n by rw [hX1]; exact hlt _)]; clear h1 hr hP; grind -lia)
      have evv:c p vv = c p v*c p v:=by rw [hvv,c_mod hp,c_mul]
      have ev3:c p v3 = c p v*c p v*c p v:=by rw [hv3,c_mod hp,c_mul,evv]
      have eR:c p R = c p v*c p v*c p X1:=by rw [hR,c_mod hp,c_mul,evv]
      have eA:c p A = c p u*c p u*c p Z1-c p v*c p v*c p v-2*(c p v*c p v*c p X1):=by
        rw [hA,c_mod hp]; simp only [c_add,c_mul,c_mod hp,c_two,c_sub hp (show v3≤n by rw [hv3]; exact hlt _),c_sub hp (show R≤n by rw [hR]; exact hlt _),ev3,eR]
        clear h1 h2 hr hP evv ev3 eR; grind -lia
      have e1:c p (v*A%n) = c p v*(c p u*c p u*c p Z1-c p v*c p v*c p v-2*(c p v*c p v*c p X1)):=by rw [c_mod hp,c_mul,eA]
      have e2:c p ((u*(R+(n-A))+(n-v3)*Y1)%n) = c p u*(c p v*c p v*c p X1-(c p u*c p u*c p Z1-c p v*c p v*c p v-2*(c p v*c p v*c p X1)))-c p v*c p v*c p v*c p Y1:=by
        rw [c_mod hp]; simp only [c_add,c_mul,c_sub hp (show A≤n by rw [hA]; exact hlt _),c_sub hp (show v3≤n by rw [hv3]; exact hlt _),ev3,eR,eA]
        clear h1 h2 hr hP evv ev3 eR eA e1; grind -lia
      have e3:c p (v3*Z1%n) = c p v*c p v*c p v*c p Z1:=by rw [c_mod hp,c_mul,ev3]
      rw [e1,e2,e3]
      exact h2
    · rw [if_neg hb] at h hsh
      obtain ⟨X',Y',Z',hf,hk⟩:=lad_spec hn i _ _ _ h
      refine ⟨X',Y',Z',hf,fun p _ hp hc hP hr=>hk p hp hc hP ?_⟩
      rw [hsh,Nat.add_zero]
      exact key1 p hp hc hP hr
noncomputable def gkOK (n a b x y q l:Nat):Bool :=
  Nat.ble 2 n && Nat.beq (Nat.gcd 6 n) 1 && Nat.beq (Nat.gcd (4*(a*(a*a))+27*(b*b)) n) 1 && Nat.beq (y*y%n) ((x*x*x+a*x+b)%n) && Nat.ble (4*n+1) ((q-1)*(q-1)) && Nat.beq ((q-1) >>> l) 1 &&
    lad n a x y (q-1) (fun X Y Z=>Nat.beq (Nat.gcd Z n) 1 && Nat.beq (X%n) (x*Z%n) && Nat.beq ((Y+y*Z)%n) 0) l x y 1
theorem prime_of {n:Nat} (hn:1<n) (h:∀ p,Pr p→p ∣ n→n<p*p):Pr n:=by
  refine ⟨hn,fun d hd=>?_⟩
  refine Classical.byContradiction fun hne=>?_
  have hd0:d≠0:=fun e=>by rw [e] at hd; have:=Nat.eq_zero_of_zero_dvd hd; omega
  have hd2:2≤d:=by omega
  have least:∃ e,(2≤e∧e ∣ n)∧∀ f,2≤f→f ∣ n→e≤f:=by
    have main:∀ m e,e≤m→2≤e→e ∣ n→∃ e,(2≤e∧e ∣ n)∧∀ f,2≤f→f ∣ n→e≤f:=by
      intro m
      induction m with
      | zero=>intro e h1 h2; omega
      | succ m ih =>
        intro e h1 h2 h3
        by_cases hx:∃ f,2≤f∧f ∣ n∧f<e
        · obtain ⟨f,f1,f2,f3⟩:=hx
          exact ih f (by omega) f1 f2
        · exact ⟨e,⟨h2,h3⟩,fun f f1 f2=>Nat.le_of_not_lt fun f3=>hx ⟨f,f1,f2,f3⟩⟩
    exact main d d (Nat.le_refl _) hd2 hd
  obtain ⟨e,⟨e1,e2⟩,e3⟩:=least
  have hp:Pr e:=⟨e1,fun f hf=>by
    have hf0:f≠0:=fun z=>by rw [z] at hf; have:=Nat.eq_zero_of_zero_dvd hf; omega
    by_cases h1:f = 1
    · exact .inl h1
    · have h2:=e3 f (by omega) (Nat.dvd_trans hf e2)
      have h3:=Nat.le_of_dvd (by omega) hf
      exact .inr (by omega)⟩
  have h1:=h e hp e2
  obtain ⟨g,rfl⟩:=hd
  have hg2:2≤g:=by
    have:g≠0:=fun z=>by rw [z] at hn; omega
    have:g≠1:=fun z=>by rw [z] at hne; omega
    omega
  have h2:=e3 d hd2 (Nat.dvd_mul_right d g)
  have h3:=e3 g hg2 (Nat.dvd_mul_left g d)
  have:=Nat.mul_le_mul h2 h3
  omega
theorem crv_of {n a b p:Nat} [NeZero p] (hp:Pr p) (hd:p ∣ n) (h6:Nat.gcd 6 n = 1) (hg:Nat.gcd (4*(a*(a*a))+27*(b*b)) n = 1):Crv (c p a) (c p b):=by
  have no:∀ z,Nat.gcd z n = 1→¬ p ∣ z:=fun z hz hpz=>by
    have:=Nat.dvd_gcd hpz hd
    rw [hz] at this
    have:=Nat.le_of_dvd (by decide) this
    have:=hp.1
    omega
  have h2:p≠2:=fun e=>no 6 h6 (by rw [e]; decide)
  refine ⟨hp.fld h2,fun x hx h3=>no _ hg (c_zero_iff.1 ?_)⟩
  simp only [On] at hx
  have e4:c p (4*(a*(a*a))+27*(b*b)) = 4*(c p a*(c p a*c p a))+27*(c p b*c p b):=by simp only [c_add,c_mul]; rfl
  rw [e4]
  generalize c p a = A at *
  generalize c p b = B at *
  have hA:A = -(x*x+x*x+x*x):=eq_of_sub (lin1 (c1:=1) (by clear hx h3 e4; grind -lia) h3)
  subst hA
  have hB:B = x*x*x+x*x*x:=eq_of_sub (lin1 (c1:=-1) (by clear hx h3 e4; grind -lia) hx)
  subst hB
  clear hx h3 e4
  grind -lia
theorem beq_eq {i j:Nat} (h:Nat.beq i j = true):i = j:=Nat.eq_of_beq_eq_true h
theorem gk_mul {n a b x y q l:Nat} (h:gkOK n a b x y q l = true) (hn:0<n):∀ (p:Nat) [NeZero p],Pr p→p ∣ n→Crv (c p a) (c p b)∧On (c p a) (c p b) (.aff (c p x) (c p y))∧pmul (c p a) (.aff (c p x) (c p y)) q = .inf:=by
  intro p _ hp hd
  simp only [gkOK,Bool.and_eq_true] at h
  obtain ⟨⟨⟨⟨⟨⟨_,h1⟩,h2⟩,h3⟩,h4⟩,h5⟩,h6⟩:=h
  have hc:=crv_of hp hd (beq_eq h1) (beq_eq h2)
  have hP:On (c p a) (c p b) (.aff (c p x) (c p y)):=by
    have:=congrArg (c p) (beq_eq h3)
    rw [c_mod hd,c_mod hd] at this
    simp only [c_add,c_mul] at this
    exact sub_of_eq this
  refine ⟨hc,hP,?_⟩
  obtain ⟨X,Y,Z,hf,hk⟩:=lad_spec (b:=b) hn _ _ _ _ h6
  simp only [Bool.and_eq_true] at hf
  obtain ⟨⟨f1,f2⟩,f3⟩:=hf
  have hZ:c p Z≠0:=fun e=>by
    have h1:=Nat.dvd_gcd (c_zero_iff.1 e) hd
    rw [beq_eq f1] at h1
    have h2:=Nat.le_of_dvd (by decide) h1
    have h3:=hp.1
    omega
  have hr:=hk p hd hc hP (by
    rw [beq_eq h5,pmul_one hc.fld hP]
    intro _
    refine ⟨_,_,rfl,?_,?_⟩ <;> rw [c_one] <;> grind -lia)
  obtain ⟨x',y',e1,e2,e3⟩:=hr hZ
  have g2:=congrArg (c p) (beq_eq f2)
  rw [c_mod hd,c_mod hd,c_mul,e2] at g2
  have g3:=congrArg (c p) (beq_eq f3)
  rw [c_mod hd,c_add,c_mul,e3] at g3
  have hx:x' = c p x:=hc.fld.dom.cancel hZ (lin1 (c1:=1) (by clear g2 g3 e1 e2 e3 hZ hk hP; grind -lia) (sub_of_eq g2))
  have hy:y' = -c p y:=hc.fld.dom.cancel hZ (lin1 (c1:=1) (by clear g2 g3 e1 e2 e3 hZ hk hP hx; grind -lia) (show y'*c p Z+c p y*c p Z = 0 from g3))
  have hq:q = q-1+1:=by
    have:q≠0:=fun e=>by rw [e] at h5; simp at h5
    omega
  rw [hq]
  show padd (c p a) (pmul _ _ (q-1)) _ = _
  rw [e1,hx,hy]
  exact (padd_comm hc.fld (neg_on hP) hP).trans (padd_neg hc.fld hP)
theorem gk {n a b x y q l:Nat} (h:gkOK n a b x y q l = true) (hq:Pr q):Pr n:=by
  have h':=h
  simp only [gkOK,Bool.and_eq_true] at h'
  obtain ⟨⟨⟨⟨⟨⟨h0,h1⟩,h2⟩,h3⟩,h4⟩,h5⟩,h6⟩:=h'
  have h4:=Nb h4
  have hn2:=Nb h0
  · refine prime_of hn2 fun p hp hd=>?_
    have:NeZero p:=⟨by have:=hp.1; omega⟩
    obtain ⟨hc,hP,hm⟩:=gk_mul h (by omega) p hp hd
    have:=order_le hc hP hq (fun e=>by cases e) hm
    refine Nat.lt_of_not_le fun hle=>?_
    have h7:(q-1)*(q-1)≤(2*p)*(2*p):=Nat.mul_le_mul (by omega) (by omega)
    have h8:(2*p)*(2*p) = 4*(p*p):=by rw [Nat.mul_mul_mul_comm]
    omega
end
end Go.Proofs.Ytljblbgogjieaaa.Grp
set_option linter.unusedVariables false
set_option linter.unusedSectionVars false
namespace Go.Proofs.Ytljblbgogjieaaa.Grp
section
variable {p:Nat} [NeZero p]
def fpow (x:Fin p):Nat→Fin p
  | 0=>1
  | k+1=>fpow x k*x
theorem fpow_one (x:Fin p):fpow x 1 = x:=by show (1:Fin p)*x = x; grind -lia
theorem fpow_add (x:Fin p) (i:Nat):∀ j,fpow x (i+j) = fpow x i*fpow x j
  | 0=>by show fpow x i = fpow x i*1; grind -lia
  | j+1=>by
    show fpow x (i+j)*x = fpow x i*(fpow x j*x)
    rw [fpow_add x i j]; grind -lia
theorem fpow_mul (x:Fin p) (i:Nat):∀ j,fpow x (i*j) = fpow (fpow x i) j
  | 0=>rfl
  | j+1=>by
    rw [Nat.mul_succ,fpow_add,fpow_mul x i j]; rfl
theorem mul_fpow (x y:Fin p):∀ j,fpow (x*y) j = fpow x j*fpow y j
  | 0=>by show (1:Fin p) = 1*1; grind -lia
  | j+1=>by
    show fpow (x*y) j*(x*y) = fpow x j*x*(fpow y j*y)
    rw [mul_fpow x y j]; grind -lia
def prodL:List (Fin p)→Fin p
  | []=>1
  | x :: l=>x*prodL l
theorem prodL_perm {l m:List (Fin p)} (h:l.Perm m):prodL l = prodL m:=by
  induction h with
  | nil=>rfl
  | cons x _ ih=>simp only [prodL,ih]
  | swap x y l=>simp only [prodL]; grind -lia
  | trans _ _ ih1 ih2=>exact ih1.trans ih2
theorem prodL_map (x:Fin p):∀ l:List (Fin p),prodL (l.map fun y=>x*y) = fpow x l.length*prodL l
  | []=>by show (1:Fin p) = 1*1; grind -lia
  | y :: l=>by
    show x*y*prodL (l.map fun y=>x*y) = fpow x l.length*x*(y*prodL l)
    rw [prodL_map x l]; grind -lia
theorem prodL_ne (hd:Dom p) (h1:(1:Fin p)≠0):∀ l:List (Fin p),(∀ x,x∈l→x≠0)→prodL l≠0
  | [],_=>h1
  | x :: l,h=>hd.mul (h x (.head _)) (prodL_ne hd h1 l fun y hy=>h y (.tail _ hy))
end
theorem one_ne {p:Nat} [NeZero p] (hp:2≤p):(1:Fin p)≠0:=fun e=>by
  have:=congrArg Fin.val e
  rw [Fin.val_zero] at this
  have h1:(1:Fin p).val = 1%p:=rfl
  rw [h1,Nat.mod_eq_of_lt (by omega)] at this
  cases this
theorem fermat {p:Nat} [NeZero p] (h:Fld p) (hp:2≤p) {x:Fin p} (hx:x≠0):fpow x (p-1) = 1:=by
  obtain ⟨k,rfl⟩:∃ k,p = k+1:=⟨p-1,by omega⟩
  have hd:=h.dom
  obtain ⟨xi,hxi⟩:=h.inv x hx
  have hU:∀ y:Fin (k+1),y∈(List.finRange k).map Fin.succ↔y≠0:=fun y=>by
    constructor
    · intro hy e
      obtain ⟨z,_,hz⟩:=List.mem_map.1 hy
      exact Fin.succ_ne_zero z (hz.trans e)
    · intro hy
      obtain ⟨z,hz⟩:∃ z:Fin k,z.succ = y:=⟨y.pred hy,Fin.succ_pred y hy⟩
      exact List.mem_map.2 ⟨z,List.mem_finRange z,hz⟩
  have hn:((List.finRange k).map Fin.succ).Nodup:=by
    have:=List.nodup_finRange (k+1)
    rw [List.finRange_succ] at this
    exact (List.nodup_cons.1 this).2
  have hcan:∀ y z:Fin (k+1),x*y = x*z→y = z:=fun y z e=>by
    have:(y-z)*x = 0:=lin1 (c1:=1) (by clear hU hn hxi e; grind -lia) (sub_of_eq e)
    exact hd.cancel hx this
  have hn2:(((List.finRange k).map Fin.succ).map fun y=>x*y).Nodup:=by
    rw [List.nodup_iff_pairwise_ne] at hn ⊢
    exact List.Pairwise.map _ (fun y z hne e=>hne (hcan y z e)) hn
  have hperm:(((List.finRange k).map Fin.succ).map fun y=>x*y).Perm ((List.finRange k).map Fin.succ):=by
    rw [List.perm_ext_iff_of_nodup hn2 hn]
    intro y
    rw [hU]
    constructor
    · intro hy e
      obtain ⟨z,hz,e2⟩:=List.mem_map.1 hy
      exact hd.mul hx ((hU z).1 hz) (e2.trans e)
    · intro hy
      refine List.mem_map.2 ⟨xi*y,(hU _).2 ?_,?_⟩
      · refine hd.mul (fun e=>?_) hy
        rw [e] at hxi
        exact one_ne hp (by rw [← hxi]; clear hU hn hcan hn2 hxi; grind -lia)
      · have:x*(xi*y) = x*xi*y:=by clear hU hn hcan hn2 hxi; grind -lia
        rw [this,hxi]; clear this hU hn hcan hn2 hxi; grind -lia
  have e:=prodL_perm hperm
  rw [prodL_map,List.length_map,List.length_finRange] at e
  have hP:=prodL_ne hd (one_ne hp) _ fun y hy=>(hU y).1 hy
  generalize prodL ((List.finRange k).map Fin.succ) = P at e hP
  rw [Nat.add_sub_cancel]
  exact hd.cancel hP (lin1 (c1:=1) (by clear hU hn hcan hn2 hperm hxi hP e; grind -lia) (sub_of_eq e))
theorem fermat' {p:Nat} [NeZero p] (h:Fld p) (hp:2≤p) (x:Fin p):fpow x p = x:=by
  by_cases hx:x = 0
  · obtain ⟨k,rfl⟩:∃ k,p = k+1:=⟨p-1,by omega⟩
    rw [hx]
    show fpow 0 k*0 = 0
    grind -lia
  · have e:=fermat h hp hx
    obtain ⟨k,rfl⟩:∃ k,p = k+1:=⟨p-1,by omega⟩
    show fpow x k*x = x
    rw [Nat.add_sub_cancel] at e
    rw [e]; clear e hx; grind -lia
end Go.Proofs.Ytljblbgogjieaaa.Grp
