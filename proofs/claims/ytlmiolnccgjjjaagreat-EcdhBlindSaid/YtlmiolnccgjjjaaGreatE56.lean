/- Part 6 of what the proof leans on: a symbolic execution of the model, walks of the program's functions, and the mathematics. No condition. -/
import Derived.WalkKit
import Derived.Orders
import Derived.Laws.StructEq
import Derived.WalkSpells
import Derived.OrdersHeld
import Derived.KernelRfl
import Derived.Laws.Externs
import Derived.Laws.Bits64
import Derived.Laws.MakeOwn
import Derived.Laws.BytesString
import Derived.Carry
import Derived.WideShapes
import GoSem.Claim
import Derived.Test.YtlmiolnccgjjjaaGreatProg
import Derived.Laws.AppendOwn
import Derived.Test.YtlmiolnccgjjjaaGreatRows
import Derived.ProofKit
import Derived.OpenShut
import Derived.Test.YtlmiolnccgjjjaaGreatE55
set_option linter.unusedVariables false
set_option linter.unusedSimpArgs false
set_option maxRecDepth 20000
namespace Go.Proofs.YtlmiolnccgjjjaaGreat
open Go Go.RowKit
open Grp
theorem c_cKeyT (V:Cv) (b f X:Nat) (w:World) (hb:(Item.blk b ⟨false,opL V f,92,(0,0)⟩).holds w) (hX:X<W9) (hnW:V.n<W9) (h0:X≠0) (hn:X<V.n):Calls Tryz.prog 64 ([.pointer (some ⟨b,0,none⟩),natV X]:List Value).toArray w (fun e w'=>e = .returned (.bool true)∧Below w.heap.size w w'):=by
  refine Kg (N:=18) (rs:=[.tmp 4]) [.blk b ⟨false,opL V f,92,(0,0)⟩] Tryz.func64 rfl Tryz.ntmps64 Tryz.results64 (Nb rfl) ⟨hb,trivial⟩ rfl ?_
  show LCode _ _ _ ⟨_,_⟩ _
  refine KB (KA ?_)
  refine oS (mB (fun b3=>?_))
  refine oA ?_
  refine KC ?_
  refine KB ?_
  refine rD [] ?_
  refine aD 0 rfl (dL rfl (hv:=by exact KF Tryz.underlying25 rfl sz_25)) ?_
  refine aP 1 rfl (KJ (Kw pl_25 zr_25 rfl rfl) (show _ = natV 0 by unfold natV natL; rw [← vec_zeros 9])) ?_
  refine aP 2 rfl (KJ (Det.nea (by kernel_rfl) (fun w=>eq_nat X 0 hX zero_w9 10000 (by decide) w) rfl rfl) (show _ = Value.bool true by rw [decide_eq_false h0]; rfl)) ?_
  refine aM 3 ?_
  refine aGD 4 rfl (dL rfl (hv:=by exact KF Tryz.underlying25 rfl sz_25)) ?_
  refine aGM 5 ?_
  refine aGP 6 rfl (KR rfl) ?_
  refine aGP 7 rfl (KI (o':=0) Tryz.underlying92 rfl rfl rfl sz_89 (by decide)) ?_
  refine aGP 8 rfl (KI (o':=28) Tryz.underlying89 rfl rfl rfl sz_25 (by decide)) ?_
  refine aGD 9 rfl (dL rfl (hv:=by exact cvC_ld_n _ _ _ _ _ _ _ _ _ _ _ _ _ _ _ _)) ?_
  refine aGO 10 rfl (cF rfl en_68 rfl (fun w hw=>c_nat_Cmp X V.n hX hnW w) ?_)
  refine aGP 11 rfl (KG (v:=.bool true) rfl rfl (br_t cmp_lt (hn))) ?_
  refine aP 12 rfl (Kq rfl rfl) ?_
  refine aA 13 ?_
  refine aE ?_
  refine KN ?_
  refine ⟨[_],.cons rfl .nil,fun a w' hr=>⟨?_,hr.fr.below⟩⟩
  rfl
theorem c_cKeyZ (V:Cv) (b f:Nat) (w:World) (hb:(Item.blk b ⟨false,opL V f,92,(0,0)⟩).holds w):Calls Tryz.prog 64 ([.pointer (some ⟨b,0,none⟩),natV 0]:List Value).toArray w (fun e w'=>e = .returned (.bool false)∧Below w.heap.size w w'):=by
  refine Kg (N:=18) (rs:=[.tmp 4]) [.blk b ⟨false,opL V f,92,(0,0)⟩] Tryz.func64 rfl Tryz.ntmps64 Tryz.results64 (Nb rfl) ⟨hb,trivial⟩ rfl ?_
  show LCode _ _ _ ⟨_,_⟩ _
  refine KB (KA ?_)
  refine oS (mB (fun b3=>?_))
  refine oA ?_
  refine KC ?_
  refine KB ?_
  refine rD [] ?_
  refine aD 0 rfl (dL rfl (hv:=by exact KF Tryz.underlying25 rfl sz_25)) ?_
  refine aP 1 rfl (KJ (Kw pl_25 zr_25 rfl rfl) (show _ = natV 0 by unfold natV natL; rw [← vec_zeros 9])) ?_
  refine aP 2 rfl (KJ (Det.nea (by kernel_rfl) (fun w=>eq_nat 0 0 zero_w9 zero_w9 10000 (by decide) w) rfl rfl) (show _ = Value.bool false by rw [decide_eq_true rfl]; rfl)) ?_
  refine aM 3 ?_
  refine aK 4 ?_
  refine aK 5 ?_
  refine aK 6 ?_
  refine aK 7 ?_
  refine aK 8 ?_
  refine aK 9 ?_
  refine aK 10 ?_
  refine aK 11 ?_
  refine aP 12 rfl (Kj rfl rfl) ?_
  refine aA 13 ?_
  refine aE ?_
  refine KN ?_
  refine ⟨[_],.cons rfl .nil,fun a w' hr=>⟨?_,hr.fr.below⟩⟩
  rfl
theorem c_cKeyF (V:Cv) (b f X:Nat) (w:World) (hb:(Item.blk b ⟨false,opL V f,92,(0,0)⟩).holds w) (hX:X<W9) (hnW:V.n<W9) (h0:X≠0) (hn:V.n≤X):Calls Tryz.prog 64 ([.pointer (some ⟨b,0,none⟩),natV X]:List Value).toArray w (fun e w'=>e = .returned (.bool false)∧Below w.heap.size w w'):=by
  refine Kg (N:=18) (rs:=[.tmp 4]) [.blk b ⟨false,opL V f,92,(0,0)⟩] Tryz.func64 rfl Tryz.ntmps64 Tryz.results64 (Nb rfl) ⟨hb,trivial⟩ rfl ?_
  show LCode _ _ _ ⟨_,_⟩ _
  refine KB (KA ?_)
  refine oS (mB (fun b3=>?_))
  refine oA ?_
  refine KC ?_
  refine KB ?_
  refine rD [] ?_
  refine aD 0 rfl (dL rfl (hv:=by exact KF Tryz.underlying25 rfl sz_25)) ?_
  refine aP 1 rfl (KJ (Kw pl_25 zr_25 rfl rfl) (show _ = natV 0 by unfold natV natL; rw [← vec_zeros 9])) ?_
  refine aP 2 rfl (KJ (Det.nea (by kernel_rfl) (fun w=>eq_nat X 0 hX zero_w9 10000 (by decide) w) rfl rfl) (show _ = Value.bool true by rw [decide_eq_false h0]; rfl)) ?_
  refine aM 3 ?_
  refine aGD 4 rfl (dL rfl (hv:=by exact KF Tryz.underlying25 rfl sz_25)) ?_
  refine aGM 5 ?_
  refine aGP 6 rfl (KR rfl) ?_
  refine aGP 7 rfl (KI (o':=0) Tryz.underlying92 rfl rfl rfl sz_89 (by decide)) ?_
  refine aGP 8 rfl (KI (o':=28) Tryz.underlying89 rfl rfl rfl sz_25 (by decide)) ?_
  refine aGD 9 rfl (dL rfl (hv:=by exact cvC_ld_n _ _ _ _ _ _ _ _ _ _ _ _ _ _ _ _)) ?_
  refine aGO 10 rfl (cF rfl en_68 rfl (fun w hw=>c_nat_Cmp X V.n hX hnW w) ?_)
  refine aGP 11 rfl (KG (v:=.bool false) rfl rfl (br_f cmp_lt (Nat.not_lt_of_le hn))) ?_
  refine aP 12 rfl (Kq rfl rfl) ?_
  refine aA 13 ?_
  refine aE ?_
  refine KN ?_
  refine ⟨[_],.cons rfl .nil,fun a w' hr=>⟨?_,hr.fr.below⟩⟩
  rfl
theorem c_kCheckT (id:Int) (V:Cv) (K:Nat) (w:World) (h:cvI id = some V) (h0:K≠0) (hn:K<V.n):Calls Tryz.prog 40 ([.int .i64 id,natV K]:List Value).toArray w (fun e w'=>e = .returned (.int .i64 ((0:Nat):Int))∧Below w.heap.size w w'):=by
  obtain ⟨hok,hid⟩:=cvI_ok h
  have hbb:=hok.bounds
  have hpW:V.p<W9:=KAO hbb.2.1
  have hnW:V.n<W9:=KAO hbb.2.2.2.2.2.2.1
  have hbl:=blen_w9 hnW
  have hnb:nby V.n≤72:=by (unfold nby; omega)
  refine Kg (N:=16) (rs:=[.tmp 4]) [] Tryz.func40 rfl Tryz.ntmps40 Tryz.results40 (Nb rfl) trivial rfl ?_
  show LCode _ _ _ ⟨_,_⟩ _
  refine KB (KA ?_)
  refine oS (mB (fun b3=>?_))
  refine oP (KY (v:=.int .i64 ((0:Nat):Int)) rfl) ?_
  refine KC ?_
  refine KB (KA ?_)
  refine oM ?_
  refine oS (KAQ (Post:=fun v its=>∃ b f bd,v = .pointer (some ⟨b,0,none⟩)∧its = [.blk b ⟨false,opL V f,92,(0,0)⟩,.blk f ⟨false,fldL V.p bd,116,(0,0)⟩,.blk bd ⟨false,dvL V.p,167,(0,0)⟩]) (first:=[]) rfl en_39 rfl (Nb rfl) (fun w1 hw hs=>(c_Open _ V w1 h).mono fun e w' ⟨b,f,bd,h1,h2,h3,h4,h5,h6,h7,h8⟩=>⟨_,_,⟨b,f,bd,rfl,rfl⟩,h1,KAT h8 (by intro x hx; simp at hx; rcases hx with rfl|rfl|rfl; exact h2; exact h3; exact h4) (by intro x hx; simp at hx; rcases hx with rfl|rfl|rfl <;> rfl) (by intro x hx k hk; simp at hx; rcases hx with rfl|rfl|rfl <;> simp [Item.fp] at hk <;> subst hk; exact .inl h5; exact .inl h6; exact .inl h7)⟩) ?_)
  rintro _ _ ⟨b,f,bd,rfl,rfl⟩
  refine oA ?_
  refine KC ?_
  refine KB ?_
  refine LCode.block ?_
  refine KB (KA ?_)
  refine oM ?_
  refine oP (KJ (Det.eqp Tryz.underlying79 rfl rfl) (show _ = Value.bool false from rfl)) ?_
  refine oA ?_
  refine KC ?_
  refine KQ rfl ?_
  refine KB (KA ?_)
  refine oM ?_
  refine oD (dL rfl (hv:=by exact KF Tryz.underlying25 rfl sz_25)) ?_
  refine oS (cF rfl en_64 rfl (fun w hw=>c_cKeyT V b f K w (mC hw) (Nat.lt_trans hn hnW) hnW h0 hn) ?_)
  refine oP (KJ (Det.not rfl) (show _ = Value.bool false from rfl)) ?_
  refine oA ?_
  refine KC ?_
  refine KQ rfl ?_
  refine KS ?_
  refine KB (KA ?_)
  refine oP (KY (v:=.int .i64 ((0:Nat):Int)) rfl) ?_
  refine KC (KN ?_)
  refine ⟨[_],.cons rfl .nil,fun a w' hr=>⟨?_,hr.fr.below⟩⟩
  rfl
theorem c_kCheckZ (id:Int) (V:Cv) (w:World) (h:cvI id = some V):Calls Tryz.prog 40 ([.int .i64 id,natV 0]:List Value).toArray w (fun e w'=>e = .returned (.int .i64 ((2401:Nat):Int))∧Below w.heap.size w w'):=by
  obtain ⟨hok,hid⟩:=cvI_ok h
  have hbb:=hok.bounds
  have hpW:V.p<W9:=KAO hbb.2.1
  have hnW:V.n<W9:=KAO hbb.2.2.2.2.2.2.1
  have hbl:=blen_w9 hnW
  have hnb:nby V.n≤72:=by (unfold nby; omega)
  refine Kg (N:=16) (rs:=[.tmp 4]) [] Tryz.func40 rfl Tryz.ntmps40 Tryz.results40 (Nb rfl) trivial rfl ?_
  show LCode _ _ _ ⟨_,_⟩ _
  refine KB (KA ?_)
  refine oS (mB (fun b3=>?_))
  refine oP (KY (v:=.int .i64 ((0:Nat):Int)) rfl) ?_
  refine KC ?_
  refine KB (KA ?_)
  refine oM ?_
  refine oS (KAQ (Post:=fun v its=>∃ b f bd,v = .pointer (some ⟨b,0,none⟩)∧its = [.blk b ⟨false,opL V f,92,(0,0)⟩,.blk f ⟨false,fldL V.p bd,116,(0,0)⟩,.blk bd ⟨false,dvL V.p,167,(0,0)⟩]) (first:=[]) rfl en_39 rfl (Nb rfl) (fun w1 hw hs=>(c_Open _ V w1 h).mono fun e w' ⟨b,f,bd,h1,h2,h3,h4,h5,h6,h7,h8⟩=>⟨_,_,⟨b,f,bd,rfl,rfl⟩,h1,KAT h8 (by intro x hx; simp at hx; rcases hx with rfl|rfl|rfl; exact h2; exact h3; exact h4) (by intro x hx; simp at hx; rcases hx with rfl|rfl|rfl <;> rfl) (by intro x hx k hk; simp at hx; rcases hx with rfl|rfl|rfl <;> simp [Item.fp] at hk <;> subst hk; exact .inl h5; exact .inl h6; exact .inl h7)⟩) ?_)
  rintro _ _ ⟨b,f,bd,rfl,rfl⟩
  refine oA ?_
  refine KC ?_
  refine KB ?_
  refine LCode.block ?_
  refine KB (KA ?_)
  refine oM ?_
  refine oP (KJ (Det.eqp Tryz.underlying79 rfl rfl) (show _ = Value.bool false from rfl)) ?_
  refine oA ?_
  refine KC ?_
  refine KQ rfl ?_
  refine KB (KA ?_)
  refine oM ?_
  refine oD (dL rfl (hv:=by exact KF Tryz.underlying25 rfl sz_25)) ?_
  refine oS (cF rfl en_64 rfl (fun w hw=>c_cKeyZ V b f w (mC hw)) ?_)
  refine oP (KJ (Det.not rfl) (show _ = Value.bool true from rfl)) ?_
  refine oA ?_
  refine KC ?_
  refine Kd rfl ?_
  refine KB (KA ?_)
  refine oP (KY (v:=.int .i64 ((2401:Nat):Int)) rfl) ?_
  refine KC (KN ?_)
  refine ⟨[_],.cons rfl .nil,fun a w' hr=>⟨?_,hr.fr.below⟩⟩
  rfl
theorem c_kCheckF (id:Int) (V:Cv) (K:Nat) (w:World) (h:cvI id = some V) (hX:K<W9) (h0:K≠0) (hn:V.n≤K):Calls Tryz.prog 40 ([.int .i64 id,natV K]:List Value).toArray w (fun e w'=>e = .returned (.int .i64 ((2401:Nat):Int))∧Below w.heap.size w w'):=by
  obtain ⟨hok,hid⟩:=cvI_ok h
  have hbb:=hok.bounds
  have hpW:V.p<W9:=KAO hbb.2.1
  have hnW:V.n<W9:=KAO hbb.2.2.2.2.2.2.1
  have hbl:=blen_w9 hnW
  have hnb:nby V.n≤72:=by (unfold nby; omega)
  refine Kg (N:=16) (rs:=[.tmp 4]) [] Tryz.func40 rfl Tryz.ntmps40 Tryz.results40 (Nb rfl) trivial rfl ?_
  show LCode _ _ _ ⟨_,_⟩ _
  refine KB (KA ?_)
  refine oS (mB (fun b3=>?_))
  refine oP (KY (v:=.int .i64 ((0:Nat):Int)) rfl) ?_
  refine KC ?_
  refine KB (KA ?_)
  refine oM ?_
  refine oS (KAQ (Post:=fun v its=>∃ b f bd,v = .pointer (some ⟨b,0,none⟩)∧its = [.blk b ⟨false,opL V f,92,(0,0)⟩,.blk f ⟨false,fldL V.p bd,116,(0,0)⟩,.blk bd ⟨false,dvL V.p,167,(0,0)⟩]) (first:=[]) rfl en_39 rfl (Nb rfl) (fun w1 hw hs=>(c_Open _ V w1 h).mono fun e w' ⟨b,f,bd,h1,h2,h3,h4,h5,h6,h7,h8⟩=>⟨_,_,⟨b,f,bd,rfl,rfl⟩,h1,KAT h8 (by intro x hx; simp at hx; rcases hx with rfl|rfl|rfl; exact h2; exact h3; exact h4) (by intro x hx; simp at hx; rcases hx with rfl|rfl|rfl <;> rfl) (by intro x hx k hk; simp at hx; rcases hx with rfl|rfl|rfl <;> simp [Item.fp] at hk <;> subst hk; exact .inl h5; exact .inl h6; exact .inl h7)⟩) ?_)
  rintro _ _ ⟨b,f,bd,rfl,rfl⟩
  refine oA ?_
  refine KC ?_
  refine KB ?_
  refine LCode.block ?_
  refine KB (KA ?_)
  refine oM ?_
  refine oP (KJ (Det.eqp Tryz.underlying79 rfl rfl) (show _ = Value.bool false from rfl)) ?_
  refine oA ?_
  refine KC ?_
  refine KQ rfl ?_
  refine KB (KA ?_)
  refine oM ?_
  refine oD (dL rfl (hv:=by exact KF Tryz.underlying25 rfl sz_25)) ?_
  refine oS (cF rfl en_64 rfl (fun w hw=>c_cKeyF V b f K w (mC hw) hX hnW h0 hn) ?_)
  refine oP (KJ (Det.not rfl) (show _ = Value.bool true from rfl)) ?_
  refine oA ?_
  refine KC ?_
  refine Kd rfl ?_
  refine KB (KA ?_)
  refine oP (KY (v:=.int .i64 ((2401:Nat):Int)) rfl) ?_
  refine KC (KN ?_)
  refine ⟨[_],.cons rfl .nil,fun a w' hr=>⟨?_,hr.fr.below⟩⟩
  rfl
theorem c_eShared_none (tb:Option Nat) (id:Int) (K:Nat) (s:ByteArray) (w:World) (h:cvI id = none):Calls Tryz.prog 19 ([trV tb,.int .i64 id,natV K,.string s]:List Value).toArray w (fun e w'=>e = .returned (.tuple #[.string ⟨#[]⟩,.int .i64 ((2500:Nat):Int)])∧Below w.heap.size w w'):=by
  refine Kg (N:=55) (rs:=[.tmp 8,.tmp 9]) [] Tryz.func19 rfl Tryz.ntmps19 Tryz.results19 (Nb rfl) trivial rfl ?_
  show LCode _ _ _ ⟨_,_⟩ _
  refine KB (KA ?_)
  refine oS (mB (fun b6=>?_))
  refine oA ?_
  refine oP (KY (v:=.int .i64 ((0:Nat):Int)) rfl) ?_
  refine KC ?_
  refine KB (KA ?_)
  refine oM ?_
  refine oS (cF rfl en_39 rfl (fun w hw=>c_Open_none id w h) ?_)
  refine oA ?_
  refine KC ?_
  refine KB ?_
  refine LCode.block ?_
  refine KB (KA ?_)
  refine oM ?_
  refine oP (KJ (Det.eqp Tryz.underlying79 rfl rfl) (show _ = Value.bool true from rfl)) ?_
  refine oA ?_
  refine KC ?_
  refine Kd rfl ?_
  refine KB (KA ?_)
  refine oA ?_
  refine oP (KY (v:=.int .i64 ((2500:Nat):Int)) rfl) ?_
  refine KC (KN ?_)
  refine ⟨[_,_],.cons rfl (.cons rfl .nil),fun a w' hr=>⟨?_,hr.fr.below⟩⟩
  rfl
theorem c_eShared_key (tb:Option Nat) (id:Int) (V:Cv) (K:Nat) (s:ByteArray) (w:World) (h:cvI id = some V) (hX:K<W9) (hk:K = 0∨V.n≤K):Calls Tryz.prog 19 ([trV tb,.int .i64 id,natV K,.string s]:List Value).toArray w (fun e w'=>e = .returned (.tuple #[.string ⟨#[]⟩,.int .i64 ((2501:Nat):Int)])∧Below w.heap.size w w'):=by
  obtain ⟨hok,hid⟩:=cvI_ok h
  have hbb:=hok.bounds
  have hpW:V.p<W9:=KAO hbb.2.1
  have hnW:V.n<W9:=KAO hbb.2.2.2.2.2.2.1
  have hbl:=blen_w9 hnW
  have hnb:nby V.n≤72:=by (unfold nby; omega)
  refine Kg (N:=55) (rs:=[.tmp 8,.tmp 9]) [] Tryz.func19 rfl Tryz.ntmps19 Tryz.results19 (Nb rfl) trivial rfl ?_
  show LCode _ _ _ ⟨_,_⟩ _
  refine KB (KA ?_)
  refine oS (mB (fun b6=>?_))
  refine oA ?_
  refine oP (KY (v:=.int .i64 ((0:Nat):Int)) rfl) ?_
  refine KC ?_
  refine KB (KA ?_)
  refine oM ?_
  refine oS (KAQ (Post:=fun v its=>∃ b f bd,v = .pointer (some ⟨b,0,none⟩)∧its = [.blk b ⟨false,opL V f,92,(0,0)⟩,.blk f ⟨false,fldL V.p bd,116,(0,0)⟩,.blk bd ⟨false,dvL V.p,167,(0,0)⟩]) (first:=[]) rfl en_39 rfl (Nb rfl) (fun w1 hw hs=>(c_Open _ V w1 h).mono fun e w' ⟨b,f,bd,h1,h2,h3,h4,h5,h6,h7,h8⟩=>⟨_,_,⟨b,f,bd,rfl,rfl⟩,h1,KAT h8 (by intro x hx; simp at hx; rcases hx with rfl|rfl|rfl; exact h2; exact h3; exact h4) (by intro x hx; simp at hx; rcases hx with rfl|rfl|rfl <;> rfl) (by intro x hx k hk; simp at hx; rcases hx with rfl|rfl|rfl <;> simp [Item.fp] at hk <;> subst hk; exact .inl h5; exact .inl h6; exact .inl h7)⟩) ?_)
  rintro _ _ ⟨b,f,bd,rfl,rfl⟩
  refine oA ?_
  refine KC ?_
  refine KB ?_
  refine LCode.block ?_
  refine KB (KA ?_)
  refine oM ?_
  refine oP (KJ (Det.eqp Tryz.underlying79 rfl rfl) (show _ = Value.bool false from rfl)) ?_
  refine oA ?_
  refine KC ?_
  refine KQ rfl ?_
  refine KB ?_
  rcases (show K = 0∨K≠0 by omega) with rfl|h0
  ·
    refine KA ?_
    refine oM ?_
    refine oD (dL rfl (hv:=by exact KF Tryz.underlying25 rfl sz_25)) ?_
    refine oS (cF rfl en_40 rfl (fun w hw=>c_kCheckZ id V w h) ?_)
    refine oP (KG (v:=.bool true) rfl rfl (br_t (br_neq (b:=0)) (by decide))) ?_
    refine oA ?_
    refine KC ?_
    refine Kd rfl ?_
    refine KB (KA ?_)
    refine oA ?_
    refine oP (KY (v:=.int .i64 ((2501:Nat):Int)) rfl) ?_
    refine KC (KN ?_)
    refine ⟨[_,_],.cons rfl (.cons rfl .nil),fun a w' hr=>⟨?_,hr.fr.below⟩⟩
    rfl
  ·
    refine KA ?_
    refine oM ?_
    refine oD (dL rfl (hv:=by exact KF Tryz.underlying25 rfl sz_25)) ?_
    refine oS (cF rfl en_40 rfl (fun w hw=>c_kCheckF id V K w h hX h0 (by omega)) ?_)
    refine oP (KG (v:=.bool true) rfl rfl (br_t (br_neq (b:=0)) (by decide))) ?_
    refine oA ?_
    refine KC ?_
    refine Kd rfl ?_
    refine KB (KA ?_)
    refine oA ?_
    refine oP (KY (v:=.int .i64 ((2501:Nat):Int)) rfl) ?_
    refine KC (KN ?_)
    refine ⟨[_,_],.cons rfl (.cons rfl .nil),fun a w' hr=>⟨?_,hr.fr.below⟩⟩
    rfl
theorem c_eShared_pt (tb:Option Nat) (id:Int) (V:Cv) (K:Nat) (s:ByteArray) (X Y e:Nat) (w:World) (h:cvI id = some V) (h0:K≠0) (hn:K<V.n) (hs:s.size<9223372036854775808) (hg:getT V s = (X,Y,e)) (he:e≠0):Calls Tryz.prog 19 ([trV tb,.int .i64 id,natV K,.string s]:List Value).toArray w (fun e w'=>e = .returned (.tuple #[.string ⟨#[]⟩,.int .i64 ((2502:Nat):Int)])∧Below w.heap.size w w'):=by
  obtain ⟨hok,hid⟩:=cvI_ok h
  have hbb:=hok.bounds
  have hpW:V.p<W9:=KAO hbb.2.1
  have hnW:V.n<W9:=KAO hbb.2.2.2.2.2.2.1
  have hbl:=blen_w9 hnW
  have hnb:nby V.n≤72:=by (unfold nby; omega)
  refine Kg (N:=55) (rs:=[.tmp 8,.tmp 9]) [] Tryz.func19 rfl Tryz.ntmps19 Tryz.results19 (Nb rfl) trivial rfl ?_
  show LCode _ _ _ ⟨_,_⟩ _
  refine KB (KA ?_)
  refine oS (mB (fun b6=>?_))
  refine oA ?_
  refine oP (KY (v:=.int .i64 ((0:Nat):Int)) rfl) ?_
  refine KC ?_
  refine KB (KA ?_)
  refine oM ?_
  refine oS (KAQ (Post:=fun v its=>∃ b f bd,v = .pointer (some ⟨b,0,none⟩)∧its = [.blk b ⟨false,opL V f,92,(0,0)⟩,.blk f ⟨false,fldL V.p bd,116,(0,0)⟩,.blk bd ⟨false,dvL V.p,167,(0,0)⟩]) (first:=[]) rfl en_39 rfl (Nb rfl) (fun w1 hw hs=>(c_Open _ V w1 h).mono fun e w' ⟨b,f,bd,h1,h2,h3,h4,h5,h6,h7,h8⟩=>⟨_,_,⟨b,f,bd,rfl,rfl⟩,h1,KAT h8 (by intro x hx; simp at hx; rcases hx with rfl|rfl|rfl; exact h2; exact h3; exact h4) (by intro x hx; simp at hx; rcases hx with rfl|rfl|rfl <;> rfl) (by intro x hx k hk; simp at hx; rcases hx with rfl|rfl|rfl <;> simp [Item.fp] at hk <;> subst hk; exact .inl h5; exact .inl h6; exact .inl h7)⟩) ?_)
  rintro _ _ ⟨b,f,bd,rfl,rfl⟩
  refine oA ?_
  refine KC ?_
  refine KB ?_
  refine LCode.block ?_
  refine KB (KA ?_)
  refine oM ?_
  refine oP (KJ (Det.eqp Tryz.underlying79 rfl rfl) (show _ = Value.bool false from rfl)) ?_
  refine oA ?_
  refine KC ?_
  refine KQ rfl ?_
  refine KB (KA ?_)
  refine oM ?_
  refine oD (dL rfl (hv:=by exact KF Tryz.underlying25 rfl sz_25)) ?_
  refine oS (cF rfl en_40 rfl (fun w hw=>c_kCheckT id V K w h h0 hn) ?_)
  refine oP (KG (v:=.bool false) rfl rfl (br_f (br_neq (b:=0)) (by decide))) ?_
  refine oA ?_
  refine KC ?_
  refine KQ rfl ?_
  refine KS ?_
  refine KB (KA ?_)
  refine oM ?_
  refine oM ?_
  refine oS (cF rfl en_41 rfl (fun w hw=>c_s_GetE X Y e id V s w h hs hg) ?_)
  refine oM ?_
  refine oP (Det.extract rfl rfl) ?_
  refine oP (Det.extract rfl rfl) ?_
  refine oS (mk (KV zr_83) (fun b11=>?_))
  refine KU rfl (sA rfl rfl sz_83 (by exact Kb _ _ _) (hl:=by exact KL _ _ _) (h:=?_))
  refine oA ?_
  refine KC ?_
  refine KB ?_
  refine KB (KA ?_)
  refine oM ?_
  refine oP (KG (v:=.bool true) rfl rfl (br_t (br_neq (b:=0)) ((by omega)))) ?_
  refine KC ?_
  refine Kd rfl ?_
  refine KB (KA ?_)
  refine oA ?_
  refine oP (KY (v:=.int .i64 ((2502:Nat):Int)) rfl) ?_
  refine KC (KN ?_)
  refine ⟨[_,_],.cons rfl (.cons rfl .nil),fun a w' hr=>⟨?_,hr.fr.below⟩⟩
  rfl
theorem c_eShared (tb:Option Nat) (tr:TrRow) (l:List Nat) (id:Int) (V:Cv) (K:Nat) (s:ByteArray) (x y:Fin V.p) (m:Nat) (hm:(blen V.n+3)/4 = m) (w:World) (h:cvI id = some V) (hk0:K≠0) (hn:K<V.n) (hs:s.size<9223372036854775808) (hg:getT V s = (x.val,y.val,0)) (hP:On V.A V.B (.aff x y)) (h0:(trI tb tr l).holds w) (hl:l.length≤80000000):Calls Tryz.prog 19 ([trV tb,.int .i64 id,natV K,.string s]:List Value).toArray w (fun e w'=>TrR w tb tr (l++evN m) (.tuple #[.string (coB V (xv (pmul V.A (.aff x y:Pt V.p) K))),.int .i64 ((0:Nat):Int)]) e w'):=by
  obtain ⟨hok,hid⟩:=cvI_ok h
  have hbb:=hok.bounds
  have hpW:V.p<W9:=KAO hbb.2.1
  have hnW:V.n<W9:=KAO hbb.2.2.2.2.2.2.1
  have hbl:=blen_w9 hnW
  have hnb:nby V.n≤72:=by (unfold nby; omega)
  have hnp:=nbp_72 hok
  refine calls_tr (N:=55) (rs:=[.tmp 8,.tmp 9]) tb tr l [] Tryz.func19 rfl Tryz.ntmps19 Tryz.results19 (Nb rfl) h0 trivial rfl trivial ?_
  show LCode _ _ _ ⟨_,_⟩ _
  refine KB (KA ?_)
  refine oS (mB (fun b6=>?_))
  refine oA ?_
  refine oP (KY (v:=.int .i64 ((0:Nat):Int)) rfl) ?_
  refine KC ?_
  refine KB (KA ?_)
  refine oM ?_
  refine oS (KAQ (Post:=fun v its=>∃ b f bd,v = .pointer (some ⟨b,0,none⟩)∧its = [.blk b ⟨false,opL V f,92,(0,0)⟩,.blk f ⟨false,fldL V.p bd,116,(0,0)⟩,.blk bd ⟨false,dvL V.p,167,(0,0)⟩]) (first:=[]) rfl en_39 rfl (Nb rfl) (fun w1 hw hs=>(c_Open _ V w1 h).mono fun e w' ⟨b,f,bd,h1,h2,h3,h4,h5,h6,h7,h8⟩=>⟨_,_,⟨b,f,bd,rfl,rfl⟩,h1,KAT h8 (by intro x hx; simp at hx; rcases hx with rfl|rfl|rfl; exact h2; exact h3; exact h4) (by intro x hx; simp at hx; rcases hx with rfl|rfl|rfl <;> rfl) (by intro x hx k hk; simp at hx; rcases hx with rfl|rfl|rfl <;> simp [Item.fp] at hk <;> subst hk; exact .inl h5; exact .inl h6; exact .inl h7)⟩) ?_)
  rintro _ _ ⟨b,f,bd,rfl,rfl⟩
  refine oA ?_
  refine KC ?_
  refine KB ?_
  refine LCode.block ?_
  refine KB (KA ?_)
  refine oM ?_
  refine oP (KJ (Det.eqp Tryz.underlying79 rfl rfl) (show _ = Value.bool false from rfl)) ?_
  refine oA ?_
  refine KC ?_
  refine KQ rfl ?_
  refine KB (KA ?_)
  refine oM ?_
  refine oD (dL rfl (hv:=by exact KF Tryz.underlying25 rfl sz_25)) ?_
  refine oS (cF rfl en_40 rfl (fun w hw=>c_kCheckT id V K w h hk0 hn) ?_)
  refine oP (KG (v:=.bool false) rfl rfl (br_f (br_neq (b:=0)) (by decide))) ?_
  refine oA ?_
  refine KC ?_
  refine KQ rfl ?_
  refine KS ?_
  refine KB (KA ?_)
  refine oM ?_
  refine oM ?_
  refine oS (cF rfl en_41 rfl (fun w hw=>c_s_GetE x.val y.val 0 id V s w h hs hg) ?_)
  refine oM ?_
  refine oP (Det.extract rfl rfl) ?_
  refine oP (Det.extract rfl rfl) ?_
  refine oS (mk (KV zr_83) (fun b11=>?_))
  refine KU rfl (sA rfl rfl sz_83 (by exact Kb _ _ _) (hl:=by simp [KL,KH]) (h:=?_))
  refine oA ?_
  refine KC ?_
  refine KB ?_
  refine KB (KA ?_)
  refine oM ?_
  refine oP (KG (v:=.bool false) rfl rfl (br_f (br_neq (b:=0)) (by decide))) ?_
  refine KC ?_
  refine KQ rfl ?_
  refine KS ?_
  refine KB (KA ?_)
  refine oM ?_
  refine oM ?_
  refine oD (dL rfl (hv:=by exact KF Tryz.underlying25 rfl sz_25)) ?_
  refine oD (dL rfl (hv:=by exact KF Tryz.underlying83 rfl sz_83)) ?_
  refine KU rfl (LStepW.callT (first:=[]) (r:=tr) (l:=l) (l':=l++evN m) rfl en_42 rfl (Nb rfl) (by repeat (first|exact Pick.head _|apply Pick.tail)) (fun w hw hn0=>c_mMul tb tr l id V K (.aff x y) m hm w h hP hn (mC hw) hl) ?_)
  intro r1
  refine oM ?_
  refine oP (Det.extract rfl rfl) ?_
  refine oP (Det.extract rfl rfl) ?_
  refine oS (mk (KV zr_83) (fun b13=>?_))
  refine KU rfl (sA rfl rfl sz_83 (by exact Kb _ _ _) (hl:=by simp [KL,KH]) (h:=?_))
  refine oA ?_
  refine KC ?_
  refine KB ?_
  refine rD [] ?_
  refine aP 0 rfl (KI (o':=0) Tryz.underlying83 rfl rfl rfl sz_25 (by decide)) ?_
  refine aD 1 rfl (dL rfl (hv:=by exact KAC Tryz.underlying25 rfl sz_25 rfl (KD _))) ?_
  refine aM 2 ?_
  refine aP 3 rfl (KR rfl) ?_
  refine aP 4 rfl (KI (o':=0) Tryz.underlying92 rfl rfl rfl sz_89 (by decide)) ?_
  refine aP 5 rfl (KI (o':=57) Tryz.underlying89 rfl rfl rfl sz_3 (by decide)) ?_
  refine aD 6 rfl (dL rfl (hv:=KP Tryz.underlying3 rfl (by exact cvC_gt_size _ _ _ _ _ _ _ _ _ _ _ _ _))) ?_
  refine aO 7 rfl (cF rfl en_43 rfl (fun w hw=>c_nat_BytesOK (xv (pmul V.A (.aff x y:Pt V.p) K)) (nby V.p) w (Nat.lt_trans (xv_lt _) hpW) hnp (nby_le (xv_lt _))) ?_)
  refine aM 8 ?_
  refine aP 9 rfl (Det.extract rfl rfl) ?_
  refine aP 10 rfl (Det.extract rfl rfl) ?_
  refine aA 11 ?_
  refine aA 12 ?_
  refine aE ?_
  refine KB (KA ?_)
  refine oM ?_
  refine oA ?_
  refine oP (KY (v:=.int .i64 ((0:Nat):Int)) rfl) ?_
  refine KC (KN ?_)
  exact ⟨[_,_],.cons rfl (.cons rfl .nil),fun a w' hr=>hr.tr (by repeat (first|exact Mh _|apply Mt))⟩
theorem c_eSharedN (R:ByteArray) (id:Int) (V:Cv) (K:Nat) (s:ByteArray) (x y:Fin V.p) (w:World) (h:cvI id = some V) (h0:K≠0) (hn:K<V.n) (hs:s.size<9223372036854775808) (hg:getT V s = (x.val,y.val,0)) (hP:On V.A V.B (.aff x y)) (hR:coB V (xv (pmul V.A (.aff x y:Pt V.p) K)) = R):Calls Tryz.prog 19 ([.pointer none,.int .i64 id,natV K,.string s]:List Value).toArray w (fun e w'=>e = .returned (.tuple #[.string R,.int .i64 ((0:Nat):Int)])∧Below w.heap.size w w') :=
  hR ▸ (c_eShared none none [] id V K s x y _ rfl w h h0 hn hs hg hP (trI_nil _ _) (Nat.zero_le _)).mono fun e w' h=>TrR.nil h
end Go.Proofs.YtlmiolnccgjjjaaGreat
set_option linter.unusedVariables false
set_option linter.unusedSimpArgs false
set_option maxRecDepth 20000
namespace Go.Proofs.YtlmiolnccgjjjaaGreat
open Go Go.RowKit
open Grp
def keyN (V:Cv) (A:Nat):Nat:=A%(V.n-1)+1
theorem keyN_lt {V:Cv} (hok:V.Ok) (A:Nat):keyN V A≠0∧keyN V A<V.n:=by
  have hb:=hok.bounds
  have:=Nat.mod_lt A (show 0<V.n-1 by omega)
  unfold keyN; omega
theorem aw25_g:getT cv13 ⟨#[4,2,84]⟩ = ((c cv13.p cv13.x).val,(c cv13.p cv13.y).val,0):=by
  rw [getT_l,nby13]; decide +kernel
theorem aw25_0:getT cv13 ⟨#[0]⟩ = (0,0,2102):=by
  rw [getT_l,nby13]; decide +kernel
theorem aw25_r (hok:cv13.Ok):(coB cv13 (xv (pmul cv13.A (.aff (c cv13.p cv13.x) (c cv13.p cv13.y)) 1))).data.toList = [2]:=by
  have e:pmul cv13.A (.aff (c cv13.p cv13.x) (c cv13.p cv13.y)) 1 = (.aff (c cv13.p cv13.x) (c cv13.p cv13.y):Pt cv13.p):=by
    show padd cv13.A .inf _ = _
    exact hok.inf_add hok.on
  rw [e,coB_l,nby13]
  show beBytes 1 (c cv13.p cv13.x).val = [2]
  decide +kernel
theorem c_some (Q:CQ) (V:Cv) (A:Nat) (w:World) (hc:(crvI Q V).holds w) (hok:V.Ok) (hA:A<W9):Calls Tryz.prog 14 ([.agg (crvL Q V).toArray,natV A]:List Value).toArray w (fun e w'=>e = .returned (natV (keyN V A))∧Below w.heap.size w w'):=by
  have hbb:=hok.bounds
  have hsn:=hok.sz.n
  have hdA:=nw_w9_dig hA
  have hd1:=nw_one
  have hdm:=D.nw_mono (Nat.mod_le A (V.n-1))
  refine Kg (N:=17) (rs:=[.cell 4 25]) [crvI Q V] Tryz.func14 rfl Tryz.ntmps14 Tryz.results14 (Nb rfl) ⟨hc,trivial⟩ rfl ?_
  show LCode _ _ _ ⟨_,_⟩ _
  refine KB (KA ?_)
  refine oS (mB (fun b2=>?_))
  refine oS (mB (fun b3=>?_))
  refine oS (mk (KV zr_25) (fun b4=>?_))
  refine KC ?_
  refine KB ?_
  refine rD [] ?_
  refine aD 0 rfl (dL rfl (hv:=by exact KF Tryz.underlying25 rfl sz_25)) ?_
  refine aP 2 rfl (KI (o':=4) Tryz.underlying30 rfl rfl rfl sz_28 (by decide)) ?_
  refine aD 3 rfl (dL rfl (hv:=KP Tryz.underlying28 rfl (by first|rfl|exact Kf _ _ _ (by omega)|exact Ke _ (by omega)|exact Kc _ (by omega)|exact dv_m _ _ _ (by omega)))) ?_
  refine LAny.twoX 1 4 rfl rfl rfl rfl (by kernel_rfl) (.inr (cZ rfl en_11 rfl (fun w hw hs=>(c_n_From A hA w).mono fun e w' h=>KAU (Old.nil _) hs h) ?_)) (.inr (mk (KAF Tryz.underlying28 inf_57 rfl rfl rfl rfl (by decide) rfl) (fun b10=>?_)))
  ·
    rintro _ _ ⟨qa,rfl,rfl,hna⟩
    refine aO 4 rfl (mk (KAF Tryz.underlying28 inf_57 rfl rfl rfl rfl (by decide) rfl) (fun b10=>?_))
    refine aO 5 rfl (cZ rfl en_16 rfl (fun w hw hs=>(c_n_Sub Q.n ⟨false,b10,1⟩ V.n 1 w (crvI_n (mC hw)) (n1_blk (mC hw) (by decide)) (by omega) (by omega)).mono fun e w' h=>KAU (Old.nil _) hs h) ?_)
    rintro _ _ ⟨qs,rfl,rfl,hns⟩
    refine aO 6 rfl (cZ rfl en_35 rfl (fun w hw hs=>(c_n_Mod qa qs A (V.n-1) (by omega) w (mC hw) (mC hw) (by omega)).mono fun e w' h=>KAU (Old.one (x:=numT qa A) (by repeat (first|exact Mh _|apply Mt)) rfl) hs h) ?_)
    rintro _ _ ⟨qm,rfl,rfl,hnm⟩
    refine aA 7 ?_
    refine aE ?_
    refine KB (KA ?_)
    refine oM ?_
    refine oS (mk (KAF Tryz.underlying28 inf_57 rfl rfl rfl rfl (by decide) rfl) (fun b14=>?_))
    refine oS (cZ rfl en_36 rfl (fun w hw hs=>(c_n_Add qm ⟨false,b14,1⟩ (A%(V.n-1)) 1 w (mC hw) (n1_blk (mC hw) (by decide)) (by omega) (by omega)).mono fun e w' h=>KAU (Old.nil _) hs h) ?_)
    rintro _ _ ⟨qr,rfl,rfl,hnr⟩
    refine oS (cF rfl en_15 rfl (fun w hw=>c_n_Nat qr (A%(V.n-1)+1) (D.nw (A%(V.n-1)+1)) w (mC hw)) ?_)
    refine KU rfl (sA rfl rfl sz_25 (by exact KZ _) (hl:=by exact KD _) (h:=?_))
    refine KC (KN ?_)
    refine ⟨[_],.cons ⟨_,_,_,rfl,(by repeat (first|exact Mh _|apply Mt)),by exact KF Tryz.underlying25 rfl sz_25⟩ .nil,fun a w' hr=>⟨?_,hr.fr.below⟩⟩
    rfl
  ·
    refine aO 1 rfl (cZ rfl en_11 rfl (fun w hw hs=>(c_n_From A hA w).mono fun e w' h=>KAU (Old.nil _) hs h) ?_)
    rintro _ _ ⟨qa,rfl,rfl,hna⟩
    refine aO 5 rfl (cZ rfl en_16 rfl (fun w hw hs=>(c_n_Sub Q.n ⟨false,b10,1⟩ V.n 1 w (crvI_n (mC hw)) (n1_blk (mC hw) (by decide)) (by omega) (by omega)).mono fun e w' h=>KAU (Old.nil _) hs h) ?_)
    rintro _ _ ⟨qs,rfl,rfl,hns⟩
    refine aO 6 rfl (cZ rfl en_35 rfl (fun w hw hs=>(c_n_Mod qa qs A (V.n-1) (by omega) w (mC hw) (mC hw) (by omega)).mono fun e w' h=>KAU (Old.one (x:=numT qa A) (by repeat (first|exact Mh _|apply Mt)) rfl) hs h) ?_)
    rintro _ _ ⟨qm,rfl,rfl,hnm⟩
    refine aA 7 ?_
    refine aE ?_
    refine KB (KA ?_)
    refine oM ?_
    refine oS (mk (KAF Tryz.underlying28 inf_57 rfl rfl rfl rfl (by decide) rfl) (fun b14=>?_))
    refine oS (cZ rfl en_36 rfl (fun w hw hs=>(c_n_Add qm ⟨false,b14,1⟩ (A%(V.n-1)) 1 w (mC hw) (n1_blk (mC hw) (by decide)) (by omega) (by omega)).mono fun e w' h=>KAU (Old.nil _) hs h) ?_)
    rintro _ _ ⟨qr,rfl,rfl,hnr⟩
    refine oS (cF rfl en_15 rfl (fun w hw=>c_n_Nat qr (A%(V.n-1)+1) (D.nw (A%(V.n-1)+1)) w (mC hw)) ?_)
    refine KU rfl (sA rfl rfl sz_25 (by exact KZ _) (hl:=by exact KD _) (h:=?_))
    refine KC (KN ?_)
    refine ⟨[_],.cons ⟨_,_,_,rfl,(by repeat (first|exact Mh _|apply Mt)),by exact KF Tryz.underlying25 rfl sz_25⟩ .nil,fun a w' hr=>⟨?_,hr.fr.below⟩⟩
    rfl
theorem c_awake25  (w:World)  : Calls Tryz.prog 8 ([]:List Value).toArray w (fun e w'=>e = .returned (.bool true)∧Below w.heap.size w w'):=by
  obtain ⟨hok,-⟩:=cvI_ok cv13_is
  obtain ⟨R,hR,hR2⟩:∃ R,coB cv13 (xv (pmul cv13.A (.aff (c cv13.p cv13.x) (c cv13.p cv13.y)) 1)) = R∧R.data.toList = [2]:=⟨_,rfl,aw25_r hok⟩
  refine Kg (N:=51) (rs:=[.tmp 0]) [] Tryz.func8 rfl Tryz.ntmps8 Tryz.results8 (Nb rfl) trivial rfl ?_
  show LCode _ _ _ ⟨_,_⟩ _
  refine KB (KA ?_)
  refine oA ?_
  refine KC ?_
  refine KB (KA ?_)
  refine oS (cF rfl en_12 rfl (fun w hw=>c_One 1 w (by decide)) ?_)
  refine oS (cF rfl en_19 rfl (fun w hw=>c_eSharedN R 13 cv13 1 ⟨#[4,2,84]⟩ _ _ w cv13_is (by decide) (by decide) (by decide) aw25_g hok.on hR) ?_)
  refine oM ?_
  refine oP (Det.extract rfl rfl) ?_
  refine oP (Det.extract rfl rfl) ?_
  refine oA ?_
  refine oA ?_
  refine KC ?_
  refine KB (KA ?_)
  refine oS (cF rfl en_12 rfl (fun w hw=>c_One 0 w (by decide)) ?_)
  refine oS (cF rfl en_19 rfl (fun w hw=>c_eShared_key none 13 cv13 0 ⟨#[4,2,84]⟩ w cv13_is zero_w9 (.inl rfl)) ?_)
  refine oM ?_
  refine oP (Det.extract rfl rfl) ?_
  refine oP (Det.extract rfl rfl) ?_
  refine oA ?_
  refine oA ?_
  refine KC ?_
  refine KB (KA ?_)
  refine oS (cF rfl en_12 rfl (fun w hw=>c_One 1 w (by decide)) ?_)
  refine oS (cF rfl en_19 rfl (fun w hw=>c_eShared_pt none 13 cv13 1 ⟨#[0]⟩ 0 0 2102 w cv13_is (by decide) (by decide) (by decide) aw25_0 (by decide)) ?_)
  refine oM ?_
  refine oP (Det.extract rfl rfl) ?_
  refine oP (Det.extract rfl rfl) ?_
  refine oA ?_
  refine oA ?_
  refine KC ?_
  refine KB (KA ?_)
  refine oS (cF rfl en_12 rfl (fun w hw=>c_One 1 w (by decide)) ?_)
  refine oS (cF rfl en_19 rfl (fun w hw=>c_eShared_none none 0 1 ⟨#[0]⟩ w rfl) ?_)
  refine oM ?_
  refine oP (Det.extract rfl rfl) ?_
  refine oP (Det.extract rfl rfl) ?_
  refine oA ?_
  refine oA ?_
  refine KC ?_
  refine KB (KA ?_)
  refine oM ?_
  refine oP (KJ (Det.eqs rfl rfl) (congrArg Value.bool (eq_str_t (hR2)))) ?_
  refine oM ?_
  refine oGM ?_
  refine oGS (cF rfl en_20 rfl (fun w hw=>c_Num _ w) ?_)
  refine oGP (KG (v:=.bool true) rfl rfl (br_t (KAP (b:=0)) (by first|rfl|assumption|omega|(simp; done)))) ?_
  refine oP (Kq rfl rfl) ?_
  refine oM ?_
  refine oGM ?_
  refine oGS (cF rfl en_20 rfl (fun w hw=>c_Num _ w) ?_)
  refine oGP (KG (v:=.bool true) rfl rfl (br_t (KAP (b:=2501)) (by first|rfl|assumption|omega|(simp; done)))) ?_
  refine oP (Kq rfl rfl) ?_
  refine oM ?_
  refine oGM ?_
  refine oGS (cF rfl en_20 rfl (fun w hw=>c_Num _ w) ?_)
  refine oGP (KG (v:=.bool true) rfl rfl (br_t (KAP (b:=2502)) (by first|rfl|assumption|omega|(simp; done)))) ?_
  refine oP (Kq rfl rfl) ?_
  refine oM ?_
  refine oGM ?_
  refine oGS (cF rfl en_20 rfl (fun w hw=>c_Num _ w) ?_)
  refine oGP (KG (v:=.bool true) rfl rfl (br_t (KAP (b:=2500)) (by first|rfl|assumption|omega|(simp; done)))) ?_
  refine oP (Kq rfl rfl) ?_
  refine oA ?_
  refine KC (KN ?_)
  refine ⟨[_],.cons rfl .nil,fun a w' hr=>⟨?_,hr.fr.below⟩⟩
  rfl
end Go.Proofs.YtlmiolnccgjjjaaGreat
set_option linter.unusedVariables false
set_option linter.unusedSimpArgs false
set_option maxRecDepth 20000
namespace Go.Proofs.YtlmiolnccgjjjaaGreat
open Go Go.RowKit
def evFp (q:TrRow):List Nat:=match q with
  | none=>[]
  | some r=>[r.1]
def evQ (q:TrRow) (l:List Nat) (w:World):Prop:=match q with
  | none=>l = []
  | some r=>w.heap[r.1]? = some (.cells (evsL l++r.2.2).toArray 101 (0,0))
def evI (q:TrRow) (l:List Nat):Item:=.own (evFp q) (evQ q l)
def evF (q:TrRow) (l:List Nat):Item:=.fact (evFp q) (evQ q l)
theorem evI_nil (w:World):(evI none []).holds w:=⟨fun k hk=>(by cases hk),fun _ _=>rfl⟩
theorem evI_of {b cap:Nat} {rest:List Value} {l:List Nat} {w:World} (h:w.heap[b]? = some (.cells (evsL l++rest).toArray 101 (0,0))):(evI (some (b,cap,rest)) l).holds w:=by
  refine ⟨fun k hk=>?_,fun w' ha=>(ha b (.head _)).trans h⟩
  obtain rfl:k = b:=by simpa [evFp] using hk
  exact lt_of_get h
theorem evI_P {q:TrRow} {l:List Nat} {w:World} (h:(evI q l).holds w):evQ q l w:=h.2 w (Agree.refl _ _)
theorem ev_at (l:List Nat) {i k:Nat} (h:l[i]? = some k):∃ post,evsL l = evsL (l.take i)++([.int .i64 ((2:Nat):Int),.int .i64 ((k:Nat):Int)]++post):=by
  induction l generalizing i with
  | nil=>simp at h
  | cons a l ih =>
    cases i with
    | zero =>
      obtain rfl:a = k:=by simpa using h
      exact ⟨evsL l,rfl⟩
    | succ i =>
      obtain ⟨post,hp⟩:=ih (i:=i) (by simpa using h)
      refine ⟨post,?_⟩
      show [Value.int .i64 ((2:Nat):Int),.int .i64 ((a:Nat):Int)]++evsL l = ([Value.int .i64 ((2:Nat):Int),.int .i64 ((a:Nat):Int)]++evsL (l.take i))++_
      rw [hp,List.append_assoc]
theorem evI_new {q:TrRow} {l:List Nat} {w w':World} (hb:Below w.heap.size w w') (h:(evI q l).holds w') (hn:∀ k,k∈evFp q→w.heap.size≤k):Brings w [] [evI q l] w' :=
  ⟨hb, fun x hx => (by obtain rfl : x = _ := by simpa using hx
                       exact h),fun x hx k hk=>.inl (by
    obtain rfl:x = _:=by simpa using hx
    exact hn k hk),fun x hx _ k hk=>(by
    obtain rfl:x = _:=by simpa using hx
    exact hn k hk),List.pairwise_singleton _ _⟩
theorem bringsC0 {P:Program} {f:FuncId} {a:Array Value} {w:World} {Q:Value→List Item→Prop} (h:Calls P f a w (fun e w'=>∃ v its,Q v its∧e = .returned v∧Brings w [] its w')) (H:List Item):Calls P f a w (fun e w'=>∃ v its,Q v its∧e = .returned v∧Brings w H its w') :=
  h.mono fun e w' ⟨v,its,h1,h2,h3⟩=>⟨v,its,h1,h2,h3.more (fun x hx=>by cases hx)⟩
theorem evsL_one:∀ l,AllOne (evsL l)
  | []=>fun c h=>by cases h
  | k :: l=>fun c h=>by
    have h':c = .int .i64 ((2:Nat):Int)∨c = .int .i64 ((k:Nat):Int)∨c∈evsL l:=by simpa [evsL] using h
    rcases h' with rfl|rfl|h'
    · rfl
    · rfl
    · exact evsL_one l c h'
theorem row_ev0:((Array.range (0*2)).map fun i=>(Value.agg ([.int .i64 ((0:Nat):Int),.int .i64 ((0:Nat):Int)]:List Value).toArray).cells[i%(Value.agg ([.int .i64 ((0:Nat):Int),.int .i64 ((0:Nat):Int)]:List Value).toArray).cells.size]!) = ([]:List Value).toArray:=by kernel_rfl
section
variable {P:Program} {C:Ctx} {d:Option Tmp} {ty:TypeId} {pos:String} {aft:Array Edge} {g:Option (Nat×Bool)} {st:St} {x y:Operand} {t e:TypeId}
theorem Det.indexSM {s i : Nat} {k : IntKind} {b o l c : Nat} (ht : P.underlying t = some (.slice e)) (he : szOf P e = some s) (hx : evT st.T x = some (.slice (some ⟨b, o, none⟩) l c)) (hy : evT st.T y = some (.int k (i : Int))) (h1 : i < l) :
    Slots P C ⟨d,.indexAddr t x y,ty,pos,aft,g⟩ st (.pointer (some ⟨b,o+i*s,none⟩)):=by
  have:=Det.indexSl (P:=P) (C:=C) (d:=d) (ty:=ty) (pos:=pos) (aft:=aft) (g:=g) (st:=st) ht he hx hy (by omega) (by omega)
  rwa [Int.toNat_natCast] at this
end
def evVal (k:Nat):Value:=.agg ([.int .i64 ((2:Nat):Int),.int .i64 ((k:Nat):Int)]:List Value).toArray
theorem ev_load {wr:Bool} {e:TypeId} {fz:Nat×Nat} (l:List Nat) {i k:Nat} (h:l[i]? = some k) (rest:List Value):LoadV Tryz.prog 101 ⟨wr,evsL l++rest,e,fz⟩ (0+i*2) (evVal k):=by
  obtain ⟨post,hp⟩:=ev_at l h
  have hi:i<l.length:=by
    rcases Nat.lt_or_ge i l.length with h'|h'
    · exact h'
    · rw [List.getElem?_eq_none h'] at h; cases h
  exact LoadV.mid (pre:=evsL (l.take i)) (cs:=[.int .i64 ((2:Nat):Int),.int .i64 ((k:Nat):Int)]) (post:=post++rest) Tryz.underlying101 rfl sz_101 (by show evsL l++rest = _; rw [hp]; simp only [List.append_assoc]) (by rw [evsL_length,List.length_take,Nat.min_eq_left (Nat.le_of_lt hi)]; omega) rfl
theorem eq_ev (x y:Nat):EqD 2 Tryz.prog 101 (evVal x) (evVal y) (decide (x = y)):=by
  have h:=EqD.struct (fs:=[_,_]) Tryz.underlying101 (by kernel_rfl) (EqFs.cons (by decide) (PartOf.one Tryz.underlying3 rfl (show ([.int .i64 ((2:Nat):Int),.int .i64 ((x:Nat):Int)]:List Value)[0]? = some _ from rfl)) (PartOf.one Tryz.underlying3 rfl (show ([.int .i64 ((2:Nat):Int),.int .i64 ((y:Nat):Int)]:List Value)[0]? = some _ from rfl)) (EqD.int Tryz.underlying3)
    (EqFs.cons (by decide) (PartOf.one Tryz.underlying3 rfl (show ([.int .i64 ((2:Nat):Int),.int .i64 ((x:Nat):Int)]:List Value)[1]? = some _ from rfl)) (PartOf.one Tryz.underlying3 rfl (show ([.int .i64 ((2:Nat):Int),.int .i64 ((y:Nat):Int)]:List Value)[1]? = some _ from rfl)) (EqD.int Tryz.underlying3) EqFs.nil))
  have e:((((2:Nat):Int) == ((2:Nat):Int)) && ((((x:Nat):Int) == ((y:Nat):Int)) && true)) = decide (x = y):=by
    rw [Bool.eq_iff_iff]; simp; omega
  rwa [e] at h
theorem eq_ev_t (x:Nat):EqD 2 Tryz.prog 101 (evVal x) (evVal x) true:=by
  have:=eq_ev x x
  rwa [decide_eq_true rfl] at this
theorem get_some {l:List Nat} {i:Nat} (h:i<l.length):∃ k,l[i]? = some k:=⟨l[i],List.getElem?_eq_getElem h⟩
theorem c_clone0  (w:World)  : Calls Tryz.prog 49 ([.slice none 0 0]:List Value).toArray w (fun e w'=>∃ v its,(fun v its=>∃ q,v = trSl q 0∧its = [evI q []]) v its∧e = .returned v∧Brings w [] its w'):=by
  refine Kg (N:=8) (rs:=[.tmp 2]) [] Tryz.func49 rfl Tryz.ntmps49 Tryz.results49 (Nb rfl) trivial rfl ?_
  show LCode _ _ _ ⟨_,_⟩ _
  refine KB (KA ?_)
  refine oA ?_
  refine KC ?_
  refine KB ?_
  refine KB (KA ?_)
  refine oM ?_
  refine oP (KJ (Det.eqsl Tryz.underlying66 rfl rfl) (show _ = Value.bool true from rfl)) ?_
  refine KC ?_
  refine Kd rfl ?_
  refine KB (KA ?_)
  refine oA ?_
  refine KC (KN ?_)
  exact ⟨[_],.cons rfl .nil,fun a w' hr=>⟨_,_,⟨none,rfl,rfl⟩,rfl,evI_new hr.fr.below (evI_nil _) (fun k hk=>by
    cases hk)⟩⟩
theorem c_clone1 (r cap:Nat) (rest:List Value) (l:List Nat) (w:World) (h1:(Item.blk r ⟨false,evsL l++rest,101,(0,0)⟩).holds w) (hl:l.length≤100000000):Calls Tryz.prog 49 ([.slice (some ⟨r,0,none⟩) l.length cap]:List Value).toArray w (fun e w'=>∃ v its,(fun v its=>∃ q,v = trSl q l.length∧its = [evI q l]) v its∧e = .returned v∧Brings w [] its w'):=by
  refine Kg (N:=8) (rs:=[.tmp 2]) [.blk r ⟨false,evsL l++rest,101,(0,0)⟩] Tryz.func49 rfl Tryz.ntmps49 Tryz.results49 (Nb rfl) ⟨h1,trivial⟩ rfl ?_
  show LCode _ _ _ ⟨_,_⟩ _
  refine KB (KA ?_)
  refine oA ?_
  refine KC ?_
  refine KB ?_
  refine KB (KA ?_)
  refine oM ?_
  refine oP (KJ (Det.eqsl Tryz.underlying66 rfl rfl) (show _ = Value.bool false from rfl)) ?_
  refine KC ?_
  refine KQ rfl ?_
  refine KS ?_
  refine KB (KA ?_)
  refine oS (mk (Makes.row (len:=0) (vs:=[]) (z0:=[]) (cs:=[]) Tryz.underlying66 inf_ev (by decide) row_ev0 rfl rfl (fun _=>rfl)) (fun b5=>?_))
  refine oM ?_
  refine KU rfl (LStepW.appendSM (s:=2) (n:=0) (cap:=0) (xs:=[]) (rest:=[]) (news:=evsL l) (more:=rest) rfl rfl Tryz.underlying66 inf_ev rfl (by repeat (first|exact Pick.head _|apply Pick.tail)) (by repeat (first|exact Mh _|apply Mt)) rfl rfl rfl (evsL_length l) (evsL_one l) (by omega) (by omega) (Nb rfl) ?_)
  intro b1 cap1 rest1 hc1
  refine oA ?_
  refine KC (KN ?_)
  refine ⟨[_],.cons rfl .nil,fun a w' hr=>?_⟩
  have g:=hr.hp (.blk b1 ⟨true,([]++evsL l)++rest1,101,(0,0)⟩) (by repeat (first|exact Mh _|apply Mt))
  have n:=hr.new (b:=b1) (B:=⟨true,([]++evsL l)++rest1,101,(0,0)⟩) (by repeat (first|exact Mh _|apply Mt)) rfl
  rw [List.nil_append] at g
  exact ⟨_,_,⟨some (b1,cap1,rest1),by rw [Nat.zero_add]; rfl,rfl⟩,rfl,evI_new hr.fr.below (evI_of g) (fun k hk=>by
    obtain rfl:k = b1:=by simpa [evFp] using hk
    exact n)⟩
theorem c_clone (q:TrRow) (l:List Nat) (w:World) (h:(evI q l).holds w) (hl:l.length≤100000000):Calls Tryz.prog 49 ([trSl q l.length]:List Value).toArray w (fun e w'=>∃ v its,(fun v its=>∃ q,v = trSl q l.length∧its = [evI q l]) v its∧e = .returned v∧Brings w [] its w'):=by
  have hp:=evI_P h
  rcases q with _|⟨r,cap,rest⟩
  · obtain rfl:l = []:=hp
    exact c_clone0 w
  · exact c_clone1 r cap rest l w hp hl
theorem tr_ev {b:Nat} {r:TrRow} {l:List Nat} {w:World} (h:(trI (some b) r l).holds w):(evI r l).holds w:=by
  have hp:=trI_P h
  rcases r with _|⟨r,cap,rest⟩
  · obtain ⟨_,rfl⟩:=hp
    exact evI_nil w
  · exact evI_of hp.2.1
theorem tr_st {b:Nat} {r:TrRow} {l:List Nat} {w:World} (h:(trI (some b) r l).holds w):(Item.blk b ⟨false,[trSl r l.length],98,(0,0)⟩).holds w:=(trI_P h).1
theorem c_trEvents (b:Nat) (r:TrRow) (l:List Nat) (w:World) (h0:(trI (some b) r l).holds w) (hl:l.length≤100000000):Calls Tryz.prog 28 ([trV (some b)]:List Value).toArray w (fun e w'=>∃ v its,(fun v its=>∃ q,v = trSl q l.length∧its = [evI q l]) v its∧e = .returned v∧Brings w [] its w'):=by
  refine Kg (N:=10) (rs:=[.tmp 2]) [.blk b ⟨false,[trSl r l.length],98,(0,0)⟩,evF r l] Tryz.func28 rfl Tryz.ntmps28 Tryz.results28 (Nb rfl) ⟨tr_st h0,tr_ev h0,trivial⟩ rfl ?_
  show LCode _ _ _ ⟨_,_⟩ _
  refine KB (KA ?_)
  refine oA ?_
  refine KC ?_
  refine KB ?_
  refine KB (KA ?_)
  refine oM ?_
  refine oP (KJ (Det.eqp Tryz.underlying60 rfl rfl) (show _ = Value.bool false from rfl)) ?_
  refine KC ?_
  refine KQ rfl ?_
  refine KS ?_
  refine KB (KA ?_)
  refine oM ?_
  refine oP (KR rfl) ?_
  refine oP (KI (o':=0) Tryz.underlying98 rfl rfl rfl sz_66 (by decide)) ?_
  refine oD (dL rfl (hv:=KP Tryz.underlying66 rfl (by rfl))) ?_
  refine oS (cC rfl en_49 rfl (fun w hw=>bringsC0 (c_clone r l w (show (evF r l).holds w from hw _ (by repeat (first|exact Mh _|apply Mt))) hl) _) ?_)
  rintro _ _ ⟨q,rfl,rfl⟩
  refine oA ?_
  refine KC (KN ?_)
  exact ⟨[_],.cons rfl .nil,fun a w' hr=>⟨_,_,⟨q,rfl,rfl⟩,rfl,evI_new hr.fr.below (hr.hp (evI q l) (by repeat (first|exact Mh _|apply Mt))) (fun k hk=>(hr.own (evI q l) (by repeat (first|exact Mh _|apply Mt)) rfl k hk).elim (fun h=>h) (fun h=>h.elim))⟩⟩
theorem c_same1 (r1 c1 r2 c2:Nat) (t1 t2:List Value) (l:List Nat) (w:World) (h1:(Item.blk r1 ⟨false,evsL l++t1,101,(0,0)⟩).holds w) (h2:(Item.blk r2 ⟨false,evsL l++t2,101,(0,0)⟩).holds w) (hl:l.length≤100000000):Calls Tryz.prog 27 ([.slice (some ⟨r1,0,none⟩) l.length c1,.slice (some ⟨r2,0,none⟩) l.length c2]:List Value).toArray w (fun e w'=>e = .returned (.bool true)∧Below w.heap.size w w'):=by
  refine Kg (N:=26) (rs:=[.tmp 4]) [.blk r1 ⟨false,evsL l++t1,101,(0,0)⟩,.blk r2 ⟨false,evsL l++t2,101,(0,0)⟩] Tryz.func27 rfl Tryz.ntmps27 Tryz.results27 (Nb rfl) ⟨h1,h2,trivial⟩ rfl ?_
  show LCode _ _ _ ⟨_,_⟩ _
  refine KB (KA ?_)
  refine oA ?_
  refine KC ?_
  refine KB ?_
  refine KB (KA ?_)
  refine oM ?_
  refine oP (KAE Tryz.underlying66 rfl) ?_
  refine oM ?_
  refine oP (KAE Tryz.underlying66 rfl) ?_
  refine oP (KG (v:=.bool false) rfl rfl (br_f br_neq (fun e=>e rfl))) ?_
  refine KC ?_
  refine KQ rfl ?_
  refine KS ?_
  refine KB ?_
  refine KB (KA ?_)
  refine oP (KY (v:=.int .i64 ((0:Nat):Int)) rfl) ?_
  refine KC ?_
  refine LCode.block ?_
  refine Kr (α:=Nat) (fun x=>x≤l.length) (fun x=>⟨[(0,.slice (some ⟨r1,0,none⟩) l.length c1),(1,.slice (some ⟨r2,0,none⟩) l.length c2),(5,.int .i64 ((x:Nat):Int))],[.blk r1 ⟨false,evsL l++t1,101,(0,0)⟩,.blk r2 ⟨false,evsL l++t2,101,(0,0)⟩]⟩) (fun x=>l.length-x) (0) (Nat.zero_le _) (Kn ⟨rfl,rfl,rfl,trivial⟩ (by repeat (first|exact Sel.nil _|refine Sel.cons (by repeat (first|exact Ph _|apply Pt_)) ?_))) ?_
  intro x hx
  refine KB ?_
  refine KB (KA ?_)
  refine oM ?_
  refine oM ?_
  refine oP (KAE Tryz.underlying66 rfl) ?_
  refine oP (KG rfl rfl (KAX)) ?_
  refine KC ?_
  first|refine KT rfl (fun h14=>?_) (fun h14=>?_)|refine KX rfl (fun h14=>?_) (fun h14=>?_)
  ·
    have h14:x<l.length:=h14
    obtain ⟨k,hk⟩:=get_some h14
    refine KS ?_
    refine KB ?_
    refine LCode.block ?_
    refine KB ?_
    refine rD [] ?_
    refine aM 0 ?_
    refine aM 1 ?_
    refine aP 2 rfl (Det.indexSM Tryz.underlying66 sz_101 rfl rfl h14) ?_
    refine aD 3 rfl (dL rfl (hv:=by exact ev_load l hk _)) ?_
    refine aM 4 ?_
    refine aM 5 ?_
    refine aP 6 rfl (Det.indexSM Tryz.underlying66 sz_101 rfl rfl h14) ?_
    refine aD 7 rfl (dL rfl (hv:=by exact ev_load l hk _)) ?_
    refine aP 8 rfl (KJ (Det.nea (by kernel_rfl) (fun w=>eq_ev_t k 10000 (by decide) w) rfl rfl) (show _ = Value.bool false by rfl)) ?_
    refine aE ?_
    refine KQ rfl ?_
    refine KS ?_
    refine KA ?_
    refine oM ?_
    refine oP (KG rfl rfl (Kv (b:=1) (by omega))) ?_
    refine oA ?_
    refine KC ?_
    exact ⟨x+1,by omega,by omega,Kn ⟨rfl,rfl,rfl,trivial⟩ (by repeat (first|exact Sel.nil _|refine Sel.cons (by repeat (first|exact Ph _|apply Pt_)) ?_))⟩
  ·
    have h14:¬ x<l.length:=h14
    refine Ko ?_
    refine KB (KA ?_)
    refine oA ?_
    refine KC (KN ?_)
    exact ⟨[_],.cons rfl .nil,fun a w' hr=>⟨rfl,hr.fr.below⟩⟩
theorem c_same0 (c1 c2:Nat) (p1 p2:Option Addr) (w:World)  : Calls Tryz.prog 27 ([.slice p1 0 c1,.slice p2 0 c2]:List Value).toArray w (fun e w'=>e = .returned (.bool true)∧Below w.heap.size w w'):=by
  refine Kg (N:=26) (rs:=[.tmp 4]) [] Tryz.func27 rfl Tryz.ntmps27 Tryz.results27 (Nb rfl) trivial rfl ?_
  show LCode _ _ _ ⟨_,_⟩ _
  refine KB (KA ?_)
  refine oA ?_
  refine KC ?_
  refine KB ?_
  refine KB (KA ?_)
  refine oM ?_
  refine oP (KAE Tryz.underlying66 rfl) ?_
  refine oM ?_
  refine oP (KAE Tryz.underlying66 rfl) ?_
  refine oP (KG (v:=.bool false) rfl rfl (br_f br_neq (fun e=>e rfl))) ?_
  refine KC ?_
  refine KQ rfl ?_
  refine KS ?_
  refine KB ?_
  refine KB (KA ?_)
  refine oP (KY (v:=.int .i64 ((0:Nat):Int)) rfl) ?_
  refine KC ?_
  refine LCode.block ?_
  refine Kr (α:=Nat) (fun x=>x≤0) (fun x=>⟨[(0,.slice p1 0 c1),(1,.slice p2 0 c2),(5,.int .i64 ((x:Nat):Int))],[]⟩) (fun x=>0-x) (0) (Nat.zero_le _) (Kn ⟨rfl,rfl,rfl,trivial⟩ (by repeat (first|exact Sel.nil _|refine Sel.cons (by repeat (first|exact Ph _|apply Pt_)) ?_))) ?_
  intro x hx
  refine KB ?_
  refine KB (KA ?_)
  refine oM ?_
  refine oM ?_
  refine oP (KAE Tryz.underlying66 rfl) ?_
  refine oP (KG (v:=.bool false) rfl rfl (br_f KAX (by omega))) ?_
  refine KC ?_
  refine KQ rfl ?_
  refine Ko ?_
  refine KB (KA ?_)
  refine oA ?_
  refine KC (KN ?_)
  exact ⟨[_],.cons rfl .nil,fun a w' hr=>⟨rfl,hr.fr.below⟩⟩
theorem c_same (q1 q2:TrRow) (l:List Nat) (w:World) (h1:(evI q1 l).holds w) (h2:(evI q2 l).holds w) (hl:l.length≤100000000):Calls Tryz.prog 27 ([trSl q1 l.length,trSl q2 l.length]:List Value).toArray w (fun e w'=>e = .returned (.bool true)∧Below w.heap.size w w'):=by
  have g1:=evI_P h1
  have g2:=evI_P h2
  rcases q1 with _|⟨r1,k1,t1⟩
  · obtain rfl:l = []:=g1
    rcases q2 with _|⟨r2,k2,t2⟩
    · exact c_same0 0 0 none none w
    · exact c_same0 0 k2 none (some ⟨r2,0,none⟩) w
  · rcases q2 with _|⟨r2,k2,t2⟩
    · obtain rfl:l = []:=g2
      exact c_same0 k1 0 (some ⟨r1,0,none⟩) none w
    · exact c_same1 r1 k1 r2 k2 t1 t2 l w g1 g2 hl
end Go.Proofs.YtlmiolnccgjjjaaGreat
set_option linter.unusedVariables false
set_option linter.unusedSimpArgs false
set_option maxRecDepth 20000
namespace Go.Proofs.YtlmiolnccgjjjaaGreat
open Go Go.RowKit
open Grp
theorem c_r_PutE (s:ByteArray) (n:Nat) (Q:CQ) (V:Cv) (q r:NV) (X Y:Nat) (i sh:Bool) (w:World) (hc:(crvI Q V).holds w) (hok:V.Ok) (hq:(numT q X).holds w) (hr:(numT r Y).holds w) (hX:D.nw X≤1000) (hY:D.nw Y≤1000) (hs:pStr V X Y i sh = s) (hn:pErr V X Y i = n):Calls Tryz.prog 17 ([.agg (crvL Q V).toArray,rpV (numV q X) (numV r Y) i,.bool sh]:List Value).toArray w (fun e w'=>e = .returned (.tuple #[.string s,.int .i64 ((n:Nat):Int)])∧Below w.heap.size w w'):=by
  subst hs hn; exact c_r_Put2 Q V q r X Y i sh w hc hok hq hr hX hY
theorem c_EcdhBlind (id:Int) (A B k:Nat) (w:World) (hA9:A<W9) (hB9:B<W9) (hk:k<18446744073709551616):Calls Tryz.prog 7 ([.int .i64 id,natV A,natV B,.int .u64 ((k:Nat):Int)]:List Value).toArray w (fun e w'=>e = .returned (.bool true)∧Below w.heap.size w w'):=by
  obtain ⟨V,h⟩:=cvI_idx id
  obtain ⟨hok,hid⟩:=cvI_ok h
  have h2:=cvI_id h
  obtain ⟨hb5,hb521,hba,hbb,hbx,hby,hbn,hbo,hbo2,hbb1,hbn1⟩:=hok.bounds
  have hsz:=hok.sz
  have hsp:=hsz.p
  have hsa:=hsz.a
  have hsb:=hsz.b
  have hp0:V.p≠0:=by omega
  have hpp:0<V.p:=by omega
  have hm17:∀ k,D.nw (k%V.p)≤17:=fun k=>Nat.le_trans (D.nw_mono (Nat.le_of_lt (Nat.mod_lt k hpp))) hsp
  have hpW:V.p<W9:=KAO hb521
  have hnW:V.n<W9:=KAO hbn
  have hxW:=Nat.lt_trans hbx hpW
  have hyW:=Nat.lt_trans hby hpW
  have hsn:=hsz.n
  have h17:∀ {A:Nat},A<V.p→D.nw A≤100000:=fun h=>Nat.le_trans (nw_521 (Nat.lt_trans h hb521)) (by decide)
  have hnp:=nbp_72 hok
  obtain ⟨P,hPe⟩:∃ P,pmul V.A V.G k = P:=⟨_,rfl⟩
  have hP:On V.A V.B P:=hPe ▸ hok.mul hok.on k
  have hdk:=nw_w9_dig (u64_w9 hk)
  have h1k:∀ {A:Nat},A<V.p→D.nw A≤1000:=fun h=>Nat.le_trans (nw_521 (Nat.lt_trans h hb521)) (by decide)
  have hn0:V.n≠0:=by omega
  have k1:=keyN_lt hok A
  have k2:=keyN_lt hok B
  have gon:onB V.p V.a V.b (c V.p V.x).val (c V.p V.y).val false = true:=aff_on hok.on
  obtain ⟨m,hm⟩:∃ m,(blen V.n+3)/4 = m:=⟨_,rfl⟩
  have hbl9:=blen_w9 hnW
  have hm1:1≤m:=by have:=Nat.pos_of_ne_zero (blen_ne hn0); omega
  have hmx:m≤200:=by omega
  refine Kg (N:=103) (rs:=[.tmp 8]) [] Tryz.func7 rfl Tryz.ntmps7 Tryz.results7 (Nb rfl) trivial rfl ?_
  show LCode _ _ _ ⟨_,_⟩ _
  refine KB (KA ?_)
  refine oS (mB (fun b5=>?_))
  refine oS (mB (fun b6=>?_))
  refine oA ?_
  refine KC ?_
  refine KB ?_
  refine KB (KA ?_)
  refine oS (cF rfl en_8 rfl (fun w hw=>c_awake25 w) ?_)
  refine oP (KJ (Det.not rfl) (show _ = Value.bool false from rfl)) ?_
  refine KC ?_
  refine KQ rfl ?_
  refine KS ?_
  refine KB (KA ?_)
  refine oM ?_
  refine oP (KJ (Det.conv Tryz.underlying3 Tryz.underlying33 rfl) (uidx_eq _)) ?_
  refine oP (KG rfl rfl (br_rem64 (b:=15) (by omega))) ?_
  refine oP (KAf Tryz.underlying33 Tryz.underlying3 rfl (by omega)) ?_
  refine oP (KG rfl rfl (Kv (a:=1) (by omega))) ?_
  refine oS (KAQ (Post:=fun v its=>∃ Q,v = .tuple #[.agg (crvL Q V).toArray,.bool true]∧its = [crvI Q V]) (first:=[]) rfl en_9 rfl (Nb rfl) (fun w1 hw hs=>(c_r_Get _ V w1 h).mono fun e w' ⟨Q,h1,h2,h3,h4⟩=>⟨_,_,⟨Q,rfl,rfl⟩,h1,KAT h4 (by intro x hx; simp at hx; subst hx; exact h2) (by intro x hx; simp at hx; subst hx; rfl) (by intro x hx k hk; simp at hx; subst hx; exact .inl (h3 k hk))⟩) ?_)
  rintro _ _ ⟨Q,rfl,rfl⟩
  refine oM ?_
  refine oP (Det.extract rfl rfl) ?_
  refine oP (Det.extract rfl rfl) ?_
  refine oS (mk (KV zr_30) (fun b9=>?_))
  refine KU rfl (sA rfl rfl sz_30 (by repeat (first|exact KO|refine KK rfl ?_)) (hl:=by rfl) (h:=?_))
  refine oA ?_
  refine KC ?_
  refine KB ?_
  refine KB (KA ?_)
  refine oM ?_
  refine oP (KJ (Det.not rfl) (show _ = Value.bool false from rfl)) ?_
  refine KC ?_
  refine KQ rfl ?_
  refine KS ?_
  refine KB ?_
  refine rD [8] ?_
  refine aD 0 rfl (dL rfl (hv:=by exact KF Tryz.underlying30 rfl sz_30)) ?_
  refine aM 1 ?_
  refine aD 4 rfl (dL rfl (hv:=by exact KF Tryz.underlying30 rfl sz_30)) ?_
  refine LAny.toP ?_
  refine KAD 7 rfl (.inl zr_35) (Nb rfl) rfl rfl rfl ?_
  refine Ks 2 rfl rfl rfl (Nb rfl) (by kernel_rfl) rfl (Kx (first:=[]) rfl en_12 rfl (fun w hw=>c_One k w hk)) ?_
  rintro _ _ ⟨rfl,rfl⟩
  refine Ks 3 rfl rfl rfl (Nb rfl) (by kernel_rfl) rfl (LExt.callZ (first:=[]) rfl en_11 rfl (fun w hw hs=>(c_n_From (k) (u64_w9 hk) w).mono fun e w' h=>KAU (Old.nil _) hs h)) ?_
  rintro _ _ ⟨qk,rfl,rfl,hnk⟩
  refine Ks 5 rfl rfl rfl (Nb rfl) (by kernel_rfl) rfl (LExt.callZ (first:=[]) rfl en_13 rfl (fun w hw hs=>(c_r_GP Q V w (mC hw) hok).mono fun e w' h=>Num2R.q (Old.one (x:=crvI Q V) (by repeat (first|exact Mh _|apply Mt)) rfl) hs h)) ?_
  rintro _ _ ⟨qga,qgb,rfl,rfl,hnga,hngb⟩
  refine Ks 6 rfl rfl rfl (Nb rfl) (by kernel_rfl) rfl (LExt.callZ (first:=[]) rfl en_10 rfl (fun w hw hs=>(c_r_Times Q V qk (k) qga qgb (V.G) (P) w (mC hw) hok (mC hw) (by omega) (mC hw) (mC hw) (hok.on) (hPe)).mono fun e w' h=>Num2R.q (Old.pt (by repeat (first|exact Mh _|apply Mt)) (by repeat (first|exact Mh _|apply Mt)) (Old.nil _)) hs h)) ?_
  rintro _ _ ⟨qta,qtb,rfl,rfl,hnta,hntb⟩
  refine pE (fun b11=>?_)
  refine KAR ?_
  refine aL 8 rfl (sA rfl rfl sz_35 (by repeat (first|exact KO|refine KK rfl ?_)) (hl:=by rfl) (h:=?_))
  refine aE ?_
  refine KB ?_
  refine KB ?_
  rcases P with _|⟨x,y⟩
  ·
    refine KA ?_
    refine oP (KI (o':=2) Tryz.underlying35 rfl rfl rfl sz_4 (by decide)) ?_
    refine oD (dL rfl (hv:=KP Tryz.underlying4 rfl (by first|rfl|exact Kf _ _ _ (by omega)|exact Ke _ (by omega)|exact Kc _ (by omega)|exact dv_m _ _ _ (by omega)))) ?_
    refine KC ?_
    refine Kd rfl ?_
    refine KA ?_
    refine oD (dL rfl (hv:=by exact KF Tryz.underlying30 rfl sz_30)) ?_
    refine oS (cZ rfl en_13 rfl (fun w hw hs=>(c_r_GP Q V w (mC hw) hok).mono fun e w' h=>Num2R.q (Old.one (x:=crvI Q V) (by repeat (first|exact Mh _|apply Mt)) rfl) hs h) ?_)
    rintro _ _ ⟨qia,qib,rfl,rfl,hnia,hnib⟩
    refine KU rfl (sA rfl rfl sz_35 (by repeat (first|exact KO|refine KK rfl ?_)) (hl:=by rfl) (h:=?_))
    refine KC ?_
    refine KB (KA ?_)
    refine oD (dL rfl (hv:=by exact KF Tryz.underlying30 rfl sz_30)) ?_
    refine oD (dL rfl (hv:=by exact KF Tryz.underlying35 rfl sz_35)) ?_
    refine oS (cF rfl en_17 rfl (fun w hw=>c_r_PutE (putS V (c V.p V.x).val (c V.p V.y).val false) 0 Q V qia qib (c V.p V.x).val (c V.p V.y).val false false w (mC hw) hok (mC hw) (mC hw) (h1k (c V.p V.x).isLt) (h1k (c V.p V.y).isLt) (pStr_on false gon).1 (pStr_on false gon).2) ?_)
    refine oM ?_
    refine oP (Det.extract rfl rfl) ?_
    refine oP (Det.extract rfl rfl) ?_
    refine oA ?_
    refine oA ?_
    refine KC ?_
    refine KB ?_
    refine rD [] ?_
    refine aD 0 rfl (dL rfl (hv:=by exact KF Tryz.underlying30 rfl sz_30)) ?_
    refine aD 1 rfl (dL rfl (hv:=by exact KF Tryz.underlying30 rfl sz_30)) ?_
    refine aO 2 rfl (cZ rfl en_13 rfl (fun w hw hs=>(c_r_GP Q V w (mC hw) hok).mono fun e w' h=>Num2R.q (Old.one (x:=crvI Q V) (by repeat (first|exact Mh _|apply Mt)) rfl) hs h) ?_)
    rintro _ _ ⟨qfa,qfb,rfl,rfl,hnfa,hnfb⟩
    refine aO 3 rfl (cF rfl en_17 rfl (fun w hw=>c_r_PutE (putS V (c V.p V.x).val (c V.p V.y).val true) 0 Q V qfa qfb (c V.p V.x).val (c V.p V.y).val false true w (mC hw) hok (mC hw) (mC hw) (h1k (c V.p V.x).isLt) (h1k (c V.p V.y).isLt) (pStr_on true gon).1 (pStr_on true gon).2) ?_)
    refine aM 4 ?_
    refine aP 5 rfl (Det.extract rfl rfl) ?_
    refine aP 6 rfl (Det.extract rfl rfl) ?_
    refine aA 7 ?_
    refine aA 8 ?_
    refine aE ?_
    refine KB (KA ?_)
    refine oS (cC rfl en_24 rfl (fun w hw=>bringsC (c_trNew w) _) ?_)
    rintro _ _ ⟨tba,rfl,rfl⟩
    refine oS (cC rfl en_24 rfl (fun w hw=>bringsC (c_trNew w) _) ?_)
    rintro _ _ ⟨tbb,rfl,rfl⟩
    refine oA ?_
    refine oA ?_
    refine KC ?_
    refine KB ?_
    refine rD [7] ?_
    refine aM 0 ?_
    refine aP 1 rfl (KI (o':=0) Tryz.underlying30 rfl rfl rfl sz_3 (by decide)) ?_
    refine aD 2 rfl (dL rfl (hv:=KP Tryz.underlying3 rfl (by first|rfl|exact Kf _ _ _ (by omega)|exact Ke _ (by omega)|exact Kc _ (by omega)|exact dv_m _ _ _ (by omega)))) ?_
    refine aM 6 ?_
    refine KAa [5,7,8,9,10,11,12] 3 rfl (by kernel_rfl) (Nb rfl) (dL rfl (hv:=by exact KF Tryz.underlying30 rfl sz_30)) ?_
    refine aO 4 rfl (LStep.det (dL rfl (hv:=by exact KF Tryz.underlying25 rfl sz_25)) (Nb rfl) ?_)
    refine aO 5 rfl (cF rfl en_14 rfl (fun w hw=>c_some Q V A w (mC hw) hok hA9) ?_)
    refine aL 7 rfl (LStepW.callT (first:=[]) (b:=some tba) (r:=none) (l:=[]) (l':=[]++evN m) rfl en_19 rfl (Nb rfl) (by repeat (first|exact Pick.head _|apply Pick.tail)) (fun w hw hn=>c_eShared (some tba) none [] V.id V (keyN V A) (putS V (c V.p V.x).val (c V.p V.y).val false) (c V.p V.x) (c V.p V.y) m hm w h2 k1.1 k1.2 (putS_size hnp _ _ _) (get_put hok _ gon) hok.on (mC hw) (Nat.zero_le _)) ?_)
    intro ra
    refine aM 8 ?_
    refine aP 9 rfl (Det.extract rfl rfl) ?_
    refine aP 10 rfl (Det.extract rfl rfl) ?_
    refine aA 11 ?_
    refine aA 12 ?_
    refine aE ?_
    refine KB ?_
    refine rD [7] ?_
    refine aM 0 ?_
    refine aP 1 rfl (KI (o':=0) Tryz.underlying30 rfl rfl rfl sz_3 (by decide)) ?_
    refine aD 2 rfl (dL rfl (hv:=KP Tryz.underlying3 rfl (by first|rfl|exact Kf _ _ _ (by omega)|exact Ke _ (by omega)|exact Kc _ (by omega)|exact dv_m _ _ _ (by omega)))) ?_
    refine aM 6 ?_
    refine KAa [5,7,8,9,10,11,12] 3 rfl (by kernel_rfl) (Nb rfl) (dL rfl (hv:=by exact KF Tryz.underlying30 rfl sz_30)) ?_
    refine aO 4 rfl (LStep.det (dL rfl (hv:=by exact KF Tryz.underlying25 rfl sz_25)) (Nb rfl) ?_)
    refine aO 5 rfl (cF rfl en_14 rfl (fun w hw=>c_some Q V B w (mC hw) hok hB9) ?_)
    refine aL 7 rfl (LStepW.callT (first:=[]) (b:=some tbb) (r:=none) (l:=[]) (l':=[]++evN m) rfl en_19 rfl (Nb rfl) (by repeat (first|exact Pick.head _|apply Pick.tail)) (fun w hw hn=>c_eShared (some tbb) none [] V.id V (keyN V B) (putS V (c V.p V.x).val (c V.p V.y).val true) (c V.p V.x) (c V.p V.y) m hm w h2 k2.1 k2.2 (putS_size hnp _ _ _) (get_put hok _ gon) hok.on (mC hw) (Nat.zero_le _)) ?_)
    intro rb
    refine aM 8 ?_
    refine aP 9 rfl (Det.extract rfl rfl) ?_
    refine aP 10 rfl (Det.extract rfl rfl) ?_
    refine aA 11 ?_
    refine aA 12 ?_
    refine aE ?_
    refine KB (KA ?_)
    refine oM ?_
    refine oS (cF rfl en_20 rfl (fun w hw=>c_Num _ w) ?_)
    refine oP (KG (v:=.bool true) rfl rfl (br_t (KAP (b:=0)) (by first|rfl|assumption|omega|(simp; done)))) ?_
    refine oM ?_
    refine oGM ?_
    refine oGS (cF rfl en_20 rfl (fun w hw=>c_Num _ w) ?_)
    refine oGP (KG (v:=.bool true) rfl rfl (br_t (KAP (b:=0)) (by first|rfl|assumption|omega|(simp; done)))) ?_
    refine oP (Kq rfl rfl) ?_
    refine oM ?_
    refine oGM ?_
    refine oGS (cC rfl en_28 rfl (fun w hw=>bringsC (c_trEvents tba ra (([]++evN m)) w (mC hw) (by rw [List.nil_append,evN_length]; omega)) _) ?_)
    rintro _ _ ⟨qea,rfl,rfl⟩
    refine oGM ?_
    refine oGS (cC rfl en_28 rfl (fun w hw=>bringsC (c_trEvents tbb rb (([]++evN m)) w (mC hw) (by rw [List.nil_append,evN_length]; omega)) _) ?_)
    rintro _ _ ⟨qeb,rfl,rfl⟩
    refine oGS (cF rfl en_27 rfl (fun w hw=>c_same qea qeb ([]++evN m) w (mC hw) (mC hw) (by rw [List.nil_append,evN_length]; omega)) ?_)
    refine oP (Kq rfl rfl) ?_
    refine oM ?_
    refine oGM ?_
    refine oGS (cF rfl en_25 rfl (fun w hw=>c_trLen tba ra (([]++evN m)) w (mC hw)) ?_)
    refine oGP (KG (v:=.bool true) rfl rfl (br_t (br_gtr (b:=0)) (by rw [List.nil_append,evN_length]; omega))) ?_
    refine oP (Kq rfl rfl) ?_
    refine oA ?_
    refine KC (KN ?_)
    refine ⟨[_],.cons rfl .nil,fun a w' hr=>⟨?_,hr.fr.below⟩⟩
    rfl
  ·
    have hon:=aff_on hP
    obtain ⟨hxp,hyp⟩:=on_lt hon
    have hx9:=Nat.lt_trans hxp hpW
    have hy9:=Nat.lt_trans hyp hpW
    refine KA ?_
    refine oP (KI (o':=2) Tryz.underlying35 rfl rfl rfl sz_4 (by decide)) ?_
    refine oD (dL rfl (hv:=KP Tryz.underlying4 rfl (by first|rfl|exact Kf _ _ _ (by omega)|exact Ke _ (by omega)|exact Kc _ (by omega)|exact dv_m _ _ _ (by omega)))) ?_
    refine KC ?_
    refine KQ rfl ?_
    refine KS ?_
    refine KB (KA ?_)
    refine oD (dL rfl (hv:=by exact KF Tryz.underlying30 rfl sz_30)) ?_
    refine oD (dL rfl (hv:=by exact KF Tryz.underlying35 rfl sz_35)) ?_
    refine oS (cF rfl en_17 rfl (fun w hw=>c_r_PutE (putS V x.val y.val false) 0 Q V qta qtb x.val y.val false false w (mC hw) hok (mC hw) (mC hw) (h1k x.isLt) (h1k y.isLt) (pStr_on false hon).1 (pStr_on false hon).2) ?_)
    refine oM ?_
    refine oP (Det.extract rfl rfl) ?_
    refine oP (Det.extract rfl rfl) ?_
    refine oA ?_
    refine oA ?_
    refine KC ?_
    refine KB ?_
    refine rD [] ?_
    refine aD 0 rfl (dL rfl (hv:=by exact KF Tryz.underlying30 rfl sz_30)) ?_
    refine aD 1 rfl (dL rfl (hv:=by exact KF Tryz.underlying30 rfl sz_30)) ?_
    refine aO 2 rfl (cZ rfl en_13 rfl (fun w hw hs=>(c_r_GP Q V w (mC hw) hok).mono fun e w' h=>Num2R.q (Old.one (x:=crvI Q V) (by repeat (first|exact Mh _|apply Mt)) rfl) hs h) ?_)
    rintro _ _ ⟨qfa,qfb,rfl,rfl,hnfa,hnfb⟩
    refine aO 3 rfl (cF rfl en_17 rfl (fun w hw=>c_r_PutE (putS V (c V.p V.x).val (c V.p V.y).val true) 0 Q V qfa qfb (c V.p V.x).val (c V.p V.y).val false true w (mC hw) hok (mC hw) (mC hw) (h1k (c V.p V.x).isLt) (h1k (c V.p V.y).isLt) (pStr_on true gon).1 (pStr_on true gon).2) ?_)
    refine aM 4 ?_
    refine aP 5 rfl (Det.extract rfl rfl) ?_
    refine aP 6 rfl (Det.extract rfl rfl) ?_
    refine aA 7 ?_
    refine aA 8 ?_
    refine aE ?_
    refine KB (KA ?_)
    refine oS (cC rfl en_24 rfl (fun w hw=>bringsC (c_trNew w) _) ?_)
    rintro _ _ ⟨tba,rfl,rfl⟩
    refine oS (cC rfl en_24 rfl (fun w hw=>bringsC (c_trNew w) _) ?_)
    rintro _ _ ⟨tbb,rfl,rfl⟩
    refine oA ?_
    refine oA ?_
    refine KC ?_
    refine KB ?_
    refine rD [7] ?_
    refine aM 0 ?_
    refine aP 1 rfl (KI (o':=0) Tryz.underlying30 rfl rfl rfl sz_3 (by decide)) ?_
    refine aD 2 rfl (dL rfl (hv:=KP Tryz.underlying3 rfl (by first|rfl|exact Kf _ _ _ (by omega)|exact Ke _ (by omega)|exact Kc _ (by omega)|exact dv_m _ _ _ (by omega)))) ?_
    refine aM 6 ?_
    refine KAa [5,7,8,9,10,11,12] 3 rfl (by kernel_rfl) (Nb rfl) (dL rfl (hv:=by exact KF Tryz.underlying30 rfl sz_30)) ?_
    refine aO 4 rfl (LStep.det (dL rfl (hv:=by exact KF Tryz.underlying25 rfl sz_25)) (Nb rfl) ?_)
    refine aO 5 rfl (cF rfl en_14 rfl (fun w hw=>c_some Q V A w (mC hw) hok hA9) ?_)
    refine aL 7 rfl (LStepW.callT (first:=[]) (b:=some tba) (r:=none) (l:=[]) (l':=[]++evN m) rfl en_19 rfl (Nb rfl) (by repeat (first|exact Pick.head _|apply Pick.tail)) (fun w hw hn=>c_eShared (some tba) none [] V.id V (keyN V A) (putS V x.val y.val false) x y m hm w h2 k1.1 k1.2 (putS_size hnp _ _ _) (get_put hok _ hon) hP (mC hw) (Nat.zero_le _)) ?_)
    intro ra
    refine aM 8 ?_
    refine aP 9 rfl (Det.extract rfl rfl) ?_
    refine aP 10 rfl (Det.extract rfl rfl) ?_
    refine aA 11 ?_
    refine aA 12 ?_
    refine aE ?_
    refine KB ?_
    refine rD [7] ?_
    refine aM 0 ?_
    refine aP 1 rfl (KI (o':=0) Tryz.underlying30 rfl rfl rfl sz_3 (by decide)) ?_
    refine aD 2 rfl (dL rfl (hv:=KP Tryz.underlying3 rfl (by first|rfl|exact Kf _ _ _ (by omega)|exact Ke _ (by omega)|exact Kc _ (by omega)|exact dv_m _ _ _ (by omega)))) ?_
    refine aM 6 ?_
    refine KAa [5,7,8,9,10,11,12] 3 rfl (by kernel_rfl) (Nb rfl) (dL rfl (hv:=by exact KF Tryz.underlying30 rfl sz_30)) ?_
    refine aO 4 rfl (LStep.det (dL rfl (hv:=by exact KF Tryz.underlying25 rfl sz_25)) (Nb rfl) ?_)
    refine aO 5 rfl (cF rfl en_14 rfl (fun w hw=>c_some Q V B w (mC hw) hok hB9) ?_)
    refine aL 7 rfl (LStepW.callT (first:=[]) (b:=some tbb) (r:=none) (l:=[]) (l':=[]++evN m) rfl en_19 rfl (Nb rfl) (by repeat (first|exact Pick.head _|apply Pick.tail)) (fun w hw hn=>c_eShared (some tbb) none [] V.id V (keyN V B) (putS V (c V.p V.x).val (c V.p V.y).val true) (c V.p V.x) (c V.p V.y) m hm w h2 k2.1 k2.2 (putS_size hnp _ _ _) (get_put hok _ gon) hok.on (mC hw) (Nat.zero_le _)) ?_)
    intro rb
    refine aM 8 ?_
    refine aP 9 rfl (Det.extract rfl rfl) ?_
    refine aP 10 rfl (Det.extract rfl rfl) ?_
    refine aA 11 ?_
    refine aA 12 ?_
    refine aE ?_
    refine KB (KA ?_)
    refine oM ?_
    refine oS (cF rfl en_20 rfl (fun w hw=>c_Num _ w) ?_)
    refine oP (KG (v:=.bool true) rfl rfl (br_t (KAP (b:=0)) (by first|rfl|assumption|omega|(simp; done)))) ?_
    refine oM ?_
    refine oGM ?_
    refine oGS (cF rfl en_20 rfl (fun w hw=>c_Num _ w) ?_)
    refine oGP (KG (v:=.bool true) rfl rfl (br_t (KAP (b:=0)) (by first|rfl|assumption|omega|(simp; done)))) ?_
    refine oP (Kq rfl rfl) ?_
    refine oM ?_
    refine oGM ?_
    refine oGS (cC rfl en_28 rfl (fun w hw=>bringsC (c_trEvents tba ra (([]++evN m)) w (mC hw) (by rw [List.nil_append,evN_length]; omega)) _) ?_)
    rintro _ _ ⟨qea,rfl,rfl⟩
    refine oGM ?_
    refine oGS (cC rfl en_28 rfl (fun w hw=>bringsC (c_trEvents tbb rb (([]++evN m)) w (mC hw) (by rw [List.nil_append,evN_length]; omega)) _) ?_)
    rintro _ _ ⟨qeb,rfl,rfl⟩
    refine oGS (cF rfl en_27 rfl (fun w hw=>c_same qea qeb ([]++evN m) w (mC hw) (mC hw) (by rw [List.nil_append,evN_length]; omega)) ?_)
    refine oP (Kq rfl rfl) ?_
    refine oM ?_
    refine oGM ?_
    refine oGS (cF rfl en_25 rfl (fun w hw=>c_trLen tba ra (([]++evN m)) w (mC hw)) ?_)
    refine oGP (KG (v:=.bool true) rfl rfl (br_t (br_gtr (b:=0)) (by rw [List.nil_append,evN_length]; omega))) ?_
    refine oP (Kq rfl rfl) ?_
    refine oA ?_
    refine KC (KN ?_)
    refine ⟨[_],.cons rfl .nil,fun a w' hr=>⟨?_,hr.fr.below⟩⟩
    rfl
end Go.Proofs.YtlmiolnccgjjjaaGreat
set_option maxRecDepth 100000
namespace Go.Proofs.YtlmiolnccgjjjaaGreat
open Go
def ioChars:List Char:=([104,97,114,110,101,115,115,32,52,50,50,53,51,49,101,49,49,48,50,102,100,99,52,51,99,102,49,102,99,102,54,100,51,97,53,50,97,50,98,98,55,56,56,99,55,56,48,52,102,54,48,54,99,55,54,55,101,100,97,52,97,49,52,101,56,57,49,50,48,52,57,54,32,99,117,116,32,97,116,32,99,117,114,118,101,116,47,99,117,114,118,101,116,108,97,119,50,53,46,69,99,100,104,84,117,114,110,101,100,32,99,117,114,118,101,116,47,99,117,114,118,101,116,108,97,119,50,53,46,69,99,100,104,79,110,101,32,99,117,114,118,101,116,47,99,117,114,118,101,116,108,97,119,50,53,46,69,99,100,104,84,105,110,121,32,99,117,114,118,101,116,47,99,117,114,118,101,116,108,97,119,50,53,46,69,99,100,104,115,32,99,117,114,118,101,116,47,99,117,114,118,101,116,108,97,119,50,53,46,69,99,100,104,66,108,105,110,100]:List Nat).map Char.ofNat
theorem io_lit:Tryz.prog.initOrder = String.ofList ioChars:=by kernel_rfl
theorem io_list:Tryz.prog.initOrder.toList = ioChars:=by rw [io_lit,String.toList_ofList]
def cutW:List Char:=([99,117,116]:List Nat).map Char.ofNat
def ioRest:List (List Char):=(wordsSigns ioChars).drop 3
theorem io_words:behindMainWord (wordsSigns ioChars) = cutW :: ioRest:=by kernel_rfl
theorem io_strip (r:List (List Char)):stripLifts liftWords (cutW :: r) = ([],cutW :: r):=by kernel_rfl
theorem no_later:Tryz.prog.laysLater = false:=by kernel_rfl
theorem no_reflect:Tryz.prog.bearsReflect = false:=by kernel_rfl
theorem door_fits:Tryz.prog.doorFits [] = true:=by kernel_rfl
theorem and2 {a b:Bool} (h:a = true) (k:b = true):(a && b) = true:=by rw [h,k]; rfl
theorem or_right {a b:Bool} (h:b = true):(a || b) = true:=by rw [h]; cases a <;> rfl
theorem cut_is : (cutW == "cut".toList) = true := by kernel_rfl
theorem cut_gc : (cutW == "gc".toList) = false := by kernel_rfl
theorem cut_spec : (cutW == "spec".toList) = false := by kernel_rfl
theorem cut_carried : (cutW == "carried".toList) = false := by kernel_rfl
theorem head_carried (r : List (List Char)) : ((cutW :: r).head? == some "carried".toList) = false := cut_carried
theorem enter_of (P:Program) {r:List (List Char)} (h:behindMainWord (wordsSigns P.initOrder.toList) = cutW :: r) (h1:P.laysLater = false) (h2:P.bearsReflect = false) (h3:P.doorFits [] = true):P.mayEnter = true:=by
  unfold Program.mayEnter
  rw [h]
  dsimp only
  refine or_right (and2 (and2 (and2 (and2 ?_ ?_) ?_) ?_) ?_)
  · rw [io_strip]; exact cut_is
  · rw [io_strip,h1]; rfl
  · rw [io_strip,h2]; rfl
  · rw [io_strip]; rfl
  · rw [io_strip]; exact h3
theorem lifts_of (P:Program) {r:List (List Char)} (h:behindMainWord (wordsSigns P.initOrder.toList) = cutW :: r):(false == P.liftsFinal) = true:=by
  have hl:P.headLifts = []:=by
    unfold Program.headLifts
    rw [h,io_strip]
    simp only [ite_self]
  unfold Program.liftsFinal
  rw [h,hl]
  dsimp only
  rw [head_carried,Bool.false_and]
  rfl
theorem make_of (P:Program) {r:List (List Char)} (h:behindMainWord (wordsSigns P.initOrder.toList) = cutW :: r):(P.make == some .cut) = true:=by
  have:P.make = some .cut:=by
    unfold Program.make
    rw [h]
    dsimp only
    rw [if_neg (by rw [cut_gc,cut_spec]; exact fun h=>by cases h),if_pos (by rw [cut_is]; rfl)]
  rw [this]; rfl
theorem io_all:behindMainWord (wordsSigns Tryz.prog.initOrder.toList) = cutW :: ioRest:=by rw [io_list,io_words]
theorem fact_enter:Tryz.prog.mayEnter = true:=enter_of _ io_all no_later no_reflect door_fits
theorem fact_lifts:(false == Tryz.prog.liftsFinal) = true:=lifts_of _ io_all
theorem fact_make:(Tryz.prog.make == some .cut) = true:=make_of _ io_all
theorem fact_laid:laidOutB Tryz.prog = true:=by kernel_rfl
theorem fact_maps:mapsRowed Tryz.prog = true:=by kernel_rfl
theorem fact_heard:Tryz.prog.stopsHeard = true:=by kernel_rfl
end Go.Proofs.YtlmiolnccgjjjaaGreat
