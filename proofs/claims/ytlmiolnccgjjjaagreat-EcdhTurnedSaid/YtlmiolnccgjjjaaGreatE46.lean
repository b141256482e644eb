/- Part 6 of what the proof leans on: a symbolic execution of the model, walks of the program's functions, and the mathematics. No condition. -/
import Derived.WalkKit
import Derived.Orders
import Derived.Laws.StructEq
import Derived.WalkSpells
import Derived.OrdersHeld
import Derived.KernelRfl
import Derived.Laws.Externs
import Derived.Laws.Bits64
import Derived.Laws.MakeOwn
import Derived.Laws.BytesString
import Derived.Carry
import Derived.WideShapes
import GoSem.Claim
import Derived.Test.YtlmiolnccgjjjaaGreatProg
import Derived.Laws.AppendOwn
import Derived.Test.YtlmiolnccgjjjaaGreatRows
import Derived.ProofKit
import Derived.OpenShut
import Derived.Test.YtlmiolnccgjjjaaGreatE45
set_option linter.unusedVariables false
set_option linter.unusedSimpArgs false
set_option maxRecDepth 20000
namespace Go.Proofs.YtlmiolnccgjjjaaGreat
open Go Go.RowKit
open Grp
theorem c_cKeyT (V:Cv) (b f X:Nat) (w:World) (hb:(Item.blk b ⟨false,opL V f,92,(0,0)⟩).holds w) (hX:X<W9) (hnW:V.n<W9) (h0:X≠0) (hn:X<V.n):Calls Tryz.prog 64 ([.pointer (some ⟨b,0,none⟩),natV X]:List Value).toArray w (fun e w'=>e = .returned (.bool true)∧Below w.heap.size w w'):=by
  refine Ki (N:=18) (rs:=[.tmp 4]) [.blk b ⟨false,opL V f,92,(0,0)⟩] Tryz.func64 rfl Tryz.ntmps64 Tryz.results64 (Nb rfl) ⟨hb,trivial⟩ rfl ?_
  show LCode _ _ _ ⟨_,_⟩ _
  refine KB (KA ?_)
  refine oS (mB (fun b3=>?_))
  refine oA ?_
  refine KC ?_
  refine KB ?_
  refine rD [] ?_
  refine aD 0 rfl (dL rfl (hv:=by exact KF Tryz.underlying25 rfl sz_25)) ?_
  refine aP 1 rfl (KJ (Kw pl_25 zr_25 rfl rfl) (show _ = natV 0 by unfold natV natL; rw [← vec_zeros 9])) ?_
  refine aP 2 rfl (KJ (Det.nea (by kernel_rfl) (fun w=>eq_nat X 0 hX zero_w9 10000 (by decide) w) rfl rfl) (show _ = Value.bool true by rw [decide_eq_false h0]; rfl)) ?_
  refine aM 3 ?_
  refine aGD 4 rfl (dL rfl (hv:=by exact KF Tryz.underlying25 rfl sz_25)) ?_
  refine aGM 5 ?_
  refine aGP 6 rfl (KQ rfl) ?_
  refine aGP 7 rfl (KI (o':=0) Tryz.underlying92 rfl rfl rfl sz_89 (by decide)) ?_
  refine aGP 8 rfl (KI (o':=28) Tryz.underlying89 rfl rfl rfl sz_25 (by decide)) ?_
  refine aGD 9 rfl (dL rfl (hv:=by exact cvC_ld_n _ _ _ _ _ _ _ _ _ _ _ _ _ _ _ _)) ?_
  refine aGO 10 rfl (cF rfl en_68 rfl (fun w hw=>c_nat_Cmp X V.n hX hnW w) ?_)
  refine aGP 11 rfl (KH (v:=.bool true) rfl rfl (br_t cmp_lt (hn))) ?_
  refine aP 12 rfl (Kq rfl rfl) ?_
  refine aA 13 ?_
  refine aE ?_
  refine KN ?_
  refine ⟨[_],.cons rfl .nil,fun a w' hr=>⟨?_,hr.fr.below⟩⟩
  rfl
theorem c_cKeyZ (V:Cv) (b f:Nat) (w:World) (hb:(Item.blk b ⟨false,opL V f,92,(0,0)⟩).holds w):Calls Tryz.prog 64 ([.pointer (some ⟨b,0,none⟩),natV 0]:List Value).toArray w (fun e w'=>e = .returned (.bool false)∧Below w.heap.size w w'):=by
  refine Ki (N:=18) (rs:=[.tmp 4]) [.blk b ⟨false,opL V f,92,(0,0)⟩] Tryz.func64 rfl Tryz.ntmps64 Tryz.results64 (Nb rfl) ⟨hb,trivial⟩ rfl ?_
  show LCode _ _ _ ⟨_,_⟩ _
  refine KB (KA ?_)
  refine oS (mB (fun b3=>?_))
  refine oA ?_
  refine KC ?_
  refine KB ?_
  refine rD [] ?_
  refine aD 0 rfl (dL rfl (hv:=by exact KF Tryz.underlying25 rfl sz_25)) ?_
  refine aP 1 rfl (KJ (Kw pl_25 zr_25 rfl rfl) (show _ = natV 0 by unfold natV natL; rw [← vec_zeros 9])) ?_
  refine aP 2 rfl (KJ (Det.nea (by kernel_rfl) (fun w=>eq_nat 0 0 zero_w9 zero_w9 10000 (by decide) w) rfl rfl) (show _ = Value.bool false by rw [decide_eq_true rfl]; rfl)) ?_
  refine aM 3 ?_
  refine aK 4 ?_
  refine aK 5 ?_
  refine aK 6 ?_
  refine aK 7 ?_
  refine aK 8 ?_
  refine aK 9 ?_
  refine aK 10 ?_
  refine aK 11 ?_
  refine aP 12 rfl (Kj rfl rfl) ?_
  refine aA 13 ?_
  refine aE ?_
  refine KN ?_
  refine ⟨[_],.cons rfl .nil,fun a w' hr=>⟨?_,hr.fr.below⟩⟩
  rfl
theorem c_cKeyF (V:Cv) (b f X:Nat) (w:World) (hb:(Item.blk b ⟨false,opL V f,92,(0,0)⟩).holds w) (hX:X<W9) (hnW:V.n<W9) (h0:X≠0) (hn:V.n≤X):Calls Tryz.prog 64 ([.pointer (some ⟨b,0,none⟩),natV X]:List Value).toArray w (fun e w'=>e = .returned (.bool false)∧Below w.heap.size w w'):=by
  refine Ki (N:=18) (rs:=[.tmp 4]) [.blk b ⟨false,opL V f,92,(0,0)⟩] Tryz.func64 rfl Tryz.ntmps64 Tryz.results64 (Nb rfl) ⟨hb,trivial⟩ rfl ?_
  show LCode _ _ _ ⟨_,_⟩ _
  refine KB (KA ?_)
  refine oS (mB (fun b3=>?_))
  refine oA ?_
  refine KC ?_
  refine KB ?_
  refine rD [] ?_
  refine aD 0 rfl (dL rfl (hv:=by exact KF Tryz.underlying25 rfl sz_25)) ?_
  refine aP 1 rfl (KJ (Kw pl_25 zr_25 rfl rfl) (show _ = natV 0 by unfold natV natL; rw [← vec_zeros 9])) ?_
  refine aP 2 rfl (KJ (Det.nea (by kernel_rfl) (fun w=>eq_nat X 0 hX zero_w9 10000 (by decide) w) rfl rfl) (show _ = Value.bool true by rw [decide_eq_false h0]; rfl)) ?_
  refine aM 3 ?_
  refine aGD 4 rfl (dL rfl (hv:=by exact KF Tryz.underlying25 rfl sz_25)) ?_
  refine aGM 5 ?_
  refine aGP 6 rfl (KQ rfl) ?_
  refine aGP 7 rfl (KI (o':=0) Tryz.underlying92 rfl rfl rfl sz_89 (by decide)) ?_
  refine aGP 8 rfl (KI (o':=28) Tryz.underlying89 rfl rfl rfl sz_25 (by decide)) ?_
  refine aGD 9 rfl (dL rfl (hv:=by exact cvC_ld_n _ _ _ _ _ _ _ _ _ _ _ _ _ _ _ _)) ?_
  refine aGO 10 rfl (cF rfl en_68 rfl (fun w hw=>c_nat_Cmp X V.n hX hnW w) ?_)
  refine aGP 11 rfl (KH (v:=.bool false) rfl rfl (br_f cmp_lt (Nat.not_lt_of_le hn))) ?_
  refine aP 12 rfl (Kq rfl rfl) ?_
  refine aA 13 ?_
  refine aE ?_
  refine KN ?_
  refine ⟨[_],.cons rfl .nil,fun a w' hr=>⟨?_,hr.fr.below⟩⟩
  rfl
theorem c_kCheckT (id:Int) (V:Cv) (K:Nat) (w:World) (h:cvI id = some V) (h0:K≠0) (hn:K<V.n):Calls Tryz.prog 40 ([.int .i64 id,natV K]:List Value).toArray w (fun e w'=>e = .returned (.int .i64 ((0:Nat):Int))∧Below w.heap.size w w'):=by
  obtain ⟨hok,hid⟩:=cvI_ok h
  have hbb:=hok.bounds
  have hpW:V.p<W9:=KAP hbb.2.1
  have hnW:V.n<W9:=KAP hbb.2.2.2.2.2.2.1
  have hbl:=blen_w9 hnW
  have hnb:nby V.n≤72:=by (unfold nby; omega)
  refine Ki (N:=16) (rs:=[.tmp 4]) [] Tryz.func40 rfl Tryz.ntmps40 Tryz.results40 (Nb rfl) trivial rfl ?_
  show LCode _ _ _ ⟨_,_⟩ _
  refine KB (KA ?_)
  refine oS (mB (fun b3=>?_))
  refine oP (KY (v:=.int .i64 ((0:Nat):Int)) rfl) ?_
  refine KC ?_
  refine KB (KA ?_)
  refine oM ?_
  refine oS (KAT (Post:=fun v its=>∃ b f bd,v = .pointer (some ⟨b,0,none⟩)∧its = [.blk b ⟨false,opL V f,92,(0,0)⟩,.blk f ⟨false,fldL V.p bd,116,(0,0)⟩,.blk bd ⟨false,dvL V.p,167,(0,0)⟩]) (first:=[]) rfl en_39 rfl (Nb rfl) (fun w1 hw hs=>(c_Open _ V w1 h).mono fun e w' ⟨b,f,bd,h1,h2,h3,h4,h5,h6,h7,h8⟩=>⟨_,_,⟨b,f,bd,rfl,rfl⟩,h1,KAV h8 (by intro x hx; simp at hx; rcases hx with rfl|rfl|rfl; exact h2; exact h3; exact h4) (by intro x hx; simp at hx; rcases hx with rfl|rfl|rfl <;> rfl) (by intro x hx k hk; simp at hx; rcases hx with rfl|rfl|rfl <;> simp [Item.fp] at hk <;> subst hk; exact .inl h5; exact .inl h6; exact .inl h7)⟩) ?_)
  rintro _ _ ⟨b,f,bd,rfl,rfl⟩
  refine oA ?_
  refine KC ?_
  refine KB ?_
  refine LCode.block ?_
  refine KB (KA ?_)
  refine oM ?_
  refine oP (KJ (Det.eqp Tryz.underlying79 rfl rfl) (show _ = Value.bool false from rfl)) ?_
  refine oA ?_
  refine KC ?_
  refine KR rfl ?_
  refine KB (KA ?_)
  refine oM ?_
  refine oD (dL rfl (hv:=by exact KF Tryz.underlying25 rfl sz_25)) ?_
  refine oS (cF rfl en_64 rfl (fun w hw=>c_cKeyT V b f K w (mC hw) (Nat.lt_trans hn hnW) hnW h0 hn) ?_)
  refine oP (KJ (Det.not rfl) (show _ = Value.bool false from rfl)) ?_
  refine oA ?_
  refine KC ?_
  refine KR rfl ?_
  refine KS ?_
  refine KB (KA ?_)
  refine oP (KY (v:=.int .i64 ((0:Nat):Int)) rfl) ?_
  refine KC (KN ?_)
  refine ⟨[_],.cons rfl .nil,fun a w' hr=>⟨?_,hr.fr.below⟩⟩
  rfl
theorem c_kCheckZ (id:Int) (V:Cv) (w:World) (h:cvI id = some V):Calls Tryz.prog 40 ([.int .i64 id,natV 0]:List Value).toArray w (fun e w'=>e = .returned (.int .i64 ((2401:Nat):Int))∧Below w.heap.size w w'):=by
  obtain ⟨hok,hid⟩:=cvI_ok h
  have hbb:=hok.bounds
  have hpW:V.p<W9:=KAP hbb.2.1
  have hnW:V.n<W9:=KAP hbb.2.2.2.2.2.2.1
  have hbl:=blen_w9 hnW
  have hnb:nby V.n≤72:=by (unfold nby; omega)
  refine Ki (N:=16) (rs:=[.tmp 4]) [] Tryz.func40 rfl Tryz.ntmps40 Tryz.results40 (Nb rfl) trivial rfl ?_
  show LCode _ _ _ ⟨_,_⟩ _
  refine KB (KA ?_)
  refine oS (mB (fun b3=>?_))
  refine oP (KY (v:=.int .i64 ((0:Nat):Int)) rfl) ?_
  refine KC ?_
  refine KB (KA ?_)
  refine oM ?_
  refine oS (KAT (Post:=fun v its=>∃ b f bd,v = .pointer (some ⟨b,0,none⟩)∧its = [.blk b ⟨false,opL V f,92,(0,0)⟩,.blk f ⟨false,fldL V.p bd,116,(0,0)⟩,.blk bd ⟨false,dvL V.p,167,(0,0)⟩]) (first:=[]) rfl en_39 rfl (Nb rfl) (fun w1 hw hs=>(c_Open _ V w1 h).mono fun e w' ⟨b,f,bd,h1,h2,h3,h4,h5,h6,h7,h8⟩=>⟨_,_,⟨b,f,bd,rfl,rfl⟩,h1,KAV h8 (by intro x hx; simp at hx; rcases hx with rfl|rfl|rfl; exact h2; exact h3; exact h4) (by intro x hx; simp at hx; rcases hx with rfl|rfl|rfl <;> rfl) (by intro x hx k hk; simp at hx; rcases hx with rfl|rfl|rfl <;> simp [Item.fp] at hk <;> subst hk; exact .inl h5; exact .inl h6; exact .inl h7)⟩) ?_)
  rintro _ _ ⟨b,f,bd,rfl,rfl⟩
  refine oA ?_
  refine KC ?_
  refine KB ?_
  refine LCode.block ?_
  refine KB (KA ?_)
  refine oM ?_
  refine oP (KJ (Det.eqp Tryz.underlying79 rfl rfl) (show _ = Value.bool false from rfl)) ?_
  refine oA ?_
  refine KC ?_
  refine KR rfl ?_
  refine KB (KA ?_)
  refine oM ?_
  refine oD (dL rfl (hv:=by exact KF Tryz.underlying25 rfl sz_25)) ?_
  refine oS (cF rfl en_64 rfl (fun w hw=>c_cKeyZ V b f w (mC hw)) ?_)
  refine oP (KJ (Det.not rfl) (show _ = Value.bool true from rfl)) ?_
  refine oA ?_
  refine KC ?_
  refine Ke rfl ?_
  refine KB (KA ?_)
  refine oP (KY (v:=.int .i64 ((2401:Nat):Int)) rfl) ?_
  refine KC (KN ?_)
  refine ⟨[_],.cons rfl .nil,fun a w' hr=>⟨?_,hr.fr.below⟩⟩
  rfl
theorem c_kCheckF (id:Int) (V:Cv) (K:Nat) (w:World) (h:cvI id = some V) (hX:K<W9) (h0:K≠0) (hn:V.n≤K):Calls Tryz.prog 40 ([.int .i64 id,natV K]:List Value).toArray w (fun e w'=>e = .returned (.int .i64 ((2401:Nat):Int))∧Below w.heap.size w w'):=by
  obtain ⟨hok,hid⟩:=cvI_ok h
  have hbb:=hok.bounds
  have hpW:V.p<W9:=KAP hbb.2.1
  have hnW:V.n<W9:=KAP hbb.2.2.2.2.2.2.1
  have hbl:=blen_w9 hnW
  have hnb:nby V.n≤72:=by (unfold nby; omega)
  refine Ki (N:=16) (rs:=[.tmp 4]) [] Tryz.func40 rfl Tryz.ntmps40 Tryz.results40 (Nb rfl) trivial rfl ?_
  show LCode _ _ _ ⟨_,_⟩ _
  refine KB (KA ?_)
  refine oS (mB (fun b3=>?_))
  refine oP (KY (v:=.int .i64 ((0:Nat):Int)) rfl) ?_
  refine KC ?_
  refine KB (KA ?_)
  refine oM ?_
  refine oS (KAT (Post:=fun v its=>∃ b f bd,v = .pointer (some ⟨b,0,none⟩)∧its = [.blk b ⟨false,opL V f,92,(0,0)⟩,.blk f ⟨false,fldL V.p bd,116,(0,0)⟩,.blk bd ⟨false,dvL V.p,167,(0,0)⟩]) (first:=[]) rfl en_39 rfl (Nb rfl) (fun w1 hw hs=>(c_Open _ V w1 h).mono fun e w' ⟨b,f,bd,h1,h2,h3,h4,h5,h6,h7,h8⟩=>⟨_,_,⟨b,f,bd,rfl,rfl⟩,h1,KAV h8 (by intro x hx; simp at hx; rcases hx with rfl|rfl|rfl; exact h2; exact h3; exact h4) (by intro x hx; simp at hx; rcases hx with rfl|rfl|rfl <;> rfl) (by intro x hx k hk; simp at hx; rcases hx with rfl|rfl|rfl <;> simp [Item.fp] at hk <;> subst hk; exact .inl h5; exact .inl h6; exact .inl h7)⟩) ?_)
  rintro _ _ ⟨b,f,bd,rfl,rfl⟩
  refine oA ?_
  refine KC ?_
  refine KB ?_
  refine LCode.block ?_
  refine KB (KA ?_)
  refine oM ?_
  refine oP (KJ (Det.eqp Tryz.underlying79 rfl rfl) (show _ = Value.bool false from rfl)) ?_
  refine oA ?_
  refine KC ?_
  refine KR rfl ?_
  refine KB (KA ?_)
  refine oM ?_
  refine oD (dL rfl (hv:=by exact KF Tryz.underlying25 rfl sz_25)) ?_
  refine oS (cF rfl en_64 rfl (fun w hw=>c_cKeyF V b f K w (mC hw) hX hnW h0 hn) ?_)
  refine oP (KJ (Det.not rfl) (show _ = Value.bool true from rfl)) ?_
  refine oA ?_
  refine KC ?_
  refine Ke rfl ?_
  refine KB (KA ?_)
  refine oP (KY (v:=.int .i64 ((2401:Nat):Int)) rfl) ?_
  refine KC (KN ?_)
  refine ⟨[_],.cons rfl .nil,fun a w' hr=>⟨?_,hr.fr.below⟩⟩
  rfl
theorem c_eShared_none (tb:Option Nat) (id:Int) (K:Nat) (s:ByteArray) (w:World) (h:cvI id = none):Calls Tryz.prog 19 ([trV tb,.int .i64 id,natV K,.string s]:List Value).toArray w (fun e w'=>e = .returned (.tuple #[.string ⟨#[]⟩,.int .i64 ((2500:Nat):Int)])∧Below w.heap.size w w'):=by
  refine Ki (N:=55) (rs:=[.tmp 8,.tmp 9]) [] Tryz.func19 rfl Tryz.ntmps19 Tryz.results19 (Nb rfl) trivial rfl ?_
  show LCode _ _ _ ⟨_,_⟩ _
  refine KB (KA ?_)
  refine oS (mB (fun b6=>?_))
  refine oA ?_
  refine oP (KY (v:=.int .i64 ((0:Nat):Int)) rfl) ?_
  refine KC ?_
  refine KB (KA ?_)
  refine oM ?_
  refine oS (cF rfl en_39 rfl (fun w hw=>c_Open_none id w h) ?_)
  refine oA ?_
  refine KC ?_
  refine KB ?_
  refine LCode.block ?_
  refine KB (KA ?_)
  refine oM ?_
  refine oP (KJ (Det.eqp Tryz.underlying79 rfl rfl) (show _ = Value.bool true from rfl)) ?_
  refine oA ?_
  refine KC ?_
  refine Ke rfl ?_
  refine KB (KA ?_)
  refine oA ?_
  refine oP (KY (v:=.int .i64 ((2500:Nat):Int)) rfl) ?_
  refine KC (KN ?_)
  refine ⟨[_,_],.cons rfl (.cons rfl .nil),fun a w' hr=>⟨?_,hr.fr.below⟩⟩
  rfl
theorem c_eShared_key (tb:Option Nat) (id:Int) (V:Cv) (K:Nat) (s:ByteArray) (w:World) (h:cvI id = some V) (hX:K<W9) (hk:K = 0∨V.n≤K):Calls Tryz.prog 19 ([trV tb,.int .i64 id,natV K,.string s]:List Value).toArray w (fun e w'=>e = .returned (.tuple #[.string ⟨#[]⟩,.int .i64 ((2501:Nat):Int)])∧Below w.heap.size w w'):=by
  obtain ⟨hok,hid⟩:=cvI_ok h
  have hbb:=hok.bounds
  have hpW:V.p<W9:=KAP hbb.2.1
  have hnW:V.n<W9:=KAP hbb.2.2.2.2.2.2.1
  have hbl:=blen_w9 hnW
  have hnb:nby V.n≤72:=by (unfold nby; omega)
  refine Ki (N:=55) (rs:=[.tmp 8,.tmp 9]) [] Tryz.func19 rfl Tryz.ntmps19 Tryz.results19 (Nb rfl) trivial rfl ?_
  show LCode _ _ _ ⟨_,_⟩ _
  refine KB (KA ?_)
  refine oS (mB (fun b6=>?_))
  refine oA ?_
  refine oP (KY (v:=.int .i64 ((0:Nat):Int)) rfl) ?_
  refine KC ?_
  refine KB (KA ?_)
  refine oM ?_
  refine oS (KAT (Post:=fun v its=>∃ b f bd,v = .pointer (some ⟨b,0,none⟩)∧its = [.blk b ⟨false,opL V f,92,(0,0)⟩,.blk f ⟨false,fldL V.p bd,116,(0,0)⟩,.blk bd ⟨false,dvL V.p,167,(0,0)⟩]) (first:=[]) rfl en_39 rfl (Nb rfl) (fun w1 hw hs=>(c_Open _ V w1 h).mono fun e w' ⟨b,f,bd,h1,h2,h3,h4,h5,h6,h7,h8⟩=>⟨_,_,⟨b,f,bd,rfl,rfl⟩,h1,KAV h8 (by intro x hx; simp at hx; rcases hx with rfl|rfl|rfl; exact h2; exact h3; exact h4) (by intro x hx; simp at hx; rcases hx with rfl|rfl|rfl <;> rfl) (by intro x hx k hk; simp at hx; rcases hx with rfl|rfl|rfl <;> simp [Item.fp] at hk <;> subst hk; exact .inl h5; exact .inl h6; exact .inl h7)⟩) ?_)
  rintro _ _ ⟨b,f,bd,rfl,rfl⟩
  refine oA ?_
  refine KC ?_
  refine KB ?_
  refine LCode.block ?_
  refine KB (KA ?_)
  refine oM ?_
  refine oP (KJ (Det.eqp Tryz.underlying79 rfl rfl) (show _ = Value.bool false from rfl)) ?_
  refine oA ?_
  refine KC ?_
  refine KR rfl ?_
  refine KB ?_
  rcases (show K = 0∨K≠0 by omega) with rfl|h0
  ·
    refine KA ?_
    refine oM ?_
    refine oD (dL rfl (hv:=by exact KF Tryz.underlying25 rfl sz_25)) ?_
    refine oS (cF rfl en_40 rfl (fun w hw=>c_kCheckZ id V w h) ?_)
    refine oP (KH (v:=.bool true) rfl rfl (br_t (br_neq (b:=0)) (by decide))) ?_
    refine oA ?_
    refine KC ?_
    refine Ke rfl ?_
    refine KB (KA ?_)
    refine oA ?_
    refine oP (KY (v:=.int .i64 ((2501:Nat):Int)) rfl) ?_
    refine KC (KN ?_)
    refine ⟨[_,_],.cons rfl (.cons rfl .nil),fun a w' hr=>⟨?_,hr.fr.below⟩⟩
    rfl
  ·
    refine KA ?_
    refine oM ?_
    refine oD (dL rfl (hv:=by exact KF Tryz.underlying25 rfl sz_25)) ?_
    refine oS (cF rfl en_40 rfl (fun w hw=>c_kCheckF id V K w h hX h0 (by omega)) ?_)
    refine oP (KH (v:=.bool true) rfl rfl (br_t (br_neq (b:=0)) (by decide))) ?_
    refine oA ?_
    refine KC ?_
    refine Ke rfl ?_
    refine KB (KA ?_)
    refine oA ?_
    refine oP (KY (v:=.int .i64 ((2501:Nat):Int)) rfl) ?_
    refine KC (KN ?_)
    refine ⟨[_,_],.cons rfl (.cons rfl .nil),fun a w' hr=>⟨?_,hr.fr.below⟩⟩
    rfl
theorem c_eShared_pt (tb:Option Nat) (id:Int) (V:Cv) (K:Nat) (s:ByteArray) (X Y e:Nat) (w:World) (h:cvI id = some V) (h0:K≠0) (hn:K<V.n) (hs:s.size<9223372036854775808) (hg:getT V s = (X,Y,e)) (he:e≠0):Calls Tryz.prog 19 ([trV tb,.int .i64 id,natV K,.string s]:List Value).toArray w (fun e w'=>e = .returned (.tuple #[.string ⟨#[]⟩,.int .i64 ((2502:Nat):Int)])∧Below w.heap.size w w'):=by
  obtain ⟨hok,hid⟩:=cvI_ok h
  have hbb:=hok.bounds
  have hpW:V.p<W9:=KAP hbb.2.1
  have hnW:V.n<W9:=KAP hbb.2.2.2.2.2.2.1
  have hbl:=blen_w9 hnW
  have hnb:nby V.n≤72:=by (unfold nby; omega)
  refine Ki (N:=55) (rs:=[.tmp 8,.tmp 9]) [] Tryz.func19 rfl Tryz.ntmps19 Tryz.results19 (Nb rfl) trivial rfl ?_
  show LCode _ _ _ ⟨_,_⟩ _
  refine KB (KA ?_)
  refine oS (mB (fun b6=>?_))
  refine oA ?_
  refine oP (KY (v:=.int .i64 ((0:Nat):Int)) rfl) ?_
  refine KC ?_
  refine KB (KA ?_)
  refine oM ?_
  refine oS (KAT (Post:=fun v its=>∃ b f bd,v = .pointer (some ⟨b,0,none⟩)∧its = [.blk b ⟨false,opL V f,92,(0,0)⟩,.blk f ⟨false,fldL V.p bd,116,(0,0)⟩,.blk bd ⟨false,dvL V.p,167,(0,0)⟩]) (first:=[]) rfl en_39 rfl (Nb rfl) (fun w1 hw hs=>(c_Open _ V w1 h).mono fun e w' ⟨b,f,bd,h1,h2,h3,h4,h5,h6,h7,h8⟩=>⟨_,_,⟨b,f,bd,rfl,rfl⟩,h1,KAV h8 (by intro x hx; simp at hx; rcases hx with rfl|rfl|rfl; exact h2; exact h3; exact h4) (by intro x hx; simp at hx; rcases hx with rfl|rfl|rfl <;> rfl) (by intro x hx k hk; simp at hx; rcases hx with rfl|rfl|rfl <;> simp [Item.fp] at hk <;> subst hk; exact .inl h5; exact .inl h6; exact .inl h7)⟩) ?_)
  rintro _ _ ⟨b,f,bd,rfl,rfl⟩
  refine oA ?_
  refine KC ?_
  refine KB ?_
  refine LCode.block ?_
  refine KB (KA ?_)
  refine oM ?_
  refine oP (KJ (Det.eqp Tryz.underlying79 rfl rfl) (show _ = Value.bool false from rfl)) ?_
  refine oA ?_
  refine KC ?_
  refine KR rfl ?_
  refine KB (KA ?_)
  refine oM ?_
  refine oD (dL rfl (hv:=by exact KF Tryz.underlying25 rfl sz_25)) ?_
  refine oS (cF rfl en_40 rfl (fun w hw=>c_kCheckT id V K w h h0 hn) ?_)
  refine oP (KH (v:=.bool false) rfl rfl (br_f (br_neq (b:=0)) (by decide))) ?_
  refine oA ?_
  refine KC ?_
  refine KR rfl ?_
  refine KS ?_
  refine KB (KA ?_)
  refine oM ?_
  refine oM ?_
  refine oS (cF rfl en_41 rfl (fun w hw=>c_s_GetE X Y e id V s w h hs hg) ?_)
  refine oM ?_
  refine oP (Det.extract rfl rfl) ?_
  refine oP (Det.extract rfl rfl) ?_
  refine oS (mk (KV zr_83) (fun b11=>?_))
  refine KT rfl (sA rfl rfl sz_83 (by exact Kb _ _ _) (hl:=by exact KL _ _ _) (h:=?_))
  refine oA ?_
  refine KC ?_
  refine KB ?_
  refine KB (KA ?_)
  refine oM ?_
  refine oP (KH (v:=.bool true) rfl rfl (br_t (br_neq (b:=0)) ((by omega)))) ?_
  refine KC ?_
  refine Ke rfl ?_
  refine KB (KA ?_)
  refine oA ?_
  refine oP (KY (v:=.int .i64 ((2502:Nat):Int)) rfl) ?_
  refine KC (KN ?_)
  refine ⟨[_,_],.cons rfl (.cons rfl .nil),fun a w' hr=>⟨?_,hr.fr.below⟩⟩
  rfl
theorem c_eShared (tb:Option Nat) (tr:TrRow) (l:List Nat) (id:Int) (V:Cv) (K:Nat) (s:ByteArray) (x y:Fin V.p) (m:Nat) (hm:(blen V.n+3)/4 = m) (w:World) (h:cvI id = some V) (hk0:K≠0) (hn:K<V.n) (hs:s.size<9223372036854775808) (hg:getT V s = (x.val,y.val,0)) (hP:On V.A V.B (.aff x y)) (h0:(trI tb tr l).holds w) (hl:l.length≤80000000):Calls Tryz.prog 19 ([trV tb,.int .i64 id,natV K,.string s]:List Value).toArray w (fun e w'=>TrR w tb tr (l++evN m) (.tuple #[.string (coB V (xv (pmul V.A (.aff x y:Pt V.p) K))),.int .i64 ((0:Nat):Int)]) e w'):=by
  obtain ⟨hok,hid⟩:=cvI_ok h
  have hbb:=hok.bounds
  have hpW:V.p<W9:=KAP hbb.2.1
  have hnW:V.n<W9:=KAP hbb.2.2.2.2.2.2.1
  have hbl:=blen_w9 hnW
  have hnb:nby V.n≤72:=by (unfold nby; omega)
  have hnp:=nbp_72 hok
  refine calls_tr (N:=55) (rs:=[.tmp 8,.tmp 9]) tb tr l [] Tryz.func19 rfl Tryz.ntmps19 Tryz.results19 (Nb rfl) h0 trivial rfl trivial ?_
  show LCode _ _ _ ⟨_,_⟩ _
  refine KB (KA ?_)
  refine oS (mB (fun b6=>?_))
  refine oA ?_
  refine oP (KY (v:=.int .i64 ((0:Nat):Int)) rfl) ?_
  refine KC ?_
  refine KB (KA ?_)
  refine oM ?_
  refine oS (KAT (Post:=fun v its=>∃ b f bd,v = .pointer (some ⟨b,0,none⟩)∧its = [.blk b ⟨false,opL V f,92,(0,0)⟩,.blk f ⟨false,fldL V.p bd,116,(0,0)⟩,.blk bd ⟨false,dvL V.p,167,(0,0)⟩]) (first:=[]) rfl en_39 rfl (Nb rfl) (fun w1 hw hs=>(c_Open _ V w1 h).mono fun e w' ⟨b,f,bd,h1,h2,h3,h4,h5,h6,h7,h8⟩=>⟨_,_,⟨b,f,bd,rfl,rfl⟩,h1,KAV h8 (by intro x hx; simp at hx; rcases hx with rfl|rfl|rfl; exact h2; exact h3; exact h4) (by intro x hx; simp at hx; rcases hx with rfl|rfl|rfl <;> rfl) (by intro x hx k hk; simp at hx; rcases hx with rfl|rfl|rfl <;> simp [Item.fp] at hk <;> subst hk; exact .inl h5; exact .inl h6; exact .inl h7)⟩) ?_)
  rintro _ _ ⟨b,f,bd,rfl,rfl⟩
  refine oA ?_
  refine KC ?_
  refine KB ?_
  refine LCode.block ?_
  refine KB (KA ?_)
  refine oM ?_
  refine oP (KJ (Det.eqp Tryz.underlying79 rfl rfl) (show _ = Value.bool false from rfl)) ?_
  refine oA ?_
  refine KC ?_
  refine KR rfl ?_
  refine KB (KA ?_)
  refine oM ?_
  refine oD (dL rfl (hv:=by exact KF Tryz.underlying25 rfl sz_25)) ?_
  refine oS (cF rfl en_40 rfl (fun w hw=>c_kCheckT id V K w h hk0 hn) ?_)
  refine oP (KH (v:=.bool false) rfl rfl (br_f (br_neq (b:=0)) (by decide))) ?_
  refine oA ?_
  refine KC ?_
  refine KR rfl ?_
  refine KS ?_
  refine KB (KA ?_)
  refine oM ?_
  refine oM ?_
  refine oS (cF rfl en_41 rfl (fun w hw=>c_s_GetE x.val y.val 0 id V s w h hs hg) ?_)
  refine oM ?_
  refine oP (Det.extract rfl rfl) ?_
  refine oP (Det.extract rfl rfl) ?_
  refine oS (mk (KV zr_83) (fun b11=>?_))
  refine KT rfl (sA rfl rfl sz_83 (by exact Kb _ _ _) (hl:=by simp [KL,KG]) (h:=?_))
  refine oA ?_
  refine KC ?_
  refine KB ?_
  refine KB (KA ?_)
  refine oM ?_
  refine oP (KH (v:=.bool false) rfl rfl (br_f (br_neq (b:=0)) (by decide))) ?_
  refine KC ?_
  refine KR rfl ?_
  refine KS ?_
  refine KB (KA ?_)
  refine oM ?_
  refine oM ?_
  refine oD (dL rfl (hv:=by exact KF Tryz.underlying25 rfl sz_25)) ?_
  refine oD (dL rfl (hv:=by exact KF Tryz.underlying83 rfl sz_83)) ?_
  refine KT rfl (LStepW.callT (first:=[]) (r:=tr) (l:=l) (l':=l++evN m) rfl en_42 rfl (Nb rfl) (by repeat (first|exact Pick.head _|apply Pick.tail)) (fun w hw hn0=>c_mMul tb tr l id V K (.aff x y) m hm w h hP hn (mC hw) hl) ?_)
  intro r1
  refine oM ?_
  refine oP (Det.extract rfl rfl) ?_
  refine oP (Det.extract rfl rfl) ?_
  refine oS (mk (KV zr_83) (fun b13=>?_))
  refine KT rfl (sA rfl rfl sz_83 (by exact Kb _ _ _) (hl:=by simp [KL,KG]) (h:=?_))
  refine oA ?_
  refine KC ?_
  refine KB ?_
  refine rD [] ?_
  refine aP 0 rfl (KI (o':=0) Tryz.underlying83 rfl rfl rfl sz_25 (by decide)) ?_
  refine aD 1 rfl (dL rfl (hv:=by exact KAD Tryz.underlying25 rfl sz_25 rfl (KD _))) ?_
  refine aM 2 ?_
  refine aP 3 rfl (KQ rfl) ?_
  refine aP 4 rfl (KI (o':=0) Tryz.underlying92 rfl rfl rfl sz_89 (by decide)) ?_
  refine aP 5 rfl (KI (o':=57) Tryz.underlying89 rfl rfl rfl sz_3 (by decide)) ?_
  refine aD 6 rfl (dL rfl (hv:=KO Tryz.underlying3 rfl (by exact cvC_gt_size _ _ _ _ _ _ _ _ _ _ _ _ _))) ?_
  refine aO 7 rfl (cF rfl en_43 rfl (fun w hw=>c_nat_BytesOK (xv (pmul V.A (.aff x y:Pt V.p) K)) (nby V.p) w (Nat.lt_trans (xv_lt _) hpW) hnp (nby_le (xv_lt _))) ?_)
  refine aM 8 ?_
  refine aP 9 rfl (Det.extract rfl rfl) ?_
  refine aP 10 rfl (Det.extract rfl rfl) ?_
  refine aA 11 ?_
  refine aA 12 ?_
  refine aE ?_
  refine KB (KA ?_)
  refine oM ?_
  refine oA ?_
  refine oP (KY (v:=.int .i64 ((0:Nat):Int)) rfl) ?_
  refine KC (KN ?_)
  exact ⟨[_,_],.cons rfl (.cons rfl .nil),fun a w' hr=>hr.tr (by repeat (first|exact Mh _|apply Mt))⟩
theorem c_eSharedN (R:ByteArray) (id:Int) (V:Cv) (K:Nat) (s:ByteArray) (x y:Fin V.p) (w:World) (h:cvI id = some V) (h0:K≠0) (hn:K<V.n) (hs:s.size<9223372036854775808) (hg:getT V s = (x.val,y.val,0)) (hP:On V.A V.B (.aff x y)) (hR:coB V (xv (pmul V.A (.aff x y:Pt V.p) K)) = R):Calls Tryz.prog 19 ([.pointer none,.int .i64 id,natV K,.string s]:List Value).toArray w (fun e w'=>e = .returned (.tuple #[.string R,.int .i64 ((0:Nat):Int)])∧Below w.heap.size w w') :=
  hR ▸ (c_eShared none none [] id V K s x y _ rfl w h h0 hn hs hg hP (trI_nil _ _) (Nat.zero_le _)).mono fun e w' h=>TrR.nil h
end Go.Proofs.YtlmiolnccgjjjaaGreat
set_option linter.unusedVariables false
set_option linter.unusedSimpArgs false
set_option maxRecDepth 20000
namespace Go.Proofs.YtlmiolnccgjjjaaGreat
open Go Go.RowKit
open Grp
def keyN (V:Cv) (A:Nat):Nat:=A%(V.n-1)+1
theorem keyN_lt {V:Cv} (hok:V.Ok) (A:Nat):keyN V A≠0∧keyN V A<V.n:=by
  have hb:=hok.bounds
  have:=Nat.mod_lt A (show 0<V.n-1 by omega)
  unfold keyN; omega
theorem aw25_g:getT cv13 ⟨#[4,2,84]⟩ = ((c cv13.p cv13.x).val,(c cv13.p cv13.y).val,0):=by
  rw [getT_l,nby13]; decide +kernel
theorem aw25_0:getT cv13 ⟨#[0]⟩ = (0,0,2102):=by
  rw [getT_l,nby13]; decide +kernel
theorem aw25_r (hok:cv13.Ok):(coB cv13 (xv (pmul cv13.A (.aff (c cv13.p cv13.x) (c cv13.p cv13.y)) 1))).data.toList = [2]:=by
  have e:pmul cv13.A (.aff (c cv13.p cv13.x) (c cv13.p cv13.y)) 1 = (.aff (c cv13.p cv13.x) (c cv13.p cv13.y):Pt cv13.p):=by
    show padd cv13.A .inf _ = _
    exact hok.inf_add hok.on
  rw [e,coB_l,nby13]
  show beBytes 1 (c cv13.p cv13.x).val = [2]
  decide +kernel
theorem coB_sz (V:Cv) (X:Nat):(coB V X).size = nby V.p:=coB_size V X
theorem c_some (Q:CQ) (V:Cv) (A:Nat) (w:World) (hc:(crvI Q V).holds w) (hok:V.Ok) (hA:A<W9):Calls Tryz.prog 14 ([.agg (crvL Q V).toArray,natV A]:List Value).toArray w (fun e w'=>e = .returned (natV (keyN V A))∧Below w.heap.size w w'):=by
  have hbb:=hok.bounds
  have hsn:=hok.sz.n
  have hdA:=nw_w9_dig hA
  have hd1:=nw_one
  have hdm:=D.nw_mono (Nat.mod_le A (V.n-1))
  refine Ki (N:=17) (rs:=[.cell 4 25]) [crvI Q V] Tryz.func14 rfl Tryz.ntmps14 Tryz.results14 (Nb rfl) ⟨hc,trivial⟩ rfl ?_
  show LCode _ _ _ ⟨_,_⟩ _
  refine KB (KA ?_)
  refine oS (mB (fun b2=>?_))
  refine oS (mB (fun b3=>?_))
  refine oS (mk (KV zr_25) (fun b4=>?_))
  refine KC ?_
  refine KB ?_
  refine rD [] ?_
  refine aD 0 rfl (dL rfl (hv:=by exact KF Tryz.underlying25 rfl sz_25)) ?_
  refine aP 2 rfl (KI (o':=4) Tryz.underlying30 rfl rfl rfl sz_28 (by decide)) ?_
  refine aD 3 rfl (dL rfl (hv:=KO Tryz.underlying28 rfl (by first|rfl|exact Kf _ _ _ (by omega)|exact Kd _ (by omega)|exact Kc _ (by omega)|exact dv_m _ _ _ (by omega)))) ?_
  refine LAny.twoX 1 4 rfl rfl rfl rfl (by kernel_rfl) (.inr (cZ rfl en_11 rfl (fun w hw hs=>(c_n_From A hA w).mono fun e w' h=>KAS (Old.nil _) hs h) ?_)) (.inr (mk (KAE Tryz.underlying28 inf_57 rfl rfl rfl rfl (by decide) rfl) (fun b10=>?_)))
  ·
    rintro _ _ ⟨qa,rfl,rfl,hna⟩
    refine aO 4 rfl (mk (KAE Tryz.underlying28 inf_57 rfl rfl rfl rfl (by decide) rfl) (fun b10=>?_))
    refine aO 5 rfl (cZ rfl en_16 rfl (fun w hw hs=>(c_n_Sub Q.n ⟨false,b10,1⟩ V.n 1 w (crvI_n (mC hw)) (n1_blk (mC hw) (by decide)) (by omega) (by omega)).mono fun e w' h=>KAS (Old.nil _) hs h) ?_)
    rintro _ _ ⟨qs,rfl,rfl,hns⟩
    refine aO 6 rfl (cZ rfl en_35 rfl (fun w hw hs=>(c_n_Mod qa qs A (V.n-1) (by omega) w (mC hw) (mC hw) (by omega)).mono fun e w' h=>KAS (Old.one (x:=numT qa A) (by repeat (first|exact Mh _|apply Mt)) rfl) hs h) ?_)
    rintro _ _ ⟨qm,rfl,rfl,hnm⟩
    refine aA 7 ?_
    refine aE ?_
    refine KB (KA ?_)
    refine oM ?_
    refine oS (mk (KAE Tryz.underlying28 inf_57 rfl rfl rfl rfl (by decide) rfl) (fun b14=>?_))
    refine oS (cZ rfl en_36 rfl (fun w hw hs=>(c_n_Add qm ⟨false,b14,1⟩ (A%(V.n-1)) 1 w (mC hw) (n1_blk (mC hw) (by decide)) (by omega) (by omega)).mono fun e w' h=>KAS (Old.nil _) hs h) ?_)
    rintro _ _ ⟨qr,rfl,rfl,hnr⟩
    refine oS (cF rfl en_15 rfl (fun w hw=>c_n_Nat qr (A%(V.n-1)+1) (D.nw (A%(V.n-1)+1)) w (mC hw)) ?_)
    refine KT rfl (sA rfl rfl sz_25 (by exact KZ _) (hl:=by exact KD _) (h:=?_))
    refine KC (KN ?_)
    refine ⟨[_],.cons ⟨_,_,_,rfl,(by repeat (first|exact Mh _|apply Mt)),by exact KF Tryz.underlying25 rfl sz_25⟩ .nil,fun a w' hr=>⟨?_,hr.fr.below⟩⟩
    rfl
  ·
    refine aO 1 rfl (cZ rfl en_11 rfl (fun w hw hs=>(c_n_From A hA w).mono fun e w' h=>KAS (Old.nil _) hs h) ?_)
    rintro _ _ ⟨qa,rfl,rfl,hna⟩
    refine aO 5 rfl (cZ rfl en_16 rfl (fun w hw hs=>(c_n_Sub Q.n ⟨false,b10,1⟩ V.n 1 w (crvI_n (mC hw)) (n1_blk (mC hw) (by decide)) (by omega) (by omega)).mono fun e w' h=>KAS (Old.nil _) hs h) ?_)
    rintro _ _ ⟨qs,rfl,rfl,hns⟩
    refine aO 6 rfl (cZ rfl en_35 rfl (fun w hw hs=>(c_n_Mod qa qs A (V.n-1) (by omega) w (mC hw) (mC hw) (by omega)).mono fun e w' h=>KAS (Old.one (x:=numT qa A) (by repeat (first|exact Mh _|apply Mt)) rfl) hs h) ?_)
    rintro _ _ ⟨qm,rfl,rfl,hnm⟩
    refine aA 7 ?_
    refine aE ?_
    refine KB (KA ?_)
    refine oM ?_
    refine oS (mk (KAE Tryz.underlying28 inf_57 rfl rfl rfl rfl (by decide) rfl) (fun b14=>?_))
    refine oS (cZ rfl en_36 rfl (fun w hw hs=>(c_n_Add qm ⟨false,b14,1⟩ (A%(V.n-1)) 1 w (mC hw) (n1_blk (mC hw) (by decide)) (by omega) (by omega)).mono fun e w' h=>KAS (Old.nil _) hs h) ?_)
    rintro _ _ ⟨qr,rfl,rfl,hnr⟩
    refine oS (cF rfl en_15 rfl (fun w hw=>c_n_Nat qr (A%(V.n-1)+1) (D.nw (A%(V.n-1)+1)) w (mC hw)) ?_)
    refine KT rfl (sA rfl rfl sz_25 (by exact KZ _) (hl:=by exact KD _) (h:=?_))
    refine KC (KN ?_)
    refine ⟨[_],.cons ⟨_,_,_,rfl,(by repeat (first|exact Mh _|apply Mt)),by exact KF Tryz.underlying25 rfl sz_25⟩ .nil,fun a w' hr=>⟨?_,hr.fr.below⟩⟩
    rfl
theorem c_awake25  (w:World)  : Calls Tryz.prog 8 ([]:List Value).toArray w (fun e w'=>e = .returned (.bool true)∧Below w.heap.size w w'):=by
  obtain ⟨hok,-⟩:=cvI_ok cv13_is
  obtain ⟨R,hR,hR2⟩:∃ R,coB cv13 (xv (pmul cv13.A (.aff (c cv13.p cv13.x) (c cv13.p cv13.y)) 1)) = R∧R.data.toList = [2]:=⟨_,rfl,aw25_r hok⟩
  refine Ki (N:=51) (rs:=[.tmp 0]) [] Tryz.func8 rfl Tryz.ntmps8 Tryz.results8 (Nb rfl) trivial rfl ?_
  show LCode _ _ _ ⟨_,_⟩ _
  refine KB (KA ?_)
  refine oA ?_
  refine KC ?_
  refine KB (KA ?_)
  refine oS (cF rfl en_12 rfl (fun w hw=>c_One 1 w (by decide)) ?_)
  refine oS (cF rfl en_19 rfl (fun w hw=>c_eSharedN R 13 cv13 1 ⟨#[4,2,84]⟩ _ _ w cv13_is (by decide) (by decide) (by decide) aw25_g hok.on hR) ?_)
  refine oM ?_
  refine oP (Det.extract rfl rfl) ?_
  refine oP (Det.extract rfl rfl) ?_
  refine oA ?_
  refine oA ?_
  refine KC ?_
  refine KB (KA ?_)
  refine oS (cF rfl en_12 rfl (fun w hw=>c_One 0 w (by decide)) ?_)
  refine oS (cF rfl en_19 rfl (fun w hw=>c_eShared_key none 13 cv13 0 ⟨#[4,2,84]⟩ w cv13_is zero_w9 (.inl rfl)) ?_)
  refine oM ?_
  refine oP (Det.extract rfl rfl) ?_
  refine oP (Det.extract rfl rfl) ?_
  refine oA ?_
  refine oA ?_
  refine KC ?_
  refine KB (KA ?_)
  refine oS (cF rfl en_12 rfl (fun w hw=>c_One 1 w (by decide)) ?_)
  refine oS (cF rfl en_19 rfl (fun w hw=>c_eShared_pt none 13 cv13 1 ⟨#[0]⟩ 0 0 2102 w cv13_is (by decide) (by decide) (by decide) aw25_0 (by decide)) ?_)
  refine oM ?_
  refine oP (Det.extract rfl rfl) ?_
  refine oP (Det.extract rfl rfl) ?_
  refine oA ?_
  refine oA ?_
  refine KC ?_
  refine KB (KA ?_)
  refine oS (cF rfl en_12 rfl (fun w hw=>c_One 1 w (by decide)) ?_)
  refine oS (cF rfl en_19 rfl (fun w hw=>c_eShared_none none 0 1 ⟨#[0]⟩ w rfl) ?_)
  refine oM ?_
  refine oP (Det.extract rfl rfl) ?_
  refine oP (Det.extract rfl rfl) ?_
  refine oA ?_
  refine oA ?_
  refine KC ?_
  refine KB (KA ?_)
  refine oM ?_
  refine oP (KJ (Det.eqs rfl rfl) (congrArg Value.bool (eq_str_t (hR2)))) ?_
  refine oM ?_
  refine oGM ?_
  refine oGS (cF rfl en_20 rfl (fun w hw=>c_Num _ w) ?_)
  refine oGP (KH (v:=.bool true) rfl rfl (br_t (KAR (b:=0)) (by first|rfl|assumption|omega|(simp; done)))) ?_
  refine oP (Kq rfl rfl) ?_
  refine oM ?_
  refine oGM ?_
  refine oGS (cF rfl en_20 rfl (fun w hw=>c_Num _ w) ?_)
  refine oGP (KH (v:=.bool true) rfl rfl (br_t (KAR (b:=2501)) (by first|rfl|assumption|omega|(simp; done)))) ?_
  refine oP (Kq rfl rfl) ?_
  refine oM ?_
  refine oGM ?_
  refine oGS (cF rfl en_20 rfl (fun w hw=>c_Num _ w) ?_)
  refine oGP (KH (v:=.bool true) rfl rfl (br_t (KAR (b:=2502)) (by first|rfl|assumption|omega|(simp; done)))) ?_
  refine oP (Kq rfl rfl) ?_
  refine oM ?_
  refine oGM ?_
  refine oGS (cF rfl en_20 rfl (fun w hw=>c_Num _ w) ?_)
  refine oGP (KH (v:=.bool true) rfl rfl (br_t (KAR (b:=2500)) (by first|rfl|assumption|omega|(simp; done)))) ?_
  refine oP (Kq rfl rfl) ?_
  refine oA ?_
  refine KC (KN ?_)
  refine ⟨[_],.cons rfl .nil,fun a w' hr=>⟨?_,hr.fr.below⟩⟩
  rfl
end Go.Proofs.YtlmiolnccgjjjaaGreat
set_option linter.unusedVariables false
set_option linter.unusedSimpArgs false
set_option maxRecDepth 20000
namespace Go.Proofs.YtlmiolnccgjjjaaGreat
open Go Go.RowKit
open Grp
theorem c_r_PutE (s:ByteArray) (n:Nat) (Q:CQ) (V:Cv) (q r:NV) (X Y:Nat) (i sh:Bool) (w:World) (hc:(crvI Q V).holds w) (hok:V.Ok) (hq:(numT q X).holds w) (hr:(numT r Y).holds w) (hX:D.nw X≤1000) (hY:D.nw Y≤1000) (hs:pStr V X Y i sh = s) (hn:pErr V X Y i = n):Calls Tryz.prog 17 ([.agg (crvL Q V).toArray,rpV (numV q X) (numV r Y) i,.bool sh]:List Value).toArray w (fun e w'=>e = .returned (.tuple #[.string s,.int .i64 ((n:Nat):Int)])∧Below w.heap.size w w'):=by
  subst hs hn; exact c_r_Put2 Q V q r X Y i sh w hc hok hq hr hX hY
theorem xv_neg {p:Nat} [NeZero p] (P:Pt p):xv P.neg = xv P:=by cases P <;> rfl
theorem less_x {V:Cv} (hok:V.Ok) {P:Pt V.p} (hP:On V.A V.B P) (hn:pmul V.A P V.n = .inf) {K:Nat} (hK:K≤V.n):xv (pmul V.A P (V.n-K)) = xv (pmul V.A P K):=by
  rw [pm_less hok hP hn hK,xv_neg]
theorem neg_x {V:Cv} (hok:V.Ok) {P:Pt V.p} (hP:On V.A V.B P) (K:Nat):xv (pmul V.A P.neg K) = xv (pmul V.A P K):=by
  rw [pmul_neg hok.fld hP,xv_neg]
theorem c_EcdhTurned (id:Int) (A k:Nat) (w:World) (hA9:A<W9) (hk:k<18446744073709551616):Calls Tryz.prog 3 ([.int .i64 id,natV A,.int .u64 ((k:Nat):Int)]:List Value).toArray w (fun e w'=>e = .returned (.bool true)∧Below w.heap.size w w'):=by
  obtain ⟨V,h⟩:=cvI_idx id
  obtain ⟨hok,hid⟩:=cvI_ok h
  have h2:=cvI_id h
  obtain ⟨hb5,hb521,hba,hbb,hbx,hby,hbn,hbo,hbo2,hbb1,hbn1⟩:=hok.bounds
  have hsz:=hok.sz
  have hsp:=hsz.p
  have hsa:=hsz.a
  have hsb:=hsz.b
  have hp0:V.p≠0:=by omega
  have hpp:0<V.p:=by omega
  have hm17:∀ k,D.nw (k%V.p)≤17:=fun k=>Nat.le_trans (D.nw_mono (Nat.le_of_lt (Nat.mod_lt k hpp))) hsp
  have hpW:V.p<W9:=KAP hb521
  have hnW:V.n<W9:=KAP hbn
  have hxW:=Nat.lt_trans hbx hpW
  have hyW:=Nat.lt_trans hby hpW
  have hsn:=hsz.n
  have h17:∀ {A:Nat},A<V.p→D.nw A≤100000:=fun h=>Nat.le_trans (nw_521 (Nat.lt_trans h hb521)) (by decide)
  have hnp:=nbp_72 hok
  obtain ⟨P,hPe⟩:∃ P,pmul V.A V.G k = P:=⟨_,rfl⟩
  have hP:On V.A V.B P:=hPe ▸ hok.mul hok.on k
  have hdk:=nw_w9_dig (u64_w9 hk)
  have h1k:∀ {A:Nat},A<V.p→D.nw A≤1000:=fun h=>Nat.le_trans (nw_521 (Nat.lt_trans h hb521)) (by decide)
  refine Ki (N:=124) (rs:=[.tmp 6]) [] Tryz.func3 rfl Tryz.ntmps3 Tryz.results3 (Nb rfl) trivial rfl ?_
  show LCode _ _ _ ⟨_,_⟩ _
  refine KB (KA ?_)
  refine oS (mB (fun b4=>?_))
  refine oA ?_
  refine KC ?_
  refine KB ?_
  refine KB (KA ?_)
  refine oS (cF rfl en_8 rfl (fun w hw=>c_awake25 w) ?_)
  refine oP (KJ (Det.not rfl) (show _ = Value.bool false from rfl)) ?_
  refine KC ?_
  refine KR rfl ?_
  refine KS ?_
  refine KB (KA ?_)
  refine oM ?_
  refine oP (KJ (Det.conv Tryz.underlying3 Tryz.underlying33 rfl) (uidx_eq _)) ?_
  refine oP (KH rfl rfl (br_rem64 (b:=15) (by omega))) ?_
  refine oP (KAe Tryz.underlying33 Tryz.underlying3 rfl (by omega)) ?_
  refine oP (KH rfl rfl (Kx (a:=1) (by omega))) ?_
  refine oS (KAT (Post:=fun v its=>∃ Q,v = .tuple #[.agg (crvL Q V).toArray,.bool true]∧its = [crvI Q V]) (first:=[]) rfl en_9 rfl (Nb rfl) (fun w1 hw hs=>(c_r_Get _ V w1 h).mono fun e w' ⟨Q,h1,h2,h3,h4⟩=>⟨_,_,⟨Q,rfl,rfl⟩,h1,KAV h4 (by intro x hx; simp at hx; subst hx; exact h2) (by intro x hx; simp at hx; subst hx; rfl) (by intro x hx k hk; simp at hx; subst hx; exact .inl (h3 k hk))⟩) ?_)
  rintro _ _ ⟨Q,rfl,rfl⟩
  refine oM ?_
  refine oP (Det.extract rfl rfl) ?_
  refine oP (Det.extract rfl rfl) ?_
  refine oS (mk (KV zr_30) (fun b7=>?_))
  refine KT rfl (sA rfl rfl sz_30 (by repeat (first|exact KP|refine KK rfl ?_)) (hl:=by rfl) (h:=?_))
  refine oA ?_
  refine KC ?_
  refine KB ?_
  refine rD [8] ?_
  refine aD 0 rfl (dL rfl (hv:=by exact KF Tryz.underlying30 rfl sz_30)) ?_
  refine aM 1 ?_
  refine aD 4 rfl (dL rfl (hv:=by exact KF Tryz.underlying30 rfl sz_30)) ?_
  refine LAny.toP ?_
  refine KAC 7 rfl (.inl zr_35) (Nb rfl) rfl rfl rfl ?_
  refine Kr 2 rfl rfl rfl (Nb rfl) (by kernel_rfl) rfl (Kv (first:=[]) rfl en_12 rfl (fun w hw=>c_One k w hk)) ?_
  rintro _ _ ⟨rfl,rfl⟩
  refine Kr 3 rfl rfl rfl (Nb rfl) (by kernel_rfl) rfl (LExt.callZ (first:=[]) rfl en_11 rfl (fun w hw hs=>(c_n_From (k) (u64_w9 hk) w).mono fun e w' h=>KAS (Old.nil _) hs h)) ?_
  rintro _ _ ⟨qk,rfl,rfl,hnk⟩
  refine Kr 5 rfl rfl rfl (Nb rfl) (by kernel_rfl) rfl (LExt.callZ (first:=[]) rfl en_13 rfl (fun w hw hs=>(c_r_GP Q V w (mC hw) hok).mono fun e w' h=>Num2R.q (Old.one (x:=crvI Q V) (by repeat (first|exact Mh _|apply Mt)) rfl) hs h)) ?_
  rintro _ _ ⟨qga,qgb,rfl,rfl,hnga,hngb⟩
  refine Kr 6 rfl rfl rfl (Nb rfl) (by kernel_rfl) rfl (LExt.callZ (first:=[]) rfl en_10 rfl (fun w hw hs=>(c_r_Times Q V qk (k) qga qgb (V.G) (P) w (mC hw) hok (mC hw) (by omega) (mC hw) (mC hw) (hok.on) (hPe)).mono fun e w' h=>Num2R.q (Old.pt (by repeat (first|exact Mh _|apply Mt)) (by repeat (first|exact Mh _|apply Mt)) (Old.nil _)) hs h)) ?_
  rintro _ _ ⟨qta,qtb,rfl,rfl,hnta,hntb⟩
  refine pE (fun b9=>?_)
  refine KAQ ?_
  refine aL 8 rfl (sA rfl rfl sz_35 (by repeat (first|exact KP|refine KK rfl ?_)) (hl:=by rfl) (h:=?_))
  refine aE ?_
  refine KB ?_
  refine KB ?_
  rcases P with _|⟨x,y⟩
  ·
    refine KA ?_
    refine oM ?_
    refine oP (KJ (Det.not rfl) (show _ = Value.bool false from rfl)) ?_
    refine oM ?_
    refine oGP (KI (o':=2) Tryz.underlying35 rfl rfl rfl sz_4 (by decide)) ?_
    refine KAO rfl rfl (dL rfl (hv:=KO Tryz.underlying4 rfl (by first|rfl|exact Kf _ _ _ (by omega)|exact Kd _ (by omega)|exact Kc _ (by omega)|exact dv_m _ _ _ (by omega)))) (Nb rfl) ?_
    refine oP (Kj rfl rfl) ?_
    refine KC ?_
    refine Ke rfl ?_
    refine KB (KA ?_)
    refine oM ?_
    refine oA ?_
    refine KC (KN ?_)
    refine ⟨[_],.cons rfl .nil,fun a w' hr=>⟨?_,hr.fr.below⟩⟩
    rfl
  ·
    have hon:=aff_on hP
    obtain ⟨hxp,hyp⟩:=on_lt hon
    have hx9:=Nat.lt_trans hxp hpW
    have hy9:=Nat.lt_trans hyp hpW
    have k1:=keyN_lt hok A
    have hK9:keyN V A<W9:=Nat.lt_trans k1.2 hnW
    have hdK:=nw_w9_dig hK9
    have hon2:onB V.p V.a V.b x.val (-y).val false = true:=aff_on (neg_on hP)
    have hPn:pmul V.A (.aff x y) V.n = .inf:=hPe ▸ pm_n hok k
    obtain ⟨R,r1⟩:∃ R,coB V (xv (pmul V.A (.aff x y) (keyN V A))) = R:=⟨_,rfl⟩
    have r2:coB V (xv (pmul V.A (.aff x y) (V.n-keyN V A))) = R:=by rw [less_x hok hP hPn (Nat.le_of_lt k1.2),r1]
    have r3:coB V (xv (pmul V.A (.aff x (-y)) (keyN V A))) = R:=by rw [← r1]; exact congrArg (coB V) (neg_x hok hP (keyN V A))
    have rsz:R.size = nby V.p:=by rw [← r1]; exact coB_sz _ _
    have hlt9:V.n-keyN V A<W9:=Nat.lt_of_le_of_lt (Nat.sub_le _ _) hnW
    refine KA ?_
    refine oM ?_
    refine oP (KJ (Det.not rfl) (show _ = Value.bool false from rfl)) ?_
    refine oM ?_
    refine oGP (KI (o':=2) Tryz.underlying35 rfl rfl rfl sz_4 (by decide)) ?_
    refine KAO rfl rfl (dL rfl (hv:=KO Tryz.underlying4 rfl (by first|rfl|exact Kf _ _ _ (by omega)|exact Kd _ (by omega)|exact Kc _ (by omega)|exact dv_m _ _ _ (by omega)))) (Nb rfl) ?_
    refine oP (Kj rfl rfl) ?_
    refine KC ?_
    refine KR rfl ?_
    refine KS ?_
    refine KB (KA ?_)
    refine oD (dL rfl (hv:=by exact KF Tryz.underlying30 rfl sz_30)) ?_
    refine oD (dL rfl (hv:=by exact KF Tryz.underlying25 rfl sz_25)) ?_
    refine oS (cF rfl en_14 rfl (fun w hw=>c_some Q V A w (mC hw) hok hA9) ?_)
    refine oS (mk (KV zr_25) (fun b10=>?_))
    refine KT rfl (sA rfl rfl sz_25 (by exact KZ _) (hl:=by exact KD _) (h:=?_))
    refine KC ?_
    refine KB ?_
    refine rD [7] ?_
    refine aP 0 rfl (KI (o':=4) Tryz.underlying30 rfl rfl rfl sz_28 (by decide)) ?_
    refine aD 1 rfl (dL rfl (hv:=KO Tryz.underlying28 rfl (by first|rfl|exact Kf _ _ _ (by omega)|exact Kd _ (by omega)|exact Kc _ (by omega)|exact dv_m _ _ _ (by omega)))) ?_
    refine aD 2 rfl (dL rfl (hv:=by exact KF Tryz.underlying25 rfl sz_25)) ?_
    refine LAny.toP ?_
    refine KAC 6 rfl (.inl zr_25) (Nb rfl) rfl rfl rfl ?_
    refine Kr 3 rfl rfl rfl (Nb rfl) (by kernel_rfl) rfl (LExt.callZ (first:=[]) rfl en_11 rfl (fun w hw hs=>(c_n_From ((keyN V A)) hK9 w).mono fun e w' h=>KAS (Old.nil _) hs h)) ?_
    rintro _ _ ⟨qd,rfl,rfl,hnd⟩
    refine Kr 4 rfl rfl rfl (Nb rfl) (by kernel_rfl) rfl (LExt.callZ (first:=[]) rfl en_16 rfl (fun w hw hs=>(c_n_Sub Q.n qd V.n (keyN V A) w (crvI_n (mC hw)) (mC hw) (Nat.le_of_lt k1.2) (by omega)).mono fun e w' h=>KAS (Old.nil _) hs h)) ?_
    rintro _ _ ⟨qe,rfl,rfl,hne⟩
    refine Kr 5 rfl rfl rfl (Nb rfl) (by kernel_rfl) rfl (Kv (first:=[]) rfl en_15 rfl (fun w hw=>c_n_Nat qe (V.n-keyN V A) (D.nw (V.n-keyN V A)) w (mC hw))) ?_
    rintro _ _ ⟨rfl,rfl⟩
    refine pE (fun b11=>?_)
    refine KAQ ?_
    refine aL 7 rfl (sA rfl rfl sz_25 (by exact KZ _) (hl:=by exact KD _) (h:=?_))
    refine aE ?_
    refine KB (KA ?_)
    refine oD (dL rfl (hv:=by exact KF Tryz.underlying30 rfl sz_30)) ?_
    refine oD (dL rfl (hv:=by exact KF Tryz.underlying35 rfl sz_35)) ?_
    refine oS (cF rfl en_17 rfl (fun w hw=>c_r_PutE (putS V x.val y.val false) 0 Q V qta qtb x.val y.val false false w (mC hw) hok (mC hw) (mC hw) (h1k x.isLt) (h1k y.isLt) (pStr_on false hon).1 (pStr_on false hon).2) ?_)
    refine oM ?_
    refine oP (Det.extract rfl rfl) ?_
    refine oP (Det.extract rfl rfl) ?_
    refine oA ?_
    refine oA ?_
    refine KC ?_
    refine KB ?_
    refine rD [] ?_
    refine aD 0 rfl (dL rfl (hv:=by exact KF Tryz.underlying30 rfl sz_30)) ?_
    refine aD 1 rfl (dL rfl (hv:=by exact KF Tryz.underlying30 rfl sz_30)) ?_
    refine aD 2 rfl (dL rfl (hv:=by exact KF Tryz.underlying35 rfl sz_35)) ?_
    refine aO 3 rfl (cZ rfl en_18 rfl (fun w hw hs=>(c_r_Neg Q V qta qtb (.aff x y) w (mC hw) hok (mC hw) (mC hw) hP).mono fun e w' h=>Num2R.q (Old.pt (by repeat (first|exact Mh _|apply Mt)) (by repeat (first|exact Mh _|apply Mt)) (Old.nil _)) hs h) ?_)
    rintro _ _ ⟨qna,qnb,rfl,rfl,hnna,hnnb⟩
    refine aO 4 rfl (cF rfl en_17 rfl (fun w hw=>c_r_PutE (putS V x.val (-y).val true) 0 Q V qna qnb x.val (-y).val false true w (mC hw) hok (mC hw) (mC hw) (h1k x.isLt) (h1k (-y).isLt) (pStr_on true hon2).1 (pStr_on true hon2).2) ?_)
    refine aM 5 ?_
    refine aP 6 rfl (Det.extract rfl rfl) ?_
    refine aP 7 rfl (Det.extract rfl rfl) ?_
    refine aA 8 ?_
    refine aA 9 ?_
    refine aE ?_
    refine KB (KA ?_)
    refine oP (KI (o':=0) Tryz.underlying30 rfl rfl rfl sz_3 (by decide)) ?_
    refine oD (dL rfl (hv:=KO Tryz.underlying3 rfl (by first|rfl|exact Kf _ _ _ (by omega)|exact Kd _ (by omega)|exact Kc _ (by omega)|exact dv_m _ _ _ (by omega)))) ?_
    refine oD (dL rfl (hv:=by exact KF Tryz.underlying25 rfl sz_25)) ?_
    refine oM ?_
    refine oS (cF rfl en_19 rfl (fun w hw=>c_eSharedN (R) V.id V ((keyN V A)) (putS V x.val y.val false) x y w h2 k1.1 k1.2 (putS_size hnp _ _ _) (get_put hok _ hon) hP r1) ?_)
    refine oM ?_
    refine oP (Det.extract rfl rfl) ?_
    refine oP (Det.extract rfl rfl) ?_
    refine oA ?_
    refine oA ?_
    refine KC ?_
    refine KB (KA ?_)
    refine oP (KI (o':=0) Tryz.underlying30 rfl rfl rfl sz_3 (by decide)) ?_
    refine oD (dL rfl (hv:=KO Tryz.underlying3 rfl (by first|rfl|exact Kf _ _ _ (by omega)|exact Kd _ (by omega)|exact Kc _ (by omega)|exact dv_m _ _ _ (by omega)))) ?_
    refine oD (dL rfl (hv:=by exact KF Tryz.underlying25 rfl sz_25)) ?_
    refine oM ?_
    refine oS (cF rfl en_19 rfl (fun w hw=>c_eSharedN (R) V.id V (V.n-keyN V A) (putS V x.val y.val false) x y w h2 (by omega) (by omega) (putS_size hnp _ _ _) (get_put hok _ hon) hP r2) ?_)
    refine oM ?_
    refine oP (Det.extract rfl rfl) ?_
    refine oP (Det.extract rfl rfl) ?_
    refine oA ?_
    refine oA ?_
    refine KC ?_
    refine KB (KA ?_)
    refine oP (KI (o':=0) Tryz.underlying30 rfl rfl rfl sz_3 (by decide)) ?_
    refine oD (dL rfl (hv:=KO Tryz.underlying3 rfl (by first|rfl|exact Kf _ _ _ (by omega)|exact Kd _ (by omega)|exact Kc _ (by omega)|exact dv_m _ _ _ (by omega)))) ?_
    refine oD (dL rfl (hv:=by exact KF Tryz.underlying25 rfl sz_25)) ?_
    refine oM ?_
    refine oS (cF rfl en_19 rfl (fun w hw=>c_eSharedN (R) V.id V ((keyN V A)) (putS V x.val (-y).val true) x (-y) w h2 k1.1 k1.2 (putS_size hnp _ _ _) (get_put hok _ hon2) (neg_on hP) r3) ?_)
    refine oM ?_
    refine oP (Det.extract rfl rfl) ?_
    refine oP (Det.extract rfl rfl) ?_
    refine oA ?_
    refine oA ?_
    refine KC ?_
    refine KB (KA ?_)
    refine oM ?_
    refine oS (cF rfl en_20 rfl (fun w hw=>c_Num _ w) ?_)
    refine oP (KH (v:=.bool true) rfl rfl (br_t (KAR (b:=0)) (by first|rfl|assumption|omega|(simp; done)))) ?_
    refine oM ?_
    refine oGM ?_
    refine oGS (cF rfl en_20 rfl (fun w hw=>c_Num _ w) ?_)
    refine oGP (KH (v:=.bool true) rfl rfl (br_t (KAR (b:=0)) (by first|rfl|assumption|omega|(simp; done)))) ?_
    refine oP (Kq rfl rfl) ?_
    refine oM ?_
    refine oGM ?_
    refine oGS (cF rfl en_20 rfl (fun w hw=>c_Num _ w) ?_)
    refine oGP (KH (v:=.bool true) rfl rfl (br_t (KAR (b:=0)) (by first|rfl|assumption|omega|(simp; done)))) ?_
    refine oP (Kq rfl rfl) ?_
    refine oM ?_
    refine oGM ?_
    refine oGM ?_
    refine oGP (KJ (Det.eqs rfl rfl) (congrArg Value.bool (eq_str_t (rfl)))) ?_
    refine oP (Kq rfl rfl) ?_
    refine oM ?_
    refine oGM ?_
    refine oGM ?_
    refine oGP (KJ (Det.eqs rfl rfl) (congrArg Value.bool (eq_str_t (rfl)))) ?_
    refine oP (Kq rfl rfl) ?_
    refine oM ?_
    refine oGM ?_
    refine oGP (Det.lens Tryz.underlying9 rfl) ?_
    refine KAO rfl rfl (dL rfl (hv:=by exact KF Tryz.underlying30 rfl sz_30)) (Nb rfl) ?_
    refine oGS (cF rfl en_21 rfl (fun w hw=>c_r_Size Q V w (mC hw) hsz) ?_)
    refine oGP (KH (v:=.bool true) rfl rfl (br_t KAR (rsz))) ?_
    refine oP (Kq rfl rfl) ?_
    refine oA ?_
    refine KC (KN ?_)
    refine ⟨[_],.cons rfl .nil,fun a w' hr=>⟨?_,hr.fr.below⟩⟩
    rfl
end Go.Proofs.YtlmiolnccgjjjaaGreat
set_option maxRecDepth 100000
namespace Go.Proofs.YtlmiolnccgjjjaaGreat
open Go
def ioChars:List Char:=([104,97,114,110,101,115,115,32,52,50,50,53,51,49,101,49,49,48,50,102,100,99,52,51,99,102,49,102,99,102,54,100,51,97,53,50,97,50,98,98,55,56,56,99,55,56,48,52,102,54,48,54,99,55,54,55,101,100,97,52,97,49,52,101,56,57,49,50,48,52,57,54,32,99,117,116,32,97,116,32,99,117,114,118,101,116,47,99,117,114,118,101,116,108,97,119,50,53,46,69,99,100,104,84,117,114,110,101,100,32,99,117,114,118,101,116,47,99,117,114,118,101,116,108,97,119,50,53,46,69,99,100,104,79,110,101,32,99,117,114,118,101,116,47,99,117,114,118,101,116,108,97,119,50,53,46,69,99,100,104,84,105,110,121,32,99,117,114,118,101,116,47,99,117,114,118,101,116,108,97,119,50,53,46,69,99,100,104,115,32,99,117,114,118,101,116,47,99,117,114,118,101,116,108,97,119,50,53,46,69,99,100,104,66,108,105,110,100]:List Nat).map Char.ofNat
theorem io_lit:Tryz.prog.initOrder = String.ofList ioChars:=by kernel_rfl
theorem io_list:Tryz.prog.initOrder.toList = ioChars:=by rw [io_lit,String.toList_ofList]
def cutW:List Char:=([99,117,116]:List Nat).map Char.ofNat
def ioRest:List (List Char):=(wordsSigns ioChars).drop 3
theorem io_words:behindMainWord (wordsSigns ioChars) = cutW :: ioRest:=by kernel_rfl
theorem io_strip (r:List (List Char)):stripLifts liftWords (cutW :: r) = ([],cutW :: r):=by kernel_rfl
theorem no_later:Tryz.prog.laysLater = false:=by kernel_rfl
theorem no_reflect:Tryz.prog.bearsReflect = false:=by kernel_rfl
theorem door_fits:Tryz.prog.doorFits [] = true:=by kernel_rfl
theorem and2 {a b:Bool} (h:a = true) (k:b = true):(a && b) = true:=by rw [h,k]; rfl
theorem or_right {a b:Bool} (h:b = true):(a || b) = true:=by rw [h]; cases a <;> rfl
theorem cut_is : (cutW == "cut".toList) = true := by kernel_rfl
theorem cut_gc : (cutW == "gc".toList) = false := by kernel_rfl
theorem cut_spec : (cutW == "spec".toList) = false := by kernel_rfl
theorem cut_carried : (cutW == "carried".toList) = false := by kernel_rfl
theorem head_carried (r : List (List Char)) : ((cutW :: r).head? == some "carried".toList) = false := cut_carried
theorem enter_of (P:Program) {r:List (List Char)} (h:behindMainWord (wordsSigns P.initOrder.toList) = cutW :: r) (h1:P.laysLater = false) (h2:P.bearsReflect = false) (h3:P.doorFits [] = true):P.mayEnter = true:=by
  unfold Program.mayEnter
  rw [h]
  dsimp only
  refine or_right (and2 (and2 (and2 (and2 ?_ ?_) ?_) ?_) ?_)
  · rw [io_strip]; exact cut_is
  · rw [io_strip,h1]; rfl
  · rw [io_strip,h2]; rfl
  · rw [io_strip]; rfl
  · rw [io_strip]; exact h3
theorem lifts_of (P:Program) {r:List (List Char)} (h:behindMainWord (wordsSigns P.initOrder.toList) = cutW :: r):(false == P.liftsFinal) = true:=by
  have hl:P.headLifts = []:=by
    unfold Program.headLifts
    rw [h,io_strip]
    simp only [ite_self]
  unfold Program.liftsFinal
  rw [h,hl]
  dsimp only
  rw [head_carried,Bool.false_and]
  rfl
theorem make_of (P:Program) {r:List (List Char)} (h:behindMainWord (wordsSigns P.initOrder.toList) = cutW :: r):(P.make == some .cut) = true:=by
  have:P.make = some .cut:=by
    unfold Program.make
    rw [h]
    dsimp only
    rw [if_neg (by rw [cut_gc,cut_spec]; exact fun h=>by cases h),if_pos (by rw [cut_is]; rfl)]
  rw [this]; rfl
theorem io_all:behindMainWord (wordsSigns Tryz.prog.initOrder.toList) = cutW :: ioRest:=by rw [io_list,io_words]
theorem fact_enter:Tryz.prog.mayEnter = true:=enter_of _ io_all no_later no_reflect door_fits
theorem fact_lifts:(false == Tryz.prog.liftsFinal) = true:=lifts_of _ io_all
theorem fact_make:(Tryz.prog.make == some .cut) = true:=make_of _ io_all
theorem fact_laid:laidOutB Tryz.prog = true:=by kernel_rfl
theorem fact_maps:mapsRowed Tryz.prog = true:=by kernel_rfl
theorem fact_heard:Tryz.prog.stopsHeard = true:=by kernel_rfl
end Go.Proofs.YtlmiolnccgjjjaaGreat
