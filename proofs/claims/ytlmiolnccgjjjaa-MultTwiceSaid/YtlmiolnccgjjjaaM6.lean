/- Part 6 of what the proof leans on: a symbolic execution of the model, walks of the program's functions, and the mathematics. No condition. -/
import Derived.WalkKit
import Derived.Orders
import Derived.Laws.StructEq
import Derived.WalkSpells
import Derived.OrdersHeld
import Derived.KernelRfl
import Derived.Laws.Externs
import Derived.Laws.Bits64
import Derived.Laws.MakeOwn
import Derived.Laws.BytesString
import Derived.Carry
import Derived.WideShapes
import GoSem.Claim
import Derived.Test.YtlmiolnccgjjjaaProg
import Derived.Laws.AppendOwn
import Derived.Test.YtlmiolnccgjjjaaRows
import Derived.ProofKit
import Derived.OpenShut
import Derived.Test.YtlmiolnccgjjjaaM5
set_option linter.unusedVariables false
set_option linter.unusedSimpArgs false
set_option maxRecDepth 20000
namespace Go.Proofs.Ytlmiolnccgjjjaa
open Go Go.RowKit
open Grp
def lgI (n d:Nat):Int:=if d = 0 then -1 else (n:Int)
theorem lgI_pos {n d:Nat} (h:d≠0):lgI n d = (n:Int):=if_neg h
theorem c_MultTiny (which:Int) (k:Nat) (w:World) (hk:k<18446744073709551616):Calls Try.prog 20 ([.int .i64 which,.int .u64 ((k:Nat):Int)]:List Value).toArray w (fun e w'=>e = .returned (.bool true)∧Below w.heap.size w w'):=by
  obtain ⟨V,h,hn255,hn1,hnw1⟩:=cvI_tinyD which
  obtain ⟨hok,hid⟩:=cvI_ok h
  have h2:=cvI_id h
  obtain ⟨hb5,hb521,hba,hbb,hbx,hby,hbn,hbo,hbo2,hbb1,hbn1⟩:=hok.bounds
  have hsz:=hok.sz
  have hsp:=hsz.p
  have hsa:=hsz.a
  have hsb:=hsz.b
  have hp0:V.p≠0:=by omega
  have hpp:0<V.p:=by omega
  have hm17:∀ k,D.nw (k%V.p)≤17:=fun k=>Nat.le_trans (D.nw_mono (Nat.le_of_lt (Nat.mod_lt k hpp))) hsp
  have hn0:V.n≠0:=by omega
  have hnp:0<V.n:=by omega
  have hRq:=hok.mul hok.on (1+k%200)
  obtain ⟨R,hRe⟩:∃ P,pmul V.A V.G (1+k%200) = P:=⟨_,rfl⟩
  have hRo:On V.A V.B R:=hRe ▸ hRq
  have hRn:pmul V.A R V.n = .inf:=hRe ▸ pm_n hok _
  obtain ⟨m,hm⟩:∃ m,(blen V.n+3)/4 = m:=⟨_,rfl⟩
  have hm1:1≤m:=by have:=Nat.pos_of_ne_zero (blen_ne hn0); omega
  refine Kj (N:=93) (rs:=[.tmp 4]) [] Try.func20 rfl Try.ntmps20 Try.results20 (Nb rfl) trivial rfl ?_
  show LCode _ _ _ ⟨_,_⟩ _
  refine KB (KA ?_)
  refine oA ?_
  refine KC ?_
  refine KB ?_
  refine KB (KA ?_)
  refine oS (cF rfl en_64 rfl (fun w hw=>c_awake18 w) ?_)
  refine oP (KJ (Det.not rfl) (show _ = Value.bool false from rfl)) ?_
  refine KC ?_
  refine KS rfl ?_
  refine KU ?_
  refine KB (KA ?_)
  refine oM ?_
  refine oP (KJ (Det.conv Try.underlying3 Try.underlying29 rfl) (uidx_eq _)) ?_
  refine oP (KG rfl rfl (br_rem64 (b:=3) (by omega))) ?_
  refine oP (Det.convi Try.underlying29 Try.underlying3 rfl (by omega)) ?_
  refine oP (KG rfl rfl (Ky (a:=13) (by omega))) ?_
  refine oS (KAc (Post:=fun v its=>∃ Q,v = .tuple #[.agg (crvL Q V).toArray,.bool true]∧its = [crvI Q V]) (first:=[]) rfl en_29 rfl (Nb rfl) (fun w1 hw hs=>(c_r_Get _ V w1 h).mono fun e w' ⟨Q,h1,h2,h3,h4⟩=>⟨_,_,⟨Q,rfl,rfl⟩,h1,KAg h4 (by intro x hx; simp at hx; subst hx; exact h2) (by intro x hx; simp at hx; subst hx; rfl) (by intro x hx k hk; simp at hx; subst hx; exact .inl (h3 k hk))⟩) ?_)
  rintro _ _ ⟨Q,rfl,rfl⟩
  refine oM ?_
  refine oP (KN rfl rfl) ?_
  refine oP (KN rfl rfl) ?_
  refine oS (mk (KQ zr_26) (fun b5=>?_))
  refine KV rfl (sA rfl rfl sz_26 (by repeat (first|exact KO|refine KL rfl ?_)) (hl:=by rfl) (h:=?_))
  refine oA ?_
  refine KC ?_
  refine KB ?_
  refine KB (KA ?_)
  refine oM ?_
  refine oP (KJ (Det.not rfl) (show _ = Value.bool false from rfl)) ?_
  refine KC ?_
  refine KS rfl ?_
  refine KU ?_
  refine KB (KA ?_)
  refine oP (KF (o':=4) Try.underlying26 rfl rfl rfl sz_24 (by decide)) ?_
  refine oD (dL rfl (hv:=KM Try.underlying24 rfl (by first|rfl|exact Kf _ _ _ (by omega)|exact Kb _ (by omega)|exact KZ _ (by omega)|exact dv_m _ _ _ (by omega)))) ?_
  refine oP (KAf (i:=0) Try.underlying24 sz_67 rfl rfl (by omega)) ?_
  refine oD (Det.loadF (n:=D.nw V.n) Try.underlying67 rfl rfl (fun w hw=>crvI_n (mC hw)) (by omega)) ?_
  refine oP (KJ (KAM Try.underlying67 Try.underlying30 rfl (Nat.lt_trans (D.limb_lt _ _) (by decide))) (vi (b:=V.n) (one_digit hnw1))) ?_
  refine oA ?_
  refine KC ?_
  refine LCode.cut (α:=Nat×NV×NV) (fun _=>True) (fun y=>⟨[(5,.pointer (some ⟨b5,0,none⟩)),(7,.int .u64 ((V.n:Nat):Int)),(8,.pointer (some ⟨y.1,0,none⟩))],[.blk y.1 ⟨true,rpL (numV y.2.1 (xv (R))) (numV y.2.2 (yv (R))) (iv (R)),38,(0,0)⟩,.blk b5 ⟨true,crvL Q V,26,(0,0)⟩,numT y.2.1 (xv R),numT y.2.2 (yv R),crvI Q V]⟩) ?_ ?_
  ·
    refine rD [10] ?_
    refine aD 0 rfl (dL rfl (hv:=by exact KE Try.underlying26 rfl sz_26)) ?_
    refine aM 1 ?_
    refine aP 2 rfl (KG rfl rfl (br_rem64 (b:=200) (by omega))) ?_
    refine aP 3 rfl (KJ (KAb Try.underlying30 Try.underlying67 rfl) (vi (b:=k%200) (Nat.mod_eq_of_lt (by omega)))) ?_
    refine aP 4 rfl (KG rfl rfl (br_add32 (a:=1) (b:=k%200) (by omega))) ?_
    refine aD 6 rfl (dL rfl (hv:=by exact KE Try.underlying26 rfl sz_26)) ?_
    refine LAny.threeX 5 7 9 rfl rfl rfl rfl rfl rfl (by kernel_rfl) (.inr (mk (KAG Try.underlying23 inf_67 rfl rfl rfl rfl (by decide) rfl) (fun b39=>?_))) (.inr (cZ rfl en_31 rfl (fun w hw hs=>(c_r_GP Q V w (mC hw) hok).mono fun e w' h=>KAK (Old.one (x:=crvI Q V) (by repeat (first|exact Mh _|apply Mt)) rfl) hs h) ?_)) (.inr (mk (KQ zr_38) (fun b8=>?_)))
    ·
      refine KAd 7 9 rfl rfl rfl rfl (by kernel_rfl) (.inr (cZ rfl en_31 rfl (fun w hw hs=>(c_r_GP Q V w (mC hw) hok).mono fun e w' h=>KAK (Old.one (x:=crvI Q V) (by repeat (first|exact Mh _|apply Mt)) rfl) hs h) ?_)) (.inr (mk (KQ zr_38) (fun b8=>?_)))
      ·
        rintro _ _ ⟨qga,qgb,rfl,rfl,hnga,hngb⟩
        refine KAd 8 9 rfl rfl rfl rfl (by kernel_rfl) (.inr (cZ rfl en_38 rfl (fun w hw hs=>(c_r_TimesS Q V b39 1 (1+k%200) qga qgb V.G R w (mC hw) hok (mC hw) (by omega) (by omega) (mC hw) (mC hw) hok.on hRe).mono fun e w' h=>KAK (Old.pt (by repeat (first|exact Mh _|apply Mt)) (by repeat (first|exact Mh _|apply Mt)) (Old.nil _)) hs h) ?_)) (.inr (mk (KQ zr_38) (fun b8=>?_)))
        ·
          rintro _ _ ⟨qpa,qpb,rfl,rfl,hnpa,hnpb⟩
          refine aO 9 rfl (mk (KQ zr_38) (fun b8=>?_))
          refine aL 10 rfl (sA rfl rfl sz_38 (by repeat (first|exact KO|refine KL rfl ?_)) (hl:=by rfl) (h:=?_))
          refine aE ?_
          exact ⟨(b8,qpa,qpb),trivial,Kq ⟨rfl,rfl,rfl,trivial⟩ (by repeat (first|exact Sel.nil _|refine Sel.cons (by repeat (first|exact Ph _|apply Pt_)) ?_))⟩
        ·
          refine aO 8 rfl (cZ rfl en_38 rfl (fun w hw hs=>(c_r_TimesS Q V b39 1 (1+k%200) qga qgb V.G R w (mC hw) hok (mC hw) (by omega) (by omega) (mC hw) (mC hw) hok.on hRe).mono fun e w' h=>KAK (Old.pt (by repeat (first|exact Mh _|apply Mt)) (by repeat (first|exact Mh _|apply Mt)) (Old.nil _)) hs h) ?_)
          rintro _ _ ⟨qpa,qpb,rfl,rfl,hnpa,hnpb⟩
          refine aL 10 rfl (sA rfl rfl sz_38 (by repeat (first|exact KO|refine KL rfl ?_)) (hl:=by rfl) (h:=?_))
          refine aE ?_
          exact ⟨(b8,qpa,qpb),trivial,Kq ⟨rfl,rfl,rfl,trivial⟩ (by repeat (first|exact Sel.nil _|refine Sel.cons (by repeat (first|exact Ph _|apply Pt_)) ?_))⟩
      ·
        refine aO 7 rfl (cZ rfl en_31 rfl (fun w hw hs=>(c_r_GP Q V w (mC hw) hok).mono fun e w' h=>KAK (Old.one (x:=crvI Q V) (by repeat (first|exact Mh _|apply Mt)) rfl) hs h) ?_)
        rintro _ _ ⟨qga,qgb,rfl,rfl,hnga,hngb⟩
        refine aO 8 rfl (cZ rfl en_38 rfl (fun w hw hs=>(c_r_TimesS Q V b39 1 (1+k%200) qga qgb V.G R w (mC hw) hok (mC hw) (by omega) (by omega) (mC hw) (mC hw) hok.on hRe).mono fun e w' h=>KAK (Old.pt (by repeat (first|exact Mh _|apply Mt)) (by repeat (first|exact Mh _|apply Mt)) (Old.nil _)) hs h) ?_)
        rintro _ _ ⟨qpa,qpb,rfl,rfl,hnpa,hnpb⟩
        refine aL 10 rfl (sA rfl rfl sz_38 (by repeat (first|exact KO|refine KL rfl ?_)) (hl:=by rfl) (h:=?_))
        refine aE ?_
        exact ⟨(b8,qpa,qpb),trivial,Kq ⟨rfl,rfl,rfl,trivial⟩ (by repeat (first|exact Sel.nil _|refine Sel.cons (by repeat (first|exact Ph _|apply Pt_)) ?_))⟩
    ·
      rintro _ _ ⟨qga,qgb,rfl,rfl,hnga,hngb⟩
      refine KAd 5 9 rfl rfl rfl rfl (by kernel_rfl) (.inr (mk (KAG Try.underlying23 inf_67 rfl rfl rfl rfl (by decide) rfl) (fun b39=>?_))) (.inr (mk (KQ zr_38) (fun b8=>?_)))
      ·
        refine KAd 8 9 rfl rfl rfl rfl (by kernel_rfl) (.inr (cZ rfl en_38 rfl (fun w hw hs=>(c_r_TimesS Q V b39 1 (1+k%200) qga qgb V.G R w (mC hw) hok (mC hw) (by omega) (by omega) (mC hw) (mC hw) hok.on hRe).mono fun e w' h=>KAK (Old.pt (by repeat (first|exact Mh _|apply Mt)) (by repeat (first|exact Mh _|apply Mt)) (Old.nil _)) hs h) ?_)) (.inr (mk (KQ zr_38) (fun b8=>?_)))
        ·
          rintro _ _ ⟨qpa,qpb,rfl,rfl,hnpa,hnpb⟩
          refine aO 9 rfl (mk (KQ zr_38) (fun b8=>?_))
          refine aL 10 rfl (sA rfl rfl sz_38 (by repeat (first|exact KO|refine KL rfl ?_)) (hl:=by rfl) (h:=?_))
          refine aE ?_
          exact ⟨(b8,qpa,qpb),trivial,Kq ⟨rfl,rfl,rfl,trivial⟩ (by repeat (first|exact Sel.nil _|refine Sel.cons (by repeat (first|exact Ph _|apply Pt_)) ?_))⟩
        ·
          refine aO 8 rfl (cZ rfl en_38 rfl (fun w hw hs=>(c_r_TimesS Q V b39 1 (1+k%200) qga qgb V.G R w (mC hw) hok (mC hw) (by omega) (by omega) (mC hw) (mC hw) hok.on hRe).mono fun e w' h=>KAK (Old.pt (by repeat (first|exact Mh _|apply Mt)) (by repeat (first|exact Mh _|apply Mt)) (Old.nil _)) hs h) ?_)
          rintro _ _ ⟨qpa,qpb,rfl,rfl,hnpa,hnpb⟩
          refine aL 10 rfl (sA rfl rfl sz_38 (by repeat (first|exact KO|refine KL rfl ?_)) (hl:=by rfl) (h:=?_))
          refine aE ?_
          exact ⟨(b8,qpa,qpb),trivial,Kq ⟨rfl,rfl,rfl,trivial⟩ (by repeat (first|exact Sel.nil _|refine Sel.cons (by repeat (first|exact Ph _|apply Pt_)) ?_))⟩
      ·
        refine aO 5 rfl (mk (KAG Try.underlying23 inf_67 rfl rfl rfl rfl (by decide) rfl) (fun b39=>?_))
        refine aO 8 rfl (cZ rfl en_38 rfl (fun w hw hs=>(c_r_TimesS Q V b39 1 (1+k%200) qga qgb V.G R w (mC hw) hok (mC hw) (by omega) (by omega) (mC hw) (mC hw) hok.on hRe).mono fun e w' h=>KAK (Old.pt (by repeat (first|exact Mh _|apply Mt)) (by repeat (first|exact Mh _|apply Mt)) (Old.nil _)) hs h) ?_)
        rintro _ _ ⟨qpa,qpb,rfl,rfl,hnpa,hnpb⟩
        refine aL 10 rfl (sA rfl rfl sz_38 (by repeat (first|exact KO|refine KL rfl ?_)) (hl:=by rfl) (h:=?_))
        refine aE ?_
        exact ⟨(b8,qpa,qpb),trivial,Kq ⟨rfl,rfl,rfl,trivial⟩ (by repeat (first|exact Sel.nil _|refine Sel.cons (by repeat (first|exact Ph _|apply Pt_)) ?_))⟩
    ·
      refine KAd 5 7 rfl rfl rfl rfl (by kernel_rfl) (.inr (mk (KAG Try.underlying23 inf_67 rfl rfl rfl rfl (by decide) rfl) (fun b39=>?_))) (.inr (cZ rfl en_31 rfl (fun w hw hs=>(c_r_GP Q V w (mC hw) hok).mono fun e w' h=>KAK (Old.one (x:=crvI Q V) (by repeat (first|exact Mh _|apply Mt)) rfl) hs h) ?_))
      ·
        refine aO 7 rfl (cZ rfl en_31 rfl (fun w hw hs=>(c_r_GP Q V w (mC hw) hok).mono fun e w' h=>KAK (Old.one (x:=crvI Q V) (by repeat (first|exact Mh _|apply Mt)) rfl) hs h) ?_)
        rintro _ _ ⟨qga,qgb,rfl,rfl,hnga,hngb⟩
        refine aO 8 rfl (cZ rfl en_38 rfl (fun w hw hs=>(c_r_TimesS Q V b39 1 (1+k%200) qga qgb V.G R w (mC hw) hok (mC hw) (by omega) (by omega) (mC hw) (mC hw) hok.on hRe).mono fun e w' h=>KAK (Old.pt (by repeat (first|exact Mh _|apply Mt)) (by repeat (first|exact Mh _|apply Mt)) (Old.nil _)) hs h) ?_)
        rintro _ _ ⟨qpa,qpb,rfl,rfl,hnpa,hnpb⟩
        refine aL 10 rfl (sA rfl rfl sz_38 (by repeat (first|exact KO|refine KL rfl ?_)) (hl:=by rfl) (h:=?_))
        refine aE ?_
        exact ⟨(b8,qpa,qpb),trivial,Kq ⟨rfl,rfl,rfl,trivial⟩ (by repeat (first|exact Sel.nil _|refine Sel.cons (by repeat (first|exact Ph _|apply Pt_)) ?_))⟩
      ·
        rintro _ _ ⟨qga,qgb,rfl,rfl,hnga,hngb⟩
        refine aO 5 rfl (mk (KAG Try.underlying23 inf_67 rfl rfl rfl rfl (by decide) rfl) (fun b39=>?_))
        refine aO 8 rfl (cZ rfl en_38 rfl (fun w hw hs=>(c_r_TimesS Q V b39 1 (1+k%200) qga qgb V.G R w (mC hw) hok (mC hw) (by omega) (by omega) (mC hw) (mC hw) hok.on hRe).mono fun e w' h=>KAK (Old.pt (by repeat (first|exact Mh _|apply Mt)) (by repeat (first|exact Mh _|apply Mt)) (Old.nil _)) hs h) ?_)
        rintro _ _ ⟨qpa,qpb,rfl,rfl,hnpa,hnpb⟩
        refine aL 10 rfl (sA rfl rfl sz_38 (by repeat (first|exact KO|refine KL rfl ?_)) (hl:=by rfl) (h:=?_))
        refine aE ?_
        exact ⟨(b8,qpa,qpb),trivial,Kq ⟨rfl,rfl,rfl,trivial⟩ (by repeat (first|exact Sel.nil _|refine Sel.cons (by repeat (first|exact Ph _|apply Pt_)) ?_))⟩
  ·
    rintro ⟨b8,qpa,qpb⟩ _
    dsimp only
    refine KB (KA ?_)
    refine oD (dL rfl (hv:=by exact KE Try.underlying38 rfl sz_38)) ?_
    refine oS (cF rfl en_30 rfl (fun w hw=>c_r_OutP V qpa qpb (R) w (mC hw) (mC hw)) ?_)
    refine oS (mk (KQ zr_35) (fun b9=>?_))
    refine KV rfl (sA rfl rfl sz_35 (by exact Kc _ _ _) (hl:=by exact KK _ _ _) (h:=?_))
    refine KC ?_
    refine KB (KA ?_)
    refine oP (KJ (Ku pl_38 zr_38 rfl rfl) (show _ = rpV (.slice none 0 0) (.slice none 0 0) true from rfl)) ?_
    refine oS (mk (KQ zr_38) (fun b10=>?_))
    refine KV rfl (sA rfl rfl sz_38 (by repeat (first|exact KO|refine KL rfl ?_)) (hl:=by rfl) (h:=?_))
    refine KC ?_
    refine KB (KA ?_)
    refine oA ?_
    refine KC ?_
    refine KB ?_
    refine KB ?_
    refine LCode.zeroNum ?_
    refine LCode.zeroNum ?_
    refine KA ?_
    refine oP (Ke (v:=.int .u64 ((0:Nat):Int)) rfl) ?_
    refine KC ?_
    refine LCode.block ?_
    refine Kv (α:=Nat×NV×NV) (fun x=>x.1≤V.n) (fun x=>⟨[(5,.pointer (some ⟨b5,0,none⟩)),(7,.int .u64 ((V.n:Nat):Int)),(8,.pointer (some ⟨b8,0,none⟩)),(9,.pointer (some ⟨b9,0,none⟩)),(10,.pointer (some ⟨b10,0,none⟩)),(11,.int .i64 (lgI ([]++evN m).length x.1)),(12,.int .u64 ((x.1:Nat):Int))],[.blk b10 ⟨true,rpL (numV x.2.1 (xv (pmul V.A R x.1))) (numV x.2.2 (yv (pmul V.A R x.1))) (iv (pmul V.A R x.1)),38,(0,0)⟩,.blk b9 ⟨true,ptL (xv R) (yv R) (iv R),35,(0,0)⟩,.blk b8 ⟨true,rpL (numV qpa (xv (R))) (numV qpb (yv (R))) (iv (R)),38,(0,0)⟩,.blk b5 ⟨true,crvL Q V,26,(0,0)⟩,numT x.2.1 (xv (pmul V.A R x.1)),numT x.2.2 (yv (pmul V.A R x.1)),numT qpa (xv R),numT qpb (yv R),crvI Q V]⟩) (fun x=>V.n-x.1) ((0,⟨true,0,0⟩,⟨true,0,0⟩)) (Nat.zero_le _) (by dsimp only; exact KAT (Sub.cells (b:=b10) (cs':=rpL (numV ⟨true,0,0⟩ (xv (Pt.inf:Pt V.p))) (numV ⟨true,0,0⟩ (yv (Pt.inf:Pt V.p))) (iv (Pt.inf:Pt V.p))) (by repeat (first|exact Sh _|apply St_)) rp_nil) (Kq ⟨rfl,rfl,rfl,rfl,rfl,rfl,rfl,trivial⟩ (by repeat (first|exact Sel.nil _|refine Sel.cons (by repeat (first|exact Ph _|apply Pt_)) ?_)))) ?_
    intro x hx
    refine KB ?_
    refine KB (KA ?_)
    refine oM ?_
    refine oM ?_
    refine oP (KG rfl rfl (KAe)) ?_
    refine KC ?_
    first|refine KW rfl (fun h48=>?_) (fun h48=>?_)|refine KX rfl (fun h48=>?_) (fun h48=>?_)
    ·
      have h48:x.1<V.n:=h48
      refine KU ?_
      refine KB ?_
      refine LCode.block ?_
      refine KB (KA ?_)
      refine oS (cC rfl en_36 rfl (fun w hw=>bringsC (c_trNew w) _) ?_)
      rintro _ _ ⟨tb1,rfl,rfl⟩
      refine oA ?_
      refine KC ?_
      refine LCode.cut (α:=Nat×TrRow) (fun _=>True) (fun z=>⟨[(13,trV (some tb1)),(14,.pointer (some ⟨z.1,0,none⟩)),(15,.int .i64 ((0:Nat):Int)),(5,.pointer (some ⟨b5,0,none⟩)),(7,.int .u64 ((V.n:Nat):Int)),(8,.pointer (some ⟨b8,0,none⟩)),(9,.pointer (some ⟨b9,0,none⟩)),(10,.pointer (some ⟨b10,0,none⟩)),(11,.int .i64 (lgI ([]++evN m).length x.1)),(12,.int .u64 ((x.1:Nat):Int))],[.blk z.1 ⟨true,ptL (xv (pmul V.A R x.1)) (yv (pmul V.A R x.1)) (iv (pmul V.A R x.1)),35,(0,0)⟩,trI (some tb1) z.2 ([]++evN m),.blk b10 ⟨true,rpL (numV x.2.1 (xv (pmul V.A R x.1))) (numV x.2.2 (yv (pmul V.A R x.1))) (iv (pmul V.A R x.1)),38,(0,0)⟩,.blk b9 ⟨true,ptL (xv R) (yv R) (iv R),35,(0,0)⟩,.blk b8 ⟨true,rpL (numV qpa (xv (R))) (numV qpb (yv (R))) (iv (R)),38,(0,0)⟩,.blk b5 ⟨true,crvL Q V,26,(0,0)⟩,numT x.2.1 (xv (pmul V.A R x.1)),numT x.2.2 (yv (pmul V.A R x.1)),numT qpa (xv R),numT qpb (yv R),crvI Q V]⟩) ?_ ?_
      ·
        refine rD [6,11] ?_
        refine aM 0 ?_
        refine aP 1 rfl (KF (o':=0) Try.underlying26 rfl rfl rfl sz_3 (by decide)) ?_
        refine aD 2 rfl (dL rfl (hv:=KM Try.underlying3 rfl (by first|rfl|exact Kf _ _ _ (by omega)|exact Kb _ (by omega)|exact KZ _ (by omega)|exact dv_m _ _ _ (by omega)))) ?_
        refine aM 3 ?_
        refine aD 5 rfl (dL rfl (hv:=by exact KE Try.underlying35 rfl sz_35)) ?_
        refine KAd 4 10 rfl rfl rfl rfl (by kernel_rfl) (.inr (cF rfl en_47 rfl (fun w hw=>c_One x.1 w (by omega)) ?_)) (.inr (mk (KQ zr_35) (fun b14=>?_)))
        ·
          refine KAd 6 10 rfl rfl rfl rfl (by kernel_rfl) (.inl ⟨rfl,LStepW.callT (first:=[]) (b:=some tb1) (r:=none) (l:=[]) (l':=[]++evN m) rfl en_63 rfl (Nb rfl) (by repeat (first|exact Pick.head _|apply Pick.tail)) (fun w hw hn=>c_mMul (some tb1) none ([]) _ V (x.1) (R) m hm w h2 hRo h48 (mC hw) (Nat.zero_le _)) ?_⟩) (.inr (mk (KQ zr_35) (fun b14=>?_)))
          ·
            intro r1
            refine aM 7 ?_
            refine aP 8 rfl (KN rfl rfl) ?_
            refine aP 9 rfl (KN rfl rfl) ?_
            refine aO 10 rfl (mk (KQ zr_35) (fun b14=>?_))
            refine aL 11 rfl (sA rfl rfl sz_35 (by exact Kc _ _ _) (hl:=by exact KK _ _ _) (h:=?_))
            refine aA 12 ?_
            refine aE ?_
            exact ⟨(b14,r1),trivial,Kq ⟨rfl,rfl,rfl,rfl,rfl,rfl,rfl,rfl,rfl,rfl,trivial⟩ (by repeat (first|exact Sel.nil _|refine Sel.cons (by repeat (first|exact Ph _|apply Pt_)) ?_))⟩
          ·
            refine aL 6 rfl (LStepW.callT (first:=[]) (b:=some tb1) (r:=none) (l:=[]) (l':=[]++evN m) rfl en_63 rfl (Nb rfl) (by repeat (first|exact Pick.head _|apply Pick.tail)) (fun w hw hn=>c_mMul (some tb1) none ([]) _ V (x.1) (R) m hm w h2 hRo h48 (mC hw) (Nat.zero_le _)) ?_)
            intro r1
            refine aM 7 ?_
            refine aP 8 rfl (KN rfl rfl) ?_
            refine aP 9 rfl (KN rfl rfl) ?_
            refine aL 11 rfl (sA rfl rfl sz_35 (by exact Kc _ _ _) (hl:=by exact KK _ _ _) (h:=?_))
            refine aA 12 ?_
            refine aE ?_
            exact ⟨(b14,r1),trivial,Kq ⟨rfl,rfl,rfl,rfl,rfl,rfl,rfl,rfl,rfl,rfl,trivial⟩ (by repeat (first|exact Sel.nil _|refine Sel.cons (by repeat (first|exact Ph _|apply Pt_)) ?_))⟩
        ·
          refine aO 4 rfl (cF rfl en_47 rfl (fun w hw=>c_One x.1 w (by omega)) ?_)
          refine aL 6 rfl (LStepW.callT (first:=[]) (b:=some tb1) (r:=none) (l:=[]) (l':=[]++evN m) rfl en_63 rfl (Nb rfl) (by repeat (first|exact Pick.head _|apply Pick.tail)) (fun w hw hn=>c_mMul (some tb1) none ([]) _ V (x.1) (R) m hm w h2 hRo h48 (mC hw) (Nat.zero_le _)) ?_)
          intro r1
          refine aM 7 ?_
          refine aP 8 rfl (KN rfl rfl) ?_
          refine aP 9 rfl (KN rfl rfl) ?_
          refine aL 11 rfl (sA rfl rfl sz_35 (by exact Kc _ _ _) (hl:=by exact KK _ _ _) (h:=?_))
          refine aA 12 ?_
          refine aE ?_
          exact ⟨(b14,r1),trivial,Kq ⟨rfl,rfl,rfl,rfl,rfl,rfl,rfl,rfl,rfl,rfl,trivial⟩ (by repeat (first|exact Sel.nil _|refine Sel.cons (by repeat (first|exact Ph _|apply Pt_)) ?_))⟩
      ·
        rintro z _
        refine KB ?_
        refine KB ?_
        rcases Nat.eq_zero_or_pos x.1 with h0|h0
        ·
          refine rD [] ?_
          refine aM 0 ?_
          refine aO 1 rfl (cF rfl en_33 rfl (fun w hw=>c_Num _ w) ?_)
          refine aP 2 rfl (KG (v:=.bool false) rfl rfl (br_f (br_neq (b:=0)) (by first|exact (fun e=>e rfl)|(simp; done)|omega))) ?_
          refine aM 3 ?_
          refine aGD 4 rfl (dL rfl (hv:=by exact KE Try.underlying35 rfl sz_35)) ?_
          refine aGD 5 rfl (dL rfl (hv:=by exact KE Try.underlying38 rfl sz_38)) ?_
          refine aGO 6 rfl (cF rfl en_30 rfl (fun w hw=>c_r_OutP V x.2.1 x.2.2 (pmul V.A R x.1) w (mC hw) (mC hw)) ?_)
          refine aGP 7 rfl (KJ (Det.nea (by kernel_rfl) (fun w=>KAY hok (P:=pmul V.A R x.1) (Q:=pmul V.A R x.1) rfl 10000 (by decide) w) rfl rfl) (show _ = Value.bool false by rfl)) ?_
          refine aP 8 rfl (Ko rfl rfl) ?_
          refine aM 9 ?_
          refine aGM 10 ?_
          refine aGP 11 rfl (KG (v:=.bool false) rfl rfl (by rw [h0]; rfl)) ?_
          refine aGM 12 ?_
          refine aK 13 ?_
          refine aK 14 ?_
          refine aK 15 ?_
          refine aK 16 ?_
          refine aGP 17 rfl (Ko rfl rfl) ?_
          refine aP 18 rfl (Ko rfl rfl) ?_
          refine aE ?_
          refine KS rfl ?_
          refine KU ?_
          refine KB (KA ?_)
          refine oM ?_
          refine oS (cF rfl en_37 rfl (fun w hw=>c_trLen tb1 z.2 ([]++evN m) w (mC hw)) ?_)
          refine oA ?_
          refine KC ?_
          refine KA ?_
          refine oD (dL rfl (hv:=by exact KE Try.underlying26 rfl sz_26)) ?_
          refine oD (dL rfl (hv:=by exact KE Try.underlying38 rfl sz_38)) ?_
          refine oD (dL rfl (hv:=by exact KE Try.underlying38 rfl sz_38)) ?_
          refine oS (cZ rfl en_68 rfl (fun w hw hs=>(c_r_Plus Q V x.2.1 x.2.2 qpa qpb (pmul V.A R x.1) R (pmul V.A R (x.1+1)) w (mC hw) hok (mC hw) (mC hw) (mC hw) (mC hw) (hok.mul hRo _) hRo rfl).mono fun e w' h=>KAK (Old.pt (by repeat (first|exact Mh _|apply Mt)) (by repeat (first|exact Mh _|apply Mt)) (Old.pt (by repeat (first|exact Mh _|apply Mt)) (by repeat (first|exact Mh _|apply Mt)) (Old.nil _))) hs h) ?_)
          rintro _ _ ⟨qda,qdb,rfl,rfl,hnda,hndb⟩
          refine KV rfl (sA rfl rfl sz_38 (by repeat (first|exact KO|refine KL rfl ?_)) (hl:=by rfl) (h:=?_))
          refine KC ?_
          refine KA ?_
          refine oM ?_
          refine oP (KJ (KG rfl rfl (KAU (b:=1))) (vi (b:=x.1+1) (by omega))) ?_
          refine oA ?_
          refine KC ?_
          exact ⟨(x.1+1,qda,qdb),by dsimp only; omega,by dsimp only; omega,by dsimp only; rw [lgI_pos (Nat.succ_ne_zero _)]; exact Kq ⟨rfl,rfl,rfl,rfl,rfl,rfl,rfl,trivial⟩ (by repeat (first|exact Sel.nil _|refine Sel.cons (by repeat (first|exact Ph _|apply Pt_)) ?_))⟩
        ·
          rw [lgI_pos (show x.1≠0 by omega)]
          refine rD [] ?_
          refine aM 0 ?_
          refine aO 1 rfl (cF rfl en_33 rfl (fun w hw=>c_Num _ w) ?_)
          refine aP 2 rfl (KG (v:=.bool false) rfl rfl (br_f (br_neq (b:=0)) (by first|exact (fun e=>e rfl)|(simp; done)|omega))) ?_
          refine aM 3 ?_
          refine aGD 4 rfl (dL rfl (hv:=by exact KE Try.underlying35 rfl sz_35)) ?_
          refine aGD 5 rfl (dL rfl (hv:=by exact KE Try.underlying38 rfl sz_38)) ?_
          refine aGO 6 rfl (cF rfl en_30 rfl (fun w hw=>c_r_OutP V x.2.1 x.2.2 (pmul V.A R x.1) w (mC hw) (mC hw)) ?_)
          refine aGP 7 rfl (KJ (Det.nea (by kernel_rfl) (fun w=>KAY hok (P:=pmul V.A R x.1) (Q:=pmul V.A R x.1) rfl 10000 (by decide) w) rfl rfl) (show _ = Value.bool false by rfl)) ?_
          refine aP 8 rfl (Ko rfl rfl) ?_
          refine aM 9 ?_
          refine aGM 10 ?_
          refine aGP 11 rfl (KG (v:=.bool true) rfl rfl (br_t (br_geq (b:=0)) (Nat.zero_le _))) ?_
          refine aGM 12 ?_
          refine aGM 13 ?_
          refine aGM 15 ?_
          refine aGO 14 rfl (cF rfl en_37 rfl (fun w hw=>c_trLen tb1 z.2 ([]++evN m) w (mC hw)) ?_)
          refine aGP 16 rfl (KG (v:=.bool false) rfl rfl (br_f br_neq (by first|exact (fun e=>e rfl)|(simp; done)|omega))) ?_
          refine aGP 17 rfl (Ka rfl rfl) ?_
          refine aP 18 rfl (Ko rfl rfl) ?_
          refine aE ?_
          refine KS rfl ?_
          refine KU ?_
          refine KB (KA ?_)
          refine oM ?_
          refine oS (cF rfl en_37 rfl (fun w hw=>c_trLen tb1 z.2 ([]++evN m) w (mC hw)) ?_)
          refine oA ?_
          refine KC ?_
          refine KA ?_
          refine oD (dL rfl (hv:=by exact KE Try.underlying26 rfl sz_26)) ?_
          refine oD (dL rfl (hv:=by exact KE Try.underlying38 rfl sz_38)) ?_
          refine oD (dL rfl (hv:=by exact KE Try.underlying38 rfl sz_38)) ?_
          refine oS (cZ rfl en_68 rfl (fun w hw hs=>(c_r_Plus Q V x.2.1 x.2.2 qpa qpb (pmul V.A R x.1) R (pmul V.A R (x.1+1)) w (mC hw) hok (mC hw) (mC hw) (mC hw) (mC hw) (hok.mul hRo _) hRo rfl).mono fun e w' h=>KAK (Old.pt (by repeat (first|exact Mh _|apply Mt)) (by repeat (first|exact Mh _|apply Mt)) (Old.pt (by repeat (first|exact Mh _|apply Mt)) (by repeat (first|exact Mh _|apply Mt)) (Old.nil _))) hs h) ?_)
          rintro _ _ ⟨qda,qdb,rfl,rfl,hnda,hndb⟩
          refine KV rfl (sA rfl rfl sz_38 (by repeat (first|exact KO|refine KL rfl ?_)) (hl:=by rfl) (h:=?_))
          refine KC ?_
          refine KA ?_
          refine oM ?_
          refine oP (KJ (KG rfl rfl (KAU (b:=1))) (vi (b:=x.1+1) (by omega))) ?_
          refine oA ?_
          refine KC ?_
          exact ⟨(x.1+1,qda,qdb),by dsimp only; omega,by dsimp only; omega,by dsimp only; rw [lgI_pos (Nat.succ_ne_zero _)]; exact Kq ⟨rfl,rfl,rfl,rfl,rfl,rfl,rfl,trivial⟩ (by repeat (first|exact Sel.nil _|refine Sel.cons (by repeat (first|exact Ph _|apply Pt_)) ?_))⟩
    ·
      have h48:¬ x.1<V.n:=h48
      refine Ks ?_
      refine KB ?_
      have eI:pmul V.A R x.1 = .inf:=by rw [show x.1 = V.n by omega]; exact hRn
      rw [eI,lgI_pos (show x.1≠0 by omega)]
      refine KA ?_
      refine oP (KF (o':=2) Try.underlying38 rfl rfl rfl sz_4 (by decide)) ?_
      refine oD (dL rfl (hv:=KM Try.underlying4 rfl (by first|rfl|exact Kf _ _ _ (by omega)|exact Kb _ (by omega)|exact KZ _ (by omega)|exact dv_m _ _ _ (by omega)))) ?_
      refine oM ?_
      refine oGM ?_
      refine oGP (KG (v:=.bool true) rfl rfl (br_t (br_gtr (b:=0)) (by rw [List.nil_append,evN_length]; omega))) ?_
      refine oP (Ka rfl rfl) ?_
      refine oA ?_
      refine KC (KP ?_)
      refine ⟨[_],.cons rfl .nil,fun a w' hr=>⟨?_,hr.fr.below⟩⟩
      rfl
end Go.Proofs.Ytlmiolnccgjjjaa
