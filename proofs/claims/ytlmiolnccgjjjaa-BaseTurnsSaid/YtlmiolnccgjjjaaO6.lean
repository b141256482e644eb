/- Part 6 of what the proof leans on: a symbolic execution of the model, walks of the program's functions, and the mathematics. No condition. -/
import Derived.WalkKit
import Derived.Orders
import Derived.Laws.StructEq
import Derived.WalkSpells
import Derived.OrdersHeld
import Derived.KernelRfl
import Derived.Laws.Externs
import Derived.Laws.Bits64
import Derived.Laws.MakeOwn
import Derived.Laws.BytesString
import Derived.Carry
import Derived.WideShapes
import GoSem.Claim
import Derived.Test.YtlmiolnccgjjjaaProg
import Derived.Laws.AppendOwn
import Derived.Test.YtlmiolnccgjjjaaRows
import Derived.ProofKit
import Derived.OpenShut
import Derived.Test.YtlmiolnccgjjjaaO5
set_option linter.unusedVariables false
set_option linter.unusedSimpArgs false
set_option maxRecDepth 20000
namespace Go.Proofs.Ytlmiolnccgjjjaa
open Go Go.RowKit
open Grp
theorem cvI_tinyT (x:Int):∃ V,cvI ((13+uidx x%3:Nat):Int) = some V∧V.n≤255∧2≤V.n∧V.p≤255∧D.nw V.n = 1:=by
  have h:uidx x%3 = 0∨uidx x%3 = 1∨uidx x%3 = 2:=by omega
  rcases h with h|h|h <;> rw [h]
  · exact ⟨cv13,rfl,by decide,by decide,by decide,by decide⟩
  · exact ⟨cv14,rfl,by decide,by decide,by decide,by decide⟩
  · exact ⟨cv15,rfl,by decide,by decide,by decide,by decide⟩
theorem c_BaseTurns (id:Int) (d:Nat) (which:Int) (w:World) (hd:d<W9):Calls Try.prog 21 ([.int .i64 id,natV d,.int .i64 which]:List Value).toArray w (fun e w'=>e = .returned (.bool true)∧Below w.heap.size w w'):=by
  obtain ⟨V,h⟩:=cvI_idx id
  obtain ⟨hok,hid⟩:=cvI_ok h
  have h2:=cvI_id h
  obtain ⟨hb5,hb521,hba,hbb,hbx,hby,hbn,hbo,hbo2,hbb1,hbn1⟩:=hok.bounds
  have hsz:=hok.sz
  have hsp:=hsz.p
  have hsa:=hsz.a
  have hsb:=hsz.b
  have hp0:V.p≠0:=by omega
  have hpp:0<V.p:=by omega
  have hm17:∀ k,D.nw (k%V.p)≤17:=fun k=>Nat.le_trans (D.nw_mono (Nat.le_of_lt (Nat.mod_lt k hpp))) hsp
  have hpW:V.p<W9:=w9_521 hb521
  have hnW:V.n<W9:=w9_521 hbn
  have hxW:=Nat.lt_trans hbx hpW
  have hyW:=Nat.lt_trans hby hpW
  have hsn:=hsz.n
  have h17:∀ {A:Nat},A<V.p→D.nw A≤100000:=fun h=>Nat.le_trans (nw_521 (Nat.lt_trans h hb521)) (by decide)
  have hn0:V.n≠0:=by omega
  have hnp:0<V.n:=by omega
  have hdd:=nw_w9_dig hd
  have hn10:V.n-1≠0:=by omega
  have hZn:=Nat.mod_lt d (show 0<V.n-1 by omega)
  have hnl:D.nw (V.n-1)≤17:=nw_521 (Nat.lt_of_le_of_lt (Nat.sub_le _ _) hbn)
  have hZd:D.nw (d%(V.n-1))≤17:=nw_521 (Nat.lt_trans hZn (by omega))
  have hZ1:D.nw (d%(V.n-1)+1)≤17:=nw_521 (show (d%(V.n-1)+1)<P521 by omega)
  have hZn1:(d%(V.n-1)+1)<V.n:=by omega
  have hnm:D.nw (V.n-(d%(V.n-1)+1))≤17:=nw_521 (Nat.lt_of_le_of_lt (Nat.sub_le _ _) hbn)
  obtain ⟨U,k,kn255,kn2,kp255,knw1⟩:=cvI_tinyT which
  obtain ⟨kok,kid⟩:=cvI_ok k
  have k2:=cvI_id k
  have kbb:=kok.bounds
  refine Kj (N:=146) (rs:=[.tmp 6]) [] Try.func21 rfl Try.ntmps21 Try.results21 (Nb rfl) trivial rfl ?_
  show LCode _ _ _ ⟨_,_⟩ _
  refine KB (KA ?_)
  refine oS (mB (fun b4=>?_))
  refine oA ?_
  refine KC ?_
  refine KB ?_
  refine KB (KA ?_)
  refine oS (cF rfl en_58 rfl (fun w hw=>c_awake19 w) ?_)
  refine oP (KK (Det.not rfl) (show _ = Value.bool false from rfl)) ?_
  refine KC ?_
  refine KW rfl ?_
  refine KU ?_
  refine KB (KA ?_)
  refine oM ?_
  refine oP (KK (Det.conv Try.underlying3 Try.underlying29 rfl) (uidx_eq _)) ?_
  refine oP (KH rfl rfl (br_rem64 (b:=15) (by omega))) ?_
  refine oP (Det.convi Try.underlying29 Try.underlying3 rfl (by omega)) ?_
  refine oP (KH rfl rfl (Kx (a:=1) (by omega))) ?_
  refine oS (KAc (Post:=fun v its=>∃ Q,v = .tuple #[.agg (crvL Q V).toArray,.bool true]∧its = [crvI Q V]) (first:=[]) rfl en_29 rfl (Nb rfl) (fun w1 hw hs=>(c_r_Get _ V w1 h).mono fun e w' ⟨Q,h1,h2,h3,h4⟩=>⟨_,_,⟨Q,rfl,rfl⟩,h1,KAf h4 (by intro x hx; simp at hx; subst hx; exact h2) (by intro x hx; simp at hx; subst hx; rfl) (by intro x hx k hk; simp at hx; subst hx; exact .inl (h3 k hk))⟩) ?_)
  rintro _ _ ⟨Q,rfl,rfl⟩
  refine oM ?_
  refine oP (KN rfl rfl) ?_
  refine oP (KN rfl rfl) ?_
  refine oS (mk (KS zr_26) (fun b7=>?_))
  refine KT rfl (sA rfl rfl sz_26 (by repeat (first|exact KP|refine KL rfl ?_)) (hl:=by rfl) (h:=?_))
  refine oA ?_
  refine KC ?_
  refine KB ?_
  refine KB (KA ?_)
  refine oM ?_
  refine oP (KK (Det.not rfl) (show _ = Value.bool false from rfl)) ?_
  refine KC ?_
  refine KW rfl ?_
  refine KU ?_
  refine LCode.cut (α:=NV) (fun _=>True) (fun y=>⟨[(2,.int .i64 which),(7,.pointer (some ⟨b7,0,none⟩)),(9,numV y (d%(V.n-1)+1))],[numT y (d%(V.n-1)+1),.blk b7 ⟨true,crvL Q V,26,(0,0)⟩,crvI Q V]⟩) ?_ ?_
  ·
    have hnl:D.nw (V.n-1)≤17:=nw_521 (Nat.lt_of_le_of_lt (Nat.sub_le _ _) hbn)
    refine rD [] ?_
    refine aD 0 rfl (dL rfl (hv:=by exact KG Try.underlying33 rfl sz_33)) ?_
    refine aP 2 rfl (KE (o':=4) Try.underlying26 rfl rfl rfl sz_24 (by decide)) ?_
    refine aD 3 rfl (dL rfl (hv:=KM Try.underlying24 rfl (by first|rfl|exact Kg _ _ _ (by omega)|exact Ke _ (by omega)|exact Kd _ (by omega)|exact dv_m _ _ _ (by omega)))) ?_
    refine LAny.threeX 1 4 7 rfl rfl rfl rfl rfl rfl (by kernel_rfl) (.inr (cZ rfl en_46 rfl (fun w hw hs=>(c_n_From (d) hd w).mono fun e w' h=>KAB (Old.nil _) hs h) ?_)) (.inr (mk (Ky Try.underlying24 inf_67 rfl rfl rfl rfl (by decide) rfl) (fun b40=>?_))) (.inr (mk (Ky Try.underlying24 inf_67 rfl rfl rfl rfl (by decide) rfl) (fun b43=>?_)))
    ·
      rintro _ _ ⟨qd,rfl,rfl,hnd⟩
      refine KAQ 4 7 rfl rfl rfl rfl (by kernel_rfl) (.inr (mk (Ky Try.underlying24 inf_67 rfl rfl rfl rfl (by decide) rfl) (fun b40=>?_))) (.inr (mk (Ky Try.underlying24 inf_67 rfl rfl rfl rfl (by decide) rfl) (fun b43=>?_)))
      ·
        refine KAQ 5 7 rfl rfl rfl rfl (by kernel_rfl) (.inr (cZ rfl en_65 rfl (fun w hw hs=>(c_n_Sub Q.n ⟨false,b40,1⟩ V.n 1 w (crvI_n (mC hw)) (n1_blk (mC hw) (by decide)) (by omega) (by omega)).mono fun e w' h=>KAB (Old.nil _) hs h) ?_)) (.inr (mk (Ky Try.underlying24 inf_67 rfl rfl rfl rfl (by decide) rfl) (fun b43=>?_)))
        ·
          rintro _ _ ⟨ql,rfl,rfl,hnl⟩
          refine KAQ 6 7 rfl rfl rfl rfl (by kernel_rfl) (.inr (cZ rfl en_60 rfl (fun w hw hs=>(c_n_Mod qd ql (d) (V.n-1) hn10 w (mC hw) (mC hw) (by omega)).mono fun e w' h=>KAB (KAZ (x:=numT qd (d)) (by repeat (first|exact Mh _|apply Mt)) rfl) hs h) ?_)) (.inr (mk (Ky Try.underlying24 inf_67 rfl rfl rfl rfl (by decide) rfl) (fun b43=>?_)))
          ·
            rintro _ _ ⟨qz,rfl,rfl,hnz⟩
            refine aO 7 rfl (mk (Ky Try.underlying24 inf_67 rfl rfl rfl rfl (by decide) rfl) (fun b43=>?_))
            refine aO 8 rfl (cZ rfl en_50 rfl (fun w hw hs=>(c_n_Add qz ⟨false,b43,1⟩ (d%(V.n-1)) 1 w (mC hw) (n1_blk (mC hw) (by decide)) (by omega) (by decide)).mono fun e w' h=>KAB (Old.nil _) hs h) ?_)
            rintro _ _ ⟨qs,rfl,rfl,hns⟩
            refine aA 9 ?_
            refine aE ?_
            exact ⟨qs,trivial,Kq ⟨rfl,rfl,rfl,trivial⟩ (by repeat (first|exact Sel.nil _|refine Sel.cons (by repeat (first|exact Ph _|apply Pt_)) ?_))⟩
          ·
            refine aO 6 rfl (cZ rfl en_60 rfl (fun w hw hs=>(c_n_Mod qd ql (d) (V.n-1) hn10 w (mC hw) (mC hw) (by omega)).mono fun e w' h=>KAB (KAZ (x:=numT qd (d)) (by repeat (first|exact Mh _|apply Mt)) rfl) hs h) ?_)
            rintro _ _ ⟨qz,rfl,rfl,hnz⟩
            refine aO 8 rfl (cZ rfl en_50 rfl (fun w hw hs=>(c_n_Add qz ⟨false,b43,1⟩ (d%(V.n-1)) 1 w (mC hw) (n1_blk (mC hw) (by decide)) (by omega) (by decide)).mono fun e w' h=>KAB (Old.nil _) hs h) ?_)
            rintro _ _ ⟨qs,rfl,rfl,hns⟩
            refine aA 9 ?_
            refine aE ?_
            exact ⟨qs,trivial,Kq ⟨rfl,rfl,rfl,trivial⟩ (by repeat (first|exact Sel.nil _|refine Sel.cons (by repeat (first|exact Ph _|apply Pt_)) ?_))⟩
        ·
          refine aO 5 rfl (cZ rfl en_65 rfl (fun w hw hs=>(c_n_Sub Q.n ⟨false,b40,1⟩ V.n 1 w (crvI_n (mC hw)) (n1_blk (mC hw) (by decide)) (by omega) (by omega)).mono fun e w' h=>KAB (Old.nil _) hs h) ?_)
          rintro _ _ ⟨ql,rfl,rfl,hnl⟩
          refine aO 6 rfl (cZ rfl en_60 rfl (fun w hw hs=>(c_n_Mod qd ql (d) (V.n-1) hn10 w (mC hw) (mC hw) (by omega)).mono fun e w' h=>KAB (KAZ (x:=numT qd (d)) (by repeat (first|exact Mh _|apply Mt)) rfl) hs h) ?_)
          rintro _ _ ⟨qz,rfl,rfl,hnz⟩
          refine aO 8 rfl (cZ rfl en_50 rfl (fun w hw hs=>(c_n_Add qz ⟨false,b43,1⟩ (d%(V.n-1)) 1 w (mC hw) (n1_blk (mC hw) (by decide)) (by omega) (by decide)).mono fun e w' h=>KAB (Old.nil _) hs h) ?_)
          rintro _ _ ⟨qs,rfl,rfl,hns⟩
          refine aA 9 ?_
          refine aE ?_
          exact ⟨qs,trivial,Kq ⟨rfl,rfl,rfl,trivial⟩ (by repeat (first|exact Sel.nil _|refine Sel.cons (by repeat (first|exact Ph _|apply Pt_)) ?_))⟩
      ·
        refine aO 4 rfl (mk (Ky Try.underlying24 inf_67 rfl rfl rfl rfl (by decide) rfl) (fun b40=>?_))
        refine aO 5 rfl (cZ rfl en_65 rfl (fun w hw hs=>(c_n_Sub Q.n ⟨false,b40,1⟩ V.n 1 w (crvI_n (mC hw)) (n1_blk (mC hw) (by decide)) (by omega) (by omega)).mono fun e w' h=>KAB (Old.nil _) hs h) ?_)
        rintro _ _ ⟨ql,rfl,rfl,hnl⟩
        refine aO 6 rfl (cZ rfl en_60 rfl (fun w hw hs=>(c_n_Mod qd ql (d) (V.n-1) hn10 w (mC hw) (mC hw) (by omega)).mono fun e w' h=>KAB (KAZ (x:=numT qd (d)) (by repeat (first|exact Mh _|apply Mt)) rfl) hs h) ?_)
        rintro _ _ ⟨qz,rfl,rfl,hnz⟩
        refine aO 8 rfl (cZ rfl en_50 rfl (fun w hw hs=>(c_n_Add qz ⟨false,b43,1⟩ (d%(V.n-1)) 1 w (mC hw) (n1_blk (mC hw) (by decide)) (by omega) (by decide)).mono fun e w' h=>KAB (Old.nil _) hs h) ?_)
        rintro _ _ ⟨qs,rfl,rfl,hns⟩
        refine aA 9 ?_
        refine aE ?_
        exact ⟨qs,trivial,Kq ⟨rfl,rfl,rfl,trivial⟩ (by repeat (first|exact Sel.nil _|refine Sel.cons (by repeat (first|exact Ph _|apply Pt_)) ?_))⟩
    ·
      refine KAQ 1 7 rfl rfl rfl rfl (by kernel_rfl) (.inr (cZ rfl en_46 rfl (fun w hw hs=>(c_n_From (d) hd w).mono fun e w' h=>KAB (Old.nil _) hs h) ?_)) (.inr (mk (Ky Try.underlying24 inf_67 rfl rfl rfl rfl (by decide) rfl) (fun b43=>?_)))
      ·
        rintro _ _ ⟨qd,rfl,rfl,hnd⟩
        refine KAQ 5 7 rfl rfl rfl rfl (by kernel_rfl) (.inr (cZ rfl en_65 rfl (fun w hw hs=>(c_n_Sub Q.n ⟨false,b40,1⟩ V.n 1 w (crvI_n (mC hw)) (n1_blk (mC hw) (by decide)) (by omega) (by omega)).mono fun e w' h=>KAB (Old.nil _) hs h) ?_)) (.inr (mk (Ky Try.underlying24 inf_67 rfl rfl rfl rfl (by decide) rfl) (fun b43=>?_)))
        ·
          rintro _ _ ⟨ql,rfl,rfl,hnl⟩
          refine KAQ 6 7 rfl rfl rfl rfl (by kernel_rfl) (.inr (cZ rfl en_60 rfl (fun w hw hs=>(c_n_Mod qd ql (d) (V.n-1) hn10 w (mC hw) (mC hw) (by omega)).mono fun e w' h=>KAB (KAZ (x:=numT qd (d)) (by repeat (first|exact Mh _|apply Mt)) rfl) hs h) ?_)) (.inr (mk (Ky Try.underlying24 inf_67 rfl rfl rfl rfl (by decide) rfl) (fun b43=>?_)))
          ·
            rintro _ _ ⟨qz,rfl,rfl,hnz⟩
            refine aO 7 rfl (mk (Ky Try.underlying24 inf_67 rfl rfl rfl rfl (by decide) rfl) (fun b43=>?_))
            refine aO 8 rfl (cZ rfl en_50 rfl (fun w hw hs=>(c_n_Add qz ⟨false,b43,1⟩ (d%(V.n-1)) 1 w (mC hw) (n1_blk (mC hw) (by decide)) (by omega) (by decide)).mono fun e w' h=>KAB (Old.nil _) hs h) ?_)
            rintro _ _ ⟨qs,rfl,rfl,hns⟩
            refine aA 9 ?_
            refine aE ?_
            exact ⟨qs,trivial,Kq ⟨rfl,rfl,rfl,trivial⟩ (by repeat (first|exact Sel.nil _|refine Sel.cons (by repeat (first|exact Ph _|apply Pt_)) ?_))⟩
          ·
            refine aO 6 rfl (cZ rfl en_60 rfl (fun w hw hs=>(c_n_Mod qd ql (d) (V.n-1) hn10 w (mC hw) (mC hw) (by omega)).mono fun e w' h=>KAB (KAZ (x:=numT qd (d)) (by repeat (first|exact Mh _|apply Mt)) rfl) hs h) ?_)
            rintro _ _ ⟨qz,rfl,rfl,hnz⟩
            refine aO 8 rfl (cZ rfl en_50 rfl (fun w hw hs=>(c_n_Add qz ⟨false,b43,1⟩ (d%(V.n-1)) 1 w (mC hw) (n1_blk (mC hw) (by decide)) (by omega) (by decide)).mono fun e w' h=>KAB (Old.nil _) hs h) ?_)
            rintro _ _ ⟨qs,rfl,rfl,hns⟩
            refine aA 9 ?_
            refine aE ?_
            exact ⟨qs,trivial,Kq ⟨rfl,rfl,rfl,trivial⟩ (by repeat (first|exact Sel.nil _|refine Sel.cons (by repeat (first|exact Ph _|apply Pt_)) ?_))⟩
        ·
          refine aO 5 rfl (cZ rfl en_65 rfl (fun w hw hs=>(c_n_Sub Q.n ⟨false,b40,1⟩ V.n 1 w (crvI_n (mC hw)) (n1_blk (mC hw) (by decide)) (by omega) (by omega)).mono fun e w' h=>KAB (Old.nil _) hs h) ?_)
          rintro _ _ ⟨ql,rfl,rfl,hnl⟩
          refine aO 6 rfl (cZ rfl en_60 rfl (fun w hw hs=>(c_n_Mod qd ql (d) (V.n-1) hn10 w (mC hw) (mC hw) (by omega)).mono fun e w' h=>KAB (KAZ (x:=numT qd (d)) (by repeat (first|exact Mh _|apply Mt)) rfl) hs h) ?_)
          rintro _ _ ⟨qz,rfl,rfl,hnz⟩
          refine aO 8 rfl (cZ rfl en_50 rfl (fun w hw hs=>(c_n_Add qz ⟨false,b43,1⟩ (d%(V.n-1)) 1 w (mC hw) (n1_blk (mC hw) (by decide)) (by omega) (by decide)).mono fun e w' h=>KAB (Old.nil _) hs h) ?_)
          rintro _ _ ⟨qs,rfl,rfl,hns⟩
          refine aA 9 ?_
          refine aE ?_
          exact ⟨qs,trivial,Kq ⟨rfl,rfl,rfl,trivial⟩ (by repeat (first|exact Sel.nil _|refine Sel.cons (by repeat (first|exact Ph _|apply Pt_)) ?_))⟩
      ·
        refine aO 1 rfl (cZ rfl en_46 rfl (fun w hw hs=>(c_n_From (d) hd w).mono fun e w' h=>KAB (Old.nil _) hs h) ?_)
        rintro _ _ ⟨qd,rfl,rfl,hnd⟩
        refine aO 5 rfl (cZ rfl en_65 rfl (fun w hw hs=>(c_n_Sub Q.n ⟨false,b40,1⟩ V.n 1 w (crvI_n (mC hw)) (n1_blk (mC hw) (by decide)) (by omega) (by omega)).mono fun e w' h=>KAB (Old.nil _) hs h) ?_)
        rintro _ _ ⟨ql,rfl,rfl,hnl⟩
        refine aO 6 rfl (cZ rfl en_60 rfl (fun w hw hs=>(c_n_Mod qd ql (d) (V.n-1) hn10 w (mC hw) (mC hw) (by omega)).mono fun e w' h=>KAB (KAZ (x:=numT qd (d)) (by repeat (first|exact Mh _|apply Mt)) rfl) hs h) ?_)
        rintro _ _ ⟨qz,rfl,rfl,hnz⟩
        refine aO 8 rfl (cZ rfl en_50 rfl (fun w hw hs=>(c_n_Add qz ⟨false,b43,1⟩ (d%(V.n-1)) 1 w (mC hw) (n1_blk (mC hw) (by decide)) (by omega) (by decide)).mono fun e w' h=>KAB (Old.nil _) hs h) ?_)
        rintro _ _ ⟨qs,rfl,rfl,hns⟩
        refine aA 9 ?_
        refine aE ?_
        exact ⟨qs,trivial,Kq ⟨rfl,rfl,rfl,trivial⟩ (by repeat (first|exact Sel.nil _|refine Sel.cons (by repeat (first|exact Ph _|apply Pt_)) ?_))⟩
    ·
      refine KAQ 1 4 rfl rfl rfl rfl (by kernel_rfl) (.inr (cZ rfl en_46 rfl (fun w hw hs=>(c_n_From (d) hd w).mono fun e w' h=>KAB (Old.nil _) hs h) ?_)) (.inr (mk (Ky Try.underlying24 inf_67 rfl rfl rfl rfl (by decide) rfl) (fun b40=>?_)))
      ·
        rintro _ _ ⟨qd,rfl,rfl,hnd⟩
        refine aO 4 rfl (mk (Ky Try.underlying24 inf_67 rfl rfl rfl rfl (by decide) rfl) (fun b40=>?_))
        refine aO 5 rfl (cZ rfl en_65 rfl (fun w hw hs=>(c_n_Sub Q.n ⟨false,b40,1⟩ V.n 1 w (crvI_n (mC hw)) (n1_blk (mC hw) (by decide)) (by omega) (by omega)).mono fun e w' h=>KAB (Old.nil _) hs h) ?_)
        rintro _ _ ⟨ql,rfl,rfl,hnl⟩
        refine aO 6 rfl (cZ rfl en_60 rfl (fun w hw hs=>(c_n_Mod qd ql (d) (V.n-1) hn10 w (mC hw) (mC hw) (by omega)).mono fun e w' h=>KAB (KAZ (x:=numT qd (d)) (by repeat (first|exact Mh _|apply Mt)) rfl) hs h) ?_)
        rintro _ _ ⟨qz,rfl,rfl,hnz⟩
        refine aO 8 rfl (cZ rfl en_50 rfl (fun w hw hs=>(c_n_Add qz ⟨false,b43,1⟩ (d%(V.n-1)) 1 w (mC hw) (n1_blk (mC hw) (by decide)) (by omega) (by decide)).mono fun e w' h=>KAB (Old.nil _) hs h) ?_)
        rintro _ _ ⟨qs,rfl,rfl,hns⟩
        refine aA 9 ?_
        refine aE ?_
        exact ⟨qs,trivial,Kq ⟨rfl,rfl,rfl,trivial⟩ (by repeat (first|exact Sel.nil _|refine Sel.cons (by repeat (first|exact Ph _|apply Pt_)) ?_))⟩
      ·
        refine aO 1 rfl (cZ rfl en_46 rfl (fun w hw hs=>(c_n_From (d) hd w).mono fun e w' h=>KAB (Old.nil _) hs h) ?_)
        rintro _ _ ⟨qd,rfl,rfl,hnd⟩
        refine aO 5 rfl (cZ rfl en_65 rfl (fun w hw hs=>(c_n_Sub Q.n ⟨false,b40,1⟩ V.n 1 w (crvI_n (mC hw)) (n1_blk (mC hw) (by decide)) (by omega) (by omega)).mono fun e w' h=>KAB (Old.nil _) hs h) ?_)
        rintro _ _ ⟨ql,rfl,rfl,hnl⟩
        refine aO 6 rfl (cZ rfl en_60 rfl (fun w hw hs=>(c_n_Mod qd ql (d) (V.n-1) hn10 w (mC hw) (mC hw) (by omega)).mono fun e w' h=>KAB (KAZ (x:=numT qd (d)) (by repeat (first|exact Mh _|apply Mt)) rfl) hs h) ?_)
        rintro _ _ ⟨qz,rfl,rfl,hnz⟩
        refine aO 8 rfl (cZ rfl en_50 rfl (fun w hw hs=>(c_n_Add qz ⟨false,b43,1⟩ (d%(V.n-1)) 1 w (mC hw) (n1_blk (mC hw) (by decide)) (by omega) (by decide)).mono fun e w' h=>KAB (Old.nil _) hs h) ?_)
        rintro _ _ ⟨qs,rfl,rfl,hns⟩
        refine aA 9 ?_
        refine aE ?_
        exact ⟨qs,trivial,Kq ⟨rfl,rfl,rfl,trivial⟩ (by repeat (first|exact Sel.nil _|refine Sel.cons (by repeat (first|exact Ph _|apply Pt_)) ?_))⟩
  ·
    rintro qs _
    refine KB ?_
    refine rD [9] ?_
    refine aP 0 rfl (KE (o':=0) Try.underlying26 rfl rfl rfl sz_3 (by decide)) ?_
    refine aD 1 rfl (dL rfl (hv:=KM Try.underlying3 rfl (by first|rfl|exact Kg _ _ _ (by omega)|exact Ke _ (by omega)|exact Kd _ (by omega)|exact dv_m _ _ _ (by omega)))) ?_
    refine aM 2 ?_
    refine KAV ?_
    refine Kz 8 rfl (.inl zr_35) (Nb rfl) rfl rfl rfl ?_
    refine Kh 3 rfl rfl rfl (Nb rfl) (by kernel_rfl) rfl (Ko (first:=[]) rfl en_52 rfl (fun w hw=>c_n_Nat qs ((d%(V.n-1)+1)) (D.nw ((d%(V.n-1)+1))) w (mC hw))) ?_
    rintro _ _ ⟨rfl,rfl⟩
    refine Kh 4 rfl rfl rfl (Nb rfl) (by kernel_rfl) rfl (Ko (first:=[]) rfl en_57 rfl (fun w hw=>c_bMulN _ V ((d%(V.n-1)+1)) (pmul V.A V.G (d%(V.n-1)+1)) w h2 hZn1 (rfl))) ?_
    rintro _ _ ⟨rfl,rfl⟩
    refine pM 5 ?_
    refine pP 6 rfl (KN rfl rfl) ?_
    refine pP 7 rfl (KN rfl rfl) ?_
    refine pE (fun b10=>?_)
    refine KAH ?_
    refine aL 9 rfl (sA rfl rfl sz_35 (by exact Kb _ _ _) (hl:=by exact KJ _ _ _) (h:=?_))
    refine aA 10 ?_
    refine aE ?_
    refine KB ?_
    refine rD [12] ?_
    refine aP 0 rfl (KE (o':=0) Try.underlying26 rfl rfl rfl sz_3 (by decide)) ?_
    refine aD 1 rfl (dL rfl (hv:=KM Try.underlying3 rfl (by first|rfl|exact Kg _ _ _ (by omega)|exact Ke _ (by omega)|exact Kd _ (by omega)|exact dv_m _ _ _ (by omega)))) ?_
    refine aP 2 rfl (KE (o':=4) Try.underlying26 rfl rfl rfl sz_24 (by decide)) ?_
    refine aD 3 rfl (dL rfl (hv:=KM Try.underlying24 rfl (by first|rfl|exact Kg _ _ _ (by omega)|exact Ke _ (by omega)|exact Kd _ (by omega)|exact dv_m _ _ _ (by omega)))) ?_
    refine aM 4 ?_
    refine KAV ?_
    refine Kz 11 rfl (.inl zr_35) (Nb rfl) rfl rfl rfl ?_
    refine Kh 5 rfl rfl rfl (Nb rfl) (by kernel_rfl) rfl (KAS (first:=[]) rfl en_65 rfl (fun w hw hs=>(c_n_Sub Q.n qs V.n (d%(V.n-1)+1) w (crvI_n (mC hw)) (mC hw) (by omega) (by omega)).mono fun e w' h=>KAB (Old.nil _) hs h)) ?_
    rintro _ _ ⟨qm,rfl,rfl,hnm⟩
    refine Kh 6 rfl rfl rfl (Nb rfl) (by kernel_rfl) rfl (Ko (first:=[]) rfl en_52 rfl (fun w hw=>c_n_Nat qm ((V.n-(d%(V.n-1)+1))) (D.nw ((V.n-(d%(V.n-1)+1)))) w (mC hw))) ?_
    rintro _ _ ⟨rfl,rfl⟩
    refine Kh 7 rfl rfl rfl (Nb rfl) (by kernel_rfl) rfl (Ko (first:=[]) rfl en_57 rfl (fun w hw=>c_bMulN _ V ((V.n-(d%(V.n-1)+1))) ((pmul V.A V.G (d%(V.n-1)+1)).neg) w h2 (by omega) (pm_less hok hok.on hok.ord (by omega)))) ?_
    rintro _ _ ⟨rfl,rfl⟩
    refine pM 8 ?_
    refine pP 9 rfl (KN rfl rfl) ?_
    refine pP 10 rfl (KN rfl rfl) ?_
    refine pE (fun b12=>?_)
    refine KAH ?_
    refine aL 12 rfl (sA rfl rfl sz_35 (by exact Kb _ _ _) (hl:=by exact KJ _ _ _) (h:=?_))
    refine aA 13 ?_
    refine aE ?_
    refine KB (KA ?_)
    refine oP (KE (o':=0) Try.underlying26 rfl rfl rfl sz_3 (by decide)) ?_
    refine oD (dL rfl (hv:=KM Try.underlying3 rfl (by first|rfl|exact Kg _ _ _ (by omega)|exact Ke _ (by omega)|exact Kd _ (by omega)|exact dv_m _ _ _ (by omega)))) ?_
    refine oD (dL rfl (hv:=by exact KG Try.underlying35 rfl sz_35)) ?_
    refine oS (cF rfl en_69 rfl (fun w hw=>c_affNeg _ V (pmul V.A V.G (d%(V.n-1)+1)) w h2 (hok.mul hok.on _)) ?_)
    refine oM ?_
    refine oP (KN rfl rfl) ?_
    refine oP (KN rfl rfl) ?_
    refine oS (mk (KS zr_35) (fun b14=>?_))
    refine KT rfl (sA rfl rfl sz_35 (by exact Kb _ _ _) (hl:=by exact KJ _ _ _) (h:=?_))
    refine oA ?_
    refine KC ?_
    refine KB ?_
    refine KB (KA ?_)
    refine oM ?_
    refine oS (cF rfl en_33 rfl (fun w hw=>c_Num _ w) ?_)
    refine oP (KH (v:=.bool false) rfl rfl (br_f (br_neq (b:=0)) (by first|exact (fun e=>e rfl)|(simp; done)|omega))) ?_
    refine oM ?_
    refine oGM ?_
    refine oGS (cF rfl en_33 rfl (fun w hw=>c_Num _ w) ?_)
    refine oGP (KH (v:=.bool false) rfl rfl (br_f (br_neq (b:=0)) (by first|exact (fun e=>e rfl)|(simp; done)|omega))) ?_
    refine oP (Kt rfl rfl) ?_
    refine oM ?_
    refine oGM ?_
    refine oGS (cF rfl en_33 rfl (fun w hw=>c_Num _ w) ?_)
    refine oGP (KH (v:=.bool false) rfl rfl (br_f (br_neq (b:=0)) (by first|exact (fun e=>e rfl)|(simp; done)|omega))) ?_
    refine oP (Kt rfl rfl) ?_
    refine oM ?_
    refine KAC rfl rfl (dL rfl (hv:=by exact KG Try.underlying35 rfl sz_35)) (Nb rfl) ?_
    refine KAC rfl rfl (dL rfl (hv:=by exact KG Try.underlying35 rfl sz_35)) (Nb rfl) ?_
    refine oGP (KK (Det.nea (by kernel_rfl) (fun w=>eq_ptP_t hok (P:=(pmul V.A V.G (d%(V.n-1)+1)).neg) (Q:=(pmul V.A V.G (d%(V.n-1)+1)).neg) rfl 10000 (by decide) w) rfl rfl) (show _ = Value.bool false by rfl)) ?_
    refine oP (Kt rfl rfl) ?_
    refine KC ?_
    refine KW rfl ?_
    refine KU ?_
    refine KB (KA ?_)
    refine oM ?_
    refine oP (KK (Det.conv Try.underlying3 Try.underlying29 rfl) (uidx_eq _)) ?_
    refine oP (KH rfl rfl (br_rem64 (b:=3) (by omega))) ?_
    refine oP (Det.convi Try.underlying29 Try.underlying3 rfl (by omega)) ?_
    refine oP (KH rfl rfl (Kx (a:=13) (by omega))) ?_
    refine oS (KAc (Post:=fun v its=>∃ Q2,v = .tuple #[.agg (crvL Q2 U).toArray,.bool true]∧its = [crvI Q2 U]) (first:=[]) rfl en_29 rfl (Nb rfl) (fun w1 hw hs=>(c_r_Get _ U w1 k).mono fun e w' ⟨Q2,h1,h2,h3,h4⟩=>⟨_,_,⟨Q2,rfl,rfl⟩,h1,KAf h4 (by intro x hx; simp at hx; subst hx; exact h2) (by intro x hx; simp at hx; subst hx; rfl) (by intro x hx k hk; simp at hx; subst hx; exact .inl (h3 k hk))⟩) ?_)
    rintro _ _ ⟨Q2,rfl,rfl⟩
    refine oM ?_
    refine oP (KN rfl rfl) ?_
    refine oP (KN rfl rfl) ?_
    refine oS (mk (KS zr_26) (fun b16=>?_))
    refine KT rfl (sA rfl rfl sz_26 (by repeat (first|exact KP|refine KL rfl ?_)) (hl:=by rfl) (h:=?_))
    refine oA ?_
    refine KC ?_
    refine KB (KA ?_)
    refine oS (mk (Makes.mkB Try.underlying99 inf_bool rfl rfl (by decide) (by decide)) (fun b98=>?_))
    refine oA ?_
    refine KC ?_
    refine KB ?_
    refine KB (KA ?_)
    refine oP (Kf (v:=.int .u64 ((1:Nat):Int)) rfl) ?_
    refine KC ?_
    refine LCode.block ?_
    refine Ku (α:=Nat×(Nat→Bool)) (fun x=>1≤x.1∧x.1≤U.n∧∀ k,x.2 k = true→∃ j,1≤j∧j<x.1∧atP (pmul U.A U.G j) = k) (fun x=>⟨[(16,.pointer (some ⟨b16,0,none⟩)),(18,.slice (some ⟨b98,0,none⟩) 65536 65536),(19,.int .u64 ((x.1:Nat):Int))],[.blk b98 ⟨true,bvec 65536 x.2,4,(0,0)⟩,.blk b16 ⟨true,crvL Q2 U,26,(0,0)⟩,crvI Q2 U]⟩) (fun x=>U.n-x.1) ((1,fun _=>false)) (⟨Nat.le_refl _,by dsimp only; omega,fun k hk=>by cases hk⟩) (Kq ⟨rfl,rfl,rfl,trivial⟩ (by repeat (first|exact Sel.nil _|refine Sel.cons (by repeat (first|exact Ph _|apply Pt_)) ?_))) ?_
    rintro x ⟨hx1,hx2,hx3⟩
    refine KB ?_
    refine KB (KA ?_)
    refine oM ?_
    refine oP (KE (o':=4) Try.underlying26 rfl rfl rfl sz_24 (by decide)) ?_
    refine oD (dL rfl (hv:=KM Try.underlying24 rfl (by first|rfl|exact Kg _ _ _ (by omega)|exact Ke _ (by omega)|exact Kd _ (by omega)|exact dv_m _ _ _ (by omega)))) ?_
    refine oP (KAa (i:=0) Try.underlying24 sz_67 rfl rfl (by omega)) ?_
    refine oD (Det.loadF (n:=D.nw U.n) Try.underlying67 rfl rfl (fun w hw=>crvI_n (mC hw)) (by omega)) ?_
    refine oP (KK (KAL Try.underlying67 Try.underlying30 rfl (Nat.lt_trans (D.limb_lt _ _) (by decide))) (vi (b:=U.n) (one_digit knw1))) ?_
    refine oP (KH rfl rfl (KAe)) ?_
    refine KC ?_
    first|refine KV rfl (fun h105=>?_) (fun h105=>?_)|refine KY rfl (fun h105=>?_) (fun h105=>?_)
    ·
      have h105:x.1<U.n:=h105
      obtain ⟨xx,yy,hxy⟩:=mul_aff kok hx1 h105
      have hxl:=xx.isLt
      have hyl:=yy.isLt
      have hnew:x.2 (xx.val*256+yy.val) = false:=by
        cases hq:x.2 (xx.val*256+yy.val) with
        | false=>rfl
        | true =>
          obtain ⟨j,hj1,hj2,hj3⟩:=hx3 _ hq
          exact (at_new kok kp255 hj1 hj2 h105 (by rw [hj3,hxy]; rfl)).elim
      refine KU ?_
      refine KB ?_
      refine LCode.block ?_
      refine KB ?_
      refine rD [9] ?_
      refine aP 0 rfl (KE (o':=0) Try.underlying26 rfl rfl rfl sz_3 (by decide)) ?_
      refine aD 1 rfl (dL rfl (hv:=KM Try.underlying3 rfl (by first|rfl|exact Kg _ _ _ (by omega)|exact Ke _ (by omega)|exact Kd _ (by omega)|exact dv_m _ _ _ (by omega)))) ?_
      refine aM 2 ?_
      refine KAV ?_
      refine Kz 8 rfl (.inl zr_35) (Nb rfl) rfl rfl rfl ?_
      refine Kh 3 rfl rfl rfl (Nb rfl) (by kernel_rfl) rfl (Ko (first:=[]) rfl en_47 rfl (fun w hw=>c_One x.1 w (by omega))) ?_
      rintro _ _ ⟨rfl,rfl⟩
      refine Kh 4 rfl rfl rfl (Nb rfl) (by kernel_rfl) rfl (Ko (first:=[]) rfl en_57 rfl (fun w hw=>c_bMulN _ U x.1 (.aff xx yy:Pt U.p) w k2 h105 hxy)) ?_
      rintro _ _ ⟨rfl,rfl⟩
      refine pM 5 ?_
      refine pP 6 rfl (KN rfl rfl) ?_
      refine pP 7 rfl (KN rfl rfl) ?_
      refine pE (fun b20=>?_)
      refine KAH ?_
      refine aL 9 rfl (sA rfl rfl sz_35 (by exact Kb _ _ _) (hl:=by exact KJ _ _ _) (h:=?_))
      refine aA 10 ?_
      refine aE ?_
      refine KB (KA ?_)
      refine oP (KE (o':=0) Try.underlying35 rfl rfl rfl sz_33 (by decide)) ?_
      refine oP (KE (o':=0) Try.underlying33 rfl rfl rfl sz_31 (by decide)) ?_
      refine oP (Kp (i:=0) Try.underlying31 sz_30 rfl rfl (by decide)) ?_
      refine oD (dL rfl (hv:=KM Try.underlying30 rfl (by exact pt_c0 _ _ _))) ?_
      refine oP (KK (KH rfl rfl (KAd (b:=255) (limb_lt _ _) (by decide))) (vi (b:=xx.val) (and255L (x:=xx.val) (by omega)))) ?_
      refine oP (Det.convi Try.underlying30 Try.underlying3 rfl (by omega)) ?_
      refine oP (KH rfl rfl (br_mul (b:=256) (by omega))) ?_
      refine oP (KE (o':=9) Try.underlying35 rfl rfl rfl sz_33 (by decide)) ?_
      refine oP (KE (o':=9) Try.underlying33 rfl rfl rfl sz_31 (by decide)) ?_
      refine oP (Det.indexA (i:=0) Try.underlying31 sz_30 rfl rfl (by decide)) ?_
      refine oD (dL rfl (hv:=KM Try.underlying30 rfl (by exact pt_c9 _ _ _))) ?_
      refine oP (KK (KH rfl rfl (KAd (b:=255) (limb_lt _ _) (by decide))) (vi (b:=yy.val) (and255L (x:=yy.val) (by omega)))) ?_
      refine oP (Det.convi Try.underlying30 Try.underlying3 rfl (by omega)) ?_
      refine oP (KH rfl rfl (Kx (by omega))) ?_
      refine oA ?_
      refine KC ?_
      refine KB ?_
      refine KB (KA ?_)
      refine oM ?_
      refine oS (cF rfl en_33 rfl (fun w hw=>c_Num _ w) ?_)
      refine oP (KH (v:=.bool false) rfl rfl (br_f (br_neq (b:=0)) (by first|exact (fun e=>e rfl)|(simp; done)|omega))) ?_
      refine oM ?_
      refine oGP (KE (o':=18) Try.underlying35 rfl rfl rfl sz_4 (by decide)) ?_
      refine KAC rfl rfl (dL rfl (hv:=KM Try.underlying4 rfl (by exact pt_gt _ _ _))) (Nb rfl) ?_
      refine oP (Kt rfl rfl) ?_
      refine oM ?_
      refine oGM ?_
      refine oGM ?_
      refine oGP (Det.indexS Try.underlying99 sz_4 rfl rfl (by omega)) ?_
      refine KAC rfl rfl (dL rfl (hv:=KM Try.underlying4 rfl (by exact bvec_at (n:=65536) (f:=x.2) (i:=xx.val*256+yy.val) (by omega) hnew))) (Nb rfl) ?_
      refine oP (Kt rfl rfl) ?_
      refine KC ?_
      refine KW rfl ?_
      refine KU ?_
      refine KA ?_
      refine oM ?_
      refine oM ?_
      refine oP (Det.indexS Try.underlying99 sz_4 rfl rfl (by omega)) ?_
      refine KT rfl (Kn rfl rfl rfl sz_4 (by repeat (first|exact Sh _|apply St_)) (by rw [bvec_length]; omega) (by exact bvec_set _ _ _ _) (by simp) ?_)
      refine KC ?_
      refine KA ?_
      refine oM ?_
      refine oP (KK (KH rfl rfl (KAU (b:=1))) (vi (b:=x.1+1) (by omega))) ?_
      refine oA ?_
      refine KC ?_
      refine ⟨(x.1+1,fun k=>if k = xx.val*256+yy.val then true else x.2 k),⟨by dsimp only; omega,by dsimp only; omega,fun k hk=>?_⟩,by dsimp only; omega,Kq ⟨rfl,rfl,rfl,trivial⟩ (by repeat (first|exact Sel.nil _|refine Sel.cons (by repeat (first|exact Ph _|apply Pt_)) ?_))⟩
      dsimp only at hk
      by_cases ek:k = xx.val*256+yy.val
      · exact ⟨x.1,hx1,Nat.lt_succ_self _,by rw [hxy,ek]; rfl⟩
      · rw [if_neg ek] at hk
        obtain ⟨j,h1,h2,h3⟩:=hx3 k hk
        exact ⟨j,h1,Nat.lt_succ_of_lt h2,h3⟩
    ·
      have h105:¬ x.1<U.n:=h105
      refine Ks ?_
      refine KB (KA ?_)
      refine oA ?_
      refine KC (KO ?_)
      refine ⟨[_],.cons rfl .nil,fun a w' hr=>⟨?_,hr.fr.below⟩⟩
      rfl
end Go.Proofs.Ytlmiolnccgjjjaa
