/- Part 6 of what the proof leans on: a symbolic execution of the model, walks of the program's functions, and the mathematics. No condition. -/
import Derived.WalkKit
import Derived.Orders
import Derived.Laws.StructEq
import Derived.WalkSpells
import Derived.OrdersHeld
import Derived.KernelRfl
import Derived.Laws.Externs
import Derived.Laws.Bits64
import Derived.Laws.MakeOwn
import Derived.Laws.BytesString
import Derived.Carry
import Derived.WideShapes
import GoSem.Claim
import Derived.Test.YtnpeokiboiclfaaGreatProg
import Derived.Deep.Upon
import Derived.Shelf.Strings.Repeat
import Derived.Ground.NamesProg
import Derived.Lib.Agree
import Derived.Shelf.Strings.Builder1
import Derived.Laws.AppendOwn
import Derived.Lib.ConvBytes
import Derived.Laws.CopyRow
import Derived.MapKept
import Derived.Test.YtnpeokiboiclfaaGreatRows
import Derived.ProofKit
import Derived.OpenShut
import Derived.SizedLaws
import Derived.ChangeMaps5
import Derived.Test.YtnpeokiboiclfaaGreatU5
set_option linter.unusedVariables false
set_option linter.unusedSimpArgs false
set_option maxRecDepth 20000
namespace Go.Proofs.YtnpeokiboiclfaaGreat
open Go Go.RowKit
abbrev pB (s pb fb c n mb tb:Nat) (dv:Value):Item:=.blk pb ⟨true,[Iz s,dv,.slice (some ⟨fb,0,none⟩) n c,.map (some mb),trV (some tb)],124,(0,0)⟩
abbrev rW (fb n:Nat) (f:Nat→Nat) (rest:List Value):Item:=.blk fb ⟨true,vec .i64 n f++rest,3,(0,0)⟩
abbrev cB (cb op cv ha hh nn:Nat) (ca cc cx:ByteArray):Item:=.blk cb ⟨false,calL op cv ha hh nn ca cc cx,68,(0,0)⟩
abbrev dB (d:Nat) (K U:ByteArray) (n:Nat):Item:=.blk d ⟨true,gnL 2 K U (n),79,(0,0)⟩
abbrev DoR (w:World) (pb:Nat) (cs:List Value) (p:Item) (Y:List Item) (Q:Value→Item→Item→Prop):Prop :=
  Calls Tryz.prog 28 ([Pz pb,.agg cs.toArray]:List Value).toArray w (fun e w'=>∃ (u:Value) (x' y':Item),Q u x' y'∧e = .returned u∧Outcome w [p,gpI Y] [x',y'] w')
theorem wkCB {R:List Item} {cb op cv ha hh nn:Nat} {ca cc cx:ByteArray}:Weaks (R++[cB cb op cv ha hh nn ca cc cx]) [cB cb op cv ha hh nn ca cc cx]:=Weaks.cons (List.mem_append.2 (.inr (.head _))) Weak.blk (Weaks.nil _)
theorem c_doStart (pb fb c n mb tb : Nat) (Y : List Item) (hY : Y.all (·.wr) = true) (et : ByteArray) (h1 : 16 ≤ et.size) (h2 : et.size ≤ 256) (w : World) (hH : ∀ x, x ∈ ([pB 0 pb fb c n mb tb (.pointer none), gpI Y] ++ [] : List Item) → x.holds w) (hd : ([pB 0 pb fb c n mb tb (.pointer none), gpI Y] ++ [] : List Item).Pairwise Apart) :
    DoR w pb (calL 0 0 0 0 0 et ⟨#[]⟩ ⟨#[]⟩) (pB 0 pb fb c n mb tb (.pointer none)) Y (fun u x' y'=>∃ d,u = ansV 0 ⟨#[]⟩ 0 false∧x' = pB 0 pb fb c n mb tb (Pz d)∧y' = gpI (Y++[dB d (upd 2 (et++⟨#[]⟩++⟨#[]⟩) (toS (List.replicate (hsize 2) 0),toS (List.replicate (hsize 2) 1))).1 (upd 2 (et++⟨#[]⟩++⟨#[]⟩) (toS (List.replicate (hsize 2) 0),toS (List.replicate (hsize 2) 1))).2 1])):=by
  refine (c_pDo0 pb fb c n mb tb (.pointer none) Y hY (fun c0 o h b p' Y'=>c0 = 0∧o = ⟨#[]⟩∧h = 0∧b = false∧∃ d,p' = pB 0 pb fb c n mb tb (Pz d)∧Y' = Y++[dB d (upd 2 (et++⟨#[]⟩++⟨#[]⟩) (toS (List.replicate (hsize 2) 0),toS (List.replicate (hsize 2) 1))).1 (upd 2 (et++⟨#[]⟩++⟨#[]⟩) (toS (List.replicate (hsize 2) 0),toS (List.replicate (hsize 2) 1))).2 1]) 103 0 0 0 0 0 et ⟨#[]⟩ ⟨#[]⟩ en_103 rfl (.inl rfl) (fun cb w1 g1 g2=>?_) w hH hd).mono ?_
  · refine CallsM.frame (X:=[pB 0 pb fb c n mb tb (.pointer none)]) (R:=Y) (List.Perm.refl _) wkCB hY g1 g2 (fun a b=>CallsM.of2 (c_pStart pb fb c n mb tb cb 0 0 0 0 0 et ⟨#[]⟩ ⟨#[]⟩ h1 h2 dc dc w1 a b)) ?_
    rintro v _ ⟨x',y',rfl,d,rfl,rfl,rfl⟩
    exact ⟨_,List.Perm.cons _ List.perm_append_comm,_,_,rfl,0,_,0,false,rfl,rfl,rfl,rfl,rfl,rfl,d,rfl,rfl⟩
  · rintro e w' ⟨u,x',y',⟨c0,o,h,b,Y',rfl,⟨rfl,rfl,rfl,rfl,d,rfl,rfl⟩,rfl⟩,he,ho⟩
    exact ⟨_,_,_,⟨d,rfl,rfl,rfl⟩,he,ho⟩
theorem c_doSelf (pb fb c n mb tb d : Nat) (Y : List Item) (hY : Y.all (·.wr) = true) (w : World) (hH : ∀ x, x ∈ ([pB 0 pb fb c n mb tb (Pz d), gpI Y] ++ [] : List Item) → x.holds w) (hd : ([pB 0 pb fb c n mb tb (Pz d), gpI Y] ++ [] : List Item).Pairwise Apart) :
    DoR w pb (calL 1 0 0 0 0 ⟨#[]⟩ ⟨#[]⟩ ⟨#[]⟩) (pB 0 pb fb c n mb tb (Pz d)) Y (fun u x' y'=>u = ansV 0 ⟨#[]⟩ 0 false∧x' = pB 1 pb fb c n mb tb (Pz d)∧y' = gpI Y):=by
  refine (c_pDo0 pb fb c n mb tb _ Y hY (fun c0 o h b p' Y'=>c0 = 0∧o = ⟨#[]⟩∧h = 0∧b = false∧p' = pB 1 pb fb c n mb tb (Pz d)∧Y' = Y) 104 1 0 0 0 0 ⟨#[]⟩ ⟨#[]⟩ ⟨#[]⟩ en_104 rfl (.inr rfl) (fun cb w1 g1 g2=>?_) w hH hd).mono ?_
  · refine CallsM.frame (X:=[pB 0 pb fb c n mb tb (Pz d)]) (R:=Y) (List.Perm.refl _) wkCB hY g1 g2 (fun a b=>CallsM.of1 (c_pSelf pb fb c n mb tb d cb 1 0 0 0 ⟨#[]⟩ ⟨#[]⟩ ⟨#[]⟩ w1 a b)) ?_
    rintro v _ ⟨x',rfl,rfl,rfl⟩
    exact ⟨_,List.Perm.refl _,_,_,rfl,0,_,0,false,rfl,rfl,rfl,rfl,rfl,rfl,rfl,rfl⟩
  · rintro e w' ⟨u,x',y',⟨c0,o,h,b,Y',rfl,⟨rfl,rfl,rfl,rfl,rfl,rfl⟩,rfl⟩,he,ho⟩
    exact ⟨_,_,_,⟨rfl,rfl,rfl⟩,he,ho⟩
theorem ba_self (a:ByteArray):(a == a) = true:=by rw [MapKept.bytes_beq]
theorem eq_ansT (c:Nat) (o:ByteArray) (h:Nat) (b:Bool):EqD 2 Tryz.prog 65 (ansV c o h b) (ansV c o h b) true:=by
  have:=EqD.struct (P:=Tryz.prog) (t:=65) (fs:=[_,_,_,_]) (xs:=(ansL c o h b).toArray) (ys:=(ansL c o h b).toArray) u65 kr (EqFs.cons dc (KBK u3 rfl rfl) (KBK u3 rfl rfl) (EqD.int u3)
    (EqFs.cons dc (KBK u9 rfl rfl) (KBK u9 rfl rfl) (EqD.str u9) (EqFs.cons dc (KBK u3 rfl rfl) (KBK u3 rfl rfl) (EqD.int u3)
    (EqFs.cons dc (KBK u4 rfl rfl) (KBK u4 rfl rfl) (EqD.bool u4) EqFs.nil))))
  rwa [show (((c:Int) == (c:Int)) && ((o == o) && (((h:Int) == (h:Int)) && ((b == b) && true)))) = true by rw [ba_self]; simp] at this
theorem c_ready (s:ByteArray) (hs0:s.size<9223372036854775808) (Z:ByteArray×ByteArray) (hZ:(upd 2 ((shS s 100++(⟨#[48,49,50,51,52,53,54,55,56,57,97,98,99,100,101,102,48,49,50,51,52,53,54,55,56,57,97,98,99,100,101,102]⟩:ByteArray))++⟨#[]⟩++⟨#[]⟩) (toS (List.replicate (hsize 2) 0),toS (List.replicate (hsize 2) 1))) = Z) (w:World) (hH:∀ x,x∈([]++[]:List Item)→x.holds w) (hd:([]++[]:List Item).Pairwise Apart)  : Calls Tryz.prog 27 ([.string s]:List Value).toArray w (fun e w'=>∃ (u:Value) (x':Item) (y':Item),(∃ pb fb c mb tb d rest,64≤c∧u = .tuple #[Pz pb,.bool true]∧x' = pB 1 pb fb c 64 mb tb (Pz d)∧y' = gpI [rW fb 64 (fun i=>i) rest,mpI mb none,trI (some tb) none [],dB d Z.1 Z.2 1])∧e = .returned u∧Outcome w [] [x',y'] w'):=by
  have hsz1:(shS s 100).size≤100:=shS_size s 100
  have hsz:(shS s 100++(⟨#[48,49,50,51,52,53,54,55,56,57,97,98,99,100,101,102,48,49,50,51,52,53,54,55,56,57,97,98,99,100,101,102]⟩:ByteArray)).size = (shS s 100).size+32:=by rw [ByteArray.size_append]; rfl
  refine KAJ [] (N:=26) (rs:=[.tmp 2,.tmp 3]) Tryz.func27 rfl Tryz.ntmps27 Tryz.results27 (Nb rfl) hH hd rfl rfl ?_
  refine KB (KA (oA (oA (KC (KB (KA ?_))))));refine LOps.step rfl (KAQ (first:=[]) (caps:=[]) (X:=[]) (RO:=[]) rfl en_59 rfl (Nb rfl) sR wK (fun w hH hd=>c_pNew w hH hd) ?_)
  rintro _ _ _ ⟨pb,fb,c,mb,tb,rest,hcap,rfl,rfl,rfl⟩
  refine oA (KC (KB (KA (oM (oM ?_)))));refine oS (cF rfl en_12 rfl (fun w hw=>c_short s 100 w) ?_);refine oP (KAj rfl rfl (Nat.le_trans (Nat.add_le_add_right hsz1 32) dc)) (oP (KW pl_68 zr_68 rfl (fT (r':=([Iz 0]++([Iz 0]++([Iz 0]++([Iz 0]++([Iz 0]++([.string (shS s 100++(⟨#[48,49,50,51,52,53,54,55,56,57,97,98,99,100,101,102,48,49,50,51,52,53,54,55,56,57,97,98,99,100,101,102]⟩:ByteArray))]++([Value.string ⟨#[]⟩]++([Value.string ⟨#[]⟩]))))))))) (fS (A:=([]:List Value)) (B:=([Iz 0])) (D:=([Iz 0]++([Iz 0]++([Iz 0]++([Iz 0]++([Value.string ⟨#[]⟩]++([Value.string ⟨#[]⟩]++([Value.string ⟨#[]⟩])))))))) (cs:=[Iz 0]) (fS (A:=([Iz 0]++([Iz 0]++([Iz 0]++([Iz 0]++([Iz 0])))))) (B:=([Value.string ⟨#[]⟩])) (D:=([Value.string ⟨#[]⟩]++([Value.string ⟨#[]⟩]))) (cs:=[.string (shS s 100++(⟨#[48,49,50,51,52,53,54,55,56,57,97,98,99,100,101,102,48,49,50,51,52,53,54,55,56,57,97,98,99,100,101,102]⟩:ByteArray))]) rfl)))) ?_)
  refine LOps.step rfl (KAQ (first:=[]) (caps:=[]) (X:=[pB 0 pb fb c 64 mb tb (.pointer none),gpI [rW fb 64 (fun i=>i) rest,mpI mb none,trI (some tb) none []]]) (RO:=[]) rfl en_28 rfl (Nb rfl) sR wK (fun w hH hd=>c_doStart pb fb c 64 mb tb [rW fb 64 (fun i=>i) rest,mpI mb none,trI (some tb) none []] rfl (shS s 100++(⟨#[48,49,50,51,52,53,54,55,56,57,97,98,99,100,101,102,48,49,50,51,52,53,54,55,56,57,97,98,99,100,101,102]⟩:ByteArray)) (by rw [hsz]; omega) (by rw [hsz]; omega) w hH hd) ?_)
  rintro _ _ _ ⟨d,rfl,rfl,rfl⟩
  rw [hZ]
  refine oS (mk (KK zr_65) (fun b5=>?_));refine LOps.step rfl (sA rfl rfl sz_65 (by exact KCM 0 ⟨#[]⟩ 0 false) (hl:=by rfl) (h:=?_));refine KC (KB (KA (oM ?_)));refine oP (KW pl_68 zr_68 rfl (fT (r':=([Iz 1]++([Iz 0]++([Iz 0]++([Iz 0]++([Iz 0]++([Value.string ⟨#[]⟩]++([Value.string ⟨#[]⟩]++([Value.string ⟨#[]⟩]))))))))) (fS (A:=([]:List Value)) (B:=([Iz 0])) (D:=([Iz 0]++([Iz 0]++([Iz 0]++([Iz 0]++([Value.string ⟨#[]⟩]++([Value.string ⟨#[]⟩]++([Value.string ⟨#[]⟩])))))))) (cs:=[Iz 1]) rfl))) ?_;refine LOps.step rfl (KAQ (first:=[]) (caps:=[]) (X:=[pB 0 pb fb c 64 mb tb (Pz d),gpI [rW fb 64 (fun i=>i) rest,mpI mb none,trI (some tb) none [],dB d Z.1 Z.2 1]]) (RO:=[]) rfl en_28 rfl (Nb rfl) sR wK (fun w hH hd=>c_doSelf pb fb c 64 mb tb d [rW fb 64 (fun i=>i) rest,mpI mb none,trI (some tb) none [],dB d Z.1 Z.2 1] rfl w hH hd) ?_)
  rintro _ _ _ ⟨rfl,rfl,rfl⟩
  refine oS (mk (KK zr_65) (fun b6=>?_));refine LOps.step rfl (sA rfl rfl sz_65 (by exact KCM 0 ⟨#[]⟩ 0 false) (hl:=by rfl) (h:=?_));refine KC (KB (rD [] (aM 0 ?_)));refine aD 1 rfl (dL rfl (hv:=by exact KD u65 rfl sz_65)) ?_;refine aP 2 rfl (KW pl_65 zr_65 rfl rfl) (aP 3 rfl (KI (KBv kr (fun w=>eq_ansT 0 ⟨#[]⟩ 0 false 10000 dc w) rfl rfl) (show _ = Value.bool true by rfl)) (aM 4 ?_));refine aGD 5 rfl (dL rfl (hv:=by exact KD u65 rfl sz_65)) ?_;refine aGP 6 rfl (KW pl_65 zr_65 rfl rfl) (aGP 7 rfl (KI (KBv kr (fun w=>eq_ansT 0 ⟨#[]⟩ 0 false 10000 dc w) rfl rfl) (show _ = Value.bool true by rfl)) (aP 8 rfl (Ke rfl rfl) (aA 9 ?_)));refine aA 10 ?_;refine aE (KM (⟨[_,_],.cons rfl (.cons rfl .nil),fun a w' hr=>⟨_,_,_,⟨pb,fb,c,mb,tb,d,rest,by omega,rfl,rfl,rfl⟩,rfl,hr.out mS rfl⟩⟩))
open Grp
open Grp
theorem all_app {A D:List Item} (h:A.all (·.wr) = true) (hD:D.all (·.wr) = true):(A++D).all (·.wr) = true:=by rw [List.all_append,h,hD]; rfl
abbrev yB (fb n:Nat) (f:Nat→Nat) (rest:List Value) (mb:Nat) (o:Option (Int×Value)) (tb:Nat) (tr:TrRow) (l:List Nat) (D:List Item):List Item:=[rW fb n f rest,mpI mb o,trI (some tb) tr l]++D
theorem cvI_tn (x:Int):∃ V,cvI ((13+uidx x%3:Nat):Int) = some V∧legB V = false∧nby V.n = 1∧nby V.p = 1∧201≤V.n∧V.n≤255:=by
  obtain ⟨k,hk⟩:∃ k,uidx x%3 = k:=⟨_,rfl⟩
  have h:k<3:=hk ▸ Nat.mod_lt _ dc
  rw [hk]
  rcases (show k = 0∨k = 1∨k = 2 by omega) with rfl|rfl|rfl
  · exact ⟨cv13,rfl,by decide,by decide +kernel,by decide +kernel,by decide,by decide⟩
  · exact ⟨cv14,rfl,by decide,by decide +kernel,by decide +kernel,by decide,by decide⟩
  · exact ⟨cv15,rfl,by decide,by decide +kernel,by decide +kernel,by decide,by decide⟩
open Grp
theorem c_pHashed (cb op cv k hh nn:Nat) (ca cc cx:ByteArray) (hk:k = 1∨k = 2∨k = 3∨k = 4) (tx:Nat) (sx:ByteArray) (hx:sx.size≤65536) (w:World) (hcb:(Item.blk cb ⟨false,calL op cv k hh nn ca cc cx,68,(0,0)⟩).holds w) (htx:(Item.blk tx ⟨false,[.string sx],9,(0,0)⟩).holds w):CF Tryz.prog 155 [Pz cb,.slice (some ⟨tx,0,none⟩) 1 1] w (Iz 0):=by
  have hs8:=KCK hk
  refine KV (N:=23) (rs:=[.tmp 4]) [.blk cb ⟨false,calL op cv k hh nn ca cc cx,68,(0,0)⟩,.blk tx ⟨false,[.string sx],9,(0,0)⟩] Tryz.func155 rfl Tryz.ntmps155 Tryz.results155 (Nb rfl) ⟨hcb,htx,trivial⟩ rfl ?_
  refine KB (KA (oP (KO (v:=Iz 0) rfl) (KC (KB (KB (KA (oM ?_)))))));refine oP (KF rfl) (oP (KE (o':=2) u68 rfl rfl rfl sz_3 dc) (oD (dL rfl (hv:=KJ u3 rfl gL)) ?_));refine oS (cF rfl en_31 rfl (fun w hw=>KDS k hk w) ?_);refine oP (bF rfl rfl (Kt (b:=0)) om) (KC (KG rfl (KN (KB (KB (KA (oM ?_)))))));refine oP (KBZ u143 rfl) (oP (Kg (v:=Iz 0) rfl) (KC (LCode.block (Kd (α:=Nat) (fun i=>i≤1) (fun i=>⟨[(13,.slice (some ⟨tx,0,none⟩) 1 1),(14,Iz 1),(15,Iz i)],[.blk tx ⟨false,[.string sx],9,(0,0)⟩]⟩) (fun i=>1-i) (0) (Nat.zero_le _) (Ka ⟨rfl,rfl,rfl,trivial⟩ mS) ?_))))
  intro i hi
  refine KB (KA (oP (KH rfl rfl (Ky)) (KC (KB ?_))))
  first|refine KQ rfl (fun h16=>?_) (fun h16=>?_)|refine KT rfl (fun h16=>?_) (fun h16=>?_)
  ·
   have h16:i<1:=h16
   obtain rfl:i = 0:=by omega
   refine KN (KB (LCode.block (KB (KA (oP (KAG u143 sz_9 rfl rfl om) (oD (dL rfl (hv:=KJ u9 rfl gL)) ?_))))));refine oA (KC (KB (KA (oM ?_))));refine oP (KAI u9 rfl) (oP (bF rfl rfl (KAZ (b:=65536)) om) (KC (KG rfl (KN (KA (oP (KH rfl rfl (Kj (b:=1) om)) (oM (KC ?_))))))))
   exact ⟨0+1,by decide,by decide,Ka ⟨rfl,rfl,rfl,trivial⟩ mS⟩
  refine Kb (KB (KA (oP (KO (v:=Iz 0) rfl) (KC (KM (eN (.cons rfl .nil) ?_))))))
  rfl
open Grp
noncomputable def sgG (V:Cv) (nn:Nat) (s:ByteArray):Nat×Nat×Nat:=if nn = 1 then derG s else (rgR V s,rgT V s,rgE V s)
theorem sgG_lt {V:Cv} (hn:V.n<W9) {nn:Nat} {s:ByteArray} {R T E:Nat} (h:sgG V nn s = (R,T,E)):R<W9∧T<W9:=by
  unfold sgG at h
  split at h
  · have:=derG_lt s
    rw [h] at this; exact this
  · obtain ⟨h1,h2⟩:=Prod.mk.inj h
    obtain ⟨h2,_⟩:=Prod.mk.inj h2
    have:=rg_lt V hn s
    exact ⟨h1 ▸ this.1,h2 ▸ this.2⟩
theorem sgG_der {V:Cv} {s:ByteArray} {R T E:Nat} (h:sgG V 1 s = (R,T,E)):derG s = (R,T,E):=h
theorem sgG_raw {V:Cv} {s:ByteArray} {R T E:Nat} (h:sgG V 0 s = (R,T,E)):rgR V s = R∧rgT V s = T∧rgE V s = E:=by
  have h:(rgR V s,rgT V s,rgE V s) = (R,T,E):=h
  obtain ⟨h1,h2⟩:=Prod.mk.inj h
  exact ⟨h1,Prod.mk.inj h2⟩
theorem c_rawG (id:Int) (V:Cv) (s:ByteArray) (R T E:Nat) (hG:sgG V 0 s = (R,T,E)) (w:World) (h:cvI id = some V) (hs:s.size<9223372036854775808):CF Tryz.prog 17 [.int .i64 id,.string s] w (.tuple #[sgV R T,Iz E]):=by
  obtain ⟨rfl,rfl,rfl⟩:=sgG_raw hG
  exact c_raw_Get2 id V s w h hs
theorem verAny (id : Int) (V : Cv) (k : Nat) (hk : k = 1 ∨ k = 2 ∨ k = 3 ∨ k = 4) (msg : ByteArray) (hmsg : msg.size ≤ 140737488351232) (X Y R S : Nat) (h : cvI id = some V) (hX : X < W9) (hY : Y < W9) (hR : R < W9) (hS : S < W9) :
    ∃ B:Bool,∀ w,CF Tryz.prog 21 [.int .i64 id,Iz k,ptV X Y false,.string msg,sgV R S] w (.bool B):=by
  by_cases h1:onB V.p V.a V.b X Y false = true
  · by_cases h2:sgK V R
    · by_cases h3:sgK V S
      · obtain ⟨P,hP,hx,hy,hi⟩:=onB_pt h1
        cases P with
        | inf=>cases hi
        | aff x y =>
          obtain rfl:x.val = X:=hx
          obtain rfl:y.val = Y:=hy
          exact ⟨_,fun w=>c_eVer id V k hk msg hmsg x y hP R S w h h2 h3⟩
      · exact ⟨false,fun w=>c_eVerX id V k hk msg hmsg X Y false R S w h hX hY hR hS (.inr (.inr (.inr ⟨rfl,h1,h2,h3⟩)))⟩
    · exact ⟨false,fun w=>c_eVerX id V k hk msg hmsg X Y false R S w h hX hY hR hS (.inr (.inr (.inl ⟨rfl,h1,h2⟩)))⟩
  · exact ⟨false,fun w=>c_eVerX id V k hk msg hmsg X Y false R S w h hX hY hR hS (.inr (.inl ⟨rfl,by cases hb:onB V.p V.a V.b X Y false; exact rfl; exact absurd hb h1⟩))⟩
theorem verAns (n E:Nat) (B:Bool):∃ (AC:Nat) (AB:Bool),(n≠0∧AC = 12∧AB = false)∨(n = 0∧E≠0∧AC = 13∧AB = false)∨(n = 0∧E = 0∧AC = 0∧AB = B):=by
  by_cases h:n = 0
  · by_cases h2:E = 0
    · exact ⟨0,B,.inr (.inr ⟨h,h2,rfl,rfl⟩)⟩
    · exact ⟨13,false,.inr (.inl ⟨h,h2,rfl,rfl⟩)⟩
  · exact ⟨12,false,.inl ⟨h,rfl,rfl⟩⟩
def and3 (x:Int):Nat:=(BitVec.ofInt 64 x &&& BitVec.ofInt 64 3).toNat
theorem and3_lt (x:Int):and3 x<4:=by
  unfold and3
  rw [BitVec.toNat_and]
  exact Nat.lt_of_le_of_lt Nat.and_le_right dc
theorem br_and3 (x:Int):Kq .and .i64 x .i64 3 = some (Iz (and3 x)):=by
  show some (Value.int .i64 (IntKind.i64.wrap ((BitVec.ofInt 64 x &&& BitVec.ofInt 64 3).toNat:Int))) = _
  have:=and3_lt x
  unfold and3 at this ⊢
  rw [wrap_nat om]
theorem c_pSigG (cb op cv k hh nn:Nat) (ca cc cx:ByteArray) (V:Cv) (R T E:Nat) (w:World) (hcb:(Item.blk cb ⟨false,calL op cv k hh nn ca cc cx,68,(0,0)⟩).holds w) (h:cvI ((cv:Nat):Int) = some V) (hnn:nn = 0∨nn = 1) (hG:sgG V nn cx = (R,T,E)) (hx:cx.size<9223372036854775808):CF Tryz.prog 156 [Pz cb] w (.tuple #[sgV R T,Iz E]):=by
  refine KV (N:=27) (rs:=[.cell 2 37,.tmp 3]) [.blk cb ⟨false,calL op cv k hh nn ca cc cx,68,(0,0)⟩] Tryz.func156 rfl Tryz.ntmps156 Tryz.results156 (Nb rfl) ⟨hcb,trivial⟩ rfl ?_
  refine KB ?_
  rcases hnn with rfl|rfl
  ·
   refine KA (oS (mk (KK zr_37) (fun b2=>?_)));refine oP (KO (v:=Iz 0) rfl) (KC (KB (KB (KA (oM ?_)))));refine oP (KF rfl) (oP (KE (o':=4) u68 rfl rfl rfl sz_3 dc) (oD (dL rfl (hv:=KJ u3 rfl gL)) ?_));refine oP (bF rfl rfl (Kt (b:=1)) dc) (KC (KG rfl (KN (KB (rD [11] (aM 0 ?_))))));refine aP 1 rfl (KF rfl) (aP 2 rfl (KE (o':=1) u68 rfl rfl rfl sz_3 dc) (aD 3 rfl (dL rfl (hv:=KJ u3 rfl gL)) ?_));refine aM 4 ?_;refine aP 5 rfl (KF rfl) (aP 6 rfl (KE (o':=7) u68 rfl rfl rfl sz_9 dc) (aD 7 rfl (dL rfl (hv:=KJ u9 rfl gL)) ?_));refine aO 8 rfl (cF rfl en_17 rfl (fun w hw=>c_rawG _ V cx R T E hG w h hx) ?_);refine aP 9 rfl (Det.extract rfl rfl) (aP 10 rfl (Det.extract rfl rfl) (aL 11 rfl (sA rfl rfl sz_37 (by exact KBV _ _) (hl:=by exact KAN _ _) (h:=?_))));refine aA 12 ?_;refine aE (KM (eN (.cons ⟨_,_,_,rfl,mM,by exact KD u37 rfl sz_37⟩ (.cons rfl .nil)) ?_))
   rfl
  refine KA (oS (mk (KK zr_37) (fun b2=>?_)));refine oP (KO (v:=Iz 0) rfl) (KC (KB (KB (KA (oM ?_)))));refine oP (KF rfl) (oP (KE (o':=4) u68 rfl rfl rfl sz_3 dc) (oD (dL rfl (hv:=KJ u3 rfl gL)) ?_));refine oP (bT rfl rfl (Kt (b:=1)) dc) (KC (KS rfl (KB (KA (oM ?_)))));refine oP (KF rfl) (oP (KE (o':=7) u68 rfl rfl rfl sz_9 dc) (oD (dL rfl (hv:=KJ u9 rfl gL)) ?_));refine oS (cF rfl en_18 rfl (fun w hw=>c_derGet cx R T E w (sgG_der hG)) ?_);refine oX ?_;refine oX ?_;refine LOps.step rfl (sA rfl rfl sz_37 (by exact KBV _ _) (hl:=by exact KAN _ _) (h:=?_));refine oA (KC (KM ?_));refine eN (.cons ⟨_,_,_,rfl,mM,by exact KD u37 rfl sz_37⟩ (.cons rfl .nil)) ?_
  rfl
theorem c_pVerify (pb:Nat) (cb op cv k hh nn:Nat) (ca cc cx:ByteArray) (V:Cv) (X Y n R T E:Nat) (B:Bool) (AC:Nat) (AB:Bool) (w:World) (hcb:(Item.blk cb ⟨false,calL op cv k hh nn ca cc cx,68,(0,0)⟩).holds w) (h:cvI ((cv:Nat):Int) = some V) (hk:k = 1∨k = 2∨k = 3∨k = 4) (hnn:nn = 0∨nn = 1) (hcc:cc.size≤65536) (ha:ca.size<9223372036854775808) (hx:cx.size<9223372036854775808) (hg:getT V ca = (X,Y,n)) (hG:sgG V nn cx = (R,T,E)) (hV:∀ w,CF Tryz.prog 21 [Iz cv,Iz k,ptV X Y false,.string cc,sgV R T] w (.bool B)) (hA:(n≠0∧AC = 12∧AB = false)∨(n = 0∧E≠0∧AC = 13∧AB = false)∨(n = 0∧E = 0∧AC = 0∧AB = B)):CF Tryz.prog 112 [Pz pb,Pz cb] w (ansV AC ⟨#[]⟩ 0 AB):=by
  refine KV (N:=66) (rs:=[.cell 4 65]) [.blk cb ⟨false,calL op cv k hh nn ca cc cx,68,(0,0)⟩] Tryz.func112 rfl Tryz.ntmps112 Tryz.results112 (Nb rfl) ⟨hcb,trivial⟩ rfl ?_
  refine KB (KA (oS (mk (KK zr_65) (fun b4=>?_))));refine KC (KB (KB (KA (oM ?_))));refine oP (KF rfl) (oP (KE (o':=1) u68 rfl rfl rfl sz_3 dc) (oD (dL rfl (hv:=KJ u3 rfl gL)) ?_));refine oS (oOpen h rfl rfl (fun b f bd=>?_));refine oP (KI (KAH u81 rfl rfl) (show _ = Value.bool false from rfl)) (KC (KG rfl (KN (KB (KB (KA (oM (oM ?_))))))));refine oP (KF rfl) (oP (KE (o':=6) u68 rfl rfl rfl sz_9 dc) (oD (dL rfl (hv:=KJ u9 rfl gL)) ?_));refine oS (mk (KAO u143 inf_9 rfl rfl rfl rfl dc rfl) (fun b21=>?_));refine oS (cF rfl en_155 rfl (fun w hw=>c_pHashed cb op cv k hh nn ca cc cx hk b21 cc hcc w (mC hw) (show (Item.blk b21 ⟨false,[.string cc],9,(0,0)⟩).holds w from hw (.blk b21 ⟨true,[.string cc],9,(0,0)⟩) mM)) ?_);refine oA (KC (KB (KA (oM ?_))));refine oP (bF rfl rfl (KAW (b:=0)) dc) (KC (KG rfl (KN (KB (rD [13] (aM 0 ?_))))))
  refine aP 1 rfl (KF rfl) (aP 2 rfl (KE (o':=1) u68 rfl rfl rfl sz_3 dc) (aD 3 rfl (dL rfl (hv:=KJ u3 rfl gL)) ?_));refine aM 4 ?_;refine aP 5 rfl (KF rfl) (aP 6 rfl (KE (o':=5) u68 rfl rfl rfl sz_9 dc) (aD 7 rfl (dL rfl (hv:=KJ u9 rfl gL)) ?_));refine KAR ?_;refine Ko 12 rfl (.inl zr_47) (Nb rfl) rfl rfl rfl ?_;refine LAnyP.step 8 rfl rfl rfl (Nb rfl) kr rfl (Kf (first:=[]) rfl en_29 rfl (fun w hw=>c_s_GetE X Y n _ V ca w h ha hg)) ?_
  rintro _ _ ⟨rfl,rfl⟩
  refine pM 9 ?_;refine pP 10 rfl (Det.extract rfl rfl) (pP 11 rfl (Det.extract rfl rfl) (pE (fun b6=>?_)));refine Kw ?_;refine aL 13 rfl (sA rfl rfl sz_47 (by exact KAB _ _ _) (hl:=by exact KX _ _ _) (h:=?_));refine aA 14 ?_;refine aE (KB (KB ?_))
  rcases hA with ⟨h1,rfl,rfl⟩|⟨rfl,h2,rfl,rfl⟩|⟨rfl,rfl,rfl,rfl⟩
  ·
   refine KA (oM ?_);refine oP (bT rfl rfl (KAW (b:=0)) om) (KC (KS rfl (KB (KA (oS (cF rfl en_61 rfl (fun w hw=>c_pCode 12 w) ?_))))));refine LOps.step rfl (sA rfl rfl sz_65 (by exact KCM 12 ⟨#[]⟩ 0 false) (hl:=by rfl) (h:=?_));refine KC (KM (eN (.cons ⟨_,_,_,rfl,mM,by exact KD u65 rfl sz_65⟩ .nil) ?_))
   rfl
  ·
   refine KA (oM ?_);refine oP (bF rfl rfl (KAW (b:=0)) dc) (KC (KG rfl (KN (KB (KA (oM ?_))))));refine oS (cF rfl en_156 rfl (fun w hw=>c_pSigG cb op cv k hh nn ca cc cx V R T _ w (mC hw) h hnn hG hx) ?_);refine oM ?_;refine oX ?_;refine oX ?_;refine oS (mk (KK zr_37) (fun b8=>?_));refine LOps.step rfl (sA rfl rfl sz_37 (by exact KBV _ _) (hl:=by exact KAN _ _) (h:=?_));refine oA (KC (KB (KB (KA (oM ?_)))));refine oP (bT rfl rfl (KAW (b:=0)) om) (KC (KS rfl (KB (KA (oS (cF rfl en_61 rfl (fun w hw=>c_pCode 13 w) ?_))))));refine LOps.step rfl (sA rfl rfl sz_65 (by exact KCM 13 ⟨#[]⟩ 0 false) (hl:=by rfl) (h:=?_));refine KC (KM (eN (.cons ⟨_,_,_,rfl,mM,by exact KD u65 rfl sz_65⟩ .nil) ?_))
   rfl
  refine KA (oM ?_);refine oP (bF rfl rfl (KAW (b:=0)) dc) (KC (KG rfl (KN (KB (KA (oM ?_))))));refine oS (cF rfl en_156 rfl (fun w hw=>c_pSigG cb op cv k hh nn ca cc cx V R T _ w (mC hw) h hnn hG hx) ?_);refine oM ?_;refine oX ?_;refine oX ?_;refine oS (mk (KK zr_37) (fun b8=>?_));refine LOps.step rfl (sA rfl rfl sz_37 (by exact KBV _ _) (hl:=by exact KAN _ _) (h:=?_));refine oA (KC (KB (KB (KA (oM ?_)))));refine oP (bF rfl rfl (KAW (b:=0)) dc) (KC (KG rfl (KN (KB (rD [16] (aM 0 ?_))))));refine aP 1 rfl (KF rfl) (aP 2 rfl (KE (o':=1) u68 rfl rfl rfl sz_3 dc) (aD 3 rfl (dL rfl (hv:=KJ u3 rfl gL)) ?_));refine aM 4 ?_;refine aP 5 rfl (KF rfl) (aP 6 rfl (KE (o':=2) u68 rfl rfl rfl sz_3 dc) (aD 7 rfl (dL rfl (hv:=KJ u3 rfl gL)) ?_));refine aD 8 rfl dNb ?_;refine aM 9 ?_;refine aP 10 rfl (KF rfl) (aP 11 rfl (KE (o':=6) u68 rfl rfl rfl sz_9 dc) (aD 12 rfl (dL rfl (hv:=KJ u9 rfl gL)) ?_))
  refine aD 13 rfl (dL rfl (hv:=by exact KD u37 rfl sz_37)) ?_;refine aO 14 rfl (cF rfl en_21 rfl (fun w hw=>hV w) ?_);refine aP 15 rfl (KW pl_65 zr_65 rfl (fT (r':=([Iz 0]++([Value.string ⟨#[]⟩]++([Iz 0]++([.bool AB]))))) (fS (A:=([Iz 0]++([Value.string ⟨#[]⟩]++([Iz 0])))) (B:=([Value.bool false])) (D:=([]:List Value)) (cs:=[.bool AB]) rfl))) ?_;refine aL 16 rfl (sA rfl rfl sz_65 (by exact KCM 0 ⟨#[]⟩ 0 AB) (hl:=by rfl) (h:=?_));refine aE (KM (eN (.cons ⟨_,_,_,rfl,mM,by exact KD u65 rfl sz_65⟩ .nil) ?_))
  rfl
theorem c_doVerify (pb fb c n0 mb tb : Nat) (dv : Value) (fh : Nat → Nat) (rest : List Value) (o : Option (Int × Value)) (tr : TrRow) (l : List Nat) (D : List Item) (hD : D.all (·.wr) = true) (cv k nn : Nat) (ca cc cx : ByteArray) (V : Cv) (X Y n R T E : Nat) (B : Bool) (AC : Nat) (AB : Bool) (h : cvI ((cv : Nat) : Int) = some V) (hk : k = 1 ∨ k = 2 ∨ k = 3 ∨ k = 4) (hnn : nn = 0 ∨ nn = 1) (hcc : cc.size ≤ 65536) (ha : ca.size < 9223372036854775808) (hx : cx.size < 9223372036854775808) (hg : getT V ca = (X, Y, n)) (hG : sgG V nn cx = (R, T, E)) (hV : ∀ w, CF Tryz.prog 21 [Iz cv, Iz k, ptV X Y false, .string cc, sgV R T] w (.bool B)) (hA : (n ≠ 0 ∧ AC = 12 ∧ AB = false) ∨ (n = 0 ∧ E ≠ 0 ∧ AC = 13 ∧ AB = false) ∨ (n = 0 ∧ E = 0 ∧ AC = 0 ∧ AB = B)) (w : World)
    (hH:∀ x,x∈([pB 1 pb fb c n0 mb tb dv,gpI (yB fb n0 fh rest mb o tb tr l D)]++[]:List Item)→x.holds w) (hd:([pB 1 pb fb c n0 mb tb dv,gpI (yB fb n0 fh rest mb o tb tr l D)]++[]:List Item).Pairwise Apart) :
    DoR w pb (calL 9 cv k 0 nn ca cc cx) (pB 1 pb fb c n0 mb tb dv) (yB fb n0 fh rest mb o tb tr l D) (fun u x' y'=>u = ansV AC ⟨#[]⟩ 0 AB∧x' = pB 1 pb fb c n0 mb tb dv∧y' = gpI (yB fb n0 fh rest mb o tb tr l D)):=by
  refine (c_pDo pb fb c n0 mb tb dv _ (all_app rfl hD) (fun c0 o2 h2 b p' Y'=>c0 = AC∧o2 = ⟨#[]⟩∧h2 = 0∧b = AB∧p' = pB 1 pb fb c n0 mb tb dv∧Y' = yB fb n0 fh rest mb o tb tr l D) 112 9 cv k 0 nn ca cc cx en_112 rfl dc (fun cb w1 g1 g2=>?_) w hH hd).mono ?_
  · refine CallsM.frame (X:=[]) (R:=_) (RO':=[cB cb 9 cv k 0 nn ca cc cx]) (List.Perm.refl _) wkCB (by simp only [List.all_cons]; rw [all_app rfl hD]; rfl) g1 g2 (fun a b=>CallsM.of0 (c_pVerify pb cb 9 cv k 0 nn ca cc cx V X Y n R T E B AC AB w1 (a _ (.head _)) h hk hnn hcc ha hx hg hG hV hA)) ?_
    rintro v _ ⟨rfl,rfl⟩
    exact ⟨_,List.Perm.refl _,_,_,rfl,AC,_,0,AB,rfl,rfl,rfl,rfl,rfl,rfl,rfl,rfl⟩
  · rintro e w' ⟨u,x',y',⟨c0,o2,h2,b,Y',rfl,⟨rfl,rfl,rfl,rfl,rfl,rfl⟩,rfl⟩,he,ho⟩
    exact ⟨_,_,_,⟨rfl,rfl,rfl⟩,he,ho⟩
theorem c_TopVerified (which id:Int) (pub msg sig:ByteArray) (asn:Bool) (hpub:pub.size<9223372036854775808) (hmsg:msg.size<9223372036854775808) (hsig:sig.size<9223372036854775808) (w:World)  : CF Tryz.prog 7 [.int .i64 which,.int .i64 id,.string pub,.string msg,.string sig,.bool asn] w (.bool true):=by
  obtain ⟨Z,hZ⟩:∃ Z,(upd 2 ((shS ⟨#[]⟩ 100++(⟨#[48,49,50,51,52,53,54,55,56,57,97,98,99,100,101,102,48,49,50,51,52,53,54,55,56,57,97,98,99,100,101,102]⟩:ByteArray))++⟨#[]⟩++⟨#[]⟩) (toS (List.replicate (hsize 2) 0),toS (List.replicate (hsize 2) 1))) = Z:=⟨_,rfl⟩
  refine KV (N:=98) (rs:=[.tmp 12]) [] Tryz.func7 rfl Tryz.ntmps7 Tryz.results7 (Nb rfl) trivial rfl ?_
  refine KB (KA (oA (KC (KB (KB (KA ?_))))));refine oS (cF rfl en_9 rfl (fun w hw=>c_awakeT w) ?_);refine oP (KI (KAE rfl) (show _ = Value.bool false from rfl)) (KC (KG rfl (KN (KB (KA (oM ?_))))));refine oP (KI (KDO u3 u56 rfl) (uidx_eq which)) (oP (KI (KH rfl rfl (br_rem64 (b:=3) dc)) (show _ = .int .u64 ((uidx which%3:Nat):Int) from rfl)) (oP (KAe u56 u3 rfl om) (oP (KH rfl rfl (Kj (a:=13) om)) (oA (KC (KB ?_))))))
  obtain ⟨V,h,hleg,hnn,hnpp,hbig,hbig2⟩:=cvI_tn which
  obtain ⟨hok,hid⟩:=KAz h
  have hnW:V.n<W9:=Ku hok.bounds.2.2.2.2.2.2.1
  have hu3:=Nat.mod_lt (uidx which) (show 0<3 by decide)
  have ha3:=and3_lt id
  obtain ⟨⟨X,Y,n⟩,hg⟩:∃ z,getT V pub = z:=⟨_,rfl⟩
  obtain ⟨⟨R,T,E⟩,hG⟩:∃ z,sgG V asn.toNat sig = z:=⟨_,rfl⟩
  have hXY:=gT_lt hok pub
  rw [hg] at hXY
  have hRT:=sgG_lt hnW hG
  have hk:(1+and3 id) = 1∨(1+and3 id) = 2∨(1+and3 id) = 3∨(1+and3 id) = 4:=by omega
  obtain ⟨B,hV⟩:=verAny _ V (1+and3 id) hk (shS msg 5000) (by have:=shS_size msg 5000; omega) X Y R T h hXY.1 hXY.2 hRT.1 hRT.2
  obtain ⟨AC,AB,hA⟩:=verAns n E B
  refine KA (oM ?_);refine oP (KH rfl rfl (br_and3 id)) (oP (KH rfl rfl (Kj (a:=1) om)) (oA (KC (KB (KA ?_)))));refine LOps.step rfl (KAQ (first:=[]) (caps:=[]) (X:=[]) (RO:=[]) rfl en_27 rfl (Nb rfl) sR wK (fun w hH hd=>c_ready ⟨#[]⟩ dc Z hZ w hH hd) ?_)
  rintro _ _ _ ⟨pb,fb,c,mb,tb,d,rest0,hc64,rfl,rfl,rfl⟩
  refine oM ?_;refine oX ?_;refine oX ?_;refine oA (oA (KC (KB (KA ?_))));refine oP (KO (v:=Iz 0) rfl) (KC (KCW (α:=Unit) (fun _=>True) (fun _=>⟨[(2,.string pub),(3,.string msg),(4,.string sig),(5,.bool asn),(13,Iz ((13+uidx which%3))),(14,Iz ((1+and3 id))),(15,Pz pb),(16,.bool true),(17,Iz asn.toNat)],[pB 1 pb fb c 64 mb tb (Pz d),gpI (yB fb 64 (fun i=>i) rest0 mb none tb none [] [dB d Z.1 Z.2 1])]⟩) ?_ ?_))
  ·
   refine KB (KA (oM (KC ?_)))
   first|refine KQ rfl (fun h40=>?_) (fun h40=>?_)|refine KT rfl (fun h40=>?_) (fun h40=>?_)
   ·
    subst h40
    refine KA (oP (KO (v:=Iz 1) rfl) (KC ?_))
    exact ⟨(),trivial,Ka ⟨rfl,rfl,rfl,rfl,rfl,rfl,rfl,rfl,rfl,trivial⟩ mS⟩
   subst h40
   refine KN ?_
   exact ⟨(),trivial,Ka ⟨rfl,rfl,rfl,rfl,rfl,rfl,rfl,rfl,rfl,trivial⟩ mS⟩
  rintro _ _
  refine KB (KA (oM ?_));refine oS (cF rfl en_12 rfl (fun w hw=>c_short msg 5000 w) ?_);refine oA (KC (KB (KA (oM (oM (oM (oM (oM (oM (oM ?_))))))))));refine oP (KW pl_68 zr_68 rfl (fT (r':=([Iz 9]++([Iz ((13+uidx which%3))]++([Iz ((1+and3 id))]++([Iz 0]++([Iz asn.toNat]++([.string pub]++([.string (shS msg 5000)]++([.string sig]))))))))) (fS (A:=([]:List Value)) (B:=([Iz 0])) (D:=([Iz 0]++([Iz 0]++([Iz 0]++([Iz 0]++([Value.string ⟨#[]⟩]++([Value.string ⟨#[]⟩]++([Value.string ⟨#[]⟩])))))))) (cs:=[Iz 9]) (fS (A:=([Iz 9])) (B:=([Iz 0])) (D:=([Iz 0]++([Iz 0]++([Iz 0]++([Value.string ⟨#[]⟩]++([Value.string ⟨#[]⟩]++([Value.string ⟨#[]⟩]))))))) (cs:=[Iz ((13+uidx which%3))]) (fS (A:=([Iz 9]++([Iz ((13+uidx which%3))]))) (B:=([Iz 0])) (D:=([Iz 0]++([Iz 0]++([Value.string ⟨#[]⟩]++([Value.string ⟨#[]⟩]++([Value.string ⟨#[]⟩])))))) (cs:=[Iz ((1+and3 id))]) (fS (A:=([Iz 9]++([Iz ((13+uidx which%3))]++([Iz ((1+and3 id))]++([Iz 0]++([Iz 0])))))) (B:=([Value.string ⟨#[]⟩])) (D:=([Value.string ⟨#[]⟩]++([Value.string ⟨#[]⟩]))) (cs:=[.string pub]) (fS (A:=([Iz 9]++([Iz ((13+uidx which%3))]++([Iz ((1+and3 id))]++([Iz 0]++([Iz 0]++([.string pub]))))))) (B:=([Value.string ⟨#[]⟩])) (D:=([Value.string ⟨#[]⟩])) (cs:=[.string (shS msg 5000)]) (fS (A:=([Iz 9]++([Iz ((13+uidx which%3))]++([Iz ((1+and3 id))]++([Iz 0]++([Iz 0]++([.string pub]++([.string (shS msg 5000)])))))))) (B:=([Value.string ⟨#[]⟩])) (D:=([]:List Value)) (cs:=[.string sig]) (fS (A:=([Iz 9]++([Iz ((13+uidx which%3))]++([Iz ((1+and3 id))]++([Iz 0]))))) (B:=([Iz 0])) (D:=([.string pub]++([.string (shS msg 5000)]++([.string sig])))) (cs:=[Iz asn.toNat]) rfl))))))))) ?_
  refine LOps.step rfl (KAQ (first:=[]) (caps:=[]) (X:=[pB 1 pb fb c 64 mb tb (Pz d),gpI (yB fb 64 (fun i=>i) rest0 mb none tb none [] [dB d Z.1 Z.2 1])]) (RO:=[]) rfl en_28 rfl (Nb rfl) sR wK (fun w hH hd=>c_doVerify pb fb c 64 mb tb (Pz d) (fun i=>i) rest0 none none [] [dB d Z.1 Z.2 1] rfl (13+uidx which%3) (1+and3 id) asn.toNat pub (shS msg 5000) sig V X Y n R T E B AC AB h hk (by cases asn <;> decide) (by have:=shS_size msg 5000; omega) hpub hsig hg hG hV hA w hH hd) ?_)
  rintro _ _ _ ⟨rfl,rfl,rfl⟩
  refine oS (mk (KK zr_65) (fun b19=>?_));refine LOps.step rfl (sA rfl rfl sz_65 (by exact KCM AC ⟨#[]⟩ 0 AB) (hl:=by rfl) (h:=?_));refine KC (KB (KA (oM (oM ?_))));refine oS (cF rfl en_29 rfl (fun w hw=>c_s_GetE X Y n _ V pub w h hpub hg) ?_);refine oM ?_;refine oX ?_;refine oX ?_;refine oS (mk (KK zr_47) (fun b20=>?_));refine LOps.step rfl (sA rfl rfl sz_47 (by exact KAB _ _ _) (hl:=by exact KX _ _ _) (h:=?_));refine oA (KC (KB (KA (oM (oM ?_)))));refine oS (cF rfl en_17 rfl (fun w hw=>c_raw_Get2 _ V sig w h hsig) ?_);refine oM ?_;refine oX ?_;refine oX ?_;refine oS (mk (KK zr_37) (fun b22=>?_));refine LOps.step rfl (sA rfl rfl sz_37 (by exact KBV _ _) (hl:=by exact KAN _ _) (h:=?_));refine oA (KC ?_);refine KCW (α:=Unit) (fun _=>True) (fun _=>⟨[(13,Iz ((13+uidx which%3))),(14,Iz ((1+and3 id))),(16,.bool true),(18,.string (shS msg 5000)),(19,Pz b19),(20,Pz b20),(21,Iz n),(22,Pz b22),(23,Iz E)],[.blk b19 ⟨true,ansL AC ⟨#[]⟩ 0 AB,65,(0,0)⟩,.blk b20 ⟨true,ptL X Y false,47,(0,0)⟩,.blk b22 ⟨true,sgL R T,37,(0,0)⟩]⟩) ?_ ?_
  ·
   refine KB (KA (oM (KC ?_)))
   first|refine KQ rfl (fun h64=>?_) (fun h64=>?_)|refine KT rfl (fun h64=>?_) (fun h64=>?_)
   ·
    subst h64
    have hDE:=sgG_der hG
    refine KB (KA (oM ?_));refine oS (cF rfl en_18 rfl (fun w hw=>c_derGet sig R T E w hDE) ?_);refine oM ?_;refine oX ?_;refine oX ?_;refine oS (mk (KK zr_37) (fun b24=>?_));refine LOps.step rfl (sA rfl rfl sz_37 (by exact KBV _ _) (hl:=by exact KAN _ _) (h:=?_));refine oA (KC (KB (KA ?_)));refine oD (dL rfl (hv:=by exact KD u37 rfl sz_37)) ?_;refine LOps.step rfl (sA rfl rfl sz_37 (by exact KBV _ _) (hl:=by exact KAN _ _) (h:=?_));refine KC (KA (oM (oA (KC ?_))))
    exact ⟨(),trivial,Ka ⟨rfl,rfl,rfl,rfl,rfl,rfl,rfl,rfl,rfl,trivial⟩ mS⟩
   subst h64
   obtain ⟨rfl,rfl,rfl⟩:=sgG_raw hG
   refine KN ?_
   exact ⟨(),trivial,Ka ⟨rfl,rfl,rfl,rfl,rfl,rfl,rfl,rfl,rfl,trivial⟩ mS⟩
  rintro _ _
  refine KB (LCode.block (KB ?_))
  rcases hA with ⟨h1,rfl,rfl⟩|⟨rfl,h2,rfl,rfl⟩|⟨rfl,rfl,rfl,rfl⟩
  ·
   refine KA (oM ?_);refine oP (KAE rfl) (oA (KC ?_));refine KG rfl (KB (KA (oM ?_)));refine oS (cF rfl en_13 rfl (fun w hw=>c_Num _ w) ?_);refine oP (bT rfl rfl (KAW (b:=0)) om) (oA (KC ?_));refine KS rfl (KB (KA (oD (dL rfl (hv:=by exact KD u65 rfl sz_65)) ?_)));refine oP (KW pl_65 zr_65 rfl (fT (r':=([Iz 12]++([Value.string ⟨#[]⟩]++([Iz 0]++([Value.bool false]))))) (fS (A:=([]:List Value)) (B:=([Iz 0])) (D:=([Value.string ⟨#[]⟩]++([Iz 0]++([Value.bool false])))) (cs:=[Iz 12]) rfl))) ?_;refine oP (KI (KBv kr (fun w=>eq_ansT 12 ⟨#[]⟩ 0 false 10000 dc w) rfl rfl) (show _ = Value.bool true by rfl)) (oA (KC (KM ?_)));refine eN (.cons rfl .nil) ?_
   rfl
  ·
   refine KA (oM ?_);refine oP (KAE rfl) (oA (KC ?_));refine KG rfl (KB (KA (oM ?_)));refine oS (cF rfl en_13 rfl (fun w hw=>c_Num _ w) ?_);refine oP (bF rfl rfl (KAW (b:=0)) dc) (oA (KC ?_));refine KG rfl (KB (KA (oM ?_)));refine oS (cF rfl en_13 rfl (fun w hw=>c_Num _ w) ?_);refine oP (bT rfl rfl (KAW (b:=0)) om) (oA (KC ?_));refine KS rfl (KB (KA (oD (dL rfl (hv:=by exact KD u65 rfl sz_65)) ?_)));refine oP (KW pl_65 zr_65 rfl (fT (r':=([Iz 13]++([Value.string ⟨#[]⟩]++([Iz 0]++([Value.bool false]))))) (fS (A:=([]:List Value)) (B:=([Iz 0])) (D:=([Value.string ⟨#[]⟩]++([Iz 0]++([Value.bool false])))) (cs:=[Iz 13]) rfl))) ?_;refine oP (KI (KBv kr (fun w=>eq_ansT 13 ⟨#[]⟩ 0 false 10000 dc w) rfl rfl) (show _ = Value.bool true by rfl)) (oA (KC (KM ?_)));refine eN (.cons rfl .nil) ?_
   rfl
  refine KA (oM ?_);refine oP (KAE rfl) (oA (KC ?_));refine KG rfl (KB (KA (oM ?_)));refine oS (cF rfl en_13 rfl (fun w hw=>c_Num _ w) ?_);refine oP (bF rfl rfl (KAW (b:=0)) dc) (oA (KC ?_));refine KG rfl (KB (KA (oM ?_)));refine oS (cF rfl en_13 rfl (fun w hw=>c_Num _ w) ?_);refine oP (bF rfl rfl (KAW (b:=0)) dc) (oA (KC ?_));refine KG rfl (KN (KB (rD [] (aD 0 rfl (dL rfl (hv:=by exact KD u65 rfl sz_65)) ?_))));refine aM 1 ?_;refine aM 2 ?_;refine aD 3 rfl dNb ?_;refine aM 4 ?_;refine aD 5 rfl (dL rfl (hv:=by exact KD u37 rfl sz_37)) ?_;refine aO 6 rfl (cF rfl en_21 rfl (fun w hw=>hV w) ?_);refine aP 7 rfl (KW pl_65 zr_65 rfl (fT (r':=([Iz 0]++([Value.string ⟨#[]⟩]++([Iz 0]++([.bool AB]))))) (fS (A:=([Iz 0]++([Value.string ⟨#[]⟩]++([Iz 0])))) (B:=([Value.bool false])) (D:=([]:List Value)) (cs:=[.bool AB]) rfl))) ?_
  refine aP 8 rfl (KI (KBv kr (fun w=>eq_ansT 0 ⟨#[]⟩ 0 AB 10000 dc w) rfl rfl) (show _ = Value.bool true by rfl)) (aA 9 ?_);refine aE (KM (eN (.cons rfl .nil) ?_))
  rfl
end Go.Proofs.YtnpeokiboiclfaaGreat
set_option maxRecDepth 100000
namespace Go.Proofs.YtnpeokiboiclfaaGreat
open Go
def ioChars:List Char:=([104,97,114,110,101,115,115,32,57,55,98,53,54,100,57,56,97,53,52,98,49,48,50,99,50,101,100,55,53,99,99,52,51,51,49,54,48,51,50,97,56,102,57,48,57,52,49,55,100,98,48,101,102,57,50,48,56,102,50,49,57,57,48,56,54,55,101,99,51,51,51,51,32,99,117,116,32,97,116,32,99,117,114,118,101,116,47,99,117,114,118,101,116,116,111,112,46,84,111,112,70,111,114,109,115,32,99,117,114,118,101,116,47,99,117,114,118,101,116,116,111,112,46,84,111,112,67,117,114,118,101,115,32,99,117,114,118,101,116,47,99,117,114,118,101,116,116,111,112,46,84,111,112,76,101,103,97,99,121,32,99,117,114,118,101,116,47,99,117,114,118,101,116,116,111,112,46,84,111,112,73,109,112,111,114,116,115,32,99,117,114,118,101,116,47,99,117,114,118,101,116,116,111,112,46,84,111,112,86,101,114,105,102,105,101,100,32,99,117,114,118,101,116,47,99,117,114,118,101,116,116,111,112,46,84,111,112,84,105,110,121]:List Nat).map Char.ofNat
theorem io_lit:Tryz.prog.initOrder = String.ofList ioChars:=by kernel_rfl
theorem io_list:Tryz.prog.initOrder.toList = ioChars:=by rw [io_lit,String.toList_ofList]
def cutW:List Char:=([99,117,116]:List Nat).map Char.ofNat
def ioRest:List (List Char):=(wordsSigns ioChars).drop 3
theorem io_words:behindMainWord (wordsSigns ioChars) = cutW :: ioRest:=by kernel_rfl
theorem io_strip (r:List (List Char)):stripLifts liftWords (cutW :: r) = ([],cutW :: r):=by kernel_rfl
theorem no_later:Tryz.prog.laysLater = false:=by kernel_rfl
theorem no_reflect:Tryz.prog.bearsReflect = false:=by kernel_rfl
theorem door_fits:Tryz.prog.doorFits [] = true:=by kernel_rfl
theorem and2 {a b:Bool} (h:a = true) (k:b = true):(a && b) = true:=by rw [h,k]; rfl
theorem or_right {a b:Bool} (h:b = true):(a || b) = true:=by rw [h]; cases a <;> rfl
theorem cut_is : (cutW == "cut".toList) = true := by kernel_rfl
theorem cut_gc : (cutW == "gc".toList) = false := by kernel_rfl
theorem cut_spec : (cutW == "spec".toList) = false := by kernel_rfl
theorem cut_carried : (cutW == "carried".toList) = false := by kernel_rfl
theorem head_carried (r : List (List Char)) : ((cutW :: r).head? == some "carried".toList) = false := cut_carried
theorem enter_of (P:Program) {r:List (List Char)} (h:behindMainWord (wordsSigns P.initOrder.toList) = cutW :: r) (h1:P.laysLater = false) (h2:P.bearsReflect = false) (h3:P.doorFits [] = true):P.mayEnter = true:=by
  unfold Program.mayEnter
  rw [h]
  dsimp only
  refine or_right (and2 (and2 (and2 (and2 ?_ ?_) ?_) ?_) ?_)
  · rw [io_strip]; exact cut_is
  · rw [io_strip,h1]; rfl
  · rw [io_strip,h2]; rfl
  · rw [io_strip]; rfl
  · rw [io_strip]; exact h3
theorem lifts_of (P:Program) {r:List (List Char)} (h:behindMainWord (wordsSigns P.initOrder.toList) = cutW :: r):(false == P.liftsFinal) = true:=by
  have hl:P.headLifts = []:=by
    unfold Program.headLifts
    rw [h,io_strip]
    simp only [ite_self]
  unfold Program.liftsFinal
  rw [h,hl]
  dsimp only
  rw [head_carried,Bool.false_and]
  rfl
theorem make_of (P:Program) {r:List (List Char)} (h:behindMainWord (wordsSigns P.initOrder.toList) = cutW :: r):(P.make == some .cut) = true:=by
  have:P.make = some .cut:=by
    unfold Program.make
    rw [h]
    dsimp only
    rw [if_neg (by rw [cut_gc,cut_spec]; exact fun h=>by cases h),if_pos (by rw [cut_is]; rfl)]
  rw [this]; rfl
theorem io_all:behindMainWord (wordsSigns Tryz.prog.initOrder.toList) = cutW :: ioRest:=by rw [io_list,io_words]
theorem fact_enter:Tryz.prog.mayEnter = true:=enter_of _ io_all no_later no_reflect door_fits
theorem fact_lifts:(false == Tryz.prog.liftsFinal) = true:=lifts_of _ io_all
theorem fact_make:(Tryz.prog.make == some .cut) = true:=make_of _ io_all
theorem fact_laid:laidOutB Tryz.prog = true:=by kernel_rfl
theorem fact_maps:mapsRowed Tryz.prog = true:=by kernel_rfl
theorem fact_heard:Tryz.prog.stopsHeard = true:=by kernel_rfl
end Go.Proofs.YtnpeokiboiclfaaGreat
