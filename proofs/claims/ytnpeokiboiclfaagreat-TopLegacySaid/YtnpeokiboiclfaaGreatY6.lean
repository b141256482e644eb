/- Part 6 of what the proof leans on: a symbolic execution of the model, walks of the program's functions, and the mathematics. No condition. -/
import Derived.WalkKit
import Derived.Orders
import Derived.Laws.StructEq
import Derived.WalkSpells
import Derived.OrdersHeld
import Derived.KernelRfl
import Derived.Laws.Externs
import Derived.Laws.Bits64
import Derived.Laws.MakeOwn
import Derived.Laws.BytesString
import Derived.Carry
import Derived.WideShapes
import GoSem.Claim
import Derived.Test.YtnpeokiboiclfaaGreatProg
import Derived.Deep.Upon
import Derived.Shelf.Strings.Repeat
import Derived.Ground.NamesProg
import Derived.Lib.Agree
import Derived.Shelf.Strings.Builder1
import Derived.Laws.AppendOwn
import Derived.Lib.ConvBytes
import Derived.Laws.CopyRow
import Derived.MapKept
import Derived.Test.YtnpeokiboiclfaaGreatRows
import Derived.ProofKit
import Derived.OpenShut
import Derived.SizedLaws
import Derived.ChangeMaps5
import Derived.Test.YtnpeokiboiclfaaGreatY5
set_option linter.unusedVariables false
set_option linter.unusedSimpArgs false
set_option maxRecDepth 20000
namespace Go.Proofs.YtnpeokiboiclfaaGreat
open Go Go.RowKit
open Grp
def ansL (c:Nat) (o:ByteArray) (h:Nat) (b:Bool):List Value:=[.int .i64 (c:Int),.string o,.int .i64 (h:Int),.bool b]
def ansV (c:Nat) (o:ByteArray) (h:Nat) (b:Bool):Value:=.agg (ansL c o h b).toArray
def calL (op cv hs hd n:Nat) (a b c:ByteArray):List Value:=[.int .i64 (op:Int),.int .i64 (cv:Int),.int .i64 (hs:Int),.int .i64 (hd:Int),.int .i64 (n:Int),.string a,.string b,.string c]
theorem KBX (c:Nat) (o:ByteArray) (h:Nat) (b:Bool):KBT (ansL c o h b):=Km rfl (Km rfl (Km rfl (Km rfl Kz)))
theorem c_pCode (c:Nat) (w:World)  : CF Tryz.prog 61 [Iz c] w (ansV c ⟨#[]⟩ 0 false):=by
  refine KV (N:=5) (rs:=[.cell 2 65]) [] Tryz.func61 rfl Tryz.ntmps61 Tryz.results61 (Nb rfl) trivial rfl ?_
  refine KB (KA (oS (mk (KK zr_65) (fun b2=>?_))));refine KC (KB (KA (oM ?_)));refine oP (KX pl_65 zr_65 rfl (fT (r':=([Iz c]++([Value.string ⟨#[]⟩]++([Iz 0]++([Value.bool false]))))) (fS (A:=([]:List Value)) (B:=([Iz 0])) (D:=([Value.string ⟨#[]⟩]++([Iz 0]++([Value.bool false])))) (cs:=[Iz c]) rfl))) ?_;refine LOps.step rfl (sA rfl rfl sz_65 (by exact KBX c ⟨#[]⟩ 0 false) (hl:=by rfl) (h:=?_));refine KC (KN (eN (.cons ⟨_,_,_,rfl,mM,by exact KD u65 rfl sz_65⟩ .nil) ?_))
  rfl
theorem c_pNew  (w:World) (hH:∀ x,x∈([]++[]:List Item)→x.holds w) (hd:([]++[]:List Item).Pairwise Apart)  : Calls Tryz.prog 59 ([]:List Value).toArray w (fun e w'=>∃ (u:Value) (x':Item) (y':Item),(∃ pb fb c mb tb rest,64+rest.length = c∧u = Pz pb∧x' = .blk pb ⟨true,[Iz 0,.pointer none,.slice (some ⟨fb,0,none⟩) 64 c,.map (some mb),trV (some tb)],124,(0,0)⟩∧y' = gpI [.blk fb ⟨true,vec .i64 64 (fun i=>i)++rest,3,(0,0)⟩,mpI mb none,trI (some tb) none []])∧e = .returned u∧Outcome w [] [x',y'] w'):=by
  refine KAO [] (N:=8) (rs:=[.tmp 0]) Tryz.func59 rfl Tryz.ntmps59 Tryz.results59 (Nb rfl) hH hd rfl rfl ?_
  refine KB (KA (oA (KC (KB (KA ?_)))));refine oS (cC rfl en_101 rfl (fun w hw=>bringsC (c_trNew w) _) ?_)
  rintro _ _ ⟨tb,rfl,rfl⟩
  refine oP (KX pl_124 zr_124 rfl (fT (r':=([Iz 0]++([Value.pointer none]++([Value.slice none 0 0]++([Value.map none]++([trV (some tb)])))))) (fS (A:=([Iz 0]++([Value.pointer none]++([Value.slice none 0 0]++([Value.map none]))))) (B:=([Value.pointer none])) (D:=([]:List Value)) (cs:=[trV (some tb)]) rfl))) ?_;refine oS (mB (fun b4=>?_));refine oA (KC (KB (KA (oM ?_))));refine LOps.step rfl (LStepW.callM3 (first:=[]) (caps:=[]) rfl en_102 rfl (Nb rfl) sR wK (fun w hH hd=>c_pForget b4 (Iz 0) (.pointer none) (.slice none 0 0) (.map none) (trV (some tb)) w hH hd) ?_)
  rintro _ _ _ _ ⟨fb,c,mb,rest,hcap,rfl,rfl,rfl,rfl⟩
  refine KC (KB (LCode.cls [.blk fb ⟨true,vec .i64 64 (fun i=>i)++rest,3,(0,0)⟩,mpI mb none,trI (some tb) none []] sR rfl ?_));refine KA (oM (oA (KC (KN ?_))));refine ⟨[_],.cons rfl .nil,fun a w' hr=>⟨_,_,_,⟨b4,fb,c,mb,tb,rest,hcap,rfl,rfl,rfl⟩,rfl,hr.out mS rfl⟩⟩
theorem c_pPrivL (cb op cv ha hh nn:Nat) (ca cc cx:ByteArray) (V:Cv) (w:World) (hcb:(Item.blk cb ⟨false,calL op cv ha hh nn ca cc cx,68,(0,0)⟩).holds w) (h:cvI ((cv:Nat):Int) = some V) (hl:legB V = true):CF Tryz.prog 150 [Pz cb] w (.tuple #[.pointer none,Iz 15]):=by
  obtain ⟨hok,hid⟩:=KAw h
  refine KV (N:=20) (rs:=[.tmp 2,.tmp 3]) [.blk cb ⟨false,calL op cv ha hh nn ca cc cx,68,(0,0)⟩] Tryz.func150 rfl Tryz.ntmps150 Tryz.results150 (Nb rfl) ⟨hcb,trivial⟩ rfl ?_
  refine KB (KA (oA ?_));refine oP (KO (v:=Iz 0) rfl) (KC (KB (KA (oM ?_))));refine oP (KF rfl) (oP (KE (o':=1) u68 rfl rfl rfl sz_3 dc) (oD (dL rfl (hv:=KI u3 rfl gL)) ?_));refine oS (oOpen h rfl rfl (fun b f bd=>?_));refine oA (KC (KB (LCode.block (KB (KA (oM ?_))))));refine oP (KJ (KAI u81 rfl rfl) (show _ = Value.bool false from rfl)) (oA (KC ?_));refine KH rfl (KB (KA (oM ?_)));refine oP (KF rfl) (oP (KE (o':=0) u100 rfl rfl rfl sz_53 dc) (oP (KE (o':=58) u53 rfl rfl rfl sz_4 dc) (oD (dL rfl (hv:=KI u4 rfl (by exact cvC_gt_leg _ _ _ _ _ _ _ _ _ _ _ _ _))) ?_)));refine oP (KJ (KO rfl) (show _ = Value.bool true by rw [hl])) (KC (KS rfl (KB (KA (oA ?_)))));refine oP (KO (v:=Iz 15) rfl) (KC (KN (eN (.cons rfl (.cons rfl .nil)) ?_)))
  rfl
open Grp
open Grp
theorem c_pStart (pb fb c n mb tb:Nat) (cb op cv ha hh nn:Nat) (ca cc cx:ByteArray) (h1:16≤ca.size) (h2:ca.size≤256) (h3:cc.size≤256) (h4:cx.size≤256) (w:World) (hH:∀ x,x∈([.blk pb ⟨true,[Iz 0,.pointer none,.slice (some ⟨fb,0,none⟩) n c,.map (some mb),trV (some tb)],124,(0,0)⟩]++[.blk cb ⟨false,calL op cv ha hh nn ca cc cx,68,(0,0)⟩]:List Item)→x.holds w) (hd:([.blk pb ⟨true,[Iz 0,.pointer none,.slice (some ⟨fb,0,none⟩) n c,.map (some mb),trV (some tb)],124,(0,0)⟩]++[.blk cb ⟨false,calL op cv ha hh nn ca cc cx,68,(0,0)⟩]:List Item).Pairwise Apart)  : Calls Tryz.prog 103 ([Pz pb,Pz cb]:List Value).toArray w (fun e w'=>∃ (u:Value) (x':Item) (y':Item),(∃ d,u = ansV 0 ⟨#[]⟩ 0 false∧x' = .blk pb ⟨true,[Iz 0,Pz d,.slice (some ⟨fb,0,none⟩) n c,.map (some mb),trV (some tb)],124,(0,0)⟩∧y' = .blk d ⟨true,gnL 2 (upd 2 (ca++cc++cx) (toS (List.replicate (hsize 2) 0),toS (List.replicate (hsize 2) 1))).1 (upd 2 (ca++cc++cx) (toS (List.replicate (hsize 2) 0),toS (List.replicate (hsize 2) 1))).2 (1),79,(0,0)⟩)∧e = .returned u∧Outcome w [.blk pb ⟨true,[Iz 0,.pointer none,.slice (some ⟨fb,0,none⟩) n c,.map (some mb),trV (some tb)],124,(0,0)⟩] [x',y'] w'):=by
  refine KAO [.blk pb ⟨true,[Iz 0,.pointer none,.slice (some ⟨fb,0,none⟩) n c,.map (some mb),trV (some tb)],124,(0,0)⟩,.blk cb ⟨false,calL op cv ha hh nn ca cc cx,68,(0,0)⟩] (N:=31) (rs:=[.cell 4 65]) Tryz.func103 rfl Tryz.ntmps103 Tryz.results103 (Nb rfl) hH hd rfl rfl ?_
  refine KB (KA (oS (mk (KK zr_65) (fun b4=>?_))));refine KC (KB (rD [12] (aM 0 ?_)));refine aP 1 rfl (KF rfl) (aP 2 rfl (KE (o':=5) u68 rfl rfl rfl sz_9 dc) (aD 3 rfl (dL rfl (hv:=KI u9 rfl gL)) ?_));refine aM 4 ?_;refine aP 5 rfl (KF rfl) (aP 6 rfl (KE (o':=6) u68 rfl rfl rfl sz_9 dc) (aD 7 rfl (dL rfl (hv:=KI u9 rfl gL)) ?_));refine aM 8 ?_;refine aP 9 rfl (KF rfl) (aP 10 rfl (KE (o':=7) u68 rfl rfl rfl sz_9 dc) (aD 11 rfl (dL rfl (hv:=KI u9 rfl gL)) ?_));refine aL 12 rfl (Kg (first:=[]) (caps:=[]) (X:=[]) (RO:=[]) rfl en_11 rfl (Nb rfl) sR wK (fun w hH hd=>c_dNew 2 dc ca cc cx (show 16≤_ from h1) h2 h3 h4 w hH hd) ?_)
  rintro _ _ ⟨d,rfl,rfl⟩
  refine aM 13 ?_;refine aP 14 rfl (Det.extract rfl rfl) (aP 15 rfl (Det.extract rfl rfl) (aA 16 ?_));refine aA 17 ?_;refine aE (KB (KB (KA (oM ?_))));refine oP (bF rfl rfl (KAn (b:=0)) dc) (KC (KH rfl (KM (KB (KA (oM (oM ?_)))))));refine oP (KF rfl) (oP (KE (o':=1) u124 rfl rfl rfl sz_24 dc) ?_);refine LOps.step rfl (KZ (cs':=[Iz 0,Pz d,.slice (some ⟨fb,0,none⟩) n c,.map (some mb),trV (some tb)]) rfl rfl rfl sz_24 mT (by show 1<5; decide) rfl (by simp) ?_);refine KC (KB (KA (oS (cF rfl en_61 rfl (fun w hw=>c_pCode 0 w) ?_))));refine LOps.step rfl (sA rfl rfl sz_65 (by exact KBX 0 (⟨#[]⟩) 0 false) (hl:=by rfl) (h:=?_));refine KC (KN (⟨[_],.cons ⟨_,_,_,rfl,mM,by exact KD u65 rfl sz_65⟩ .nil,fun a w' hr=>⟨_,_,_,⟨d,rfl,rfl,rfl⟩,rfl,hr.out mS rfl⟩⟩))
theorem c_pSelf (pb fb c n mb tb d:Nat) (cb op cv ha hh:Nat) (ca cc cx:ByteArray) (w:World) (hH:∀ x,x∈([.blk pb ⟨true,[Iz 0,Pz d,.slice (some ⟨fb,0,none⟩) n c,.map (some mb),trV (some tb)],124,(0,0)⟩]++[.blk cb ⟨false,calL op cv ha hh 0 ca cc cx,68,(0,0)⟩]:List Item)→x.holds w) (hd:([.blk pb ⟨true,[Iz 0,Pz d,.slice (some ⟨fb,0,none⟩) n c,.map (some mb),trV (some tb)],124,(0,0)⟩]++[.blk cb ⟨false,calL op cv ha hh 0 ca cc cx,68,(0,0)⟩]:List Item).Pairwise Apart)  : Calls Tryz.prog 104 ([Pz pb,Pz cb]:List Value).toArray w (fun e w'=>∃ (u:Value) (x':Item),(u = ansV 0 ⟨#[]⟩ 0 false∧x' = .blk pb ⟨true,[Iz 1,Pz d,.slice (some ⟨fb,0,none⟩) n c,.map (some mb),trV (some tb)],124,(0,0)⟩)∧e = .returned u∧Outcome w [.blk pb ⟨true,[Iz 0,Pz d,.slice (some ⟨fb,0,none⟩) n c,.map (some mb),trV (some tb)],124,(0,0)⟩] [x'] w'):=by
  refine KAO [.blk pb ⟨true,[Iz 0,Pz d,.slice (some ⟨fb,0,none⟩) n c,.map (some mb),trV (some tb)],124,(0,0)⟩,.blk cb ⟨false,calL op cv ha hh 0 ca cc cx,68,(0,0)⟩] (N:=41) (rs:=[.cell 4 65]) Tryz.func104 rfl Tryz.ntmps104 Tryz.results104 (Nb rfl) hH hd rfl rfl ?_
  refine KB (KA (oS (mk (KK zr_65) (fun b4=>?_))));refine KC (KB (KB (KA (oM ?_))));refine oP (KF rfl) (oP (KE (o':=1) u124 rfl rfl rfl sz_24 dc) (oD (dL rfl (hv:=KI u24 rfl (rfl))) ?_));refine oP (KJ (KAI u24 rfl rfl) (show _ = Value.bool false from rfl)) (KC (KH rfl (KM (KB (KA (oM ?_))))));refine oP (KF rfl) (oP (KE (o':=4) u68 rfl rfl rfl sz_3 dc) (oD (dL rfl (hv:=KI u3 rfl gL)) ?_));refine oS (cF rfl en_148 rfl (fun w hw=>c_stRun w) ?_);refine oM ?_;refine oX ?_;refine oX ?_;refine oA (oA (KC (KB (LCode.block (KB (KA (oM ?_)))))));refine oP (bF rfl rfl (KAn (b:=0)) dc) (oA (KC ?_));refine KH rfl (KB (KA (oM ?_)));refine oP (bF rfl rfl (KAb (b:=0)) dc) (oA (KC ?_));refine KH rfl (KM (KB (KA (oM ?_))));refine oP (KF rfl) (oP (KE (o':=0) u124 rfl rfl rfl sz_3 dc) ?_);refine LOps.step rfl (KZ (cs':=[Iz 1,Pz d,.slice (some ⟨fb,0,none⟩) n c,.map (some mb),trV (some tb)]) rfl rfl rfl sz_3 mT (by show 0<5; decide) rfl (by simp) ?_)
  refine KC (KB (KA (oS (cF rfl en_61 rfl (fun w hw=>c_pCode 0 w) ?_))));refine LOps.step rfl (sA rfl rfl sz_65 (by exact KBX 0 (⟨#[]⟩) 0 false) (hl:=by rfl) (h:=?_));refine KC (KN (⟨[_],.cons ⟨_,_,_,rfl,mM,by exact KD u65 rfl sz_65⟩ .nil,fun a w' hr=>⟨_,_,⟨rfl,rfl⟩,rfl,hr.out mS rfl⟩⟩))
def opsL:List Value:=[.func (.func 103) #[] #[],.func (.func 104) #[] #[],.func (.func 105) #[] #[],.func (.func 106) #[] #[],.func (.func 107) #[] #[],.func (.func 108) #[] #[],.func (.func 109) #[] #[],.func (.func 110) #[] #[],.func (.func 111) #[] #[],.func (.func 112) #[] #[],.func (.func 113) #[] #[],.func (.func 114) #[] #[],.func (.func 115) #[] #[],.func (.func 116) #[] #[],.func (.func 117) #[] #[],.func (.func 118) #[] #[]]
theorem c_pOps  (w:World) (hH:∀ x,x∈([]++[]:List Item)→x.holds w) (hd:([]++[]:List Item).Pairwise Apart)  : Calls Tryz.prog 60 ([]:List Value).toArray w (fun e w'=>∃ (u:Value) (x':Item),(∃ b,u = .slice (some ⟨b,0,none⟩) 16 16∧x' = .blk b ⟨true,opsL,126,(0,0)⟩)∧e = .returned u∧Outcome w [] [x'] w'):=by
  refine KAO [] (N:=2) (rs:=[.tmp 0]) Tryz.func60 rfl Tryz.ntmps60 Tryz.results60 (Nb rfl) hH hd rfl rfl ?_
  refine KB (KA (oA (KC (KB (KA ?_)))));refine oS (mk (KAP u118 inf_126 rfl rfl rfl rfl dc rfl) (fun b1=>?_));refine oA (KC (KN ?_));refine ⟨[_],.cons rfl .nil,fun a w' hr=>⟨_,_,⟨b1,rfl,rfl⟩,rfl,hr.out mS rfl⟩⟩
theorem c_pDo (pb fb c n mb tb:Nat) (dv:Value) (Y:List Item) (hY:Y.all (·.wr) = true) (Q:Nat→ByteArray→Nat→Bool→Item→List Item→Prop) (fo k cv ha hh nn:Nat) (ca cc cx:ByteArray) (he:KY Tryz.prog fo) (ho:opsL[k]? = some (.func (.func fo) #[] #[])) (hk:k<16) (hop:∀ (cb:Nat) (w:World),(∀ x,x∈((Item.blk pb ⟨true,[Iz 1,dv,.slice (some ⟨fb,0,none⟩) n c,.map (some mb),trV (some tb)],124,(0,0)⟩) :: Y)++[Item.blk cb ⟨false,calL k cv ha hh nn ca cc cx,68,(0,0)⟩]→x.holds w)→(((Item.blk pb ⟨true,[Iz 1,dv,.slice (some ⟨fb,0,none⟩) n c,.map (some mb),trV (some tb)],124,(0,0)⟩) :: Y)++[Item.blk cb ⟨false,calL k cv ha hh nn ca cc cx,68,(0,0)⟩]).Pairwise Apart→CallsM Tryz.prog fo [Pz pb,Pz cb] ((Item.blk pb ⟨true,[Iz 1,dv,.slice (some ⟨fb,0,none⟩) n c,.map (some mb),trV (some tb)],124,(0,0)⟩) :: Y) w (fun v X'=>∃ p' Y',X' = p' :: Y'∧∃ c o h b,v = ansV c o h b∧p'.wr = true∧Q c o h b p' Y')) (w:World) (hH:∀ x,x∈([.blk pb ⟨true,[Iz 1,dv,.slice (some ⟨fb,0,none⟩) n c,.map (some mb),trV (some tb)],124,(0,0)⟩,gpI Y]++[]:List Item)→x.holds w) (hd:([.blk pb ⟨true,[Iz 1,dv,.slice (some ⟨fb,0,none⟩) n c,.map (some mb),trV (some tb)],124,(0,0)⟩,gpI Y]++[]:List Item).Pairwise Apart)  : Calls Tryz.prog 28 ([Pz pb,(.agg (calL k cv ha hh nn ca cc cx).toArray:Value)]:List Value).toArray w (fun e w'=>∃ (u:Value) (x':Item) (y':Item),(∃ c o h b Y',u = ansV c o h b∧Q c o h b x' Y'∧y' = gpI Y')∧e = .returned u∧Outcome w [.blk pb ⟨true,[Iz 1,dv,.slice (some ⟨fb,0,none⟩) n c,.map (some mb),trV (some tb)],124,(0,0)⟩,gpI Y] [x',y'] w'):=by
  refine KAO [.blk pb ⟨true,[Iz 1,dv,.slice (some ⟨fb,0,none⟩) n c,.map (some mb),trV (some tb)],124,(0,0)⟩,gpI Y] (N:=64) (rs:=[.cell 4 65]) Tryz.func28 rfl Tryz.ntmps28 Tryz.results28 (Nb rfl) hH hd rfl rfl ?_
  refine KB (KA (oS (mB (fun b3=>?_))));refine oS (mk (KK zr_65) (fun b4=>?_));refine KC (KB (KA (LOps.step rfl (Kg (first:=[]) (caps:=[]) (X:=[]) (RO:=[]) rfl en_60 rfl (Nb rfl) sR wK (fun w hH hd=>c_pOps w hH hd) ?_))))
  rintro _ _ ⟨ob,rfl,rfl⟩
  refine oA (KC (KB (LCode.block (KB (KA (oM ?_))))));refine oP (KJ (KAI u61 rfl rfl) (show _ = Value.bool false from rfl)) (oA (KC ?_));refine KH rfl (KB (KA (oP (KE (o':=0) u68 rfl rfl rfl sz_3 dc) (oD (dL rfl (hv:=KI u3 rfl gL)) ?_))));refine oP (bF rfl rfl (KAA (b:=0)) om) (oM ?_);refine oGP (KE (o':=0) u68 rfl rfl rfl sz_3 dc) (Kt rfl rfl (dL rfl (hv:=KI u3 rfl gL)) (Nb rfl) ?_);refine oGM ?_;refine oGP (KBc u118 rfl) (oGP (bF rfl rfl KBf om) (oP (KT rfl rfl) (oA (KC ?_))));refine KH rfl (KB (KA (oM ?_)));refine oP (KF rfl) (oP (KE (o':=0) u124 rfl rfl rfl sz_3 dc) (oD (dL rfl (hv:=KI u3 rfl (rfl))) ?_));refine oP (bF rfl rfl (Ku (b:=2)) dc) (oM ?_);refine oK (oK (oK (oP (KT rfl rfl) (oA (KC ?_)))));refine KH rfl (KB (KA (oM ?_)));refine oP (KF rfl) (oP (KE (o':=0) u124 rfl rfl rfl sz_3 dc) (oD (dL rfl (hv:=KI u3 rfl (rfl))) ?_))
  refine oP (bF rfl rfl (Ku (b:=0)) dc) (oM ?_);refine oK (oK (oK (oP (KT rfl rfl) (oM ?_))));refine oK (oK (oK (oP (KT rfl rfl) (oM ?_))));refine oK (oK (oK (oP (KT rfl rfl) (oA (KC ?_)))));refine KH rfl (KM (KB (KA (oM ?_))));refine oP (KE (o':=0) u68 rfl rfl rfl sz_3 dc) (oD (dL rfl (hv:=KI u3 rfl gL)) ?_);refine oP (KAF u118 sz_126 rfl rfl om) (oD (dL rfl (hv:=KI u126 rfl (by exact ho))) ?_);refine oM ?_;refine LOps.step rfl (KAJ (Post:=fun v p' g'=>∃ Y' c o h b,g' = gpI Y'∧v = ansV c o h b∧p'.wr = true∧Q c o h b p' Y') (X:=[.blk pb ⟨true,[Iz 1,dv,.slice (some ⟨fb,0,none⟩) n c,.map (some mb),trV (some tb)],124,(0,0)⟩,gpI Y]) (RO:=[.blk b3 ⟨false,calL k cv ha hh nn ca cc cx,68,(0,0)⟩]) (first:=[]) (caps:=[]) rfl he rfl (Nb rfl) sR wK (fun w hH hd=>(CallsM.grp (Q:=fun v p' Y'=>∃ c o h b,v = ansV c o h b∧p'.wr = true∧Q c o h b p' Y') hY rfl (hop b3) hH hd).mono fun e w' ⟨v,p',Y',⟨c,o,h,b,hv,hw',hq⟩,he',ho⟩=>⟨v,p',gpI Y',⟨Y',c,o,h,b,rfl,hv,hw',hq⟩,he',ho⟩) ?_)
  rintro _ p1 _ ⟨Y1,c1,o1,h1,b1,rfl,rfl,hp1,hq1⟩
  refine LOps.step rfl (sA rfl rfl sz_65 (by exact KBX _ _ _ _) (hl:=by rfl) (h:=?_));refine KC (KN ?_);refine ⟨[_],.cons ⟨_,_,_,rfl,mM,by exact KD u65 rfl sz_65⟩ .nil,fun a w' hr=>⟨_,_,_,⟨c1,o1,h1,b1,Y1,rfl,hq1,rfl⟩,rfl,hr.out mS (by simp [hp1]; rfl)⟩⟩
theorem c_pDo0 (pb fb c n mb tb:Nat) (dv:Value) (Y:List Item) (hY:Y.all (·.wr) = true) (Q:Nat→ByteArray→Nat→Bool→Item→List Item→Prop) (fo k cv ha hh nn:Nat) (ca cc cx:ByteArray) (he:KY Tryz.prog fo) (ho:opsL[k]? = some (.func (.func fo) #[] #[])) (hk:k = 0∨k = 1) (hop:∀ (cb:Nat) (w:World),(∀ x,x∈((Item.blk pb ⟨true,[Iz 0,dv,.slice (some ⟨fb,0,none⟩) n c,.map (some mb),trV (some tb)],124,(0,0)⟩) :: Y)++[Item.blk cb ⟨false,calL k cv ha hh nn ca cc cx,68,(0,0)⟩]→x.holds w)→(((Item.blk pb ⟨true,[Iz 0,dv,.slice (some ⟨fb,0,none⟩) n c,.map (some mb),trV (some tb)],124,(0,0)⟩) :: Y)++[Item.blk cb ⟨false,calL k cv ha hh nn ca cc cx,68,(0,0)⟩]).Pairwise Apart→CallsM Tryz.prog fo [Pz pb,Pz cb] ((Item.blk pb ⟨true,[Iz 0,dv,.slice (some ⟨fb,0,none⟩) n c,.map (some mb),trV (some tb)],124,(0,0)⟩) :: Y) w (fun v X'=>∃ p' Y',X' = p' :: Y'∧∃ c o h b,v = ansV c o h b∧p'.wr = true∧Q c o h b p' Y')) (w:World) (hH:∀ x,x∈([.blk pb ⟨true,[Iz 0,dv,.slice (some ⟨fb,0,none⟩) n c,.map (some mb),trV (some tb)],124,(0,0)⟩,gpI Y]++[]:List Item)→x.holds w) (hd:([.blk pb ⟨true,[Iz 0,dv,.slice (some ⟨fb,0,none⟩) n c,.map (some mb),trV (some tb)],124,(0,0)⟩,gpI Y]++[]:List Item).Pairwise Apart)  : Calls Tryz.prog 28 ([Pz pb,(.agg (calL k cv ha hh nn ca cc cx).toArray:Value)]:List Value).toArray w (fun e w'=>∃ (u:Value) (x':Item) (y':Item),(∃ c o h b Y',u = ansV c o h b∧Q c o h b x' Y'∧y' = gpI Y')∧e = .returned u∧Outcome w [.blk pb ⟨true,[Iz 0,dv,.slice (some ⟨fb,0,none⟩) n c,.map (some mb),trV (some tb)],124,(0,0)⟩,gpI Y] [x',y'] w'):=by
  refine KAO [.blk pb ⟨true,[Iz 0,dv,.slice (some ⟨fb,0,none⟩) n c,.map (some mb),trV (some tb)],124,(0,0)⟩,gpI Y] (N:=64) (rs:=[.cell 4 65]) Tryz.func28 rfl Tryz.ntmps28 Tryz.results28 (Nb rfl) hH hd rfl rfl ?_
  refine KB (KA (oS (mB (fun b3=>?_))));refine oS (mk (KK zr_65) (fun b4=>?_));refine KC (KB (KA (LOps.step rfl (Kg (first:=[]) (caps:=[]) (X:=[]) (RO:=[]) rfl en_60 rfl (Nb rfl) sR wK (fun w hH hd=>c_pOps w hH hd) ?_))))
  rintro _ _ ⟨ob,rfl,rfl⟩
  refine oA (KC (KB (LCode.block (KB (KA (oM ?_))))));refine oP (KJ (KAI u61 rfl rfl) (show _ = Value.bool false from rfl)) (oA (KC ?_));refine KH rfl (KB (KA (oP (KE (o':=0) u68 rfl rfl rfl sz_3 dc) (oD (dL rfl (hv:=KI u3 rfl gL)) ?_))));refine oP (bF rfl rfl (KAA (b:=0)) om) (oM ?_);refine oGP (KE (o':=0) u68 rfl rfl rfl sz_3 dc) (Kt rfl rfl (dL rfl (hv:=KI u3 rfl gL)) (Nb rfl) ?_);refine oGM ?_;refine oGP (KBc u118 rfl) (oGP (bF rfl rfl KBf om) (oP (KT rfl rfl) (oA (KC ?_))));refine KH rfl (KB (KA (oM ?_)));refine oP (KF rfl) (oP (KE (o':=0) u124 rfl rfl rfl sz_3 dc) (oD (dL rfl (hv:=KI u3 rfl (rfl))) ?_));refine oP (bF rfl rfl (Ku (b:=2)) dc) (oM ?_);refine oK (oK (oK (oP (KT rfl rfl) (oA (KC ?_)))));refine KH rfl (KB ?_)
  rcases hk with hk|hk
  ·
   refine KA (oM ?_);refine oP (KF rfl) (oP (KE (o':=0) u124 rfl rfl rfl sz_3 dc) (oD (dL rfl (hv:=KI u3 rfl (rfl))) ?_));refine oP (bT rfl rfl (Ku (b:=0)) dc) (oM ?_);refine oGP (KE (o':=0) u68 rfl rfl rfl sz_3 dc) (Kt rfl rfl (dL rfl (hv:=KI u3 rfl gL)) (Nb rfl) ?_);refine oGP (bF rfl rfl (KAn (b:=0)) om) (oP (Kd rfl rfl) (oM ?_));refine oK (oK (oK (oP (KT rfl rfl) (oM ?_))));refine oK (oK (oK (oP (KT rfl rfl) (oA (KC ?_)))));refine KH rfl (KM (KB (KA (oM ?_))));refine oP (KE (o':=0) u68 rfl rfl rfl sz_3 dc) (oD (dL rfl (hv:=KI u3 rfl gL)) ?_);refine oP (KAF u118 sz_126 rfl rfl om) (oD (dL rfl (hv:=KI u126 rfl (by exact ho))) ?_);refine oM ?_;refine LOps.step rfl (KAJ (Post:=fun v p' g'=>∃ Y' c o h b,g' = gpI Y'∧v = ansV c o h b∧p'.wr = true∧Q c o h b p' Y') (X:=[.blk pb ⟨true,[Iz 0,dv,.slice (some ⟨fb,0,none⟩) n c,.map (some mb),trV (some tb)],124,(0,0)⟩,gpI Y]) (RO:=[.blk b3 ⟨false,calL k cv ha hh nn ca cc cx,68,(0,0)⟩]) (first:=[]) (caps:=[]) rfl he rfl (Nb rfl) sR wK (fun w hH hd=>(CallsM.grp (Q:=fun v p' Y'=>∃ c o h b,v = ansV c o h b∧p'.wr = true∧Q c o h b p' Y') hY rfl (hop b3) hH hd).mono fun e w' ⟨v,p',Y',⟨c,o,h,b,hv,hw',hq⟩,he',ho⟩=>⟨v,p',gpI Y',⟨Y',c,o,h,b,rfl,hv,hw',hq⟩,he',ho⟩) ?_)
   rintro _ p1 _ ⟨Y1,c1,o1,h1,b1,rfl,rfl,hp1,hq1⟩
   refine LOps.step rfl (sA rfl rfl sz_65 (by exact KBX _ _ _ _) (hl:=by rfl) (h:=?_));refine KC (KN ?_);refine ⟨[_],.cons ⟨_,_,_,rfl,mM,by exact KD u65 rfl sz_65⟩ .nil,fun a w' hr=>⟨_,_,_,⟨c1,o1,h1,b1,Y1,rfl,hq1,rfl⟩,rfl,hr.out mS (by simp [hp1]; rfl)⟩⟩
  refine KA (oM ?_);refine oP (KF rfl) (oP (KE (o':=0) u124 rfl rfl rfl sz_3 dc) (oD (dL rfl (hv:=KI u3 rfl (rfl))) ?_));refine oP (bT rfl rfl (Ku (b:=0)) dc) (oM ?_);refine oGP (KE (o':=0) u68 rfl rfl rfl sz_3 dc) (Kt rfl rfl (dL rfl (hv:=KI u3 rfl gL)) (Nb rfl) ?_);refine oGP (bT rfl rfl (KAn (b:=0)) om) (oP (Kd rfl rfl) (oM ?_));refine oGP (KE (o':=0) u68 rfl rfl rfl sz_3 dc) (Kt rfl rfl (dL rfl (hv:=KI u3 rfl gL)) (Nb rfl) ?_);refine oGP (bF rfl rfl (KAn (b:=1)) om) (oP (Kd rfl rfl) (oM ?_));refine oK (oK (oK (oP (KT rfl rfl) (oA (KC ?_)))));refine KH rfl (KM (KB (KA (oM ?_))));refine oP (KE (o':=0) u68 rfl rfl rfl sz_3 dc) (oD (dL rfl (hv:=KI u3 rfl gL)) ?_);refine oP (KAF u118 sz_126 rfl rfl om) (oD (dL rfl (hv:=KI u126 rfl (by exact ho))) ?_);refine oM ?_
  refine LOps.step rfl (KAJ (Post:=fun v p' g'=>∃ Y' c o h b,g' = gpI Y'∧v = ansV c o h b∧p'.wr = true∧Q c o h b p' Y') (X:=[.blk pb ⟨true,[Iz 0,dv,.slice (some ⟨fb,0,none⟩) n c,.map (some mb),trV (some tb)],124,(0,0)⟩,gpI Y]) (RO:=[.blk b3 ⟨false,calL k cv ha hh nn ca cc cx,68,(0,0)⟩]) (first:=[]) (caps:=[]) rfl he rfl (Nb rfl) sR wK (fun w hH hd=>(CallsM.grp (Q:=fun v p' Y'=>∃ c o h b,v = ansV c o h b∧p'.wr = true∧Q c o h b p' Y') hY rfl (hop b3) hH hd).mono fun e w' ⟨v,p',Y',⟨c,o,h,b,hv,hw',hq⟩,he',ho⟩=>⟨v,p',gpI Y',⟨Y',c,o,h,b,rfl,hv,hw',hq⟩,he',ho⟩) ?_)
  rintro _ p1 _ ⟨Y1,c1,o1,h1,b1,rfl,rfl,hp1,hq1⟩
  refine LOps.step rfl (sA rfl rfl sz_65 (by exact KBX _ _ _ _) (hl:=by rfl) (h:=?_));refine KC (KN ?_);refine ⟨[_],.cons ⟨_,_,_,rfl,mM,by exact KD u65 rfl sz_65⟩ .nil,fun a w' hr=>⟨_,_,_,⟨c1,o1,h1,b1,Y1,rfl,hq1,rfl⟩,rfl,hr.out mS (by simp [hp1]; rfl)⟩⟩
abbrev pB (s pb fb c n mb tb:Nat) (dv:Value):Item:=.blk pb ⟨true,[Iz s,dv,.slice (some ⟨fb,0,none⟩) n c,.map (some mb),trV (some tb)],124,(0,0)⟩
abbrev rW (fb n:Nat) (f:Nat→Nat) (rest:List Value):Item:=.blk fb ⟨true,vec .i64 n f++rest,3,(0,0)⟩
abbrev cB (cb op cv ha hh nn:Nat) (ca cc cx:ByteArray):Item:=.blk cb ⟨false,calL op cv ha hh nn ca cc cx,68,(0,0)⟩
abbrev dB (d:Nat) (K U:ByteArray) (n:Nat):Item:=.blk d ⟨true,gnL 2 K U (n),79,(0,0)⟩
abbrev DoR (w:World) (pb:Nat) (cs:List Value) (p:Item) (Y:List Item) (Q:Value→Item→Item→Prop):Prop :=
  Calls Tryz.prog 28 ([Pz pb,.agg cs.toArray]:List Value).toArray w (fun e w'=>∃ (u:Value) (x' y':Item),Q u x' y'∧e = .returned u∧Outcome w [p,gpI Y] [x',y'] w')
theorem wkCB {R:List Item} {cb op cv ha hh nn:Nat} {ca cc cx:ByteArray}:Weaks (R++[cB cb op cv ha hh nn ca cc cx]) [cB cb op cv ha hh nn ca cc cx]:=Weaks.cons (List.mem_append.2 (.inr (.head _))) Weak.blk (Weaks.nil _)
theorem c_doStart (pb fb c n mb tb : Nat) (Y : List Item) (hY : Y.all (·.wr) = true) (et : ByteArray) (h1 : 16 ≤ et.size) (h2 : et.size ≤ 256) (w : World) (hH : ∀ x, x ∈ ([pB 0 pb fb c n mb tb (.pointer none), gpI Y] ++ [] : List Item) → x.holds w) (hd : ([pB 0 pb fb c n mb tb (.pointer none), gpI Y] ++ [] : List Item).Pairwise Apart) :
    DoR w pb (calL 0 0 0 0 0 et ⟨#[]⟩ ⟨#[]⟩) (pB 0 pb fb c n mb tb (.pointer none)) Y (fun u x' y'=>∃ d,u = ansV 0 ⟨#[]⟩ 0 false∧x' = pB 0 pb fb c n mb tb (Pz d)∧y' = gpI (Y++[dB d (upd 2 (et++⟨#[]⟩++⟨#[]⟩) (toS (List.replicate (hsize 2) 0),toS (List.replicate (hsize 2) 1))).1 (upd 2 (et++⟨#[]⟩++⟨#[]⟩) (toS (List.replicate (hsize 2) 0),toS (List.replicate (hsize 2) 1))).2 1])):=by
  refine (c_pDo0 pb fb c n mb tb (.pointer none) Y hY (fun c0 o h b p' Y'=>c0 = 0∧o = ⟨#[]⟩∧h = 0∧b = false∧∃ d,p' = pB 0 pb fb c n mb tb (Pz d)∧Y' = Y++[dB d (upd 2 (et++⟨#[]⟩++⟨#[]⟩) (toS (List.replicate (hsize 2) 0),toS (List.replicate (hsize 2) 1))).1 (upd 2 (et++⟨#[]⟩++⟨#[]⟩) (toS (List.replicate (hsize 2) 0),toS (List.replicate (hsize 2) 1))).2 1]) 103 0 0 0 0 0 et ⟨#[]⟩ ⟨#[]⟩ en_103 rfl (.inl rfl) (fun cb w1 g1 g2=>?_) w hH hd).mono ?_
  · refine CallsM.frame (X:=[pB 0 pb fb c n mb tb (.pointer none)]) (R:=Y) (List.Perm.refl _) wkCB hY g1 g2 (fun a b=>CallsM.of2 (c_pStart pb fb c n mb tb cb 0 0 0 0 0 et ⟨#[]⟩ ⟨#[]⟩ h1 h2 dc dc w1 a b)) ?_
    rintro v _ ⟨x',y',rfl,d,rfl,rfl,rfl⟩
    exact ⟨_,List.Perm.cons _ List.perm_append_comm,_,_,rfl,0,_,0,false,rfl,rfl,rfl,rfl,rfl,rfl,d,rfl,rfl⟩
  · rintro e w' ⟨u,x',y',⟨c0,o,h,b,Y',rfl,⟨rfl,rfl,rfl,rfl,d,rfl,rfl⟩,rfl⟩,he,ho⟩
    exact ⟨_,_,_,⟨d,rfl,rfl,rfl⟩,he,ho⟩
theorem c_doSelf (pb fb c n mb tb d : Nat) (Y : List Item) (hY : Y.all (·.wr) = true) (w : World) (hH : ∀ x, x ∈ ([pB 0 pb fb c n mb tb (Pz d), gpI Y] ++ [] : List Item) → x.holds w) (hd : ([pB 0 pb fb c n mb tb (Pz d), gpI Y] ++ [] : List Item).Pairwise Apart) :
    DoR w pb (calL 1 0 0 0 0 ⟨#[]⟩ ⟨#[]⟩ ⟨#[]⟩) (pB 0 pb fb c n mb tb (Pz d)) Y (fun u x' y'=>u = ansV 0 ⟨#[]⟩ 0 false∧x' = pB 1 pb fb c n mb tb (Pz d)∧y' = gpI Y):=by
  refine (c_pDo0 pb fb c n mb tb _ Y hY (fun c0 o h b p' Y'=>c0 = 0∧o = ⟨#[]⟩∧h = 0∧b = false∧p' = pB 1 pb fb c n mb tb (Pz d)∧Y' = Y) 104 1 0 0 0 0 ⟨#[]⟩ ⟨#[]⟩ ⟨#[]⟩ en_104 rfl (.inr rfl) (fun cb w1 g1 g2=>?_) w hH hd).mono ?_
  · refine CallsM.frame (X:=[pB 0 pb fb c n mb tb (Pz d)]) (R:=Y) (List.Perm.refl _) wkCB hY g1 g2 (fun a b=>CallsM.of1 (c_pSelf pb fb c n mb tb d cb 1 0 0 0 ⟨#[]⟩ ⟨#[]⟩ ⟨#[]⟩ w1 a b)) ?_
    rintro v _ ⟨x',rfl,rfl,rfl⟩
    exact ⟨_,List.Perm.refl _,_,_,rfl,0,_,0,false,rfl,rfl,rfl,rfl,rfl,rfl,rfl,rfl⟩
  · rintro e w' ⟨u,x',y',⟨c0,o,h,b,Y',rfl,⟨rfl,rfl,rfl,rfl,rfl,rfl⟩,rfl⟩,he,ho⟩
    exact ⟨_,_,_,⟨rfl,rfl,rfl⟩,he,ho⟩
theorem ba_self (a:ByteArray):(a == a) = true:=by rw [MapKept.bytes_beq]
theorem eq_ansT (c:Nat) (o:ByteArray) (h:Nat) (b:Bool):EqD 2 Tryz.prog 65 (ansV c o h b) (ansV c o h b) true:=by
  have:=EqD.struct (P:=Tryz.prog) (t:=65) (fs:=[_,_,_,_]) (xs:=(ansL c o h b).toArray) (ys:=(ansL c o h b).toArray) u65 kr (EqFs.cons dc (KBO u3 rfl rfl) (KBO u3 rfl rfl) (EqD.int u3)
    (EqFs.cons dc (KBO u9 rfl rfl) (KBO u9 rfl rfl) (EqD.str u9) (EqFs.cons dc (KBO u3 rfl rfl) (KBO u3 rfl rfl) (EqD.int u3)
    (EqFs.cons dc (KBO u4 rfl rfl) (KBO u4 rfl rfl) (EqD.bool u4) EqFs.nil))))
  rwa [show (((c:Int) == (c:Int)) && ((o == o) && (((h:Int) == (h:Int)) && ((b == b) && true)))) = true by rw [ba_self]; simp] at this
theorem c_ready (s:ByteArray) (hs0:s.size<9223372036854775808) (Z:ByteArray×ByteArray) (hZ:(upd 2 ((shS s 100++(⟨#[48,49,50,51,52,53,54,55,56,57,97,98,99,100,101,102,48,49,50,51,52,53,54,55,56,57,97,98,99,100,101,102]⟩:ByteArray))++⟨#[]⟩++⟨#[]⟩) (toS (List.replicate (hsize 2) 0),toS (List.replicate (hsize 2) 1))) = Z) (w:World) (hH:∀ x,x∈([]++[]:List Item)→x.holds w) (hd:([]++[]:List Item).Pairwise Apart)  : Calls Tryz.prog 27 ([.string s]:List Value).toArray w (fun e w'=>∃ (u:Value) (x':Item) (y':Item),(∃ pb fb c mb tb d rest,64≤c∧u = .tuple #[Pz pb,.bool true]∧x' = pB 1 pb fb c 64 mb tb (Pz d)∧y' = gpI [rW fb 64 (fun i=>i) rest,mpI mb none,trI (some tb) none [],dB d Z.1 Z.2 1])∧e = .returned u∧Outcome w [] [x',y'] w'):=by
  have hsz1:(shS s 100).size≤100:=shS_size s 100
  have hsz:(shS s 100++(⟨#[48,49,50,51,52,53,54,55,56,57,97,98,99,100,101,102,48,49,50,51,52,53,54,55,56,57,97,98,99,100,101,102]⟩:ByteArray)).size = (shS s 100).size+32:=by rw [ByteArray.size_append]; rfl
  refine KAO [] (N:=26) (rs:=[.tmp 2,.tmp 3]) Tryz.func27 rfl Tryz.ntmps27 Tryz.results27 (Nb rfl) hH hd rfl rfl ?_
  refine KB (KA (oA (oA (KC (KB (KA ?_))))));refine LOps.step rfl (KAJ (first:=[]) (caps:=[]) (X:=[]) (RO:=[]) rfl en_59 rfl (Nb rfl) sR wK (fun w hH hd=>c_pNew w hH hd) ?_)
  rintro _ _ _ ⟨pb,fb,c,mb,tb,rest,hcap,rfl,rfl,rfl⟩
  refine oA (KC (KB (KA (oM (oM ?_)))));refine oS (cF rfl en_12 rfl (fun w hw=>c_short s 100 w) ?_);refine oP (KAh rfl rfl (Nat.le_trans (Nat.add_le_add_right hsz1 32) dc)) (oP (KX pl_68 zr_68 rfl (fT (r':=([Iz 0]++([Iz 0]++([Iz 0]++([Iz 0]++([Iz 0]++([.string (shS s 100++(⟨#[48,49,50,51,52,53,54,55,56,57,97,98,99,100,101,102,48,49,50,51,52,53,54,55,56,57,97,98,99,100,101,102]⟩:ByteArray))]++([Value.string ⟨#[]⟩]++([Value.string ⟨#[]⟩]))))))))) (fS (A:=([]:List Value)) (B:=([Iz 0])) (D:=([Iz 0]++([Iz 0]++([Iz 0]++([Iz 0]++([Value.string ⟨#[]⟩]++([Value.string ⟨#[]⟩]++([Value.string ⟨#[]⟩])))))))) (cs:=[Iz 0]) (fS (A:=([Iz 0]++([Iz 0]++([Iz 0]++([Iz 0]++([Iz 0])))))) (B:=([Value.string ⟨#[]⟩])) (D:=([Value.string ⟨#[]⟩]++([Value.string ⟨#[]⟩]))) (cs:=[.string (shS s 100++(⟨#[48,49,50,51,52,53,54,55,56,57,97,98,99,100,101,102,48,49,50,51,52,53,54,55,56,57,97,98,99,100,101,102]⟩:ByteArray))]) rfl)))) ?_)
  refine LOps.step rfl (KAJ (first:=[]) (caps:=[]) (X:=[pB 0 pb fb c 64 mb tb (.pointer none),gpI [rW fb 64 (fun i=>i) rest,mpI mb none,trI (some tb) none []]]) (RO:=[]) rfl en_28 rfl (Nb rfl) sR wK (fun w hH hd=>c_doStart pb fb c 64 mb tb [rW fb 64 (fun i=>i) rest,mpI mb none,trI (some tb) none []] rfl (shS s 100++(⟨#[48,49,50,51,52,53,54,55,56,57,97,98,99,100,101,102,48,49,50,51,52,53,54,55,56,57,97,98,99,100,101,102]⟩:ByteArray)) (by rw [hsz]; omega) (by rw [hsz]; omega) w hH hd) ?_)
  rintro _ _ _ ⟨d,rfl,rfl,rfl⟩
  rw [hZ]
  refine oS (mk (KK zr_65) (fun b5=>?_));refine LOps.step rfl (sA rfl rfl sz_65 (by exact KBX 0 ⟨#[]⟩ 0 false) (hl:=by rfl) (h:=?_));refine KC (KB (KA (oM ?_)));refine oP (KX pl_68 zr_68 rfl (fT (r':=([Iz 1]++([Iz 0]++([Iz 0]++([Iz 0]++([Iz 0]++([Value.string ⟨#[]⟩]++([Value.string ⟨#[]⟩]++([Value.string ⟨#[]⟩]))))))))) (fS (A:=([]:List Value)) (B:=([Iz 0])) (D:=([Iz 0]++([Iz 0]++([Iz 0]++([Iz 0]++([Value.string ⟨#[]⟩]++([Value.string ⟨#[]⟩]++([Value.string ⟨#[]⟩])))))))) (cs:=[Iz 1]) rfl))) ?_;refine LOps.step rfl (KAJ (first:=[]) (caps:=[]) (X:=[pB 0 pb fb c 64 mb tb (Pz d),gpI [rW fb 64 (fun i=>i) rest,mpI mb none,trI (some tb) none [],dB d Z.1 Z.2 1]]) (RO:=[]) rfl en_28 rfl (Nb rfl) sR wK (fun w hH hd=>c_doSelf pb fb c 64 mb tb d [rW fb 64 (fun i=>i) rest,mpI mb none,trI (some tb) none [],dB d Z.1 Z.2 1] rfl w hH hd) ?_)
  rintro _ _ _ ⟨rfl,rfl,rfl⟩
  refine oS (mk (KK zr_65) (fun b6=>?_));refine LOps.step rfl (sA rfl rfl sz_65 (by exact KBX 0 ⟨#[]⟩ 0 false) (hl:=by rfl) (h:=?_));refine KC (KB (rD [] (aM 0 ?_)));refine aD 1 rfl (dL rfl (hv:=by exact KD u65 rfl sz_65)) ?_;refine aP 2 rfl (KX pl_65 zr_65 rfl rfl) (aP 3 rfl (KJ (KBw kr (fun w=>eq_ansT 0 ⟨#[]⟩ 0 false 10000 dc w) rfl rfl) (show _ = Value.bool true by rfl)) (aM 4 ?_));refine aGD 5 rfl (dL rfl (hv:=by exact KD u65 rfl sz_65)) ?_;refine aGP 6 rfl (KX pl_65 zr_65 rfl rfl) (aGP 7 rfl (KJ (KBw kr (fun w=>eq_ansT 0 ⟨#[]⟩ 0 false 10000 dc w) rfl rfl) (show _ = Value.bool true by rfl)) (aP 8 rfl (Kd rfl rfl) (aA 9 ?_)));refine aA 10 ?_;refine aE (KN (⟨[_,_],.cons rfl (.cons rfl .nil),fun a w' hr=>⟨_,_,_,⟨pb,fb,c,mb,tb,d,rest,by omega,rfl,rfl,rfl⟩,rfl,hr.out mS rfl⟩⟩))
open Grp
open Grp
theorem all_app {A D:List Item} (h:A.all (·.wr) = true) (hD:D.all (·.wr) = true):(A++D).all (·.wr) = true:=by rw [List.all_append,h,hD]; rfl
abbrev yB (fb n:Nat) (f:Nat→Nat) (rest:List Value) (mb:Nat) (o:Option (Int×Value)) (tb:Nat) (tr:TrRow) (l:List Nat) (D:List Item):List Item:=[rW fb n f rest,mpI mb o,trI (some tb) tr l]++D
open Grp
theorem c_pHashed (cb op cv k hh nn:Nat) (ca cc cx:ByteArray) (hk:k = 1∨k = 2∨k = 3∨k = 4) (tx:Nat) (sx:ByteArray) (hx:sx.size≤65536) (w:World) (hcb:(Item.blk cb ⟨false,calL op cv k hh nn ca cc cx,68,(0,0)⟩).holds w) (htx:(Item.blk tx ⟨false,[.string sx],9,(0,0)⟩).holds w):CF Tryz.prog 155 [Pz cb,.slice (some ⟨tx,0,none⟩) 1 1] w (Iz 0):=by
  have hs8:=KCR hk
  refine KV (N:=23) (rs:=[.tmp 4]) [.blk cb ⟨false,calL op cv k hh nn ca cc cx,68,(0,0)⟩,.blk tx ⟨false,[.string sx],9,(0,0)⟩] Tryz.func155 rfl Tryz.ntmps155 Tryz.results155 (Nb rfl) ⟨hcb,htx,trivial⟩ rfl ?_
  refine KB (KA (oP (KO (v:=Iz 0) rfl) (KC (KB (KB (KA (oM ?_)))))));refine oP (KF rfl) (oP (KE (o':=2) u68 rfl rfl rfl sz_3 dc) (oD (dL rfl (hv:=KI u3 rfl gL)) ?_));refine oS (cF rfl en_31 rfl (fun w hw=>c_hSize k hk w) ?_);refine oP (bF rfl rfl (Ku (b:=0)) om) (KC (KH rfl (KM (KB (KB (KA (oM ?_)))))));refine oP (KBc u143 rfl) (oP (Kf (v:=Iz 0) rfl) (KC (LCode.block (Kc (α:=Nat) (fun i=>i≤1) (fun i=>⟨[(13,.slice (some ⟨tx,0,none⟩) 1 1),(14,Iz 1),(15,Iz i)],[.blk tx ⟨false,[.string sx],9,(0,0)⟩]⟩) (fun i=>1-i) (0) (Nat.zero_le _) (Ka ⟨rfl,rfl,rfl,trivial⟩ mS) ?_))))
  intro i hi
  refine KB (KA (oP (KG rfl rfl (KAA)) (KC (KB ?_))))
  first|refine KQ rfl (fun h16=>?_) (fun h16=>?_)|refine KR rfl (fun h16=>?_) (fun h16=>?_)
  ·
   have h16:i<1:=h16
   obtain rfl:i = 0:=by omega
   refine KM (KB (LCode.block (KB (KA (oP (KAF u143 sz_9 rfl rfl om) (oD (dL rfl (hv:=KI u9 rfl gL)) ?_))))));refine oA (KC (KB (KA (oM ?_))));refine oP (KAQ u9 rfl) (oP (bF rfl rfl (KAb (b:=65536)) om) (KC (KH rfl (KM (KA (oP (KG rfl rfl (Kj (b:=1) om)) (oM (KC ?_))))))))
   exact ⟨0+1,by decide,by decide,Ka ⟨rfl,rfl,rfl,trivial⟩ mS⟩
  refine Kb (KB (KA (oP (KO (v:=Iz 0) rfl) (KC (KN (eN (.cons rfl .nil) ?_))))))
  rfl
open Grp
theorem c_pVerify (pb:Nat) (cb op cv k hh nn:Nat) (ca cc cx:ByteArray) (V:Cv) (X Y n R T E:Nat) (B:Bool) (AC:Nat) (AB:Bool) (w:World) (hcb:(Item.blk cb ⟨false,calL op cv k hh nn ca cc cx,68,(0,0)⟩).holds w) (h:cvI ((cv:Nat):Int) = some V) (hk:k = 1∨k = 2∨k = 3∨k = 4) (hcc:cc.size≤65536) (ha:ca.size<9223372036854775808) (hg:getT V ca = (X,Y,n)) (hS:∀ w,(Item.blk cb ⟨false,calL op cv k hh nn ca cc cx,68,(0,0)⟩).holds w→CF Tryz.prog 156 [Pz cb] w (.tuple #[sgV R T,Iz E])) (hV:∀ w,CF Tryz.prog 21 [Iz cv,Iz k,ptV X Y false,.string cc,sgV R T] w (.bool B)) (hA:(n≠0∧AC = 12∧AB = false)∨(n = 0∧E≠0∧AC = 13∧AB = false)∨(n = 0∧E = 0∧AC = 0∧AB = B)):CF Tryz.prog 112 [Pz pb,Pz cb] w (ansV AC ⟨#[]⟩ 0 AB):=by
  refine KV (N:=66) (rs:=[.cell 4 65]) [.blk cb ⟨false,calL op cv k hh nn ca cc cx,68,(0,0)⟩] Tryz.func112 rfl Tryz.ntmps112 Tryz.results112 (Nb rfl) ⟨hcb,trivial⟩ rfl ?_
  refine KB (KA (oS (mk (KK zr_65) (fun b4=>?_))));refine KC (KB (KB (KA (oM ?_))));refine oP (KF rfl) (oP (KE (o':=1) u68 rfl rfl rfl sz_3 dc) (oD (dL rfl (hv:=KI u3 rfl gL)) ?_));refine oS (oOpen h rfl rfl (fun b f bd=>?_));refine oP (KJ (KAI u81 rfl rfl) (show _ = Value.bool false from rfl)) (KC (KH rfl (KM (KB (KB (KA (oM (oM ?_))))))));refine oP (KF rfl) (oP (KE (o':=6) u68 rfl rfl rfl sz_9 dc) (oD (dL rfl (hv:=KI u9 rfl gL)) ?_));refine oS (mk (KAP u143 inf_9 rfl rfl rfl rfl dc rfl) (fun b21=>?_));refine oS (cF rfl en_155 rfl (fun w hw=>c_pHashed cb op cv k hh nn ca cc cx hk b21 cc hcc w (mC hw) (show (Item.blk b21 ⟨false,[.string cc],9,(0,0)⟩).holds w from hw (.blk b21 ⟨true,[.string cc],9,(0,0)⟩) mM)) ?_);refine oA (KC (KB (KA (oM ?_))));refine oP (bF rfl rfl (KAn (b:=0)) dc) (KC (KH rfl (KM (KB (rD [13] (aM 0 ?_))))))
  refine aP 1 rfl (KF rfl) (aP 2 rfl (KE (o':=1) u68 rfl rfl rfl sz_3 dc) (aD 3 rfl (dL rfl (hv:=KI u3 rfl gL)) ?_));refine aM 4 ?_;refine aP 5 rfl (KF rfl) (aP 6 rfl (KE (o':=5) u68 rfl rfl rfl sz_9 dc) (aD 7 rfl (dL rfl (hv:=KI u9 rfl gL)) ?_));refine KAR ?_;refine Kl 12 rfl (.inl zr_47) (Nb rfl) rfl rfl rfl ?_;refine LAnyP.step 8 rfl rfl rfl (Nb rfl) kr rfl (Ke (first:=[]) rfl en_29 rfl (fun w hw=>c_s_GetE X Y n _ V ca w h ha hg)) ?_
  rintro _ _ ⟨rfl,rfl⟩
  refine pM 9 ?_;refine pP 10 rfl (Det.extract rfl rfl) (pP 11 rfl (Det.extract rfl rfl) (pE (fun b6=>?_)));refine Kv ?_;refine aL 13 rfl (sA rfl rfl sz_47 (by exact KAB _ _ _) (hl:=by exact KW _ _ _) (h:=?_));refine aA 14 ?_;refine aE (KB (KB ?_))
  rcases hA with ⟨h1,rfl,rfl⟩|⟨rfl,h2,rfl,rfl⟩|⟨rfl,rfl,rfl,rfl⟩
  ·
   refine KA (oM ?_);refine oP (bT rfl rfl (KAn (b:=0)) om) (KC (KS rfl (KB (KA (oS (cF rfl en_61 rfl (fun w hw=>c_pCode 12 w) ?_))))));refine LOps.step rfl (sA rfl rfl sz_65 (by exact KBX 12 ⟨#[]⟩ 0 false) (hl:=by rfl) (h:=?_));refine KC (KN (eN (.cons ⟨_,_,_,rfl,mM,by exact KD u65 rfl sz_65⟩ .nil) ?_))
   rfl
  ·
   refine KA (oM ?_);refine oP (bF rfl rfl (KAn (b:=0)) dc) (KC (KH rfl (KM (KB (KA (oM ?_))))));refine oS (cF rfl en_156 rfl (fun w hw=>hS w (mC hw)) ?_);refine oM ?_;refine oX ?_;refine oX ?_;refine oS (mk (KK zr_37) (fun b8=>?_));refine LOps.step rfl (sA rfl rfl sz_37 (by exact KCX _ _) (hl:=by exact KAv _ _) (h:=?_));refine oA (KC (KB (KB (KA (oM ?_)))));refine oP (bT rfl rfl (KAn (b:=0)) om) (KC (KS rfl (KB (KA (oS (cF rfl en_61 rfl (fun w hw=>c_pCode 13 w) ?_))))));refine LOps.step rfl (sA rfl rfl sz_65 (by exact KBX 13 ⟨#[]⟩ 0 false) (hl:=by rfl) (h:=?_));refine KC (KN (eN (.cons ⟨_,_,_,rfl,mM,by exact KD u65 rfl sz_65⟩ .nil) ?_))
   rfl
  refine KA (oM ?_);refine oP (bF rfl rfl (KAn (b:=0)) dc) (KC (KH rfl (KM (KB (KA (oM ?_))))));refine oS (cF rfl en_156 rfl (fun w hw=>hS w (mC hw)) ?_);refine oM ?_;refine oX ?_;refine oX ?_;refine oS (mk (KK zr_37) (fun b8=>?_));refine LOps.step rfl (sA rfl rfl sz_37 (by exact KCX _ _) (hl:=by exact KAv _ _) (h:=?_));refine oA (KC (KB (KB (KA (oM ?_)))));refine oP (bF rfl rfl (KAn (b:=0)) dc) (KC (KH rfl (KM (KB (rD [16] (aM 0 ?_))))));refine aP 1 rfl (KF rfl) (aP 2 rfl (KE (o':=1) u68 rfl rfl rfl sz_3 dc) (aD 3 rfl (dL rfl (hv:=KI u3 rfl gL)) ?_));refine aM 4 ?_;refine aP 5 rfl (KF rfl) (aP 6 rfl (KE (o':=2) u68 rfl rfl rfl sz_3 dc) (aD 7 rfl (dL rfl (hv:=KI u3 rfl gL)) ?_));refine aD 8 rfl dNb ?_;refine aM 9 ?_;refine aP 10 rfl (KF rfl) (aP 11 rfl (KE (o':=6) u68 rfl rfl rfl sz_9 dc) (aD 12 rfl (dL rfl (hv:=KI u9 rfl gL)) ?_))
  refine aD 13 rfl (dL rfl (hv:=by exact KD u37 rfl sz_37)) ?_;refine aO 14 rfl (cF rfl en_21 rfl (fun w hw=>hV w) ?_);refine aP 15 rfl (KX pl_65 zr_65 rfl (fT (r':=([Iz 0]++([Value.string ⟨#[]⟩]++([Iz 0]++([.bool AB]))))) (fS (A:=([Iz 0]++([Value.string ⟨#[]⟩]++([Iz 0])))) (B:=([Value.bool false])) (D:=([]:List Value)) (cs:=[.bool AB]) rfl))) ?_;refine aL 16 rfl (sA rfl rfl sz_65 (by exact KBX 0 ⟨#[]⟩ 0 AB) (hl:=by rfl) (h:=?_));refine aE (KN (eN (.cons ⟨_,_,_,rfl,mM,by exact KD u65 rfl sz_65⟩ .nil) ?_))
  rfl
theorem c_doVerify (pb fb c n0 mb tb : Nat) (dv : Value) (fh : Nat → Nat) (rest : List Value) (o : Option (Int × Value)) (tr : TrRow) (l : List Nat) (D : List Item) (hD : D.all (·.wr) = true) (cv k nn : Nat) (ca cc cx : ByteArray) (V : Cv) (X Y n R T E : Nat) (B : Bool) (AC : Nat) (AB : Bool) (h : cvI ((cv : Nat) : Int) = some V) (hk : k = 1 ∨ k = 2 ∨ k = 3 ∨ k = 4) (hcc : cc.size ≤ 65536) (ha : ca.size < 9223372036854775808) (hg : getT V ca = (X, Y, n)) (hS : ∀ (cb : Nat) (w : World), (Item.blk cb ⟨false, calL 9 cv k 0 nn ca cc cx, 68, (0, 0)⟩).holds w → CF Tryz.prog 156 [Pz cb] w (.tuple #[sgV R T, Iz E])) (hV : ∀ w, CF Tryz.prog 21 [Iz cv, Iz k, ptV X Y false, .string cc, sgV R T] w (.bool B)) (hA : (n ≠ 0 ∧ AC = 12 ∧ AB = false) ∨ (n = 0 ∧ E ≠ 0 ∧ AC = 13 ∧ AB = false) ∨ (n = 0 ∧ E = 0 ∧ AC = 0 ∧ AB = B)) (w : World)
    (hH:∀ x,x∈([pB 1 pb fb c n0 mb tb dv,gpI (yB fb n0 fh rest mb o tb tr l D)]++[]:List Item)→x.holds w) (hd:([pB 1 pb fb c n0 mb tb dv,gpI (yB fb n0 fh rest mb o tb tr l D)]++[]:List Item).Pairwise Apart) :
    DoR w pb (calL 9 cv k 0 nn ca cc cx) (pB 1 pb fb c n0 mb tb dv) (yB fb n0 fh rest mb o tb tr l D) (fun u x' y'=>u = ansV AC ⟨#[]⟩ 0 AB∧x' = pB 1 pb fb c n0 mb tb dv∧y' = gpI (yB fb n0 fh rest mb o tb tr l D)):=by
  refine (c_pDo pb fb c n0 mb tb dv _ (all_app rfl hD) (fun c0 o2 h2 b p' Y'=>c0 = AC∧o2 = ⟨#[]⟩∧h2 = 0∧b = AB∧p' = pB 1 pb fb c n0 mb tb dv∧Y' = yB fb n0 fh rest mb o tb tr l D) 112 9 cv k 0 nn ca cc cx en_112 rfl dc (fun cb w1 g1 g2=>?_) w hH hd).mono ?_
  · refine CallsM.frame (X:=[]) (R:=_) (RO':=[cB cb 9 cv k 0 nn ca cc cx]) (List.Perm.refl _) wkCB (by simp only [List.all_cons]; rw [all_app rfl hD]; rfl) g1 g2 (fun a b=>CallsM.of0 (c_pVerify pb cb 9 cv k 0 nn ca cc cx V X Y n R T E B AC AB w1 (a _ (.head _)) h hk hcc ha hg (hS cb) hV hA)) ?_
    rintro v _ ⟨rfl,rfl⟩
    exact ⟨_,List.Perm.refl _,_,_,rfl,AC,_,0,AB,rfl,rfl,rfl,rfl,rfl,rfl,rfl,rfl⟩
  · rintro e w' ⟨u,x',y',⟨c0,o2,h2,b,Y',rfl,⟨rfl,rfl,rfl,rfl,rfl,rfl⟩,rfl⟩,he,ho⟩
    exact ⟨_,_,_,⟨rfl,rfl,rfl⟩,he,ho⟩
open Grp
theorem c_pGenL (pb:Nat) (cb op cv ha hh nn:Nat) (ca cc cx:ByteArray) (V:Cv) (w:World) (hcb:(Item.blk cb ⟨false,calL op cv ha hh nn ca cc cx,68,(0,0)⟩).holds w) (h:cvI ((cv:Nat):Int) = some V) (hl:legB V = true):CF Tryz.prog 108 [Pz pb,Pz cb] w (ansV 15 ⟨#[]⟩ 0 false):=by
  refine KV (N:=51) (rs:=[.cell 4 65]) [.blk cb ⟨false,calL op cv ha hh nn ca cc cx,68,(0,0)⟩] Tryz.func108 rfl Tryz.ntmps108 Tryz.results108 (Nb rfl) ⟨hcb,trivial⟩ rfl ?_
  refine KB (KA (oS (mk (KK zr_65) (fun b4=>?_))));refine KC (KB (KA (oM ?_)));refine oS (cF rfl en_150 rfl (fun w hw=>c_pPrivL cb op cv ha hh nn ca cc cx V w (mC hw) h hl) ?_);refine oM ?_;refine oX ?_;refine oX ?_;refine oA (oA (KC (KB (LCode.block (KB (KA (oM ?_)))))));refine oP (bT rfl rfl (KAn (b:=0)) dc) (oA (KC ?_));refine KS rfl (KB (KA (oM ?_)));refine oS (cF rfl en_61 rfl (fun w hw=>c_pCode 15 w) ?_);refine LOps.step rfl (sA rfl rfl sz_65 (by exact KBX 15 ⟨#[]⟩ 0 false) (hl:=by rfl) (h:=?_));refine KC (KN (eN (.cons ⟨_,_,_,rfl,mM,by exact KD u65 rfl sz_65⟩ .nil) ?_))
  rfl
theorem c_pImpL (pb:Nat) (cb op cv ha hh nn:Nat) (ca cc cx:ByteArray) (V:Cv) (w:World) (hcb:(Item.blk cb ⟨false,calL op cv ha hh nn ca cc cx,68,(0,0)⟩).holds w) (h:cvI ((cv:Nat):Int) = some V) (hl:legB V = true):CF Tryz.prog 106 [Pz pb,Pz cb] w (ansV 15 ⟨#[]⟩ 0 false):=by
  refine KV (N:=52) (rs:=[.cell 4 65]) [.blk cb ⟨false,calL op cv ha hh nn ca cc cx,68,(0,0)⟩] Tryz.func106 rfl Tryz.ntmps106 Tryz.results106 (Nb rfl) ⟨hcb,trivial⟩ rfl ?_
  refine KB (KA (oS (mk (KK zr_65) (fun b4=>?_))));refine KC (KB (KA (oM ?_)));refine oS (cF rfl en_150 rfl (fun w hw=>c_pPrivL cb op cv ha hh nn ca cc cx V w (mC hw) h hl) ?_);refine oM ?_;refine oX ?_;refine oX ?_;refine oA (oA (KC (KB (KB (KA (oM ?_))))));refine oP (bT rfl rfl (KAn (b:=0)) dc) (KC (KS rfl (KB (KA (oM ?_)))));refine oS (cF rfl en_61 rfl (fun w hw=>c_pCode 15 w) ?_);refine LOps.step rfl (sA rfl rfl sz_65 (by exact KBX 15 ⟨#[]⟩ 0 false) (hl:=by rfl) (h:=?_));refine KC (KN (eN (.cons ⟨_,_,_,rfl,mM,by exact KD u65 rfl sz_65⟩ .nil) ?_))
  rfl
theorem c_doGenL (pb fb c n0 mb tb : Nat) (dv : Value) (fh : Nat → Nat) (rest : List Value) (o : Option (Int × Value)) (tr : TrRow) (l : List Nat) (D : List Item) (hD : D.all (·.wr) = true) (cv : Nat) (V : Cv) (h : cvI ((cv : Nat) : Int) = some V) (hl : legB V = true) (w : World)
    (hH:∀ x,x∈([pB 1 pb fb c n0 mb tb dv,gpI (yB fb n0 fh rest mb o tb tr l D)]++[]:List Item)→x.holds w) (hd:([pB 1 pb fb c n0 mb tb dv,gpI (yB fb n0 fh rest mb o tb tr l D)]++[]:List Item).Pairwise Apart) :
    DoR w pb (calL 5 cv 0 0 0 ⟨#[]⟩ ⟨#[]⟩ ⟨#[]⟩) (pB 1 pb fb c n0 mb tb dv) (yB fb n0 fh rest mb o tb tr l D) (fun u x' y'=>u = ansV 15 ⟨#[]⟩ 0 false∧x' = pB 1 pb fb c n0 mb tb dv∧y' = gpI (yB fb n0 fh rest mb o tb tr l D)):=by
  refine (c_pDo pb fb c n0 mb tb dv _ (all_app rfl hD) (fun c0 o2 h2 b p' Y'=>c0 = 15∧o2 = ⟨#[]⟩∧h2 = 0∧b = false∧p' = pB 1 pb fb c n0 mb tb dv∧Y' = yB fb n0 fh rest mb o tb tr l D) 108 5 cv 0 0 0 ⟨#[]⟩ ⟨#[]⟩ ⟨#[]⟩ en_108 rfl dc (fun cb w1 g1 g2=>?_) w hH hd).mono ?_
  · refine CallsM.frame (X:=[]) (R:=_) (RO':=[cB cb 5 cv 0 0 0 ⟨#[]⟩ ⟨#[]⟩ ⟨#[]⟩]) (List.Perm.refl _) wkCB (by simp only [List.all_cons]; rw [all_app rfl hD]; rfl) g1 g2 (fun a b=>CallsM.of0 (c_pGenL pb cb 5 cv 0 0 0 ⟨#[]⟩ ⟨#[]⟩ ⟨#[]⟩ V w1 (a _ (.head _)) h hl)) ?_
    rintro v _ ⟨rfl,rfl⟩
    exact ⟨_,List.Perm.refl _,_,_,rfl,15,_,0,false,rfl,rfl,rfl,rfl,rfl,rfl,rfl,rfl⟩
  · rintro e w' ⟨u,x',y',⟨c0,o2,h2,b,Y',rfl,⟨rfl,rfl,rfl,rfl,rfl,rfl⟩,rfl⟩,he,ho⟩
    exact ⟨_,_,_,⟨rfl,rfl,rfl⟩,he,ho⟩
theorem c_doImpL (pb fb c n0 mb tb : Nat) (dv : Value) (fh : Nat → Nat) (rest : List Value) (o : Option (Int × Value)) (tr : TrRow) (l : List Nat) (D : List Item) (hD : D.all (·.wr) = true) (cv : Nat) (ca : ByteArray) (V : Cv) (h : cvI ((cv : Nat) : Int) = some V) (hl : legB V = true) (w : World)
    (hH:∀ x,x∈([pB 1 pb fb c n0 mb tb dv,gpI (yB fb n0 fh rest mb o tb tr l D)]++[]:List Item)→x.holds w) (hd:([pB 1 pb fb c n0 mb tb dv,gpI (yB fb n0 fh rest mb o tb tr l D)]++[]:List Item).Pairwise Apart) :
    DoR w pb (calL 3 cv 0 0 0 ca ⟨#[]⟩ ⟨#[]⟩) (pB 1 pb fb c n0 mb tb dv) (yB fb n0 fh rest mb o tb tr l D) (fun u x' y'=>u = ansV 15 ⟨#[]⟩ 0 false∧x' = pB 1 pb fb c n0 mb tb dv∧y' = gpI (yB fb n0 fh rest mb o tb tr l D)):=by
  refine (c_pDo pb fb c n0 mb tb dv _ (all_app rfl hD) (fun c0 o2 h2 b p' Y'=>c0 = 15∧o2 = ⟨#[]⟩∧h2 = 0∧b = false∧p' = pB 1 pb fb c n0 mb tb dv∧Y' = yB fb n0 fh rest mb o tb tr l D) 106 3 cv 0 0 0 ca ⟨#[]⟩ ⟨#[]⟩ en_106 rfl dc (fun cb w1 g1 g2=>?_) w hH hd).mono ?_
  · refine CallsM.frame (X:=[]) (R:=_) (RO':=[cB cb 3 cv 0 0 0 ca ⟨#[]⟩ ⟨#[]⟩]) (List.Perm.refl _) wkCB (by simp only [List.all_cons]; rw [all_app rfl hD]; rfl) g1 g2 (fun a b=>CallsM.of0 (c_pImpL pb cb 3 cv 0 0 0 ca ⟨#[]⟩ ⟨#[]⟩ V w1 (a _ (.head _)) h hl)) ?_
    rintro v _ ⟨rfl,rfl⟩
    exact ⟨_,List.Perm.refl _,_,_,rfl,15,_,0,false,rfl,rfl,rfl,rfl,rfl,rfl,rfl,rfl⟩
  · rintro e w' ⟨u,x',y',⟨c0,o2,h2,b,Y',rfl,⟨rfl,rfl,rfl,rfl,rfl,rfl⟩,rfl⟩,he,ho⟩
    exact ⟨_,_,_,⟨rfl,rfl,rfl⟩,he,ho⟩
theorem c_pSigR (cb op cv k hh:Nat) (ca cc:ByteArray) (V:Cv) (R T:Nat) (w:World) (hcb:(Item.blk cb ⟨false,calL op cv k hh 0 ca cc (rpS V R T),68,(0,0)⟩).holds w) (h:cvI ((cv:Nat):Int) = some V) (hnb:nby V.n≤72) (hR:R<V.n) (hT:T<V.n):CF Tryz.prog 156 [Pz cb] w (.tuple #[sgV R T,Iz 0]):=by
  refine KV (N:=27) (rs:=[.cell 2 37,.tmp 3]) [.blk cb ⟨false,calL op cv k hh 0 ca cc (rpS V R T),68,(0,0)⟩] Tryz.func156 rfl Tryz.ntmps156 Tryz.results156 (Nb rfl) ⟨hcb,trivial⟩ rfl ?_
  refine KB (KA (oS (mk (KK zr_37) (fun b2=>?_))));refine oP (KO (v:=Iz 0) rfl) (KC (KB (KB (KA (oM ?_)))));refine oP (KF rfl) (oP (KE (o':=4) u68 rfl rfl rfl sz_3 dc) (oD (dL rfl (hv:=KI u3 rfl gL)) ?_));refine oP (bF rfl rfl (Ku (b:=1)) dc) (KC (KH rfl (KM (KB (rD [11] (aM 0 ?_))))));refine aP 1 rfl (KF rfl) (aP 2 rfl (KE (o':=1) u68 rfl rfl rfl sz_3 dc) (aD 3 rfl (dL rfl (hv:=KI u3 rfl gL)) ?_));refine aM 4 ?_;refine aP 5 rfl (KF rfl) (aP 6 rfl (KE (o':=7) u68 rfl rfl rfl sz_9 dc) (aD 7 rfl (dL rfl (hv:=KI u9 rfl gL)) ?_));refine aO 8 rfl (cF rfl en_17 rfl (fun w hw=>c_rawGetOK _ V R T w h hnb hR hT) ?_);refine aP 9 rfl (Det.extract rfl rfl) (aP 10 rfl (Det.extract rfl rfl) (aL 11 rfl (sA rfl rfl sz_37 (by exact KCX _ _) (hl:=by exact KAv _ _) (h:=?_))));refine aA 12 ?_;refine aE (KN (eN (.cons ⟨_,_,_,rfl,mM,by exact KD u37 rfl sz_37⟩ (.cons rfl .nil)) ?_))
  rfl
theorem c_TopLegacy (wh:Bool) (k:Nat) (msg:ByteArray) (hk64:k<18446744073709551616) (hmsg:msg.size≤140737488351232) (w:World)  : CF Tryz.prog 5 [.bool wh,.int .u64 ((k:Nat):Int),.string msg] w (.bool true):=by
  have hk0:(1+k%1000000)≠0:=by omega
  refine KV (N:=127) (rs:=[.tmp 6]) [] Tryz.func5 rfl Tryz.ntmps5 Tryz.results5 (Nb rfl) trivial rfl ?_
  refine KB (KA (oA (KC (KB (KB (KA ?_))))));refine oS (cF rfl en_9 rfl (fun w hw=>c_awakeT w) ?_);refine oP (KJ (KAH rfl) (show _ = Value.bool false from rfl)) (KC (KH rfl (KM (KB (KA (oP (KO (v:=Iz 1) rfl) (KC (KCr (α:=Unit) (fun _=>True) (fun _=>⟨[(1,.int .u64 ((k:Nat):Int)),(2,.string msg),(7,Iz ((cond wh 7 1)))],[]⟩) ?_ ?_))))))))
  ·
   refine KB (KA (oM (KC ?_)))
   first|refine KQ rfl (fun h27=>?_) (fun h27=>?_)|refine KR rfl (fun h27=>?_) (fun h27=>?_)
   ·
    subst h27
    refine KA (oP (KO (v:=Iz 7) rfl) (KC ?_))
    exact ⟨(),trivial,Ka ⟨rfl,rfl,rfl,trivial⟩ mS⟩
   subst h27
   refine KM ?_
   exact ⟨(),trivial,Ka ⟨rfl,rfl,rfl,trivial⟩ mS⟩
  rintro _ _
  refine KB ?_
  obtain ⟨V,h,hleg,hkn,hnP,hleg2⟩:=lg_all wh hk0 (show (1+k%1000000)≤1000000 by have:=Nat.mod_lt k (show 0<1000000 by decide); omega)
  obtain ⟨hok,hid⟩:=KAw h
  have hpW:V.p<W9:=Ks hok.bounds.2.1
  have hnW:V.n<W9:=Ks hok.bounds.2.2.2.2.2.2.1
  obtain ⟨qx,qy,hq⟩:=pmul_affT hok hk0 hkn
  have hQ:On V.A V.B (.aff qx qy):=hq ▸ hok.mul hok.on _
  have hgo:=aff_on hQ
  have hqx:qx.val<W9:=Nat.lt_trans qx.isLt hpW
  have hqy:qy.val<W9:=Nat.lt_trans qy.isLt hpW
  obtain ⟨f3,f4⟩:=pStr_on false hgo
  obtain ⟨x0,T2,K3,U3,n3,hx0,ho0,hs⟩:=hleg2 (digE V 2 msg)
  have hv0:=ver_ok hok hx0 ho0 hq
  obtain ⟨R,hRe⟩:∃ R,sgR V x0 = R:=⟨_,rfl⟩
  obtain ⟨T,hTe⟩:∃ T,sgS V (digE V 2 msg) (1+k%1000000) x0 = T:=⟨_,rfl⟩
  rw [hRe,hTe] at hs hv0
  have hn0:0<V.n:=by omega
  have hR:sgK V R:=⟨hRe ▸ ho0.1,hRe ▸ Nat.mod_lt _ hn0⟩
  have hT:sgK V T:=⟨hTe ▸ ho0.2,hTe ▸ Nat.mod_lt _ hn0⟩
  have hv:verE V (dualP V (digE V 2 msg*invM T V.n%V.n) (R*invM T V.n%V.n) (.aff qx qy)) R = true:=hv0
  have hbl:=KAM hnW
  have hnb:nby V.n≤72:=by (unfold nby; omega)
  obtain ⟨Z,hZ⟩:∃ Z,(upd 2 ((shS ⟨#[]⟩ 100++(⟨#[48,49,50,51,52,53,54,55,56,57,97,98,99,100,101,102,48,49,50,51,52,53,54,55,56,57,97,98,99,100,101,102]⟩:ByteArray))++⟨#[]⟩++⟨#[]⟩) (toS (List.replicate (hsize 2) 0),toS (List.replicate (hsize 2) 1))) = Z:=⟨_,rfl⟩
  refine KA (LOps.step rfl (KAJ (first:=[]) (caps:=[]) (X:=[]) (RO:=[]) rfl en_27 rfl (Nb rfl) sR wK (fun w hH hd=>c_ready ⟨#[]⟩ dc Z hZ w hH hd) ?_))
  rintro _ _ _ ⟨pb,fb,c,mb,tb,d,rest0,hc64,rfl,rfl,rfl⟩
  refine oM ?_;refine oX ?_;refine oX ?_;refine oA (oA (KC (KB (KA (oM (oM ?_))))));refine oP (KX pl_68 zr_68 rfl (fT (r':=([Iz 5]++([Iz ((cond wh 7 1))]++([Iz 0]++([Iz 0]++([Iz 0]++([Value.string ⟨#[]⟩]++([Value.string ⟨#[]⟩]++([Value.string ⟨#[]⟩]))))))))) (fS (A:=([]:List Value)) (B:=([Iz 0])) (D:=([Iz 0]++([Iz 0]++([Iz 0]++([Iz 0]++([Value.string ⟨#[]⟩]++([Value.string ⟨#[]⟩]++([Value.string ⟨#[]⟩])))))))) (cs:=[Iz 5]) (fS (A:=([Iz 5])) (B:=([Iz 0])) (D:=([Iz 0]++([Iz 0]++([Iz 0]++([Value.string ⟨#[]⟩]++([Value.string ⟨#[]⟩]++([Value.string ⟨#[]⟩]))))))) (cs:=[Iz ((cond wh 7 1))]) rfl)))) ?_;refine LOps.step rfl (KAJ (first:=[]) (caps:=[]) (X:=[pB 1 pb fb c 64 mb tb (Pz d),gpI (yB fb 64 (fun i=>i) rest0 mb none tb none [] [dB d Z.1 Z.2 1])]) (RO:=[]) rfl en_28 rfl (Nb rfl) sR wK (fun w hH hd=>c_doGenL pb fb c 64 mb tb (Pz d) (fun i=>i) rest0 none none [] [dB d Z.1 Z.2 1] rfl (cond wh 7 1) V h hleg w hH hd) ?_)
  rintro _ _ _ ⟨rfl,rfl,rfl⟩
  refine oS (mk (KK zr_65) (fun b10=>?_));refine LOps.step rfl (sA rfl rfl sz_65 (by exact KBX 15 ⟨#[]⟩ 0 false) (hl:=by rfl) (h:=?_));refine KC (KB (KA (oM (oM ?_))));refine oP (KX pl_68 zr_68 rfl (fT (r':=([Iz 3]++([Iz ((cond wh 7 1))]++([Iz 0]++([Iz 0]++([Iz 0]++([.string ⟨#[120]⟩]++([Value.string ⟨#[]⟩]++([Value.string ⟨#[]⟩]))))))))) (fS (A:=([]:List Value)) (B:=([Iz 0])) (D:=([Iz 0]++([Iz 0]++([Iz 0]++([Iz 0]++([Value.string ⟨#[]⟩]++([Value.string ⟨#[]⟩]++([Value.string ⟨#[]⟩])))))))) (cs:=[Iz 3]) (fS (A:=([Iz 3])) (B:=([Iz 0])) (D:=([Iz 0]++([Iz 0]++([Iz 0]++([Value.string ⟨#[]⟩]++([Value.string ⟨#[]⟩]++([Value.string ⟨#[]⟩]))))))) (cs:=[Iz ((cond wh 7 1))]) (fS (A:=([Iz 3]++([Iz ((cond wh 7 1))]++([Iz 0]++([Iz 0]++([Iz 0])))))) (B:=([Value.string ⟨#[]⟩])) (D:=([Value.string ⟨#[]⟩]++([Value.string ⟨#[]⟩]))) (cs:=[.string ⟨#[120]⟩]) rfl))))) ?_;refine LOps.step rfl (KAJ (first:=[]) (caps:=[]) (X:=[pB 1 pb fb c 64 mb tb (Pz d),gpI (yB fb 64 (fun i=>i) rest0 mb none tb none [] [dB d Z.1 Z.2 1])]) (RO:=[]) rfl en_28 rfl (Nb rfl) sR wK (fun w hH hd=>c_doImpL pb fb c 64 mb tb (Pz d) (fun i=>i) rest0 none none [] [dB d Z.1 Z.2 1] rfl (cond wh 7 1) ⟨#[120]⟩ V h hleg w hH hd) ?_)
  rintro _ _ _ ⟨rfl,rfl,rfl⟩
  refine oS (mk (KK zr_65) (fun b11=>?_));refine LOps.step rfl (sA rfl rfl sz_65 (by exact KBX 15 ⟨#[]⟩ 0 false) (hl:=by rfl) (h:=?_));refine KC (KB (KA (oM ?_)));refine oP (KJ (KG rfl rfl (br_rem64 (b:=1000000) dc)) (show _ = .int .u64 ((k%1000000:Nat):Int) from rfl)) (oP (KJ (KG rfl rfl (KAc (a:=1))) (vi (b:=1+k%1000000) om)) (oS (cF rfl en_23 rfl (fun w hw=>c_One (1+k%1000000) w om) ?_)));refine oS (mk (KK zr_33) (fun b12=>?_));refine LOps.step rfl (sA rfl rfl sz_33 (by exact Kx _) (hl:=by exact KL _) (h:=?_));refine KC (KB (KA (LOps.step rfl (Kg (first:=[]) (caps:=[]) (X:=[]) (RO:=[]) rfl en_11 rfl (Nb rfl) sR wK (fun w hH hd=>c_dNew 2 dc (⟨#[48,49,50,51,52,53,54,55,56,57,97,98,99,100,101,102,48,49,50,51,52,53,54,55,56,57,97,98,99,100,101,102]⟩:ByteArray) ⟨#[]⟩ ⟨#[]⟩ dc dc dc dc w hH hd) ?_))))
  rintro _ _ ⟨dd,rfl,rfl⟩
  rw [show upd 2 ((⟨#[48,49,50,51,52,53,54,55,56,57,97,98,99,100,101,102,48,49,50,51,52,53,54,55,56,57,97,98,99,100,101,102]⟩:ByteArray)++⟨#[]⟩++⟨#[]⟩) (toS (List.replicate (hsize 2) 0),toS (List.replicate (hsize 2) 1)) = lgZ from rfl]
  refine oM ?_;refine oX ?_;refine oX ?_;refine oA (oA (KC (KB ?_)));refine LCode.sub (Sub.add (x:=trI none none []) (fun w=>trI_nil _ _) rfl) ?_;refine KA (oM ?_);refine oD dNa ?_;refine oM (oM ?_);refine LOps.step rfl (KAJ (first:=[]) (caps:=[]) (X:=[.blk dd ⟨true,gnL 2 lgZ.1 lgZ.2 (1),79,(0,0)⟩,trI none none []]) (RO:=[]) rfl en_15 rfl (Nb rfl) sR wK (fun w hH hd=>c_eSign none none [] _ V (1+k%1000000) ⟨hk0,hkn⟩ 2 dc msg hmsg 2 dc dd 1 lgZ.1 lgZ.2 KCy.1 KCy.2 R T T2 0 K3 U3 n3 w hH hd h hs dc) ?_)
  rintro _ _ _ ⟨rfl,rfl,tr2,l2,rfl,hl2⟩
  refine oM ?_;refine oX ?_;refine oX ?_;refine oX ?_;refine oS (mk (KK zr_37) (fun b15=>?_));refine LOps.step rfl (sA rfl rfl sz_37 (by exact KCX _ _) (hl:=by exact KAv _ _) (h:=?_));refine oA (oA (KC (KB (KA (oM ?_)))));refine oD dNa ?_;refine oS (cF rfl en_20 rfl (fun w hw=>c_kPublic _ V (1+k%1000000) (.aff qx qy) w h hk0 hkn hq) ?_);refine oM ?_;refine oX ?_;refine oX ?_;refine oS (mk (KK zr_47) (fun b18=>?_));refine LOps.step rfl (sA rfl rfl sz_47 (by exact KAB _ _ _) (hl:=by exact KW _ _ _) (h:=?_));refine oA (KC (KB (KA (oM ?_))));refine oD dNb ?_;refine oS (cF rfl en_25 rfl (fun w hw=>c_s_PutE (putS V qx.val qy.val false) 0 _ V qx.val qy.val false false w h hqx hqy f3 f4) ?_);refine oM ?_;refine oX ?_;refine oX ?_;refine oA (oA (KC (KB (KA (oM ?_)))));refine oD (dL rfl (hv:=by exact KD u37 rfl sz_37)) ?_
  refine oS (cF rfl en_16 rfl (fun w hw=>c_rawPutOK _ V R T w h hnW hR.2 hT.2) ?_);refine oM ?_;refine oX ?_;refine oX ?_;refine oA (oA (KC (KB (KB (KA (oM ?_))))));refine oP (KAQ u9 rfl) (oP (KG rfl rfl (KAb (b:=65536))) (KC ?_))
  first|refine KQ rfl (fun h77=>?_) (fun h77=>?_)|refine KR rfl (fun h77=>?_) (fun h77=>?_)
  ·
   refine KB (KA (oM (oA (KC (KN ?_)))));refine eN (.cons rfl .nil) ?_
   rfl
  have hms:msg.size≤65536:=by have:=h77; omega
  refine KM (KB (KA (oM (oM (oM (oM (oM ?_)))))));refine oP (KX pl_68 zr_68 rfl (fT (r':=([Iz 9]++([Iz ((cond wh 7 1))]++([Iz 2]++([Iz 0]++([Iz 0]++([.string (putS V qx.val qy.val false)]++([.string msg]++([.string (rpS V R T)]))))))))) (fS (A:=([]:List Value)) (B:=([Iz 0])) (D:=([Iz 0]++([Iz 0]++([Iz 0]++([Iz 0]++([Value.string ⟨#[]⟩]++([Value.string ⟨#[]⟩]++([Value.string ⟨#[]⟩])))))))) (cs:=[Iz 9]) (fS (A:=([Iz 9])) (B:=([Iz 0])) (D:=([Iz 0]++([Iz 0]++([Iz 0]++([Value.string ⟨#[]⟩]++([Value.string ⟨#[]⟩]++([Value.string ⟨#[]⟩]))))))) (cs:=[Iz ((cond wh 7 1))]) (fS (A:=([Iz 9]++([Iz ((cond wh 7 1))]))) (B:=([Iz 0])) (D:=([Iz 0]++([Iz 0]++([Value.string ⟨#[]⟩]++([Value.string ⟨#[]⟩]++([Value.string ⟨#[]⟩])))))) (cs:=[Iz 2]) (fS (A:=([Iz 9]++([Iz ((cond wh 7 1))]++([Iz 2]++([Iz 0]++([Iz 0])))))) (B:=([Value.string ⟨#[]⟩])) (D:=([Value.string ⟨#[]⟩]++([Value.string ⟨#[]⟩]))) (cs:=[.string (putS V qx.val qy.val false)]) (fS (A:=([Iz 9]++([Iz ((cond wh 7 1))]++([Iz 2]++([Iz 0]++([Iz 0]++([.string (putS V qx.val qy.val false)]))))))) (B:=([Value.string ⟨#[]⟩])) (D:=([Value.string ⟨#[]⟩])) (cs:=[.string msg]) (fS (A:=([Iz 9]++([Iz ((cond wh 7 1))]++([Iz 2]++([Iz 0]++([Iz 0]++([.string (putS V qx.val qy.val false)]++([.string msg])))))))) (B:=([Value.string ⟨#[]⟩])) (D:=([]:List Value)) (cs:=[.string (rpS V R T)]) rfl)))))))) ?_
  refine LOps.step rfl (KAJ (first:=[]) (caps:=[]) (X:=[pB 1 pb fb c 64 mb tb (Pz d),gpI (yB fb 64 (fun i=>i) rest0 mb none tb none [] [dB d Z.1 Z.2 1])]) (RO:=[]) rfl en_28 rfl (Nb rfl) sR wK (fun w hH hd=>c_doVerify pb fb c 64 mb tb (Pz d) (fun i=>i) rest0 none none [] [dB d Z.1 Z.2 1] rfl (cond wh 7 1) 2 0 (putS V qx.val qy.val false) msg (rpS V R T) V qx.val qy.val 0 R T 0 true 0 true h dc hms (putS_size (nbp_72 hok) _ _ _) (get_put hok false hgo) (fun cb w hw=>c_pSigR cb 9 (cond wh 7 1) 2 0 (putS V qx.val qy.val false) msg V R T w hw h hnb hR.2 hT.2) (fun w=>c_eVerT true _ V 2 dc msg hmsg qx qy hQ R T w h hR hT hv) (.inr (.inr ⟨rfl,rfl,rfl,rfl⟩)) w hH hd) ?_)
  rintro _ _ _ ⟨rfl,rfl,rfl⟩
  refine oS (mk (KK zr_65) (fun b24=>?_));refine LOps.step rfl (sA rfl rfl sz_65 (by exact KBX 0 ⟨#[]⟩ 0 true) (hl:=by rfl) (h:=?_));refine KC (KB (KA (oM (oM ?_))));refine Kt rfl rfl (dL rfl (hv:=by exact KD u65 rfl sz_65)) (Nb rfl) ?_;refine oGP (KX pl_65 zr_65 rfl (fT (r':=([Iz 15]++([Value.string ⟨#[]⟩]++([Iz 0]++([Value.bool false]))))) (fS (A:=([]:List Value)) (B:=([Iz 0])) (D:=([Value.string ⟨#[]⟩]++([Iz 0]++([Value.bool false])))) (cs:=[Iz 15]) rfl))) ?_;refine oGP (KJ (KBw kr (fun w=>eq_ansT 15 ⟨#[]⟩ 0 false 10000 dc w) rfl rfl) (show _ = Value.bool true by rfl)) (oP (Kd rfl rfl) (oM ?_));refine Kt rfl rfl (dL rfl (hv:=by exact KD u65 rfl sz_65)) (Nb rfl) ?_;refine oGP (KX pl_65 zr_65 rfl (fT (r':=([Iz 15]++([Value.string ⟨#[]⟩]++([Iz 0]++([Value.bool false]))))) (fS (A:=([]:List Value)) (B:=([Iz 0])) (D:=([Value.string ⟨#[]⟩]++([Iz 0]++([Value.bool false])))) (cs:=[Iz 15]) rfl))) ?_
  refine oGP (KJ (KBw kr (fun w=>eq_ansT 15 ⟨#[]⟩ 0 false 10000 dc w) rfl rfl) (show _ = Value.bool true by rfl)) (oP (Kd rfl rfl) (oM ?_));refine oGM ?_;refine oGS (cF rfl en_13 rfl (fun w hw=>c_Num _ w) ?_);refine oGP (bT rfl rfl (Ku (b:=0)) (by first|rfl|assumption|omega|(simp; done))) ?_;refine oP (Kd rfl rfl) (oM ?_);refine oGM ?_;refine oGS (cF rfl en_13 rfl (fun w hw=>c_Num _ w) ?_);refine oGP (bT rfl rfl (Ku (b:=0)) (by first|rfl|assumption|omega|(simp; done))) ?_;refine oP (Kd rfl rfl) (oM ?_);refine oGM ?_;refine oGS (cF rfl en_13 rfl (fun w hw=>c_Num _ w) ?_);refine oGP (bT rfl rfl (Ku (b:=0)) (by first|rfl|assumption|omega|(simp; done))) ?_;refine oP (Kd rfl rfl) (oM ?_);refine oGM ?_;refine oGS (cF rfl en_13 rfl (fun w hw=>c_Num _ w) ?_);refine oGP (bT rfl rfl (Ku (b:=0)) (by first|rfl|assumption|omega|(simp; done))) ?_;refine oP (Kd rfl rfl) (oM ?_);refine oGM ?_;refine oGS (cF rfl en_13 rfl (fun w hw=>c_Num _ w) ?_)
  refine oGP (bT rfl rfl (Ku (b:=0)) (by first|rfl|assumption|omega|(simp; done))) ?_;refine oP (Kd rfl rfl) (oM ?_);refine Kt rfl rfl (dL rfl (hv:=by exact KD u65 rfl sz_65)) (Nb rfl) ?_;refine oGP (KX pl_65 zr_65 rfl (fT (r':=([Iz 0]++([Value.string ⟨#[]⟩]++([Iz 0]++([.bool true]))))) (fS (A:=([Iz 0]++([Value.string ⟨#[]⟩]++([Iz 0])))) (B:=([Value.bool false])) (D:=([]:List Value)) (cs:=[.bool true]) rfl))) ?_;refine oGP (KJ (KBw kr (fun w=>eq_ansT 0 ⟨#[]⟩ 0 true 10000 dc w) rfl rfl) (show _ = Value.bool true by rfl)) (oP (Kd rfl rfl) (oA (KC (KN ?_))));refine eN (.cons rfl .nil) ?_
  rfl
end Go.Proofs.YtnpeokiboiclfaaGreat
set_option maxRecDepth 100000
namespace Go.Proofs.YtnpeokiboiclfaaGreat
open Go
def ioChars:List Char:=([104,97,114,110,101,115,115,32,57,55,98,53,54,100,57,56,97,53,52,98,49,48,50,99,50,101,100,55,53,99,99,52,51,51,49,54,48,51,50,97,56,102,57,48,57,52,49,55,100,98,48,101,102,57,50,48,56,102,50,49,57,57,48,56,54,55,101,99,51,51,51,51,32,99,117,116,32,97,116,32,99,117,114,118,101,116,47,99,117,114,118,101,116,116,111,112,46,84,111,112,70,111,114,109,115,32,99,117,114,118,101,116,47,99,117,114,118,101,116,116,111,112,46,84,111,112,67,117,114,118,101,115,32,99,117,114,118,101,116,47,99,117,114,118,101,116,116,111,112,46,84,111,112,76,101,103,97,99,121,32,99,117,114,118,101,116,47,99,117,114,118,101,116,116,111,112,46,84,111,112,73,109,112,111,114,116,115,32,99,117,114,118,101,116,47,99,117,114,118,101,116,116,111,112,46,84,111,112,86,101,114,105,102,105,101,100,32,99,117,114,118,101,116,47,99,117,114,118,101,116,116,111,112,46,84,111,112,84,105,110,121]:List Nat).map Char.ofNat
theorem io_lit:Tryz.prog.initOrder = String.ofList ioChars:=by kernel_rfl
theorem io_list:Tryz.prog.initOrder.toList = ioChars:=by rw [io_lit,String.toList_ofList]
def cutW:List Char:=([99,117,116]:List Nat).map Char.ofNat
def ioRest:List (List Char):=(wordsSigns ioChars).drop 3
theorem io_words:behindMainWord (wordsSigns ioChars) = cutW :: ioRest:=by kernel_rfl
theorem io_strip (r:List (List Char)):stripLifts liftWords (cutW :: r) = ([],cutW :: r):=by kernel_rfl
theorem no_later:Tryz.prog.laysLater = false:=by kernel_rfl
theorem no_reflect:Tryz.prog.bearsReflect = false:=by kernel_rfl
theorem door_fits:Tryz.prog.doorFits [] = true:=by kernel_rfl
theorem and2 {a b:Bool} (h:a = true) (k:b = true):(a && b) = true:=by rw [h,k]; rfl
theorem or_right {a b:Bool} (h:b = true):(a || b) = true:=by rw [h]; cases a <;> rfl
theorem cut_is : (cutW == "cut".toList) = true := by kernel_rfl
theorem cut_gc : (cutW == "gc".toList) = false := by kernel_rfl
theorem cut_spec : (cutW == "spec".toList) = false := by kernel_rfl
theorem cut_carried : (cutW == "carried".toList) = false := by kernel_rfl
theorem head_carried (r : List (List Char)) : ((cutW :: r).head? == some "carried".toList) = false := cut_carried
theorem enter_of (P:Program) {r:List (List Char)} (h:behindMainWord (wordsSigns P.initOrder.toList) = cutW :: r) (h1:P.laysLater = false) (h2:P.bearsReflect = false) (h3:P.doorFits [] = true):P.mayEnter = true:=by
  unfold Program.mayEnter
  rw [h]
  dsimp only
  refine or_right (and2 (and2 (and2 (and2 ?_ ?_) ?_) ?_) ?_)
  · rw [io_strip]; exact cut_is
  · rw [io_strip,h1]; rfl
  · rw [io_strip,h2]; rfl
  · rw [io_strip]; rfl
  · rw [io_strip]; exact h3
theorem lifts_of (P:Program) {r:List (List Char)} (h:behindMainWord (wordsSigns P.initOrder.toList) = cutW :: r):(false == P.liftsFinal) = true:=by
  have hl:P.headLifts = []:=by
    unfold Program.headLifts
    rw [h,io_strip]
    simp only [ite_self]
  unfold Program.liftsFinal
  rw [h,hl]
  dsimp only
  rw [head_carried,Bool.false_and]
  rfl
theorem make_of (P:Program) {r:List (List Char)} (h:behindMainWord (wordsSigns P.initOrder.toList) = cutW :: r):(P.make == some .cut) = true:=by
  have:P.make = some .cut:=by
    unfold Program.make
    rw [h]
    dsimp only
    rw [if_neg (by rw [cut_gc,cut_spec]; exact fun h=>by cases h),if_pos (by rw [cut_is]; rfl)]
  rw [this]; rfl
theorem io_all:behindMainWord (wordsSigns Tryz.prog.initOrder.toList) = cutW :: ioRest:=by rw [io_list,io_words]
theorem fact_enter:Tryz.prog.mayEnter = true:=enter_of _ io_all no_later no_reflect door_fits
theorem fact_lifts:(false == Tryz.prog.liftsFinal) = true:=lifts_of _ io_all
theorem fact_make:(Tryz.prog.make == some .cut) = true:=make_of _ io_all
theorem fact_laid:laidOutB Tryz.prog = true:=by kernel_rfl
theorem fact_maps:mapsRowed Tryz.prog = true:=by kernel_rfl
theorem fact_heard:Tryz.prog.stopsHeard = true:=by kernel_rfl
end Go.Proofs.YtnpeokiboiclfaaGreat
