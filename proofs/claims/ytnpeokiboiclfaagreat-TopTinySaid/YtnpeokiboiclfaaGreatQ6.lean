/- Part 6 of what the proof leans on: a symbolic execution of the model, walks of the program's functions, and the mathematics. No condition. -/
import Derived.WalkKit
import Derived.Orders
import Derived.Laws.StructEq
import Derived.WalkSpells
import Derived.OrdersHeld
import Derived.KernelRfl
import Derived.Laws.Externs
import Derived.Laws.Bits64
import Derived.Laws.MakeOwn
import Derived.Laws.BytesString
import Derived.Carry
import Derived.WideShapes
import GoSem.Claim
import Derived.Test.YtnpeokiboiclfaaGreatProg
import Derived.Deep.Upon
import Derived.Shelf.Strings.Repeat
import Derived.Ground.NamesProg
import Derived.Lib.Agree
import Derived.Shelf.Strings.Builder1
import Derived.Laws.AppendOwn
import Derived.Lib.ConvBytes
import Derived.Laws.CopyRow
import Derived.MapKept
import Derived.Test.YtnpeokiboiclfaaGreatRows
import Derived.ProofKit
import Derived.OpenShut
import Derived.SizedLaws
import Derived.ChangeMaps5
import Derived.Test.YtnpeokiboiclfaaGreatQ5
set_option linter.unusedVariables false
set_option linter.unusedSimpArgs false
set_option maxRecDepth 20000
namespace Go.Proofs.YtnpeokiboiclfaaGreat
open Go Go.RowKit
def opsL:List Value:=[.func (.func 103) #[] #[],.func (.func 104) #[] #[],.func (.func 105) #[] #[],.func (.func 106) #[] #[],.func (.func 107) #[] #[],.func (.func 108) #[] #[],.func (.func 109) #[] #[],.func (.func 110) #[] #[],.func (.func 111) #[] #[],.func (.func 112) #[] #[],.func (.func 113) #[] #[],.func (.func 114) #[] #[],.func (.func 115) #[] #[],.func (.func 116) #[] #[],.func (.func 117) #[] #[],.func (.func 118) #[] #[]]
theorem c_pOps  (w:World) (hH:∀ x,x∈([]++[]:List Item)→x.holds w) (hd:([]++[]:List Item).Pairwise Apart)  : Calls Tryz.prog 60 ([]:List Value).toArray w (fun e w'=>∃ (u:Value) (x':Item),(∃ b,u = .slice (some ⟨b,0,none⟩) 16 16∧x' = .blk b ⟨true,opsL,126,(0,0)⟩)∧e = .returned u∧Outcome w [] [x'] w'):=by
  refine Kz [] (N:=2) (rs:=[.tmp 0]) Tryz.func60 rfl Tryz.ntmps60 Tryz.results60 (Nb rfl) hH hd rfl rfl ?_
  refine KB (KA (oA (KC (KB (KA ?_)))));refine oS (mk (KAI u118 inf_126 rfl rfl rfl rfl dc rfl) (fun b1=>?_));refine oA (KC (KM ?_));refine ⟨[_],.cons rfl .nil,fun a w' hr=>⟨_,_,⟨b1,rfl,rfl⟩,rfl,hr.out mS rfl⟩⟩
theorem c_pDo (pb fb c n mb tb:Nat) (dv:Value) (Y:List Item) (hY:Y.all (·.wr) = true) (Q:Nat→ByteArray→Nat→Bool→Item→List Item→Prop) (fo k cv ha hh nn:Nat) (ca cc cx:ByteArray) (he:KX Tryz.prog fo) (ho:opsL[k]? = some (.func (.func fo) #[] #[])) (hk:k<16) (hop:∀ (cb:Nat) (w:World),(∀ x,x∈((Item.blk pb ⟨true,[.int .i64 ((1:Nat):Int),dv,.slice (some ⟨fb,0,none⟩) n c,.map (some mb),trV (some tb)],124,(0,0)⟩) :: Y)++[Item.blk cb ⟨false,calL k cv ha hh nn ca cc cx,68,(0,0)⟩]→x.holds w)→(((Item.blk pb ⟨true,[.int .i64 ((1:Nat):Int),dv,.slice (some ⟨fb,0,none⟩) n c,.map (some mb),trV (some tb)],124,(0,0)⟩) :: Y)++[Item.blk cb ⟨false,calL k cv ha hh nn ca cc cx,68,(0,0)⟩]).Pairwise Apart→CallsM Tryz.prog fo [Value.pointer (some ⟨pb,0,none⟩),Value.pointer (some ⟨cb,0,none⟩)] ((Item.blk pb ⟨true,[.int .i64 ((1:Nat):Int),dv,.slice (some ⟨fb,0,none⟩) n c,.map (some mb),trV (some tb)],124,(0,0)⟩) :: Y) w (fun v X'=>∃ p' Y',X' = p' :: Y'∧∃ c o h b,v = ansV c o h b∧p'.wr = true∧Q c o h b p' Y')) (w:World) (hH:∀ x,x∈([.blk pb ⟨true,[.int .i64 ((1:Nat):Int),dv,.slice (some ⟨fb,0,none⟩) n c,.map (some mb),trV (some tb)],124,(0,0)⟩,gpI Y]++[]:List Item)→x.holds w) (hd:([.blk pb ⟨true,[.int .i64 ((1:Nat):Int),dv,.slice (some ⟨fb,0,none⟩) n c,.map (some mb),trV (some tb)],124,(0,0)⟩,gpI Y]++[]:List Item).Pairwise Apart)  : Calls Tryz.prog 28 ([.pointer (some ⟨pb,0,none⟩),(.agg (calL k cv ha hh nn ca cc cx).toArray:Value)]:List Value).toArray w (fun e w'=>∃ (u:Value) (x':Item) (y':Item),(∃ c o h b Y',u = ansV c o h b∧Q c o h b x' Y'∧y' = gpI Y')∧e = .returned u∧Outcome w [.blk pb ⟨true,[.int .i64 ((1:Nat):Int),dv,.slice (some ⟨fb,0,none⟩) n c,.map (some mb),trV (some tb)],124,(0,0)⟩,gpI Y] [x',y'] w'):=by
  refine Kz [.blk pb ⟨true,[.int .i64 ((1:Nat):Int),dv,.slice (some ⟨fb,0,none⟩) n c,.map (some mb),trV (some tb)],124,(0,0)⟩,gpI Y] (N:=64) (rs:=[.cell 4 65]) Tryz.func28 rfl Tryz.ntmps28 Tryz.results28 (Nb rfl) hH hd rfl rfl ?_
  refine KB (KA ?_);refine oS (mB (fun b3=>?_));refine oS (mk (KK zr_65) (fun b4=>?_));refine KC (KB (KA ?_));refine LOps.step rfl (Ke (first:=[]) (caps:=[]) (X:=[]) (RO:=[]) rfl en_60 rfl (Nb rfl) sR wK (fun w hH hd=>c_pOps w hH hd) ?_)
  rintro _ _ ⟨ob,rfl,rfl⟩
  refine oA (KC (KB (LCode.block (KB (KA (oM ?_))))));refine oP (KJ (KAR u61 rfl rfl) (show _ = Value.bool false from rfl)) ?_;refine oA (KC ?_);refine KI rfl ?_;refine KB (KA ?_);refine oP (KD (o':=0) u68 rfl rfl rfl sz_3 dc) ?_;refine oD (dL rfl (hv:=KH u3 rfl gL)) ?_;refine oP (KF (v:=.bool false) rfl rfl (br_f (Ks (b:=0)) om)) ?_;refine oM ?_;refine oGP (KD (o':=0) u68 rfl rfl rfl sz_3 dc) ?_;refine Ky rfl rfl (dL rfl (hv:=KH u3 rfl gL)) (Nb rfl) ?_;refine oGM ?_;refine oGP (KBK u118 rfl) ?_;refine oGP (KF (v:=.bool false) rfl rfl (br_f KBL om)) ?_;refine oP (KT rfl rfl) ?_;refine oA (KC ?_);refine KI rfl ?_;refine KB (KA (oM ?_));refine oP (KG rfl) ?_;refine oP (KD (o':=0) u124 rfl rfl rfl sz_3 dc) ?_;refine oD (dL rfl (hv:=KH u3 rfl (rfl))) ?_;refine oP (KF (v:=.bool false) rfl rfl (br_f (KAK (b:=2)) dc)) ?_
  refine oM ?_;refine oK ?_;refine oK ?_;refine oK ?_;refine oP (KT rfl rfl) ?_;refine oA (KC ?_);refine KI rfl ?_;refine KB (KA (oM ?_));refine oP (KG rfl) ?_;refine oP (KD (o':=0) u124 rfl rfl rfl sz_3 dc) ?_;refine oD (dL rfl (hv:=KH u3 rfl (rfl))) ?_;refine oP (KF (v:=.bool false) rfl rfl (br_f (KAK (b:=0)) dc)) ?_;refine oM ?_;refine oK ?_;refine oK ?_;refine oK ?_;refine oP (KT rfl rfl) ?_;refine oM ?_;refine oK ?_;refine oK ?_;refine oK ?_;refine oP (KT rfl rfl) ?_;refine oM ?_;refine oK ?_;refine oK ?_;refine oK ?_;refine oP (KT rfl rfl) ?_;refine oA (KC ?_);refine KI rfl ?_;refine KN (KB (KA (oM ?_)));refine oP (KD (o':=0) u68 rfl rfl rfl sz_3 dc) ?_;refine oD (dL rfl (hv:=KH u3 rfl gL)) ?_;refine oP (Kv u118 sz_126 rfl rfl om) ?_;refine oD (dL rfl (hv:=KH u126 rfl (by exact ho))) ?_;refine oM ?_
  refine LOps.step rfl (KAF (Post:=fun v p' g'=>∃ Y' c o h b,g' = gpI Y'∧v = ansV c o h b∧p'.wr = true∧Q c o h b p' Y') (X:=[.blk pb ⟨true,[.int .i64 ((1:Nat):Int),dv,.slice (some ⟨fb,0,none⟩) n c,.map (some mb),trV (some tb)],124,(0,0)⟩,gpI Y]) (RO:=[.blk b3 ⟨false,calL k cv ha hh nn ca cc cx,68,(0,0)⟩]) (first:=[]) (caps:=[]) rfl he rfl (Nb rfl) sR wK (fun w hH hd=>(CallsM.grp (Q:=fun v p' Y'=>∃ c o h b,v = ansV c o h b∧p'.wr = true∧Q c o h b p' Y') hY rfl (hop b3) hH hd).mono fun e w' ⟨v,p',Y',⟨c,o,h,b,hv,hw',hq⟩,he',ho⟩=>⟨v,p',gpI Y',⟨Y',c,o,h,b,rfl,hv,hw',hq⟩,he',ho⟩) ?_)
  rintro _ p1 _ ⟨Y1,c1,o1,h1,b1,rfl,rfl,hp1,hq1⟩
  refine LOps.step rfl (sA rfl rfl sz_65 (by exact KBP _ _ _ _) (hl:=by rfl) (h:=?_));refine KC (KM ?_);refine ⟨[_],.cons ⟨_,_,_,rfl,mM,by exact KE u65 rfl sz_65⟩ .nil,fun a w' hr=>⟨_,_,_,⟨c1,o1,h1,b1,Y1,rfl,hq1,rfl⟩,rfl,hr.out mS (by simp [hp1]; rfl)⟩⟩
theorem c_pDo0 (pb fb c n mb tb:Nat) (dv:Value) (Y:List Item) (hY:Y.all (·.wr) = true) (Q:Nat→ByteArray→Nat→Bool→Item→List Item→Prop) (fo k cv ha hh nn:Nat) (ca cc cx:ByteArray) (he:KX Tryz.prog fo) (ho:opsL[k]? = some (.func (.func fo) #[] #[])) (hk:k = 0∨k = 1) (hop:∀ (cb:Nat) (w:World),(∀ x,x∈((Item.blk pb ⟨true,[.int .i64 ((0:Nat):Int),dv,.slice (some ⟨fb,0,none⟩) n c,.map (some mb),trV (some tb)],124,(0,0)⟩) :: Y)++[Item.blk cb ⟨false,calL k cv ha hh nn ca cc cx,68,(0,0)⟩]→x.holds w)→(((Item.blk pb ⟨true,[.int .i64 ((0:Nat):Int),dv,.slice (some ⟨fb,0,none⟩) n c,.map (some mb),trV (some tb)],124,(0,0)⟩) :: Y)++[Item.blk cb ⟨false,calL k cv ha hh nn ca cc cx,68,(0,0)⟩]).Pairwise Apart→CallsM Tryz.prog fo [Value.pointer (some ⟨pb,0,none⟩),Value.pointer (some ⟨cb,0,none⟩)] ((Item.blk pb ⟨true,[.int .i64 ((0:Nat):Int),dv,.slice (some ⟨fb,0,none⟩) n c,.map (some mb),trV (some tb)],124,(0,0)⟩) :: Y) w (fun v X'=>∃ p' Y',X' = p' :: Y'∧∃ c o h b,v = ansV c o h b∧p'.wr = true∧Q c o h b p' Y')) (w:World) (hH:∀ x,x∈([.blk pb ⟨true,[.int .i64 ((0:Nat):Int),dv,.slice (some ⟨fb,0,none⟩) n c,.map (some mb),trV (some tb)],124,(0,0)⟩,gpI Y]++[]:List Item)→x.holds w) (hd:([.blk pb ⟨true,[.int .i64 ((0:Nat):Int),dv,.slice (some ⟨fb,0,none⟩) n c,.map (some mb),trV (some tb)],124,(0,0)⟩,gpI Y]++[]:List Item).Pairwise Apart)  : Calls Tryz.prog 28 ([.pointer (some ⟨pb,0,none⟩),(.agg (calL k cv ha hh nn ca cc cx).toArray:Value)]:List Value).toArray w (fun e w'=>∃ (u:Value) (x':Item) (y':Item),(∃ c o h b Y',u = ansV c o h b∧Q c o h b x' Y'∧y' = gpI Y')∧e = .returned u∧Outcome w [.blk pb ⟨true,[.int .i64 ((0:Nat):Int),dv,.slice (some ⟨fb,0,none⟩) n c,.map (some mb),trV (some tb)],124,(0,0)⟩,gpI Y] [x',y'] w'):=by
  refine Kz [.blk pb ⟨true,[.int .i64 ((0:Nat):Int),dv,.slice (some ⟨fb,0,none⟩) n c,.map (some mb),trV (some tb)],124,(0,0)⟩,gpI Y] (N:=64) (rs:=[.cell 4 65]) Tryz.func28 rfl Tryz.ntmps28 Tryz.results28 (Nb rfl) hH hd rfl rfl ?_
  refine KB (KA ?_);refine oS (mB (fun b3=>?_));refine oS (mk (KK zr_65) (fun b4=>?_));refine KC (KB (KA ?_));refine LOps.step rfl (Ke (first:=[]) (caps:=[]) (X:=[]) (RO:=[]) rfl en_60 rfl (Nb rfl) sR wK (fun w hH hd=>c_pOps w hH hd) ?_)
  rintro _ _ ⟨ob,rfl,rfl⟩
  refine oA (KC (KB (LCode.block (KB (KA (oM ?_))))));refine oP (KJ (KAR u61 rfl rfl) (show _ = Value.bool false from rfl)) ?_;refine oA (KC ?_);refine KI rfl ?_;refine KB (KA ?_);refine oP (KD (o':=0) u68 rfl rfl rfl sz_3 dc) ?_;refine oD (dL rfl (hv:=KH u3 rfl gL)) ?_;refine oP (KF (v:=.bool false) rfl rfl (br_f (Ks (b:=0)) om)) ?_;refine oM ?_;refine oGP (KD (o':=0) u68 rfl rfl rfl sz_3 dc) ?_;refine Ky rfl rfl (dL rfl (hv:=KH u3 rfl gL)) (Nb rfl) ?_;refine oGM ?_;refine oGP (KBK u118 rfl) ?_;refine oGP (KF (v:=.bool false) rfl rfl (br_f KBL om)) ?_;refine oP (KT rfl rfl) ?_;refine oA (KC ?_);refine KI rfl ?_;refine KB (KA (oM ?_));refine oP (KG rfl) ?_;refine oP (KD (o':=0) u124 rfl rfl rfl sz_3 dc) ?_;refine oD (dL rfl (hv:=KH u3 rfl (rfl))) ?_;refine oP (KF (v:=.bool false) rfl rfl (br_f (KAK (b:=2)) dc)) ?_
  refine oM ?_;refine oK ?_;refine oK ?_;refine oK ?_;refine oP (KT rfl rfl) ?_;refine oA (KC ?_);refine KI rfl ?_;refine KB ?_
  rcases hk with hk|hk
  ·
   refine KA (oM ?_);refine oP (KG rfl) ?_;refine oP (KD (o':=0) u124 rfl rfl rfl sz_3 dc) ?_;refine oD (dL rfl (hv:=KH u3 rfl (rfl))) ?_;refine oP (KF (v:=.bool true) rfl rfl (br_t (KAK (b:=0)) dc)) ?_;refine oM ?_;refine oGP (KD (o':=0) u68 rfl rfl rfl sz_3 dc) ?_;refine Ky rfl rfl (dL rfl (hv:=KH u3 rfl gL)) (Nb rfl) ?_;refine oGP (KF (v:=.bool false) rfl rfl (br_f (KAd (b:=0)) om)) ?_;refine oP (Kf rfl rfl) ?_;refine oM ?_;refine oK ?_;refine oK ?_;refine oK ?_;refine oP (KT rfl rfl) ?_;refine oM ?_;refine oK ?_;refine oK ?_;refine oK ?_;refine oP (KT rfl rfl) ?_;refine oA (KC ?_);refine KI rfl ?_;refine KN (KB (KA (oM ?_)));refine oP (KD (o':=0) u68 rfl rfl rfl sz_3 dc) ?_;refine oD (dL rfl (hv:=KH u3 rfl gL)) ?_;refine oP (Kv u118 sz_126 rfl rfl om) ?_;refine oD (dL rfl (hv:=KH u126 rfl (by exact ho))) ?_
   refine oM ?_;refine LOps.step rfl (KAF (Post:=fun v p' g'=>∃ Y' c o h b,g' = gpI Y'∧v = ansV c o h b∧p'.wr = true∧Q c o h b p' Y') (X:=[.blk pb ⟨true,[.int .i64 ((0:Nat):Int),dv,.slice (some ⟨fb,0,none⟩) n c,.map (some mb),trV (some tb)],124,(0,0)⟩,gpI Y]) (RO:=[.blk b3 ⟨false,calL k cv ha hh nn ca cc cx,68,(0,0)⟩]) (first:=[]) (caps:=[]) rfl he rfl (Nb rfl) sR wK (fun w hH hd=>(CallsM.grp (Q:=fun v p' Y'=>∃ c o h b,v = ansV c o h b∧p'.wr = true∧Q c o h b p' Y') hY rfl (hop b3) hH hd).mono fun e w' ⟨v,p',Y',⟨c,o,h,b,hv,hw',hq⟩,he',ho⟩=>⟨v,p',gpI Y',⟨Y',c,o,h,b,rfl,hv,hw',hq⟩,he',ho⟩) ?_)
   rintro _ p1 _ ⟨Y1,c1,o1,h1,b1,rfl,rfl,hp1,hq1⟩
   refine LOps.step rfl (sA rfl rfl sz_65 (by exact KBP _ _ _ _) (hl:=by rfl) (h:=?_));refine KC (KM ?_);refine ⟨[_],.cons ⟨_,_,_,rfl,mM,by exact KE u65 rfl sz_65⟩ .nil,fun a w' hr=>⟨_,_,_,⟨c1,o1,h1,b1,Y1,rfl,hq1,rfl⟩,rfl,hr.out mS (by simp [hp1]; rfl)⟩⟩
  refine KA (oM ?_);refine oP (KG rfl) ?_;refine oP (KD (o':=0) u124 rfl rfl rfl sz_3 dc) ?_;refine oD (dL rfl (hv:=KH u3 rfl (rfl))) ?_;refine oP (KF (v:=.bool true) rfl rfl (br_t (KAK (b:=0)) dc)) ?_;refine oM ?_;refine oGP (KD (o':=0) u68 rfl rfl rfl sz_3 dc) ?_;refine Ky rfl rfl (dL rfl (hv:=KH u3 rfl gL)) (Nb rfl) ?_;refine oGP (KF (v:=.bool true) rfl rfl (br_t (KAd (b:=0)) om)) ?_;refine oP (Kf rfl rfl) ?_;refine oM ?_;refine oGP (KD (o':=0) u68 rfl rfl rfl sz_3 dc) ?_;refine Ky rfl rfl (dL rfl (hv:=KH u3 rfl gL)) (Nb rfl) ?_;refine oGP (KF (v:=.bool false) rfl rfl (br_f (KAd (b:=1)) om)) ?_;refine oP (Kf rfl rfl) ?_;refine oM ?_;refine oK ?_;refine oK ?_;refine oK ?_;refine oP (KT rfl rfl) ?_;refine oA (KC ?_);refine KI rfl ?_;refine KN (KB (KA (oM ?_)));refine oP (KD (o':=0) u68 rfl rfl rfl sz_3 dc) ?_
  refine oD (dL rfl (hv:=KH u3 rfl gL)) ?_;refine oP (Kv u118 sz_126 rfl rfl om) ?_;refine oD (dL rfl (hv:=KH u126 rfl (by exact ho))) ?_;refine oM ?_;refine LOps.step rfl (KAF (Post:=fun v p' g'=>∃ Y' c o h b,g' = gpI Y'∧v = ansV c o h b∧p'.wr = true∧Q c o h b p' Y') (X:=[.blk pb ⟨true,[.int .i64 ((0:Nat):Int),dv,.slice (some ⟨fb,0,none⟩) n c,.map (some mb),trV (some tb)],124,(0,0)⟩,gpI Y]) (RO:=[.blk b3 ⟨false,calL k cv ha hh nn ca cc cx,68,(0,0)⟩]) (first:=[]) (caps:=[]) rfl he rfl (Nb rfl) sR wK (fun w hH hd=>(CallsM.grp (Q:=fun v p' Y'=>∃ c o h b,v = ansV c o h b∧p'.wr = true∧Q c o h b p' Y') hY rfl (hop b3) hH hd).mono fun e w' ⟨v,p',Y',⟨c,o,h,b,hv,hw',hq⟩,he',ho⟩=>⟨v,p',gpI Y',⟨Y',c,o,h,b,rfl,hv,hw',hq⟩,he',ho⟩) ?_)
  rintro _ p1 _ ⟨Y1,c1,o1,h1,b1,rfl,rfl,hp1,hq1⟩
  refine LOps.step rfl (sA rfl rfl sz_65 (by exact KBP _ _ _ _) (hl:=by rfl) (h:=?_));refine KC (KM ?_);refine ⟨[_],.cons ⟨_,_,_,rfl,mM,by exact KE u65 rfl sz_65⟩ .nil,fun a w' hr=>⟨_,_,_,⟨c1,o1,h1,b1,Y1,rfl,hq1,rfl⟩,rfl,hr.out mS (by simp [hp1]; rfl)⟩⟩
abbrev pB (s pb fb c n mb tb:Nat) (dv:Value):Item:=.blk pb ⟨true,[.int .i64 ((s:Nat):Int),dv,.slice (some ⟨fb,0,none⟩) n c,.map (some mb),trV (some tb)],124,(0,0)⟩
abbrev rW (fb n:Nat) (f:Nat→Nat) (rest:List Value):Item:=.blk fb ⟨true,vec .i64 n f++rest,3,(0,0)⟩
abbrev cB (cb op cv ha hh nn:Nat) (ca cc cx:ByteArray):Item:=.blk cb ⟨false,calL op cv ha hh nn ca cc cx,68,(0,0)⟩
abbrev dB (d:Nat) (K U:ByteArray) (n:Nat):Item:=.blk d ⟨true,gnL 2 K U (n),79,(0,0)⟩
abbrev DoR (w:World) (pb:Nat) (cs:List Value) (p:Item) (Y:List Item) (Q:Value→Item→Item→Prop):Prop :=
  Calls Tryz.prog 28 ([.pointer (some ⟨pb,0,none⟩),.agg cs.toArray]:List Value).toArray w (fun e w'=>∃ (u:Value) (x' y':Item),Q u x' y'∧e = .returned u∧Outcome w [p,gpI Y] [x',y'] w')
theorem wkCB {R:List Item} {cb op cv ha hh nn:Nat} {ca cc cx:ByteArray}:Weaks (R++[cB cb op cv ha hh nn ca cc cx]) [cB cb op cv ha hh nn ca cc cx]:=Weaks.cons (List.mem_append.2 (.inr (.head _))) Weak.blk (Weaks.nil _)
theorem c_doStart (pb fb c n mb tb : Nat) (Y : List Item) (hY : Y.all (·.wr) = true) (et : ByteArray) (h1 : 16 ≤ et.size) (h2 : et.size ≤ 256) (w : World) (hH : ∀ x, x ∈ ([pB 0 pb fb c n mb tb (.pointer none), gpI Y] ++ [] : List Item) → x.holds w) (hd : ([pB 0 pb fb c n mb tb (.pointer none), gpI Y] ++ [] : List Item).Pairwise Apart) :
    DoR w pb (calL 0 0 0 0 0 et ⟨#[]⟩ ⟨#[]⟩) (pB 0 pb fb c n mb tb (.pointer none)) Y (fun u x' y'=>∃ d,u = ansV 0 ⟨#[]⟩ 0 false∧x' = pB 0 pb fb c n mb tb (.pointer (some ⟨d,0,none⟩))∧y' = gpI (Y++[dB d (upd 2 (et++⟨#[]⟩++⟨#[]⟩) (toS (List.replicate (hsize 2) 0),toS (List.replicate (hsize 2) 1))).1 (upd 2 (et++⟨#[]⟩++⟨#[]⟩) (toS (List.replicate (hsize 2) 0),toS (List.replicate (hsize 2) 1))).2 1])):=by
  refine (c_pDo0 pb fb c n mb tb (.pointer none) Y hY (fun c0 o h b p' Y'=>c0 = 0∧o = ⟨#[]⟩∧h = 0∧b = false∧∃ d,p' = pB 0 pb fb c n mb tb (.pointer (some ⟨d,0,none⟩))∧Y' = Y++[dB d (upd 2 (et++⟨#[]⟩++⟨#[]⟩) (toS (List.replicate (hsize 2) 0),toS (List.replicate (hsize 2) 1))).1 (upd 2 (et++⟨#[]⟩++⟨#[]⟩) (toS (List.replicate (hsize 2) 0),toS (List.replicate (hsize 2) 1))).2 1]) 103 0 0 0 0 0 et ⟨#[]⟩ ⟨#[]⟩ en_103 rfl (.inl rfl) (fun cb w1 g1 g2=>?_) w hH hd).mono ?_
  · refine CallsM.frame (X:=[pB 0 pb fb c n mb tb (.pointer none)]) (R:=Y) (List.Perm.refl _) wkCB hY g1 g2 (fun a b=>CallsM.of2 (c_pStart pb fb c n mb tb cb 0 0 0 0 0 et ⟨#[]⟩ ⟨#[]⟩ h1 h2 dc dc w1 a b)) ?_
    rintro v _ ⟨x',y',rfl,d,rfl,rfl,rfl⟩
    exact ⟨_,List.Perm.cons _ List.perm_append_comm,_,_,rfl,0,_,0,false,rfl,rfl,rfl,rfl,rfl,rfl,d,rfl,rfl⟩
  · rintro e w' ⟨u,x',y',⟨c0,o,h,b,Y',rfl,⟨rfl,rfl,rfl,rfl,d,rfl,rfl⟩,rfl⟩,he,ho⟩
    exact ⟨_,_,_,⟨d,rfl,rfl,rfl⟩,he,ho⟩
theorem c_doSelf (pb fb c n mb tb d : Nat) (Y : List Item) (hY : Y.all (·.wr) = true) (w : World) (hH : ∀ x, x ∈ ([pB 0 pb fb c n mb tb (.pointer (some ⟨d, 0, none⟩)), gpI Y] ++ [] : List Item) → x.holds w) (hd : ([pB 0 pb fb c n mb tb (.pointer (some ⟨d, 0, none⟩)), gpI Y] ++ [] : List Item).Pairwise Apart) :
    DoR w pb (calL 1 0 0 0 0 ⟨#[]⟩ ⟨#[]⟩ ⟨#[]⟩) (pB 0 pb fb c n mb tb (.pointer (some ⟨d,0,none⟩))) Y (fun u x' y'=>u = ansV 0 ⟨#[]⟩ 0 false∧x' = pB 1 pb fb c n mb tb (.pointer (some ⟨d,0,none⟩))∧y' = gpI Y):=by
  refine (c_pDo0 pb fb c n mb tb _ Y hY (fun c0 o h b p' Y'=>c0 = 0∧o = ⟨#[]⟩∧h = 0∧b = false∧p' = pB 1 pb fb c n mb tb (.pointer (some ⟨d,0,none⟩))∧Y' = Y) 104 1 0 0 0 0 ⟨#[]⟩ ⟨#[]⟩ ⟨#[]⟩ en_104 rfl (.inr rfl) (fun cb w1 g1 g2=>?_) w hH hd).mono ?_
  · refine CallsM.frame (X:=[pB 0 pb fb c n mb tb (.pointer (some ⟨d,0,none⟩))]) (R:=Y) (List.Perm.refl _) wkCB hY g1 g2 (fun a b=>CallsM.of1 (c_pSelf pb fb c n mb tb d cb 1 0 0 0 ⟨#[]⟩ ⟨#[]⟩ ⟨#[]⟩ w1 a b)) ?_
    rintro v _ ⟨x',rfl,rfl,rfl⟩
    exact ⟨_,List.Perm.refl _,_,_,rfl,0,_,0,false,rfl,rfl,rfl,rfl,rfl,rfl,rfl,rfl⟩
  · rintro e w' ⟨u,x',y',⟨c0,o,h,b,Y',rfl,⟨rfl,rfl,rfl,rfl,rfl,rfl⟩,rfl⟩,he,ho⟩
    exact ⟨_,_,_,⟨rfl,rfl,rfl⟩,he,ho⟩
theorem ba_self (a:ByteArray):(a == a) = true:=by rw [MapKept.bytes_beq]
theorem eq_ansT (c:Nat) (o:ByteArray) (h:Nat) (b:Bool):EqD 2 Tryz.prog 65 (ansV c o h b) (ansV c o h b) true:=by
  have:=EqD.struct (P:=Tryz.prog) (t:=65) (fs:=[_,_,_,_]) (xs:=(ansL c o h b).toArray) (ys:=(ansL c o h b).toArray) u65 kr (EqFs.cons dc (KBE u3 rfl rfl) (KBE u3 rfl rfl) (EqD.int u3)
    (EqFs.cons dc (KBE u9 rfl rfl) (KBE u9 rfl rfl) (EqD.str u9) (EqFs.cons dc (KBE u3 rfl rfl) (KBE u3 rfl rfl) (EqD.int u3)
    (EqFs.cons dc (KBE u4 rfl rfl) (KBE u4 rfl rfl) (EqD.bool u4) EqFs.nil))))
  rwa [show (((c:Int) == (c:Int)) && ((o == o) && (((h:Int) == (h:Int)) && ((b == b) && true)))) = true by rw [ba_self]; simp] at this
theorem c_ready (s:ByteArray) (hs0:s.size<9223372036854775808) (Z:ByteArray×ByteArray) (hZ:(upd 2 ((shS s 100++(⟨#[48,49,50,51,52,53,54,55,56,57,97,98,99,100,101,102,48,49,50,51,52,53,54,55,56,57,97,98,99,100,101,102]⟩:ByteArray))++⟨#[]⟩++⟨#[]⟩) (toS (List.replicate (hsize 2) 0),toS (List.replicate (hsize 2) 1))) = Z) (w:World) (hH:∀ x,x∈([]++[]:List Item)→x.holds w) (hd:([]++[]:List Item).Pairwise Apart)  : Calls Tryz.prog 27 ([.string s]:List Value).toArray w (fun e w'=>∃ (u:Value) (x':Item) (y':Item),(∃ pb fb c mb tb d rest,64≤c∧u = .tuple #[.pointer (some ⟨pb,0,none⟩),.bool true]∧x' = pB 1 pb fb c 64 mb tb (.pointer (some ⟨d,0,none⟩))∧y' = gpI [rW fb 64 (fun i=>i) rest,mpI mb none,trI (some tb) none [],dB d Z.1 Z.2 1])∧e = .returned u∧Outcome w [] [x',y'] w'):=by
  have hsz1:(shS s 100).size≤100:=shS_size s 100
  have hsz:(shS s 100++(⟨#[48,49,50,51,52,53,54,55,56,57,97,98,99,100,101,102,48,49,50,51,52,53,54,55,56,57,97,98,99,100,101,102]⟩:ByteArray)).size = (shS s 100).size+32:=by rw [ByteArray.size_append]; rfl
  refine Kz [] (N:=26) (rs:=[.tmp 2,.tmp 3]) Tryz.func27 rfl Tryz.ntmps27 Tryz.results27 (Nb rfl) hH hd rfl rfl ?_
  refine KB (KA (oA (oA (KC (KB (KA ?_))))));refine LOps.step rfl (KAF (first:=[]) (caps:=[]) (X:=[]) (RO:=[]) rfl en_59 rfl (Nb rfl) sR wK (fun w hH hd=>c_pNew w hH hd) ?_)
  rintro _ _ _ ⟨pb,fb,c,mb,tb,rest,hcap,rfl,rfl,rfl⟩
  refine oA (KC (KB (KA (oM (oM ?_)))));refine oS (cF rfl en_12 rfl (fun w hw=>c_short s 100 w) ?_);refine oP (KAh rfl rfl (Nat.le_trans (Nat.add_le_add_right hsz1 32) dc)) ?_;refine oP (Kb pl_68 zr_68 rfl (fT (r':=([.int .i64 ((0:Nat):Int)]++([Value.int .i64 ((0:Nat):Int)]++([Value.int .i64 ((0:Nat):Int)]++([Value.int .i64 ((0:Nat):Int)]++([Value.int .i64 ((0:Nat):Int)]++([.string (shS s 100++(⟨#[48,49,50,51,52,53,54,55,56,57,97,98,99,100,101,102,48,49,50,51,52,53,54,55,56,57,97,98,99,100,101,102]⟩:ByteArray))]++([Value.string ⟨#[]⟩]++([Value.string ⟨#[]⟩]))))))))) (fS (A:=([]:List Value)) (B:=([Value.int .i64 ((0:Nat):Int)])) (D:=([Value.int .i64 ((0:Nat):Int)]++([Value.int .i64 ((0:Nat):Int)]++([Value.int .i64 ((0:Nat):Int)]++([Value.int .i64 ((0:Nat):Int)]++([Value.string ⟨#[]⟩]++([Value.string ⟨#[]⟩]++([Value.string ⟨#[]⟩])))))))) (cs:=[.int .i64 ((0:Nat):Int)]) (fS (A:=([.int .i64 ((0:Nat):Int)]++([Value.int .i64 ((0:Nat):Int)]++([Value.int .i64 ((0:Nat):Int)]++([Value.int .i64 ((0:Nat):Int)]++([Value.int .i64 ((0:Nat):Int)])))))) (B:=([Value.string ⟨#[]⟩])) (D:=([Value.string ⟨#[]⟩]++([Value.string ⟨#[]⟩]))) (cs:=[.string (shS s 100++(⟨#[48,49,50,51,52,53,54,55,56,57,97,98,99,100,101,102,48,49,50,51,52,53,54,55,56,57,97,98,99,100,101,102]⟩:ByteArray))]) rfl)))) ?_
  refine LOps.step rfl (KAF (first:=[]) (caps:=[]) (X:=[pB 0 pb fb c 64 mb tb (.pointer none),gpI [rW fb 64 (fun i=>i) rest,mpI mb none,trI (some tb) none []]]) (RO:=[]) rfl en_28 rfl (Nb rfl) sR wK (fun w hH hd=>c_doStart pb fb c 64 mb tb [rW fb 64 (fun i=>i) rest,mpI mb none,trI (some tb) none []] rfl (shS s 100++(⟨#[48,49,50,51,52,53,54,55,56,57,97,98,99,100,101,102,48,49,50,51,52,53,54,55,56,57,97,98,99,100,101,102]⟩:ByteArray)) (by rw [hsz]; omega) (by rw [hsz]; omega) w hH hd) ?_)
  rintro _ _ _ ⟨d,rfl,rfl,rfl⟩
  rw [hZ]
  refine oS (mk (KK zr_65) (fun b5=>?_));refine LOps.step rfl (sA rfl rfl sz_65 (by exact KBP 0 ⟨#[]⟩ 0 false) (hl:=by rfl) (h:=?_));refine KC (KB (KA (oM ?_)));refine oP (Kb pl_68 zr_68 rfl (fT (r':=([.int .i64 ((1:Nat):Int)]++([Value.int .i64 ((0:Nat):Int)]++([Value.int .i64 ((0:Nat):Int)]++([Value.int .i64 ((0:Nat):Int)]++([Value.int .i64 ((0:Nat):Int)]++([Value.string ⟨#[]⟩]++([Value.string ⟨#[]⟩]++([Value.string ⟨#[]⟩]))))))))) (fS (A:=([]:List Value)) (B:=([Value.int .i64 ((0:Nat):Int)])) (D:=([Value.int .i64 ((0:Nat):Int)]++([Value.int .i64 ((0:Nat):Int)]++([Value.int .i64 ((0:Nat):Int)]++([Value.int .i64 ((0:Nat):Int)]++([Value.string ⟨#[]⟩]++([Value.string ⟨#[]⟩]++([Value.string ⟨#[]⟩])))))))) (cs:=[.int .i64 ((1:Nat):Int)]) rfl))) ?_;refine LOps.step rfl (KAF (first:=[]) (caps:=[]) (X:=[pB 0 pb fb c 64 mb tb (.pointer (some ⟨d,0,none⟩)),gpI [rW fb 64 (fun i=>i) rest,mpI mb none,trI (some tb) none [],dB d Z.1 Z.2 1]]) (RO:=[]) rfl en_28 rfl (Nb rfl) sR wK (fun w hH hd=>c_doSelf pb fb c 64 mb tb d [rW fb 64 (fun i=>i) rest,mpI mb none,trI (some tb) none [],dB d Z.1 Z.2 1] rfl w hH hd) ?_)
  rintro _ _ _ ⟨rfl,rfl,rfl⟩
  refine oS (mk (KK zr_65) (fun b6=>?_));refine LOps.step rfl (sA rfl rfl sz_65 (by exact KBP 0 ⟨#[]⟩ 0 false) (hl:=by rfl) (h:=?_));refine KC (KB ?_);refine rD [] ?_;refine aM 0 ?_;refine aD 1 rfl (dL rfl (hv:=by exact KE u65 rfl sz_65)) ?_;refine aP 2 rfl (Kb pl_65 zr_65 rfl rfl) ?_;refine aP 3 rfl (KJ (KCL kr (fun w=>eq_ansT 0 ⟨#[]⟩ 0 false 10000 dc w) rfl rfl) (show _ = Value.bool true by rfl)) ?_;refine aM 4 ?_;refine aGD 5 rfl (dL rfl (hv:=by exact KE u65 rfl sz_65)) ?_;refine aGP 6 rfl (Kb pl_65 zr_65 rfl rfl) ?_;refine aGP 7 rfl (KJ (KCL kr (fun w=>eq_ansT 0 ⟨#[]⟩ 0 false 10000 dc w) rfl rfl) (show _ = Value.bool true by rfl)) ?_;refine aP 8 rfl (Kf rfl rfl) ?_;refine aA 9 ?_;refine aA 10 ?_;refine aE ?_;refine KM ?_;refine ⟨[_,_],.cons rfl (.cons rfl .nil),fun a w' hr=>⟨_,_,_,⟨pb,fb,c,mb,tb,d,rest,by omega,rfl,rfl,rfl⟩,rfl,hr.out mS rfl⟩⟩
open Grp
theorem putS_tail (V:Cv) (X Y:Nat):(putS V X Y true).extract 1 (putS V X Y true).size = coB V X:=bext (by rw [ext_l,← bsz (putS V X Y true),List.take_length,putS_s,coB_l]; rfl)
theorem putS_sz (V:Cv) (X Y:Nat):(putS V X Y true).size = 1+nby V.p:=by rw [← bsz,putS_s,List.length_cons,KBZ,Nat.add_comm]
open Grp
theorem all_app {A D:List Item} (h:A.all (·.wr) = true) (hD:D.all (·.wr) = true):(A++D).all (·.wr) = true:=by rw [List.all_append,h,hD]; rfl
abbrev yB (fb n:Nat) (f:Nat→Nat) (rest:List Value) (mb:Nat) (o:Option (Int×Value)) (tb:Nat) (tr:TrRow) (l:List Nat) (D:List Item):List Item:=[rW fb n f rest,mpI mb o,trI (some tb) tr l]++D
theorem c_doImport (pb fb c n mb tb : Nat) (dv : Value) (fh : Nat → Nat) (rest : List Value) (o : Option (Int × Value)) (tr : TrRow) (l : List Nat) (D : List Item) (hD : D.all (·.wr) = true) (cv K m : Nat) (V : Cv) (hm : (blen V.n + 3) / 4 = m) (hc : n < c) (hn9 : n ≤ 999) (hleg : legB V = false) (ca : ByteArray) (hA : ca.size = nby V.n) (hK : beVal ca.data.toList = K)
    (h:cvI ((cv:Nat):Int) = some V) (h0:K≠0) (hn:K<V.n) (hl:l.length≤70000000) (w:World) (hH:∀ x,x∈([pB 1 pb fb c (n+1) mb tb dv,gpI (yB fb (n+1) fh rest mb o tb tr l D)]++[]:List Item)→x.holds w) (hd:([pB 1 pb fb c (n+1) mb tb dv,gpI (yB fb (n+1) fh rest mb o tb tr l D)]++[]:List Item).Pairwise Apart) :
    DoR w pb (calL 3 cv 0 0 0 ca ⟨#[]⟩ ⟨#[]⟩) (pB 1 pb fb c (n+1) mb tb dv) (yB fb (n+1) fh rest mb o tb tr l D) (fun u x' y'=>∃ f' rest' tr',u = ansV 0 ⟨#[]⟩ (fh 0) false∧x' = pB 1 pb fb c n mb tb dv∧y' = gpI (yB fb n f' rest' mb (some ((fh 0:Int),hldV cv K (xv (pmul V.A V.G K)) (yv (pmul V.A V.G K)) (iv (pmul V.A V.G K)))) tb tr' (l++evN m) D)):=by
  refine (c_pDo pb fb c (n+1) mb tb dv (yB fb (n+1) fh rest mb o tb tr l D) (all_app rfl hD) (fun c0 o2 h2 b p' Y'=>c0 = 0∧o2 = ⟨#[]⟩∧h2 = fh 0∧b = false∧∃ f' rest' tr',p' = pB 1 pb fb c n mb tb dv∧Y' = yB fb n f' rest' mb (some ((fh 0:Int),hldV cv K (xv (pmul V.A V.G K)) (yv (pmul V.A V.G K)) (iv (pmul V.A V.G K)))) tb tr' (l++evN m) D) 106 3 cv 0 0 0 ca ⟨#[]⟩ ⟨#[]⟩ en_106 rfl dc (fun cb w1 g1 g2=>?_) w hH hd).mono ?_
  · refine CallsM.frame (X:=[pB 1 pb fb c (n+1) mb tb dv,rW fb (n+1) fh rest,mpI mb o,trI (some tb) tr l]) (R:=D) (List.Perm.refl _) wkCB hD g1 g2 (fun a b=>CallsM.of4 (c_pImport pb fb c n mb tb dv fh rest o tr l cb 3 cv 0 0 0 ca ⟨#[]⟩ ⟨#[]⟩ K m V hm hc hn9 hleg hA hK w1 a b h h0 hn hl)) ?_
    rintro v _ ⟨x',y',z',p',rfl,f',rest',tr',rfl,rfl,rfl,rfl,rfl⟩
    exact ⟨_,List.Perm.refl _,_,_,rfl,0,_,fh 0,false,rfl,rfl,rfl,rfl,rfl,rfl,f',rest',tr',rfl,rfl⟩
  · rintro e w' ⟨u,x',y',⟨c0,o2,h2,b,Y',rfl,⟨rfl,rfl,rfl,rfl,f',rest',tr',rfl,rfl⟩,rfl⟩,he,ho⟩
    exact ⟨_,_,_,⟨f',rest',tr',rfl,rfl,rfl⟩,he,ho⟩
theorem c_doPublic (pb fb c n mb tb : Nat) (dv : Value) (fh : Nat → Nat) (rest : List Value) (tr : TrRow) (l : List Nat) (D : List Item) (hD : D.all (·.wr) = true) (cv K X Y hh : Nat) (V : Cv) (h : cvI ((cv : Nat) : Int) = some V) (hX : X < W9) (hY : Y < W9) (hon : onB V.p V.a V.b X Y false = true) (w : World)
    (hH:∀ x,x∈([pB 1 pb fb c n mb tb dv,gpI (yB fb n fh rest mb (some ((hh:Int),hldV cv K X Y false)) tb tr l D)]++[]:List Item)→x.holds w) (hd:([pB 1 pb fb c n mb tb dv,gpI (yB fb n fh rest mb (some ((hh:Int),hldV cv K X Y false)) tb tr l D)]++[]:List Item).Pairwise Apart) :
    DoR w pb (calL 6 0 0 hh 1 ⟨#[]⟩ ⟨#[]⟩ ⟨#[]⟩) (pB 1 pb fb c n mb tb dv) (yB fb n fh rest mb (some ((hh:Int),hldV cv K X Y false)) tb tr l D) (fun u x' y'=>u = ansV 0 (putS V X Y true) 0 false∧x' = pB 1 pb fb c n mb tb dv∧y' = gpI (yB fb n fh rest mb (some ((hh:Int),hldV cv K X Y false)) tb tr l D)):=by
  refine (c_pDo pb fb c n mb tb dv _ (all_app rfl hD) (fun c0 o2 h2 b p' Y'=>c0 = 0∧o2 = putS V X Y true∧h2 = 0∧b = false∧p' = pB 1 pb fb c n mb tb dv∧Y' = yB fb n fh rest mb (some ((hh:Int),hldV cv K X Y false)) tb tr l D) 109 6 0 0 hh 1 ⟨#[]⟩ ⟨#[]⟩ ⟨#[]⟩ en_109 rfl dc (fun cb w1 g1 g2=>?_) w hH hd).mono ?_
  · refine CallsM.frame (X:=[]) (R:=_) (RO':=[.blk pb ⟨false,_,_,(0,0)⟩,mpR mb (some ((hh:Int),hldV cv K X Y false)),cB cb 6 0 0 hh 1 ⟨#[]⟩ ⟨#[]⟩ ⟨#[]⟩]) (List.Perm.refl _) (Weaks.cons (.head _) Weak.blk (Weaks.cons (.tail _ (.tail _ (.head _))) Weak.mp wkCB)) (by simp only [List.all_cons]; rw [all_app rfl hD]; rfl) g1 g2 (fun a b=>CallsM.of0 (c_pPublic pb fb c n mb tb dv cb 6 0 0 hh ⟨#[]⟩ ⟨#[]⟩ ⟨#[]⟩ cv K X Y V w1 (a _ (.head _)) (a _ (.tail _ (.head _))) (a _ (.tail _ (.tail _ (.head _)))) h hX hY hon)) ?_
    rintro v _ ⟨rfl,rfl⟩
    exact ⟨_,List.Perm.refl _,_,_,rfl,0,_,0,false,rfl,rfl,rfl,rfl,rfl,rfl,rfl,rfl⟩
  · rintro e w' ⟨u,x',y',⟨c0,o2,h2,b,Y',rfl,⟨rfl,rfl,rfl,rfl,rfl,rfl⟩,rfl⟩,he,ho⟩
    exact ⟨_,_,_,⟨rfl,rfl,rfl⟩,he,ho⟩
theorem c_doEcdh (pb fb c n mb tb : Nat) (dv : Value) (fh : Nat → Nat) (rest : List Value) (tr : TrRow) (l : List Nat) (D : List Item) (hD : D.all (·.wr) = true) (cv K X Y m hh : Nat) (V : Cv) (ca : ByteArray) (x y : Fin V.p) (hm : (blen V.n + 3) / 4 = m) (h : cvI ((cv : Nat) : Int) = some V) (h0 : K ≠ 0) (hn : K < V.n) (hg : GetC ((cv : Nat) : Int) ca x.val y.val) (hP : On V.A V.B (.aff x y)) (hl : l.length ≤ 70000000) (w : World)
    (hH:∀ x,x∈([pB 1 pb fb c n mb tb dv,gpI (yB fb n fh rest mb (some ((hh:Int),hldV cv K X Y false)) tb tr l D)]++[]:List Item)→x.holds w) (hd:([pB 1 pb fb c n mb tb dv,gpI (yB fb n fh rest mb (some ((hh:Int),hldV cv K X Y false)) tb tr l D)]++[]:List Item).Pairwise Apart) :
    DoR w pb (calL 7 0 0 hh 0 ca ⟨#[]⟩ ⟨#[]⟩) (pB 1 pb fb c n mb tb dv) (yB fb n fh rest mb (some ((hh:Int),hldV cv K X Y false)) tb tr l D) (fun u x' y'=>∃ tr',u = ansV 0 (coB V (xv (pmul V.A (.aff x y:Pt V.p) K))) 0 false∧x' = pB 1 pb fb c n mb tb dv∧y' = gpI (yB fb n fh rest mb (some ((hh:Int),hldV cv K X Y false)) tb tr' (l++evN m) D)):=by
  refine (c_pDo pb fb c n mb tb dv _ (all_app rfl hD) (fun c0 o2 h2 b p' Y'=>c0 = 0∧o2 = coB V (xv (pmul V.A (.aff x y:Pt V.p) K))∧h2 = 0∧b = false∧∃ tr',p' = pB 1 pb fb c n mb tb dv∧Y' = yB fb n fh rest mb (some ((hh:Int),hldV cv K X Y false)) tb tr' (l++evN m) D) 110 7 0 0 hh 0 ca ⟨#[]⟩ ⟨#[]⟩ en_110 rfl dc (fun cb w1 g1 g2=>?_) w hH hd).mono ?_
  · refine CallsM.frame (X:=[trI (some tb) tr l]) (R:=[pB 1 pb fb c n mb tb dv,rW fb n fh rest,mpI mb (some ((hh:Int),hldV cv K X Y false))]++D) (RO':=[.blk pb ⟨false,_,_,(0,0)⟩,mpR mb (some ((hh:Int),hldV cv K X Y false)),cB cb 7 0 0 hh 0 ca ⟨#[]⟩ ⟨#[]⟩]) (List.perm_middle (l₁:=[pB 1 pb fb c n mb tb dv,rW fb n fh rest,mpI mb (some ((hh:Int),hldV cv K X Y false))]) (l₂:=D)) (Weaks.cons (.head _) Weak.blk (Weaks.cons (.tail _ (.tail _ (.head _))) Weak.mp wkCB)) (all_app rfl hD) g1 g2 (fun a b=>CallsM.of1 (c_pEcdh pb fb c n mb tb dv tr l cb 7 0 0 hh 0 ca ⟨#[]⟩ ⟨#[]⟩ cv K X Y m V x y hm w1 a b h h0 hn hg hP hl)) ?_
    rintro v _ ⟨x',rfl,tr',rfl,rfl⟩
    exact ⟨_,List.perm_middle (l₁:=[pB 1 pb fb c n mb tb dv,rW fb n fh rest,mpI mb (some ((hh:Int),hldV cv K X Y false))]) (l₂:=D),_,_,rfl,0,_,0,false,rfl,rfl,rfl,rfl,rfl,rfl,tr',rfl,rfl⟩
  · rintro e w' ⟨u,x',y',⟨c0,o2,h2,b,Y',rfl,⟨rfl,rfl,rfl,rfl,tr',rfl,rfl⟩,rfl⟩,he,ho⟩
    exact ⟨_,_,_,⟨tr',rfl,rfl,rfl⟩,he,ho⟩
def and7 (x:Int):Nat:=(BitVec.ofInt 64 x &&& BitVec.ofInt 64 7).toNat
theorem and7_lt (x:Int):and7 x<8:=by
  unfold and7
  rw [BitVec.toNat_and]
  exact Nat.lt_of_le_of_lt Nat.and_le_right dc
theorem br_and7 (x:Int):Ko .and .i64 x .i64 7 = some (.int .i64 ((and7 x:Nat):Int)):=by
  show some (Value.int .i64 (IntKind.i64.wrap ((BitVec.ofInt 64 x &&& BitVec.ofInt 64 7).toNat:Int))) = _
  have:=and7_lt x
  unfold and7 at this ⊢
  rw [wrap_nat om]
theorem cvI_tn (x:Int):∃ V,cvI ((13+uidx x%3:Nat):Int) = some V∧legB V = false∧nby V.n = 1∧nby V.p = 1∧201≤V.n∧V.n≤255:=by
  obtain ⟨k,hk⟩:∃ k,uidx x%3 = k:=⟨_,rfl⟩
  have h:k<3:=hk ▸ Nat.mod_lt _ dc
  rw [hk]
  rcases (show k = 0∨k = 1∨k = 2 by omega) with rfl|rfl|rfl
  · exact ⟨cv13,rfl,by decide,by decide +kernel,by decide +kernel,by decide,by decide⟩
  · exact ⟨cv14,rfl,by decide,by decide +kernel,by decide +kernel,by decide,by decide⟩
  · exact ⟨cv15,rfl,by decide,by decide +kernel,by decide +kernel,by decide,by decide⟩
theorem one_val {d:Nat} (h:d<256):beVal (toS [d%256]).data.toList = d:=by
  rw [toS_l]
  show (UInt8.ofNat (d%256)).toNat*256^0+0 = d
  rw [UInt8.toNat_ofNat']
  omega
theorem c_TopTiny (which first:Int) (w:World)  : CF Tryz.prog 8 [.int .i64 which,.int .i64 first] w (.bool true):=by
  obtain ⟨Z,hZ⟩:∃ Z,(upd 2 ((shS ⟨#[]⟩ 100++(⟨#[48,49,50,51,52,53,54,55,56,57,97,98,99,100,101,102,48,49,50,51,52,53,54,55,56,57,97,98,99,100,101,102]⟩:ByteArray))++⟨#[]⟩++⟨#[]⟩) (toS (List.replicate (hsize 2) 0),toS (List.replicate (hsize 2) 1))) = Z:=⟨_,rfl⟩
  refine KV (N:=104) (rs:=[.tmp 4]) [] Tryz.func8 rfl Tryz.ntmps8 Tryz.results8 (Nb rfl) trivial rfl ?_
  refine KB (KA (oA (KC (KB (KB (KA ?_))))));refine oS (cF rfl en_9 rfl (fun w hw=>c_awakeT w) ?_);refine oP (KJ (KAB rfl) (show _ = Value.bool false from rfl)) ?_;refine KC ?_;refine KI rfl ?_;refine KN (KB (KA ?_));refine LOps.step rfl (KAF (first:=[]) (caps:=[]) (X:=[]) (RO:=[]) rfl en_27 rfl (Nb rfl) sR wK (fun w hH hd=>c_ready ⟨#[]⟩ dc Z hZ w hH hd) ?_)
  rintro _ _ _ ⟨pb,fb,c,mb,tb,d,rest0,hc64,rfl,rfl,rfl⟩
  refine oM ?_;refine oX ?_;refine oX ?_;refine oA (oA (KC (KB (KA (oM ?_)))));refine oP (KJ (KDG u3 u56 rfl) (uidx_eq which)) ?_;refine oP (KJ (KF rfl rfl (br_rem64 (b:=3) dc)) (show _ = .int .u64 ((uidx which%3:Nat):Int) from rfl)) ?_;refine oP (KBV u56 u3 rfl om) ?_;refine oP (KF rfl rfl (Ki (a:=13) om)) ?_;refine oA (KC (KB ?_))
  obtain ⟨V,h,hleg,hnn,hnpp,hbig,hbig2⟩:=cvI_tn which
  obtain ⟨hok,hid⟩:=KBS h
  have hpW:V.p<W9:=KAC hok.bounds.2.1
  have hnW:V.n<W9:=KAC hok.bounds.2.2.2.2.2.2.1
  have hnp:=nbp_72 hok
  have hgo:=aff_on (x:=(Grp.c V.p V.x)) (y:=(Grp.c V.p V.y)) hok.on
  have hgx:(Grp.c V.p V.x).val<W9:=Nat.lt_trans (Grp.c V.p V.x).isLt hpW
  have hgy:(Grp.c V.p V.y).val<W9:=Nat.lt_trans (Grp.c V.p V.y).isLt hpW
  obtain ⟨f1,f2⟩:=pStr_on false hgo
  obtain ⟨m,hm⟩:∃ m,(blen V.n+3)/4 = m:=⟨_,rfl⟩
  have hbl:=KAk hnW
  have hm144:m≤144:=by omega
  have ha7:=and7_lt first
  have hu3:=Nat.mod_lt (uidx which) (show 0<3 by decide)
  refine KA (oM ?_);refine oS (cF rfl en_22 rfl (fun w hw=>c_curveGet _ V w h) ?_);refine oM ?_;refine oX ?_;refine oX ?_;refine oS (mk (KK zr_53) (fun b8=>?_));refine LOps.step rfl (sA rfl rfl sz_53 (by first|exact acL_one _|exact acC_one _ _ _ _ _ _ _ _ _ _ _) (hl:=by first|exact KDV _|exact acC_length _ _ _ _ _ _ _ _ _ _ _) (h:=?_));refine oA (KC (KB (KA (oM ?_))));refine oP (KD (o':=37) u53 rfl rfl rfl sz_47 dc) ?_;refine oD (KAt (dL rfl (hv:=by exact ac_ld_g _ _ _ _ _ _ _ _ _ _ _ _ _ _)) (g_val hok)) ?_;refine oS (cF rfl en_25 rfl (fun w hw=>c_s_PutE (putS V (Grp.c V.p V.x).val (Grp.c V.p V.y).val false) 0 _ V (Grp.c V.p V.x).val (Grp.c V.p V.y).val false false w h hgx hgy f1 f2) ?_);refine oM ?_;refine oX ?_;refine oX ?_;refine oA (oA (KC (KB (KB (KA (oM ?_))))));refine oP (KJ (KAB rfl) (show _ = Value.bool false from rfl)) ?_;refine oM ?_;refine oGM ?_;refine oGS (cF rfl en_13 rfl (fun w hw=>c_Num _ w) ?_)
  refine oGP (KF (v:=.bool false) rfl rfl (br_f (KAd (b:=0)) (by first|exact (fun e=>e rfl)|(simp; done)|omega))) ?_;refine oP (KT rfl rfl) ?_;refine oM ?_;refine oGM ?_;refine oGS (cF rfl en_13 rfl (fun w hw=>c_Num _ w) ?_);refine oGP (KF (v:=.bool false) rfl rfl (br_f (KAd (b:=0)) (by first|exact (fun e=>e rfl)|(simp; done)|omega))) ?_;refine oP (KT rfl rfl) ?_;refine KC ?_;refine KI rfl ?_;refine KN (KB (KB (KA (oM ?_))));refine oP (KF rfl rfl (br_and7 first)) ?_;refine oP (KF rfl rfl (Ki (a:=1) om)) ?_;refine oA (KC (LCode.block ?_));refine Kc (α:=Nat×(Nat→Nat)×List Value×Option (Int×Value)×TrRow×List Nat) (fun x=>x.1≤25∧x.2.2.2.2.2.length≤x.1*10000) (fun x=>⟨[(5,.pointer (some ⟨pb,0,none⟩)),(7,.int .i64 (((13+uidx which%3):Nat):Int)),(10,.string (putS V (Grp.c V.p V.x).val (Grp.c V.p V.y).val false)),(12,.int .i64 ((1+and7 first+8*x.1:Nat):Int))],[pB 1 pb fb c (64-x.1) mb tb (.pointer (some ⟨d,0,none⟩)),gpI (yB fb (64-x.1) x.2.1 x.2.2.1 mb x.2.2.2.1 tb x.2.2.2.2.1 x.2.2.2.2.2 [dB d Z.1 Z.2 1])]⟩) (fun x=>25-x.1) ((0,fun i=>i,rest0,none,none,[])) (⟨Nat.zero_le _,Nat.zero_le _⟩) (KZ ⟨rfl,rfl,rfl,rfl,trivial⟩ mS) ?_
  rintro ⟨j,f0,rest,o0,tr0,l0⟩ ⟨hj,hl0⟩
  dsimp only at hj hl0 ⊢
  refine KB (KB (KA (oM ?_)));refine oP (KF rfl rfl (Ks (b:=200))) ?_;refine KC ?_
  first|refine KQ rfl (fun h55=>?_) (fun h55=>?_)|refine KR rfl (fun h55=>?_) (fun h55=>?_)
  ·
   have h55:(1+and7 first+8*j)<200:=h55
   refine KN (KB (LCode.block (KB ?_)))
   obtain ⟨n,hn⟩:∃ n,64-j = n+1:=⟨63-j,by omega⟩
   rw [hn]
   obtain ⟨qx,qy,hq⟩:=pmul_affT hok (k:=(1+and7 first+8*j)) om om
   have hQ:On V.A V.B (.aff qx qy):=hq ▸ hok.mul hok.on _
   have hsh:coB V (xv (pmul V.A (.aff (Grp.c V.p V.x) (Grp.c V.p V.y):Pt V.p) (1+and7 first+8*j))) = coB V qx.val:=by rw [show (.aff (Grp.c V.p V.x) (Grp.c V.p V.y):Pt V.p) = V.G from rfl,hq]; rfl
   refine KA (oM (oM (oM ?_)));refine oP (KAN u3 u5 rfl) ?_;refine oS (mk (KAI u70 inf_5 rfl rfl rfl rfl dc rfl) (fun b62=>?_));refine oD (KAt (KAy (f:=fun _=>(1+and7 first+8*j)%256) u70 u5 u9 rfl mM rfl) (show _ = Value.string (toS [(1+and7 first+8*j)%256]) from rfl)) ?_;refine oP (Kb pl_68 zr_68 rfl (fT (r':=([.int .i64 ((3:Nat):Int)]++([.int .i64 (((13+uidx which%3):Nat):Int)]++([Value.int .i64 ((0:Nat):Int)]++([Value.int .i64 ((0:Nat):Int)]++([Value.int .i64 ((0:Nat):Int)]++([.string (toS [(1+and7 first+8*j)%256])]++([Value.string ⟨#[]⟩]++([Value.string ⟨#[]⟩]))))))))) (fS (A:=([]:List Value)) (B:=([Value.int .i64 ((0:Nat):Int)])) (D:=([Value.int .i64 ((0:Nat):Int)]++([Value.int .i64 ((0:Nat):Int)]++([Value.int .i64 ((0:Nat):Int)]++([Value.int .i64 ((0:Nat):Int)]++([Value.string ⟨#[]⟩]++([Value.string ⟨#[]⟩]++([Value.string ⟨#[]⟩])))))))) (cs:=[.int .i64 ((3:Nat):Int)]) (fS (A:=([.int .i64 ((3:Nat):Int)])) (B:=([Value.int .i64 ((0:Nat):Int)])) (D:=([Value.int .i64 ((0:Nat):Int)]++([Value.int .i64 ((0:Nat):Int)]++([Value.int .i64 ((0:Nat):Int)]++([Value.string ⟨#[]⟩]++([Value.string ⟨#[]⟩]++([Value.string ⟨#[]⟩]))))))) (cs:=[.int .i64 (((13+uidx which%3):Nat):Int)]) (fS (A:=([.int .i64 ((3:Nat):Int)]++([.int .i64 (((13+uidx which%3):Nat):Int)]++([Value.int .i64 ((0:Nat):Int)]++([Value.int .i64 ((0:Nat):Int)]++([Value.int .i64 ((0:Nat):Int)])))))) (B:=([Value.string ⟨#[]⟩])) (D:=([Value.string ⟨#[]⟩]++([Value.string ⟨#[]⟩]))) (cs:=[.string (toS [(1+and7 first+8*j)%256])]) rfl))))) ?_
   refine LOps.step rfl (KAF (first:=[]) (caps:=[]) (X:=[pB 1 pb fb c (n+1) mb tb (.pointer (some ⟨d,0,none⟩)),gpI (yB fb (n+1) f0 rest mb o0 tb tr0 l0 [dB d Z.1 Z.2 1])]) (RO:=[]) rfl en_28 rfl (Nb rfl) sR wK (fun w hH hd=>c_doImport pb fb c n mb tb (.pointer (some ⟨d,0,none⟩)) f0 rest o0 tr0 l0 [dB d Z.1 Z.2 1] rfl (13+uidx which%3) (1+and7 first+8*j) m V hm om om hleg (toS [(1+and7 first+8*j)%256]) (by rw [KAJ]; exact hnn.symm) (one_val om) h om om om w hH hd) ?_)
   rintro _ _ _ ⟨f1,rest1,tr1,rfl,rfl,rfl⟩
   rw [hq]
   refine oS (mk (KK zr_65) (fun b13=>?_));refine LOps.step rfl (sA rfl rfl sz_65 (by exact KBP 0 (⟨#[]⟩) (f0 0) false) (hl:=by rfl) (h:=?_));refine KC (KB (KA (oM ?_)));refine oP (KD (o':=2) u65 rfl rfl rfl sz_3 dc) ?_;refine oD (dL rfl (hv:=KH u3 rfl gL)) ?_;refine oP (Kb pl_68 zr_68 rfl (fT (r':=([.int .i64 ((6:Nat):Int)]++([Value.int .i64 ((0:Nat):Int)]++([Value.int .i64 ((0:Nat):Int)]++([.int .i64 ((f0 0:Nat):Int)]++([.int .i64 ((1:Nat):Int)]++([Value.string ⟨#[]⟩]++([Value.string ⟨#[]⟩]++([Value.string ⟨#[]⟩]))))))))) (fS (A:=([]:List Value)) (B:=([Value.int .i64 ((0:Nat):Int)])) (D:=([Value.int .i64 ((0:Nat):Int)]++([Value.int .i64 ((0:Nat):Int)]++([Value.int .i64 ((0:Nat):Int)]++([Value.int .i64 ((0:Nat):Int)]++([Value.string ⟨#[]⟩]++([Value.string ⟨#[]⟩]++([Value.string ⟨#[]⟩])))))))) (cs:=[.int .i64 ((6:Nat):Int)]) (fS (A:=([.int .i64 ((6:Nat):Int)]++([Value.int .i64 ((0:Nat):Int)]++([Value.int .i64 ((0:Nat):Int)])))) (B:=([Value.int .i64 ((0:Nat):Int)])) (D:=([Value.int .i64 ((0:Nat):Int)]++([Value.string ⟨#[]⟩]++([Value.string ⟨#[]⟩]++([Value.string ⟨#[]⟩]))))) (cs:=[.int .i64 ((f0 0:Nat):Int)]) (fS (A:=([.int .i64 ((6:Nat):Int)]++([Value.int .i64 ((0:Nat):Int)]++([Value.int .i64 ((0:Nat):Int)]++([.int .i64 ((f0 0:Nat):Int)]))))) (B:=([Value.int .i64 ((0:Nat):Int)])) (D:=([Value.string ⟨#[]⟩]++([Value.string ⟨#[]⟩]++([Value.string ⟨#[]⟩])))) (cs:=[.int .i64 ((1:Nat):Int)]) rfl))))) ?_
   refine LOps.step rfl (KAF (first:=[]) (caps:=[]) (X:=[pB 1 pb fb c n mb tb (.pointer (some ⟨d,0,none⟩)),gpI (yB fb n f1 rest1 mb (some ((f0 0:Int),hldV (13+uidx which%3) (1+and7 first+8*j) qx.val qy.val false)) tb tr1 (l0++evN m) [dB d Z.1 Z.2 1])]) (RO:=[]) rfl en_28 rfl (Nb rfl) sR wK (fun w hH hd=>c_doPublic pb fb c n mb tb (.pointer (some ⟨d,0,none⟩)) f1 rest1 tr1 (l0++evN m) [dB d Z.1 Z.2 1] rfl (13+uidx which%3) (1+and7 first+8*j) qx.val qy.val (f0 0) V h (Nat.lt_trans qx.isLt hpW) (Nat.lt_trans qy.isLt hpW) (aff_on hQ) w hH hd) ?_)
   rintro _ _ _ ⟨rfl,rfl,rfl⟩
   refine oS (mk (KK zr_65) (fun b14=>?_));refine LOps.step rfl (sA rfl rfl sz_65 (by exact KBP 0 (putS V qx.val qy.val true) (0) false) (hl:=by rfl) (h:=?_));refine KC (KB (KA (oM ?_)));refine oP (KD (o':=2) u65 rfl rfl rfl sz_3 dc) ?_;refine oD (dL rfl (hv:=KH u3 rfl gL)) ?_;refine oM ?_;refine oP (Kb pl_68 zr_68 rfl (fT (r':=([.int .i64 ((7:Nat):Int)]++([Value.int .i64 ((0:Nat):Int)]++([Value.int .i64 ((0:Nat):Int)]++([.int .i64 ((f0 0:Nat):Int)]++([Value.int .i64 ((0:Nat):Int)]++([.string (putS V (Grp.c V.p V.x).val (Grp.c V.p V.y).val false)]++([Value.string ⟨#[]⟩]++([Value.string ⟨#[]⟩]))))))))) (fS (A:=([]:List Value)) (B:=([Value.int .i64 ((0:Nat):Int)])) (D:=([Value.int .i64 ((0:Nat):Int)]++([Value.int .i64 ((0:Nat):Int)]++([Value.int .i64 ((0:Nat):Int)]++([Value.int .i64 ((0:Nat):Int)]++([Value.string ⟨#[]⟩]++([Value.string ⟨#[]⟩]++([Value.string ⟨#[]⟩])))))))) (cs:=[.int .i64 ((7:Nat):Int)]) (fS (A:=([.int .i64 ((7:Nat):Int)]++([Value.int .i64 ((0:Nat):Int)]++([Value.int .i64 ((0:Nat):Int)])))) (B:=([Value.int .i64 ((0:Nat):Int)])) (D:=([Value.int .i64 ((0:Nat):Int)]++([Value.string ⟨#[]⟩]++([Value.string ⟨#[]⟩]++([Value.string ⟨#[]⟩]))))) (cs:=[.int .i64 ((f0 0:Nat):Int)]) (fS (A:=([.int .i64 ((7:Nat):Int)]++([Value.int .i64 ((0:Nat):Int)]++([Value.int .i64 ((0:Nat):Int)]++([.int .i64 ((f0 0:Nat):Int)]++([Value.int .i64 ((0:Nat):Int)])))))) (B:=([Value.string ⟨#[]⟩])) (D:=([Value.string ⟨#[]⟩]++([Value.string ⟨#[]⟩]))) (cs:=[.string (putS V (Grp.c V.p V.x).val (Grp.c V.p V.y).val false)]) rfl))))) ?_
   refine LOps.step rfl (KAF (first:=[]) (caps:=[]) (X:=[pB 1 pb fb c n mb tb (.pointer (some ⟨d,0,none⟩)),gpI (yB fb n f1 rest1 mb (some ((f0 0:Int),hldV (13+uidx which%3) (1+and7 first+8*j) qx.val qy.val false)) tb tr1 (l0++evN m) [dB d Z.1 Z.2 1])]) (RO:=[]) rfl en_28 rfl (Nb rfl) sR wK (fun w hH hd=>c_doEcdh pb fb c n mb tb (.pointer (some ⟨d,0,none⟩)) f1 rest1 tr1 (l0++evN m) [dB d Z.1 Z.2 1] rfl (13+uidx which%3) (1+and7 first+8*j) qx.val qy.val m (f0 0) V (putS V (Grp.c V.p V.x).val (Grp.c V.p V.y).val false) (Grp.c V.p V.x) (Grp.c V.p V.y) hm h om om (c_get4 hok hgo h) hok.on (by rw [List.length_append,KCR]; omega) w hH hd) ?_)
   rintro _ _ _ ⟨tr2,rfl,rfl,rfl⟩
   rw [hsh]
   refine oS (mk (KK zr_65) (fun b15=>?_));refine LOps.step rfl (sA rfl rfl sz_65 (by exact KBP 0 (coB V qx.val) (0) false) (hl:=by rfl) (h:=?_));refine KC (KB ?_);refine rD [] ?_;refine aP 0 rfl (KD (o':=0) u65 rfl rfl rfl sz_3 dc) ?_;refine aD 1 rfl (dL rfl (hv:=KH u3 rfl gL)) ?_;refine aP 2 rfl (KF (v:=.bool false) rfl rfl (br_f (KAd (b:=0)) (by first|exact (fun e=>e rfl)|(simp; done)|omega))) ?_;refine aM 3 ?_;refine aGP 4 rfl (KD (o':=0) u65 rfl rfl rfl sz_3 dc) ?_;refine aGD 5 rfl (dL rfl (hv:=KH u3 rfl gL)) ?_;refine aGP 6 rfl (KF (v:=.bool false) rfl rfl (br_f (KAd (b:=0)) (by first|exact (fun e=>e rfl)|(simp; done)|omega))) ?_;refine aP 7 rfl (KT rfl rfl) ?_;refine aM 8 ?_;refine aGP 9 rfl (KD (o':=0) u65 rfl rfl rfl sz_3 dc) ?_;refine aGD 10 rfl (dL rfl (hv:=KH u3 rfl gL)) ?_;refine aGP 11 rfl (KF (v:=.bool false) rfl rfl (br_f (KAd (b:=0)) (by first|exact (fun e=>e rfl)|(simp; done)|omega))) ?_
   refine aP 12 rfl (KT rfl rfl) ?_;refine aM 13 ?_;refine aGP 14 rfl (KD (o':=1) u65 rfl rfl rfl sz_9 dc) ?_;refine aGD 15 rfl (dL rfl (hv:=KH u9 rfl gL)) ?_;refine aGP 16 rfl (KAY u9 rfl) ?_;refine aGP 17 rfl (KF (v:=.bool false) rfl rfl (br_f (KAd (b:=2)) (by rw [putS_sz,hnpp]; decide))) ?_;refine aP 18 rfl (KT rfl rfl) ?_;refine aM 19 ?_;refine aGP 20 rfl (KD (o':=1) u65 rfl rfl rfl sz_9 dc) ?_;refine aGD 21 rfl (dL rfl (hv:=KH u9 rfl gL)) ?_;refine aGP 22 rfl (KJ (Det.slStrL u9 rfl rfl dc (by rw [putS_sz]; omega)) (show _ = Value.string (coB V qx.val) from congrArg Value.string (putS_tail V qx.val qy.val))) ?_;refine aGP 23 rfl (KD (o':=1) u65 rfl rfl rfl sz_9 dc) ?_;refine aGD 24 rfl (dL rfl (hv:=KH u9 rfl gL)) ?_;refine aGP 25 rfl (KJ (Det.nes rfl rfl) (congrArg (fun b:Bool=>Value.bool (!b)) (eq_str_t (rfl)))) ?_
   refine aP 26 rfl (KT rfl rfl) ?_;refine aE ?_;refine KI rfl ?_;refine KN (KA (oM ?_));refine oP (KF rfl rfl (Ki (b:=8) om)) ?_;refine oA (KC ?_);refine ⟨(j+1,f1,rest1,some ((f0 0:Int),hldV (13+uidx which%3) (1+and7 first+8*j) qx.val qy.val false),tr2,l0++evN m++evN m),⟨by dsimp only; omega,?_⟩,by dsimp only; omega,?_⟩
   · dsimp only; rw [List.length_append,List.length_append,KCR]; omega
   · dsimp only; rw [show 64-(j+1) = n by omega,show 1+and7 first+8*(j+1) = 1+and7 first+8*j+8 by omega]; exact KZ ⟨rfl,rfl,rfl,rfl,trivial⟩ mS
  refine KY (KB (KA (oA (KC (KM ?_)))));refine eN (.cons rfl .nil) ?_
  rfl
end Go.Proofs.YtnpeokiboiclfaaGreat
set_option maxRecDepth 100000
namespace Go.Proofs.YtnpeokiboiclfaaGreat
open Go
def ioChars:List Char:=([104,97,114,110,101,115,115,32,57,55,98,53,54,100,57,56,97,53,52,98,49,48,50,99,50,101,100,55,53,99,99,52,51,51,49,54,48,51,50,97,56,102,57,48,57,52,49,55,100,98,48,101,102,57,50,48,56,102,50,49,57,57,48,56,54,55,101,99,51,51,51,51,32,99,117,116,32,97,116,32,99,117,114,118,101,116,47,99,117,114,118,101,116,116,111,112,46,84,111,112,70,111,114,109,115,32,99,117,114,118,101,116,47,99,117,114,118,101,116,116,111,112,46,84,111,112,67,117,114,118,101,115,32,99,117,114,118,101,116,47,99,117,114,118,101,116,116,111,112,46,84,111,112,76,101,103,97,99,121,32,99,117,114,118,101,116,47,99,117,114,118,101,116,116,111,112,46,84,111,112,73,109,112,111,114,116,115,32,99,117,114,118,101,116,47,99,117,114,118,101,116,116,111,112,46,84,111,112,86,101,114,105,102,105,101,100,32,99,117,114,118,101,116,47,99,117,114,118,101,116,116,111,112,46,84,111,112,84,105,110,121]:List Nat).map Char.ofNat
theorem io_lit:Tryz.prog.initOrder = String.ofList ioChars:=by kernel_rfl
theorem io_list:Tryz.prog.initOrder.toList = ioChars:=by rw [io_lit,String.toList_ofList]
def cutW:List Char:=([99,117,116]:List Nat).map Char.ofNat
def ioRest:List (List Char):=(wordsSigns ioChars).drop 3
theorem io_words:behindMainWord (wordsSigns ioChars) = cutW :: ioRest:=by kernel_rfl
theorem io_strip (r:List (List Char)):stripLifts liftWords (cutW :: r) = ([],cutW :: r):=by kernel_rfl
theorem no_later:Tryz.prog.laysLater = false:=by kernel_rfl
theorem no_reflect:Tryz.prog.bearsReflect = false:=by kernel_rfl
theorem door_fits:Tryz.prog.doorFits [] = true:=by kernel_rfl
theorem and2 {a b:Bool} (h:a = true) (k:b = true):(a && b) = true:=by rw [h,k]; rfl
theorem or_right {a b:Bool} (h:b = true):(a || b) = true:=by rw [h]; cases a <;> rfl
theorem cut_is : (cutW == "cut".toList) = true := by kernel_rfl
theorem cut_gc : (cutW == "gc".toList) = false := by kernel_rfl
theorem cut_spec : (cutW == "spec".toList) = false := by kernel_rfl
theorem cut_carried : (cutW == "carried".toList) = false := by kernel_rfl
theorem head_carried (r : List (List Char)) : ((cutW :: r).head? == some "carried".toList) = false := cut_carried
theorem enter_of (P:Program) {r:List (List Char)} (h:behindMainWord (wordsSigns P.initOrder.toList) = cutW :: r) (h1:P.laysLater = false) (h2:P.bearsReflect = false) (h3:P.doorFits [] = true):P.mayEnter = true:=by
  unfold Program.mayEnter
  rw [h]
  dsimp only
  refine or_right (and2 (and2 (and2 (and2 ?_ ?_) ?_) ?_) ?_)
  · rw [io_strip]; exact cut_is
  · rw [io_strip,h1]; rfl
  · rw [io_strip,h2]; rfl
  · rw [io_strip]; rfl
  · rw [io_strip]; exact h3
theorem lifts_of (P:Program) {r:List (List Char)} (h:behindMainWord (wordsSigns P.initOrder.toList) = cutW :: r):(false == P.liftsFinal) = true:=by
  have hl:P.headLifts = []:=by
    unfold Program.headLifts
    rw [h,io_strip]
    simp only [ite_self]
  unfold Program.liftsFinal
  rw [h,hl]
  dsimp only
  rw [head_carried,Bool.false_and]
  rfl
theorem make_of (P:Program) {r:List (List Char)} (h:behindMainWord (wordsSigns P.initOrder.toList) = cutW :: r):(P.make == some .cut) = true:=by
  have:P.make = some .cut:=by
    unfold Program.make
    rw [h]
    dsimp only
    rw [if_neg (by rw [cut_gc,cut_spec]; exact fun h=>by cases h),if_pos (by rw [cut_is]; rfl)]
  rw [this]; rfl
theorem io_all:behindMainWord (wordsSigns Tryz.prog.initOrder.toList) = cutW :: ioRest:=by rw [io_list,io_words]
theorem fact_enter:Tryz.prog.mayEnter = true:=enter_of _ io_all no_later no_reflect door_fits
theorem fact_lifts:(false == Tryz.prog.liftsFinal) = true:=lifts_of _ io_all
theorem fact_make:(Tryz.prog.make == some .cut) = true:=make_of _ io_all
theorem fact_laid:laidOutB Tryz.prog = true:=by kernel_rfl
theorem fact_maps:mapsRowed Tryz.prog = true:=by kernel_rfl
theorem fact_heard:Tryz.prog.stopsHeard = true:=by kernel_rfl
end Go.Proofs.YtnpeokiboiclfaaGreat
