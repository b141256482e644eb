/- Part 6 of what the proof leans on: a symbolic execution of the model, walks of the program's functions, and the mathematics. No condition. -/
import Derived.WalkKit
import Derived.Orders
import Derived.Laws.StructEq
import Derived.WalkSpells
import Derived.OrdersHeld
import Derived.KernelRfl
import Derived.Laws.Externs
import Derived.Laws.Bits64
import Derived.Laws.MakeOwn
import Derived.Laws.BytesString
import Derived.Carry
import Derived.WideShapes
import GoSem.Claim
import Derived.Test.YtnpeokiboiclfaaGreatProg
import Derived.Deep.Upon
import Derived.Shelf.Strings.Repeat
import Derived.Ground.NamesProg
import Derived.Lib.Agree
import Derived.Shelf.Strings.Builder1
import Derived.Laws.AppendOwn
import Derived.Lib.ConvBytes
import Derived.Laws.CopyRow
import Derived.MapKept
import Derived.Test.YtnpeokiboiclfaaGreatRows
import Derived.ProofKit
import Derived.OpenShut
import Derived.SizedLaws
import Derived.ChangeMaps5
import Derived.Test.YtnpeokiboiclfaaGreatV5
set_option linter.unusedVariables false
set_option linter.unusedSimpArgs false
set_option maxRecDepth 20000
namespace Go.Proofs.YtnpeokiboiclfaaGreat
open Go Go.RowKit
def opsL:List Value:=[.func (.func 103) #[] #[],.func (.func 104) #[] #[],.func (.func 105) #[] #[],.func (.func 106) #[] #[],.func (.func 107) #[] #[],.func (.func 108) #[] #[],.func (.func 109) #[] #[],.func (.func 110) #[] #[],.func (.func 111) #[] #[],.func (.func 112) #[] #[],.func (.func 113) #[] #[],.func (.func 114) #[] #[],.func (.func 115) #[] #[],.func (.func 116) #[] #[],.func (.func 117) #[] #[],.func (.func 118) #[] #[]]
theorem c_pOps  (w:World) (hH:∀ x,x∈([]++[]:List Item)→x.holds w) (hd:([]++[]:List Item).Pairwise Apart)  : Calls Tryz.prog 60 ([]:List Value).toArray w (fun e w'=>∃ (u:Value) (x':Item),(∃ b,u = .slice (some ⟨b,0,none⟩) 16 16∧x' = .blk b ⟨true,opsL,126,(0,0)⟩)∧e = .returned u∧Outcome w [] [x'] w'):=by
  refine KAA [] (N:=2) (rs:=[.tmp 0]) Tryz.func60 rfl Tryz.ntmps60 Tryz.results60 (Nb rfl) hH hd rfl rfl ?_
  refine KB (KA (oA (KC (KB (KA ?_)))));refine oS (mk (KAK u118 inf_126 rfl rfl rfl rfl dc rfl) (fun b1=>?_));refine oA (KC (KM ?_));refine ⟨[_],.cons rfl .nil,fun a w' hr=>⟨_,_,⟨b1,rfl,rfl⟩,rfl,hr.out mS rfl⟩⟩
theorem c_pDo (pb fb c n mb tb:Nat) (dv:Value) (Y:List Item) (hY:Y.all (·.wr) = true) (Q:Nat→ByteArray→Nat→Bool→Item→List Item→Prop) (fo k cv ha hh nn:Nat) (ca cc cx:ByteArray) (he:KX Tryz.prog fo) (ho:opsL[k]? = some (.func (.func fo) #[] #[])) (hk:k<16) (hop:∀ (cb:Nat) (w:World),(∀ x,x∈((Item.blk pb ⟨true,[.int .i64 ((1:Nat):Int),dv,.slice (some ⟨fb,0,none⟩) n c,.map (some mb),trV (some tb)],124,(0,0)⟩) :: Y)++[Item.blk cb ⟨false,calL k cv ha hh nn ca cc cx,68,(0,0)⟩]→x.holds w)→(((Item.blk pb ⟨true,[.int .i64 ((1:Nat):Int),dv,.slice (some ⟨fb,0,none⟩) n c,.map (some mb),trV (some tb)],124,(0,0)⟩) :: Y)++[Item.blk cb ⟨false,calL k cv ha hh nn ca cc cx,68,(0,0)⟩]).Pairwise Apart→CallsM Tryz.prog fo [Value.pointer (some ⟨pb,0,none⟩),Value.pointer (some ⟨cb,0,none⟩)] ((Item.blk pb ⟨true,[.int .i64 ((1:Nat):Int),dv,.slice (some ⟨fb,0,none⟩) n c,.map (some mb),trV (some tb)],124,(0,0)⟩) :: Y) w (fun v X'=>∃ p' Y',X' = p' :: Y'∧∃ c o h b,v = ansV c o h b∧p'.wr = true∧Q c o h b p' Y')) (w:World) (hH:∀ x,x∈([.blk pb ⟨true,[.int .i64 ((1:Nat):Int),dv,.slice (some ⟨fb,0,none⟩) n c,.map (some mb),trV (some tb)],124,(0,0)⟩,gpI Y]++[]:List Item)→x.holds w) (hd:([.blk pb ⟨true,[.int .i64 ((1:Nat):Int),dv,.slice (some ⟨fb,0,none⟩) n c,.map (some mb),trV (some tb)],124,(0,0)⟩,gpI Y]++[]:List Item).Pairwise Apart)  : Calls Tryz.prog 28 ([.pointer (some ⟨pb,0,none⟩),(.agg (calL k cv ha hh nn ca cc cx).toArray:Value)]:List Value).toArray w (fun e w'=>∃ (u:Value) (x':Item) (y':Item),(∃ c o h b Y',u = ansV c o h b∧Q c o h b x' Y'∧y' = gpI Y')∧e = .returned u∧Outcome w [.blk pb ⟨true,[.int .i64 ((1:Nat):Int),dv,.slice (some ⟨fb,0,none⟩) n c,.map (some mb),trV (some tb)],124,(0,0)⟩,gpI Y] [x',y'] w'):=by
  refine KAA [.blk pb ⟨true,[.int .i64 ((1:Nat):Int),dv,.slice (some ⟨fb,0,none⟩) n c,.map (some mb),trV (some tb)],124,(0,0)⟩,gpI Y] (N:=64) (rs:=[.cell 4 65]) Tryz.func28 rfl Tryz.ntmps28 Tryz.results28 (Nb rfl) hH hd rfl rfl ?_
  refine KB (KA (oS (mB (fun b3=>?_))));refine oS (mk (KK zr_65) (fun b4=>?_));refine KC (KB (KA (LOps.step rfl (Ke (first:=[]) (caps:=[]) (X:=[]) (RO:=[]) rfl en_60 rfl (Nb rfl) sR wK (fun w hH hd=>c_pOps w hH hd) ?_))))
  rintro _ _ ⟨ob,rfl,rfl⟩
  refine oA (KC (KB (LCode.block (KB (KA (oM ?_))))));refine oP (KJ (KAR u61 rfl rfl) (show _ = Value.bool false from rfl)) (oA (KC ?_));refine KH rfl (KB (KA (oP (KD (o':=0) u68 rfl rfl rfl sz_3 dc) (oD (dL rfl (hv:=KI u3 rfl gL)) ?_))));refine oP (KF (v:=.bool false) rfl rfl (br_f (Kr (b:=0)) om)) (oM ?_);refine oGP (KD (o':=0) u68 rfl rfl rfl sz_3 dc) (Kz rfl rfl (dL rfl (hv:=KI u3 rfl gL)) (Nb rfl) ?_);refine oGM ?_;refine oGP (KBF u118 rfl) (oGP (KF (v:=.bool false) rfl rfl (br_f KBD om)) (oP (KU rfl rfl) (oA (KC ?_))));refine KH rfl (KB (KA (oM ?_)));refine oP (KG rfl) (oP (KD (o':=0) u124 rfl rfl rfl sz_3 dc) (oD (dL rfl (hv:=KI u3 rfl (rfl))) ?_));refine oP (KF (v:=.bool false) rfl rfl (br_f (KAG (b:=2)) dc)) (oM ?_);refine oK (oK (oK (oP (KU rfl rfl) (oA (KC ?_)))));refine KH rfl (KB (KA (oM ?_)))
  refine oP (KG rfl) (oP (KD (o':=0) u124 rfl rfl rfl sz_3 dc) (oD (dL rfl (hv:=KI u3 rfl (rfl))) ?_));refine oP (KF (v:=.bool false) rfl rfl (br_f (KAG (b:=0)) dc)) (oM ?_);refine oK (oK (oK (oP (KU rfl rfl) (oM ?_))));refine oK (oK (oK (oP (KU rfl rfl) (oM ?_))));refine oK (oK (oK (oP (KU rfl rfl) (oA (KC ?_)))));refine KH rfl (KN (KB (KA (oM ?_))));refine oP (KD (o':=0) u68 rfl rfl rfl sz_3 dc) (oD (dL rfl (hv:=KI u3 rfl gL)) ?_);refine oP (Kt u118 sz_126 rfl rfl om) (oD (dL rfl (hv:=KI u126 rfl (by exact ho))) ?_);refine oM ?_;refine LOps.step rfl (Ky (Post:=fun v p' g'=>∃ Y' c o h b,g' = gpI Y'∧v = ansV c o h b∧p'.wr = true∧Q c o h b p' Y') (X:=[.blk pb ⟨true,[.int .i64 ((1:Nat):Int),dv,.slice (some ⟨fb,0,none⟩) n c,.map (some mb),trV (some tb)],124,(0,0)⟩,gpI Y]) (RO:=[.blk b3 ⟨false,calL k cv ha hh nn ca cc cx,68,(0,0)⟩]) (first:=[]) (caps:=[]) rfl he rfl (Nb rfl) sR wK (fun w hH hd=>(CallsM.grp (Q:=fun v p' Y'=>∃ c o h b,v = ansV c o h b∧p'.wr = true∧Q c o h b p' Y') hY rfl (hop b3) hH hd).mono fun e w' ⟨v,p',Y',⟨c,o,h,b,hv,hw',hq⟩,he',ho⟩=>⟨v,p',gpI Y',⟨Y',c,o,h,b,rfl,hv,hw',hq⟩,he',ho⟩) ?_)
  rintro _ p1 _ ⟨Y1,c1,o1,h1,b1,rfl,rfl,hp1,hq1⟩
  refine LOps.step rfl (sA rfl rfl sz_65 (by exact KBK _ _ _ _) (hl:=by rfl) (h:=?_));refine KC (KM ?_);refine ⟨[_],.cons ⟨_,_,_,rfl,mM,by exact KE u65 rfl sz_65⟩ .nil,fun a w' hr=>⟨_,_,_,⟨c1,o1,h1,b1,Y1,rfl,hq1,rfl⟩,rfl,hr.out mS (by simp [hp1]; rfl)⟩⟩
theorem c_pDo0 (pb fb c n mb tb:Nat) (dv:Value) (Y:List Item) (hY:Y.all (·.wr) = true) (Q:Nat→ByteArray→Nat→Bool→Item→List Item→Prop) (fo k cv ha hh nn:Nat) (ca cc cx:ByteArray) (he:KX Tryz.prog fo) (ho:opsL[k]? = some (.func (.func fo) #[] #[])) (hk:k = 0∨k = 1) (hop:∀ (cb:Nat) (w:World),(∀ x,x∈((Item.blk pb ⟨true,[.int .i64 ((0:Nat):Int),dv,.slice (some ⟨fb,0,none⟩) n c,.map (some mb),trV (some tb)],124,(0,0)⟩) :: Y)++[Item.blk cb ⟨false,calL k cv ha hh nn ca cc cx,68,(0,0)⟩]→x.holds w)→(((Item.blk pb ⟨true,[.int .i64 ((0:Nat):Int),dv,.slice (some ⟨fb,0,none⟩) n c,.map (some mb),trV (some tb)],124,(0,0)⟩) :: Y)++[Item.blk cb ⟨false,calL k cv ha hh nn ca cc cx,68,(0,0)⟩]).Pairwise Apart→CallsM Tryz.prog fo [Value.pointer (some ⟨pb,0,none⟩),Value.pointer (some ⟨cb,0,none⟩)] ((Item.blk pb ⟨true,[.int .i64 ((0:Nat):Int),dv,.slice (some ⟨fb,0,none⟩) n c,.map (some mb),trV (some tb)],124,(0,0)⟩) :: Y) w (fun v X'=>∃ p' Y',X' = p' :: Y'∧∃ c o h b,v = ansV c o h b∧p'.wr = true∧Q c o h b p' Y')) (w:World) (hH:∀ x,x∈([.blk pb ⟨true,[.int .i64 ((0:Nat):Int),dv,.slice (some ⟨fb,0,none⟩) n c,.map (some mb),trV (some tb)],124,(0,0)⟩,gpI Y]++[]:List Item)→x.holds w) (hd:([.blk pb ⟨true,[.int .i64 ((0:Nat):Int),dv,.slice (some ⟨fb,0,none⟩) n c,.map (some mb),trV (some tb)],124,(0,0)⟩,gpI Y]++[]:List Item).Pairwise Apart)  : Calls Tryz.prog 28 ([.pointer (some ⟨pb,0,none⟩),(.agg (calL k cv ha hh nn ca cc cx).toArray:Value)]:List Value).toArray w (fun e w'=>∃ (u:Value) (x':Item) (y':Item),(∃ c o h b Y',u = ansV c o h b∧Q c o h b x' Y'∧y' = gpI Y')∧e = .returned u∧Outcome w [.blk pb ⟨true,[.int .i64 ((0:Nat):Int),dv,.slice (some ⟨fb,0,none⟩) n c,.map (some mb),trV (some tb)],124,(0,0)⟩,gpI Y] [x',y'] w'):=by
  refine KAA [.blk pb ⟨true,[.int .i64 ((0:Nat):Int),dv,.slice (some ⟨fb,0,none⟩) n c,.map (some mb),trV (some tb)],124,(0,0)⟩,gpI Y] (N:=64) (rs:=[.cell 4 65]) Tryz.func28 rfl Tryz.ntmps28 Tryz.results28 (Nb rfl) hH hd rfl rfl ?_
  refine KB (KA (oS (mB (fun b3=>?_))));refine oS (mk (KK zr_65) (fun b4=>?_));refine KC (KB (KA (LOps.step rfl (Ke (first:=[]) (caps:=[]) (X:=[]) (RO:=[]) rfl en_60 rfl (Nb rfl) sR wK (fun w hH hd=>c_pOps w hH hd) ?_))))
  rintro _ _ ⟨ob,rfl,rfl⟩
  refine oA (KC (KB (LCode.block (KB (KA (oM ?_))))));refine oP (KJ (KAR u61 rfl rfl) (show _ = Value.bool false from rfl)) (oA (KC ?_));refine KH rfl (KB (KA (oP (KD (o':=0) u68 rfl rfl rfl sz_3 dc) (oD (dL rfl (hv:=KI u3 rfl gL)) ?_))));refine oP (KF (v:=.bool false) rfl rfl (br_f (Kr (b:=0)) om)) (oM ?_);refine oGP (KD (o':=0) u68 rfl rfl rfl sz_3 dc) (Kz rfl rfl (dL rfl (hv:=KI u3 rfl gL)) (Nb rfl) ?_);refine oGM ?_;refine oGP (KBF u118 rfl) (oGP (KF (v:=.bool false) rfl rfl (br_f KBD om)) (oP (KU rfl rfl) (oA (KC ?_))));refine KH rfl (KB (KA (oM ?_)));refine oP (KG rfl) (oP (KD (o':=0) u124 rfl rfl rfl sz_3 dc) (oD (dL rfl (hv:=KI u3 rfl (rfl))) ?_));refine oP (KF (v:=.bool false) rfl rfl (br_f (KAG (b:=2)) dc)) (oM ?_);refine oK (oK (oK (oP (KU rfl rfl) (oA (KC ?_)))));refine KH rfl (KB ?_)
  rcases hk with hk|hk
  ·
   refine KA (oM ?_);refine oP (KG rfl) (oP (KD (o':=0) u124 rfl rfl rfl sz_3 dc) (oD (dL rfl (hv:=KI u3 rfl (rfl))) ?_));refine oP (KF (v:=.bool true) rfl rfl (br_t (KAG (b:=0)) dc)) (oM ?_);refine oGP (KD (o':=0) u68 rfl rfl rfl sz_3 dc) (Kz rfl rfl (dL rfl (hv:=KI u3 rfl gL)) (Nb rfl) ?_);refine oGP (KF (v:=.bool false) rfl rfl (br_f (KAe (b:=0)) om)) (oP (Kg rfl rfl) (oM ?_));refine oK (oK (oK (oP (KU rfl rfl) (oM ?_))));refine oK (oK (oK (oP (KU rfl rfl) (oA (KC ?_)))));refine KH rfl (KN (KB (KA (oM ?_))));refine oP (KD (o':=0) u68 rfl rfl rfl sz_3 dc) (oD (dL rfl (hv:=KI u3 rfl gL)) ?_);refine oP (Kt u118 sz_126 rfl rfl om) (oD (dL rfl (hv:=KI u126 rfl (by exact ho))) ?_);refine oM ?_;refine LOps.step rfl (Ky (Post:=fun v p' g'=>∃ Y' c o h b,g' = gpI Y'∧v = ansV c o h b∧p'.wr = true∧Q c o h b p' Y') (X:=[.blk pb ⟨true,[.int .i64 ((0:Nat):Int),dv,.slice (some ⟨fb,0,none⟩) n c,.map (some mb),trV (some tb)],124,(0,0)⟩,gpI Y]) (RO:=[.blk b3 ⟨false,calL k cv ha hh nn ca cc cx,68,(0,0)⟩]) (first:=[]) (caps:=[]) rfl he rfl (Nb rfl) sR wK (fun w hH hd=>(CallsM.grp (Q:=fun v p' Y'=>∃ c o h b,v = ansV c o h b∧p'.wr = true∧Q c o h b p' Y') hY rfl (hop b3) hH hd).mono fun e w' ⟨v,p',Y',⟨c,o,h,b,hv,hw',hq⟩,he',ho⟩=>⟨v,p',gpI Y',⟨Y',c,o,h,b,rfl,hv,hw',hq⟩,he',ho⟩) ?_)
   rintro _ p1 _ ⟨Y1,c1,o1,h1,b1,rfl,rfl,hp1,hq1⟩
   refine LOps.step rfl (sA rfl rfl sz_65 (by exact KBK _ _ _ _) (hl:=by rfl) (h:=?_));refine KC (KM ?_);refine ⟨[_],.cons ⟨_,_,_,rfl,mM,by exact KE u65 rfl sz_65⟩ .nil,fun a w' hr=>⟨_,_,_,⟨c1,o1,h1,b1,Y1,rfl,hq1,rfl⟩,rfl,hr.out mS (by simp [hp1]; rfl)⟩⟩
  refine KA (oM ?_);refine oP (KG rfl) (oP (KD (o':=0) u124 rfl rfl rfl sz_3 dc) (oD (dL rfl (hv:=KI u3 rfl (rfl))) ?_));refine oP (KF (v:=.bool true) rfl rfl (br_t (KAG (b:=0)) dc)) (oM ?_);refine oGP (KD (o':=0) u68 rfl rfl rfl sz_3 dc) (Kz rfl rfl (dL rfl (hv:=KI u3 rfl gL)) (Nb rfl) ?_);refine oGP (KF (v:=.bool true) rfl rfl (br_t (KAe (b:=0)) om)) (oP (Kg rfl rfl) (oM ?_));refine oGP (KD (o':=0) u68 rfl rfl rfl sz_3 dc) (Kz rfl rfl (dL rfl (hv:=KI u3 rfl gL)) (Nb rfl) ?_);refine oGP (KF (v:=.bool false) rfl rfl (br_f (KAe (b:=1)) om)) (oP (Kg rfl rfl) (oM ?_));refine oK (oK (oK (oP (KU rfl rfl) (oA (KC ?_)))));refine KH rfl (KN (KB (KA (oM ?_))));refine oP (KD (o':=0) u68 rfl rfl rfl sz_3 dc) (oD (dL rfl (hv:=KI u3 rfl gL)) ?_);refine oP (Kt u118 sz_126 rfl rfl om) (oD (dL rfl (hv:=KI u126 rfl (by exact ho))) ?_)
  refine oM ?_;refine LOps.step rfl (Ky (Post:=fun v p' g'=>∃ Y' c o h b,g' = gpI Y'∧v = ansV c o h b∧p'.wr = true∧Q c o h b p' Y') (X:=[.blk pb ⟨true,[.int .i64 ((0:Nat):Int),dv,.slice (some ⟨fb,0,none⟩) n c,.map (some mb),trV (some tb)],124,(0,0)⟩,gpI Y]) (RO:=[.blk b3 ⟨false,calL k cv ha hh nn ca cc cx,68,(0,0)⟩]) (first:=[]) (caps:=[]) rfl he rfl (Nb rfl) sR wK (fun w hH hd=>(CallsM.grp (Q:=fun v p' Y'=>∃ c o h b,v = ansV c o h b∧p'.wr = true∧Q c o h b p' Y') hY rfl (hop b3) hH hd).mono fun e w' ⟨v,p',Y',⟨c,o,h,b,hv,hw',hq⟩,he',ho⟩=>⟨v,p',gpI Y',⟨Y',c,o,h,b,rfl,hv,hw',hq⟩,he',ho⟩) ?_)
  rintro _ p1 _ ⟨Y1,c1,o1,h1,b1,rfl,rfl,hp1,hq1⟩
  refine LOps.step rfl (sA rfl rfl sz_65 (by exact KBK _ _ _ _) (hl:=by rfl) (h:=?_));refine KC (KM ?_);refine ⟨[_],.cons ⟨_,_,_,rfl,mM,by exact KE u65 rfl sz_65⟩ .nil,fun a w' hr=>⟨_,_,_,⟨c1,o1,h1,b1,Y1,rfl,hq1,rfl⟩,rfl,hr.out mS (by simp [hp1]; rfl)⟩⟩
abbrev pB (s pb fb c n mb tb:Nat) (dv:Value):Item:=.blk pb ⟨true,[.int .i64 ((s:Nat):Int),dv,.slice (some ⟨fb,0,none⟩) n c,.map (some mb),trV (some tb)],124,(0,0)⟩
abbrev rW (fb n:Nat) (f:Nat→Nat) (rest:List Value):Item:=.blk fb ⟨true,vec .i64 n f++rest,3,(0,0)⟩
abbrev cB (cb op cv ha hh nn:Nat) (ca cc cx:ByteArray):Item:=.blk cb ⟨false,calL op cv ha hh nn ca cc cx,68,(0,0)⟩
abbrev dB (d:Nat) (K U:ByteArray) (n:Nat):Item:=.blk d ⟨true,gnL 2 K U (n),79,(0,0)⟩
abbrev DoR (w:World) (pb:Nat) (cs:List Value) (p:Item) (Y:List Item) (Q:Value→Item→Item→Prop):Prop :=
  Calls Tryz.prog 28 ([.pointer (some ⟨pb,0,none⟩),.agg cs.toArray]:List Value).toArray w (fun e w'=>∃ (u:Value) (x' y':Item),Q u x' y'∧e = .returned u∧Outcome w [p,gpI Y] [x',y'] w')
theorem wkCB {R:List Item} {cb op cv ha hh nn:Nat} {ca cc cx:ByteArray}:Weaks (R++[cB cb op cv ha hh nn ca cc cx]) [cB cb op cv ha hh nn ca cc cx]:=Weaks.cons (List.mem_append.2 (.inr (.head _))) Weak.blk (Weaks.nil _)
theorem c_doStart (pb fb c n mb tb : Nat) (Y : List Item) (hY : Y.all (·.wr) = true) (et : ByteArray) (h1 : 16 ≤ et.size) (h2 : et.size ≤ 256) (w : World) (hH : ∀ x, x ∈ ([pB 0 pb fb c n mb tb (.pointer none), gpI Y] ++ [] : List Item) → x.holds w) (hd : ([pB 0 pb fb c n mb tb (.pointer none), gpI Y] ++ [] : List Item).Pairwise Apart) :
    DoR w pb (calL 0 0 0 0 0 et ⟨#[]⟩ ⟨#[]⟩) (pB 0 pb fb c n mb tb (.pointer none)) Y (fun u x' y'=>∃ d,u = ansV 0 ⟨#[]⟩ 0 false∧x' = pB 0 pb fb c n mb tb (.pointer (some ⟨d,0,none⟩))∧y' = gpI (Y++[dB d (upd 2 (et++⟨#[]⟩++⟨#[]⟩) (toS (List.replicate (hsize 2) 0),toS (List.replicate (hsize 2) 1))).1 (upd 2 (et++⟨#[]⟩++⟨#[]⟩) (toS (List.replicate (hsize 2) 0),toS (List.replicate (hsize 2) 1))).2 1])):=by
  refine (c_pDo0 pb fb c n mb tb (.pointer none) Y hY (fun c0 o h b p' Y'=>c0 = 0∧o = ⟨#[]⟩∧h = 0∧b = false∧∃ d,p' = pB 0 pb fb c n mb tb (.pointer (some ⟨d,0,none⟩))∧Y' = Y++[dB d (upd 2 (et++⟨#[]⟩++⟨#[]⟩) (toS (List.replicate (hsize 2) 0),toS (List.replicate (hsize 2) 1))).1 (upd 2 (et++⟨#[]⟩++⟨#[]⟩) (toS (List.replicate (hsize 2) 0),toS (List.replicate (hsize 2) 1))).2 1]) 103 0 0 0 0 0 et ⟨#[]⟩ ⟨#[]⟩ en_103 rfl (.inl rfl) (fun cb w1 g1 g2=>?_) w hH hd).mono ?_
  · refine CallsM.frame (X:=[pB 0 pb fb c n mb tb (.pointer none)]) (R:=Y) (List.Perm.refl _) wkCB hY g1 g2 (fun a b=>CallsM.of2 (c_pStart pb fb c n mb tb cb 0 0 0 0 0 et ⟨#[]⟩ ⟨#[]⟩ h1 h2 dc dc w1 a b)) ?_
    rintro v _ ⟨x',y',rfl,d,rfl,rfl,rfl⟩
    exact ⟨_,List.Perm.cons _ List.perm_append_comm,_,_,rfl,0,_,0,false,rfl,rfl,rfl,rfl,rfl,rfl,d,rfl,rfl⟩
  · rintro e w' ⟨u,x',y',⟨c0,o,h,b,Y',rfl,⟨rfl,rfl,rfl,rfl,d,rfl,rfl⟩,rfl⟩,he,ho⟩
    exact ⟨_,_,_,⟨d,rfl,rfl,rfl⟩,he,ho⟩
theorem c_doSelf (pb fb c n mb tb d : Nat) (Y : List Item) (hY : Y.all (·.wr) = true) (w : World) (hH : ∀ x, x ∈ ([pB 0 pb fb c n mb tb (.pointer (some ⟨d, 0, none⟩)), gpI Y] ++ [] : List Item) → x.holds w) (hd : ([pB 0 pb fb c n mb tb (.pointer (some ⟨d, 0, none⟩)), gpI Y] ++ [] : List Item).Pairwise Apart) :
    DoR w pb (calL 1 0 0 0 0 ⟨#[]⟩ ⟨#[]⟩ ⟨#[]⟩) (pB 0 pb fb c n mb tb (.pointer (some ⟨d,0,none⟩))) Y (fun u x' y'=>u = ansV 0 ⟨#[]⟩ 0 false∧x' = pB 1 pb fb c n mb tb (.pointer (some ⟨d,0,none⟩))∧y' = gpI Y):=by
  refine (c_pDo0 pb fb c n mb tb _ Y hY (fun c0 o h b p' Y'=>c0 = 0∧o = ⟨#[]⟩∧h = 0∧b = false∧p' = pB 1 pb fb c n mb tb (.pointer (some ⟨d,0,none⟩))∧Y' = Y) 104 1 0 0 0 0 ⟨#[]⟩ ⟨#[]⟩ ⟨#[]⟩ en_104 rfl (.inr rfl) (fun cb w1 g1 g2=>?_) w hH hd).mono ?_
  · refine CallsM.frame (X:=[pB 0 pb fb c n mb tb (.pointer (some ⟨d,0,none⟩))]) (R:=Y) (List.Perm.refl _) wkCB hY g1 g2 (fun a b=>CallsM.of1 (c_pSelf pb fb c n mb tb d cb 1 0 0 0 ⟨#[]⟩ ⟨#[]⟩ ⟨#[]⟩ w1 a b)) ?_
    rintro v _ ⟨x',rfl,rfl,rfl⟩
    exact ⟨_,List.Perm.refl _,_,_,rfl,0,_,0,false,rfl,rfl,rfl,rfl,rfl,rfl,rfl,rfl⟩
  · rintro e w' ⟨u,x',y',⟨c0,o,h,b,Y',rfl,⟨rfl,rfl,rfl,rfl,rfl,rfl⟩,rfl⟩,he,ho⟩
    exact ⟨_,_,_,⟨rfl,rfl,rfl⟩,he,ho⟩
theorem ba_self (a:ByteArray):(a == a) = true:=by rw [MapKept.bytes_beq]
theorem eq_ansT (c:Nat) (o:ByteArray) (h:Nat) (b:Bool):EqD 2 Tryz.prog 65 (ansV c o h b) (ansV c o h b) true:=by
  have:=EqD.struct (P:=Tryz.prog) (t:=65) (fs:=[_,_,_,_]) (xs:=(ansL c o h b).toArray) (ys:=(ansL c o h b).toArray) u65 kr (EqFs.cons dc (KBG u3 rfl rfl) (KBG u3 rfl rfl) (EqD.int u3)
    (EqFs.cons dc (KBG u9 rfl rfl) (KBG u9 rfl rfl) (EqD.str u9) (EqFs.cons dc (KBG u3 rfl rfl) (KBG u3 rfl rfl) (EqD.int u3)
    (EqFs.cons dc (KBG u4 rfl rfl) (KBG u4 rfl rfl) (EqD.bool u4) EqFs.nil))))
  rwa [show (((c:Int) == (c:Int)) && ((o == o) && (((h:Int) == (h:Int)) && ((b == b) && true)))) = true by rw [ba_self]; simp] at this
theorem c_ready (s:ByteArray) (hs0:s.size<9223372036854775808) (Z:ByteArray×ByteArray) (hZ:(upd 2 ((shS s 100++(⟨#[48,49,50,51,52,53,54,55,56,57,97,98,99,100,101,102,48,49,50,51,52,53,54,55,56,57,97,98,99,100,101,102]⟩:ByteArray))++⟨#[]⟩++⟨#[]⟩) (toS (List.replicate (hsize 2) 0),toS (List.replicate (hsize 2) 1))) = Z) (w:World) (hH:∀ x,x∈([]++[]:List Item)→x.holds w) (hd:([]++[]:List Item).Pairwise Apart)  : Calls Tryz.prog 27 ([.string s]:List Value).toArray w (fun e w'=>∃ (u:Value) (x':Item) (y':Item),(∃ pb fb c mb tb d rest,64≤c∧u = .tuple #[.pointer (some ⟨pb,0,none⟩),.bool true]∧x' = pB 1 pb fb c 64 mb tb (.pointer (some ⟨d,0,none⟩))∧y' = gpI [rW fb 64 (fun i=>i) rest,mpI mb none,trI (some tb) none [],dB d Z.1 Z.2 1])∧e = .returned u∧Outcome w [] [x',y'] w'):=by
  have hsz1:(shS s 100).size≤100:=shS_size s 100
  have hsz:(shS s 100++(⟨#[48,49,50,51,52,53,54,55,56,57,97,98,99,100,101,102,48,49,50,51,52,53,54,55,56,57,97,98,99,100,101,102]⟩:ByteArray)).size = (shS s 100).size+32:=by rw [ByteArray.size_append]; rfl
  refine KAA [] (N:=26) (rs:=[.tmp 2,.tmp 3]) Tryz.func27 rfl Tryz.ntmps27 Tryz.results27 (Nb rfl) hH hd rfl rfl ?_
  refine KB (KA (oA (oA (KC (KB (KA ?_))))));refine LOps.step rfl (Ky (first:=[]) (caps:=[]) (X:=[]) (RO:=[]) rfl en_59 rfl (Nb rfl) sR wK (fun w hH hd=>c_pNew w hH hd) ?_)
  rintro _ _ _ ⟨pb,fb,c,mb,tb,rest,hcap,rfl,rfl,rfl⟩
  refine oA (KC (KB (KA (oM (oM ?_)))));refine oS (cF rfl en_12 rfl (fun w hw=>c_short s 100 w) ?_);refine oP (KAZ rfl rfl (Nat.le_trans (Nat.add_le_add_right hsz1 32) dc)) (oP (Ka pl_68 zr_68 rfl (fT (r':=([.int .i64 ((0:Nat):Int)]++([Value.int .i64 ((0:Nat):Int)]++([Value.int .i64 ((0:Nat):Int)]++([Value.int .i64 ((0:Nat):Int)]++([Value.int .i64 ((0:Nat):Int)]++([.string (shS s 100++(⟨#[48,49,50,51,52,53,54,55,56,57,97,98,99,100,101,102,48,49,50,51,52,53,54,55,56,57,97,98,99,100,101,102]⟩:ByteArray))]++([Value.string ⟨#[]⟩]++([Value.string ⟨#[]⟩]))))))))) (fS (A:=([]:List Value)) (B:=([Value.int .i64 ((0:Nat):Int)])) (D:=([Value.int .i64 ((0:Nat):Int)]++([Value.int .i64 ((0:Nat):Int)]++([Value.int .i64 ((0:Nat):Int)]++([Value.int .i64 ((0:Nat):Int)]++([Value.string ⟨#[]⟩]++([Value.string ⟨#[]⟩]++([Value.string ⟨#[]⟩])))))))) (cs:=[.int .i64 ((0:Nat):Int)]) (fS (A:=([.int .i64 ((0:Nat):Int)]++([Value.int .i64 ((0:Nat):Int)]++([Value.int .i64 ((0:Nat):Int)]++([Value.int .i64 ((0:Nat):Int)]++([Value.int .i64 ((0:Nat):Int)])))))) (B:=([Value.string ⟨#[]⟩])) (D:=([Value.string ⟨#[]⟩]++([Value.string ⟨#[]⟩]))) (cs:=[.string (shS s 100++(⟨#[48,49,50,51,52,53,54,55,56,57,97,98,99,100,101,102,48,49,50,51,52,53,54,55,56,57,97,98,99,100,101,102]⟩:ByteArray))]) rfl)))) ?_)
  refine LOps.step rfl (Ky (first:=[]) (caps:=[]) (X:=[pB 0 pb fb c 64 mb tb (.pointer none),gpI [rW fb 64 (fun i=>i) rest,mpI mb none,trI (some tb) none []]]) (RO:=[]) rfl en_28 rfl (Nb rfl) sR wK (fun w hH hd=>c_doStart pb fb c 64 mb tb [rW fb 64 (fun i=>i) rest,mpI mb none,trI (some tb) none []] rfl (shS s 100++(⟨#[48,49,50,51,52,53,54,55,56,57,97,98,99,100,101,102,48,49,50,51,52,53,54,55,56,57,97,98,99,100,101,102]⟩:ByteArray)) (by rw [hsz]; omega) (by rw [hsz]; omega) w hH hd) ?_)
  rintro _ _ _ ⟨d,rfl,rfl,rfl⟩
  rw [hZ]
  refine oS (mk (KK zr_65) (fun b5=>?_));refine LOps.step rfl (sA rfl rfl sz_65 (by exact KBK 0 ⟨#[]⟩ 0 false) (hl:=by rfl) (h:=?_));refine KC (KB (KA (oM ?_)));refine oP (Ka pl_68 zr_68 rfl (fT (r':=([.int .i64 ((1:Nat):Int)]++([Value.int .i64 ((0:Nat):Int)]++([Value.int .i64 ((0:Nat):Int)]++([Value.int .i64 ((0:Nat):Int)]++([Value.int .i64 ((0:Nat):Int)]++([Value.string ⟨#[]⟩]++([Value.string ⟨#[]⟩]++([Value.string ⟨#[]⟩]))))))))) (fS (A:=([]:List Value)) (B:=([Value.int .i64 ((0:Nat):Int)])) (D:=([Value.int .i64 ((0:Nat):Int)]++([Value.int .i64 ((0:Nat):Int)]++([Value.int .i64 ((0:Nat):Int)]++([Value.int .i64 ((0:Nat):Int)]++([Value.string ⟨#[]⟩]++([Value.string ⟨#[]⟩]++([Value.string ⟨#[]⟩])))))))) (cs:=[.int .i64 ((1:Nat):Int)]) rfl))) ?_;refine LOps.step rfl (Ky (first:=[]) (caps:=[]) (X:=[pB 0 pb fb c 64 mb tb (.pointer (some ⟨d,0,none⟩)),gpI [rW fb 64 (fun i=>i) rest,mpI mb none,trI (some tb) none [],dB d Z.1 Z.2 1]]) (RO:=[]) rfl en_28 rfl (Nb rfl) sR wK (fun w hH hd=>c_doSelf pb fb c 64 mb tb d [rW fb 64 (fun i=>i) rest,mpI mb none,trI (some tb) none [],dB d Z.1 Z.2 1] rfl w hH hd) ?_)
  rintro _ _ _ ⟨rfl,rfl,rfl⟩
  refine oS (mk (KK zr_65) (fun b6=>?_));refine LOps.step rfl (sA rfl rfl sz_65 (by exact KBK 0 ⟨#[]⟩ 0 false) (hl:=by rfl) (h:=?_));refine KC (KB (rD [] (aM 0 ?_)));refine aD 1 rfl (dL rfl (hv:=by exact KE u65 rfl sz_65)) ?_;refine aP 2 rfl (Ka pl_65 zr_65 rfl rfl) (aP 3 rfl (KJ (KBw kr (fun w=>eq_ansT 0 ⟨#[]⟩ 0 false 10000 dc w) rfl rfl) (show _ = Value.bool true by rfl)) (aM 4 ?_));refine aGD 5 rfl (dL rfl (hv:=by exact KE u65 rfl sz_65)) ?_;refine aGP 6 rfl (Ka pl_65 zr_65 rfl rfl) (aGP 7 rfl (KJ (KBw kr (fun w=>eq_ansT 0 ⟨#[]⟩ 0 false 10000 dc w) rfl rfl) (show _ = Value.bool true by rfl)) (aP 8 rfl (Kg rfl rfl) (aA 9 ?_)));refine aA 10 ?_;refine aE (KM (⟨[_,_],.cons rfl (.cons rfl .nil),fun a w' hr=>⟨_,_,_,⟨pb,fb,c,mb,tb,d,rest,by omega,rfl,rfl,rfl⟩,rfl,hr.out mS rfl⟩⟩))
open Grp
open Grp
theorem all_app {A D:List Item} (h:A.all (·.wr) = true) (hD:D.all (·.wr) = true):(A++D).all (·.wr) = true:=by rw [List.all_append,h,hD]; rfl
abbrev yB (fb n:Nat) (f:Nat→Nat) (rest:List Value) (mb:Nat) (o:Option (Int×Value)) (tb:Nat) (tr:TrRow) (l:List Nat) (D:List Item):List Item:=[rW fb n f rest,mpI mb o,trI (some tb) tr l]++D
theorem c_doImport (pb fb c n mb tb : Nat) (dv : Value) (fh : Nat → Nat) (rest : List Value) (o : Option (Int × Value)) (tr : TrRow) (l : List Nat) (D : List Item) (hD : D.all (·.wr) = true) (cv K m : Nat) (V : Cv) (hm : (blen V.n + 3) / 4 = m) (hc : n < c) (hn9 : n ≤ 999) (hleg : legB V = false) (ca : ByteArray) (hA : ca.size = nby V.n) (hK : beVal ca.data.toList = K)
    (h:cvI ((cv:Nat):Int) = some V) (h0:K≠0) (hn:K<V.n) (hl:l.length≤70000000) (w:World) (hH:∀ x,x∈([pB 1 pb fb c (n+1) mb tb dv,gpI (yB fb (n+1) fh rest mb o tb tr l D)]++[]:List Item)→x.holds w) (hd:([pB 1 pb fb c (n+1) mb tb dv,gpI (yB fb (n+1) fh rest mb o tb tr l D)]++[]:List Item).Pairwise Apart) :
    DoR w pb (calL 3 cv 0 0 0 ca ⟨#[]⟩ ⟨#[]⟩) (pB 1 pb fb c (n+1) mb tb dv) (yB fb (n+1) fh rest mb o tb tr l D) (fun u x' y'=>∃ f' rest' tr',u = ansV 0 ⟨#[]⟩ (fh 0) false∧x' = pB 1 pb fb c n mb tb dv∧y' = gpI (yB fb n f' rest' mb (some ((fh 0:Int),hldV cv K (xv (pmul V.A V.G K)) (yv (pmul V.A V.G K)) (iv (pmul V.A V.G K)))) tb tr' (l++evN m) D)):=by
  refine (c_pDo pb fb c (n+1) mb tb dv (yB fb (n+1) fh rest mb o tb tr l D) (all_app rfl hD) (fun c0 o2 h2 b p' Y'=>c0 = 0∧o2 = ⟨#[]⟩∧h2 = fh 0∧b = false∧∃ f' rest' tr',p' = pB 1 pb fb c n mb tb dv∧Y' = yB fb n f' rest' mb (some ((fh 0:Int),hldV cv K (xv (pmul V.A V.G K)) (yv (pmul V.A V.G K)) (iv (pmul V.A V.G K)))) tb tr' (l++evN m) D) 106 3 cv 0 0 0 ca ⟨#[]⟩ ⟨#[]⟩ en_106 rfl dc (fun cb w1 g1 g2=>?_) w hH hd).mono ?_
  · refine CallsM.frame (X:=[pB 1 pb fb c (n+1) mb tb dv,rW fb (n+1) fh rest,mpI mb o,trI (some tb) tr l]) (R:=D) (List.Perm.refl _) wkCB hD g1 g2 (fun a b=>CallsM.of4 (c_pImport pb fb c n mb tb dv fh rest o tr l cb 3 cv 0 0 0 ca ⟨#[]⟩ ⟨#[]⟩ K m V hm hc hn9 hleg hA hK w1 a b h h0 hn hl)) ?_
    rintro v _ ⟨x',y',z',p',rfl,f',rest',tr',rfl,rfl,rfl,rfl,rfl⟩
    exact ⟨_,List.Perm.refl _,_,_,rfl,0,_,fh 0,false,rfl,rfl,rfl,rfl,rfl,rfl,f',rest',tr',rfl,rfl⟩
  · rintro e w' ⟨u,x',y',⟨c0,o2,h2,b,Y',rfl,⟨rfl,rfl,rfl,rfl,f',rest',tr',rfl,rfl⟩,rfl⟩,he,ho⟩
    exact ⟨_,_,_,⟨f',rest',tr',rfl,rfl,rfl⟩,he,ho⟩
theorem cvI_tn (x:Int):∃ V,cvI ((13+uidx x%3:Nat):Int) = some V∧legB V = false∧nby V.n = 1∧nby V.p = 1∧201≤V.n∧V.n≤255:=by
  obtain ⟨k,hk⟩:∃ k,uidx x%3 = k:=⟨_,rfl⟩
  have h:k<3:=hk ▸ Nat.mod_lt _ dc
  rw [hk]
  rcases (show k = 0∨k = 1∨k = 2 by omega) with rfl|rfl|rfl
  · exact ⟨cv13,rfl,by decide,by decide +kernel,by decide +kernel,by decide,by decide⟩
  · exact ⟨cv14,rfl,by decide,by decide +kernel,by decide +kernel,by decide,by decide⟩
  · exact ⟨cv15,rfl,by decide,by decide +kernel,by decide +kernel,by decide,by decide⟩
theorem one_val {d:Nat} (h:d<256):beVal (toS [d%256]).data.toList = d:=by
  rw [toS_l]
  show (UInt8.ofNat (d%256)).toNat*256^0+0 = d
  rw [UInt8.toNat_ofNat']
  omega
open Grp
theorem c_derPut2 (R T:Nat) (o:ByteArray) (ho:derPut R T = o) (hR:R<W9) (hT:T<W9) (w:World):CF Tryz.prog 19 [sgV R T] w (.string o):=ho ▸ c_derPut R T hR hT w
theorem c_rawPut2 (id:Int) (V:Cv) (R T:Nat) (o:ByteArray) (ho:rpS V R T = o) (w:World) (h:cvI id = some V) (hW:V.n<W9) (hR:R<V.n) (hT:T<V.n):CF Tryz.prog 16 [.int .i64 id,sgV R T] w (.tuple #[.string o,.int .i64 ((0:Nat):Int)]):=ho ▸ c_rawPutOK id V R T w h hW hR hT
theorem c_pHashed (cb op cv k hh nn:Nat) (ca cc cx:ByteArray) (hk:k = 1∨k = 2∨k = 3∨k = 4) (tx:Nat) (sx:ByteArray) (hx:sx.size≤65536) (w:World) (hcb:(Item.blk cb ⟨false,calL op cv k hh nn ca cc cx,68,(0,0)⟩).holds w) (htx:(Item.blk tx ⟨false,[.string sx],9,(0,0)⟩).holds w):CF Tryz.prog 155 [.pointer (some ⟨cb,0,none⟩),.slice (some ⟨tx,0,none⟩) 1 1] w (.int .i64 ((0:Nat):Int)):=by
  have hs8:=KCM hk
  refine KV (N:=23) (rs:=[.tmp 4]) [.blk cb ⟨false,calL op cv k hh nn ca cc cx,68,(0,0)⟩,.blk tx ⟨false,[.string sx],9,(0,0)⟩] Tryz.func155 rfl Tryz.ntmps155 Tryz.results155 (Nb rfl) ⟨hcb,htx,trivial⟩ rfl ?_
  refine KB (KA (oP (KO (v:=.int .i64 ((0:Nat):Int)) rfl) (KC (KB (KB (KA (oM ?_)))))));refine oP (KG rfl) (oP (KD (o':=2) u68 rfl rfl rfl sz_3 dc) (oD (dL rfl (hv:=KI u3 rfl gL)) ?_));refine oS (cF rfl en_31 rfl (fun w hw=>c_hSize k hk w) ?_);refine oP (KF (v:=.bool false) rfl rfl (br_f (KAG (b:=0)) om)) (KC (KH rfl (KN (KB (KB (KA (oM ?_)))))));refine oP (KBF u143 rfl) (oP (Kd (v:=.int .i64 ((0:Nat):Int)) rfl) (KC (LCode.block (Kc (α:=Nat) (fun i=>i≤1) (fun i=>⟨[(13,.slice (some ⟨tx,0,none⟩) 1 1),(14,.int .i64 ((1:Nat):Int)),(15,.int .i64 ((i:Nat):Int))],[.blk tx ⟨false,[.string sx],9,(0,0)⟩]⟩) (fun i=>1-i) (0) (Nat.zero_le _) (KY ⟨rfl,rfl,rfl,trivial⟩ mS) ?_))))
  intro i hi
  refine KB (KA (oP (KF rfl rfl (Kr)) (KC (KB ?_))))
  first|refine KQ rfl (fun h16=>?_) (fun h16=>?_)|refine KR rfl (fun h16=>?_) (fun h16=>?_)
  ·
   have h16:i<1:=h16
   obtain rfl:i = 0:=by omega
   refine KN (KB (LCode.block (KB (KA (oP (Kt u143 sz_9 rfl rfl om) (oD (dL rfl (hv:=KI u9 rfl gL)) ?_))))));refine oA (KC (KB (KA (oM ?_))));refine oP (KAU u9 rfl) (oP (KF (v:=.bool false) rfl rfl (br_f (KAV (b:=65536)) om)) (KC (KH rfl (KN (KA (oP (KF rfl rfl (Kj (b:=1) om)) (oM (KC ?_))))))))
   exact ⟨0+1,by decide,by decide,KY ⟨rfl,rfl,rfl,trivial⟩ mS⟩
  refine KZ (KB (KA (oP (KO (v:=.int .i64 ((0:Nat):Int)) rfl) (KC (KM (eN (.cons rfl .nil) ?_))))))
  rfl
theorem c_pSign (pb fb c n mb tb d n0:Nat) (K0 U0:ByteArray) (hK:K0.size≤64) (hU:U0.size≤64) (tr:TrRow) (l:List Nat) (cb op cv2 ha hh nn:Nat) (ca cc cx:ByteArray) (cv K X Y:Nat) (V:Cv) (R T T2 E:Nat) (K2 U2:ByteArray) (n2:Nat) (hk:ha = 1∨ha = 2∨ha = 3∨ha = 4) (hca:ca.size≤65536) (hnn:nn = 0∨nn = 1) (w:World) (hH:∀ x,x∈([trI (some tb) tr l,.blk d ⟨true,gnL 2 K0 U0 (n0),79,(0,0)⟩]++[.blk pb ⟨false,[.int .i64 ((1:Nat):Int),.pointer (some ⟨d,0,none⟩),.slice (some ⟨fb,0,none⟩) n c,.map (some mb),trV (some tb)],124,(0,0)⟩,mpR mb (some ((hh:Int),hldV cv K X Y false)),.blk cb ⟨false,calL op cv2 ha hh nn ca cc cx,68,(0,0)⟩]:List Item)→x.holds w) (hd:([trI (some tb) tr l,.blk d ⟨true,gnL 2 K0 U0 (n0),79,(0,0)⟩]++[.blk pb ⟨false,[.int .i64 ((1:Nat):Int),.pointer (some ⟨d,0,none⟩),.slice (some ⟨fb,0,none⟩) n c,.map (some mb),trV (some tb)],124,(0,0)⟩,mpR mb (some ((hh:Int),hldV cv K X Y false)),.blk cb ⟨false,calL op cv2 ha hh nn ca cc cx,68,(0,0)⟩]:List Item).Pairwise Apart) (h:cvI ((cv:Nat):Int) = some V) (h0:K≠0) (hn:K<V.n) (hm:sgE V 2 (digE V ha ca) K 64 0 K0 U0 n0 = ((R,T,T2,E),K2,U2,n2)) (hE:E = 0∨E = 2603∨E = 2604) (hl:l.length≤60000000):Calls Tryz.prog 111 ([.pointer (some ⟨pb,0,none⟩),.pointer (some ⟨cb,0,none⟩)]:List Value).toArray w (fun e w'=>∃ (u:Value) (x':Item) (y':Item),(∃ ac ao tr' l',l'.length≤l.length+64*2500∧u = ansV ac ao 0 false∧x' = trI (some tb) tr' l'∧((E = 0∧ac = 0∧((nn = 1∧ao = derPut R T)∨(nn = 0∧ao = rpS V R T)))∨(E≠0∧ac≠0))∧y' = .blk d ⟨true,gnL 2 K2 U2 (n2),79,(0,0)⟩)∧e = .returned u∧Outcome w [trI (some tb) tr l,.blk d ⟨true,gnL 2 K0 U0 (n0),79,(0,0)⟩] [x',y'] w'):=by
  obtain ⟨hok,hid⟩:=KBT h
  have hbb:=hok.bounds
  have hpW:V.p<W9:=KAF hbb.2.1
  have hnW:V.n<W9:=KAF hbb.2.2.2.2.2.2.1
  have hbl:=KAn hnW
  have hnb:nby V.n≤72:=by (unfold nby; omega)
  refine KAA [trI (some tb) tr l,.blk d ⟨true,gnL 2 K0 U0 (n0),79,(0,0)⟩,.blk pb ⟨false,[.int .i64 ((1:Nat):Int),.pointer (some ⟨d,0,none⟩),.slice (some ⟨fb,0,none⟩) n c,.map (some mb),trV (some tb)],124,(0,0)⟩,mpR mb (some ((hh:Int),hldV cv K X Y false)),.blk cb ⟨false,calL op cv2 ha hh nn ca cc cx,68,(0,0)⟩] (N:=82) (rs:=[.cell 4 65]) Tryz.func111 rfl Tryz.ntmps111 Tryz.results111 (Nb rfl) hH hd rfl rfl ?_
  refine KB (KA (oS (mk (KK zr_65) (fun b4=>?_))));refine KC (KB (KA (oM (oM ?_))));refine oS (cF rfl en_154 rfl (fun w hw=>c_pSecret pb fb c n mb tb (.pointer (some ⟨d,0,none⟩)) cb op cv2 ha hh nn ca cc cx cv K X Y w (mC hw) (mC hw) (mC hw) h0 (Nat.lt_trans hn hnW)) ?_);refine oM ?_;refine oX ?_;refine oX ?_;refine oS (mk (KK zr_235) (fun b5=>?_));refine LOps.step rfl (sA rfl rfl sz_235 (by exact hldL_one _ _ _ _ _) (hl:=by exact KCx _ _ _ _ _) (h:=?_));refine oA (KC (KB (KB (KA (oM ?_)))));refine oP (KF (v:=.bool false) rfl rfl (br_f (KAe (b:=0)) dc)) (KC (KH rfl (KN (KB (KB (KA (oM (oM ?_))))))));refine oP (KG rfl) (oP (KD (o':=5) u68 rfl rfl rfl sz_9 dc) (oD (dL rfl (hv:=KI u9 rfl gL)) ?_));refine oS (mk (KAK u143 inf_9 rfl rfl rfl rfl dc rfl) (fun b27=>?_));refine oS (cF rfl en_155 rfl (fun w hw=>c_pHashed cb op cv2 ha hh nn ca cc cx hk b27 ca hca w (mC hw) (show (Item.blk b27 ⟨false,[.string ca],9,(0,0)⟩).holds w from hw (.blk b27 ⟨true,[.string ca],9,(0,0)⟩) mM)) ?_)
  refine oA (KC (KB (KA (oM ?_))));refine oP (KF (v:=.bool false) rfl rfl (br_f (KAe (b:=0)) dc)) (KC (KH rfl (KN (KBm (α:=TrRow×List Nat×Nat) (fun z=>z.2.1.length≤l.length+64*2500) (fun z=>⟨[(1,.pointer (some ⟨cb,0,none⟩)),(4,.pointer (some ⟨b4,0,none⟩)),(5,.pointer (some ⟨b5,0,none⟩)),(7,.pointer (some ⟨z.2.2,0,none⟩)),(9,.int .i64 ((E:Nat):Int))],[.blk d ⟨true,gnL 2 K2 U2 (n2),79,(0,0)⟩,trI (some tb) z.1 z.2.1,.blk cb ⟨false,calL op cv2 ha hh nn ca cc cx,68,(0,0)⟩,.blk b5 ⟨true,hldL cv K X Y false,235,(0,0)⟩,.blk b4 ⟨true,ansL 0 ⟨#[]⟩ 0 false,65,(0,0)⟩,.blk z.2.2 ⟨true,sgL R T,37,(0,0)⟩]⟩) ?_ ?_))))
  ·
   refine rD [20,26] (aM 0 ?_);refine aP 1 rfl (KG rfl) (aP 2 rfl (KD (o':=4) u124 rfl rfl rfl sz_86 dc) (aD 3 rfl (dL rfl (hv:=KI u86 rfl (rfl))) ?_));refine aP 4 rfl (KD (o':=0) u235 rfl rfl rfl sz_3 dc) (aD 5 rfl (dL rfl (hv:=KI u3 rfl gL)) ?_);refine aM 6 ?_;refine aP 7 rfl (KG rfl) (aP 8 rfl (KD (o':=2) u68 rfl rfl rfl sz_3 dc) (aD 9 rfl (dL rfl (hv:=KI u3 rfl gL)) ?_));refine aP 10 rfl (KD (o':=1) u235 rfl rfl rfl sz_33 dc) (aD 11 rfl (dL rfl (hv:=by exact hld_d)) ?_);refine aM 12 ?_;refine aP 13 rfl (KG rfl) (aP 14 rfl (KD (o':=5) u68 rfl rfl rfl sz_9 dc) (aD 15 rfl (dL rfl (hv:=KI u9 rfl gL)) ?_));refine aM 16 ?_;refine aP 17 rfl (KG rfl) (aP 18 rfl (KD (o':=1) u124 rfl rfl rfl sz_24 dc) (aD 19 rfl (dL rfl (hv:=KI u24 rfl (rfl))) ?_))
   refine KBa 20 25 rfl rfl rfl rfl kr (.inl ⟨rfl,Ky (first:=[]) (caps:=[]) (X:=[.blk d ⟨true,gnL 2 K0 U0 (n0),79,(0,0)⟩,trI (some tb) tr l]) (RO:=[]) rfl en_15 rfl (Nb rfl) sR wK (fun w hH hd=>c_eSign (some tb) tr l _ V K ⟨h0,hn⟩ ha hk ca om 2 dc d n0 K0 U0 hK hU R T T2 E K2 U2 n2 w hH hd h hm om) ?_⟩) (.inr (mk (KK zr_37) (fun b7=>?_)))
   ·
    rintro _ _ _ ⟨rfl,rfl,tr2,l2,rfl,hl2⟩
    refine aM 21 ?_;refine aP 22 rfl (Det.extract rfl rfl) (aP 23 rfl (Det.extract rfl rfl) (aP 24 rfl (Det.extract rfl rfl) (aO 25 rfl (mk (KK zr_37) (fun b7=>?_)))));refine aL 26 rfl (sA rfl rfl sz_37 (by exact sgL_one _ _) (hl:=by exact KCG _ _) (h:=?_));refine aA 27 ?_;refine aA 28 ?_;refine aE ?_
    exact ⟨(tr2,l2,b7),hl2,KY ⟨rfl,rfl,rfl,rfl,rfl,trivial⟩ mS⟩
   refine aL 20 rfl (Ky (first:=[]) (caps:=[]) (X:=[.blk d ⟨true,gnL 2 K0 U0 (n0),79,(0,0)⟩,trI (some tb) tr l]) (RO:=[]) rfl en_15 rfl (Nb rfl) sR wK (fun w hH hd=>c_eSign (some tb) tr l _ V K ⟨h0,hn⟩ ha hk ca om 2 dc d n0 K0 U0 hK hU R T T2 E K2 U2 n2 w hH hd h hm om) ?_)
   rintro _ _ _ ⟨rfl,rfl,tr2,l2,rfl,hl2⟩
   refine aM 21 ?_;refine aP 22 rfl (Det.extract rfl rfl) (aP 23 rfl (Det.extract rfl rfl) (aP 24 rfl (Det.extract rfl rfl) (aL 26 rfl (sA rfl rfl sz_37 (by exact sgL_one _ _) (hl:=by exact KCG _ _) (h:=?_)))));refine aA 27 ?_;refine aA 28 ?_;refine aE ?_
   exact ⟨(tr2,l2,b7),hl2,KY ⟨rfl,rfl,rfl,rfl,rfl,trivial⟩ mS⟩
  rintro ⟨tr3,l3,b7⟩ hl3
  refine KB (KB (KA (oM (KC (LCode.block (KB ?_))))))
  rcases hE with rfl|rfl|rfl
  ·
   refine KA (oP (KF (v:=.bool true) rfl rfl (br_t (KAG (b:=0)) dc)) (oA (KC ?_)));refine KT rfl (KN (KB (KB ?_)))
   obtain ⟨x0,hx0,ho0,hRe,hTe⟩:=sgE_zero _ _ _ _ _ hm
   have hnp:0<V.n:=by omega
   have hRn:R<V.n:=hRe ▸ Nat.mod_lt _ hnp
   have hTn:T<V.n:=hTe ▸ Nat.mod_lt _ hnp
   rcases hnn with rfl|rfl
   ·
    refine KA (oM ?_);refine oP (KG rfl) (oP (KD (o':=4) u68 rfl rfl rfl sz_3 dc) (oD (dL rfl (hv:=KI u3 rfl gL)) ?_));refine oP (KF (v:=.bool false) rfl rfl (br_f (KAG (b:=1)) dc)) (KC (KH rfl (KN (KB (KA (oP (KD (o':=0) u235 rfl rfl rfl sz_3 dc) (oD (dL rfl (hv:=KI u3 rfl gL)) ?_)))))));refine oD (dL rfl (hv:=by exact KE u37 rfl sz_37)) ?_;refine oS (cF rfl en_16 rfl (fun w hw=>c_rawPutOK _ V R T w h hnW hRn hTn) ?_);refine oM ?_;refine oX ?_;refine oX ?_;refine oA (oA (KC (KB (KA (oM ?_)))));refine oP (Ka pl_65 zr_65 rfl (fT (r':=([Value.int .i64 ((0:Nat):Int)]++([.string (rpS V R T)]++([Value.int .i64 ((0:Nat):Int)]++([Value.bool false]))))) (fS (A:=([Value.int .i64 ((0:Nat):Int)])) (B:=([Value.string ⟨#[]⟩])) (D:=([Value.int .i64 ((0:Nat):Int)]++([Value.bool false]))) (cs:=[.string (rpS V R T)]) rfl))) ?_;refine LOps.step rfl (sA rfl rfl sz_65 (by exact KBK 0 (rpS V R T) 0 false) (hl:=by rfl) (h:=?_))
    refine KC (KM (⟨[_],.cons ⟨_,_,_,rfl,mM,by exact KE u65 rfl sz_65⟩ .nil,fun a w' hr=>⟨_,_,_,⟨0,rpS V R T,tr3,l3,hl3,rfl,rfl,.inl ⟨rfl,rfl,.inr ⟨rfl,rfl⟩⟩,rfl⟩,rfl,hr.out mS rfl⟩⟩))
   refine KA (oM ?_);refine oP (KG rfl) (oP (KD (o':=4) u68 rfl rfl rfl sz_3 dc) (oD (dL rfl (hv:=KI u3 rfl gL)) ?_));refine oP (KF (v:=.bool true) rfl rfl (br_t (KAG (b:=1)) dc)) (KC (KT rfl (KB ?_)))
   obtain ⟨dp,hdp⟩:∃ dp,derPut R T = dp:=⟨_,rfl⟩
   refine KA (oD (dL rfl (hv:=by exact KE u37 rfl sz_37)) ?_);refine oS (cF rfl en_19 rfl (fun w hw=>c_derPut2 R T dp hdp (Nat.lt_trans hRn hnW) (Nat.lt_trans hTn hnW) w) ?_);refine oP (Ka pl_65 zr_65 rfl (fT (r':=([Value.int .i64 ((0:Nat):Int)]++([.string dp]++([Value.int .i64 ((0:Nat):Int)]++([Value.bool false]))))) (fS (A:=([Value.int .i64 ((0:Nat):Int)])) (B:=([Value.string ⟨#[]⟩])) (D:=([Value.int .i64 ((0:Nat):Int)]++([Value.bool false]))) (cs:=[.string dp]) rfl))) ?_;refine LOps.step rfl (sA rfl rfl sz_65 (by exact KBK 0 (dp) 0 false) (hl:=by rfl) (h:=?_));refine KC (KM (⟨[_],.cons ⟨_,_,_,rfl,mM,by exact KE u65 rfl sz_65⟩ .nil,fun a w' hr=>⟨_,_,_,⟨0,dp,tr3,l3,hl3,rfl,rfl,.inl ⟨rfl,rfl,.inl ⟨rfl,hdp.symm⟩⟩,rfl⟩,rfl,hr.out mS rfl⟩⟩))
  ·
   refine KA (oP (KF (v:=.bool false) rfl rfl (br_f (KAG (b:=0)) dc)) (oA (KC ?_)));refine KH rfl (KB (KA (oP (KF (v:=.bool false) rfl rfl (br_f (KAG (b:=2604)) dc)) (oA (KC ?_)))));refine KH rfl (KB (KA (oS (cF rfl en_61 rfl (fun w hw=>c_pCode 9 w) ?_))));refine LOps.step rfl (sA rfl rfl sz_65 (by exact KBK 9 (⟨#[]⟩) 0 false) (hl:=by rfl) (h:=?_));refine KC (KM (⟨[_],.cons ⟨_,_,_,rfl,mM,by exact KE u65 rfl sz_65⟩ .nil,fun a w' hr=>⟨_,_,_,⟨9,⟨#[]⟩,tr3,l3,hl3,rfl,rfl,.inr ⟨by decide,by decide⟩,rfl⟩,rfl,hr.out mS rfl⟩⟩))
  refine KA (oP (KF (v:=.bool false) rfl rfl (br_f (KAG (b:=0)) dc)) (oA (KC ?_)));refine KH rfl (KB (KA (oP (KF (v:=.bool true) rfl rfl (br_t (KAG (b:=2604)) dc)) (oA (KC ?_)))));refine KT rfl (KB (KA (oS (cF rfl en_61 rfl (fun w hw=>c_pCode 14 w) ?_))));refine LOps.step rfl (sA rfl rfl sz_65 (by exact KBK 14 (⟨#[]⟩) 0 false) (hl:=by rfl) (h:=?_));refine KC (KM (⟨[_],.cons ⟨_,_,_,rfl,mM,by exact KE u65 rfl sz_65⟩ .nil,fun a w' hr=>⟨_,_,_,⟨14,⟨#[]⟩,tr3,l3,hl3,rfl,rfl,.inr ⟨by decide,by decide⟩,rfl⟩,rfl,hr.out mS rfl⟩⟩))
theorem c_doSign (pb fb c n mb tb d n0 : Nat) (K0 U0 : ByteArray) (hK : K0.size ≤ 64) (hU : U0.size ≤ 64) (fh : Nat → Nat) (rest : List Value) (tr : TrRow) (l : List Nat) (ha hh nn : Nat) (ca : ByteArray) (cv K X Y : Nat) (V : Cv) (R T T2 E : Nat) (K2 U2 : ByteArray) (n2 : Nat) (hk : ha = 1 ∨ ha = 2 ∨ ha = 3 ∨ ha = 4) (hca : ca.size ≤ 65536) (hnn : nn = 0 ∨ nn = 1)
    (h:cvI ((cv:Nat):Int) = some V) (h0:K≠0) (hn:K<V.n) (hm:sgE V 2 (digE V ha ca) K 64 0 K0 U0 n0 = ((R,T,T2,E),K2,U2,n2)) (hE:E = 0∨E = 2603∨E = 2604) (hl:l.length≤60000000) (w:World)
    (hH:∀ x,x∈([pB 1 pb fb c n mb tb (.pointer (some ⟨d,0,none⟩)),gpI (yB fb n fh rest mb (some ((hh:Int),hldV cv K X Y false)) tb tr l [dB d K0 U0 n0])]++[]:List Item)→x.holds w) (hd:([pB 1 pb fb c n mb tb (.pointer (some ⟨d,0,none⟩)),gpI (yB fb n fh rest mb (some ((hh:Int),hldV cv K X Y false)) tb tr l [dB d K0 U0 n0])]++[]:List Item).Pairwise Apart) :
    DoR w pb (calL 8 0 ha hh nn ca ⟨#[]⟩ ⟨#[]⟩) (pB 1 pb fb c n mb tb (.pointer (some ⟨d,0,none⟩))) (yB fb n fh rest mb (some ((hh:Int),hldV cv K X Y false)) tb tr l [dB d K0 U0 n0]) (fun u x' y'=>∃ ac ao tr' l',u = ansV ac ao 0 false∧x' = pB 1 pb fb c n mb tb (.pointer (some ⟨d,0,none⟩))∧y' = gpI (yB fb n fh rest mb (some ((hh:Int),hldV cv K X Y false)) tb tr' l' [dB d K2 U2 n2])∧((E = 0∧ac = 0∧((nn = 1∧ao = derPut R T)∨(nn = 0∧ao = rpS V R T)))∨(E≠0∧ac≠0))):=by
  refine (c_pDo pb fb c n mb tb _ _ (all_app rfl rfl) (fun c0 o2 h2 b p' Y'=>h2 = 0∧b = false∧∃ tr' l',p' = pB 1 pb fb c n mb tb (.pointer (some ⟨d,0,none⟩))∧Y' = yB fb n fh rest mb (some ((hh:Int),hldV cv K X Y false)) tb tr' l' [dB d K2 U2 n2]∧((E = 0∧c0 = 0∧((nn = 1∧o2 = derPut R T)∨(nn = 0∧o2 = rpS V R T)))∨(E≠0∧c0≠0))) 111 8 0 ha hh nn ca ⟨#[]⟩ ⟨#[]⟩ en_111 rfl dc (fun cb w1 g1 g2=>?_) w hH hd).mono ?_
  · refine CallsM.frame (X:=[trI (some tb) tr l,dB d K0 U0 n0]) (R:=[pB 1 pb fb c n mb tb (.pointer (some ⟨d,0,none⟩)),rW fb n fh rest,mpI mb (some ((hh:Int),hldV cv K X Y false))]) (RO':=[.blk pb ⟨false,_,_,(0,0)⟩,mpR mb (some ((hh:Int),hldV cv K X Y false)),cB cb 8 0 ha hh nn ca ⟨#[]⟩ ⟨#[]⟩]) (List.perm_append_comm (l₁:=[pB 1 pb fb c n mb tb (.pointer (some ⟨d,0,none⟩)),rW fb n fh rest,mpI mb (some ((hh:Int),hldV cv K X Y false))]) (l₂:=[trI (some tb) tr l,dB d K0 U0 n0])) (Weaks.cons (.head _) Weak.blk (Weaks.cons (.tail _ (.tail _ (.head _))) Weak.mp wkCB)) rfl g1 g2 (fun a b=>CallsM.of2 (c_pSign pb fb c n mb tb d n0 K0 U0 hK hU tr l cb 8 0 ha hh nn ca ⟨#[]⟩ ⟨#[]⟩ cv K X Y V R T T2 E K2 U2 n2 hk hca hnn w1 a b h h0 hn hm hE hl)) ?_
    rintro v _ ⟨x',y',rfl,ac,ao,tr',l',_,rfl,rfl,hf,rfl⟩
    exact ⟨_,List.perm_append_comm (l₁:=[pB 1 pb fb c n mb tb (.pointer (some ⟨d,0,none⟩)),rW fb n fh rest,mpI mb (some ((hh:Int),hldV cv K X Y false))]) (l₂:=[trI (some tb) tr' l',dB d K2 U2 n2]),_,_,rfl,ac,ao,0,false,rfl,rfl,rfl,rfl,tr',l',rfl,rfl,hf⟩
  · rintro e w' ⟨u,x',y',⟨c0,o2,h2,b,Y',rfl,⟨rfl,rfl,tr',l',rfl,rfl,hf⟩,rfl⟩,he,ho⟩
    exact ⟨_,_,_,⟨c0,o2,tr',l',rfl,rfl,rfl,hf⟩,he,ho⟩
theorem conv8s {x:Nat} (h:x<256):Value.int .u8 ((x%256:Nat):Int) = .int .u8 ((x:Nat):Int):=by rw [Nat.mod_eq_of_lt h]
theorem one_val2 {d:Nat} (h:d<256):beVal (toS [d]).data.toList = d:=by
  have:=one_val h
  rwa [Nat.mod_eq_of_lt h] at this
theorem c_TopImports (which a:Int) (s msg:ByteArray) (asn:Bool) (hs0:s.size<9223372036854775808) (hmsg:msg.size<9223372036854775808) (w:World)  : CF Tryz.prog 6 [.int .i64 which,.int .i64 a,.string s,.string msg,.bool asn] w (.bool true):=by
  have hsz1:(shS s 100).size≤100:=shS_size s 100
  have hsz:(shS s 100++(⟨#[48,49,50,51,52,53,54,55,56,57,97,98,99,100,101,102,48,49,50,51,52,53,54,55,56,57,97,98,99,100,101,102]⟩:ByteArray)).size = (shS s 100).size+32:=by rw [ByteArray.size_append]; rfl
  obtain ⟨Z,hZ⟩:∃ Z,(upd 2 ((shS s 100++(⟨#[48,49,50,51,52,53,54,55,56,57,97,98,99,100,101,102,48,49,50,51,52,53,54,55,56,57,97,98,99,100,101,102]⟩:ByteArray))++⟨#[]⟩++⟨#[]⟩) (toS (List.replicate (hsize 2) 0),toS (List.replicate (hsize 2) 1))) = Z:=⟨_,rfl⟩
  have hZs:Z.1.size≤64∧Z.2.size≤64:=hZ ▸ upd_size (k:=2) dc _ (by rw [KAC,List.length_replicate]; decide) (by rw [KAC,List.length_replicate]; decide)
  refine KV (N:=108) (rs:=[.tmp 10]) [] Tryz.func6 rfl Tryz.ntmps6 Tryz.results6 (Nb rfl) trivial rfl ?_
  refine KB (KA (oA (KC (KB (KB (KA ?_))))));refine oS (cF rfl en_9 rfl (fun w hw=>c_awakeT w) ?_);refine oP (KJ (KAH rfl) (show _ = Value.bool false from rfl)) (KC (KH rfl (KN (KB (KA (oM ?_))))));refine oP (KJ (KCs u3 u56 rfl) (uidx_eq which)) (oP (KJ (KF rfl rfl (br_rem64 (b:=3) dc)) (show _ = .int .u64 ((uidx which%3:Nat):Int) from rfl)) (oP (KBL u56 u3 rfl om) (oP (KF rfl rfl (Kj (a:=13) om)) (oA (KC (KB ?_))))))
  obtain ⟨V,h,hleg,hnn,hnpp,hbig,hbig2⟩:=cvI_tn which
  obtain ⟨hok,hid⟩:=KBT h
  have hpW:V.p<W9:=KAF hok.bounds.2.1
  have hnW:V.n<W9:=KAF hok.bounds.2.2.2.2.2.2.1
  obtain ⟨m,hm⟩:∃ m,(blen V.n+3)/4 = m:=⟨_,rfl⟩
  have hbl:=KAn hnW
  have hm144:m≤144:=by omega
  have hu3:=Nat.mod_lt (uidx which) (show 0<3 by decide)
  have hu200:=Nat.mod_lt (uidx a) (show 0<200 by decide)
  obtain ⟨qx,qy,hq⟩:=pmul_affT hok (k:=(1+uidx a%200)) om om
  refine KA (oM ?_);refine LOps.step rfl (Ky (first:=[]) (caps:=[]) (X:=[]) (RO:=[]) rfl en_27 rfl (Nb rfl) sR wK (fun w hH hd=>c_ready s hs0 Z hZ w hH hd) ?_)
  rintro _ _ _ ⟨pb,fb,c,mb,tb,d,rest0,hc64,rfl,rfl,rfl⟩
  refine oM ?_;refine oX ?_;refine oX ?_;refine oA (oA (KC (KB (KA (oM ?_)))));refine oS (cF rfl en_12 rfl (fun w hw=>c_short s 100 w) ?_);refine oP (KAZ rfl rfl (Nat.le_trans (Nat.add_le_add_right hsz1 32) dc)) ?_;refine LOps.step rfl (Ke (first:=[]) (caps:=[]) (X:=[]) (RO:=[]) rfl en_11 rfl (Nb rfl) sR wK (fun w hH hd=>c_dNew 2 dc (shS s 100++(⟨#[48,49,50,51,52,53,54,55,56,57,97,98,99,100,101,102,48,49,50,51,52,53,54,55,56,57,97,98,99,100,101,102]⟩:ByteArray)) ⟨#[]⟩ ⟨#[]⟩ (show 16≤_ by rw [hsz]; omega) (by rw [hsz]; omega) dc dc w hH hd) ?_)
  rintro _ _ ⟨dd,rfl,rfl⟩
  rw [hZ]
  refine oM ?_;refine oX ?_;refine oX ?_;refine oA (oA (KC (KB (KA (oM ?_)))));refine oP (KJ (KCs u3 u56 rfl) (uidx_eq a)) (oP (KJ (KF rfl rfl (br_rem64 (b:=200) dc)) (show _ = .int .u64 ((uidx a%200:Nat):Int) from rfl)) (oP (KBL u56 u3 rfl om) (oP (KF rfl rfl (Kj (a:=1) om)) (oP (KJ (KAM u3 u5 rfl) (conv8s om)) (oA (KC (KB (KA (oM (oM (oM ?_)))))))))));refine oS (mk (KAK u70 inf_5 rfl rfl rfl rfl dc rfl) (fun b54=>?_));refine oD (KAp (KAx (f:=fun _=>(1+uidx a%200)) u70 u5 u9 rfl mM rfl) (show _ = Value.string (toS [(1+uidx a%200)]) from rfl)) ?_;refine oP (Ka pl_68 zr_68 rfl (fT (r':=([.int .i64 ((3:Nat):Int)]++([.int .i64 (((13+uidx which%3):Nat):Int)]++([Value.int .i64 ((0:Nat):Int)]++([Value.int .i64 ((0:Nat):Int)]++([Value.int .i64 ((0:Nat):Int)]++([.string (toS [(1+uidx a%200)])]++([Value.string ⟨#[]⟩]++([Value.string ⟨#[]⟩]))))))))) (fS (A:=([]:List Value)) (B:=([Value.int .i64 ((0:Nat):Int)])) (D:=([Value.int .i64 ((0:Nat):Int)]++([Value.int .i64 ((0:Nat):Int)]++([Value.int .i64 ((0:Nat):Int)]++([Value.int .i64 ((0:Nat):Int)]++([Value.string ⟨#[]⟩]++([Value.string ⟨#[]⟩]++([Value.string ⟨#[]⟩])))))))) (cs:=[.int .i64 ((3:Nat):Int)]) (fS (A:=([.int .i64 ((3:Nat):Int)])) (B:=([Value.int .i64 ((0:Nat):Int)])) (D:=([Value.int .i64 ((0:Nat):Int)]++([Value.int .i64 ((0:Nat):Int)]++([Value.int .i64 ((0:Nat):Int)]++([Value.string ⟨#[]⟩]++([Value.string ⟨#[]⟩]++([Value.string ⟨#[]⟩]))))))) (cs:=[.int .i64 (((13+uidx which%3):Nat):Int)]) (fS (A:=([.int .i64 ((3:Nat):Int)]++([.int .i64 (((13+uidx which%3):Nat):Int)]++([Value.int .i64 ((0:Nat):Int)]++([Value.int .i64 ((0:Nat):Int)]++([Value.int .i64 ((0:Nat):Int)])))))) (B:=([Value.string ⟨#[]⟩])) (D:=([Value.string ⟨#[]⟩]++([Value.string ⟨#[]⟩]))) (cs:=[.string (toS [(1+uidx a%200)])]) rfl))))) ?_
  refine LOps.step rfl (Ky (first:=[]) (caps:=[]) (X:=[pB 1 pb fb c (63+1) mb tb (.pointer (some ⟨d,0,none⟩)),gpI (yB fb (63+1) (fun i=>i) rest0 mb none tb none [] [dB d Z.1 Z.2 1])]) (RO:=[]) rfl en_28 rfl (Nb rfl) sR wK (fun w hH hd=>c_doImport pb fb c 63 mb tb (.pointer (some ⟨d,0,none⟩)) (fun i=>i) rest0 none none [] [dB d Z.1 Z.2 1] rfl (13+uidx which%3) (1+uidx a%200) m V hm om dc hleg (toS [(1+uidx a%200)]) (by rw [KAC]; exact hnn.symm) (one_val2 om) h om om (Nat.zero_le _) w hH hd) ?_)
  rintro _ _ _ ⟨f1,rest1,tr1,rfl,rfl,rfl⟩
  rw [hq]
  refine oS (mk (KK zr_65) (fun b17=>?_));refine LOps.step rfl (sA rfl rfl sz_65 (by exact KBK 0 ⟨#[]⟩ 0 false) (hl:=by rfl) (h:=?_));refine KC (KB (KA (oP (KO (v:=.int .i64 ((0:Nat):Int)) rfl) (KC (KBm (α:=Unit) (fun _=>True) (fun _=>⟨[(3,.string msg),(4,.bool asn),(11,.int .i64 (((13+uidx which%3):Nat):Int)),(12,.pointer (some ⟨pb,0,none⟩)),(13,.bool true),(14,.pointer (some ⟨dd,0,none⟩)),(15,.int .i64 ((0:Nat):Int)),(16,.int .u8 (((1+uidx a%200):Nat):Int)),(17,.pointer (some ⟨b17,0,none⟩)),(18,.int .i64 ((asn.toNat:Nat):Int))],[pB 1 pb fb c 63 mb tb (.pointer (some ⟨d,0,none⟩)),gpI (yB fb 63 f1 rest1 mb (some (((0:Nat):Int),hldV (13+uidx which%3) (1+uidx a%200) qx.val qy.val false)) tb tr1 ([]++evN m) [dB d Z.1 Z.2 1]),.blk dd ⟨true,gnL 2 Z.1 Z.2 (1),79,(0,0)⟩,.blk b17 ⟨true,ansL 0 ⟨#[]⟩ 0 false,65,(0,0)⟩]⟩) ?_ ?_)))))
  ·
   refine KB (KA (oM (KC ?_)))
   first|refine KQ rfl (fun h58=>?_) (fun h58=>?_)|refine KR rfl (fun h58=>?_) (fun h58=>?_)
   ·
    subst h58
    refine KA (oP (KO (v:=.int .i64 ((1:Nat):Int)) rfl) (KC ?_))
    exact ⟨(),trivial,KY ⟨rfl,rfl,rfl,rfl,rfl,rfl,rfl,rfl,rfl,rfl,trivial⟩ mS⟩
   subst h58
   refine KN ?_
   exact ⟨(),trivial,KY ⟨rfl,rfl,rfl,rfl,rfl,rfl,rfl,rfl,rfl,rfl,trivial⟩ mS⟩
  rintro _ _
  refine KB (KA (oM ?_));refine oS (cF rfl en_12 rfl (fun w hw=>c_short msg 5000 w) ?_);refine oA (KC (KB ?_))
  obtain ⟨⟨⟨R,T,T2,E⟩,K3,U3,n3⟩,hsg⟩:∃ Q,sgE V 2 (digE V 3 (shS msg 5000)) (1+uidx a%200) 64 0 Z.1 Z.2 1 = Q:=⟨_,rfl⟩
  have hse:E = 0∨E = 2603∨E = 2604:=by have:=sgE_err (V:=V) (dk:=2) (z:=digE V 3 (shS msg 5000)) (D:=(1+uidx a%200)) 64 0 Z.1 Z.2 1; rw [hsg] at this; exact this
  refine KA (oM (oM (oM ?_)));refine oP (Ka pl_68 zr_68 rfl (fT (r':=([.int .i64 ((8:Nat):Int)]++([Value.int .i64 ((0:Nat):Int)]++([.int .i64 ((3:Nat):Int)]++([Value.int .i64 ((0:Nat):Int)]++([.int .i64 ((asn.toNat:Nat):Int)]++([.string (shS msg 5000)]++([Value.string ⟨#[]⟩]++([Value.string ⟨#[]⟩]))))))))) (fS (A:=([]:List Value)) (B:=([Value.int .i64 ((0:Nat):Int)])) (D:=([Value.int .i64 ((0:Nat):Int)]++([Value.int .i64 ((0:Nat):Int)]++([Value.int .i64 ((0:Nat):Int)]++([Value.int .i64 ((0:Nat):Int)]++([Value.string ⟨#[]⟩]++([Value.string ⟨#[]⟩]++([Value.string ⟨#[]⟩])))))))) (cs:=[.int .i64 ((8:Nat):Int)]) (fS (A:=([.int .i64 ((8:Nat):Int)]++([Value.int .i64 ((0:Nat):Int)]))) (B:=([Value.int .i64 ((0:Nat):Int)])) (D:=([Value.int .i64 ((0:Nat):Int)]++([Value.int .i64 ((0:Nat):Int)]++([Value.string ⟨#[]⟩]++([Value.string ⟨#[]⟩]++([Value.string ⟨#[]⟩])))))) (cs:=[.int .i64 ((3:Nat):Int)]) (fS (A:=([.int .i64 ((8:Nat):Int)]++([Value.int .i64 ((0:Nat):Int)]++([.int .i64 ((3:Nat):Int)]++([Value.int .i64 ((0:Nat):Int)]++([Value.int .i64 ((0:Nat):Int)])))))) (B:=([Value.string ⟨#[]⟩])) (D:=([Value.string ⟨#[]⟩]++([Value.string ⟨#[]⟩]))) (cs:=[.string (shS msg 5000)]) (fS (A:=([.int .i64 ((8:Nat):Int)]++([Value.int .i64 ((0:Nat):Int)]++([.int .i64 ((3:Nat):Int)]++([Value.int .i64 ((0:Nat):Int)]))))) (B:=([Value.int .i64 ((0:Nat):Int)])) (D:=([.string (shS msg 5000)]++([Value.string ⟨#[]⟩]++([Value.string ⟨#[]⟩])))) (cs:=[.int .i64 ((asn.toNat:Nat):Int)]) rfl)))))) ?_
  refine LOps.step rfl (Ky (first:=[]) (caps:=[]) (X:=[pB 1 pb fb c 63 mb tb (.pointer (some ⟨d,0,none⟩)),gpI (yB fb 63 f1 rest1 mb (some (((0:Nat):Int),hldV (13+uidx which%3) (1+uidx a%200) qx.val qy.val false)) tb tr1 ([]++evN m) [dB d Z.1 Z.2 1])]) (RO:=[]) rfl en_28 rfl (Nb rfl) sR wK (fun w hH hd=>c_doSign pb fb c 63 mb tb d 1 Z.1 Z.2 hZs.1 hZs.2 f1 rest1 tr1 ([]++evN m) 3 0 asn.toNat (shS msg 5000) (13+uidx which%3) (1+uidx a%200) qx.val qy.val V R T T2 E K3 U3 n3 dc (by have:=shS_size msg 5000; omega) (by cases asn <;> decide) h om om hsg hse (by rw [List.length_append,KCt]; show 0+_≤_; omega) w hH hd) ?_)
  rintro _ _ _ ⟨ac,ao,tr3,l3,rfl,rfl,rfl,hcase⟩
  refine oS (mk (KK zr_65) (fun b20=>?_));refine LOps.step rfl (sA rfl rfl sz_65 (by exact KBK ac ao 0 false) (hl:=by rfl) (h:=?_));refine KC (KBm (α:=Nat) (fun _=>True) (fun z=>⟨[(4,.bool asn),(11,.int .i64 (((13+uidx which%3):Nat):Int)),(13,.bool true),(15,.int .i64 ((0:Nat):Int)),(17,.pointer (some ⟨b17,0,none⟩)),(20,.pointer (some ⟨b20,0,none⟩)),(21,.pointer (some ⟨z,0,none⟩)),(23,.int .i64 ((E:Nat):Int))],[.blk b17 ⟨true,ansL 0 ⟨#[]⟩ 0 false,65,(0,0)⟩,.blk b20 ⟨true,ansL ac ao 0 false,65,(0,0)⟩,.blk z ⟨true,sgL R T,37,(0,0)⟩]⟩) ?_ ?_)
  ·
   refine LCode.sub (Sub.add (x:=trI none none []) (fun w=>trI_nil _ _) rfl) ?_;refine KA (oM (oM ?_));refine oP (KBc u5 u30 rfl om) (oS (cF rfl en_23 rfl (fun w hw=>c_One (1+uidx a%200) w om) ?_));refine oM (oM ?_);refine LOps.step rfl (Ky (first:=[]) (caps:=[]) (X:=[.blk dd ⟨true,gnL 2 Z.1 Z.2 (1),79,(0,0)⟩,trI none none []]) (RO:=[]) rfl en_15 rfl (Nb rfl) sR wK (fun w hH hd=>c_eSign none none [] _ V (1+uidx a%200) ⟨by omega,by omega⟩ 3 dc (shS msg 5000) (by have:=shS_size msg 5000; omega) 2 dc dd 1 Z.1 Z.2 hZs.1 hZs.2 R T T2 E K3 U3 n3 w hH hd h hsg dc) ?_)
   rintro _ _ _ ⟨rfl,rfl,tr2,l2,rfl,hl2⟩
   refine oM ?_;refine oX ?_;refine oX ?_;refine oX ?_;refine oS (mk (KK zr_37) (fun b21=>?_));refine LOps.step rfl (sA rfl rfl sz_37 (by exact sgL_one _ _) (hl:=by exact KCG _ _) (h:=?_));refine oA (oA (KC ?_))
   exact ⟨b21,trivial,KY ⟨rfl,rfl,rfl,rfl,rfl,rfl,rfl,rfl,trivial⟩ mS⟩
  rintro b21 _
  refine KB (KB (KA (oM ?_)));refine oP (KJ (KAH rfl) (show _ = Value.bool false from rfl)) (oM ?_);refine oGM ?_;refine oGS (cF rfl en_13 rfl (fun w hw=>c_Num _ w) ?_);refine oGP (KF (v:=.bool false) rfl rfl (br_f (KAe (b:=0)) (by first|exact (fun e=>e rfl)|(simp; done)|omega))) ?_;refine oP (KU rfl rfl) (oM ?_);refine Kz rfl rfl (dL rfl (hv:=by exact KE u65 rfl sz_65)) (Nb rfl) ?_;refine oGP (Ka pl_65 zr_65 rfl rfl) (oGP (KJ (KBv kr (fun w=>eq_ansT 0 ⟨#[]⟩ 0 false 10000 dc w) rfl rfl) (show _ = Value.bool false by rfl)) (oP (KU rfl rfl) (KC (KH rfl (KN (KB (KB ?_)))))))
  rcases hse with rfl|rfl|rfl
  ·
   refine KA (oM ?_);refine oS (cF rfl en_13 rfl (fun w hw=>c_Num _ w) ?_);refine oP (KF (v:=.bool false) rfl rfl (br_f (KAe (b:=0)) dc)) (KC (KH rfl (KN (KB ?_))))
   obtain ⟨_,rfl,hcz⟩:=hcase.resolve_right (fun h=>h.1 rfl)
   obtain ⟨x0,hx0,ho0,hRe,hTe⟩:=sgE_zero _ _ _ _ _ hsg
   have hnp:0<V.n:=by omega
   have hRn:R<V.n:=hRe ▸ Nat.mod_lt _ hnp
   have hTn:T<V.n:=hTe ▸ Nat.mod_lt _ hnp
   obtain ⟨o2,ho2⟩:∃ o2,rpS V R T = o2:=⟨_,rfl⟩
   rw [ho2] at hcz
   refine KA (oM ?_);refine oD (dL rfl (hv:=by exact KE u37 rfl sz_37)) ?_;refine oS (cF rfl en_16 rfl (fun w hw=>c_rawPut2 _ V R T o2 ho2 w h hnW hRn hTn) ?_);refine oM ?_;refine oX ?_;refine oX ?_;refine oA (oA (KC (KB (KB (KA (oM (KC ?_)))))))
   first|refine KQ rfl (fun h101=>?_) (fun h101=>?_)|refine KR rfl (fun h101=>?_) (fun h101=>?_)
   ·
    subst h101
    obtain ⟨_,hao⟩:=hcz.resolve_right (fun h=>by cases h.1)
    refine KA (oD (dL rfl (hv:=by exact KE u37 rfl sz_37)) ?_);refine oS (cF rfl en_19 rfl (fun w hw=>c_derPut2 R T ao hao.symm (Nat.lt_trans hRn hnW) (Nat.lt_trans hTn hnW) w) ?_);refine oA (KC (KB (KA ?_)));refine oD (dL rfl (hv:=by exact KE u65 rfl sz_65)) ?_;refine oM ?_;refine oP (Ka pl_65 zr_65 rfl (fT (r':=([Value.int .i64 ((0:Nat):Int)]++([.string ao]++([Value.int .i64 ((0:Nat):Int)]++([Value.bool false]))))) (fS (A:=([Value.int .i64 ((0:Nat):Int)])) (B:=([Value.string ⟨#[]⟩])) (D:=([Value.int .i64 ((0:Nat):Int)]++([Value.bool false]))) (cs:=[.string ao]) rfl))) ?_;refine oP (KJ (KBw kr (fun w=>eq_ansT 0 _ 0 false 10000 dc w) rfl rfl) (show _ = Value.bool true by rfl)) (oA (KC (KM ?_)));refine eN (.cons rfl .nil) ?_
    rfl
   subst h101
   obtain ⟨_,rfl⟩:=hcz.resolve_left (fun h=>by cases h.1)
   refine KN (KB (KA (oD (dL rfl (hv:=by exact KE u65 rfl sz_65)) ?_)));refine oM ?_;refine oP (Ka pl_65 zr_65 rfl (fT (r':=([Value.int .i64 ((0:Nat):Int)]++([.string ao]++([Value.int .i64 ((0:Nat):Int)]++([Value.bool false]))))) (fS (A:=([Value.int .i64 ((0:Nat):Int)])) (B:=([Value.string ⟨#[]⟩])) (D:=([Value.int .i64 ((0:Nat):Int)]++([Value.bool false]))) (cs:=[.string ao]) rfl))) ?_;refine oP (KJ (KBw kr (fun w=>eq_ansT 0 _ 0 false 10000 dc w) rfl rfl) (show _ = Value.bool true by rfl)) (oA (KC (KM ?_)));refine eN (.cons rfl .nil) ?_
   rfl
  ·
   refine KA (oM ?_);refine oS (cF rfl en_13 rfl (fun w hw=>c_Num _ w) ?_);refine oP (KF (v:=.bool true) rfl rfl (br_t (KAe (b:=0)) dc)) (KC (KT rfl (KB (KA (oP (KD (o':=0) u65 rfl rfl rfl sz_3 dc) (oD (dL rfl (hv:=KI u3 rfl gL)) ?_))))));refine oP (KF (v:=.bool true) rfl rfl (br_t (KAe (b:=0)) (by have:=(hcase.resolve_left (fun h=>by cases h.1)).2; omega))) ?_;refine oA (KC (KM ?_));refine eN (.cons rfl .nil) ?_
   rfl
  refine KA (oM ?_);refine oS (cF rfl en_13 rfl (fun w hw=>c_Num _ w) ?_);refine oP (KF (v:=.bool true) rfl rfl (br_t (KAe (b:=0)) dc)) (KC (KT rfl (KB (KA (oP (KD (o':=0) u65 rfl rfl rfl sz_3 dc) (oD (dL rfl (hv:=KI u3 rfl gL)) ?_))))));refine oP (KF (v:=.bool true) rfl rfl (br_t (KAe (b:=0)) (by have:=(hcase.resolve_left (fun h=>by cases h.1)).2; omega))) ?_;refine oA (KC (KM ?_));refine eN (.cons rfl .nil) ?_
  rfl
end Go.Proofs.YtnpeokiboiclfaaGreat
set_option maxRecDepth 100000
namespace Go.Proofs.YtnpeokiboiclfaaGreat
open Go
def ioChars:List Char:=([104,97,114,110,101,115,115,32,57,55,98,53,54,100,57,56,97,53,52,98,49,48,50,99,50,101,100,55,53,99,99,52,51,51,49,54,48,51,50,97,56,102,57,48,57,52,49,55,100,98,48,101,102,57,50,48,56,102,50,49,57,57,48,56,54,55,101,99,51,51,51,51,32,99,117,116,32,97,116,32,99,117,114,118,101,116,47,99,117,114,118,101,116,116,111,112,46,84,111,112,70,111,114,109,115,32,99,117,114,118,101,116,47,99,117,114,118,101,116,116,111,112,46,84,111,112,67,117,114,118,101,115,32,99,117,114,118,101,116,47,99,117,114,118,101,116,116,111,112,46,84,111,112,76,101,103,97,99,121,32,99,117,114,118,101,116,47,99,117,114,118,101,116,116,111,112,46,84,111,112,73,109,112,111,114,116,115,32,99,117,114,118,101,116,47,99,117,114,118,101,116,116,111,112,46,84,111,112,86,101,114,105,102,105,101,100,32,99,117,114,118,101,116,47,99,117,114,118,101,116,116,111,112,46,84,111,112,84,105,110,121]:List Nat).map Char.ofNat
theorem io_lit:Tryz.prog.initOrder = String.ofList ioChars:=by kernel_rfl
theorem io_list:Tryz.prog.initOrder.toList = ioChars:=by rw [io_lit,String.toList_ofList]
def cutW:List Char:=([99,117,116]:List Nat).map Char.ofNat
def ioRest:List (List Char):=(wordsSigns ioChars).drop 3
theorem io_words:behindMainWord (wordsSigns ioChars) = cutW :: ioRest:=by kernel_rfl
theorem io_strip (r:List (List Char)):stripLifts liftWords (cutW :: r) = ([],cutW :: r):=by kernel_rfl
theorem no_later:Tryz.prog.laysLater = false:=by kernel_rfl
theorem no_reflect:Tryz.prog.bearsReflect = false:=by kernel_rfl
theorem door_fits:Tryz.prog.doorFits [] = true:=by kernel_rfl
theorem and2 {a b:Bool} (h:a = true) (k:b = true):(a && b) = true:=by rw [h,k]; rfl
theorem or_right {a b:Bool} (h:b = true):(a || b) = true:=by rw [h]; cases a <;> rfl
theorem cut_is : (cutW == "cut".toList) = true := by kernel_rfl
theorem cut_gc : (cutW == "gc".toList) = false := by kernel_rfl
theorem cut_spec : (cutW == "spec".toList) = false := by kernel_rfl
theorem cut_carried : (cutW == "carried".toList) = false := by kernel_rfl
theorem head_carried (r : List (List Char)) : ((cutW :: r).head? == some "carried".toList) = false := cut_carried
theorem enter_of (P:Program) {r:List (List Char)} (h:behindMainWord (wordsSigns P.initOrder.toList) = cutW :: r) (h1:P.laysLater = false) (h2:P.bearsReflect = false) (h3:P.doorFits [] = true):P.mayEnter = true:=by
  unfold Program.mayEnter
  rw [h]
  dsimp only
  refine or_right (and2 (and2 (and2 (and2 ?_ ?_) ?_) ?_) ?_)
  · rw [io_strip]; exact cut_is
  · rw [io_strip,h1]; rfl
  · rw [io_strip,h2]; rfl
  · rw [io_strip]; rfl
  · rw [io_strip]; exact h3
theorem lifts_of (P:Program) {r:List (List Char)} (h:behindMainWord (wordsSigns P.initOrder.toList) = cutW :: r):(false == P.liftsFinal) = true:=by
  have hl:P.headLifts = []:=by
    unfold Program.headLifts
    rw [h,io_strip]
    simp only [ite_self]
  unfold Program.liftsFinal
  rw [h,hl]
  dsimp only
  rw [head_carried,Bool.false_and]
  rfl
theorem make_of (P:Program) {r:List (List Char)} (h:behindMainWord (wordsSigns P.initOrder.toList) = cutW :: r):(P.make == some .cut) = true:=by
  have:P.make = some .cut:=by
    unfold Program.make
    rw [h]
    dsimp only
    rw [if_neg (by rw [cut_gc,cut_spec]; exact fun h=>by cases h),if_pos (by rw [cut_is]; rfl)]
  rw [this]; rfl
theorem io_all:behindMainWord (wordsSigns Tryz.prog.initOrder.toList) = cutW :: ioRest:=by rw [io_list,io_words]
theorem fact_enter:Tryz.prog.mayEnter = true:=enter_of _ io_all no_later no_reflect door_fits
theorem fact_lifts:(false == Tryz.prog.liftsFinal) = true:=lifts_of _ io_all
theorem fact_make:(Tryz.prog.make == some .cut) = true:=make_of _ io_all
theorem fact_laid:laidOutB Tryz.prog = true:=by kernel_rfl
theorem fact_maps:mapsRowed Tryz.prog = true:=by kernel_rfl
theorem fact_heard:Tryz.prog.stopsHeard = true:=by kernel_rfl
end Go.Proofs.YtnpeokiboiclfaaGreat
