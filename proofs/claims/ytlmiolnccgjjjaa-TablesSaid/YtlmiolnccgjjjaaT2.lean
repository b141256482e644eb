/- Part 2 of what the proof leans on: a symbolic execution of the model, walks of the program's functions, and the mathematics. No condition. -/
import Derived.WalkKit
import Derived.Orders
import Derived.Laws.StructEq
import Derived.WalkSpells
import Derived.OrdersHeld
import Derived.KernelRfl
import Derived.Laws.Externs
import Derived.Laws.Bits64
import Derived.Laws.MakeOwn
import Derived.Laws.BytesString
import Derived.Carry
import Derived.WideShapes
import GoSem.Claim
import Derived.Test.YtlmiolnccgjjjaaProg
import Derived.Laws.AppendOwn
import Derived.OpenShut
import Derived.Test.YtlmiolnccgjjjaaRows
import Derived.ProofKit
import Derived.Test.YtlmiolnccgjjjaaT1
set_option linter.unusedVariables false
namespace Go.Proofs.Ytlmiolnccgjjjaa
open Go Go.RowKit
section
variable {P:Program} {C:Ctx} {ops:Array Oper} {L:List Nat} {fuel:Nat} {listed:Array Bool} {st:St} {Q:Exit→St→Prop} {op:Op} {ty:TypeId} {pos:String} {aft:Array Edge} {d:Nat} {v u:Value} {x y z:Operand} {T:List (Nat×Value)} {H:List Item} {l rest:List Oper} {j dj:Nat} {b b':Bool} {e t s:TypeId}
theorem oP (hy:Slots P C ⟨some d,op,ty,pos,aft,none⟩ ⟨T,H⟩ v) (h:LOps P C ops rest ⟨(d,v) :: T,H⟩ Q) (hd:d<C.N:=by exact Nb rfl):LOps P C ops (⟨some d,op,ty,pos,aft,none⟩ :: rest) ⟨T,H⟩ Q:=LOps.detP hy hd h
theorem oD (hy:Det P C ⟨some d,op,ty,pos,aft,none⟩ ⟨T,H⟩ v) (h:LOps P C ops rest ⟨(d,v) :: T,H⟩ Q) (hd:d<C.N:=by exact Nb rfl):LOps P C ops (⟨some d,op,ty,pos,aft,none⟩ :: rest) ⟨T,H⟩ Q:=LOps.det hy hd h
theorem oM (h:LOps P C ops rest ⟨(d,v) :: T,H⟩ Q) (hx:evT T x = some v:=by exact rfl) (hd:d<C.N:=by exact Nb rfl):LOps P C ops (⟨some d,.move x,ty,pos,aft,none⟩ :: rest) ⟨T,H⟩ Q:=LOps.detP (KAB hx) hd h
theorem oA (h:LOps P C ops rest ⟨(d,v) :: T,H⟩ Q) (hx:evT T x = some v:=by exact rfl) (hd:d<C.N:=by exact Nb rfl):LOps P C ops (⟨some d,.assign x,ty,pos,aft,none⟩ :: rest) ⟨T,H⟩ Q:=LOps.detP (KZ hx) hd h
theorem oS {o:Oper} (h:LStep P C o st (fun s=>LOps P C ops rest s Q)) (hg:o.guard = none:=by exact rfl):LOps P C ops (o :: rest) st Q:=KV hg (LStep.w h)
theorem oK (h:LOps P C l.toArray rest ⟨(d,undef) :: T,H⟩ Q) (hj:(nth l j).bind (·.dst) = some dj:=by exact rfl) (hb:look dj T = some (.bool b'):=by exact rfl) (hne:(b' == b) = false:=by exact rfl) (hd:d<C.N:=by exact Nb rfl):LOps P C l.toArray (⟨some d,op,ty,pos,aft,some (j,b)⟩ :: rest) ⟨T,H⟩ Q:=LOps.skip hj hb hne hd h
theorem oGP (hy:Slots P C ⟨some d,op,ty,pos,aft,some (j,b)⟩ ⟨T,H⟩ v) (h:LOps P C l.toArray rest ⟨(d,v) :: T,H⟩ Q) (hj:(nth l j).bind (·.dst) = some dj:=by exact rfl) (hb:look dj T = some (.bool b):=by exact rfl) (hd:d<C.N:=by exact Nb rfl):LOps P C l.toArray (⟨some d,op,ty,pos,aft,some (j,b)⟩ :: rest) ⟨T,H⟩ Q:=LOps.detGP hj hb hy hd h
theorem oGM (h:LOps P C l.toArray rest ⟨(d,v) :: T,H⟩ Q) (hx:evT T x = some v:=by exact rfl) (hj:(nth l j).bind (·.dst) = some dj:=by exact rfl) (hb:look dj T = some (.bool b):=by exact rfl) (hd:d<C.N:=by exact Nb rfl):LOps P C l.toArray (⟨some d,.move x,ty,pos,aft,some (j,b)⟩ :: rest) ⟨T,H⟩ Q:=LOps.detGP hj hb (KAB hx) hd h
theorem oGS {o:Oper} (h:LStep P C o st (fun s=>LOps P C l.toArray rest s Q)) (hg:o.guard = some (j,b):=by exact rfl) (hj:(nth l j).bind (·.dst) = some dj:=by exact rfl) (hb:look dj st.T = some (.bool b):=by exact rfl):LOps P C l.toArray (o :: rest) st Q:=LOps.stepG hg hj hb (LStep.w h)
theorem aP (i:Nat) (hi:nth l i = some ⟨some d,op,ty,pos,aft,none⟩) (hy:Slots P C ⟨some d,op,ty,pos,aft,none⟩ ⟨T,H⟩ v) (h:LAny P C l.toArray L fuel (listed.setIfInBounds i true) ⟨(d,v) :: T,H⟩ Q) (hf:takeOK l L true listed i = true:=by kernel_rfl) (hd:d<C.N:=by exact Nb rfl):LAny P C l.toArray L (fuel+1) listed ⟨T,H⟩ Q:=LAny.takeP i hi hf hd hy h
theorem aD (i:Nat) (hi:nth l i = some ⟨some d,op,ty,pos,aft,none⟩) (hy:Det P C ⟨some d,op,ty,pos,aft,none⟩ ⟨T,H⟩ v) (h:LAny P C l.toArray L fuel (listed.setIfInBounds i true) ⟨(d,v) :: T,H⟩ Q) (hf:takeOK l L false listed i = true:=by kernel_rfl) (hd:d<C.N:=by exact Nb rfl):LAny P C l.toArray L (fuel+1) listed ⟨T,H⟩ Q:=LAny.take i hi hf hd hy h
theorem aM (i:Nat) (h:LAny P C l.toArray L fuel (listed.setIfInBounds i true) ⟨(d,v) :: T,H⟩ Q) (hi:nth l i = some ⟨some d,.move x,ty,pos,aft,none⟩:=by exact rfl) (hx:evT T x = some v:=by exact rfl) (hf:takeOK l L true listed i = true:=by kernel_rfl) (hd:d<C.N:=by exact Nb rfl):LAny P C l.toArray L (fuel+1) listed ⟨T,H⟩ Q:=LAny.takeP i hi hf hd (KAB hx) h
theorem aA (i:Nat) (h:LAny P C l.toArray L fuel (listed.setIfInBounds i true) ⟨(d,v) :: T,H⟩ Q) (hi:nth l i = some ⟨some d,.assign x,ty,pos,aft,none⟩:=by exact rfl) (hx:evT T x = some v:=by exact rfl) (hf:takeOK l L true listed i = true:=by kernel_rfl) (hd:d<C.N:=by exact Nb rfl):LAny P C l.toArray L (fuel+1) listed ⟨T,H⟩ Q:=LAny.takeP i hi hf hd (KZ hx) h
theorem aGP (i:Nat) (hi:nth l i = some ⟨some d,op,ty,pos,aft,some (j,b)⟩) (hy:Slots P C ⟨some d,op,ty,pos,aft,some (j,b)⟩ ⟨T,H⟩ v) (h:LAny P C l.toArray L fuel (listed.setIfInBounds i true) ⟨(d,v) :: T,H⟩ Q) (hj:(nth l j).bind (·.dst) = some dj:=by exact rfl) (hb:look dj T = some (.bool b):=by exact rfl) (hf:takeOK l L true listed i = true:=by kernel_rfl) (hd:d<C.N:=by exact Nb rfl):LAny P C l.toArray L (fuel+1) listed ⟨T,H⟩ Q:=LAny.takeGP i hi hj hb hf hd hy h
theorem aGD (i:Nat) (hi:nth l i = some ⟨some d,op,ty,pos,aft,some (j,b)⟩) (hy:Det P C ⟨some d,op,ty,pos,aft,some (j,b)⟩ ⟨T,H⟩ v) (h:LAny P C l.toArray L fuel (listed.setIfInBounds i true) ⟨(d,v) :: T,H⟩ Q) (hj:(nth l j).bind (·.dst) = some dj:=by exact rfl) (hb:look dj T = some (.bool b):=by exact rfl) (hf:takeOK l L false listed i = true:=by kernel_rfl) (hd:d<C.N:=by exact Nb rfl):LAny P C l.toArray L (fuel+1) listed ⟨T,H⟩ Q:=LAny.takeG i hi hj hb hf hd hy h
theorem aGM (i:Nat) (h:LAny P C l.toArray L fuel (listed.setIfInBounds i true) ⟨(d,v) :: T,H⟩ Q) (hi:nth l i = some ⟨some d,.move x,ty,pos,aft,some (j,b)⟩:=by exact rfl) (hx:evT T x = some v:=by exact rfl) (hj:(nth l j).bind (·.dst) = some dj:=by exact rfl) (hb:look dj T = some (.bool b):=by exact rfl) (hf:takeOK l L true listed i = true:=by kernel_rfl) (hd:d<C.N:=by exact Nb rfl):LAny P C l.toArray L (fuel+1) listed ⟨T,H⟩ Q:=LAny.takeGP i hi hj hb hf hd (KAB hx) h
theorem aK (i:Nat) (h:LAny P C l.toArray L fuel (listed.setIfInBounds i true) ⟨(d,undef) :: T,H⟩ Q) (hi:nth l i = some ⟨some d,op,ty,pos,aft,some (j,b)⟩:=by exact rfl) (hj:(nth l j).bind (·.dst) = some dj:=by exact rfl) (hb:look dj T = some (.bool b'):=by exact rfl) (hne:(b' == b) = false:=by exact rfl) (hf:takeOK l L true listed i = true:=by kernel_rfl) (hd:d<C.N:=by exact Nb rfl):LAny P C l.toArray L (fuel+1) listed ⟨T,H⟩ Q:=LAny.skip i hi hj hb hne hf hd h
theorem aE (h:Q .normal st) (hr:Region.ready .any ops listed = []:=by kernel_rfl):LAny P C ops L fuel listed st Q:=LAny.done hr h
theorem aO {o:Oper} (i:Nat) (hi:nth l i = some o) (h:LStep P C o st (fun s=>LAny P C l.toArray L fuel (listed.setIfInBounds i true) s Q)) (hg:o.guard = none:=by exact rfl) (hr:Region.ready .any l.toArray listed = [i]:=by kernel_rfl):LAny P C l.toArray L (fuel+1) listed st Q:=LAny.one i hi hg hr h
theorem aGO {o:Oper} (i:Nat) (hi:nth l i = some o) (h:LStep P C o st (fun s=>LAny P C l.toArray L fuel (listed.setIfInBounds i true) s Q)) (hg:o.guard = some (j,b):=by exact rfl) (hj:(nth l j).bind (·.dst) = some dj:=by exact rfl) (hb:look dj st.T = some (.bool b):=by exact rfl) (hr:Region.ready .any l.toArray listed = [i]:=by kernel_rfl):LAny P C l.toArray L (fuel+1) listed st Q:=LAny.oneG i hi hg hj hb hr h
theorem aL {o:Oper} (i:Nat) (hi:nth l i = some o) (h:LStepW P C o st (fun s=>LAny P C l.toArray L fuel (listed.setIfInBounds i true) s Q)) (hg:o.guard = none:=by exact rfl) (hl:L.contains i = true:=by kernel_rfl) (hr:Region.ready .any l.toArray listed = [i]:=by kernel_rfl):LAny P C l.toArray L (fuel+1) listed st Q:=LAny.late i hi hg hl hr h
variable {K:St→Prop} {g:Option (Nat×Bool)} {f:FuncId} {xs:List Operand} {vs:List Value} {ats:Array TypeId}
theorem cF (hf : evT T x = some (.func (.func f) #[] #[])) (he : Ku P f) (ha : evL T xs = some vs) (hc : ∀ w, (∀ x, x ∈ H → x.holds w) → Calls P f vs.toArray w (fun e w' => e = .returned v ∧ Below w.heap.size w w')) (h : K ⟨(d, v) :: T, H⟩) (hd : d < C.N := by exact Nb rfl) :
    LStep P C ⟨some d,.call { callee:=.value x,args:=xs.toArray,argTypes:=ats },ty,pos,aft,g⟩ ⟨T,H⟩ K:=KAG (first:=[]) hf he ha hd hc h
theorem cC {Post : Value → List Item → Prop} (hf : evT T x = some (.func (.func f) #[] #[])) (he : Ku P f) (ha : evL T xs = some vs) (hc : ∀ w, (∀ x, x ∈ H → x.holds w) → Calls P f vs.toArray w (fun e w' => ∃ v its, Post v its ∧ e = .returned v ∧ Brings w H its w')) (h : ∀ v its, Post v its → K ⟨(d, v) :: T, its ++ H⟩) (hd : d < C.N := by exact Nb rfl) :
    LStep P C ⟨some d,.call { callee:=.value x,args:=xs.toArray,argTypes:=ats },ty,pos,aft,g⟩ ⟨T,H⟩ K:=LStep.call (first:=[]) hf he ha hd hc h
theorem cZ {Post : Value → List Item → Prop} (hf : evT T x = some (.func (.func f) #[] #[])) (he : Ku P f) (ha : evL T xs = some vs) (hc : ∀ w, (∀ x, x ∈ H → x.holds w) → C.w0.heap.size ≤ w.heap.size → Calls P f vs.toArray w (fun e w' => ∃ v its, Post v its ∧ e = .returned v ∧ Brings w H its w')) (h : ∀ v its, Post v its → K ⟨(d, v) :: T, its ++ H⟩) (hd : d < C.N := by exact Nb rfl) :
    LStep P C ⟨some d,.call { callee:=.value x,args:=xs.toArray,argTypes:=ats },ty,pos,aft,g⟩ ⟨T,H⟩ K:=LStep.callZ (first:=[]) hf he ha hd hc h
theorem mk {cs:List Value} {v:Nat→Value} (hy:Makes P C ⟨some d,op,ty,pos,aft,g⟩ ⟨T,H⟩ cs e v) (h:∀ b,K ⟨(d,v b) :: T,.blk b ⟨true,cs,e,(0,0)⟩ :: H⟩) (hd:d<C.N:=by exact Nb rfl):LStep P C ⟨some d,op,ty,pos,aft,g⟩ ⟨T,H⟩ K:=LStep.makes hy hd h
theorem mB {cs:List Value} (h:∀ b,K ⟨(d,.pointer (some ⟨b,0,none⟩)) :: T,.blk b ⟨true,cs,t,(0,0)⟩ :: H⟩) (hx:evT T x = some (.agg cs.toArray):=by exact rfl) (hd:d<C.N:=by exact Nb rfl):LStep P C ⟨some d,.box t x,ty,pos,aft,g⟩ ⟨T,H⟩ K:=LStep.makes (Makes.boxA hx) hd h
theorem sA {b : Nat} {cs0 cs : List Value} {H' : List Item} (hx : evT T x = some (.pointer (some ⟨b, 0, none⟩))) (hy : evT T y = some (.agg cs.toArray)) (hn : szOf P t = some cs.length) (h1 : AllOne cs) (hs : SetAt b ⟨true, cs0, e, (0, 0)⟩ ⟨true, cs, e, (0, 0)⟩ H H' := by repeat (first | exact SetAt.head _ | apply SetAt.tail)) (hl : cs.length = cs0.length) (h : K ⟨T, H'⟩) :
    LStepW P C ⟨none,.store t x y,ty,pos,aft,g⟩ ⟨T,H⟩ K:=LStepW.storeA hx hy hn h1 hs hl h
theorem dL {b o:Nat} {B:Blk} {dd:Option Tmp} (hx:evT T x = some (.pointer (some ⟨b,o,none⟩))) (hm:Item.blk b B∈H:=by repeat (first|exact List.Mem.head _|apply List.Mem.tail)) (hv:LoadV P t B o v):Det P C ⟨dd,.load t x,ty,pos,aft,g⟩ ⟨T,H⟩ v:=Det.load hx hm hv
end
theorem mC {w:World} {H:List Item} (hw:∀ x,x∈H→x.holds w) {x:Item} (m:x∈H:=by repeat (first|exact List.Mem.head _|apply List.Mem.tail)):x.holds w:=hw x m
theorem rD {P:Program} {C:Ctx} {id:Nat} {l:List Oper} {st:St} {Q:Exit→St→Prop} (L:List Nat) (h:LAny P C l.toArray L l.length (Array.replicate l.length false) st Q) (hm:P.follows .mixedOrders = true:=by kernel_rfl):LCode P C (.region id l.toArray true) st Q:=LCode.regionD L hm h
section
variable {P:Program} {C:Ctx} {ops:Array Oper} {L:List Nat} {fuel:Nat} {listed:Array Bool} {PL:List Pd} {T:List (Nat×Value)} {H:List Item} {Q:Exit→St→Prop}
theorem pP {l : List Oper} {d : Nat} {op : Op} {ty : TypeId} {pos : String} {aft : Array Edge} {v : Value} (i : Nat) (hi : nth l i = some ⟨some d, op, ty, pos, aft, none⟩) (hy : Slots P C ⟨some d, op, ty, pos, aft, none⟩ ⟨T, H⟩ v) (h : LAnyP P C l.toArray L fuel (listed.setIfInBounds i true) PL ((d, v) :: T) H Q)
    (hf:takeOK l L true (unlz (PL.map fun p=>(p,none)) listed) i = true:=by kernel_rfl) (hd:d<C.N:=by exact Nb rfl) (hP:PL.all (fun q=>!Nat.beq q.d d) = true:=by exact rfl):LAnyP P C l.toArray L (fuel+1) listed PL T H Q:=LAnyP.takeP i hi hf hd hP hy h
theorem pM {l : List Oper} {d : Nat} {x : Operand} {ty : TypeId} {pos : String} {aft : Array Edge} {v : Value} (i : Nat) (h : LAnyP P C l.toArray L fuel (listed.setIfInBounds i true) PL ((d, v) :: T) H Q) (hi : nth l i = some ⟨some d, .move x, ty, pos, aft, none⟩ := by exact rfl) (hx : evT T x = some v := by exact rfl)
    (hf:takeOK l L true (unlz (PL.map fun p=>(p,none)) listed) i = true:=by kernel_rfl) (hd:d<C.N:=by exact Nb rfl) (hP:PL.all (fun q=>!Nat.beq q.d d) = true:=by exact rfl):LAnyP P C l.toArray L (fuel+1) listed PL T H Q:=LAnyP.takeP i hi hf hd hP (KAB hx) h
theorem pE {p:Pd} (h:∀ b,LAnyP P C ops L fuel listed PL ((p.d,Pd.ptr b) :: T) (p.blk b :: H) Q) (hr:Region.ready .any ops (listed.setIfInBounds p.i false) = [p.i]:=by kernel_rfl):LAnyP P C ops L fuel listed (p :: PL) T H Q:=LAnyP.mat hr h
end
theorem mM {p:Prop} (h:p:=by repeat (first|exact List.Mem.head _|apply List.Mem.tail)):p:=h
theorem mP {p:Prop} (h:p:=by repeat (first|exact Pick.head _|apply Pick.tail)):p:=h
theorem mS {p:Prop} (h:p:=by repeat (first|exact Sel.nil _|refine Sel.cons (by repeat (first|exact Pick.head _|apply Pick.tail)) ?_)):p:=h
end Go.Proofs.Ytlmiolnccgjjjaa
namespace Go.Proofs.Ytlmiolnccgjjjaa
open Go Go.RowKit
theorem sz_3:szOf Try.prog 3 = some 1:=by kernel_rfl
theorem sz_4:szOf Try.prog 4 = some 1:=by kernel_rfl
theorem sz_9:szOf Try.prog 9 = some 1:=by kernel_rfl
theorem inf_9:infOf Try.prog 9 = some (Value.string ⟨#[]⟩,1,16):=by kernel_rfl
theorem sz_24:szOf Try.prog 24 = some 1:=by kernel_rfl
theorem sz_26:szOf Try.prog 26 = some 7:=by kernel_rfl
theorem pl_26:plc Try.prog 26 = some [(0,1),(1,1),(2,1),(3,1),(4,1),(5,1),(6,1)]:=by kernel_rfl
theorem zr_26:zrOf Try.prog 26 = some (.agg ([Value.int .i64 ((0:Nat):Int),Value.slice none 0 0,Value.slice none 0 0,Value.slice none 0 0,Value.slice none 0 0,Value.slice none 0 0,Value.slice none 0 0]).toArray):=by kernel_rfl
theorem sz_30:szOf Try.prog 30 = some 1:=by kernel_rfl
theorem sz_31:szOf Try.prog 31 = some 9:=by kernel_rfl
theorem pl_31:plc Try.prog 31 = some ((List.range 9).map fun i=>(i*1,1)):=by kernel_rfl
theorem zr_31:zrOf Try.prog 31 = some (.agg (vec .u64 9 (fun _=>0)).toArray):=by kernel_rfl
theorem sz_33:szOf Try.prog 33 = some 9:=by kernel_rfl
theorem pl_33:plc Try.prog 33 = some [(0,9)]:=by kernel_rfl
theorem zr_33:zrOf Try.prog 33 = some (.agg (vec .u64 9 (fun _=>0)).toArray):=by kernel_rfl
theorem sz_35:szOf Try.prog 35 = some 19:=by kernel_rfl
theorem pl_35:plc Try.prog 35 = some [(0,9),(9,9),(18,1)]:=by kernel_rfl
theorem zr_35:zrOf Try.prog 35 = some (.agg (vec .u64 9 (fun _=>0)++(vec .u64 9 (fun _=>0)++([Value.bool false]))).toArray):=by kernel_rfl
theorem sz_38:szOf Try.prog 38 = some 3:=by kernel_rfl
theorem pl_38:plc Try.prog 38 = some [(0,1),(1,1),(2,1)]:=by kernel_rfl
theorem zr_38:zrOf Try.prog 38 = some (.agg ([Value.slice none 0 0,Value.slice none 0 0,Value.bool false]).toArray):=by kernel_rfl
theorem sz_67:szOf Try.prog 67 = some 1:=by kernel_rfl
theorem inf_67:infOf Try.prog 67 = some (Value.int .u32 ((0:Nat):Int),1,4):=by kernel_rfl
theorem sz_81:szOf Try.prog 81 = some 1:=by kernel_rfl
theorem sz_83:szOf Try.prog 83 = some 2:=by kernel_rfl
theorem pl_83:plc Try.prog 83 = some [(0,1),(1,1)]:=by kernel_rfl
theorem zr_83:zrOf Try.prog 83 = some (.agg ([Value.int .i64 ((0:Nat):Int),Value.int .i64 ((0:Nat):Int)]).toArray):=by kernel_rfl
theorem sz_114:szOf Try.prog 114 = some 1:=by kernel_rfl
theorem pl_116:plc Try.prog 116 = some [(0,1)]:=by kernel_rfl
theorem zr_116:zrOf Try.prog 116 = some (.agg ([Value.slice none 0 0]).toArray):=by kernel_rfl
theorem pl_121:plc Try.prog 121 = some [(0,1)]:=by kernel_rfl
theorem zr_121:zrOf Try.prog 121 = some (.agg ([Value.slice none 0 0]).toArray):=by kernel_rfl
theorem sz_126:szOf Try.prog 126 = some 59:=by kernel_rfl
theorem sz_127:szOf Try.prog 127 = some 1:=by kernel_rfl
theorem pl_129:plc Try.prog 129 = some [(0,59),(59,1),(60,9)]:=by kernel_rfl
theorem zr_129:zrOf Try.prog 129 = some (.agg ([Value.int .i64 ((0:Nat):Int)]++(vec .u64 9 (fun _=>0)++(vec .u64 9 (fun _=>0)++(vec .u64 9 (fun _=>0)++(vec .u64 9 (fun _=>0)++(vec .u64 9 (fun _=>0)++(vec .u64 9 (fun _=>0)++([Value.bool false,Value.int .i64 ((0:Nat):Int),Value.int .i64 ((0:Nat):Int),Value.bool false,Value.pointer none]++(vec .u64 9 (fun _=>0)))))))))).toArray):=by kernel_rfl
theorem sz_156:szOf Try.prog 156 = some 5:=by kernel_rfl
theorem pl_156:plc Try.prog 156 = some [(0,1),(1,1),(2,1),(3,1),(4,1)]:=by kernel_rfl
theorem zr_156:zrOf Try.prog 156 = some (.agg ([Value.string ⟨#[]⟩,Value.string ⟨#[]⟩,Value.string ⟨#[]⟩,Value.string ⟨#[]⟩,Value.string ⟨#[]⟩]).toArray):=by kernel_rfl
theorem sz_158:szOf Try.prog 158 = some 1:=by kernel_rfl
theorem sz_160:szOf Try.prog 160 = some 1:=by kernel_rfl
theorem pl_160:plc Try.prog 160 = some [(0,1)]:=by kernel_rfl
theorem zr_160:zrOf Try.prog 160 = some (.agg ([Value.pointer none]).toArray):=by kernel_rfl
theorem pl_162:plc Try.prog 162 = some [(0,9),(9,1)]:=by kernel_rfl
theorem zr_162:zrOf Try.prog 162 = some (.agg (vec .u64 9 (fun _=>0)++([Value.pointer none])).toArray):=by kernel_rfl
theorem sz_172:szOf Try.prog 172 = some 27:=by kernel_rfl
theorem pl_172:plc Try.prog 172 = some [(0,9),(9,9),(18,9)]:=by kernel_rfl
theorem zr_172:zrOf Try.prog 172 = some (.agg (vec .u64 9 (fun _=>0)++(vec .u64 9 (fun _=>0)++(vec .u64 9 (fun _=>0)))).toArray):=by kernel_rfl
theorem pl_180:plc Try.prog 180 = some [(0,1)]:=by kernel_rfl
theorem zr_180:zrOf Try.prog 180 = some (.agg ([Value.int .u64 ((0:Nat):Int)]).toArray):=by kernel_rfl
theorem sz_200:szOf Try.prog 200 = some 18:=by kernel_rfl
theorem sz_202:szOf Try.prog 202 = some 18:=by kernel_rfl
theorem zr_202:zrOf Try.prog 202 = some (.agg (vec .u64 18 (fun _=>0)).toArray):=by kernel_rfl
theorem pl_212:plc Try.prog 212 = some [(0,9),(9,1),(10,1)]:=by kernel_rfl
theorem zr_212:zrOf Try.prog 212 = some (.agg (vec .u64 9 (fun _=>0)++([Value.int .i64 ((0:Nat):Int),Value.int .i64 ((0:Nat):Int)])).toArray):=by kernel_rfl
theorem zr_214:zrOf Try.prog 214 = some (.agg (vec .u64 19 (fun _=>0)).toArray):=by kernel_rfl
theorem en_28:Ku Try.prog 28:=⟨_,Try.func28,by kernel_rfl,by kernel_rfl⟩
theorem en_29:Ku Try.prog 29:=⟨_,Try.func29,by kernel_rfl,by kernel_rfl⟩
theorem en_30:Ku Try.prog 30:=⟨_,Try.func30,by kernel_rfl,by kernel_rfl⟩
theorem en_31:Ku Try.prog 31:=⟨_,Try.func31,by kernel_rfl,by kernel_rfl⟩
theorem en_32:Ku Try.prog 32:=⟨_,Try.func32,by kernel_rfl,by kernel_rfl⟩
theorem en_33:Ku Try.prog 33:=⟨_,Try.func33,by kernel_rfl,by kernel_rfl⟩
theorem en_34:Ku Try.prog 34:=⟨_,Try.func34,by kernel_rfl,by kernel_rfl⟩
theorem en_35:Ku Try.prog 35:=⟨_,Try.func35,by kernel_rfl,by kernel_rfl⟩
theorem en_36:Ku Try.prog 36:=⟨_,Try.func36,by kernel_rfl,by kernel_rfl⟩
theorem en_37:Ku Try.prog 37:=⟨_,Try.func37,by kernel_rfl,by kernel_rfl⟩
theorem en_38:Ku Try.prog 38:=⟨_,Try.func38,by kernel_rfl,by kernel_rfl⟩
theorem en_39:Ku Try.prog 39:=⟨_,Try.func39,by kernel_rfl,by kernel_rfl⟩
theorem en_44:Ku Try.prog 44:=⟨_,Try.func44,by kernel_rfl,by kernel_rfl⟩
theorem en_46:Ku Try.prog 46:=⟨_,Try.func46,by kernel_rfl,by kernel_rfl⟩
theorem en_50:Ku Try.prog 50:=⟨_,Try.func50,by kernel_rfl,by kernel_rfl⟩
theorem en_52:Ku Try.prog 52:=⟨_,Try.func52,by kernel_rfl,by kernel_rfl⟩
theorem en_54:Ku Try.prog 54:=⟨_,Try.func54,by kernel_rfl,by kernel_rfl⟩
theorem en_55:Ku Try.prog 55:=⟨_,Try.func55,by kernel_rfl,by kernel_rfl⟩
theorem en_56:Ku Try.prog 56:=⟨_,Try.func56,by kernel_rfl,by kernel_rfl⟩
theorem en_59:Ku Try.prog 59:=⟨_,Try.func59,by kernel_rfl,by kernel_rfl⟩
theorem en_60:Ku Try.prog 60:=⟨_,Try.func60,by kernel_rfl,by kernel_rfl⟩
theorem en_65:Ku Try.prog 65:=⟨_,Try.func65,by kernel_rfl,by kernel_rfl⟩
theorem en_67:Ku Try.prog 67:=⟨_,Try.func67,by kernel_rfl,by kernel_rfl⟩
theorem en_68:Ku Try.prog 68:=⟨_,Try.func68,by kernel_rfl,by kernel_rfl⟩
theorem en_70:Ku Try.prog 70:=⟨_,Try.func70,by kernel_rfl,by kernel_rfl⟩
theorem en_71:Ku Try.prog 71:=⟨_,Try.func71,by kernel_rfl,by kernel_rfl⟩
theorem en_78:Ku Try.prog 78:=⟨_,Try.func78,by kernel_rfl,by kernel_rfl⟩
theorem en_79:Ku Try.prog 79:=⟨_,Try.func79,by kernel_rfl,by kernel_rfl⟩
theorem en_80:Ku Try.prog 80:=⟨_,Try.func80,by kernel_rfl,by kernel_rfl⟩
theorem en_81:Ku Try.prog 81:=⟨_,Try.func81,by kernel_rfl,by kernel_rfl⟩
theorem en_82:Ku Try.prog 82:=⟨_,Try.func82,by kernel_rfl,by kernel_rfl⟩
theorem en_83:Ku Try.prog 83:=⟨_,Try.func83,by kernel_rfl,by kernel_rfl⟩
theorem en_84:Ku Try.prog 84:=⟨_,Try.func84,by kernel_rfl,by kernel_rfl⟩
theorem en_85:Ku Try.prog 85:=⟨_,Try.func85,by kernel_rfl,by kernel_rfl⟩
theorem en_86:Ku Try.prog 86:=⟨_,Try.func86,by kernel_rfl,by kernel_rfl⟩
theorem en_87:Ku Try.prog 87:=⟨_,Try.func87,by kernel_rfl,by kernel_rfl⟩
theorem en_94:Ku Try.prog 94:=⟨_,Try.func94,by kernel_rfl,by kernel_rfl⟩
theorem en_95:Ku Try.prog 95:=⟨_,Try.func95,by kernel_rfl,by kernel_rfl⟩
theorem en_96:Ku Try.prog 96:=⟨_,Try.func96,by kernel_rfl,by kernel_rfl⟩
theorem en_97:Ku Try.prog 97:=⟨_,Try.func97,by kernel_rfl,by kernel_rfl⟩
theorem en_99:Ku Try.prog 99:=⟨_,Try.func99,by kernel_rfl,by kernel_rfl⟩
theorem en_104:Ku Try.prog 104:=⟨_,Try.func104,by kernel_rfl,by kernel_rfl⟩
theorem en_105:Ku Try.prog 105:=⟨_,Try.func105,by kernel_rfl,by kernel_rfl⟩
theorem en_106:Ku Try.prog 106:=⟨_,Try.func106,by kernel_rfl,by kernel_rfl⟩
theorem en_110:Ku Try.prog 110:=⟨_,Try.func110,by kernel_rfl,by kernel_rfl⟩
theorem en_111:Ku Try.prog 111:=⟨_,Try.func111,by kernel_rfl,by kernel_rfl⟩
theorem en_112:Ku Try.prog 112:=⟨_,Try.func112,by kernel_rfl,by kernel_rfl⟩
theorem en_113:Ku Try.prog 113:=⟨_,Try.func113,by kernel_rfl,by kernel_rfl⟩
theorem en_114:Ku Try.prog 114:=⟨_,Try.func114,by kernel_rfl,by kernel_rfl⟩
theorem en_115:Ku Try.prog 115:=⟨_,Try.func115,by kernel_rfl,by kernel_rfl⟩
theorem en_116:Ku Try.prog 116:=⟨_,Try.func116,by kernel_rfl,by kernel_rfl⟩
theorem en_117:Ku Try.prog 117:=⟨_,Try.func117,by kernel_rfl,by kernel_rfl⟩
theorem en_118:Ku Try.prog 118:=⟨_,Try.func118,by kernel_rfl,by kernel_rfl⟩
theorem en_119:Ku Try.prog 119:=⟨_,Try.func119,by kernel_rfl,by kernel_rfl⟩
theorem en_120:Ku Try.prog 120:=⟨_,Try.func120,by kernel_rfl,by kernel_rfl⟩
theorem en_121:Ku Try.prog 121:=⟨_,Try.func121,by kernel_rfl,by kernel_rfl⟩
theorem en_122:Ku Try.prog 122:=⟨_,Try.func122,by kernel_rfl,by kernel_rfl⟩
theorem en_123:Ku Try.prog 123:=⟨_,Try.func123,by kernel_rfl,by kernel_rfl⟩
theorem en_124:Ku Try.prog 124:=⟨_,Try.func124,by kernel_rfl,by kernel_rfl⟩
theorem en_125:Ku Try.prog 125:=⟨_,Try.func125,by kernel_rfl,by kernel_rfl⟩
theorem en_126:Ku Try.prog 126:=⟨_,Try.func126,by kernel_rfl,by kernel_rfl⟩
theorem en_127:Ku Try.prog 127:=⟨_,Try.func127,by kernel_rfl,by kernel_rfl⟩
theorem en_128:Ku Try.prog 128:=⟨_,Try.func128,by kernel_rfl,by kernel_rfl⟩
theorem en_130:Ku Try.prog 130:=⟨_,Try.func130,by kernel_rfl,by kernel_rfl⟩
theorem en_132:Ku Try.prog 132:=⟨_,Try.func132,by kernel_rfl,by kernel_rfl⟩
theorem en_133:Ku Try.prog 133:=⟨_,Try.func133,by kernel_rfl,by kernel_rfl⟩
theorem en_134:Ku Try.prog 134:=⟨_,Try.func134,by kernel_rfl,by kernel_rfl⟩
theorem en_136:Ku Try.prog 136:=⟨_,Try.func136,by kernel_rfl,by kernel_rfl⟩
theorem en_139:Ku Try.prog 139:=⟨_,Try.func139,by kernel_rfl,by kernel_rfl⟩
theorem en_140:Ku Try.prog 140:=⟨_,Try.func140,by kernel_rfl,by kernel_rfl⟩
theorem ex_141:Extern1 Try.prog 141 sub64Entry:=⟨_,Try.func141,by kernel_rfl,by kernel_rfl,by kernel_rfl,by kernel_rfl⟩
theorem en_142:Ku Try.prog 142:=⟨_,Try.func142,by kernel_rfl,by kernel_rfl⟩
theorem en_143:Ku Try.prog 143:=⟨_,Try.func143,by kernel_rfl,by kernel_rfl⟩
theorem en_144:Ku Try.prog 144:=⟨_,Try.func144,by kernel_rfl,by kernel_rfl⟩
theorem en_145:Ku Try.prog 145:=⟨_,Try.func145,by kernel_rfl,by kernel_rfl⟩
theorem en_146:Ku Try.prog 146:=⟨_,Try.func146,by kernel_rfl,by kernel_rfl⟩
theorem en_151:Ku Try.prog 151:=⟨_,Try.func151,by kernel_rfl,by kernel_rfl⟩
theorem en_154:Ku Try.prog 154:=⟨_,Try.func154,by kernel_rfl,by kernel_rfl⟩
theorem ex_155:Extern1 Try.prog 155 add64Entry:=⟨_,Try.func155,by kernel_rfl,by kernel_rfl,by kernel_rfl,by kernel_rfl⟩
theorem en_156:Ku Try.prog 156:=⟨_,Try.func156,by kernel_rfl,by kernel_rfl⟩
theorem en_157:Ku Try.prog 157:=⟨_,Try.func157,by kernel_rfl,by kernel_rfl⟩
theorem en_158:Ku Try.prog 158:=⟨_,Try.func158,by kernel_rfl,by kernel_rfl⟩
theorem en_159:Ku Try.prog 159:=⟨_,Try.func159,by kernel_rfl,by kernel_rfl⟩
theorem en_160:Ku Try.prog 160:=⟨_,Try.func160,by kernel_rfl,by kernel_rfl⟩
theorem en_161:Ku Try.prog 161:=⟨_,Try.func161,by kernel_rfl,by kernel_rfl⟩
theorem en_162:Ku Try.prog 162:=⟨_,Try.func162,by kernel_rfl,by kernel_rfl⟩
theorem en_163:Ku Try.prog 163:=⟨_,Try.func163,by kernel_rfl,by kernel_rfl⟩
theorem en_164:Ku Try.prog 164:=⟨_,Try.func164,by kernel_rfl,by kernel_rfl⟩
theorem en_165:Ku Try.prog 165:=⟨_,Try.func165,by kernel_rfl,by kernel_rfl⟩
theorem en_166:Ku Try.prog 166:=⟨_,Try.func166,by kernel_rfl,by kernel_rfl⟩
end Go.Proofs.Ytlmiolnccgjjjaa
set_option linter.unusedVariables false
set_option linter.unusedSimpArgs false
set_option maxRecDepth 20000
namespace Go.Proofs.Ytlmiolnccgjjjaa
open Go Go.RowKit
theorem c_nat_Add (A B:Nat) (hA:A<W9) (hB:B<W9) (w:World)  : Calls Try.prog 144 ([natV A,natV B]:List Value).toArray w (fun e w'=>e = .returned (.tuple #[natV ((A+B)%W9),.bool (decide (W9≤A+B))])∧Below w.heap.size w w'):=by
  refine Ki (N:=31) (rs:=[.cell 4 33,.tmp 5]) [] Try.func144 rfl Try.ntmps144 Try.results144 (Nb rfl) trivial rfl ?_
  show LCode _ _ _ ⟨_,_⟩ _
  refine KB (KA ?_)
  refine oS (mB (fun b2=>?_))
  refine oS (mB (fun b3=>?_))
  refine oS (mk (KX zr_33) (fun b4=>?_))
  refine oA ?_
  refine KC ?_
  refine KB (KA ?_)
  refine oP (KZ (v:=.int .u64 ((0:Nat):Int)) rfl) ?_
  refine KC ?_
  refine KB ?_
  refine KB (KA ?_)
  refine oP (KAB (v:=.int .i64 ((0:Nat):Int)) rfl) ?_
  refine KC ?_
  refine LCode.block ?_
  refine Ks (α:=Nat) (fun x=>x≤9) (fun x=>⟨[(2,.pointer (some ⟨b2,0,none⟩)),(3,.pointer (some ⟨b3,0,none⟩)),(4,.pointer (some ⟨b4,0,none⟩)),(6,.int .u64 ((carry A B x:Nat):Int)),(8,.int .i64 ((x:Nat):Int))],[.blk b4 ⟨true,vec .u64 9 (fun _=>0),33,(0,0)⟩,.blk b3 ⟨true,natL B,33,(0,0)⟩,.blk b2 ⟨true,vec .u64 9 (fun j=>if j<x then limb (A+B) j else limb A j),33,(0,0)⟩]⟩) (fun x=>9-x) (0) (by omega) (Kq ⟨rfl,rfl,rfl,by rw [carry_zero]; rfl,rfl,trivial⟩ (by repeat (first|exact Sel.nil _|refine Sel.cons (by repeat (first|exact Ph _|apply Pt_)) ?_))) ?_
  intro x hx
  have hc:=carry_le A B x
  have ha:=add_limb A B x
  have hl:=limb_lt (A+B) x
  refine KB (KA ?_)
  refine oP (KF rfl rfl (KAT (b:=9))) ?_
  refine KC ?_
  refine KB ?_
  first|refine KS rfl (fun h9=>?_) (fun h9=>?_)|refine KU rfl (fun h9=>?_) (fun h9=>?_)
  ·
    have h9:x<9:=h9
    refine KT ?_
    refine KB ?_
    refine LCode.block ?_
    refine KB (KA ?_)
    refine oM ?_
    refine oA ?_
    refine KC ?_
    refine rD [16] ?_
    refine aM 0 ?_
    refine aM 1 ?_
    refine aP 2 rfl (KG (o':=0) Try.underlying33 rfl rfl rfl sz_31 (by decide)) ?_
    refine aP 3 rfl (Kr Try.underlying31 sz_30 rfl rfl (by omega)) ?_
    refine aD 4 rfl (dL rfl (hv:=KL Try.underlying30 rfl (by exact Ke _ _ _ (by omega)))) ?_
    refine aM 5 ?_
    refine aP 6 rfl (KG (o':=0) Try.underlying33 rfl rfl rfl sz_31 (by decide)) ?_
    refine aP 7 rfl (Kr Try.underlying31 sz_30 rfl rfl (by omega)) ?_
    refine aD 8 rfl (dL rfl (hv:=KL Try.underlying30 rfl (by exact Kd _ (by omega)))) ?_
    refine aM 9 ?_
    refine aP 10 rfl (Det.add64 ex_155 rfl rfl rfl (by omega)) ?_
    refine aM 11 ?_
    refine aP 12 rfl (KW rfl rfl) ?_
    refine aP 13 rfl (KW rfl rfl) ?_
    refine aP 14 rfl (KG (o':=0) Try.underlying33 rfl rfl rfl sz_31 (by decide)) ?_
    refine aP 15 rfl (Kr Try.underlying31 sz_30 rfl rfl (by omega)) ?_
    refine aL 16 rfl (Kj rfl rfl rfl sz_30 (by repeat (first|exact Sh _|apply St_)) (by first|(simp only [KH,KD,KE,Kt]; omega)|(simp; done)|(simp; omega)) (by first|exact KAH _ _ _ _ _|exact KAJ _ _ _ _ (by omega)|exact KAI _ _ _ _|rfl) (by simp) ?_)
    refine aA 17 ?_
    refine aE ?_
    refine KA ?_
    refine oP (KF rfl rfl (Kv (b:=1) (by omega))) ?_
    refine oM ?_
    refine KC ?_
    refine ⟨x+1,by omega,by omega,KAO (Sub.cells (b:=b2) (cs':=vec .u64 9 (fun j=>if j<x+1 then limb (A+B) j else limb A j)) (by repeat (first|exact Sh _|apply St_)) ?_) (Kq ⟨rfl,rfl,rfl,congrArg (fun n:Nat=>some (Value.int .u64 (n:Int))) ?_,rfl,trivial⟩ (by repeat (first|exact Sel.nil _|refine Sel.cons (by repeat (first|exact Ph _|apply Pt_)) ?_)))⟩
    · apply KAA
      intro j hj
      by_cases e:j = x
      · subst e
        simp
        omega
      · simp only [e,if_false]
        by_cases e2:j<x
        · rw [if_pos e2,if_pos (by omega)]
        · rw [if_neg e2,if_neg (by omega)]
    · simp
      omega
  ·
    have h9:¬ x<9:=h9
    refine Kp ?_
    refine KB (KA ?_)
    refine oD (dL rfl (hv:=by exact KI Try.underlying33 rfl sz_33)) ?_
    refine oM ?_
    refine oP (KF rfl rfl (br_eql (b:=1))) ?_
    refine KV rfl (sA rfl rfl sz_33 (by repeat (first|exact Ka _|exact Kl _ _ _|exact Kc _|exact Kg _ _ _|exact Km _ _ _|exact KO|refine KJ rfl ?_|refine KP ?_ ?_)) (hl:=by first|exact KD _|exact KH _ _ _|exact KE _|exact KN _ _ _|exact KY _ _ _|rfl|simp [KH,KD,KE]) (h:=?_))
    refine oA ?_
    refine KC (KM ?_)
    obtain rfl:x = 9:=by omega
    refine ⟨[_,_],.cons ⟨_,_,_,rfl,(by repeat (first|exact Mh _|apply Mt)),by exact KI Try.underlying33 rfl sz_33⟩ (.cons rfl .nil),fun a w' hr=>⟨?_,hr.fr.below⟩⟩
    rw [natV_mod]
    have h1:(vec IntKind.u64 9 fun j=>if j<9 then limb (A+B) j else limb A j) = natL (A+B):=KAA (fun i hi=>if_pos hi)
    have h2:decide (carry A B 9 = 1) = decide (W9≤A+B):=by
      rw [carry_nine A B 9 rfl hA hB]
      by_cases h:W9≤A+B <;> simp [h]
    show Ending.returned (.tuple #[.agg (vec IntKind.u64 9 fun j=>if j<9 then limb (A+B) j else limb A j).toArray,.bool (decide (carry A B 9 = 1))]) = _
    rw [h1,h2]
    rfl
theorem c_nat_Sub (A B:Nat) (hA:A<W9) (hB:B<W9) (w:World)  : Calls Try.prog 115 ([natV A,natV B]:List Value).toArray w (fun e w'=>e = .returned (.tuple #[natV (dif A B),.bool (decide (A<B))])∧Below w.heap.size w w'):=by
  refine Ki (N:=31) (rs:=[.cell 4 33,.tmp 5]) [] Try.func115 rfl Try.ntmps115 Try.results115 (Nb rfl) trivial rfl ?_
  show LCode _ _ _ ⟨_,_⟩ _
  refine KB (KA ?_)
  refine oS (mB (fun b2=>?_))
  refine oS (mB (fun b3=>?_))
  refine oS (mk (KX zr_33) (fun b4=>?_))
  refine oA ?_
  refine KC ?_
  refine KB (KA ?_)
  refine oP (KZ (v:=.int .u64 ((0:Nat):Int)) rfl) ?_
  refine KC ?_
  refine KB ?_
  refine KB (KA ?_)
  refine oP (KAB (v:=.int .i64 ((0:Nat):Int)) rfl) ?_
  refine KC ?_
  refine LCode.block ?_
  refine Ks (α:=Nat) (fun x=>x≤9) (fun x=>⟨[(2,.pointer (some ⟨b2,0,none⟩)),(3,.pointer (some ⟨b3,0,none⟩)),(4,.pointer (some ⟨b4,0,none⟩)),(6,.int .u64 ((borrow A B x:Nat):Int)),(8,.int .i64 ((x:Nat):Int))],[.blk b4 ⟨true,vec .u64 9 (fun _=>0),33,(0,0)⟩,.blk b3 ⟨true,natL B,33,(0,0)⟩,.blk b2 ⟨true,vec .u64 9 (fun j=>if j<x then limb (dif A B) j else limb A j),33,(0,0)⟩]⟩) (fun x=>9-x) (0) (by omega) (Kq ⟨rfl,rfl,rfl,by rw [borrow_zero]; rfl,rfl,trivial⟩ (by repeat (first|exact Sel.nil _|refine Sel.cons (by repeat (first|exact Ph _|apply Pt_)) ?_))) ?_
  intro x hx
  have hc:=borrow_le A B x
  refine KB (KA ?_)
  refine oP (KF rfl rfl (KAT (b:=9))) ?_
  refine KC ?_
  refine KB ?_
  first|refine KS rfl (fun h9=>?_) (fun h9=>?_)|refine KU rfl (fun h9=>?_) (fun h9=>?_)
  ·
    have h9:x<9:=h9
    have ha:=sub_limb A B x hA hB h9
    have hb:=borrow_succ A B x
    refine KT ?_
    refine KB ?_
    refine LCode.block ?_
    refine KB (KA ?_)
    refine oM ?_
    refine oA ?_
    refine KC ?_
    refine rD [16] ?_
    refine aM 0 ?_
    refine aM 1 ?_
    refine aP 2 rfl (KG (o':=0) Try.underlying33 rfl rfl rfl sz_31 (by decide)) ?_
    refine aP 3 rfl (Kr Try.underlying31 sz_30 rfl rfl (by omega)) ?_
    refine aD 4 rfl (dL rfl (hv:=KL Try.underlying30 rfl (by exact Ke _ _ _ (by omega)))) ?_
    refine aM 5 ?_
    refine aP 6 rfl (KG (o':=0) Try.underlying33 rfl rfl rfl sz_31 (by decide)) ?_
    refine aP 7 rfl (Kr Try.underlying31 sz_30 rfl rfl (by omega)) ?_
    refine aD 8 rfl (dL rfl (hv:=KL Try.underlying30 rfl (by exact Kd _ (by omega)))) ?_
    refine aM 9 ?_
    refine aP 10 rfl (Det.sub64 ex_141 rfl rfl rfl (by omega)) ?_
    refine aM 11 ?_
    refine aP 12 rfl (KW rfl rfl) ?_
    refine aP 13 rfl (KW rfl rfl) ?_
    refine aP 14 rfl (KG (o':=0) Try.underlying33 rfl rfl rfl sz_31 (by decide)) ?_
    refine aP 15 rfl (Kr Try.underlying31 sz_30 rfl rfl (by omega)) ?_
    refine aL 16 rfl (Kj rfl rfl rfl sz_30 (by repeat (first|exact Sh _|apply St_)) (by first|(simp only [KH,KD,KE,Kt]; omega)|(simp; done)|(simp; omega)) (by first|exact KAH _ _ _ _ _|exact KAJ _ _ _ _ (by omega)|exact KAI _ _ _ _|rfl) (by simp) ?_)
    refine aA 17 ?_
    refine aE ?_
    refine KA ?_
    refine oP (KF rfl rfl (Kv (b:=1) (by omega))) ?_
    refine oM ?_
    refine KC ?_
    refine ⟨x+1,by omega,by omega,KAO (Sub.cells (b:=b2) (cs':=vec .u64 9 (fun j=>if j<x+1 then limb (dif A B) j else limb A j)) (by repeat (first|exact Sh _|apply St_)) ?_) (Kq ⟨rfl,rfl,rfl,congrArg (fun n:Nat=>some (Value.int .u64 (n:Int))) ?_,rfl,trivial⟩ (by repeat (first|exact Sel.nil _|refine Sel.cons (by repeat (first|exact Ph _|apply Pt_)) ?_)))⟩
    · apply KAA
      intro j hj
      by_cases e:j = x
      · subst e
        simp
        omega
      · simp only [e,if_false]
        by_cases e2:j<x
        · rw [if_pos e2,if_pos (by omega)]
        · rw [if_neg e2,if_neg (by omega)]
    · simp
      omega
  ·
    have h9:¬ x<9:=h9
    refine Kp ?_
    refine KB (KA ?_)
    refine oD (dL rfl (hv:=by exact KI Try.underlying33 rfl sz_33)) ?_
    refine oM ?_
    refine oP (KF rfl rfl (br_eql (b:=1))) ?_
    refine KV rfl (sA rfl rfl sz_33 (by repeat (first|exact Ka _|exact Kl _ _ _|exact Kc _|exact Kg _ _ _|exact Km _ _ _|exact KO|refine KJ rfl ?_|refine KP ?_ ?_)) (hl:=by first|exact KD _|exact KH _ _ _|exact KE _|exact KN _ _ _|exact KY _ _ _|rfl|simp [KH,KD,KE]) (h:=?_))
    refine oA ?_
    refine KC (KM ?_)
    obtain rfl:x = 9:=by omega
    refine ⟨[_,_],.cons ⟨_,_,_,rfl,(by repeat (first|exact Mh _|apply Mt)),by exact KI Try.underlying33 rfl sz_33⟩ (.cons rfl .nil),fun a w' hr=>⟨?_,hr.fr.below⟩⟩
    have h1:(vec IntKind.u64 9 fun j=>if j<9 then limb (dif A B) j else limb A j) = natL (dif A B):=KAA (fun i hi=>if_pos hi)
    have h2:decide (borrow A B 9 = 1) = decide (A<B):=by
      rw [borrow_nine A B 9 rfl hA hB]
      by_cases h:A<B <;> simp [h]
    show Ending.returned (.tuple #[.agg (vec IntKind.u64 9 fun j=>if j<9 then limb (dif A B) j else limb A j).toArray,.bool (decide (borrow A B 9 = 1))]) = _
    rw [h1,h2]
    rfl
theorem c_nat_used (A b:Nat) (wr:Bool) (w:World) (hb:(Item.blk b ⟨wr,natL A,33,(0,0)⟩).holds w) (hA:A<W9):Calls Try.prog 142 ([.pointer (some ⟨b,0,none⟩)]:List Value).toArray w (fun e w'=>e = .returned (.int .i64 ((nw A:Nat):Int))∧Below w.heap.size w w'):=by
  refine Ki (N:=19) (rs:=[.tmp 2]) [.blk b ⟨false,natL A,33,(0,0)⟩] Try.func142 rfl Try.ntmps142 Try.results142 (Nb rfl) ⟨hb,trivial⟩ rfl ?_
  show LCode _ _ _ ⟨_,_⟩ _
  refine KB (KA ?_)
  refine oP (KZ (v:=.int .i64 ((0:Nat):Int)) rfl) ?_
  refine KC ?_
  refine KB (KA ?_)
  refine oP (KZ (v:=.int .i64 ((9:Nat):Int)) rfl) ?_
  refine KC ?_
  refine KB ?_
  refine LCode.block ?_
  refine Ks (α:=Nat) (fun x=>x≤9∧A<2^(64*x)) (fun x=>⟨[(0,.pointer (some ⟨b,0,none⟩)),(3,.int .i64 ((x:Nat):Int))],[.blk b ⟨false,natL A,33,(0,0)⟩]⟩) (fun x=>x) (9) (⟨by omega,lt_w9_pow hA 9 rfl⟩) (Kq ⟨rfl,rfl,trivial⟩ (by repeat (first|exact Sel.nil _|refine Sel.cons (by repeat (first|exact Ph _|apply Pt_)) ?_))) ?_
  rintro x ⟨hx,hlt⟩
  refine KB ?_
  refine KB ?_
  by_cases h0:0<x
  ·
    refine KA ?_
    refine oM ?_
    refine oP (KF rfl rfl (br_t (br_gtr (b:=0)) h0)) ?_
    refine oM ?_
    refine oGM ?_
    refine oGM ?_
    refine oGP (KF rfl rfl (br_sub (b:=1) (by omega) (by omega))) ?_
    refine oGP (KQ rfl) ?_
    refine oGP (KG (o':=0) Try.underlying33 rfl rfl rfl sz_31 (by decide)) ?_
    refine oGP (Kr Try.underlying31 sz_30 rfl rfl (by omega)) ?_
    refine KAQ rfl rfl (dL rfl (hv:=KL Try.underlying30 rfl (by exact Kd _ (show x-1<9 by omega)))) (Nb rfl) ?_
    refine oGP (KF rfl rfl (br_eql (b:=0))) ?_
    refine oP (Kn rfl rfl) ?_
    refine KC ?_
    first|refine KS rfl (fun h15=>?_) (fun h15=>?_)|refine KU rfl (fun h15=>?_) (fun h15=>?_)
    ·
      have h15:limb A (x-1) = 0:=by have:=h15; simpa using this
      refine KT ?_
      refine LCode.block ?_
      refine KA ?_
      refine oM ?_
      refine oP (KF rfl rfl (br_sub (b:=1) (by omega) (by omega))) ?_
      refine oA ?_
      refine KC ?_
      refine ⟨x-1,⟨by omega,?_⟩,by omega,Kq ⟨rfl,rfl,trivial⟩ (by repeat (first|exact Sel.nil _|refine Sel.cons (by repeat (first|exact Ph _|apply Pt_)) ?_))⟩
      exact lt_of_limb_zero (A:=A) (n:=x-1) (by rw [show x-1+1 = x by omega]; exact hlt) h15
    ·
      have h15:¬ limb A (x-1) = 0:=by have:=h15; simpa using this
      refine Kp ?_
      refine KB (KA ?_)
      refine oM ?_
      refine oA ?_
      refine KC (KM ?_)
      have he:nw A = x:=nw_eq hlt (.inr (le_of_limb (A:=A) (n:=x-1) (by rw [show x-1+1 = x by omega]; exact hlt) h15))
      refine ⟨[_],.cons rfl .nil,fun a w' hr=>⟨?_,hr.fr.below⟩⟩
      rw [he]; rfl
  ·
    refine KA ?_
    refine oM ?_
    refine oP (KF rfl rfl (br_f (br_gtr (b:=0)) h0)) ?_
    refine oM ?_
    refine oK ?_
    refine oK ?_
    refine oK ?_
    refine oK ?_
    refine oK ?_
    refine oK ?_
    refine oK ?_
    refine oK ?_
    refine oP (Kh rfl rfl) ?_
    refine KC ?_
    refine KR rfl ?_
    refine Kp ?_
    refine KB (KA ?_)
    refine oM ?_
    refine oA ?_
    refine KC (KM ?_)
    have he:nw A = x:=nw_eq hlt (.inl (by omega))
    refine ⟨[_],.cons rfl .nil,fun a w' hr=>⟨?_,hr.fr.below⟩⟩
    rw [he]; rfl
theorem c_nat_Cmp (A B:Nat) (hA:A<W9) (hB:B<W9) (w:World)  : Calls Try.prog 97 ([natV A,natV B]:List Value).toArray w (fun e w'=>e = .returned (.int .i64 (cmpI A B))∧Below w.heap.size w w'):=by
  refine Ki (N:=30) (rs:=[.tmp 4]) [] Try.func97 rfl Try.ntmps97 Try.results97 (Nb rfl) trivial rfl ?_
  show LCode _ _ _ ⟨_,_⟩ _
  refine KB (KA ?_)
  refine oS (mB (fun b2=>?_))
  refine oS (mB (fun b3=>?_))
  refine oP (KZ (v:=.int .i64 ((0:Nat):Int)) rfl) ?_
  refine KC ?_
  refine KB ?_
  refine KB (KA ?_)
  refine oP (KZ (v:=.int .i64 ((8:Nat):Int)) rfl) ?_
  refine KC ?_
  refine LCode.block ?_
  refine Ks (α:=Nat) (fun x=>x≤9∧A/2^(64*x) = B/2^(64*x)) (fun x=>⟨[(2,.pointer (some ⟨b2,0,none⟩)),(3,.pointer (some ⟨b3,0,none⟩)),(5,.int .i64 ((x:Int)-1))],[.blk b3 ⟨true,natL B,33,(0,0)⟩,.blk b2 ⟨true,natL A,33,(0,0)⟩]⟩) (fun x=>x) (9) (⟨by omega,by rw [Nat.div_eq_of_lt (lt_w9_pow hA 9 rfl),Nat.div_eq_of_lt (lt_w9_pow hB 9 rfl)]⟩) (Kq ⟨rfl,rfl,rfl,trivial⟩ (by repeat (first|exact Sel.nil _|refine Sel.cons (by repeat (first|exact Ph _|apply Pt_)) ?_))) ?_
  rintro x ⟨hx,hab⟩
  refine KB ?_
  refine KB ?_
  rcases Nat.eq_zero_or_pos x with h0|h0
  ·
    refine KA ?_
    refine oM ?_
    refine oP (KF (v:=.bool false) rfl rfl (by subst h0; rfl)) ?_
    refine KC ?_
    refine KR rfl ?_
    refine Kp ?_
    refine KB (KA ?_)
    refine oP (KZ (v:=.int .i64 ((0:Nat):Int)) rfl) ?_
    refine KC (KM ?_)
    have he:A = B:=by subst h0; simpa using hab
    refine ⟨[_],.cons rfl .nil,fun a w' hr=>⟨?_,hr.fr.below⟩⟩
    simp [resOf,cmpI,he]
  ·
    obtain ⟨x,rfl⟩:∃ y,x = y+1:=⟨x-1,by omega⟩
    refine KA ?_
    refine oM ?_
    refine oP (KF (v:=.bool true) rfl rfl (by simp [Kw])) ?_
    refine KC ?_
    refine Kf rfl ?_
    refine KT ?_
    refine KB ?_
    refine LCode.block ?_
    refine LCode.block ?_
    refine KB ?_
    refine rD [] ?_
    refine aP 0 rfl (KAB (v:=.int .i64 ((x:Nat):Int)) (by show some _ = some _; congr 2; omega)) ?_
    refine aP 1 rfl (KG (o':=0) Try.underlying33 rfl rfl rfl sz_31 (by decide)) ?_
    refine aP 2 rfl (Kr Try.underlying31 sz_30 rfl rfl (by omega)) ?_
    refine aD 3 rfl (dL rfl (hv:=KL Try.underlying30 rfl (by exact Kd _ (show x<9 by omega)))) ?_
    refine aP 4 rfl (KAB (v:=.int .i64 ((x:Nat):Int)) (by show some _ = some _; congr 2; omega)) ?_
    refine aP 5 rfl (KG (o':=0) Try.underlying33 rfl rfl rfl sz_31 (by decide)) ?_
    refine aP 6 rfl (Kr Try.underlying31 sz_30 rfl rfl (by omega)) ?_
    refine aD 7 rfl (dL rfl (hv:=KL Try.underlying30 rfl (by exact Kd _ (show x<9 by omega)))) ?_
    refine aP 8 rfl (KF rfl rfl (KAT)) ?_
    refine aA 9 ?_
    refine aE ?_
    first|refine KS rfl (fun h10=>?_) (fun h10=>?_)|refine KU rfl (fun h10=>?_) (fun h10=>?_)
    ·
      refine KB (KA ?_)
      refine oA ?_
      refine KC (KM ?_)
      have he:A<B:=lt_of_limb hab h10
      refine ⟨[_],.cons rfl .nil,fun a w' hr=>⟨?_,hr.fr.below⟩⟩
      simp [resOf,cmpI,he]
    ·
      refine KB ?_
      refine rD [] ?_
      refine aP 0 rfl (KAB (v:=.int .i64 ((x:Nat):Int)) (by show some _ = some _; congr 2; omega)) ?_
      refine aP 1 rfl (KG (o':=0) Try.underlying33 rfl rfl rfl sz_31 (by decide)) ?_
      refine aP 2 rfl (Kr Try.underlying31 sz_30 rfl rfl (by omega)) ?_
      refine aD 3 rfl (dL rfl (hv:=KL Try.underlying30 rfl (by exact Kd _ (show x<9 by omega)))) ?_
      refine aP 4 rfl (KAB (v:=.int .i64 ((x:Nat):Int)) (by show some _ = some _; congr 2; omega)) ?_
      refine aP 5 rfl (KG (o':=0) Try.underlying33 rfl rfl rfl sz_31 (by decide)) ?_
      refine aP 6 rfl (Kr Try.underlying31 sz_30 rfl rfl (by omega)) ?_
      refine aD 7 rfl (dL rfl (hv:=KL Try.underlying30 rfl (by exact Kd _ (show x<9 by omega)))) ?_
      refine aP 8 rfl (KF rfl rfl (br_gtr)) ?_
      refine aA 9 ?_
      refine aE ?_
      first|refine KS rfl (fun h20=>?_) (fun h20=>?_)|refine KU rfl (fun h20=>?_) (fun h20=>?_)
      ·
        refine KB (KA ?_)
        refine oP (KZ (v:=.int .i64 ((1:Nat):Int)) rfl) ?_
        refine KC (KM ?_)
        have he:B<A:=lt_of_limb hab.symm h20
        have he2:¬ A<B:=by omega
        refine ⟨[_],.cons rfl .nil,fun a w' hr=>⟨?_,hr.fr.below⟩⟩
        simp [resOf,cmpI,he,he2]
      ·
        refine KT ?_
        refine KA ?_
        refine oP (KAB (v:=.int .i64 ((x:Nat):Int)) (by show some _ = some _; congr 2; omega)) ?_
        refine oP (KF rfl rfl rfl) ?_
        refine oA ?_
        refine KC ?_
        refine ⟨x,⟨by omega,?_⟩,by omega,Kq ⟨rfl,rfl,?_,trivial⟩ (by repeat (first|exact Sel.nil _|refine Sel.cons (by repeat (first|exact Ph _|apply Pt_)) ?_))⟩
        · have h1:limb A x = limb B x:=by omega
          exact (div_eq_iff_limb A B x).2 ⟨hab,h1⟩
        · exact congrArg (fun i:Int=>some (Value.int .i64 i)) (wrap_i64 (by omega) (by omega))
end Go.Proofs.Ytlmiolnccgjjjaa
set_option linter.unusedVariables false
set_option linter.unusedSimpArgs false
set_option maxRecDepth 20000
namespace Go.Proofs.Ytlmiolnccgjjjaa
open Go Go.RowKit
theorem c_Mul64 (x y:Nat) (hx:x<18446744073709551616) (hy:y<18446744073709551616) (w:World)  : Calls Try.prog 162 ([.int .u64 ((x:Nat):Int),.int .u64 ((y:Nat):Int)]:List Value).toArray w (fun e w'=>e = .returned (.tuple #[.int .u64 ((x*y/18446744073709551616:Nat):Int),.int .u64 ((x*y%18446744073709551616:Nat):Int)])∧Below w.heap.size w w'):=by
  refine Ki (N:=51) (rs:=[.tmp 4,.tmp 5]) [] Try.func162 rfl Try.ntmps162 Try.results162 (Nb rfl) trivial rfl ?_
  show LCode _ _ _ ⟨_,_⟩ _
  refine KB (KA ?_)
  refine oP (KZ (v:=.int .u64 ((0:Nat):Int)) rfl) ?_
  refine oP (KZ (v:=.int .u64 ((0:Nat):Int)) rfl) ?_
  refine KC ?_
  refine KB (KA ?_)
  refine oM ?_
  refine oP (KF rfl rfl (br_and64 (b:=4294967295) (by omega) (by omega))) ?_
  refine oA ?_
  refine KC ?_
  refine KB (KA ?_)
  refine oM ?_
  refine oP (KF rfl rfl (KAL (b:=32) (by omega))) ?_
  refine oA ?_
  refine KC ?_
  refine KB (KA ?_)
  refine oM ?_
  refine oP (KF rfl rfl (br_and64 (b:=4294967295) (by omega) (by omega))) ?_
  refine oA ?_
  refine KC ?_
  refine KB (KA ?_)
  refine oM ?_
  refine oP (KF rfl rfl (KAL (b:=32) (by omega))) ?_
  refine oA ?_
  refine KC ?_
  refine KB (KA ?_)
  refine oM ?_
  refine oM ?_
  refine oP (KF rfl rfl (br_mul64)) ?_
  refine oA ?_
  refine KC ?_
  refine KB (KA ?_)
  refine oM ?_
  refine oM ?_
  refine oP (KF rfl rfl (br_mul64)) ?_
  refine oM ?_
  refine oP (KF rfl rfl (KAL (b:=32) (by omega))) ?_
  refine oP (KF rfl rfl (KAM)) ?_
  refine oA ?_
  refine KC ?_
  refine KB (KA ?_)
  refine oM ?_
  refine oP (KF rfl rfl (br_and64 (b:=4294967295) (by omega) (by omega))) ?_
  refine oA ?_
  refine KC ?_
  refine KB (KA ?_)
  refine oM ?_
  refine oP (KF rfl rfl (KAL (b:=32) (by omega))) ?_
  refine oA ?_
  refine KC ?_
  refine KB (KA ?_)
  refine oM ?_
  refine oM ?_
  refine oM ?_
  refine oP (KF rfl rfl (br_mul64)) ?_
  refine oP (KF rfl rfl (KAM)) ?_
  refine oA ?_
  refine KC ?_
  refine KB (KA ?_)
  refine oM ?_
  refine oM ?_
  refine oP (KF rfl rfl (br_mul64)) ?_
  refine oM ?_
  refine oP (KF rfl rfl (KAM)) ?_
  refine oM ?_
  refine oP (KF rfl rfl (KAL (b:=32) (by omega))) ?_
  refine oP (KF rfl rfl (KAM)) ?_
  refine oA ?_
  refine KC ?_
  refine KB (KA ?_)
  refine oM ?_
  refine oM ?_
  refine oP (KF rfl rfl (br_mul64)) ?_
  refine oA ?_
  refine KC (KM ?_)
  refine ⟨[_,_],.cons rfl (.cons rfl .nil),fun a w' hr=>⟨?_,hr.fr.below⟩⟩
  have h:=mul64_hi x y hx hy
  rw [← h]
  rfl
def lenTab:List UInt8:=[0,1,2,2,3,3,3,3,4,4,4,4,4,4,4,4,5,5,5,5,5,5,5,5,5,5,5,5,5,5,5,5,6,6,6,6,6,6,6,6,6,6,6,6,6,6,6,6,6,6,6,6,6,6,6,6,6,6,6,6,6,6,6,6,7,7,7,7,7,7,7,7,7,7,7,7,7,7,7,7,7,7,7,7,7,7,7,7,7,7,7,7,7,7,7,7,7,7,7,7,7,7,7,7,7,7,7,7,7,7,7,7,7,7,7,7,7,7,7,7,7,7,7,7,7,7,7,7,8,8,8,8,8,8,8,8,8,8,8,8,8,8,8,8,8,8,8,8,8,8,8,8,8,8,8,8,8,8,8,8,8,8,8,8,8,8,8,8,8,8,8,8,8,8,8,8,8,8,8,8,8,8,8,8,8,8,8,8,8,8,8,8,8,8,8,8,8,8,8,8,8,8,8,8,8,8,8,8,8,8,8,8,8,8,8,8,8,8,8,8,8,8,8,8,8,8,8,8,8,8,8,8,8,8,8,8,8,8,8,8,8,8,8,8,8,8,8,8,8,8,8,8,8,8,8,8]
theorem len_tab:∀ i,i<256→(lenTab.getD i 0).toNat = blen i:=by decide +kernel
theorem len_tab_int (i:Nat) (h:i<256):(Value.int .u8 ((lenTab.getD ((i:Int).toNat) 0).toNat:Int)) = .int .u8 ((blen i:Nat):Int):=by rw [Int.toNat_natCast,len_tab i h]
theorem blen_m8 (z:Nat):blen (z%256)≤8:=blen_le (Nat.mod_lt _ (by decide))
theorem c_Len64 (x:Nat) (hx:x<18446744073709551616) (w:World)  : Calls Try.prog 143 ([.int .u64 ((x:Nat):Int)]:List Value).toArray w (fun e w'=>e = .returned (.int .i64 ((blen x:Nat):Int))∧Below w.heap.size w w'):=by
  refine Ki (N:=25) (rs:=[.tmp 2]) [] Try.func143 rfl Try.ntmps143 Try.results143 (Nb rfl) trivial rfl ?_
  show LCode _ _ _ ⟨_,_⟩ _
  refine KB (KA ?_)
  refine oP (KZ (v:=.int .i64 ((0:Nat):Int)) rfl) ?_
  refine KC ?_
  refine KB ?_
  refine KB (KA ?_)
  refine oM ?_
  refine oP (KF rfl rfl (br_geq (b:=4294967296))) ?_
  refine KC ?_
  first|refine KS rfl (fun h4=>?_) (fun h4=>?_)|refine KU rfl (fun h4=>?_) (fun h4=>?_)
  ·
    refine KB (KA ?_)
    refine oM ?_
    refine oP (KF rfl rfl (KAL (b:=32) (by omega))) ?_
    refine oA ?_
    refine KC ?_
    refine KA ?_
    refine oP (KZ (v:=.int .i64 ((32:Nat):Int)) rfl) ?_
    refine KC ?_
    refine KB ?_
    refine KB (KA ?_)
    refine oM ?_
    refine oP (KF rfl rfl (br_geq (b:=65536))) ?_
    refine KC ?_
    first|refine KS rfl (fun h8=>?_) (fun h8=>?_)|refine KU rfl (fun h8=>?_) (fun h8=>?_)
    ·
      refine KB (KA ?_)
      refine oM ?_
      refine oP (KF rfl rfl (KAL (b:=16) (by omega))) ?_
      refine oA ?_
      refine KC ?_
      refine KA ?_
      refine oM ?_
      refine oP (KF rfl rfl (Kv (b:=16) (by omega))) ?_
      refine oA ?_
      refine KC ?_
      refine KB ?_
      refine KB (KA ?_)
      refine oM ?_
      refine oP (KF rfl rfl (br_geq (b:=256))) ?_
      refine KC ?_
      first|refine KS rfl (fun h14=>?_) (fun h14=>?_)|refine KU rfl (fun h14=>?_) (fun h14=>?_)
      ·
        refine KB (KA ?_)
        refine oM ?_
        refine oP (KF rfl rfl (KAL (b:=8) (by omega))) ?_
        refine oA ?_
        refine KC ?_
        refine KA ?_
        refine oM ?_
        refine oP (KF rfl rfl (Kv (b:=8) (by omega))) ?_
        refine oA ?_
        refine KC ?_
        refine KB (KA ?_)
        refine oM ?_
        refine oM ?_
        refine oP (Det.conv8 Try.underlying30 Try.underlying5 rfl) ?_
        refine oP (KK (Det.indexStr Try.underlying9 rfl rfl (by omega) (by show ((_%256:Nat):Int)<256; omega)) (len_tab_int _ (Nat.mod_lt _ (by decide)))) ?_
        refine oP (Det.convi Try.underlying5 Try.underlying3 rfl (Nat.lt_of_le_of_lt (blen_m8 _) (by decide))) ?_
        refine oP (KF rfl rfl (Kv (Nat.lt_of_le_of_lt (Nat.add_le_add_left (blen_m8 _) _) (by omega)))) ?_
        refine oA ?_
        refine KC (KM ?_)
        have hm:∀ z:Nat,z<256→blen (z%256) = blen z:=fun z hz=>by rw [Nat.mod_eq_of_lt hz]
        refine ⟨[_],.cons rfl .nil,fun a w' hr=>⟨?_,hr.fr.below⟩⟩
        refine congrArg (fun n:Nat=>Ending.returned (.int .i64 (n:Int))) ?_
        have e32:=blen_shr (k:=32) (show 2^32≤x by omega)
        have e16:=blen_shr (k:=16) (show 2^16≤(x/2^32) by omega)
        have e8:=blen_shr (k:=8) (show 2^8≤((x/2^32)/2^16) by omega)
        rw [hm (((x/2^32)/2^16)/2^8) (by omega)]
        omega
      ·
        refine KT ?_
        refine KB (KA ?_)
        refine oM ?_
        refine oM ?_
        refine oP (Det.conv8 Try.underlying30 Try.underlying5 rfl) ?_
        refine oP (KK (Det.indexStr Try.underlying9 rfl rfl (by omega) (by show ((_%256:Nat):Int)<256; omega)) (len_tab_int _ (Nat.mod_lt _ (by decide)))) ?_
        refine oP (Det.convi Try.underlying5 Try.underlying3 rfl (Nat.lt_of_le_of_lt (blen_m8 _) (by decide))) ?_
        refine oP (KF rfl rfl (Kv (Nat.lt_of_le_of_lt (Nat.add_le_add_left (blen_m8 _) _) (by omega)))) ?_
        refine oA ?_
        refine KC (KM ?_)
        have hm:∀ z:Nat,z<256→blen (z%256) = blen z:=fun z hz=>by rw [Nat.mod_eq_of_lt hz]
        refine ⟨[_],.cons rfl .nil,fun a w' hr=>⟨?_,hr.fr.below⟩⟩
        refine congrArg (fun n:Nat=>Ending.returned (.int .i64 (n:Int))) ?_
        have e32:=blen_shr (k:=32) (show 2^32≤x by omega)
        have e16:=blen_shr (k:=16) (show 2^16≤(x/2^32) by omega)
        rw [hm ((x/2^32)/2^16) (by omega)]
        omega
    ·
      refine KT ?_
      refine KB ?_
      refine KB (KA ?_)
      refine oM ?_
      refine oP (KF rfl rfl (br_geq (b:=256))) ?_
      refine KC ?_
      first|refine KS rfl (fun h14=>?_) (fun h14=>?_)|refine KU rfl (fun h14=>?_) (fun h14=>?_)
      ·
        refine KB (KA ?_)
        refine oM ?_
        refine oP (KF rfl rfl (KAL (b:=8) (by omega))) ?_
        refine oA ?_
        refine KC ?_
        refine KA ?_
        refine oM ?_
        refine oP (KF rfl rfl (Kv (b:=8) (by omega))) ?_
        refine oA ?_
        refine KC ?_
        refine KB (KA ?_)
        refine oM ?_
        refine oM ?_
        refine oP (Det.conv8 Try.underlying30 Try.underlying5 rfl) ?_
        refine oP (KK (Det.indexStr Try.underlying9 rfl rfl (by omega) (by show ((_%256:Nat):Int)<256; omega)) (len_tab_int _ (Nat.mod_lt _ (by decide)))) ?_
        refine oP (Det.convi Try.underlying5 Try.underlying3 rfl (Nat.lt_of_le_of_lt (blen_m8 _) (by decide))) ?_
        refine oP (KF rfl rfl (Kv (Nat.lt_of_le_of_lt (Nat.add_le_add_left (blen_m8 _) _) (by omega)))) ?_
        refine oA ?_
        refine KC (KM ?_)
        have hm:∀ z:Nat,z<256→blen (z%256) = blen z:=fun z hz=>by rw [Nat.mod_eq_of_lt hz]
        refine ⟨[_],.cons rfl .nil,fun a w' hr=>⟨?_,hr.fr.below⟩⟩
        refine congrArg (fun n:Nat=>Ending.returned (.int .i64 (n:Int))) ?_
        have e32:=blen_shr (k:=32) (show 2^32≤x by omega)
        have e8:=blen_shr (k:=8) (show 2^8≤(x/2^32) by omega)
        rw [hm ((x/2^32)/2^8) (by omega)]
        omega
      ·
        refine KT ?_
        refine KB (KA ?_)
        refine oM ?_
        refine oM ?_
        refine oP (Det.conv8 Try.underlying30 Try.underlying5 rfl) ?_
        refine oP (KK (Det.indexStr Try.underlying9 rfl rfl (by omega) (by show ((_%256:Nat):Int)<256; omega)) (len_tab_int _ (Nat.mod_lt _ (by decide)))) ?_
        refine oP (Det.convi Try.underlying5 Try.underlying3 rfl (Nat.lt_of_le_of_lt (blen_m8 _) (by decide))) ?_
        refine oP (KF rfl rfl (Kv (Nat.lt_of_le_of_lt (Nat.add_le_add_left (blen_m8 _) _) (by omega)))) ?_
        refine oA ?_
        refine KC (KM ?_)
        have hm:∀ z:Nat,z<256→blen (z%256) = blen z:=fun z hz=>by rw [Nat.mod_eq_of_lt hz]
        refine ⟨[_],.cons rfl .nil,fun a w' hr=>⟨?_,hr.fr.below⟩⟩
        refine congrArg (fun n:Nat=>Ending.returned (.int .i64 (n:Int))) ?_
        have e32:=blen_shr (k:=32) (show 2^32≤x by omega)
        rw [hm (x/2^32) (by omega)]
        omega
  ·
    refine KT ?_
    refine KB ?_
    refine KB (KA ?_)
    refine oM ?_
    refine oP (KF rfl rfl (br_geq (b:=65536))) ?_
    refine KC ?_
    first|refine KS rfl (fun h8=>?_) (fun h8=>?_)|refine KU rfl (fun h8=>?_) (fun h8=>?_)
    ·
      refine KB (KA ?_)
      refine oM ?_
      refine oP (KF rfl rfl (KAL (b:=16) (by omega))) ?_
      refine oA ?_
      refine KC ?_
      refine KA ?_
      refine oM ?_
      refine oP (KF rfl rfl (Kv (b:=16) (by omega))) ?_
      refine oA ?_
      refine KC ?_
      refine KB ?_
      refine KB (KA ?_)
      refine oM ?_
      refine oP (KF rfl rfl (br_geq (b:=256))) ?_
      refine KC ?_
      first|refine KS rfl (fun h14=>?_) (fun h14=>?_)|refine KU rfl (fun h14=>?_) (fun h14=>?_)
      ·
        refine KB (KA ?_)
        refine oM ?_
        refine oP (KF rfl rfl (KAL (b:=8) (by omega))) ?_
        refine oA ?_
        refine KC ?_
        refine KA ?_
        refine oM ?_
        refine oP (KF rfl rfl (Kv (b:=8) (by omega))) ?_
        refine oA ?_
        refine KC ?_
        refine KB (KA ?_)
        refine oM ?_
        refine oM ?_
        refine oP (Det.conv8 Try.underlying30 Try.underlying5 rfl) ?_
        refine oP (KK (Det.indexStr Try.underlying9 rfl rfl (by omega) (by show ((_%256:Nat):Int)<256; omega)) (len_tab_int _ (Nat.mod_lt _ (by decide)))) ?_
        refine oP (Det.convi Try.underlying5 Try.underlying3 rfl (Nat.lt_of_le_of_lt (blen_m8 _) (by decide))) ?_
        refine oP (KF rfl rfl (Kv (Nat.lt_of_le_of_lt (Nat.add_le_add_left (blen_m8 _) _) (by omega)))) ?_
        refine oA ?_
        refine KC (KM ?_)
        have hm:∀ z:Nat,z<256→blen (z%256) = blen z:=fun z hz=>by rw [Nat.mod_eq_of_lt hz]
        refine ⟨[_],.cons rfl .nil,fun a w' hr=>⟨?_,hr.fr.below⟩⟩
        refine congrArg (fun n:Nat=>Ending.returned (.int .i64 (n:Int))) ?_
        have e16:=blen_shr (k:=16) (show 2^16≤x by omega)
        have e8:=blen_shr (k:=8) (show 2^8≤(x/2^16) by omega)
        rw [hm ((x/2^16)/2^8) (by omega)]
        omega
      ·
        refine KT ?_
        refine KB (KA ?_)
        refine oM ?_
        refine oM ?_
        refine oP (Det.conv8 Try.underlying30 Try.underlying5 rfl) ?_
        refine oP (KK (Det.indexStr Try.underlying9 rfl rfl (by omega) (by show ((_%256:Nat):Int)<256; omega)) (len_tab_int _ (Nat.mod_lt _ (by decide)))) ?_
        refine oP (Det.convi Try.underlying5 Try.underlying3 rfl (Nat.lt_of_le_of_lt (blen_m8 _) (by decide))) ?_
        refine oP (KF rfl rfl (Kv (Nat.lt_of_le_of_lt (Nat.add_le_add_left (blen_m8 _) _) (by omega)))) ?_
        refine oA ?_
        refine KC (KM ?_)
        have hm:∀ z:Nat,z<256→blen (z%256) = blen z:=fun z hz=>by rw [Nat.mod_eq_of_lt hz]
        refine ⟨[_],.cons rfl .nil,fun a w' hr=>⟨?_,hr.fr.below⟩⟩
        refine congrArg (fun n:Nat=>Ending.returned (.int .i64 (n:Int))) ?_
        have e16:=blen_shr (k:=16) (show 2^16≤x by omega)
        rw [hm (x/2^16) (by omega)]
        omega
    ·
      refine KT ?_
      refine KB ?_
      refine KB (KA ?_)
      refine oM ?_
      refine oP (KF rfl rfl (br_geq (b:=256))) ?_
      refine KC ?_
      first|refine KS rfl (fun h14=>?_) (fun h14=>?_)|refine KU rfl (fun h14=>?_) (fun h14=>?_)
      ·
        refine KB (KA ?_)
        refine oM ?_
        refine oP (KF rfl rfl (KAL (b:=8) (by omega))) ?_
        refine oA ?_
        refine KC ?_
        refine KA ?_
        refine oM ?_
        refine oP (KF rfl rfl (Kv (b:=8) (by omega))) ?_
        refine oA ?_
        refine KC ?_
        refine KB (KA ?_)
        refine oM ?_
        refine oM ?_
        refine oP (Det.conv8 Try.underlying30 Try.underlying5 rfl) ?_
        refine oP (KK (Det.indexStr Try.underlying9 rfl rfl (by omega) (by show ((_%256:Nat):Int)<256; omega)) (len_tab_int _ (Nat.mod_lt _ (by decide)))) ?_
        refine oP (Det.convi Try.underlying5 Try.underlying3 rfl (Nat.lt_of_le_of_lt (blen_m8 _) (by decide))) ?_
        refine oP (KF rfl rfl (Kv (Nat.lt_of_le_of_lt (Nat.add_le_add_left (blen_m8 _) _) (by omega)))) ?_
        refine oA ?_
        refine KC (KM ?_)
        have hm:∀ z:Nat,z<256→blen (z%256) = blen z:=fun z hz=>by rw [Nat.mod_eq_of_lt hz]
        refine ⟨[_],.cons rfl .nil,fun a w' hr=>⟨?_,hr.fr.below⟩⟩
        refine congrArg (fun n:Nat=>Ending.returned (.int .i64 (n:Int))) ?_
        have e8:=blen_shr (k:=8) (show 2^8≤x by omega)
        rw [hm (x/2^8) (by omega)]
        omega
      ·
        refine KT ?_
        refine KB (KA ?_)
        refine oM ?_
        refine oM ?_
        refine oP (Det.conv8 Try.underlying30 Try.underlying5 rfl) ?_
        refine oP (KK (Det.indexStr Try.underlying9 rfl rfl (by omega) (by show ((_%256:Nat):Int)<256; omega)) (len_tab_int _ (Nat.mod_lt _ (by decide)))) ?_
        refine oP (Det.convi Try.underlying5 Try.underlying3 rfl (Nat.lt_of_le_of_lt (blen_m8 _) (by decide))) ?_
        refine oP (KF rfl rfl (Kv (Nat.lt_of_le_of_lt (Nat.add_le_add_left (blen_m8 _) _) (by omega)))) ?_
        refine oA ?_
        refine KC (KM ?_)
        have hm:∀ z:Nat,z<256→blen (z%256) = blen z:=fun z hz=>by rw [Nat.mod_eq_of_lt hz]
        refine ⟨[_],.cons rfl .nil,fun a w' hr=>⟨?_,hr.fr.below⟩⟩
        refine congrArg (fun n:Nat=>Ending.returned (.int .i64 (n:Int))) ?_
        rw [hm x (by omega)]
        omega
theorem c_LeadingZeros64 (x:Nat) (hx:x<18446744073709551616) (w:World)  : Calls Try.prog 161 ([.int .u64 ((x:Nat):Int)]:List Value).toArray w (fun e w'=>e = .returned (.int .i64 ((64-blen x:Nat):Int))∧Below w.heap.size w w'):=by
  refine Ki (N:=6) (rs:=[.tmp 2]) [] Try.func161 rfl Try.ntmps161 Try.results161 (Nb rfl) trivial rfl ?_
  show LCode _ _ _ ⟨_,_⟩ _
  refine KB (KA ?_)
  refine oP (KZ (v:=.int .i64 ((0:Nat):Int)) rfl) ?_
  refine KC ?_
  refine KB (KA ?_)
  refine oM ?_
  refine oS (cF rfl en_143 rfl (fun w hw=>c_Len64 _ (by omega) w) ?_)
  refine oP (KF rfl rfl (br_sub (a:=64) (blen_le hx) (by omega))) ?_
  refine oA ?_
  refine KC (KM ?_)
  refine ⟨[_],.cons rfl .nil,fun a w' hr=>⟨?_,hr.fr.below⟩⟩
  rfl
theorem c_Div64 (hi lo y:Nat) (hlo:lo<18446744073709551616) (hy:9223372036854775808≤y) (hy2:y<18446744073709551616) (hh:hi<y) (w:World)  : Calls Try.prog 166 ([.int .u64 ((hi:Nat):Int),.int .u64 ((lo:Nat):Int),.int .u64 ((y:Nat):Int)]:List Value).toArray w (fun e w'=>e = .returned (.tuple #[.int .u64 (((hi*18446744073709551616+lo)/y:Nat):Int),.int .u64 (((hi*18446744073709551616+lo)%y:Nat):Int)])∧Below w.heap.size w w'):=by
  have hb:64-blen y = 0:=by have:=le_blen (A:=y) (n:=63) (by omega); omega
  refine Ki (N:=135) (rs:=[.tmp 6,.tmp 7]) [] Try.func166 rfl Try.ntmps166 Try.results166 (Nb rfl) trivial rfl ?_
  show LCode _ _ _ ⟨_,_⟩ _
  refine KB (KA ?_)
  refine oP (KZ (v:=.int .u64 ((0:Nat):Int)) rfl) ?_
  refine oP (KZ (v:=.int .u64 ((0:Nat):Int)) rfl) ?_
  refine KC ?_
  refine KB ?_
  refine KB (KA ?_)
  refine oM ?_
  refine oP (KF rfl rfl (br_f (br_eql (b:=0)) (by omega))) ?_
  refine KC ?_
  refine KR rfl ?_
  refine KT ?_
  refine KB ?_
  refine KB (KA ?_)
  refine oM ?_
  refine oM ?_
  refine oP (KF rfl rfl (br_f br_leq (by omega))) ?_
  refine KC ?_
  refine KR rfl ?_
  refine KT ?_
  refine KB ?_
  refine KB (KA ?_)
  refine oM ?_
  refine oP (KF rfl rfl (br_eql (b:=0))) ?_
  refine KC ?_
  first|refine KS rfl (fun h27=>?_) (fun h27=>?_)|refine KU rfl (fun h27=>?_) (fun h27=>?_)
  ·
    refine KB ?_
    refine rD [] ?_
    refine aM 0 ?_
    refine aM 1 ?_
    refine aP 2 rfl (KF rfl rfl (br_quo64 (by omega) (by omega))) ?_
    refine aM 3 ?_
    refine aM 4 ?_
    refine aP 5 rfl (KF rfl rfl (br_rem64 (by omega))) ?_
    refine aA 6 ?_
    refine aA 7 ?_
    refine aE ?_
    refine KM ?_
    refine ⟨[_,_],.cons rfl (.cons rfl .nil),fun a w' hr=>⟨?_,hr.fr.below⟩⟩
    subst h27
    rw [Nat.zero_mul,Nat.zero_add]
    rfl
  ·
    refine KT ?_
    refine KB (KA ?_)
    refine oM ?_
    refine oS (cF rfl en_161 rfl (fun w hw=>c_LeadingZeros64 _ (by omega) w) ?_)
    refine oP (KK (v:=.int .u64 ((64-blen y:Nat):Int)) (KAE Try.underlying3 Try.underlying29 rfl (by omega)) (by rw [hb])) ?_
    refine oA ?_
    refine KC ?_
    refine KB (KA ?_)
    refine oM ?_
    refine oM ?_
    refine oP (KK (KF rfl rfl (br_shl64 (b:=0))) (vi (b:=y) (by omega))) ?_
    refine oA ?_
    refine KC ?_
    refine KB (KA ?_)
    refine oM ?_
    refine oP (KF rfl rfl (KAL (b:=32) (by omega))) ?_
    refine oA ?_
    refine KC ?_
    refine KB (KA ?_)
    refine oM ?_
    refine oP (KK (KF rfl rfl (br_and64 (b:=4294967295) (by omega) (by omega))) (vi (b:=y%4294967296) (by rw [and32]))) ?_
    refine oA ?_
    refine KC ?_
    refine KB (KA ?_)
    refine oM ?_
    refine oM ?_
    refine oP (KK (KF rfl rfl (br_shl64 (b:=0))) (vi (b:=hi) (by omega))) ?_
    refine oM ?_
    refine oM ?_
    refine oP (KF (v:=.int .u64 ((64:Nat):Int)) rfl rfl rfl) ?_
    refine oP (KK (KF rfl rfl (KAL (b:=64) (by omega))) (vi (b:=0) (by omega))) ?_
    refine oP (KK (KF rfl rfl (br_or64 (by omega) (by omega))) (vi (b:=hi) (by rw [Nat.or_zero]))) ?_
    refine oA ?_
    refine KC ?_
    refine KB (KA ?_)
    refine oM ?_
    refine oM ?_
    refine oP (KK (KF rfl rfl (br_shl64 (b:=0))) (vi (b:=lo) (by omega))) ?_
    refine oA ?_
    refine KC ?_
    refine KB (KA ?_)
    refine oM ?_
    refine oP (KF rfl rfl (KAL (b:=32) (by omega))) ?_
    refine oA ?_
    refine KC ?_
    refine KB (KA ?_)
    refine oM ?_
    refine oP (KK (KF rfl rfl (br_and64 (b:=4294967295) (by omega) (by omega))) (vi (b:=lo%4294967296) (by rw [and32]))) ?_
    refine oA ?_
    refine KC ?_
    refine KB (KA ?_)
    refine oM ?_
    refine oM ?_
    refine oP (KF rfl rfl (br_quo64 (by omega) (by omega))) ?_
    refine oA ?_
    refine KC ?_
    refine KB (KA ?_)
    refine oM ?_
    refine oM ?_
    refine oM ?_
    refine oP (KF rfl rfl (br_mul64)) ?_
    refine oP (KK (KF rfl rfl (br_sub64 (Nat.mod_lt _ (by decide)))) (vi (b:=hi%(y/2^32)) (minus_div (by omega)))) ?_
    refine oA ?_
    refine KC ?_
    refine LCode.cut (α:=Unit) (fun _=>True) (fun _=>⟨[(2,.int .u64 ((y:Nat):Int)),(9,.int .u64 ((y/2^32:Nat):Int)),(10,.int .u64 ((y%4294967296:Nat):Int)),(11,.int .u64 ((hi:Nat):Int)),(12,.int .u64 ((lo:Nat):Int)),(13,.int .u64 ((lo/2^32:Nat):Int)),(14,.int .u64 ((lo%4294967296:Nat):Int)),(8,.int .u64 ((0:Nat):Int)),(15,.int .u64 (((hi*4294967296+lo/2^32)/y:Nat):Int))],[]⟩) ?_ ?_
    ·
      refine LCode.block ?_
      refine Ks (α:=Nat×Nat) (fun x=>x.1*(y/2^32)+x.2 = hi∧(hi*4294967296+lo/2^32)/y≤x.1∧x.2<4294967296) (fun x=>⟨[(2,.int .u64 ((y:Nat):Int)),(9,.int .u64 ((y/2^32:Nat):Int)),(10,.int .u64 ((y%4294967296:Nat):Int)),(11,.int .u64 ((hi:Nat):Int)),(12,.int .u64 ((lo:Nat):Int)),(13,.int .u64 ((lo/2^32:Nat):Int)),(14,.int .u64 ((lo%4294967296:Nat):Int)),(8,.int .u64 ((0:Nat):Int)),(15,.int .u64 ((x.1:Nat):Int)),(16,.int .u64 ((x.2:Nat):Int))],[]⟩) (fun x=>x.1) ((hi/(y/2^32),hi%(y/2^32))) (half_init _ _ _ hy hy2 (by first|assumption|exact Nat.mod_lt _ (by omega)) (by omega)) (Kq (by exact ⟨rfl,rfl,rfl,rfl,rfl,rfl,rfl,rfl,rfl,rfl,trivial⟩) (by repeat (first|exact Sel.nil _|refine Sel.cons (by repeat (first|exact Ph _|apply Pt_)) ?_))) ?_
      rintro x ⟨hq1,hq2,hq3⟩
      have hql:x.1<18446744073709551616:=by
        have h1:x.1*1≤x.1*(y/2^32):=Nat.mul_le_mul_left _ (by omega)
        have h2:hi<y:=by first|assumption|exact Nat.mod_lt _ (by omega)
        generalize x.1*(y/2^32) = z at *
        omega
      refine KB ?_
      refine KB ?_
      rcases Nat.lt_or_ge x.1 4294967296 with hge|hge
      rotate_left
      ·
        refine KA ?_
        refine oM ?_
        refine oP (KF rfl rfl (br_t (br_geq (b:=4294967296)) hge)) ?_
        refine oM ?_
        refine oK ?_
        refine oK ?_
        refine oK ?_
        refine oK ?_
        refine oK ?_
        refine oK ?_
        refine oK ?_
        refine oK ?_
        refine oP (Kn rfl rfl) ?_
        refine KC ?_
        have hcont:4294967296≤x.1∨(x.1<4294967296∧4294967296*x.2+(lo/2^32)<x.1*(y%4294967296)):=.inl hge
        have hm:=half_more (by omega) (by first|assumption|exact Nat.mod_lt _ (by omega)) (by omega) hq1 hq2 hcont
        refine Kf rfl ?_
        refine KT ?_
        refine LCode.block ?_
        refine KB (KA ?_)
        refine oM ?_
        refine oP (KK (KF rfl rfl (br_sub64 (b:=1) (by omega))) (vi (b:=x.1-1) (by have:=hm.1; have:x.1<18446744073709551616:=hql; omega))) ?_
        refine oA ?_
        refine KC ?_
        refine KB (KA ?_)
        refine oM ?_
        refine oM ?_
        refine oP (KK (KF rfl rfl KAM) (vi (b:=x.2+y/2^32) (by omega))) ?_
        refine oA ?_
        refine KC ?_
        refine KB (KA ?_)
        refine oM ?_
        refine oP (KF rfl rfl (br_geq (b:=4294967296))) ?_
        refine KC ?_
        first|refine KS rfl (fun hbrk=>?_) (fun hbrk=>?_)|refine KU rfl (fun hbrk=>?_) (fun hbrk=>?_)
        ·
          refine Kp ?_
          have hqq:=half_break hy (by first|assumption|exact Nat.mod_lt _ (by omega)) hm.2.1 hm.2.2 hbrk
          rw [hqq]
          exact ⟨(),trivial,Kq (by exact ⟨rfl,rfl,rfl,rfl,rfl,rfl,rfl,rfl,rfl,trivial⟩) (by repeat (first|exact Sel.nil _|refine Sel.cons (by repeat (first|exact Ph _|apply Pt_)) ?_))⟩
        ·
          refine KT ?_
          refine ⟨(x.1-1,x.2+y/2^32),⟨hm.2.1,hm.2.2,Nat.lt_of_not_le hbrk⟩,?_,Kq (by exact ⟨rfl,rfl,rfl,rfl,rfl,rfl,rfl,rfl,rfl,rfl,trivial⟩) (by repeat (first|exact Sel.nil _|refine Sel.cons (by repeat (first|exact Ph _|apply Pt_)) ?_))⟩
          show x.1-1<x.1
          have:=hm.1
          omega
      ·
        refine KA ?_
        refine oM ?_
        refine oP (KF rfl rfl (br_f (br_geq (b:=4294967296)) (Nat.not_le_of_lt hge))) ?_
        refine oM ?_
        refine oGM ?_
        refine oGM ?_
        refine oGP (KK (KF rfl rfl br_mul64) (vi (b:=x.1*(y%4294967296)) (by exact Nat.mod_eq_of_lt (by have:=Nat.mul_le_mul (show x.1≤4294967295 by omega) (show y%4294967296≤4294967295 by omega); omega)))) ?_
        refine oGM ?_
        refine oGP (KF rfl rfl (br_mul64 (a:=4294967296))) ?_
        refine oGM ?_
        refine oGP (KK (KF rfl rfl KAM) (vi (b:=4294967296*x.2+(lo/2^32)) (by omega))) ?_
        refine oGP (KF rfl rfl (br_gtr)) ?_
        refine oP (Kh rfl rfl) ?_
        refine KC ?_
        first|refine KS rfl (fun hgt=>?_) (fun hgt=>?_)|refine KU rfl (fun hgt=>?_) (fun hgt=>?_)
        ·
          have hcont:4294967296≤x.1∨(x.1<4294967296∧4294967296*x.2+(lo/2^32)<x.1*(y%4294967296)):=.inr ⟨by omega,hgt⟩
          have hm:=half_more (by omega) (by first|assumption|exact Nat.mod_lt _ (by omega)) (by omega) hq1 hq2 hcont
          refine KT ?_
          refine LCode.block ?_
          refine KB (KA ?_)
          refine oM ?_
          refine oP (KK (KF rfl rfl (br_sub64 (b:=1) (by omega))) (vi (b:=x.1-1) (by have:=hm.1; have:x.1<18446744073709551616:=hql; omega))) ?_
          refine oA ?_
          refine KC ?_
          refine KB (KA ?_)
          refine oM ?_
          refine oM ?_
          refine oP (KK (KF rfl rfl KAM) (vi (b:=x.2+y/2^32) (by omega))) ?_
          refine oA ?_
          refine KC ?_
          refine KB (KA ?_)
          refine oM ?_
          refine oP (KF rfl rfl (br_geq (b:=4294967296))) ?_
          refine KC ?_
          first|refine KS rfl (fun hbrk=>?_) (fun hbrk=>?_)|refine KU rfl (fun hbrk=>?_) (fun hbrk=>?_)
          ·
            refine Kp ?_
            have hqq:=half_break hy (by first|assumption|exact Nat.mod_lt _ (by omega)) hm.2.1 hm.2.2 hbrk
            rw [hqq]
            exact ⟨(),trivial,Kq (by exact ⟨rfl,rfl,rfl,rfl,rfl,rfl,rfl,rfl,rfl,trivial⟩) (by repeat (first|exact Sel.nil _|refine Sel.cons (by repeat (first|exact Ph _|apply Pt_)) ?_))⟩
          ·
            refine KT ?_
            refine ⟨(x.1-1,x.2+y/2^32),⟨hm.2.1,hm.2.2,Nat.lt_of_not_le hbrk⟩,?_,Kq (by exact ⟨rfl,rfl,rfl,rfl,rfl,rfl,rfl,rfl,rfl,rfl,trivial⟩) (by repeat (first|exact Sel.nil _|refine Sel.cons (by repeat (first|exact Ph _|apply Pt_)) ?_))⟩
            show x.1-1<x.1
            have:=hm.1
            omega
        ·
          have hle:x.1*(y%4294967296)≤4294967296*x.2+(lo/2^32):=Nat.le_of_not_lt hgt
          refine Kp ?_
          have hqq:=half_quit (by omega) hq1 hq2 hle
          rw [hqq]
          exact ⟨(),trivial,Kq (by exact ⟨rfl,rfl,rfl,rfl,rfl,rfl,rfl,rfl,rfl,trivial⟩) (by repeat (first|exact Sel.nil _|refine Sel.cons (by repeat (first|exact Ph _|apply Pt_)) ?_))⟩
    ·
      intro _ _
      refine KB (KA ?_)
      refine oM ?_
      refine oP (KF rfl rfl (br_mul64 (b:=4294967296))) ?_
      refine oM ?_
      refine oP (KF rfl rfl (KAM)) ?_
      refine oM ?_
      refine oM ?_
      refine oP (KF rfl rfl (br_mul64)) ?_
      refine oP (KK (KF rfl rfl (br_sub64 (Nat.mod_lt _ (by decide)))) (vi (b:=(hi*4294967296+lo/2^32)%y) (by exact half_rest (by omega) hy2))) ?_
      refine oA ?_
      refine KC ?_
      refine KB ?_
      have hrr:(hi*4294967296+lo/2^32)%y<y:=Nat.mod_lt _ (by omega)
      refine KA ?_
      refine oM ?_
      refine oM ?_
      refine oP (KF rfl rfl (br_quo64 (by omega) (by omega))) ?_
      refine oA ?_
      refine KC ?_
      refine KB (KA ?_)
      refine oM ?_
      refine oM ?_
      refine oM ?_
      refine oP (KF rfl rfl (br_mul64)) ?_
      refine oP (KK (KF rfl rfl (br_sub64 (Nat.mod_lt _ (by decide)))) (vi (b:=((hi*4294967296+lo/2^32)%y)%(y/2^32)) (minus_div (by omega)))) ?_
      refine oA ?_
      refine KC ?_
      refine LCode.cut (α:=Unit) (fun _=>True) (fun _=>⟨[(2,.int .u64 ((y:Nat):Int)),(9,.int .u64 ((y/2^32:Nat):Int)),(10,.int .u64 ((y%4294967296:Nat):Int)),(14,.int .u64 ((lo%4294967296:Nat):Int)),(8,.int .u64 ((0:Nat):Int)),(15,.int .u64 (((hi*4294967296+lo/2^32)/y:Nat):Int)),(17,.int .u64 (((hi*4294967296+lo/2^32)%y:Nat):Int)),(18,.int .u64 ((((hi*4294967296+lo/2^32)%y*4294967296+lo%4294967296)/y:Nat):Int))],[]⟩) ?_ ?_
      ·
        refine LCode.block ?_
        refine Ks (α:=Nat×Nat) (fun x=>x.1*(y/2^32)+x.2 = ((hi*4294967296+lo/2^32)%y)∧(((hi*4294967296+lo/2^32)%y)*4294967296+lo%4294967296)/y≤x.1∧x.2<4294967296) (fun x=>⟨[(2,.int .u64 ((y:Nat):Int)),(9,.int .u64 ((y/2^32:Nat):Int)),(10,.int .u64 ((y%4294967296:Nat):Int)),(14,.int .u64 ((lo%4294967296:Nat):Int)),(8,.int .u64 ((0:Nat):Int)),(15,.int .u64 (((hi*4294967296+lo/2^32)/y:Nat):Int)),(17,.int .u64 (((hi*4294967296+lo/2^32)%y:Nat):Int)),(18,.int .u64 ((x.1:Nat):Int)),(16,.int .u64 ((x.2:Nat):Int))],[]⟩) (fun x=>x.1) ((((hi*4294967296+lo/2^32)%y)/(y/2^32),((hi*4294967296+lo/2^32)%y)%(y/2^32))) (half_init _ _ _ hy hy2 (by first|assumption|exact Nat.mod_lt _ (by omega)) (by omega)) (Kq (by exact ⟨rfl,rfl,rfl,rfl,rfl,rfl,rfl,rfl,rfl,trivial⟩) (by repeat (first|exact Sel.nil _|refine Sel.cons (by repeat (first|exact Ph _|apply Pt_)) ?_))) ?_
        rintro x ⟨hq1,hq2,hq3⟩
        have hql:x.1<18446744073709551616:=by
          have h1:x.1*1≤x.1*(y/2^32):=Nat.mul_le_mul_left _ (by omega)
          have h2:((hi*4294967296+lo/2^32)%y)<y:=by first|assumption|exact Nat.mod_lt _ (by omega)
          generalize x.1*(y/2^32) = z at *
          omega
        refine KB ?_
        refine KB ?_
        rcases Nat.lt_or_ge x.1 4294967296 with hge|hge
        rotate_left
        ·
          refine KA ?_
          refine oM ?_
          refine oP (KF rfl rfl (br_t (br_geq (b:=4294967296)) hge)) ?_
          refine oM ?_
          refine oK ?_
          refine oK ?_
          refine oK ?_
          refine oK ?_
          refine oK ?_
          refine oK ?_
          refine oK ?_
          refine oK ?_
          refine oP (Kn rfl rfl) ?_
          refine KC ?_
          have hcont:4294967296≤x.1∨(x.1<4294967296∧4294967296*x.2+(lo%4294967296)<x.1*(y%4294967296)):=.inl hge
          have hm:=half_more (by omega) (by first|assumption|exact Nat.mod_lt _ (by omega)) (by omega) hq1 hq2 hcont
          refine Kf rfl ?_
          refine KT ?_
          refine LCode.block ?_
          refine KB (KA ?_)
          refine oM ?_
          refine oP (KK (KF rfl rfl (br_sub64 (b:=1) (by omega))) (vi (b:=x.1-1) (by have:=hm.1; have:x.1<18446744073709551616:=hql; omega))) ?_
          refine oA ?_
          refine KC ?_
          refine KB (KA ?_)
          refine oM ?_
          refine oM ?_
          refine oP (KK (KF rfl rfl KAM) (vi (b:=x.2+y/2^32) (by omega))) ?_
          refine oA ?_
          refine KC ?_
          refine KB (KA ?_)
          refine oM ?_
          refine oP (KF rfl rfl (br_geq (b:=4294967296))) ?_
          refine KC ?_
          first|refine KS rfl (fun hbrk=>?_) (fun hbrk=>?_)|refine KU rfl (fun hbrk=>?_) (fun hbrk=>?_)
          ·
            refine Kp ?_
            have hqq:=half_break hy (by first|assumption|exact Nat.mod_lt _ (by omega)) hm.2.1 hm.2.2 hbrk
            rw [hqq]
            exact ⟨(),trivial,Kq (by exact ⟨rfl,rfl,rfl,rfl,rfl,rfl,rfl,rfl,trivial⟩) (by repeat (first|exact Sel.nil _|refine Sel.cons (by repeat (first|exact Ph _|apply Pt_)) ?_))⟩
          ·
            refine KT ?_
            refine ⟨(x.1-1,x.2+y/2^32),⟨hm.2.1,hm.2.2,Nat.lt_of_not_le hbrk⟩,?_,Kq (by exact ⟨rfl,rfl,rfl,rfl,rfl,rfl,rfl,rfl,rfl,trivial⟩) (by repeat (first|exact Sel.nil _|refine Sel.cons (by repeat (first|exact Ph _|apply Pt_)) ?_))⟩
            show x.1-1<x.1
            have:=hm.1
            omega
        ·
          refine KA ?_
          refine oM ?_
          refine oP (KF rfl rfl (br_f (br_geq (b:=4294967296)) (Nat.not_le_of_lt hge))) ?_
          refine oM ?_
          refine oGM ?_
          refine oGM ?_
          refine oGP (KK (KF rfl rfl br_mul64) (vi (b:=x.1*(y%4294967296)) (by exact Nat.mod_eq_of_lt (by have:=Nat.mul_le_mul (show x.1≤4294967295 by omega) (show y%4294967296≤4294967295 by omega); omega)))) ?_
          refine oGM ?_
          refine oGP (KF rfl rfl (br_mul64 (a:=4294967296))) ?_
          refine oGM ?_
          refine oGP (KK (KF rfl rfl KAM) (vi (b:=4294967296*x.2+(lo%4294967296)) (by omega))) ?_
          refine oGP (KF rfl rfl (br_gtr)) ?_
          refine oP (Kh rfl rfl) ?_
          refine KC ?_
          first|refine KS rfl (fun hgt=>?_) (fun hgt=>?_)|refine KU rfl (fun hgt=>?_) (fun hgt=>?_)
          ·
            have hcont:4294967296≤x.1∨(x.1<4294967296∧4294967296*x.2+(lo%4294967296)<x.1*(y%4294967296)):=.inr ⟨by omega,hgt⟩
            have hm:=half_more (by omega) (by first|assumption|exact Nat.mod_lt _ (by omega)) (by omega) hq1 hq2 hcont
            refine KT ?_
            refine LCode.block ?_
            refine KB (KA ?_)
            refine oM ?_
            refine oP (KK (KF rfl rfl (br_sub64 (b:=1) (by omega))) (vi (b:=x.1-1) (by have:=hm.1; have:x.1<18446744073709551616:=hql; omega))) ?_
            refine oA ?_
            refine KC ?_
            refine KB (KA ?_)
            refine oM ?_
            refine oM ?_
            refine oP (KK (KF rfl rfl KAM) (vi (b:=x.2+y/2^32) (by omega))) ?_
            refine oA ?_
            refine KC ?_
            refine KB (KA ?_)
            refine oM ?_
            refine oP (KF rfl rfl (br_geq (b:=4294967296))) ?_
            refine KC ?_
            first|refine KS rfl (fun hbrk=>?_) (fun hbrk=>?_)|refine KU rfl (fun hbrk=>?_) (fun hbrk=>?_)
            ·
              refine Kp ?_
              have hqq:=half_break hy (by first|assumption|exact Nat.mod_lt _ (by omega)) hm.2.1 hm.2.2 hbrk
              rw [hqq]
              exact ⟨(),trivial,Kq (by exact ⟨rfl,rfl,rfl,rfl,rfl,rfl,rfl,rfl,trivial⟩) (by repeat (first|exact Sel.nil _|refine Sel.cons (by repeat (first|exact Ph _|apply Pt_)) ?_))⟩
            ·
              refine KT ?_
              refine ⟨(x.1-1,x.2+y/2^32),⟨hm.2.1,hm.2.2,Nat.lt_of_not_le hbrk⟩,?_,Kq (by exact ⟨rfl,rfl,rfl,rfl,rfl,rfl,rfl,rfl,rfl,trivial⟩) (by repeat (first|exact Sel.nil _|refine Sel.cons (by repeat (first|exact Ph _|apply Pt_)) ?_))⟩
              show x.1-1<x.1
              have:=hm.1
              omega
          ·
            have hle:x.1*(y%4294967296)≤4294967296*x.2+(lo%4294967296):=Nat.le_of_not_lt hgt
            refine Kp ?_
            have hqq:=half_quit (by omega) hq1 hq2 hle
            rw [hqq]
            exact ⟨(),trivial,Kq (by exact ⟨rfl,rfl,rfl,rfl,rfl,rfl,rfl,rfl,trivial⟩) (by repeat (first|exact Sel.nil _|refine Sel.cons (by repeat (first|exact Ph _|apply Pt_)) ?_))⟩
      ·
        intro _ _
        refine KB (KA ?_)
        refine oM ?_
        refine oP (KF rfl rfl (br_mul64 (b:=4294967296))) ?_
        refine oM ?_
        refine oP (KF rfl rfl (KAM)) ?_
        refine oM ?_
        refine oP (KF rfl rfl (br_mul64 (b:=4294967296))) ?_
        refine oM ?_
        refine oP (KF rfl rfl (KAM)) ?_
        refine oM ?_
        refine oM ?_
        refine oP (KF rfl rfl (br_mul64)) ?_
        refine oP (KK (KF rfl rfl (br_sub64 (Nat.mod_lt _ (by decide)))) (vi (b:=(((hi*4294967296+lo/2^32)%y)*4294967296+lo%4294967296)%y) (by exact half_rest (by omega) hy2))) ?_
        refine oM ?_
        refine oP (KK (KF rfl rfl (KAL (b:=0) (Nat.lt_trans (Nat.mod_lt _ (by omega)) hy2))) (vi (b:=(((hi*4294967296+lo/2^32)%y)*4294967296+lo%4294967296)%y) (by rw [Nat.pow_zero,Nat.div_one]))) ?_
        refine oA ?_
        refine oA ?_
        refine KC (KM ?_)
        have hv:=halves (hi:=hi) (lo:=lo) (show 0<y by omega)
        have hq9:(hi*18446744073709551616+lo)/y<18446744073709551616:=by
          rw [Nat.div_lt_iff_lt_mul (by omega),Nat.mul_comm]
          omega
        refine ⟨[_,_],.cons rfl (.cons rfl .nil),fun a w' hr=>⟨?_,hr.fr.below⟩⟩
        rw [← hv.1,← hv.2]
        rw [← hv.1] at hq9
        refine congrArg (fun n:Nat=>Ending.returned (.tuple #[.int .u64 (n:Int),_])) ?_
        exact wrap_sum hq9
end Go.Proofs.Ytlmiolnccgjjjaa
set_option linter.unusedVariables false
set_option linter.unusedSimpArgs false
set_option maxRecDepth 20000
namespace Go.Proofs.Ytlmiolnccgjjjaa
open Go Go.RowKit
theorem nw_ne {A:Nat} (h:nw A≠0):2^(64*(nw A-1))≤A:=by
  have h0:A≠0:=by intro e; subst e; exact h rfl
  refine Nat.le_trans (Nat.pow_le_pow_right (by decide) ?_) (blen_pos h0)
  unfold nw at *; omega
theorem bits_words {A:Nat} (h:nw A≠0):(nw A-1)*64+blen (limb A (nw A-1)) = blen A:=by
  have h1:=nw_ne h
  rw [limb_top (A:=A) (n:=nw A-1) (by rw [show nw A-1+1 = nw A by omega]; exact lt_nw A)]
  have:=blen_shr h1
  omega
theorem mod_nw (A:Nat):A%2^(64*nw A) = A:=Nat.mod_eq_of_lt (lt_nw A)
theorem mod_zero_word (A B:Nat):A%2^(64*0)*B = 0:=by rw [Nat.mul_zero,Nat.pow_zero,Nat.mod_one,Nat.zero_mul]
theorem row_end {X c A B i : Nat} (h : X + c * 2 ^ (64 * (i + nw B)) = A % 2 ^ (64 * i) * B + limb A i * (B % 2 ^ (64 * nw B)) * 2 ^ (64 * i)) (hX : X < 2 ^ (64 * (i + nw B))) :
    setl X (i+nw B) c = A%2^(64*(i+1))*B:=by
  have h0:=limb_high hX (Nat.le_refl _)
  have h1:=setl_eq X (i+nw B) c
  rw [h0,Nat.zero_mul,Nat.add_zero] at h1
  rw [h1,h,mod_nw,mod_succ_limb,Nat.add_mul]
  congr 1
  rw [Nat.mul_assoc,Nat.mul_comm,Nat.mul_assoc,Nat.mul_assoc,Nat.mul_comm B]
  exact Nat.mul_assoc _ _ _
theorem row_zero (A B i:Nat):A%2^(64*i)*B+0*2^(64*(i+0)) = A%2^(64*i)*B+limb A i*(B%2^(64*0))*2^(64*i):=by
  rw [Nat.mul_zero,Nat.pow_zero,Nat.mod_one,Nat.mul_zero,Nat.zero_mul,Nat.zero_mul]
theorem row_lt (A B i:Nat):A%2^(64*i)*B<2^(64*(i+nw B)):=by
  rw [pow64_add]
  exact Nat.mul_lt_mul_of_lt_of_le (Nat.mod_lt _ (pow64_pos i)) (Nat.le_of_lt (lt_nw B)) (pow64_pos _)
theorem bit_of (A i:Nat):(limb A (i/64)/2^(i%64) &&& 1) = A/2^i%2:=by
  rw [Nat.and_one_is_mod]
  have h1:A/2^i = A/2^(64*(i/64))/2^(i%64):=by
    rw [Nat.div_div_eq_div_mul,← Nat.pow_add]; congr 2; omega
  rw [h1]
  unfold limb
  generalize A/2^(64*(i/64)) = q
  have hr:i%64<64:=Nat.mod_lt _ (by decide)
  generalize i%64 = r at *
  have e:(18446744073709551616:Nat) = 2^r*(2*2^(63-r)):=by
    rw [← Nat.pow_succ',← Nat.pow_add,show r+(63-r+1) = 64 by omega]
  rw [e,Nat.mod_mul_right_div_self,Nat.mod_mul_right_mod]
theorem c_nat_Mul (A B:Nat) (hA:A<W9) (hB:B<W9) (w:World)  : Calls Try.prog 156 ([natV A,natV B]:List Value).toArray w (fun e w'=>e = .returned (wideV (A*B))∧Below w.heap.size w w'):=by
  refine Ki (N:=74) (rs:=[.cell 4 202]) [] Try.func156 rfl Try.ntmps156 Try.results156 (Nb rfl) trivial rfl ?_
  show LCode _ _ _ ⟨_,_⟩ _
  refine KB (KA ?_)
  refine oS (mB (fun b2=>?_))
  refine oS (mB (fun b3=>?_))
  refine oS (mk (KX zr_202) (fun b4=>?_))
  refine KC ?_
  refine KB (KA ?_)
  refine oS (mk (KX zr_202) (fun b5=>?_))
  refine KC ?_
  refine KB (KA ?_)
  refine oS (cF rfl en_142 rfl (fun w hw=>c_nat_used _ _ _ w (mC hw) (by omega)) ?_)
  refine oS (cF rfl en_142 rfl (fun w hw=>c_nat_used _ _ _ w (mC hw) (by omega)) ?_)
  refine oA ?_
  refine oA ?_
  refine KC ?_
  refine KB ?_
  refine KB (KA ?_)
  refine oM ?_
  refine oP (KAB (v:=.int .i64 ((0:Nat):Int)) rfl) ?_
  refine KC ?_
  refine LCode.block ?_
  refine Ks (α:=Nat) (fun x=>x≤nw A) (fun x=>⟨[(2,.pointer (some ⟨b2,0,none⟩)),(3,.pointer (some ⟨b3,0,none⟩)),(4,.pointer (some ⟨b4,0,none⟩)),(5,.pointer (some ⟨b5,0,none⟩)),(7,.int .i64 ((nw B:Nat):Int)),(16,.int .i64 ((nw A:Nat):Int)),(17,.int .i64 ((x:Nat):Int))],[.blk b5 ⟨true,wideL (A%2^(64*x)*B),202,(0,0)⟩,.blk b4 ⟨true,vec .u64 18 (fun _=>0),202,(0,0)⟩,.blk b3 ⟨true,natL B,33,(0,0)⟩,.blk b2 ⟨true,natL A,33,(0,0)⟩]⟩) (fun x=>nw A-x) (0) (Nat.zero_le _) (KAO (Sub.cells (b:=b5) (cs':=wideL (A%2^(64*0)*B)) (by repeat (first|exact Sh _|apply St_)) (by rw [mod_zero_word]; exact vec_zeros 18)) (Kq ⟨rfl,rfl,rfl,rfl,rfl,rfl,rfl,trivial⟩ (by repeat (first|exact Sel.nil _|refine Sel.cons (by repeat (first|exact Ph _|apply Pt_)) ?_)))) ?_
  intro i hi
  refine KB ?_
  have hA9:=nw_w9 hA
  have hB9:=nw_w9 hB
  refine KA ?_
  refine oP (KF rfl rfl (KAT)) ?_
  refine KC ?_
  refine KB ?_
  first|refine KS rfl (fun h18=>?_) (fun h18=>?_)|refine KU rfl (fun h18=>?_) (fun h18=>?_)
  ·
    refine KT ?_
    refine KB ?_
    refine LCode.block ?_
    refine KB (KA ?_)
    refine oM ?_
    refine oA ?_
    refine KC ?_
    refine KB (KA ?_)
    refine oP (KZ (v:=.int .u64 ((0:Nat):Int)) rfl) ?_
    refine KC ?_
    refine KB ?_
    refine KB (KA ?_)
    refine oM ?_
    refine oP (KAB (v:=.int .i64 ((0:Nat):Int)) rfl) ?_
    refine KC ?_
    refine LCode.block ?_
    refine Ks (α:=Nat×Nat×Nat) (fun x=>x.1≤nw B∧x.2.2<18446744073709551616∧x.2.1<2^(64*(i+nw B))∧x.2.1+x.2.2*2^(64*(i+x.1)) = A%2^(64*i)*B+limb A i*(B%2^(64*x.1))*2^(64*i)) (fun x=>⟨[(2,.pointer (some ⟨b2,0,none⟩)),(3,.pointer (some ⟨b3,0,none⟩)),(4,.pointer (some ⟨b4,0,none⟩)),(5,.pointer (some ⟨b5,0,none⟩)),(7,.int .i64 ((nw B:Nat):Int)),(8,.int .i64 ((i:Nat):Int)),(9,.int .u64 ((x.2.2:Nat):Int)),(16,.int .i64 ((nw A:Nat):Int)),(17,.int .i64 ((i:Nat):Int)),(20,.int .i64 ((nw B:Nat):Int)),(21,.int .i64 ((x.1:Nat):Int))],[.blk b5 ⟨true,wideL x.2.1,202,(0,0)⟩,.blk b4 ⟨true,vec .u64 18 (fun _=>0),202,(0,0)⟩,.blk b3 ⟨true,natL B,33,(0,0)⟩,.blk b2 ⟨true,natL A,33,(0,0)⟩]⟩) (fun x=>nw B-x.1) ((0,A%2^(64*i)*B,0)) (⟨Nat.zero_le _,show (0:Nat)<18446744073709551616 by decide,row_lt A B i,row_zero A B i⟩) (Kq ⟨rfl,rfl,rfl,rfl,rfl,rfl,rfl,rfl,rfl,rfl,rfl,trivial⟩ (by repeat (first|exact Sel.nil _|refine Sel.cons (by repeat (first|exact Ph _|apply Pt_)) ?_))) ?_
    intro x ⟨hx1,hx2,hx3,hx4⟩
    refine KB (KA ?_)
    refine oP (KF rfl rfl (KAT)) ?_
    refine KC ?_
    refine KB ?_
    first|refine KS rfl (fun h22=>?_) (fun h22=>?_)|refine KU rfl (fun h22=>?_) (fun h22=>?_)
    ·
      refine KT ?_
      refine KB ?_
      refine LCode.block ?_
      refine KB (KA ?_)
      refine oM ?_
      refine oA ?_
      refine KC ?_
      refine KB ?_
      have hla:=limb_lt A i
      have hlb:=limb_lt B x.1
      have hlx:=limb_lt x.2.1 (i+x.1)
      have h18:i<nw A:=h18
      have h22:x.1<nw B:=h22
      refine rD [] ?_
      refine aM 0 ?_
      refine aP 1 rfl (KG (o':=0) Try.underlying33 rfl rfl rfl sz_31 (by decide)) ?_
      refine aP 2 rfl (Kr Try.underlying31 sz_30 rfl rfl (by omega)) ?_
      refine aD 3 rfl (dL rfl (hv:=KL Try.underlying30 rfl (by exact Kd _ (show i<9 by omega)))) ?_
      refine aM 4 ?_
      refine aP 5 rfl (KG (o':=0) Try.underlying33 rfl rfl rfl sz_31 (by decide)) ?_
      refine aP 6 rfl (Kr Try.underlying31 sz_30 rfl rfl (by omega)) ?_
      refine aD 7 rfl (dL rfl (hv:=KL Try.underlying30 rfl (by exact Kd _ (show x.1<9 by omega)))) ?_
      refine aO 8 rfl (cF rfl en_162 rfl (fun w hw=>c_Mul64 _ _ (by omega) (by omega) w) ?_)
      refine aM 9 ?_
      refine aP 10 rfl (KW rfl rfl) ?_
      refine aP 11 rfl (KW rfl rfl) ?_
      refine aA 12 ?_
      refine aA 13 ?_
      refine aE ?_
      refine KB (KA ?_)
      refine oP (KZ (v:=.int .u64 ((0:Nat):Int)) rfl) ?_
      refine KC ?_
      refine KB (KA ?_)
      refine oM ?_
      refine oM ?_
      refine oM ?_
      refine oP (KF rfl rfl (Kv (by omega))) ?_
      refine oP (KG (o':=0) Try.underlying202 rfl rfl rfl sz_200 (by decide)) ?_
      refine oP (Kr Try.underlying200 sz_30 rfl rfl (by omega)) ?_
      refine oD (dL rfl (hv:=KL Try.underlying30 rfl (by exact Kb _ (show i+x.1<18 by omega)))) ?_
      refine oP (Det.add64 (c:=0) ex_155 rfl rfl rfl (by omega)) ?_
      refine oM ?_
      refine oP (KW rfl rfl) ?_
      refine oP (KW rfl rfl) ?_
      refine oA ?_
      refine oA ?_
      refine KC ?_
      refine KB (KA ?_)
      refine oM ?_
      refine oM ?_
      refine oP (KF rfl rfl (KAM)) ?_
      refine oA ?_
      refine KC ?_
      refine KB (KA ?_)
      refine oM ?_
      refine oM ?_
      refine oP (Det.add64 (c:=0) ex_155 rfl rfl rfl (by omega)) ?_
      refine oM ?_
      refine oP (KW rfl rfl) ?_
      refine oP (KW rfl rfl) ?_
      refine oA ?_
      refine oA ?_
      refine KC ?_
      refine KA ?_
      refine oM ?_
      refine oM ?_
      refine oP (KF rfl rfl (Kv (by omega))) ?_
      refine oM ?_
      refine oM ?_
      refine oM ?_
      refine oP (KF rfl rfl (KAM)) ?_
      refine oP (KG (o':=0) Try.underlying202 rfl rfl rfl sz_200 (by decide)) ?_
      refine oP (Kr Try.underlying200 sz_30 rfl rfl (by omega)) ?_
      refine KV rfl (Kj rfl rfl rfl sz_30 (by repeat (first|exact Sh _|apply St_)) (by first|(simp only [KH,KD,KE,Kt]; omega)|(simp; done)|(simp; omega)) (by first|exact KAH _ _ _ _ _|exact KAJ _ _ _ _ (by omega)|exact KAI _ _ _ _|rfl) (by simp) ?_)
      refine oA ?_
      refine KC ?_
      refine KA ?_
      refine oP (KF rfl rfl (Kv (b:=1) (by omega))) ?_
      refine oM ?_
      refine KC ?_
      have hw:=row_word (limb_lt A i) (limb_lt B x.1) (limb_lt x.2.1 (i+x.1)) hx2
      have hp:=row_parts (limb_lt x.2.1 (i+x.1)) hx2 hw
      refine ⟨(x.1+1,setl x.2.1 (i+x.1) ((limb A i*limb B x.1+limb x.2.1 (i+x.1)+x.2.2)%18446744073709551616),(limb A i*limb B x.1+limb x.2.1 (i+x.1)+x.2.2)/18446744073709551616),⟨by omega,by dsimp only; omega,setl_lt hx3 (by omega) (Nat.mod_lt _ (by decide)),row_step hx4 rfl rfl⟩,by dsimp only; omega,
        KAO (Sub.cells (b:=b5) (cs':=wideL (setl x.2.1 (i+x.1) ((limb A i*limb B x.1+limb x.2.1 (i+x.1)+x.2.2)%18446744073709551616))) (by repeat (first|exact Sh _|apply St_)) ?_) (Kq ⟨rfl,rfl,rfl,rfl,rfl,rfl,congrArg some (vi hp.2),rfl,rfl,rfl,rfl,trivial⟩ (by repeat (first|exact Sel.nil _|refine Sel.cons (by repeat (first|exact Ph _|apply Pt_)) ?_)))⟩
      rw [hp.1]
      exact vec_setl (Nat.mod_lt _ (by decide))
    ·
      refine Kp ?_
      have h18:i<nw A:=h18
      refine KA ?_
      refine oM ?_
      refine oM ?_
      refine oP (KF rfl rfl (Kv (by omega))) ?_
      refine oM ?_
      refine oP (KG (o':=0) Try.underlying202 rfl rfl rfl sz_200 (by decide)) ?_
      refine oP (Kr Try.underlying200 sz_30 rfl rfl (by omega)) ?_
      refine KV rfl (Kj rfl rfl rfl sz_30 (by repeat (first|exact Sh _|apply St_)) (by first|(simp only [KH,KD,KE,Kt]; omega)|(simp; done)|(simp; omega)) (by first|exact KAH _ _ _ _ _|exact KAJ _ _ _ _ (by omega)|exact KAI _ _ _ _|rfl) (by simp) ?_)
      refine KC ?_
      refine KA ?_
      refine oP (KF rfl rfl (Kv (b:=1) (by omega))) ?_
      refine oM ?_
      refine KC ?_
      refine ⟨i+1,by omega,by omega,KAO (Sub.cells (b:=b5) (cs':=wideL (A%2^(64*(i+1))*B)) (by repeat (first|exact Sh _|apply St_)) ?_) (Kq ⟨rfl,rfl,rfl,rfl,rfl,rfl,rfl,trivial⟩ (by repeat (first|exact Sel.nil _|refine Sel.cons (by repeat (first|exact Ph _|apply Pt_)) ?_)))⟩
      have hk:x.1 = nw B:=by omega
      rw [hk] at hx4
      rw [← row_end hx4 hx3]
      exact vec_setl hx2
  ·
    refine Kp ?_
    refine KB (KA ?_)
    refine oD (dL rfl (hv:=by exact KI Try.underlying202 rfl sz_202)) ?_
    refine KV rfl (sA rfl rfl sz_202 (by repeat (first|exact Ka _|exact Kl _ _ _|exact Kc _|exact Kg _ _ _|exact Km _ _ _|exact KO|refine KJ rfl ?_|refine KP ?_ ?_)) (hl:=by first|exact KD _|exact KH _ _ _|exact KE _|exact KN _ _ _|exact KY _ _ _|rfl|simp [KH,KD,KE]) (h:=?_))
    refine KC (KM ?_)
    have hi9:i = nw A:=by omega
    subst hi9
    refine ⟨[_],.cons ⟨_,_,_,rfl,(by repeat (first|exact Mh _|apply Mt)),by exact KI Try.underlying202 rfl sz_202⟩ .nil,fun a w' hr=>⟨?_,hr.fr.below⟩⟩
    rw [mod_nw]
    rfl
theorem c_nat_Bits (A:Nat) (hA:A<W9) (w:World)  : Calls Try.prog 117 ([natV A]:List Value).toArray w (fun e w'=>e = .returned (.int .i64 ((blen A:Nat):Int))∧Below w.heap.size w w'):=by
  refine Ki (N:=17) (rs:=[.tmp 2]) [] Try.func117 rfl Try.ntmps117 Try.results117 (Nb rfl) trivial rfl ?_
  show LCode _ _ _ ⟨_,_⟩ _
  refine KB (KA ?_)
  refine oS (mB (fun b1=>?_))
  refine oP (KZ (v:=.int .i64 ((0:Nat):Int)) rfl) ?_
  refine KC ?_
  refine KB (KA ?_)
  refine oS (cF rfl en_142 rfl (fun w hw=>c_nat_used _ _ _ w (mC hw) (by omega)) ?_)
  refine oA ?_
  refine KC ?_
  refine KB ?_
  refine KB (KA ?_)
  refine oM ?_
  refine oP (KF rfl rfl (br_eql (b:=0))) ?_
  refine KC ?_
  first|refine KS rfl (fun h6=>?_) (fun h6=>?_)|refine KU rfl (fun h6=>?_) (fun h6=>?_)
  ·
    refine KB (KA ?_)
    refine oP (KZ (v:=.int .i64 ((0:Nat):Int)) rfl) ?_
    refine KC (KM ?_)
    have hz:blen A = 0:=by
      unfold nw at h6
      omega
    refine ⟨[_],.cons rfl .nil,fun a w' hr=>⟨?_,hr.fr.below⟩⟩
    rw [hz]
    rfl
  ·
    have hA9:=nw_w9 hA
    have hbl:blen (limb A (nw A-1))≤64:=blen_le (limb_lt _ _)
    have hll:=limb_lt A (nw A-1)
    refine KT ?_
    refine KB (KA ?_)
    refine oM ?_
    refine oP (KF rfl rfl (br_sub (b:=1) (by omega) (by omega))) ?_
    refine oP (KF rfl rfl (br_mul (b:=64) (by omega))) ?_
    refine oM ?_
    refine oP (KF rfl rfl (br_sub (b:=1) (by omega) (by omega))) ?_
    refine oP (KG (o':=0) Try.underlying33 rfl rfl rfl sz_31 (by decide)) ?_
    refine oP (Kr Try.underlying31 sz_30 rfl rfl (by omega)) ?_
    refine oD (dL rfl (hv:=KL Try.underlying30 rfl (by exact Kd _ (show nw A-1<9 by omega)))) ?_
    refine oS (cF rfl en_143 rfl (fun w hw=>c_Len64 _ (by omega) w) ?_)
    refine oP (KF rfl rfl (Kv (by omega))) ?_
    refine oA ?_
    refine KC (KM ?_)
    refine ⟨[_],.cons rfl .nil,fun a w' hr=>⟨?_,hr.fr.below⟩⟩
    rw [← bits_words h6]
    rfl
theorem c_nat_Small (x:Nat) (hx:x<9223372036854775808) (w:World)  : Calls Try.prog 116 ([.int .i64 ((x:Nat):Int)]:List Value).toArray w (fun e w'=>e = .returned (natV x)∧Below w.heap.size w w'):=by
  refine Ki (N:=8) (rs:=[.cell 2 33]) [] Try.func116 rfl Try.ntmps116 Try.results116 (Nb rfl) trivial rfl ?_
  show LCode _ _ _ ⟨_,_⟩ _
  refine KB (KA ?_)
  refine oS (mk (KX zr_33) (fun b2=>?_))
  refine KC ?_
  refine KB (KA ?_)
  refine oM ?_
  refine oP (Det.max0 rfl rfl) ?_
  refine oP (KAE Try.underlying3 Try.underlying30 rfl (by first|omega|exact Nat.lt_trans (D.limb_lt _ _) (by decide))) ?_
  refine oP (Ky pl_31 zr_31 rfl (by exact fill_small (by omega))) ?_
  refine oP (Ky pl_33 zr_33 rfl (by exact fillL_whole (KH _ _ _) (KD _))) ?_
  refine KV rfl (sA rfl rfl sz_33 (by repeat (first|exact Ka _|exact Kl _ _ _|exact Kc _|exact Kg _ _ _|exact Km _ _ _|exact KO|refine KJ rfl ?_|refine KP ?_ ?_)) (hl:=by first|exact KD _|exact KH _ _ _|exact KE _|exact KN _ _ _|exact KY _ _ _|rfl|simp [KH,KD,KE]) (h:=?_))
  refine KC (KM ?_)
  refine ⟨[_],.cons ⟨_,_,_,rfl,(by repeat (first|exact Mh _|apply Mt)),by exact KI Try.underlying33 rfl sz_33⟩ .nil,fun a w' hr=>⟨?_,hr.fr.below⟩⟩
  rfl
end Go.Proofs.Ytlmiolnccgjjjaa
set_option linter.unusedVariables false
set_option linter.unusedSimpArgs false
set_option maxRecDepth 20000
namespace Go.Proofs.Ytlmiolnccgjjjaa
open Go Go.RowKit
theorem drop_step {l:List UInt8} {x:Nat} (h:x<l.length):l.drop (l.length-(x+1)) = l.getD (l.length-1-x) 0 :: l.drop (l.length-x):=by
  rw [show l.length-x = l.length-(x+1)+1 by omega,List.drop_eq_getElem_cons (by omega)]
  congr 1
  rw [List.getD_eq_getElem?_getD,List.getElem?_eq_getElem (by omega)]
  simp only [Option.getD_some]
  congr 1
  omega
theorem size_list (s:ByteArray):s.data.toList.length = s.size:=rfl
end Go.Proofs.Ytlmiolnccgjjjaa
set_option linter.unusedVariables false
set_option linter.unusedSimpArgs false
set_option maxRecDepth 20000
namespace Go.Proofs.Ytlmiolnccgjjjaa
open Go Go.RowKit
theorem c_length (A b l c:Nat) (ty:TypeId) (wr:Bool) (w:World) (hb:(Item.blk b ⟨wr,vec .u64 c (limb A),ty,(0,0)⟩).holds w) (hlc:l≤c) (hc:c<9223372036854775808) (hA:A<2^(64*l)):Calls Try.prog 158 ([.slice (some ⟨b,0,none⟩) l c]:List Value).toArray w (fun e w'=>e = .returned (.int .i64 ((nw A:Nat):Int))∧Below w.heap.size w w'):=by
  refine Ki (N:=19) (rs:=[.tmp 2]) [.blk b ⟨false,vec .u64 c (limb A),ty,(0,0)⟩] Try.func158 rfl Try.ntmps158 Try.results158 (Nb rfl) ⟨hb,trivial⟩ rfl ?_
  show LCode _ _ _ ⟨_,_⟩ _
  refine KB (KA ?_)
  refine oP (KZ (v:=.int .i64 ((0:Nat):Int)) rfl) ?_
  refine KC ?_
  refine KB (KA ?_)
  refine oM ?_
  refine oP (KAC Try.underlying206 rfl) ?_
  refine oA ?_
  refine KC ?_
  refine KB ?_
  refine LCode.block ?_
  refine Ks (α:=Nat) (fun x=>x≤l∧A<2^(64*x)) (fun x=>⟨[(0,.slice (some ⟨b,0,none⟩) l c),(3,.int .i64 ((x:Nat):Int))],[.blk b ⟨false,vec .u64 c (limb A),ty,(0,0)⟩]⟩) (fun x=>x) (l) (⟨Nat.le_refl _,hA⟩) (Kq ⟨rfl,rfl,trivial⟩ (by repeat (first|exact Sel.nil _|refine Sel.cons (by repeat (first|exact Ph _|apply Pt_)) ?_))) ?_
  rintro x ⟨hx,hlt⟩
  refine KB ?_
  refine KB ?_
  by_cases h0:0<x
  ·
    refine KA ?_
    refine oM ?_
    refine oP (KF rfl rfl (br_t (br_gtr (b:=0)) h0)) ?_
    refine oM ?_
    refine oGM ?_
    refine oGM ?_
    refine oGP (KF rfl rfl (br_sub (b:=1) (by omega) (by omega))) ?_
    refine oGP (Ko Try.underlying206 sz_30 rfl rfl (by omega)) ?_
    refine KAQ rfl rfl (dL rfl (hv:=KL Try.underlying30 rfl (by exact Ke _ _ _ (show x-1<c by omega)))) (Nb rfl) ?_
    refine oGP (KF rfl rfl (br_eql (b:=0))) ?_
    refine oP (Kn rfl rfl) ?_
    refine KC ?_
    first|refine KS rfl (fun h15=>?_) (fun h15=>?_)|refine KU rfl (fun h15=>?_) (fun h15=>?_)
    ·
      have h15:limb A (x-1) = 0:=by have:=h15; simpa using this
      refine KT ?_
      refine LCode.block ?_
      refine KA ?_
      refine oM ?_
      refine oP (KF rfl rfl (br_sub (b:=1) (by omega) (by omega))) ?_
      refine oA ?_
      refine KC ?_
      refine ⟨x-1,⟨by omega,?_⟩,by omega,Kq ⟨rfl,rfl,trivial⟩ (by repeat (first|exact Sel.nil _|refine Sel.cons (by repeat (first|exact Ph _|apply Pt_)) ?_))⟩
      exact lt_of_limb_zero (A:=A) (n:=x-1) (by rw [show x-1+1 = x by omega]; exact hlt) h15
    ·
      have h15:¬ limb A (x-1) = 0:=by have:=h15; simpa using this
      refine Kp ?_
      refine KB (KA ?_)
      refine oM ?_
      refine oA ?_
      refine KC (KM ?_)
      have he:nw A = x:=nw_eq hlt (.inr (le_of_limb (A:=A) (n:=x-1) (by rw [show x-1+1 = x by omega]; exact hlt) h15))
      refine ⟨[_],.cons rfl .nil,fun a w' hr=>⟨?_,hr.fr.below⟩⟩
      rw [he]; rfl
  ·
    refine KA ?_
    refine oM ?_
    refine oP (KF rfl rfl (br_f (br_gtr (b:=0)) h0)) ?_
    refine oM ?_
    refine oK ?_
    refine oK ?_
    refine oK ?_
    refine oK ?_
    refine oK ?_
    refine oK ?_
    refine oP (Kh rfl rfl) ?_
    refine KC ?_
    refine KR rfl ?_
    refine Kp ?_
    refine KB (KA ?_)
    refine oM ?_
    refine oA ?_
    refine KC (KM ?_)
    have he:nw A = x:=nw_eq hlt (.inl (by omega))
    refine ⟨[_],.cons rfl .nil,fun a w' hr=>⟨?_,hr.fr.below⟩⟩
    rw [he]; rfl
def dvL (m:Nat):List Value:=dv (limb (dnm m)) (nw m) (dsh m)
theorem Brings.blk1 {w w':World} {H:List Item} {b:Nat} {B:Blk} (hb:Below w.heap.size w w') (hn:w.heap.size≤b) (hh:(Item.blk b B).holds w'):Brings w H [.blk b B] w' :=
  ⟨hb,fun x hx=>by simp at hx; subst hx; exact hh,fun x hx k hk=>by simp at hx; subst hx; simp [Item.fp] at hk; subst hk; exact .inl hn,
    fun x hx _ k hk=>by simp at hx; subst hx; simp [Item.fp] at hk; subst hk; exact hn,List.pairwise_singleton _ _⟩
theorem of_word {m x:Nat} (h0:0<dsh m) (hm:m≠0) (hx:0<x):(limb m x*2^dsh m%18446744073709551616 ||| limb m (x-1)/2^(64-dsh m)) = limb (dnm m) x:=by
  unfold dnm
  rw [limb_shl m (dsh m) x (dsh_lt hm) h0,if_neg (by omega),or_low (limb_lt _ _) h0 (dsh_lt hm)]
theorem of_word0 {m x:Nat} (hm:m≠0) (h:x = 0∨dsh m = 0):limb m x*2^dsh m%18446744073709551616 = limb (dnm m) x:=by
  rcases Nat.eq_zero_or_pos (dsh m) with h0|h0
  · unfold dnm
    rw [h0,Nat.pow_zero,Nat.mul_one,Nat.mul_one,Nat.mod_eq_of_lt (limb_lt _ _)]
  · unfold dnm
    rw [limb_shl m (dsh m) x (dsh_lt hm) h0,if_pos (by omega),Nat.add_zero]
theorem lz_top {m:Nat} (hm:m≠0):64-blen (limb m (nw m-1)) = dsh m:=by
  have h:=bits_words (A:=m) (by have:=nw_pos hm; omega)
  have:=blen_le (n:=64) (limb_lt m (nw m-1))
  have:=nw_pos hm
  unfold dsh; omega
theorem c_of (m bm:Nat) (wr:Bool) (hm0:m≠0) (w:World) (hb:(Item.blk bm ⟨wr,natL m,33,(0,0)⟩).holds w) (hm:m<W9):Calls Try.prog 154 ([.pointer (some ⟨bm,0,none⟩)]:List Value).toArray w (fun e w'=>∃ b,e = .returned (.pointer (some ⟨b,0,none⟩))∧w.heap.size≤b∧(Item.blk b ⟨false,dvL m,212,(0,0)⟩).holds w'∧Below w.heap.size w w'):=by
  refine Ki (N:=86) (rs:=[.tmp 2]) [.blk bm ⟨false,natL m,33,(0,0)⟩] Try.func154 rfl Try.ntmps154 Try.results154 (Nb rfl) ⟨hb,trivial⟩ rfl ?_
  show LCode _ _ _ ⟨_,_⟩ _
  refine KB (KA ?_)
  refine oA ?_
  refine KC ?_
  refine KB ?_
  refine rD [] ?_
  refine aM 0 ?_
  refine aP 1 rfl (KQ rfl) ?_
  refine aP 2 rfl (KG (o':=0) Try.underlying33 rfl rfl rfl sz_31 (by decide)) ?_
  refine aD 3 rfl (dL rfl (hv:=by exact KI Try.underlying31 rfl sz_31)) ?_
  refine aM 4 ?_
  refine aP 5 rfl (KQ rfl) ?_
  refine aP 6 rfl (KG (o':=0) Try.underlying33 rfl rfl rfl sz_31 (by decide)) ?_
  refine aP 7 rfl (Det.slArr Try.underlying31 sz_30 rfl) ?_
  refine aO 8 rfl (cF rfl en_158 rfl (fun w hw=>c_length m bm 9 9 _ false w (mC hw) (Nat.le_refl _) (by decide) (lt_w9_pow hm 9 rfl)) ?_)
  refine aP 9 rfl (Ky pl_212 zr_212 rfl (show fillL _ _ _ = some (dv (limb m) (nw m) 0) from (KAR (A:=[]) (B:=vec .u64 9 (fun _=>0)) (D:=[.int .i64 ((0:Nat):Int),.int .i64 ((0:Nat):Int)]) (cs:=natL m) rfl rfl (KD _) rfl rfl (KH _ _ _) ((KAR (A:=natL m) (B:=[.int .i64 ((0:Nat):Int)]) (D:=[.int .i64 ((0:Nat):Int)]) (cs:=[.int .i64 ((nw m:Nat):Int)]) rfl rfl rfl rfl (KD _) rfl rfl).trans rfl)))) ?_
  refine aO 10 rfl (mB (fun b15=>?_))
  refine aA 11 ?_
  refine aE ?_
  refine KB ?_
  have hn0:=nw_pos hm0
  have hn9:=nw_w9 hm
  have hs64:=dsh_lt hm0
  refine rD [14] ?_
  refine aM 0 ?_
  refine aM 1 ?_
  refine aM 2 ?_
  refine aP 3 rfl (KQ rfl) ?_
  refine aP 4 rfl (KG (o':=9) Try.underlying212 rfl rfl rfl sz_3 (by decide)) ?_
  refine aD 5 rfl (dL rfl (hv:=KL Try.underlying3 rfl (by first|rfl|exact Ke _ _ _ (by omega)|exact Kd _ (by omega)|exact Kb _ (by omega)|exact dv_m _ _ _ (by omega)))) ?_
  refine aP 6 rfl (KF rfl rfl (br_sub (b:=1) (by omega) (by omega))) ?_
  refine aP 7 rfl (KQ rfl) ?_
  refine aP 8 rfl (KG (o':=0) Try.underlying212 rfl rfl rfl sz_31 (by decide)) ?_
  refine aP 9 rfl (Kr Try.underlying31 sz_30 rfl rfl (by omega)) ?_
  refine aD 10 rfl (dL rfl (hv:=KL Try.underlying30 rfl (by exact dv_m _ _ _ (show nw m-1<9 by omega)))) ?_
  refine aO 11 rfl (cF rfl en_161 rfl (fun w hw=>c_LeadingZeros64 _ (limb_lt _ _) w) ?_)
  refine aP 12 rfl (KQ rfl) ?_
  refine aP 13 rfl (KG (o':=10) Try.underlying212 rfl rfl rfl sz_3 (by decide)) ?_
  refine aL 14 rfl (Kj rfl rfl rfl sz_3 (by repeat (first|exact Sh _|apply St_)) (by simp only [Kt]; omega) (show (dv (limb m) (nw m) 0).set 10 _ = dv (limb m) (nw m) (dsh m) by rw [← lz_top hm0]; exact KAI _ _ _ _) (by simp) ?_)
  refine aE ?_
  refine KB ?_
  refine KB (KA ?_)
  refine oM ?_
  refine oP (KQ rfl) ?_
  refine oP (KG (o':=9) Try.underlying212 rfl rfl rfl sz_3 (by decide)) ?_
  refine oD (dL rfl (hv:=KL Try.underlying3 rfl (by first|rfl|exact Ke _ _ _ (by omega)|exact Kd _ (by omega)|exact Kb _ (by omega)|exact dv_m _ _ _ (by omega)))) ?_
  refine oP (KF rfl rfl (br_sub (b:=1) (by omega) (by omega))) ?_
  refine oA ?_
  refine KC ?_
  refine LCode.block ?_
  refine Ks (α:=Nat) (fun x=>x≤nw m) (fun x=>⟨[(3,.pointer (some ⟨b15,0,none⟩)),(4,.int .i64 ((x:Int)-1))],[.blk b15 ⟨true,dv (fun j=>if x≤j then limb (dnm m) j else limb m j) (nw m) (dsh m),212,(0,0)⟩]⟩) (fun x=>x) (nw m) (Nat.le_refl _) (KAO (Sub.cells (b:=b15) (cs':=dv (fun j=>if nw m≤j then limb (dnm m) j else limb m j) (nw m) (dsh m)) (by repeat (first|exact Sh _|apply St_)) (dv_congr fun j _=>by
    by_cases e:nw m≤j
    · rw [if_pos e,limb_high (lt_nw m) e,limb_high (dnm_lt m) e]
    · rw [if_neg e])) (Kq ⟨rfl,congrArg (fun i:Int=>some (Value.int .i64 i)) (by omega),trivial⟩ (by repeat (first|exact Sel.nil _|refine Sel.cons (by repeat (first|exact Ph _|apply Pt_)) ?_)))) ?_
  intro x hx
  refine KB ?_
  refine KB ?_
  rcases Nat.eq_zero_or_pos x with h0|h0
  ·
    refine KA ?_
    refine oM ?_
    refine oP (KF (v:=.bool false) rfl rfl (by subst h0; rfl)) ?_
    refine KC ?_
    refine KR rfl ?_
    refine Kp ?_
    refine KB (KA ?_)
    refine oM ?_
    refine oA ?_
    refine KC (KM ?_)
    have e0:(dv (fun j=>if 0≤j then limb (dnm m) j else limb m j) (nw m) (dsh m)) = dvL m:=dv_congr fun j _=>if_pos (Nat.zero_le _)
    refine ⟨[_],.cons rfl .nil,fun a w' hr=>⟨b15,rfl,hr.new (by repeat (first|exact Mh _|apply Mt)) rfl,?_,hr.fr.below⟩⟩
    have:=hr.hp _ (by repeat (first|exact Mh _|apply Mt))
    rw [← e0]
    subst h0
    exact this
  ·
    obtain ⟨y,rfl⟩:∃ y,x = y+1:=⟨x-1,by omega⟩
    refine KA ?_
    refine oM ?_
    refine oP (KF (v:=.bool true) rfl rfl (by simp [Kw])) ?_
    refine KC ?_
    refine Kf rfl ?_
    refine KT ?_
    refine KB ?_
    refine LCode.block ?_
    refine KB ?_
    refine rD [14] ?_
    refine aM 0 ?_
    refine aP 1 rfl (KAB (v:=.int .i64 ((y:Nat):Int)) (by show some _ = some _; congr 2; omega)) ?_
    refine aP 2 rfl (KQ rfl) ?_
    refine aP 3 rfl (KG (o':=0) Try.underlying212 rfl rfl rfl sz_31 (by decide)) ?_
    refine aP 4 rfl (Kr Try.underlying31 sz_30 rfl rfl (by omega)) ?_
    refine aD 5 rfl (dL rfl (hv:=KL Try.underlying30 rfl (by exact (dv_m _ _ _ (show y<9 by omega)).trans (congrArg some (vi (b:=limb m y) (if_neg (by omega))))))) ?_
    refine aM 6 ?_
    refine aP 7 rfl (KQ rfl) ?_
    refine aP 8 rfl (KG (o':=10) Try.underlying212 rfl rfl rfl sz_3 (by decide)) ?_
    refine aD 9 rfl (dL rfl (hv:=KL Try.underlying3 rfl (by first|rfl|exact Ke _ _ _ (by omega)|exact Kd _ (by omega)|exact Kb _ (by omega)|exact dv_m _ _ _ (by omega)))) ?_
    refine aP 10 rfl (KF rfl rfl (br_shl64)) ?_
    refine aP 11 rfl (KQ rfl) ?_
    refine aP 12 rfl (KG (o':=0) Try.underlying212 rfl rfl rfl sz_31 (by decide)) ?_
    refine aP 13 rfl (Kr Try.underlying31 sz_30 rfl rfl (by omega)) ?_
    refine aL 14 rfl (Kj rfl rfl rfl sz_30 (by repeat (first|exact Sh _|apply St_)) (by first|(simp only [KH,KD,KE,Kt]; omega)|(simp; done)|(simp; omega)) (by first|exact KAH _ _ _ _ _|exact KAJ _ _ _ _ (by omega)|exact KAI _ _ _ _|rfl) (by simp) ?_)
    refine aE ?_
    refine KB ?_
    rcases Nat.eq_zero_or_pos y with hy0|hy0
    rotate_left
    rcases Nat.eq_zero_or_pos (dsh m) with hs0|hs0
    ·
      refine KA ?_
      refine oP (KAB (v:=.int .i64 ((y:Nat):Int)) (by show some _ = some _; congr 2; omega)) ?_
      refine oP (KF rfl rfl (br_t (br_gtr (b:=0)) hy0)) ?_
      refine oM ?_
      refine oGM ?_
      refine oGP (KQ rfl) ?_
      refine oGP (KG (o':=10) Try.underlying212 rfl rfl rfl sz_3 (by decide)) ?_
      refine KAQ rfl rfl (dL rfl (hv:=KL Try.underlying3 rfl (by first|rfl|exact Ke _ _ _ (by omega)|exact Kd _ (by omega)|exact Kb _ (by omega)|exact dv_m _ _ _ (by omega)))) (Nb rfl) ?_
      refine oGP (KF rfl rfl (br_f (br_gtr (b:=0)) (by omega))) ?_
      refine oP (Kn rfl rfl) ?_
      refine KC ?_
      refine KR rfl ?_
      refine KT ?_
      refine KA ?_
      refine oP (KAB (v:=.int .i64 ((y:Nat):Int)) (by show some _ = some _; congr 2; omega)) ?_
      refine oP (KF rfl rfl rfl) ?_
      refine oA ?_
      refine KC ?_
      refine ⟨y,by omega,by omega,KAO (Sub.cells (b:=b15) (cs':=dv (fun j=>if y≤j then limb (dnm m) j else limb m j) (nw m) (dsh m)) (by repeat (first|exact Sh _|apply St_)) (dv_congr fun j hj=>?_)) (Kq ⟨rfl,?_,trivial⟩ (by repeat (first|exact Sel.nil _|refine Sel.cons (by repeat (first|exact Ph _|apply Pt_)) ?_)))⟩
      · by_cases e:j = y
        · subst e
          rw [if_pos rfl,if_pos (Nat.le_refl _)]
          exact of_word0 hm0 (.inr hs0)
        · simp only [e,if_false]
          by_cases e2:y+1≤j
          · rw [if_pos e2,if_pos (by omega)]
          · rw [if_neg e2,if_neg (by omega)]
      · exact congrArg (fun i:Int=>some (Value.int .i64 i)) (wrap_i64 (by omega) (by omega))
    ·
      refine KA ?_
      refine oP (KAB (v:=.int .i64 ((y:Nat):Int)) (by show some _ = some _; congr 2; omega)) ?_
      refine oP (KF rfl rfl (br_t (br_gtr (b:=0)) hy0)) ?_
      refine oM ?_
      refine oGM ?_
      refine oGP (KQ rfl) ?_
      refine oGP (KG (o':=10) Try.underlying212 rfl rfl rfl sz_3 (by decide)) ?_
      refine KAQ rfl rfl (dL rfl (hv:=KL Try.underlying3 rfl (by first|rfl|exact Ke _ _ _ (by omega)|exact Kd _ (by omega)|exact Kb _ (by omega)|exact dv_m _ _ _ (by omega)))) (Nb rfl) ?_
      refine oGP (KF rfl rfl (br_t (br_gtr (b:=0)) hs0)) ?_
      refine oP (Kn rfl rfl) ?_
      refine KC ?_
      refine Kf rfl ?_
      refine rD [23] ?_
      refine aM 0 ?_
      refine aP 1 rfl (KAB (v:=.int .i64 ((y:Nat):Int)) (by show some _ = some _; congr 2; omega)) ?_
      refine aP 2 rfl (KQ rfl) ?_
      refine aP 3 rfl (KG (o':=0) Try.underlying212 rfl rfl rfl sz_31 (by decide)) ?_
      refine aP 4 rfl (Kr Try.underlying31 sz_30 rfl rfl (by omega)) ?_
      refine aD 5 rfl (dL rfl (hv:=KL Try.underlying30 rfl (by exact (dv_m _ _ _ (show y<9 by omega)).trans (congrArg some (vi (b:=limb m y*2^dsh m%18446744073709551616) (if_pos rfl)))))) ?_
      refine aM 6 ?_
      refine aP 7 rfl (KAB (v:=.int .i64 ((y:Nat):Int)) (by show some _ = some _; congr 2; omega)) ?_
      refine aP 8 rfl (KF rfl rfl (br_sub (b:=1) (by omega) (by omega))) ?_
      refine aP 9 rfl (KQ rfl) ?_
      refine aP 10 rfl (KG (o':=0) Try.underlying212 rfl rfl rfl sz_31 (by decide)) ?_
      refine aP 11 rfl (Kr Try.underlying31 sz_30 rfl rfl (by omega)) ?_
      refine aD 12 rfl (dL rfl (hv:=KL Try.underlying30 rfl (by exact (dv_m _ _ _ (show y-1<9 by omega)).trans (congrArg some (vi (b:=limb m (y-1)) (by rw [if_neg (by omega),if_neg (by omega)])))))) ?_
      refine aM 13 ?_
      refine aP 14 rfl (KQ rfl) ?_
      refine aP 15 rfl (KG (o':=10) Try.underlying212 rfl rfl rfl sz_3 (by decide)) ?_
      refine aD 16 rfl (dL rfl (hv:=KL Try.underlying3 rfl (by first|rfl|exact Ke _ _ _ (by omega)|exact Kd _ (by omega)|exact Kb _ (by omega)|exact dv_m _ _ _ (by omega)))) ?_
      refine aP 17 rfl (KF rfl rfl (br_sub (a:=64) (by omega) (by omega))) ?_
      refine aP 18 rfl (KF rfl rfl (KAL (limb_lt _ _))) ?_
      refine aP 19 rfl (KF rfl rfl (br_or64 (Nat.mod_lt _ (by decide)) (Nat.lt_of_le_of_lt (Nat.div_le_self _ _) (limb_lt _ _)))) ?_
      refine aP 20 rfl (KQ rfl) ?_
      refine aP 21 rfl (KG (o':=0) Try.underlying212 rfl rfl rfl sz_31 (by decide)) ?_
      refine aP 22 rfl (Kr Try.underlying31 sz_30 rfl rfl (by omega)) ?_
      refine aL 23 rfl (Kj rfl rfl rfl sz_30 (by repeat (first|exact Sh _|apply St_)) (by first|(simp only [KH,KD,KE,Kt]; omega)|(simp; done)|(simp; omega)) (by first|exact KAH _ _ _ _ _|exact KAJ _ _ _ _ (by omega)|exact KAI _ _ _ _|rfl) (by simp) ?_)
      refine aE ?_
      refine KA ?_
      refine oP (KAB (v:=.int .i64 ((y:Nat):Int)) (by show some _ = some _; congr 2; omega)) ?_
      refine oP (KF rfl rfl rfl) ?_
      refine oA ?_
      refine KC ?_
      refine ⟨y,by omega,by omega,KAO (Sub.cells (b:=b15) (cs':=dv (fun j=>if y≤j then limb (dnm m) j else limb m j) (nw m) (dsh m)) (by repeat (first|exact Sh _|apply St_)) (dv_congr fun j hj=>?_)) (Kq ⟨rfl,?_,trivial⟩ (by repeat (first|exact Sel.nil _|refine Sel.cons (by repeat (first|exact Ph _|apply Pt_)) ?_)))⟩
      · by_cases e:j = y
        · subst e
          rw [if_pos rfl,if_pos (Nat.le_refl _)]
          exact of_word hs0 hm0 hy0
        · simp only [e,if_false]
          by_cases e2:y+1≤j
          · rw [if_pos e2,if_pos (by omega)]
          · rw [if_neg e2,if_neg (by omega)]
      · exact congrArg (fun i:Int=>some (Value.int .i64 i)) (wrap_i64 (by omega) (by omega))
    ·
      refine KA ?_
      refine oP (KAB (v:=.int .i64 ((y:Nat):Int)) (by show some _ = some _; congr 2; omega)) ?_
      refine oP (KF rfl rfl (br_f (br_gtr (b:=0)) (by omega))) ?_
      refine oM ?_
      refine oK ?_
      refine oK ?_
      refine oK ?_
      refine oK ?_
      refine oK ?_
      refine oP (Kh rfl rfl) ?_
      refine KC ?_
      refine KR rfl ?_
      refine KT ?_
      refine KA ?_
      refine oP (KAB (v:=.int .i64 ((y:Nat):Int)) (by show some _ = some _; congr 2; omega)) ?_
      refine oP (KF rfl rfl rfl) ?_
      refine oA ?_
      refine KC ?_
      refine ⟨y,by omega,by omega,KAO (Sub.cells (b:=b15) (cs':=dv (fun j=>if y≤j then limb (dnm m) j else limb m j) (nw m) (dsh m)) (by repeat (first|exact Sh _|apply St_)) (dv_congr fun j hj=>?_)) (Kq ⟨rfl,?_,trivial⟩ (by repeat (first|exact Sel.nil _|refine Sel.cons (by repeat (first|exact Ph _|apply Pt_)) ?_)))⟩
      · by_cases e:j = y
        · subst e
          rw [if_pos rfl,if_pos (Nat.le_refl _)]
          exact of_word0 hm0 (.inl hy0)
        · simp only [e,if_false]
          by_cases e2:y+1≤j
          · rw [if_pos e2,if_pos (by omega)]
          · rw [if_neg e2,if_neg (by omega)]
      · exact congrArg (fun i:Int=>some (Value.int .i64 i)) (wrap_i64 (by omega) (by omega))
end Go.Proofs.Ytlmiolnccgjjjaa
set_option linter.unusedVariables false
set_option linter.unusedSimpArgs false
set_option maxRecDepth 20000
namespace Go.Proofs.Ytlmiolnccgjjjaa
open Go Go.RowKit
theorem dvL_m (m:Nat) {i:Nat} (h:i<9):(dvL m)[i]? = some (.int .u64 (limb (dnm m) i:Int)):=dv_m _ _ _ h
theorem dvL_n (m:Nat):(dvL m)[9]? = some (.int .i64 (nw m:Int)):=dv_n _ _ _
theorem dvL_s (m:Nat):(dvL m)[10]? = some (.int .i64 (dsh m:Int)):=dv_s _ _ _
theorem guess_facts {U m a : Nat} (hm : m ≠ 0) (hU : U < dnm m * 2 ^ (64 * (a + 1))) :
    limb U (a+nw m)*18446744073709551616+limb U (a+nw m-1) = U/2^(64*a)/2^(64*(nw m-1))∧limb (dnm m) (nw m-1) = dnm m/2^(64*(nw m-1))∧9223372036854775808≤limb (dnm m) (nw m-1) ∧
    U/2^(64*a)/dnm m≤U/2^(64*a)/2^(64*(nw m-1))/limb (dnm m) (nw m-1):=by
  have hn:=nw_pos hm
  have h1:=win_lt (dnm_lt m) hU
  rw [Nat.add_assoc] at h1
  have h2:=win_div h1
  obtain ⟨h3,h4⟩:=dnm_top hm
  refine ⟨?_,h3,h4,?_⟩
  · rw [show a+nw m-1 = a+(nw m-1) by omega,← limb_div,← limb_div]
    have:=two_words (R:=U/2^(64*a)) (j:=nw m-1) (by rw [show nw m-1+2 = nw m+1 by omega]; exact h2)
    rw [this,show nw m-1+1 = nw m by omega]
  · rw [h3]
    apply div_cut (pow64_pos _)
    rw [← h3]; omega
theorem guess_step {U m a q r : Nat} (hm : m ≠ 0) (hn : 2 ≤ nw m) (h1 : q * limb (dnm m) (nw m - 1) + r = U / 2 ^ (64 * a) / 2 ^ (64 * (nw m - 1)))
    (h2:r*18446744073709551616+limb U (a+nw m-2)<q*limb (dnm m) (nw m-2)):U/2^(64*a)/dnm m<q:=by
  refine guess_more (k:=2^(64*(nw m-2))) (M:=18446744073709551616) (pow64_pos _) (dnm_pos hm) (top:=limb (dnm m) (nw m-1)) (d2:=limb (dnm m) (nw m-2)) ?_ (R2:=U/2^(64*a)/2^(64*(nw m-1))) (u2:=limb U (a+nw m-2)) ?_ h1 h2
  · have:=two_words (R:=dnm m) (j:=nw m-2) (by rw [show nw m-2+2 = nw m by omega]; exact dnm_lt m)
    rw [this,show nw m-2+1 = nw m-1 by omega]
  · have:=next_word (U/2^(64*a)) (nw m-2)
    rw [this,limb_div,show nw m-2+1 = nw m-1 by omega,show a+(nw m-2) = a+nw m-2 by omega]
theorem two_le {a b r u:Nat} (hb:b<18446744073709551616) (hu:u<18446744073709551616) (h:r<a∨(a = r∧u<b)):r*18446744073709551616+u<a*18446744073709551616+b:=by omega
theorem prod_parts (p:Nat):p/18446744073709551616*18446744073709551616+p%18446744073709551616 = p:=by omega
theorem guess_next {top r q d2 u R2:Nat} (h1:q*top+r = R2) (h0:0<q):(q-1)*top+(r+top) = R2:=by
  obtain ⟨p,rfl⟩:∃ p,q = p+1:=⟨q-1,by omega⟩
  rw [Nat.add_mul] at h1
  rw [Nat.add_sub_cancel]; omega
theorem c_guess (m U bd bu at_:Nat) (wu:Bool) (hm0:m≠0) (w:World) (hbd:(Item.blk bd ⟨false,dvL m,212,(0,0)⟩).holds w) (hbu:(Item.blk bu ⟨wu,vec .u64 19 (limb U),214,(0,0)⟩).holds w) (hm:m<W9) (hat:at_+nw m<19) (hU:U<dnm m*2^(64*(at_+1))):Calls Try.prog 163 ([.pointer (some ⟨bd,0,none⟩),.slice (some ⟨bu,0,none⟩) 19 19,.int .i64 ((at_:Nat):Int)]:List Value).toArray w (fun e w'=>∃ q,(q<18446744073709551616∧U/2^(64*at_)/dnm m≤q)∧e = .returned (.int .u64 ((q:Nat):Int))∧Below w.heap.size w w'):=by
  refine Ki (N:=108) (rs:=[.tmp 6]) [.blk bd ⟨false,dvL m,212,(0,0)⟩,.blk bu ⟨false,vec .u64 19 (limb U),214,(0,0)⟩] Try.func163 rfl Try.ntmps163 Try.results163 (Nb rfl) ⟨hbd,hbu,trivial⟩ rfl ?_
  show LCode _ _ _ ⟨_,_⟩ _
  refine KB (KA ?_)
  refine oP (KZ (v:=.int .u64 ((0:Nat):Int)) rfl) ?_
  refine KC ?_
  refine KB ?_
  have hn0:=nw_pos hm0
  have hn9:=nw_w9 hm
  obtain ⟨hf1,hf2,hf3,hf4⟩:=guess_facts hm0 hU
  have hlt:=limb_lt (dnm m) (nw m-1)
  have hlu:=limb_lt U (at_+nw m-1)
  refine rD [] ?_
  refine aM 0 ?_
  refine aM 1 ?_
  refine aP 2 rfl (KQ rfl) ?_
  refine aP 3 rfl (KG (o':=9) Try.underlying212 rfl rfl rfl sz_3 (by decide)) ?_
  refine aD 4 rfl (dL rfl (hv:=KL Try.underlying3 rfl (dvL_n _))) ?_
  refine aP 5 rfl (KF rfl rfl (br_sub (b:=1) (by omega) (by omega))) ?_
  refine aP 6 rfl (KQ rfl) ?_
  refine aP 7 rfl (KG (o':=0) Try.underlying212 rfl rfl rfl sz_31 (by decide)) ?_
  refine aP 8 rfl (Kr Try.underlying31 sz_30 rfl rfl (by omega)) ?_
  refine aD 9 rfl (dL rfl (hv:=KL Try.underlying30 rfl (by exact dvL_m _ (show nw m-1<9 by omega)))) ?_
  refine aA 10 ?_
  refine aE ?_
  refine KB ?_
  refine rD [] ?_
  refine aM 0 ?_
  refine aM 1 ?_
  refine aM 2 ?_
  refine aP 3 rfl (KQ rfl) ?_
  refine aP 4 rfl (KG (o':=9) Try.underlying212 rfl rfl rfl sz_3 (by decide)) ?_
  refine aD 5 rfl (dL rfl (hv:=KL Try.underlying3 rfl (dvL_n _))) ?_
  refine aP 6 rfl (KF rfl rfl (Kv (by omega))) ?_
  refine aP 7 rfl (Ko Try.underlying206 sz_30 rfl rfl (by omega)) ?_
  refine aD 8 rfl (dL rfl (hv:=KL Try.underlying30 rfl (by exact Ke _ _ _ (show at_+nw m<19 by omega)))) ?_
  refine aM 9 ?_
  refine aM 10 ?_
  refine aM 11 ?_
  refine aP 12 rfl (KQ rfl) ?_
  refine aP 13 rfl (KG (o':=9) Try.underlying212 rfl rfl rfl sz_3 (by decide)) ?_
  refine aD 14 rfl (dL rfl (hv:=KL Try.underlying3 rfl (dvL_n _))) ?_
  refine aP 15 rfl (KF rfl rfl (Kv (by omega))) ?_
  refine aP 16 rfl (KF rfl rfl (br_sub (b:=1) (by omega) (by omega))) ?_
  refine aP 17 rfl (Ko Try.underlying206 sz_30 rfl rfl (by omega)) ?_
  refine aD 18 rfl (dL rfl (hv:=KL Try.underlying30 rfl (by exact Ke _ _ _ (show at_+nw m-1<19 by omega)))) ?_
  refine aA 19 ?_
  refine aA 20 ?_
  refine aE ?_
  refine KB ?_
  refine KB (KA ?_)
  refine oM ?_
  refine oM ?_
  refine oP (KF rfl rfl (br_geq)) ?_
  refine KC ?_
  first|refine KS rfl (fun h46=>?_) (fun h46=>?_)|refine KU rfl (fun h46=>?_) (fun h46=>?_)
  ·
    refine KB (KA ?_)
    refine oP (KZ (v:=.int .u64 ((18446744073709551615:Nat):Int)) rfl) ?_
    refine KC (KM ?_)
    refine ⟨[_],.cons rfl .nil,fun a w' hr=>⟨18446744073709551615,?_,rfl,hr.fr.below⟩⟩
    exact ⟨by decide,by have:=quo_lt (dnm_pos hm0) hU; omega⟩
  ·
    have h46:limb U (at_+nw m)<limb (dnm m) (nw m-1):=Nat.lt_of_not_le h46
    have hq9:U/2^(64*at_)/2^(64*(nw m-1))/limb (dnm m) (nw m-1)<18446744073709551616:=by
      rw [← hf1,Nat.div_lt_iff_lt_mul (by omega),Nat.mul_comm]
      omega
    refine KT ?_
    refine KB (KA ?_)
    refine oM ?_
    refine oM ?_
    refine oM ?_
    refine oS (KAG (v:=.tuple #[.int .u64 ((U/2^(64*at_)/2^(64*(nw m-1))/limb (dnm m) (nw m-1):Nat):Int),.int .u64 ((U/2^(64*at_)/2^(64*(nw m-1))%limb (dnm m) (nw m-1):Nat):Int)]) (first:=[]) rfl en_166 rfl (Nb rfl) (fun w hw=>by have h:=c_Div64 (limb U (at_+nw m)) (limb U (at_+nw m-1)) _ (limb_lt _ _) hf3 hlt h46 w; rw [hf1] at h; exact h) ?_)
    refine oM ?_
    refine oP (KW rfl rfl) ?_
    refine oP (KW rfl rfl) ?_
    refine oA ?_
    refine oA ?_
    refine KC ?_
    refine KB ?_
    refine KB (KA ?_)
    refine oM ?_
    refine oP (KQ rfl) ?_
    refine oP (KG (o':=9) Try.underlying212 rfl rfl rfl sz_3 (by decide)) ?_
    refine oD (dL rfl (hv:=KL Try.underlying3 rfl (dvL_n _))) ?_
    refine oP (KF rfl rfl (br_eql (b:=1))) ?_
    refine KC ?_
    first|refine KS rfl (fun h58=>?_) (fun h58=>?_)|refine KU rfl (fun h58=>?_) (fun h58=>?_)
    ·
      refine KB (KA ?_)
      refine oM ?_
      refine oA ?_
      refine KC (KM ?_)
      refine ⟨[_],.cons rfl .nil,fun a w' hr=>⟨(U/2^(64*at_)/2^(64*(nw m-1)))/limb (dnm m) (nw m-1),?_,rfl,hr.fr.below⟩⟩
      exact ⟨hq9,hf4⟩
    ·
      refine KT ?_
      refine LCode.block ?_
      refine Ks (α:=Nat×Nat) (fun x=>x.1*limb (dnm m) (nw m-1)+x.2 = U/2^(64*at_)/2^(64*(nw m-1))∧U/2^(64*at_)/dnm m≤x.1∧x.1<18446744073709551616∧x.2<18446744073709551616) (fun x=>⟨[(0,.pointer (some ⟨bd,0,none⟩)),(1,.slice (some ⟨bu,0,none⟩) 19 19),(2,.int .i64 ((at_:Nat):Int)),(7,.int .u64 ((limb (dnm m) (nw m-1):Nat):Int)),(10,.int .u64 ((x.1:Nat):Int)),(11,.int .u64 ((x.2:Nat):Int))],[.blk bd ⟨false,dvL m,212,(0,0)⟩,.blk bu ⟨false,vec .u64 19 (limb U),214,(0,0)⟩]⟩) (fun x=>x.1) (((U/2^(64*at_)/2^(64*(nw m-1)))/limb (dnm m) (nw m-1),(U/2^(64*at_)/2^(64*(nw m-1)))%limb (dnm m) (nw m-1))) (⟨by rw [Nat.mul_comm]; exact Nat.div_add_mod _ _,hf4,hq9,Nat.lt_trans (Nat.mod_lt _ (by omega)) hlt⟩) (Kq ⟨rfl,rfl,rfl,rfl,rfl,rfl,trivial⟩ (by repeat (first|exact Sel.nil _|refine Sel.cons (by repeat (first|exact Ph _|apply Pt_)) ?_))) ?_
      intro x ⟨hx1,hx2,hx3,hx4⟩
      have h58:¬ nw m = 1:=h58
      refine LCode.block ?_
      refine KB ?_
      refine rD [] ?_
      refine aM 0 ?_
      refine aM 1 ?_
      refine aM 2 ?_
      refine aP 3 rfl (KQ rfl) ?_
      refine aP 4 rfl (KG (o':=9) Try.underlying212 rfl rfl rfl sz_3 (by decide)) ?_
      refine aD 5 rfl (dL rfl (hv:=KL Try.underlying3 rfl (dvL_n _))) ?_
      refine aP 6 rfl (KF rfl rfl (br_sub (b:=2) (by omega) (by omega))) ?_
      refine aP 7 rfl (KQ rfl) ?_
      refine aP 8 rfl (KG (o':=0) Try.underlying212 rfl rfl rfl sz_31 (by decide)) ?_
      refine aP 9 rfl (Kr Try.underlying31 sz_30 rfl rfl (by omega)) ?_
      refine aD 10 rfl (dL rfl (hv:=KL Try.underlying30 rfl (by exact dvL_m _ (show nw m-2<9 by omega)))) ?_
      refine aO 11 rfl (cF rfl en_162 rfl (fun w hw=>c_Mul64 _ _ hx3 (limb_lt _ _) w) ?_)
      refine aM 12 ?_
      refine aP 13 rfl (KW rfl rfl) ?_
      refine aP 14 rfl (KW rfl rfl) ?_
      refine aA 15 ?_
      refine aA 16 ?_
      refine aE ?_
      refine KB ?_
      refine KB ?_
      rcases Nat.lt_trichotomy (x.1*limb (dnm m) (nw m-2)/18446744073709551616) x.2 with h9|h9|h9
      ·
        refine KA ?_
        refine oM ?_
        refine oM ?_
        refine oP (KF rfl rfl (br_t KAT h9)) ?_
        refine oM ?_
        refine oK ?_
        refine oK ?_
        refine oK ?_
        refine oK ?_
        refine LOps.skipU rfl rfl (Nb rfl) ?_
        refine LOps.skipU rfl rfl (Nb rfl) ?_
        refine LOps.skipU rfl rfl (Nb rfl) ?_
        refine LOps.skipU rfl rfl (Nb rfl) ?_
        refine LOps.skipU rfl rfl (Nb rfl) ?_
        refine LOps.skipU rfl rfl (Nb rfl) ?_
        refine LOps.skipU rfl rfl (Nb rfl) ?_
        refine LOps.skipU rfl rfl (Nb rfl) ?_
        refine LOps.skipU rfl rfl (Nb rfl) ?_
        refine LOps.skipU rfl rfl (Nb rfl) ?_
        refine LOps.skipU rfl rfl (Nb rfl) ?_
        refine LOps.skipU rfl rfl (Nb rfl) ?_
        refine oK ?_
        refine oP (Kn rfl rfl) ?_
        refine KC ?_
        refine Kf rfl ?_
        refine KB (KA ?_)
        refine oM ?_
        refine oA ?_
        refine KC (KM ?_)
        refine ⟨[_],.cons rfl .nil,fun a w' hr=>⟨x.1,?_,rfl,hr.fr.below⟩⟩
        exact ⟨hx3,hx2⟩
      ·
        refine KA ?_
        refine oM ?_
        refine oM ?_
        refine oP (KF rfl rfl (br_f KAT (by omega))) ?_
        refine oM ?_
        refine oGM ?_
        refine oGM ?_
        refine oGP (KF rfl rfl (br_t br_eql h9)) ?_
        refine oGM ?_
        refine oGM ?_
        refine oGM ?_
        refine oGM ?_
        refine oGM ?_
        refine oGP (KQ rfl) ?_
        refine oGP (KG (o':=9) Try.underlying212 rfl rfl rfl sz_3 (by decide)) ?_
        refine KAQ rfl rfl (dL rfl (hv:=KL Try.underlying3 rfl (dvL_n _))) (Nb rfl) ?_
        refine oGP (KF rfl rfl (Kv (by omega))) ?_
        refine oGP (KF rfl rfl (br_sub (b:=2) (by omega) (by omega))) ?_
        refine oGP (Ko Try.underlying206 sz_30 rfl rfl (by omega)) ?_
        refine KAQ rfl rfl (dL rfl (hv:=KL Try.underlying30 rfl (by exact Ke _ _ _ (show at_+nw m-2<19 by omega)))) (Nb rfl) ?_
        refine oGP (KF rfl rfl (br_leq)) ?_
        refine oGP (Kn rfl rfl) ?_
        refine oP (Kh rfl rfl) ?_
        refine KC ?_
        first|refine KS rfl (fun h96=>?_) (fun h96=>?_)|refine KU rfl (fun h96=>?_) (fun h96=>?_)
        ·
          refine KB (KA ?_)
          refine oM ?_
          refine oA ?_
          refine KC (KM ?_)
          refine ⟨[_],.cons rfl .nil,fun a w' hr=>⟨x.1,?_,rfl,hr.fr.below⟩⟩
          exact ⟨hx3,hx2⟩
        ·
          have h96:¬ x.1*limb (dnm m) (nw m-2)%18446744073709551616≤limb U (at_+nw m-2):=h96
          have hq:=guess_step hm0 (by omega) hx1 (by rw [← prod_parts (x.1*limb (dnm m) (nw m-2))]; exact two_le (Nat.mod_lt _ (by decide)) (limb_lt _ _) (.inr ⟨h9,by omega⟩))
          have hq0:=Nat.lt_of_le_of_lt (Nat.zero_le _) hq
          refine KT ?_
          refine KB (KA ?_)
          refine oM ?_
          refine oP (KK (KF rfl rfl (br_sub64 (b:=1) (by decide))) (vi (b:=x.1-1) (by omega))) ?_
          refine oA ?_
          refine KC ?_
          refine KB (KA ?_)
          refine oM ?_
          refine oM ?_
          refine oP (KF rfl rfl (KAM)) ?_
          refine oA ?_
          refine KC ?_
          refine KB ?_
          refine KB (KA ?_)
          refine oM ?_
          refine oM ?_
          refine oP (KF rfl rfl (KAT)) ?_
          refine KC ?_
          first|refine KS rfl (fun h105=>?_) (fun h105=>?_)|refine KU rfl (fun h105=>?_) (fun h105=>?_)
          ·
            have h105:(x.2+limb (dnm m) (nw m-1))%18446744073709551616<x.2:=h105
            refine KB (KA ?_)
            refine oM ?_
            refine oA ?_
            refine KC (KM ?_)
            refine ⟨[_],.cons rfl .nil,fun a w' hr=>⟨x.1-1,?_,rfl,hr.fr.below⟩⟩
            exact ⟨by omega,Nat.le_sub_one_of_lt hq⟩
          ·
            have h105:¬ (x.2+limb (dnm m) (nw m-1))%18446744073709551616<x.2:=h105
            refine KT ?_
            refine KA ?_
            refine oM ?_
            refine oA ?_
            refine KC ?_
            refine ⟨(x.1-1,x.2+limb (dnm m) (nw m-1)),⟨guess_next (d2:=0) (u:=0) hx1 hq0,Nat.le_sub_one_of_lt hq,by dsimp only; omega,by dsimp only; omega⟩,by dsimp only; omega,Kq ⟨rfl,rfl,rfl,rfl,rfl,congrArg some (vi (by dsimp only; omega)),trivial⟩ (by repeat (first|exact Sel.nil _|refine Sel.cons (by repeat (first|exact Ph _|apply Pt_)) ?_))⟩
      ·
        refine KA ?_
        refine oM ?_
        refine oM ?_
        refine oP (KF rfl rfl (br_f KAT (by omega))) ?_
        refine oM ?_
        refine oGM ?_
        refine oGM ?_
        refine oGP (KF rfl rfl (br_f br_eql (by omega))) ?_
        refine oGM ?_
        refine oK ?_
        refine oK ?_
        refine oK ?_
        refine oK ?_
        refine oK ?_
        refine oK ?_
        refine oK ?_
        refine oK ?_
        refine oK ?_
        refine oK ?_
        refine oK ?_
        refine oK ?_
        refine oGP (Kh rfl rfl) ?_
        refine oP (Kh rfl rfl) ?_
        refine KC ?_
        have hq:=guess_step hm0 (by omega) hx1 (by rw [← prod_parts (x.1*limb (dnm m) (nw m-2))]; exact two_le (Nat.mod_lt _ (by decide)) (limb_lt _ _) (.inl h9))
        have hq0:=Nat.lt_of_le_of_lt (Nat.zero_le _) hq
        refine KR rfl ?_
        refine KT ?_
        refine KB (KA ?_)
        refine oM ?_
        refine oP (KK (KF rfl rfl (br_sub64 (b:=1) (by decide))) (vi (b:=x.1-1) (by omega))) ?_
        refine oA ?_
        refine KC ?_
        refine KB (KA ?_)
        refine oM ?_
        refine oM ?_
        refine oP (KF rfl rfl (KAM)) ?_
        refine oA ?_
        refine KC ?_
        refine KB ?_
        refine KB (KA ?_)
        refine oM ?_
        refine oM ?_
        refine oP (KF rfl rfl (KAT)) ?_
        refine KC ?_
        first|refine KS rfl (fun h105=>?_) (fun h105=>?_)|refine KU rfl (fun h105=>?_) (fun h105=>?_)
        ·
          have h105:(x.2+limb (dnm m) (nw m-1))%18446744073709551616<x.2:=h105
          refine KB (KA ?_)
          refine oM ?_
          refine oA ?_
          refine KC (KM ?_)
          refine ⟨[_],.cons rfl .nil,fun a w' hr=>⟨x.1-1,?_,rfl,hr.fr.below⟩⟩
          exact ⟨by omega,Nat.le_sub_one_of_lt hq⟩
        ·
          have h105:¬ (x.2+limb (dnm m) (nw m-1))%18446744073709551616<x.2:=h105
          refine KT ?_
          refine KA ?_
          refine oM ?_
          refine oA ?_
          refine KC ?_
          refine ⟨(x.1-1,x.2+limb (dnm m) (nw m-1)),⟨guess_next (d2:=0) (u:=0) hx1 hq0,Nat.le_sub_one_of_lt hq,by dsimp only; omega,by dsimp only; omega⟩,by dsimp only; omega,Kq ⟨rfl,rfl,rfl,rfl,rfl,congrArg some (vi (by dsimp only; omega)),trivial⟩ (by repeat (first|exact Sel.nil _|refine Sel.cons (by repeat (first|exact Ph _|apply Pt_)) ?_))⟩
end Go.Proofs.Ytlmiolnccgjjjaa
set_option linter.unusedVariables false
set_option linter.unusedSimpArgs false
set_option maxRecDepth 20000
namespace Go.Proofs.Ytlmiolnccgjjjaa
open Go Go.RowKit
theorem take_pre {U q D a:Nat}:U+q*(D%2^(64*0))*2^(64*a) = U+(0+0)*2^(64*(a+0)):=by
  rw [Nat.mul_zero,Nat.pow_zero,Nat.mod_one,Nat.mul_zero,Nat.zero_mul,Nat.zero_mul]
theorem back_pre {U D a:Nat}:U+0*2^(64*(a+0)) = U+(D%2^(64*0))*2^(64*a):=by
  rw [Nat.mul_zero,Nat.pow_zero,Nat.mod_one,Nat.zero_mul,Nat.zero_mul]
theorem c_take (m U bd bu at_ q:Nat) (hq:q<18446744073709551616) (w:World) (hbd:(Item.blk bd ⟨false,dvL m,212,(0,0)⟩).holds w) (hbu:(Item.blk bu ⟨true,vec .u64 19 (limb U),214,(0,0)⟩).holds w) (hne:bd≠bu) (hm:m<W9) (hat:at_+nw m<19) (hU:U<2^(64*(at_+nw m+1))):Calls Try.prog 164 ([.pointer (some ⟨bd,0,none⟩),.slice (some ⟨bu,0,none⟩) 19 19,.int .i64 ((at_:Nat):Int),.int .u64 ((q:Nat):Int)]:List Value).toArray w (fun e w'=>∃ v cs',(∃ U' bw,bw≤1∧U' < 2^(64*(at_+nw m+1))∧U'+q*dnm m*2^(64*at_) = U+bw*2^(64*(at_+nw m+1))∧v = .bool (decide (bw = 1))∧cs' = vec .u64 19 (limb U'))∧e = .returned v∧(Item.blk bu ⟨true,cs',214,(0,0)⟩).holds w'∧Fr (fun k=>k = bu) w w'):=by
  refine calls_w1 (N:=85) (rs:=[.tmp 8]) bu (vec .u64 19 (limb U)) 214 (0,0) [.blk bd ⟨false,dvL m,212,(0,0)⟩] Try.func164 rfl Try.ntmps164 Try.results164 (Nb rfl) hbu ⟨hbd,trivial⟩ rfl (by intro x hx; simp at hx; subst hx; simp [Item.fp]; exact fun e=>hne e.symm) ?_
  show LCode _ _ _ ⟨_,_⟩ _
  refine KB ?_
  have hn9:=nw_w9 hm
  refine KA ?_
  refine oA ?_
  refine KC ?_
  refine KB (KA ?_)
  refine oP (KZ (v:=.int .u64 ((0:Nat):Int)) rfl) ?_
  refine oP (KZ (v:=.int .u64 ((0:Nat):Int)) rfl) ?_
  refine KC ?_
  refine KB ?_
  refine KB (KA ?_)
  refine oM ?_
  refine oP (KQ rfl) ?_
  refine oP (KG (o':=9) Try.underlying212 rfl rfl rfl sz_3 (by decide)) ?_
  refine oD (dL rfl (hv:=KL Try.underlying3 rfl (dvL_n _))) ?_
  refine oP (KAB (v:=.int .i64 ((0:Nat):Int)) rfl) ?_
  refine KC ?_
  refine LCode.block ?_
  refine Ks (α:=Nat×Nat×Nat×Nat) (fun x=>x.1≤nw m∧x.2.2.1≤1∧x.2.2.2<18446744073709551616∧x.2.1<2^(64*(at_+nw m+1))∧x.2.1+q*(dnm m%2^(64*x.1))*2^(64*at_) = U+(x.2.2.1+x.2.2.2)*2^(64*(at_+x.1))) (fun x=>⟨[(0,.pointer (some ⟨bd,0,none⟩)),(1,.slice (some ⟨bu,0,none⟩) 19 19),(2,.int .i64 ((at_:Nat):Int)),(3,.int .u64 ((q:Nat):Int)),(9,.int .u64 ((x.2.2.1:Nat):Int)),(10,.int .u64 ((x.2.2.2:Nat):Int)),(18,.int .i64 ((nw m:Nat):Int)),(19,.int .i64 ((x.1:Nat):Int))],[.blk bu ⟨true,vec .u64 19 (limb x.2.1),214,(0,0)⟩,.blk bd ⟨false,dvL m,212,(0,0)⟩]⟩) (fun x=>nw m-x.1) ((0,U,0,0)) (⟨Nat.zero_le _,Nat.zero_le _,show (0:Nat)<18446744073709551616 by decide,hU,take_pre⟩) (Kq ⟨rfl,rfl,rfl,rfl,rfl,rfl,rfl,rfl,trivial⟩ (by repeat (first|exact Sel.nil _|refine Sel.cons (by repeat (first|exact Ph _|apply Pt_)) ?_))) ?_
  intro x ⟨hx1,hx2,hx3,hx4,hx5⟩
  refine KB (KA ?_)
  refine oP (KF rfl rfl (KAT)) ?_
  refine KC ?_
  refine KB ?_
  first|refine KS rfl (fun h20=>?_) (fun h20=>?_)|refine KU rfl (fun h20=>?_) (fun h20=>?_)
  ·
    have h20:x.1<nw m:=h20
    refine KT ?_
    refine KB ?_
    refine LCode.block ?_
    refine KB (KA ?_)
    refine oM ?_
    refine oA ?_
    refine KC ?_
    refine KB (KA ?_)
    refine oM ?_
    refine oM ?_
    refine oM ?_
    refine oP (KQ rfl) ?_
    refine oP (KG (o':=0) Try.underlying212 rfl rfl rfl sz_31 (by decide)) ?_
    refine oP (Kr Try.underlying31 sz_30 rfl rfl (by omega)) ?_
    refine oD (dL rfl (hv:=KL Try.underlying30 rfl (by exact dvL_m _ (show x.1<9 by omega)))) ?_
    refine oS (cF rfl en_162 rfl (fun w hw=>c_Mul64 _ _ hq (limb_lt _ _) w) ?_)
    refine oM ?_
    refine oP (KW rfl rfl) ?_
    refine oP (KW rfl rfl) ?_
    refine oA ?_
    refine oA ?_
    refine KC ?_
    refine KB (KA ?_)
    refine oP (KZ (v:=.int .u64 ((0:Nat):Int)) rfl) ?_
    refine KC ?_
    refine KB (KA ?_)
    refine oM ?_
    refine oM ?_
    refine oP (Det.add64 (c:=0) ex_155 rfl rfl rfl (by omega)) ?_
    refine oM ?_
    refine oP (KW rfl rfl) ?_
    refine oP (KW rfl rfl) ?_
    refine oA ?_
    refine oA ?_
    refine KC ?_
    refine KB (KA ?_)
    refine oM ?_
    refine oM ?_
    refine oP (KF rfl rfl (KAM)) ?_
    refine oA ?_
    refine KC ?_
    refine KA ?_
    refine oM ?_
    refine oM ?_
    refine oM ?_
    refine oP (KF rfl rfl (Kv (by omega))) ?_
    refine oM ?_
    refine oM ?_
    refine oM ?_
    refine oP (KF rfl rfl (Kv (by omega))) ?_
    refine oP (Ko Try.underlying206 sz_30 rfl rfl (by omega)) ?_
    refine oD (dL rfl (hv:=KL Try.underlying30 rfl (by exact Ke _ _ _ (show at_+x.1<19 by omega)))) ?_
    refine oM ?_
    refine oM ?_
    refine oP (Det.sub64 ex_141 rfl rfl rfl (by omega)) ?_
    refine oM ?_
    refine oP (KW rfl rfl) ?_
    refine oP (KW rfl rfl) ?_
    refine oP (Ko Try.underlying206 sz_30 rfl rfl (by omega)) ?_
    refine KV rfl (Kj rfl rfl rfl sz_30 (by repeat (first|exact Sh _|apply St_)) (by first|(simp only [KH,KD,KE,Kt]; omega)|(simp; done)|(simp; omega)) (by first|exact KAH _ _ _ _ _|exact KAJ _ _ _ _ (by omega)|exact KAI _ _ _ _|rfl) (by simp) ?_)
    refine oA ?_
    refine KC ?_
    refine KA ?_
    refine oP (KF rfl rfl (Kv (b:=1) (by omega))) ?_
    refine oM ?_
    refine KC ?_
    have hw:=mul_word hq (limb_lt (dnm m) x.1) hx3
    have hp:=mul_parts hx3 hw
    refine ⟨(x.1+1,setl x.2.1 (at_+x.1) ((limb x.2.1 (at_+x.1)+18446744073709551616-(q*limb (dnm m) x.1+x.2.2.2)%18446744073709551616-x.2.2.1)%18446744073709551616),(if limb x.2.1 (at_+x.1)<(q*limb (dnm m) x.1+x.2.2.2)%18446744073709551616+x.2.2.1 then 1 else 0),(q*limb (dnm m) x.1+x.2.2.2)/18446744073709551616),⟨by dsimp only; omega,by dsimp only; split <;> omega,by dsimp only; omega,setl_lt hx4 (by omega) (Nat.mod_lt _ (by decide)),take_step hx5 rfl (sub_word (limb_lt _ _) (Nat.mod_lt _ (by decide)) hx2)⟩,by dsimp only; omega,
      KAO (Sub.cells (b:=bu) (cs':=vec .u64 19 (limb (setl x.2.1 (at_+x.1) ((limb x.2.1 (at_+x.1)+18446744073709551616-(q*limb (dnm m) x.1+x.2.2.2)%18446744073709551616-x.2.2.1)%18446744073709551616)))) (by repeat (first|exact Sh _|apply St_)) ?_) (Kq ⟨rfl,rfl,rfl,rfl,congrArg some (vi (by dsimp only; rw [hp.1])),congrArg some (vi hp.2),rfl,rfl,trivial⟩ (by repeat (first|exact Sel.nil _|refine Sel.cons (by repeat (first|exact Ph _|apply Pt_)) ?_)))⟩
    rw [hp.1]
    exact vec_setl (Nat.mod_lt _ (by decide))
  ·
    have h20:¬ x.1<nw m:=h20
    have he:x.1 = nw m:=by omega
    rw [he] at hx5
    refine Kp ?_
    refine KB ?_
    refine rD [23] ?_
    refine aM 0 ?_
    refine aM 1 ?_
    refine aM 2 ?_
    refine aP 3 rfl (KQ rfl) ?_
    refine aP 4 rfl (KG (o':=9) Try.underlying212 rfl rfl rfl sz_3 (by decide)) ?_
    refine aD 5 rfl (dL rfl (hv:=KL Try.underlying3 rfl (dvL_n _))) ?_
    refine aP 6 rfl (KF rfl rfl (Kv (by omega))) ?_
    refine aM 7 ?_
    refine aM 8 ?_
    refine aM 9 ?_
    refine aP 10 rfl (KQ rfl) ?_
    refine aP 11 rfl (KG (o':=9) Try.underlying212 rfl rfl rfl sz_3 (by decide)) ?_
    refine aD 12 rfl (dL rfl (hv:=KL Try.underlying3 rfl (dvL_n _))) ?_
    refine aP 13 rfl (KF rfl rfl (Kv (by omega))) ?_
    refine aP 14 rfl (Ko Try.underlying206 sz_30 rfl rfl (by omega)) ?_
    refine aD 15 rfl (dL rfl (hv:=KL Try.underlying30 rfl (by exact Ke _ _ _ (show at_+nw m<19 by omega)))) ?_
    refine aM 16 ?_
    refine aM 17 ?_
    refine aP 18 rfl (Det.sub64 ex_141 rfl rfl rfl (by omega)) ?_
    refine aM 19 ?_
    refine aP 20 rfl (KW rfl rfl) ?_
    refine aP 21 rfl (KW rfl rfl) ?_
    refine aP 22 rfl (Ko Try.underlying206 sz_30 rfl rfl (by omega)) ?_
    refine aL 23 rfl (Kj rfl rfl rfl sz_30 (by repeat (first|exact Sh _|apply St_)) (by first|(simp only [KH,KD,KE,Kt]; omega)|(simp; done)|(simp; omega)) (by first|exact KAH _ _ _ _ _|exact KAJ _ _ _ _ (by omega)|exact KAI _ _ _ _|rfl) (by simp) ?_)
    refine aA 24 ?_
    refine aE ?_
    refine KB (KA ?_)
    refine oM ?_
    refine oP (KF rfl rfl (br_eql (b:=1))) ?_
    refine oA ?_
    refine KC (KM ?_)
    refine ⟨[_],.cons rfl .nil,fun a w' hr=>⟨_,_,⟨setl x.2.1 (at_+nw m) ((limb x.2.1 (at_+nw m)+18446744073709551616-x.2.2.2-x.2.2.1)%18446744073709551616),(if limb x.2.1 (at_+nw m)<x.2.2.2+x.2.2.1 then 1 else 0),by split <;> omega,setl_lt hx4 (by omega) (Nat.mod_lt _ (by decide)),take_last (dnm_lt m) hx5 (sub_word (limb_lt _ _) hx3 hx2),rfl,vec_setl (Nat.mod_lt _ (by decide))⟩,rfl,hr.hp _ (by repeat (first|exact Mh _|apply Mt)),hr.fr⟩⟩
theorem c_back (m U bd bu at_:Nat) (w:World) (hbd:(Item.blk bd ⟨false,dvL m,212,(0,0)⟩).holds w) (hbu:(Item.blk bu ⟨true,vec .u64 19 (limb U),214,(0,0)⟩).holds w) (hne:bd≠bu) (hm:m<W9) (hat:at_+nw m<19) (hU:U<2^(64*(at_+nw m+1))):Calls Try.prog 165 ([.pointer (some ⟨bd,0,none⟩),.slice (some ⟨bu,0,none⟩) 19 19,.int .i64 ((at_:Nat):Int)]:List Value).toArray w (fun e w'=>∃ v cs',(∃ U' c,c≤1∧U' < 2^(64*(at_+nw m+1))∧U'+c*2^(64*(at_+(nw m+1))) = U+dnm m*2^(64*at_)∧v = .bool (decide (c = 1))∧cs' = vec .u64 19 (limb U'))∧e = .returned v∧(Item.blk bu ⟨true,cs',214,(0,0)⟩).holds w'∧Fr (fun k=>k = bu) w w'):=by
  refine calls_w1 (N:=63) (rs:=[.tmp 6]) bu (vec .u64 19 (limb U)) 214 (0,0) [.blk bd ⟨false,dvL m,212,(0,0)⟩] Try.func165 rfl Try.ntmps165 Try.results165 (Nb rfl) hbu ⟨hbd,trivial⟩ rfl (by intro x hx; simp at hx; subst hx; simp [Item.fp]; exact fun e=>hne e.symm) ?_
  show LCode _ _ _ ⟨_,_⟩ _
  refine KB ?_
  have hn9:=nw_w9 hm
  refine KA ?_
  refine oA ?_
  refine KC ?_
  refine KB (KA ?_)
  refine oP (KZ (v:=.int .u64 ((0:Nat):Int)) rfl) ?_
  refine KC ?_
  refine KB ?_
  refine KB (KA ?_)
  refine oM ?_
  refine oP (KQ rfl) ?_
  refine oP (KG (o':=9) Try.underlying212 rfl rfl rfl sz_3 (by decide)) ?_
  refine oD (dL rfl (hv:=KL Try.underlying3 rfl (dvL_n _))) ?_
  refine oP (KAB (v:=.int .i64 ((0:Nat):Int)) rfl) ?_
  refine KC ?_
  refine LCode.block ?_
  refine Ks (α:=Nat×Nat×Nat) (fun x=>x.1≤nw m∧x.2.2≤1∧x.2.1<2^(64*(at_+nw m+1))∧x.2.1+x.2.2*2^(64*(at_+x.1)) = U+(dnm m%2^(64*x.1))*2^(64*at_)) (fun x=>⟨[(0,.pointer (some ⟨bd,0,none⟩)),(1,.slice (some ⟨bu,0,none⟩) 19 19),(2,.int .i64 ((at_:Nat):Int)),(7,.int .u64 ((x.2.2:Nat):Int)),(12,.int .i64 ((nw m:Nat):Int)),(13,.int .i64 ((x.1:Nat):Int))],[.blk bu ⟨true,vec .u64 19 (limb x.2.1),214,(0,0)⟩,.blk bd ⟨false,dvL m,212,(0,0)⟩]⟩) (fun x=>nw m-x.1) ((0,U,0)) (⟨Nat.zero_le _,Nat.zero_le _,hU,back_pre⟩) (Kq ⟨rfl,rfl,rfl,rfl,rfl,rfl,trivial⟩ (by repeat (first|exact Sel.nil _|refine Sel.cons (by repeat (first|exact Ph _|apply Pt_)) ?_))) ?_
  intro x ⟨hx1,hx2,hx4,hx5⟩
  refine KB (KA ?_)
  refine oP (KF rfl rfl (KAT)) ?_
  refine KC ?_
  refine KB ?_
  first|refine KS rfl (fun h20=>?_) (fun h20=>?_)|refine KU rfl (fun h20=>?_) (fun h20=>?_)
  ·
    have h20:x.1<nw m:=h20
    refine KT ?_
    refine KB ?_
    refine LCode.block ?_
    refine KB (KA ?_)
    refine oM ?_
    refine oA ?_
    refine KC ?_
    refine rD [22] ?_
    refine aM 0 ?_
    refine aM 1 ?_
    refine aM 2 ?_
    refine aP 3 rfl (KF rfl rfl (Kv (by omega))) ?_
    refine aM 4 ?_
    refine aM 5 ?_
    refine aM 6 ?_
    refine aP 7 rfl (KF rfl rfl (Kv (by omega))) ?_
    refine aP 8 rfl (Ko Try.underlying206 sz_30 rfl rfl (by omega)) ?_
    refine aD 9 rfl (dL rfl (hv:=KL Try.underlying30 rfl (by exact Ke _ _ _ (show at_+x.1<19 by omega)))) ?_
    refine aM 10 ?_
    refine aM 11 ?_
    refine aP 12 rfl (KQ rfl) ?_
    refine aP 13 rfl (KG (o':=0) Try.underlying212 rfl rfl rfl sz_31 (by decide)) ?_
    refine aP 14 rfl (Kr Try.underlying31 sz_30 rfl rfl (by omega)) ?_
    refine aD 15 rfl (dL rfl (hv:=KL Try.underlying30 rfl (by exact dvL_m _ (show x.1<9 by omega)))) ?_
    refine aM 16 ?_
    refine aP 17 rfl (Det.add64 ex_155 rfl rfl rfl (by omega)) ?_
    refine aM 18 ?_
    refine aP 19 rfl (KW rfl rfl) ?_
    refine aP 20 rfl (KW rfl rfl) ?_
    refine aP 21 rfl (Ko Try.underlying206 sz_30 rfl rfl (by omega)) ?_
    refine aL 22 rfl (Kj rfl rfl rfl sz_30 (by repeat (first|exact Sh _|apply St_)) (by first|(simp only [KH,KD,KE,Kt]; omega)|(simp; done)|(simp; omega)) (by first|exact KAH _ _ _ _ _|exact KAJ _ _ _ _ (by omega)|exact KAI _ _ _ _|rfl) (by simp) ?_)
    refine aA 23 ?_
    refine aE ?_
    refine KA ?_
    refine oP (KF rfl rfl (Kv (b:=1) (by omega))) ?_
    refine oM ?_
    refine KC ?_
    refine ⟨(x.1+1,setl x.2.1 (at_+x.1) ((limb x.2.1 (at_+x.1)+limb (dnm m) x.1+x.2.2)%18446744073709551616),(limb x.2.1 (at_+x.1)+limb (dnm m) x.1+x.2.2)/18446744073709551616),⟨by dsimp only; omega,add_carry (limb_lt _ _) (limb_lt _ _) hx2,setl_lt hx4 (by omega) (Nat.mod_lt _ (by decide)),back_step hx5 add_word⟩,by dsimp only; omega,
      KAO (Sub.cells (b:=bu) (cs':=vec .u64 19 (limb (setl x.2.1 (at_+x.1) ((limb x.2.1 (at_+x.1)+limb (dnm m) x.1+x.2.2)%18446744073709551616)))) (by repeat (first|exact Sh _|apply St_)) (vec_setl (Nat.mod_lt _ (by decide)))) (Kq ⟨rfl,rfl,rfl,rfl,rfl,rfl,trivial⟩ (by repeat (first|exact Sel.nil _|refine Sel.cons (by repeat (first|exact Ph _|apply Pt_)) ?_)))⟩
  ·
    have h20:¬ x.1<nw m:=h20
    have he:x.1 = nw m:=by omega
    rw [he] at hx5
    refine Kp ?_
    refine KB ?_
    refine rD [22] ?_
    refine aM 0 ?_
    refine aM 1 ?_
    refine aM 2 ?_
    refine aP 3 rfl (KQ rfl) ?_
    refine aP 4 rfl (KG (o':=9) Try.underlying212 rfl rfl rfl sz_3 (by decide)) ?_
    refine aD 5 rfl (dL rfl (hv:=KL Try.underlying3 rfl (dvL_n _))) ?_
    refine aP 6 rfl (KF rfl rfl (Kv (by omega))) ?_
    refine aM 7 ?_
    refine aM 8 ?_
    refine aM 9 ?_
    refine aP 10 rfl (KQ rfl) ?_
    refine aP 11 rfl (KG (o':=9) Try.underlying212 rfl rfl rfl sz_3 (by decide)) ?_
    refine aD 12 rfl (dL rfl (hv:=KL Try.underlying3 rfl (dvL_n _))) ?_
    refine aP 13 rfl (KF rfl rfl (Kv (by omega))) ?_
    refine aP 14 rfl (Ko Try.underlying206 sz_30 rfl rfl (by omega)) ?_
    refine aD 15 rfl (dL rfl (hv:=KL Try.underlying30 rfl (by exact Ke _ _ _ (show at_+nw m<19 by omega)))) ?_
    refine aM 16 ?_
    refine aP 17 rfl (Det.add64 (j:=0) ex_155 rfl rfl rfl (by omega)) ?_
    refine aM 18 ?_
    refine aP 19 rfl (KW rfl rfl) ?_
    refine aP 20 rfl (KW rfl rfl) ?_
    refine aP 21 rfl (Ko Try.underlying206 sz_30 rfl rfl (by omega)) ?_
    refine aL 22 rfl (Kj rfl rfl rfl sz_30 (by repeat (first|exact Sh _|apply St_)) (by first|(simp only [KH,KD,KE,Kt]; omega)|(simp; done)|(simp; omega)) (by first|exact KAH _ _ _ _ _|exact KAJ _ _ _ _ (by omega)|exact KAI _ _ _ _|rfl) (by simp) ?_)
    refine aA 23 ?_
    refine aE ?_
    refine KB (KA ?_)
    refine oM ?_
    refine oP (KF rfl rfl (br_eql (b:=1))) ?_
    refine oA ?_
    refine KC (KM ?_)
    have hb:=back_step (a:=at_) (i:=nw m) (D:=dnm m) hx5 (lo:=(limb x.2.1 (at_+nw m)+0+x.2.2)%18446744073709551616) (c':=(limb x.2.1 (at_+nw m)+0+x.2.2)/18446744073709551616) (by rw [limb_high (dnm_lt m) (Nat.le_refl _)]; exact add_word)
    rw [Nat.mod_eq_of_lt (Nat.lt_of_lt_of_le (dnm_lt m) (Nat.pow_le_pow_right (by decide) (by omega)))] at hb
    refine ⟨[_],.cons rfl .nil,fun a w' hr=>⟨_,_,⟨setl x.2.1 (at_+nw m) ((limb x.2.1 (at_+nw m)+0+x.2.2)%18446744073709551616),(limb x.2.1 (at_+nw m)+0+x.2.2)/18446744073709551616,add_carry (limb_lt _ _) (by decide) hx2,setl_lt hx4 (by omega) (Nat.mod_lt _ (by decide)),hb,rfl,vec_setl (Nat.mod_lt _ (by decide))⟩,rfl,hr.hp _ (by repeat (first|exact Mh _|apply Mt)),hr.fr⟩⟩
end Go.Proofs.Ytlmiolnccgjjjaa
set_option linter.unusedVariables false
set_option linter.unusedSimpArgs false
set_option maxRecDepth 20000
namespace Go.Proofs.Ytlmiolnccgjjjaa
open Go Go.RowKit
theorem fill_zero (W s:Nat):W%2^(64*0)*2^s = 0:=by rw [Nat.mul_zero,Nat.pow_zero,Nat.mod_one,Nat.zero_mul]
theorem rest_or {U s i:Nat} (hs:s<64):(limb U i/2^s ||| limb U (i+1)*2^(64-s)%18446744073709551616) = limb (U/2^s) i:=by
  have:=shr_or (A:=U) (w:=0) (r:=s) (i:=i) hs
  rwa [Nat.add_zero,Nat.mul_zero,Nat.zero_add] at this
theorem quo_store {K x y:Nat} (hx:x<18446744073709551616) (j:Nat):(if j = y then x else limb (K*2^(64*(y+1))) j) = limb ((K*18446744073709551616+x)*2^(64*y)) j:=by
  have h0:limb (K*2^(64*(y+1))) y = 0:=by
    unfold limb
    rw [pow64_succ,← Nat.mul_assoc,Nat.mul_div_cancel _ (pow64_pos y),Nat.mul_mod_left]
  have:=limb_addl (K*2^(64*(y+1))) x y j (by rw [h0]; omega)
  rw [h0,Nat.zero_add] at this
  rw [← this,Nat.add_mul,pow64_succ,Nat.mul_assoc]
theorem quo_sum {U U0 K x y D V:Nat} (h1:U+x*D*2^(64*y) = U0) (h2:U0+K*2^(64*(y+1))*D = V):U+(K*18446744073709551616+x)*2^(64*y)*D = V:=by
  rw [← h2,← h1,pow64_succ]
  generalize 2^(64*y) = A
  grind
theorem c_divide (m W bd bw l c:Nat) (tw:TypeId) (ww:Bool) (hm0:m≠0) (w:World) (hbd:(Item.blk bd ⟨false,dvL m,212,(0,0)⟩).holds w) (hbw:(Item.blk bw ⟨ww,vec .u64 c (limb W),tw,(0,0)⟩).holds w) (hm:m<W9) (hlc:l≤c) (hc:c≤18) (hW:W<2^(64*l)):Calls Try.prog 157 ([.pointer (some ⟨bd,0,none⟩),.slice (some ⟨bw,0,none⟩) l c]:List Value).toArray w (fun e w'=>e = .returned (.tuple #[wideV (W/m),natV (W%m)])∧Below w.heap.size w w'):=by
  refine Ki (N:=124) (rs:=[.cell 4 202,.cell 5 33]) [.blk bd ⟨false,dvL m,212,(0,0)⟩,.blk bw ⟨false,vec .u64 c (limb W),tw,(0,0)⟩] Try.func157 rfl Try.ntmps157 Try.results157 (Nb rfl) ⟨hbd,hbw,trivial⟩ rfl ?_
  show LCode _ _ _ ⟨_,_⟩ _
  refine KB ?_
  have hn0:=nw_pos hm0
  have hn9:=nw_w9 hm
  have hs64:=dsh_lt hm0
  refine KA ?_
  refine oS (mk (KX zr_202) (fun b4=>?_))
  refine oS (mk (KX zr_33) (fun b5=>?_))
  refine KC ?_
  refine KB (KA ?_)
  refine oS (mk (KX zr_214) (fun b6=>?_))
  refine KC ?_
  refine KB (KA ?_)
  refine oS (mk (KX zr_202) (fun b7=>?_))
  refine KC ?_
  refine KB ?_
  refine KB (KA ?_)
  refine oM ?_
  refine oP (KAC Try.underlying206 rfl) ?_
  refine oP (KAB (v:=.int .i64 ((0:Nat):Int)) rfl) ?_
  refine KC ?_
  refine LCode.block ?_
  refine Ks (α:=Nat) (fun x=>x≤l) (fun x=>⟨[(0,.pointer (some ⟨bd,0,none⟩)),(1,.slice (some ⟨bw,0,none⟩) l c),(4,.pointer (some ⟨b4,0,none⟩)),(5,.pointer (some ⟨b5,0,none⟩)),(6,.pointer (some ⟨b6,0,none⟩)),(7,.pointer (some ⟨b7,0,none⟩)),(15,.slice (some ⟨bw,0,none⟩) l c),(16,.int .i64 ((l:Nat):Int)),(17,.int .i64 ((x:Nat):Int))],[.blk b6 ⟨true,vec .u64 19 (limb (W%2^(64*x)*2^dsh m)),214,(0,0)⟩,.blk b7 ⟨true,vec .u64 18 (fun _=>0),202,(0,0)⟩,.blk b5 ⟨true,vec .u64 9 (fun _=>0),33,(0,0)⟩,.blk b4 ⟨true,vec .u64 18 (fun _=>0),202,(0,0)⟩,.blk bd ⟨false,dvL m,212,(0,0)⟩,.blk bw ⟨false,vec .u64 c (limb W),tw,(0,0)⟩]⟩) (fun x=>l-x) (0) (Nat.zero_le _) (KAO (Sub.cells (b:=b6) (cs':=vec .u64 19 (limb (W%2^(64*0)*2^dsh m))) (by repeat (first|exact Sh _|apply St_)) (by rw [fill_zero]; exact vec_zeros 19)) (Kq ⟨rfl,rfl,rfl,rfl,rfl,rfl,rfl,rfl,rfl,trivial⟩ (by repeat (first|exact Sel.nil _|refine Sel.cons (by repeat (first|exact Ph _|apply Pt_)) ?_)))) ?_
  intro x hx
  refine KB (KA ?_)
  refine oP (KF rfl rfl (KAT)) ?_
  refine KC ?_
  refine KB ?_
  first|refine KS rfl (fun h18=>?_) (fun h18=>?_)|refine KU rfl (fun h18=>?_) (fun h18=>?_)
  ·
    have h18:x<l:=h18
    refine KT ?_
    refine KB ?_
    refine LCode.block ?_
    refine KB (KA ?_)
    refine oM ?_
    refine oP (Ko Try.underlying206 sz_30 rfl rfl (by omega)) ?_
    refine oD (dL rfl (hv:=KL Try.underlying30 rfl (by exact Ke _ _ _ (show x<c by omega)))) ?_
    refine oA ?_
    refine oA ?_
    refine KC ?_
    refine KB ?_
    refine rD [11] ?_
    refine aM 0 ?_
    refine aP 1 rfl (Kr Try.underlying214 sz_30 rfl rfl (by omega)) ?_
    refine aD 2 rfl (dL rfl (hv:=KL Try.underlying30 rfl (by exact Ke _ _ _ (show x<19 by omega)))) ?_
    refine aM 3 ?_
    refine aM 4 ?_
    refine aP 5 rfl (KQ rfl) ?_
    refine aP 6 rfl (KG (o':=10) Try.underlying212 rfl rfl rfl sz_3 (by decide)) ?_
    refine aD 7 rfl (dL rfl (hv:=KL Try.underlying3 rfl (dvL_s _))) ?_
    refine aP 8 rfl (KF rfl rfl (br_shl64)) ?_
    refine aP 9 rfl (KF rfl rfl (br_or64 (limb_lt _ _) (Nat.mod_lt _ (by decide)))) ?_
    refine aP 10 rfl (Kr Try.underlying214 sz_30 rfl rfl (by omega)) ?_
    refine aL 11 rfl (Kj rfl rfl rfl sz_30 (by repeat (first|exact Sh _|apply St_)) (by first|(simp only [KH,KD,KE,Kt]; omega)|(simp; done)|(simp; omega)) (by first|exact KAH _ _ _ _ _|exact KAJ _ _ _ _ (by omega)|exact KAI _ _ _ _|rfl) (by simp) ?_)
    refine aE ?_
    refine KB (KA ?_)
    refine oM ?_
    refine oP (KQ rfl) ?_
    refine oP (KG (o':=10) Try.underlying212 rfl rfl rfl sz_3 (by decide)) ?_
    refine oD (dL rfl (hv:=KL Try.underlying3 rfl (dvL_s _))) ?_
    refine oP (KF rfl rfl (br_gtr (b:=0))) ?_
    refine KC ?_
    first|refine KS rfl (fun h37=>?_) (fun h37=>?_)|refine KU rfl (fun h37=>?_) (fun h37=>?_)
    ·
      have h37:0<dsh m:=h37
      refine KA ?_
      refine oM ?_
      refine oP (KF rfl rfl (Kv (b:=1) (by omega))) ?_
      refine oM ?_
      refine oM ?_
      refine oP (KQ rfl) ?_
      refine oP (KG (o':=10) Try.underlying212 rfl rfl rfl sz_3 (by decide)) ?_
      refine oD (dL rfl (hv:=KL Try.underlying3 rfl (dvL_s _))) ?_
      refine oP (KF rfl rfl (br_sub (a:=64) (by omega) (by omega))) ?_
      refine oP (KF rfl rfl (KAL (limb_lt _ _))) ?_
      refine oP (Kr Try.underlying214 sz_30 rfl rfl (by omega)) ?_
      refine KV rfl (Kj rfl rfl rfl sz_30 (by repeat (first|exact Sh _|apply St_)) (by first|(simp only [KH,KD,KE,Kt]; omega)|(simp; done)|(simp; omega)) (by first|exact KAH _ _ _ _ _|exact KAJ _ _ _ _ (by omega)|exact KAI _ _ _ _|rfl) (by simp) ?_)
      refine KC ?_
      refine KA ?_
      refine oP (KF rfl rfl (Kv (b:=1) (by omega))) ?_
      refine oM ?_
      refine KC ?_
      refine ⟨x+1,by omega,by omega,KAO (Sub.cells (b:=b6) (cs':=vec .u64 19 (limb (W%2^(64*(x+1))*2^dsh m))) (by repeat (first|exact Sh _|apply St_)) (KAA fun j _=>(fill_step hs64 j).symm)) (Kq ⟨rfl,rfl,rfl,rfl,rfl,rfl,rfl,rfl,rfl,trivial⟩ (by repeat (first|exact Sel.nil _|refine Sel.cons (by repeat (first|exact Ph _|apply Pt_)) ?_)))⟩
    ·
      have h37:¬ 0<dsh m:=h37
      refine KT ?_
      refine KA ?_
      refine oP (KF rfl rfl (Kv (b:=1) (by omega))) ?_
      refine oM ?_
      refine KC ?_
      refine ⟨x+1,by omega,by omega,KAO (Sub.cells (b:=b6) (cs':=vec .u64 19 (limb (W%2^(64*(x+1))*2^dsh m))) (by repeat (first|exact Sh _|apply St_)) (KAA fun j _=>?_)) (Kq ⟨rfl,rfl,rfl,rfl,rfl,rfl,rfl,rfl,rfl,trivial⟩ (by repeat (first|exact Sel.nil _|refine Sel.cons (by repeat (first|exact Ph _|apply Pt_)) ?_)))⟩
      rw [fill_step hs64 j]
      by_cases e:j = x+1
      · rw [if_pos e,if_neg (by omega),e,(fill_word hs64).2,show 64-dsh m = 64 by omega]
        exact (Nat.div_eq_of_lt (limb_lt W x)).symm
      · rw [if_neg e]
  ·
    have h18:¬ x<l:=h18
    have hxl:x = l:=by omega
    subst hxl
    refine Kp ?_
    refine KB ?_
    refine KB (KA ?_)
    refine oM ?_
    refine oP (KAC Try.underlying206 rfl) ?_
    refine oM ?_
    refine oP (KQ rfl) ?_
    refine oP (KG (o':=9) Try.underlying212 rfl rfl rfl sz_3 (by decide)) ?_
    refine oD (dL rfl (hv:=KL Try.underlying3 rfl (dvL_n _))) ?_
    refine oP (KF (v:=.int .i64 ((x:Int)-(nw m:Int))) rfl rfl (br_subI (by omega) (by omega))) ?_
    refine oA ?_
    refine KC ?_
    refine LCode.block ?_
    refine Ks (α:=Int×Nat×Nat) (fun x=>(-20≤x.1∧x.1+nw m≤18)∧x.2.1+x.2.2*2^(64*(x.1+1).toNat)*dnm m = W*2^dsh m∧x.2.1<dnm m*2^(64*(x.1+1).toNat)) (fun x=>⟨[(0,.pointer (some ⟨bd,0,none⟩)),(4,.pointer (some ⟨b4,0,none⟩)),(5,.pointer (some ⟨b5,0,none⟩)),(6,.pointer (some ⟨b6,0,none⟩)),(7,.pointer (some ⟨b7,0,none⟩)),(10,.int .i64 x.1)],[.blk b6 ⟨true,vec .u64 19 (limb x.2.1),214,(0,0)⟩,.blk b7 ⟨true,wideL (x.2.2*2^(64*(x.1+1).toNat)),202,(0,0)⟩,.blk b5 ⟨true,vec .u64 9 (fun _=>0),33,(0,0)⟩,.blk b4 ⟨true,vec .u64 18 (fun _=>0),202,(0,0)⟩,.blk bd ⟨false,dvL m,212,(0,0)⟩]⟩) (fun x=>(x.1+1).toNat) (((x:Int)-nw m,W*2^dsh m,0)) (⟨⟨by dsimp only; omega,by dsimp only; omega⟩,by dsimp only; rw [Nat.zero_mul,Nat.zero_mul,Nat.add_zero],by
      dsimp only
      rcases Nat.lt_or_ge x (nw m) with hlt|hge
      · rw [show ((x:Int)-nw m+1).toNat = 0 by omega,Nat.mul_zero,Nat.pow_zero,Nat.mul_one]
        exact div_short hm0 hlt hW
      · rw [show ((x:Int)-nw m+1).toNat = x-nw m+1 by omega]
        exact div_begin hm0 hge hW⟩) (KAO (Sub.cells (b:=b6) (cs':=vec .u64 19 (limb (W*2^dsh m))) (by repeat (first|exact Sh _|apply St_)) (by rw [Nat.mod_eq_of_lt hW])) (KAO (Sub.cells (b:=b7) (cs':=wideL (0*2^(64*((x:Int)-nw m+1).toNat))) (by repeat (first|exact Sh _|apply St_)) (by rw [Nat.zero_mul]; exact vec_zeros 18)) (Kq ⟨rfl,rfl,rfl,rfl,rfl,rfl,trivial⟩ (by repeat (first|exact Sel.nil _|refine Sel.cons (by repeat (first|exact Ph _|apply Pt_)) ?_))))) ?_
    intro x ⟨⟨hx1,hx2⟩,hx3,hx4⟩
    refine KB ?_
    refine KB ?_
    rcases Int.lt_or_le x.1 0 with hz|hz
    ·
      refine KA ?_
      refine oM ?_
      refine oP (KF (v:=.bool false) rfl rfl (by simp [Kw]; omega)) ?_
      refine KC ?_
      have ha0:(x.1+1).toNat = 0:=by omega
      rw [ha0,Nat.mul_zero,Nat.pow_zero,Nat.mul_one] at hx3
      rw [ha0,Nat.mul_zero,Nat.pow_zero,Nat.mul_one] at hx4
      have hend:=div_end hm0 hx3 hx4
      refine KR rfl ?_
      refine Kp ?_
      refine KB (KA ?_)
      refine oS (mk (KX zr_33) (fun b13=>?_))
      refine KC ?_
      refine KB ?_
      refine KB (KA ?_)
      refine oM ?_
      refine oP (KQ rfl) ?_
      refine oP (KG (o':=9) Try.underlying212 rfl rfl rfl sz_3 (by decide)) ?_
      refine oD (dL rfl (hv:=KL Try.underlying3 rfl (dvL_n _))) ?_
      refine oP (KAB (v:=.int .i64 ((0:Nat):Int)) rfl) ?_
      refine KC ?_
      refine LCode.block ?_
      refine Ks (α:=Nat) (fun i=>i≤nw m) (fun i=>⟨[(0,.pointer (some ⟨bd,0,none⟩)),(4,.pointer (some ⟨b4,0,none⟩)),(5,.pointer (some ⟨b5,0,none⟩)),(6,.pointer (some ⟨b6,0,none⟩)),(7,.pointer (some ⟨b7,0,none⟩)),(13,.pointer (some ⟨b13,0,none⟩)),(84,.int .i64 ((nw m:Nat):Int)),(85,.int .i64 ((i:Nat):Int))],[.blk b13 ⟨true,vec .u64 9 (fun j=>if j<i then limb (x.2.1/2^dsh m) j else 0),33,(0,0)⟩,.blk b6 ⟨true,vec .u64 19 (limb x.2.1),214,(0,0)⟩,.blk b7 ⟨true,wideL (x.2.2*2^(64*(x.1+1).toNat)),202,(0,0)⟩,.blk b5 ⟨true,vec .u64 9 (fun _=>0),33,(0,0)⟩,.blk b4 ⟨true,vec .u64 18 (fun _=>0),202,(0,0)⟩,.blk bd ⟨false,dvL m,212,(0,0)⟩]⟩) (fun i=>nw m-i) (0) (Nat.zero_le _) (Kq ⟨rfl,rfl,rfl,rfl,rfl,rfl,rfl,rfl,trivial⟩ (by repeat (first|exact Sel.nil _|refine Sel.cons (by repeat (first|exact Ph _|apply Pt_)) ?_))) ?_
      intro i hi
      refine KB (KA ?_)
      refine oP (KF rfl rfl (KAT)) ?_
      refine KC ?_
      refine KB ?_
      first|refine KS rfl (fun h86=>?_) (fun h86=>?_)|refine KU rfl (fun h86=>?_) (fun h86=>?_)
      ·
        have h86:i<nw m:=h86
        refine KT ?_
        refine KB ?_
        refine LCode.block ?_
        refine KB (KA ?_)
        refine oM ?_
        refine oA ?_
        refine KC ?_
        refine KB ?_
        refine rD [11] ?_
        refine aM 0 ?_
        refine aM 1 ?_
        refine aP 2 rfl (Kr Try.underlying214 sz_30 rfl rfl (by omega)) ?_
        refine aD 3 rfl (dL rfl (hv:=KL Try.underlying30 rfl (by exact Ke _ _ _ (show i<19 by omega)))) ?_
        refine aM 4 ?_
        refine aP 5 rfl (KQ rfl) ?_
        refine aP 6 rfl (KG (o':=10) Try.underlying212 rfl rfl rfl sz_3 (by decide)) ?_
        refine aD 7 rfl (dL rfl (hv:=KL Try.underlying3 rfl (dvL_s _))) ?_
        refine aP 8 rfl (KF rfl rfl (KAL (limb_lt _ _))) ?_
        refine aP 9 rfl (KG (o':=0) Try.underlying33 rfl rfl rfl sz_31 (by decide)) ?_
        refine aP 10 rfl (Kr Try.underlying31 sz_30 rfl rfl (by omega)) ?_
        refine aL 11 rfl (Kj rfl rfl rfl sz_30 (by repeat (first|exact Sh _|apply St_)) (by first|(simp only [KH,KD,KE,Kt]; omega)|(simp; done)|(simp; omega)) (by first|exact KAH _ _ _ _ _|exact KAJ _ _ _ _ (by omega)|exact KAI _ _ _ _|rfl) (by simp) ?_)
        refine aE ?_
        refine KB (KA ?_)
        refine oM ?_
        refine oP (KQ rfl) ?_
        refine oP (KG (o':=10) Try.underlying212 rfl rfl rfl sz_3 (by decide)) ?_
        refine oD (dL rfl (hv:=KL Try.underlying3 rfl (dvL_s _))) ?_
        refine oP (KF rfl rfl (br_gtr (b:=0))) ?_
        refine KC ?_
        first|refine KS rfl (fun h103=>?_) (fun h103=>?_)|refine KU rfl (fun h103=>?_) (fun h103=>?_)
        ·
          have h103:0<dsh m:=h103
          refine rD [17] ?_
          refine aM 0 ?_
          refine aP 1 rfl (KG (o':=0) Try.underlying33 rfl rfl rfl sz_31 (by decide)) ?_
          refine aP 2 rfl (Kr Try.underlying31 sz_30 rfl rfl (by omega)) ?_
          refine aD 3 rfl (Det.load (v:=.int .u64 ((limb x.2.1 i/2^dsh m:Nat):Int)) rfl (by repeat (first|exact Mh _|apply Mt)) (KL Try.underlying30 rfl (by exact (Ke .u64 9 (fun j=>if j = i then limb x.2.1 i/2^dsh m else if j<i then limb (x.2.1/2^dsh m) j else 0) (show i<9 by omega)).trans (by show some (Value.int .u64 ((if i = i then _ else _:Nat):Int)) = _; rw [if_pos rfl])))) ?_
          refine aM 4 ?_
          refine aP 5 rfl (KF rfl rfl (Kv (b:=1) (by omega))) ?_
          refine aP 6 rfl (Kr Try.underlying214 sz_30 rfl rfl (by omega)) ?_
          refine aD 7 rfl (dL rfl (hv:=KL Try.underlying30 rfl (by exact Ke _ _ _ (show i+1<19 by omega)))) ?_
          refine aM 8 ?_
          refine aP 9 rfl (KQ rfl) ?_
          refine aP 10 rfl (KG (o':=10) Try.underlying212 rfl rfl rfl sz_3 (by decide)) ?_
          refine aD 11 rfl (dL rfl (hv:=KL Try.underlying3 rfl (dvL_s _))) ?_
          refine aP 12 rfl (KF rfl rfl (br_sub (a:=64) (by omega) (by omega))) ?_
          refine aP 13 rfl (KF rfl rfl (br_shl64)) ?_
          refine aP 14 rfl (KF rfl rfl (br_or64 (Nat.lt_of_le_of_lt (Nat.div_le_self _ _) (limb_lt _ _)) (Nat.mod_lt _ (by decide)))) ?_
          refine aP 15 rfl (KG (o':=0) Try.underlying33 rfl rfl rfl sz_31 (by decide)) ?_
          refine aP 16 rfl (Kr Try.underlying31 sz_30 rfl rfl (by omega)) ?_
          refine aL 17 rfl (Kj rfl rfl rfl sz_30 (by repeat (first|exact Sh _|apply St_)) (by first|(simp only [KH,KD,KE,Kt]; omega)|(simp; done)|(simp; omega)) (by first|exact KAH _ _ _ _ _|exact KAJ _ _ _ _ (by omega)|exact KAI _ _ _ _|rfl) (by simp) ?_)
          refine aE ?_
          refine KA ?_
          refine oP (KF rfl rfl (Kv (b:=1) (by omega))) ?_
          refine oM ?_
          refine KC ?_
          refine ⟨i+1,by omega,by omega,KAO (Sub.cells (b:=b13) (cs':=vec .u64 9 (fun j=>if j<i+1 then limb (x.2.1/2^dsh m) j else 0)) (by repeat (first|exact Sh _|apply St_)) (KAA fun j _=>?_)) (Kq ⟨rfl,rfl,rfl,rfl,rfl,rfl,rfl,rfl,trivial⟩ (by repeat (first|exact Sel.nil _|refine Sel.cons (by repeat (first|exact Ph _|apply Pt_)) ?_)))⟩
          by_cases e:j = i
          · subst e
            rw [if_pos rfl,if_pos (by omega)]
            exact rest_or hs64
          · rw [if_neg e,if_neg e]
            by_cases e2:j<i
            · rw [if_pos e2,if_pos (by omega)]
            · rw [if_neg e2,if_neg (by omega)]
        ·
          have h103:¬ 0<dsh m:=h103
          refine KT ?_
          refine KA ?_
          refine oP (KF rfl rfl (Kv (b:=1) (by omega))) ?_
          refine oM ?_
          refine KC ?_
          refine ⟨i+1,by omega,by omega,KAO (Sub.cells (b:=b13) (cs':=vec .u64 9 (fun j=>if j<i+1 then limb (x.2.1/2^dsh m) j else 0)) (by repeat (first|exact Sh _|apply St_)) (KAA fun j _=>?_)) (Kq ⟨rfl,rfl,rfl,rfl,rfl,rfl,rfl,rfl,trivial⟩ (by repeat (first|exact Sel.nil _|refine Sel.cons (by repeat (first|exact Ph _|apply Pt_)) ?_)))⟩
          by_cases e:j = i
          · subst e
            rw [if_pos rfl,if_pos (by omega),show dsh m = 0 by omega,Nat.pow_zero,Nat.div_one,Nat.div_one]
          · rw [if_neg e]
            by_cases e2:j<i
            · rw [if_pos e2,if_pos (by omega)]
            · rw [if_neg e2,if_neg (by omega)]
      ·
        have h86:¬ i<nw m:=h86
        have hin:i = nw m:=by omega
        subst hin
        refine Kp ?_
        refine KB ?_
        refine rD [2,3] ?_
        refine aD 0 rfl (dL rfl (hv:=by exact KI Try.underlying202 rfl sz_202)) ?_
        refine LAny.twoX 1 2 rfl rfl rfl rfl (by kernel_rfl) (.inr (LStep.det (dL rfl (hv:=by exact KI Try.underlying33 rfl sz_33)) (Nb rfl) ?_)) (.inl ⟨rfl,sA rfl rfl sz_202 (by repeat (first|exact Ka _|exact Kl _ _ _|exact Kc _|exact Kg _ _ _|exact Km _ _ _|exact KO|refine KJ rfl ?_|refine KP ?_ ?_)) (hl:=by first|exact KD _|exact KH _ _ _|exact KE _|exact KN _ _ _|exact KY _ _ _|rfl|simp [KH,KD,KE]) (h:=?_)⟩)
        ·
          refine aL 2 rfl (sA rfl rfl sz_202 (by repeat (first|exact Ka _|exact Kl _ _ _|exact Kc _|exact Kg _ _ _|exact Km _ _ _|exact KO|refine KJ rfl ?_|refine KP ?_ ?_)) (hl:=by first|exact KD _|exact KH _ _ _|exact KE _|exact KN _ _ _|exact KY _ _ _|rfl|simp [KH,KD,KE]) (h:=?_))
          refine aL 3 rfl (sA rfl rfl sz_33 (by repeat (first|exact Ka _|exact Kl _ _ _|exact Kc _|exact Kg _ _ _|exact Km _ _ _|exact KO|refine KJ rfl ?_|refine KP ?_ ?_)) (hl:=by first|exact KD _|exact KH _ _ _|exact KE _|exact KN _ _ _|exact KY _ _ _|rfl|simp [KH,KD,KE]) (h:=?_))
          refine aE ?_
          refine KM ?_
          have hr9:(vec IntKind.u64 9 fun j=>if j<nw m then limb (x.2.1/2^dsh m) j else 0) = natL (W%m):=by
            rw [← hend.2]
            apply KAA
            intro j hj
            by_cases e:j<nw m
            · rw [if_pos e]
            · rw [if_neg e,limb_high (Nat.lt_of_le_of_lt (Nat.div_le_self _ _) (Nat.lt_trans hx4 (dnm_lt m))) (by omega)]
          have hq9:wideL (x.2.2*2^(64*(x.1+1).toNat)) = wideL (W/m):=by rw [ha0,Nat.mul_zero,Nat.pow_zero,Nat.mul_one,hend.1]
          refine ⟨[_,_],.cons ⟨_,_,_,rfl,(by repeat (first|exact Mh _|apply Mt)),by exact KI Try.underlying202 rfl sz_202⟩ (.cons ⟨_,_,_,rfl,(by repeat (first|exact Mh _|apply Mt)),by exact KI Try.underlying33 rfl sz_33⟩ .nil),fun a w' hr=>⟨?_,hr.fr.below⟩⟩
          show Ending.returned (.tuple #[.agg (wideL (x.2.2*2^(64*(x.1+1).toNat))).toArray,.agg (vec IntKind.u64 9 fun j=>if j<nw m then limb (x.2.1/2^dsh m) j else 0).toArray]) = _
          rw [hr9,hq9]
          rfl
        ·
          refine aD 1 rfl (dL rfl (hv:=by exact KI Try.underlying33 rfl sz_33)) ?_
          refine aL 3 rfl (sA rfl rfl sz_33 (by repeat (first|exact Ka _|exact Kl _ _ _|exact Kc _|exact Kg _ _ _|exact Km _ _ _|exact KO|refine KJ rfl ?_|refine KP ?_ ?_)) (hl:=by first|exact KD _|exact KH _ _ _|exact KE _|exact KN _ _ _|exact KY _ _ _|rfl|simp [KH,KD,KE]) (h:=?_))
          refine aE ?_
          refine KM ?_
          have hr9:(vec IntKind.u64 9 fun j=>if j<nw m then limb (x.2.1/2^dsh m) j else 0) = natL (W%m):=by
            rw [← hend.2]
            apply KAA
            intro j hj
            by_cases e:j<nw m
            · rw [if_pos e]
            · rw [if_neg e,limb_high (Nat.lt_of_le_of_lt (Nat.div_le_self _ _) (Nat.lt_trans hx4 (dnm_lt m))) (by omega)]
          have hq9:wideL (x.2.2*2^(64*(x.1+1).toNat)) = wideL (W/m):=by rw [ha0,Nat.mul_zero,Nat.pow_zero,Nat.mul_one,hend.1]
          refine ⟨[_,_],.cons ⟨_,_,_,rfl,(by repeat (first|exact Mh _|apply Mt)),by exact KI Try.underlying202 rfl sz_202⟩ (.cons ⟨_,_,_,rfl,(by repeat (first|exact Mh _|apply Mt)),by exact KI Try.underlying33 rfl sz_33⟩ .nil),fun a w' hr=>⟨?_,hr.fr.below⟩⟩
          show Ending.returned (.tuple #[.agg (wideL (x.2.2*2^(64*(x.1+1).toNat))).toArray,.agg (vec IntKind.u64 9 fun j=>if j<nw m then limb (x.2.1/2^dsh m) j else 0).toArray]) = _
          rw [hr9,hq9]
          rfl
    ·
      refine KA ?_
      refine oM ?_
      refine oP (KF (v:=.bool true) rfl rfl (by simp [Kw]; omega)) ?_
      refine KC ?_
      obtain ⟨y,hy⟩:∃ y:Nat,x.1 = y:=⟨x.1.toNat,by omega⟩
      have ha1:(x.1+1).toNat = y+1:=by omega
      rw [ha1] at hx3
      rw [ha1] at hx4
      refine Kf rfl ?_
      refine KT ?_
      refine KB ?_
      refine LCode.block ?_
      refine KB (KA ?_)
      refine oM ?_
      refine oP (Det.slArr Try.underlying214 sz_30 rfl) ?_
      refine oP (KAB (v:=.int .i64 ((y:Nat):Int)) (by show some _ = some _; rw [hy])) ?_
      refine oS (LStep.callV (Post:=fun v=>∃ q:Nat,(q<18446744073709551616∧x.2.1/2^(64*y)/dnm m≤q)∧v = .int .u64 ((q:Nat):Int)) (first:=[]) rfl en_163 rfl (Nb rfl) (fun w hw=>(c_guess m x.2.1 bd b6 y true hm0 w (mC hw) (mC hw) hm (by omega) hx4).mono fun e w' ⟨q,h,h1,h2⟩=>⟨_,⟨q,h,rfl⟩,h1,h2⟩) ?_)
      rintro _ ⟨q,⟨hq1,hq2⟩,rfl⟩
      refine oA ?_
      refine KC ?_
      refine KB ?_
      refine KB (KA ?_)
      refine oM ?_
      refine oP (Det.slArr Try.underlying214 sz_30 rfl) ?_
      refine oP (KAB (v:=.int .i64 ((y:Nat):Int)) (by show some _ = some _; rw [hy])) ?_
      refine oM ?_
      refine KV rfl (LStepW.callWF (Post:=fun v cs'=>∃ U' bw,bw≤1∧U' < 2^(64*(y+nw m+1))∧U'+q*dnm m*2^(64*y) = x.2.1+bw*2^(64*(y+nw m+1))∧v = .bool (decide (bw = 1))∧cs' = vec .u64 19 (limb U')) (first:=[]) rfl en_164 rfl (Nb rfl) (fun cs'=>(by repeat (first|exact Sh _|apply St_))) (fun w hw hap=>c_take m x.2.1 bd b6 y q hq1 w (mC hw) (mC hw) (apart_blk hap (b:=b6) (by repeat (first|exact Mh _|apply Mt)) (c:=bd) (by repeat (first|exact Mh _|apply Mt)) rfl rfl) hm (by omega) (win_lt (dnm_lt m) hx4)) ?_)
      rintro _ _ ⟨U1,bw1,ht1,ht2,ht3,rfl,rfl⟩
      refine oA ?_
      refine KC ?_
      refine LCode.block ?_
      refine Ks (α:=Nat×Nat×Nat) (fun k=>k.2.2≤1∧k.2.1<2^(64*(y+nw m+1))∧k.2.1+k.1*dnm m*2^(64*y) = x.2.1+k.2.2*2^(64*(y+nw m+1))∧x.2.1/2^(64*y)/dnm m≤k.1∧k.1<18446744073709551616) (fun k=>⟨[(0,.pointer (some ⟨bd,0,none⟩)),(4,.pointer (some ⟨b4,0,none⟩)),(5,.pointer (some ⟨b5,0,none⟩)),(6,.pointer (some ⟨b6,0,none⟩)),(7,.pointer (some ⟨b7,0,none⟩)),(10,.int .i64 ((y:Nat):Int)),(11,.int .u64 ((k.1:Nat):Int)),(12,.bool (decide (k.2.2 = 1)))],[.blk b6 ⟨true,vec .u64 19 (limb k.2.1),214,(0,0)⟩,.blk b7 ⟨true,wideL (x.2.2*2^(64*(x.1+1).toNat)),202,(0,0)⟩,.blk b5 ⟨true,vec .u64 9 (fun _=>0),33,(0,0)⟩,.blk b4 ⟨true,vec .u64 18 (fun _=>0),202,(0,0)⟩,.blk bd ⟨false,dvL m,212,(0,0)⟩]⟩) (fun k=>k.1) ((q,U1,bw1)) (⟨ht1,ht2,ht3,hq2,hq1⟩) (Kq ⟨rfl,rfl,rfl,rfl,rfl,congrArg (fun i:Int=>some (Value.int .i64 i)) hy,rfl,rfl,trivial⟩ (by repeat (first|exact Sel.nil _|refine Sel.cons (by repeat (first|exact Ph _|apply Pt_)) ?_))) ?_
      intro k ⟨hk1,hk2,hk3,hk4,hk5⟩
      refine KB ?_
      refine KB (KA ?_)
      refine oM ?_
      refine KC ?_
      first|refine KS rfl (fun h69=>?_) (fun h69=>?_)|refine KU rfl (fun h69=>?_) (fun h69=>?_)
      ·
        have h69:k.2.2 = 1:=h69
        rw [h69,Nat.one_mul] at hk3
        have hqw:=quo_word hk2 hk3 hk4 (dnm_pos hm0)
        refine KT ?_
        refine KB ?_
        refine LCode.block ?_
        refine KA ?_
        refine oM ?_
        refine oP (KK (KF rfl rfl (br_sub64 (b:=1) (by decide))) (vi (b:=k.1-1) (by omega))) ?_
        refine oA ?_
        refine KC ?_
        refine KA ?_
        refine oM ?_
        refine oP (Det.slArr Try.underlying214 sz_30 rfl) ?_
        refine oM ?_
        refine KV rfl (LStepW.callWF (Post:=fun v cs'=>∃ U' c,c≤1∧U' < 2^(64*(y+nw m+1))∧U'+c*2^(64*(y+(nw m+1))) = k.2.1+dnm m*2^(64*y)∧v = .bool (decide (c = 1))∧cs' = vec .u64 19 (limb U')) (first:=[]) rfl en_165 rfl (Nb rfl) (fun cs'=>(by repeat (first|exact Sh _|apply St_))) (fun w hw hap=>c_back m k.2.1 bd b6 y w (mC hw) (mC hw) (apart_blk hap (b:=b6) (by repeat (first|exact Mh _|apply Mt)) (c:=bd) (by repeat (first|exact Mh _|apply Mt)) rfl rfl) hm (by omega) hk2) ?_)
        rintro _ _ ⟨U2,c2,hb1,hb2,hb3,rfl,rfl⟩
        refine oP (Det.not rfl) ?_
        refine oA ?_
        refine KC ?_
        refine ⟨(k.1-1,U2,1-c2),⟨by dsimp only; omega,hb2,quo_back hqw.2 hk3 (by rw [← Nat.add_assoc] at hb3; exact hb3) hb1,hqw.1,by dsimp only; omega⟩,by have:=hqw.2; dsimp only; omega,Kq ⟨rfl,rfl,rfl,rfl,rfl,rfl,rfl,?_,trivial⟩ (by repeat (first|exact Sel.nil _|refine Sel.cons (by repeat (first|exact Ph _|apply Pt_)) ?_))⟩
        refine congrArg (fun b:Bool=>some (Value.bool b)) ?_
        rcases Nat.le_one_iff_eq_zero_or_eq_one.1 hb1 with h|h <;> subst h <;> rfl
      ·
        have h69:¬ k.2.2 = 1:=h69
        have hk0:k.2.2 = 0:=by omega
        rw [hk0,Nat.zero_mul,Nat.add_zero] at hk3
        have hdn:=quo_done (dnm_pos hm0) hk3 hk4
        refine Kp ?_
        refine KA ?_
        refine oM ?_
        refine oM ?_
        refine oP (KG (o':=0) Try.underlying202 rfl rfl rfl sz_200 (by decide)) ?_
        refine oP (Kr Try.underlying200 sz_30 rfl rfl (by omega)) ?_
        refine KV rfl (Kj rfl rfl rfl sz_30 (by repeat (first|exact Sh _|apply St_)) (by first|(simp only [KH,KD,KE,Kt]; omega)|(simp; done)|(simp; omega)) (by first|exact KAH _ _ _ _ _|exact KAJ _ _ _ _ (by omega)|exact KAI _ _ _ _|rfl) (by simp) ?_)
        refine KC ?_
        refine KA ?_
        refine oM ?_
        refine oP (KF (v:=.int .i64 ((y:Int)-1)) rfl rfl (br_subI (by omega) (by omega))) ?_
        refine oA ?_
        refine KC ?_
        refine ⟨((y:Int)-1,k.2.1,x.2.2*18446744073709551616+k.1),⟨⟨by dsimp only; omega,by dsimp only; omega⟩,?_,?_⟩,by dsimp only; omega,KAO (Sub.cells (b:=b7) (cs':=wideL ((x.2.2*18446744073709551616+k.1)*2^(64*((y:Int)-1+1).toNat))) (by repeat (first|exact Sh _|apply St_)) (KAA fun j _=>?_)) (Kq ⟨rfl,rfl,rfl,rfl,rfl,rfl,trivial⟩ (by repeat (first|exact Sel.nil _|refine Sel.cons (by repeat (first|exact Ph _|apply Pt_)) ?_)))⟩
        · dsimp only
          rw [show ((y:Int)-1+1).toNat = y by omega]
          exact quo_sum hk3 hx3
        · dsimp only
          rw [show ((y:Int)-1+1).toNat = y by omega]
          exact hdn
        · rw [show ((y:Int)-1+1).toNat = y by omega,ha1]
          exact quo_store hk5 j
end Go.Proofs.Ytlmiolnccgjjjaa
set_option linter.unusedVariables false
set_option linter.unusedSimpArgs false
set_option maxRecDepth 20000
namespace Go.Proofs.Ytlmiolnccgjjjaa
open Go Go.RowKit
theorem nat_eq_iff {A B:Nat} (hA:A<W9) (hB:B<W9):(decide (A = B)) = true↔∀ i,i<9→limb A i = limb B i:=by
  constructor
  · intro h i _; rw [of_decide_eq_true h]
  · intro h; exact decide_eq_true (limb_ext hA hB h)
theorem take_all (A:Nat):(natL A).take 9 = natL A:=List.take_of_length_le (by rw [KD]; exact Nat.le_refl _)
theorem eq_nat (A B:Nat) (hA:A<W9) (hB:B<W9):EqD 3 Try.prog 33 (natV A) (natV B) (decide (A = B)):=by
  rw [← Bool.and_true (decide (A = B))]
  exact EqD.struct (fs:=[_]) Try.underlying33 (by kernel_rfl) (EqFs.cons (by decide) (PartOf.agg Try.underlying31 rfl sz_31 (take_all A)) (PartOf.agg Try.underlying31 rfl sz_31 (take_all B)) (EqD.nums (nat_eq_iff hA hB) Try.underlying31 Try.underlying30 sz_30) EqFs.nil)
theorem mul_pow18 {A B:Nat} (hA:A<W9) (hB:B<W9):∀ i,i = 18→A*B<2^(64*i):=fun i h=>by
  rw [w18 h]; exact mul_w18 hA hB
theorem nw_mul {A B:Nat} (hA:A<W9) (hB:B<W9):nw (A*B)≤18:=nw_le (mul_pow18 hA hB 18 rfl)
theorem one_w9:1<W9:=Nat.one_lt_pow (by decide) (by decide)
theorem mod_w9 {A m:Nat} (hm0:m≠0) (hm:m<W9):A%m<W9:=Nat.lt_trans (Nat.mod_lt _ (Nat.pos_of_ne_zero hm0)) hm
theorem wide_take {Q:Nat}:((wideL Q).drop 0).take 9 = natL Q:=by
  unfold wideL natL vec
  rw [List.drop_zero,← List.map_take,List.take_range]
  rfl
theorem c_zero (m bm:Nat) (wr:Bool) (w:World) (hb:(Item.blk bm ⟨wr,natL m,33,(0,0)⟩).holds w) (hm:m<W9):Calls Try.prog 159 ([.pointer (some ⟨bm,0,none⟩)]:List Value).toArray w (fun e w'=>e = .returned (.bool (decide (m = 0)))∧Below w.heap.size w w'):=by
  refine Ki (N:=8) (rs:=[.tmp 2]) [.blk bm ⟨false,natL m,33,(0,0)⟩] Try.func159 rfl Try.ntmps159 Try.results159 (Nb rfl) ⟨hb,trivial⟩ rfl ?_
  show LCode _ _ _ ⟨_,_⟩ _
  refine KB (KA ?_)
  refine oA ?_
  refine KC ?_
  refine KB (KA ?_)
  refine oM ?_
  refine oP (KQ rfl) ?_
  refine oD (dL rfl (hv:=by exact KI Try.underlying33 rfl sz_33)) ?_
  refine oP (KK (Ky pl_33 zr_33 rfl rfl) (show _ = natV 0 by unfold natV natL; rw [← vec_zeros 9])) ?_
  refine oP (Det.eqa (by kernel_rfl) (fun w=>eq_nat m 0 hm (by exact w9_pos) 10000 (by decide) w) rfl rfl) ?_
  refine oA ?_
  refine KC (KM ?_)
  refine ⟨[_],.cons rfl .nil,fun a w' hr=>⟨?_,hr.fr.below⟩⟩
  rfl
theorem c_zeroN (m bm:Nat) (wr:Bool) (hm0:m≠0) (w:World) (hb:(Item.blk bm ⟨wr,natL m,33,(0,0)⟩).holds w) (hm:m<W9):Calls Try.prog 159 ([.pointer (some ⟨bm,0,none⟩)]:List Value).toArray w (fun e w'=>e = .returned (.bool false)∧Below w.heap.size w w'):=by
  have h:=c_zero m bm wr w hb hm
  rw [decide_eq_false hm0] at h
  exact h
theorem c_By (m:Nat) (hm0:m≠0) (hm:m<W9) (w:World)  : Calls Try.prog 140 ([natV m]:List Value).toArray w (fun e w'=>∃ b,e = .returned (.agg [.pointer (some ⟨b,0,none⟩)].toArray)∧w.heap.size≤b∧(Item.blk b ⟨false,dvL m,212,(0,0)⟩).holds w'∧Below w.heap.size w w'):=by
  refine Ki (N:=5) (rs:=[.cell 2 160]) [] Try.func140 rfl Try.ntmps140 Try.results140 (Nb rfl) trivial rfl ?_
  show LCode _ _ _ ⟨_,_⟩ _
  refine KB (KA ?_)
  refine oS (mB (fun b1=>?_))
  refine oS (mk (KX zr_160) (fun b2=>?_))
  refine KC ?_
  refine KB (KA ?_)
  refine oS (LStep.call (Post:=fun v its=>∃ b,v = .pointer (some ⟨b,0,none⟩)∧its = [.blk b ⟨true,dvL m,212,(0,0)⟩]) (first:=[]) rfl en_154 rfl (Nb rfl) (fun w hw=>(c_of m b1 _ hm0 w (mC hw) hm).mono fun e w' ⟨b,h1,h2,h3,h4⟩=>⟨_,_,⟨b,rfl,rfl⟩,h1,Brings.blk1 h4 h2 h3⟩) ?_)
  rintro _ _ ⟨bd,rfl,rfl⟩
  refine oP (Ky pl_160 zr_160 rfl (((KAR (A:=([]:List Value)) (B:=([Value.pointer none])) (D:=([]:List Value)) (cs:=[.pointer (some ⟨bd,0,none⟩)]) rfl rfl (by first|exact KD _|exact KH _ _ _|exact KE _|exact Kt _ _ _|rfl|(simp only [List.length_append,List.length_cons,List.length_nil,KD,KH,KE,Kt,KN,KY])) (by first|rfl|simp only [List.append_assoc,List.nil_append,List.append_nil,List.cons_append]) (by first|exact KD _|exact KH _ _ _|exact KE _|exact Kt _ _ _|rfl|(simp only [List.length_append,List.length_cons,List.length_nil,KD,KH,KE,Kt,KN,KY])) (by first|exact KD _|exact KH _ _ _|exact KE _|exact Kt _ _ _|rfl|(simp only [List.length_append,List.length_cons,List.length_nil,KD,KH,KE,Kt,KN,KY])) rfl):fillL _ _ _ = _).trans (congrArg some (show _ = ([.pointer (some ⟨bd,0,none⟩)]) from by first|rfl|simp only [List.append_assoc,List.nil_append,List.append_nil,List.cons_append])))) ?_
  refine KV rfl (sA rfl rfl sz_160 (by repeat (first|exact Ka _|exact Kl _ _ _|exact Kc _|exact Kg _ _ _|exact Km _ _ _|exact KO|refine KJ rfl ?_|refine KP ?_ ?_)) (hl:=by first|exact KD _|exact KH _ _ _|exact KE _|exact KN _ _ _|exact KY _ _ _|rfl|simp [KH,KD,KE]) (h:=?_))
  refine KC (KM ?_)
  refine ⟨[_],.cons ⟨_,_,_,rfl,(by repeat (first|exact Mh _|apply Mt)),by exact KI Try.underlying160 rfl sz_160⟩ .nil,fun a w' hr=>⟨bd,rfl,hr.new (B:=⟨true,dvL m,212,(0,0)⟩) (by repeat (first|exact Mh _|apply Mt)) rfl,(show (Item.blk bd ⟨true,dvL m,212,(0,0)⟩).holds w' from hr.hp _ (by repeat (first|exact Mh _|apply Mt))),hr.fr.below⟩⟩
theorem c_Mul (m A B bd:Nat) (hm0:m≠0) (hm:m<W9) (w:World) (hbd:(Item.blk bd ⟨false,dvL m,212,(0,0)⟩).holds w) (hA:A<W9) (hB:B<W9):Calls Try.prog 145 ([.agg [.pointer (some ⟨bd,0,none⟩)].toArray,natV A,natV B]:List Value).toArray w (fun e w'=>e = .returned (natV (A*B%m))∧Below w.heap.size w w'):=by
  refine Ki (N:=25) (rs:=[.cell 6 33]) [.blk bd ⟨false,dvL m,212,(0,0)⟩] Try.func145 rfl Try.ntmps145 Try.results145 (Nb rfl) ⟨hbd,trivial⟩ rfl ?_
  show LCode _ _ _ ⟨_,_⟩ _
  refine KB (KA ?_)
  refine oS (mB (fun b3=>?_))
  refine oS (mB (fun b4=>?_))
  refine oS (mB (fun b5=>?_))
  refine oS (mk (KX zr_33) (fun b6=>?_))
  refine KC ?_
  refine KB (KA ?_)
  refine oD (dL rfl (hv:=by exact KI Try.underlying33 rfl sz_33)) ?_
  refine oD (dL rfl (hv:=by exact KI Try.underlying33 rfl sz_33)) ?_
  refine oS (cF rfl en_156 rfl (fun w hw=>c_nat_Mul A B hA hB w) ?_)
  refine oS (mk (KX zr_202) (fun b7=>?_))
  refine KV rfl (sA rfl rfl sz_202 (by repeat (first|exact Ka _|exact Kl _ _ _|exact Kc _|exact Kg _ _ _|exact Km _ _ _|exact KO|refine KJ rfl ?_|refine KP ?_ ?_)) (hl:=by first|exact KD _|exact KH _ _ _|exact KE _|exact KN _ _ _|exact KY _ _ _|rfl|simp [KH,KD,KE]) (h:=?_))
  refine KC ?_
  refine KB ?_
  refine rD [13,14] ?_
  refine aP 0 rfl (KG (o':=0) Try.underlying160 rfl rfl rfl sz_158 (by decide)) ?_
  refine aD 1 rfl (dL rfl (hv:=KL Try.underlying158 rfl (by first|rfl|exact Ke _ _ _ (by omega)|exact Kd _ (by omega)|exact Kb _ (by omega)|exact dv_m _ _ _ (by omega)))) ?_
  refine aP 2 rfl (KG (o':=0) Try.underlying202 rfl rfl rfl sz_200 (by decide)) ?_
  refine aP 3 rfl (KG (o':=0) Try.underlying202 rfl rfl rfl sz_200 (by decide)) ?_
  refine aP 4 rfl (Det.slArr Try.underlying200 sz_30 rfl) ?_
  refine LAny.toP ?_
  refine KAU 11 rfl (.inl zr_202) (Nb rfl) rfl rfl rfl ?_
  refine KAU 12 rfl (.inl zr_33) (Nb rfl) rfl rfl rfl ?_
  refine Kx 5 rfl rfl rfl (Nb rfl) (by kernel_rfl) rfl (KAD (first:=[]) rfl en_158 rfl (fun w hw=>c_length (A*B) b7 18 18 _ true w (mC hw) (Nat.le_refl _) (by decide) (mul_pow18 hA hB 18 rfl))) ?_
  rintro _ _ ⟨rfl,rfl⟩
  refine pP 6 rfl (Det.slArrH Try.underlying200 sz_30 rfl rfl (by omega) (by have:=nw_mul hA hB; omega)) ?_
  refine Kx 7 rfl rfl rfl (Nb rfl) (by kernel_rfl) rfl (KAD (first:=[]) rfl en_157 rfl (fun w hw=>c_divide m (A*B) bd b7 (nw (A*B)) 18 _ true hm0 w (mC hw) (mC hw) hm (nw_mul hA hB) (by decide) (lt_nw _))) ?_
  rintro _ _ ⟨rfl,rfl⟩
  refine pM 8 ?_
  refine pP 9 rfl (KW rfl rfl) ?_
  refine pP 10 rfl (KW rfl rfl) ?_
  refine pE (fun b9=>?_)
  refine pE (fun b8=>?_)
  refine LAnyP.toAny ?_
  refine aL 13 rfl (sA rfl rfl sz_202 (by repeat (first|exact Ka _|exact Kl _ _ _|exact Kc _|exact Kg _ _ _|exact Km _ _ _|exact KO|refine KJ rfl ?_|refine KP ?_ ?_)) (hl:=by first|exact KD _|exact KH _ _ _|exact KE _|exact KN _ _ _|exact KY _ _ _|rfl|simp [KH,KD,KE]) (h:=?_))
  refine aL 14 rfl (sA rfl rfl sz_33 (by repeat (first|exact Ka _|exact Kl _ _ _|exact Kc _|exact Kg _ _ _|exact Km _ _ _|exact KO|refine KJ rfl ?_|refine KP ?_ ?_)) (hl:=by first|exact KD _|exact KH _ _ _|exact KE _|exact KN _ _ _|exact KY _ _ _|rfl|simp [KH,KD,KE]) (h:=?_))
  refine aE ?_
  refine KB (KA ?_)
  refine oD (dL rfl (hv:=by exact KI Try.underlying33 rfl sz_33)) ?_
  refine KV rfl (sA rfl rfl sz_33 (by repeat (first|exact Ka _|exact Kl _ _ _|exact Kc _|exact Kg _ _ _|exact Km _ _ _|exact KO|refine KJ rfl ?_|refine KP ?_ ?_)) (hl:=by first|exact KD _|exact KH _ _ _|exact KE _|exact KN _ _ _|exact KY _ _ _|rfl|simp [KH,KD,KE]) (h:=?_))
  refine KC (KM ?_)
  refine ⟨[_],.cons ⟨_,_,_,rfl,(by repeat (first|exact Mh _|apply Mt)),by exact KI Try.underlying33 rfl sz_33⟩ .nil,fun a w' hr=>⟨?_,hr.fr.below⟩⟩
  rfl
theorem c_Div (A m:Nat) (hm0:m≠0) (w:World) (hA:A<W9) (hm:m<W9):Calls Try.prog 160 ([natV A,natV m]:List Value).toArray w (fun e w'=>e = .returned (.tuple #[natV (A/m),natV (A%m),.int .i64 ((0:Nat):Int)])∧Below w.heap.size w w'):=by
  refine Ki (N:=25) (rs:=[.cell 4 33,.cell 5 33,.tmp 6]) [] Try.func160 rfl Try.ntmps160 Try.results160 (Nb rfl) trivial rfl ?_
  show LCode _ _ _ ⟨_,_⟩ _
  refine KB (KA ?_)
  refine oS (mB (fun b2=>?_))
  refine oS (mB (fun b3=>?_))
  refine oS (mk (KX zr_33) (fun b4=>?_))
  refine oS (mk (KX zr_33) (fun b5=>?_))
  refine oP (KZ (v:=.int .i64 ((0:Nat):Int)) rfl) ?_
  refine KC ?_
  refine KB ?_
  refine KB (KA ?_)
  refine oS (cF rfl en_159 rfl (fun w hw=>c_zeroN m b3 _ hm0 w (mC hw) hm) ?_)
  refine KC ?_
  refine KR rfl ?_
  refine KT ?_
  refine KB ?_
  refine rD [9,10] ?_
  refine aP 1 rfl (KG (o':=0) Try.underlying33 rfl rfl rfl sz_31 (by decide)) ?_
  refine aP 2 rfl (Det.slArr Try.underlying31 sz_30 rfl) ?_
  refine LAny.toP ?_
  refine KAU 7 rfl (.inl zr_202) (Nb rfl) rfl rfl rfl ?_
  refine KAU 8 rfl (.inl zr_33) (Nb rfl) rfl rfl rfl ?_
  refine Kx 0 rfl rfl rfl (Nb rfl) (by kernel_rfl) rfl (LExt.call (Post:=fun v its=>∃ b,v = .pointer (some ⟨b,0,none⟩)∧its = [.blk b ⟨false,dvL m,212,(0,0)⟩]) (first:=[]) rfl en_154 rfl (fun w hw=>(c_of m b3 _ hm0 w (mC hw) hm).mono fun e w' ⟨b,h1,h2,h3,h4⟩=>⟨_,_,⟨b,rfl,rfl⟩,h1,Brings.blk1 h4 h2 h3⟩)) ?_
  rintro _ _ ⟨bd,rfl,rfl⟩
  refine Kx 3 rfl rfl rfl (Nb rfl) (by kernel_rfl) rfl (KAD (first:=[]) rfl en_157 rfl (fun w hw=>c_divide m A bd b2 9 9 _ true hm0 w (mC hw) (mC hw) hm (Nat.le_refl _) (by decide) (lt_w9_pow hA 9 rfl))) ?_
  rintro _ _ ⟨rfl,rfl⟩
  refine pM 4 ?_
  refine pP 5 rfl (KW rfl rfl) ?_
  refine pP 6 rfl (KW rfl rfl) ?_
  refine pE (fun b8=>?_)
  refine pE (fun b7=>?_)
  refine LAnyP.toAny ?_
  refine aL 9 rfl (sA rfl rfl sz_202 (by repeat (first|exact Ka _|exact Kl _ _ _|exact Kc _|exact Kg _ _ _|exact Km _ _ _|exact KO|refine KJ rfl ?_|refine KP ?_ ?_)) (hl:=by first|exact KD _|exact KH _ _ _|exact KE _|exact KN _ _ _|exact KY _ _ _|rfl|simp [KH,KD,KE]) (h:=?_))
  refine aL 10 rfl (sA rfl rfl sz_33 (by repeat (first|exact Ka _|exact Kl _ _ _|exact Kc _|exact Kg _ _ _|exact Km _ _ _|exact KO|refine KJ rfl ?_|refine KP ?_ ?_)) (hl:=by first|exact KD _|exact KH _ _ _|exact KE _|exact KN _ _ _|exact KY _ _ _|rfl|simp [KH,KD,KE]) (h:=?_))
  refine aE ?_
  refine KB ?_
  refine rD [6,7] ?_
  refine aP 0 rfl (KG (o':=0) Try.underlying202 rfl rfl rfl sz_200 (by decide)) ?_
  refine aP 1 rfl (Det.slArrH Try.underlying200 sz_30 rfl rfl (by omega) (by omega)) ?_
  refine aP 2 rfl (Det.s2a Try.underlying31 rfl (by omega)) ?_
  refine aD 3 rfl (Det.load (v:=.agg (natL (A/m)).toArray) rfl (by repeat (first|exact Mh _|apply Mt)) (LoadV.many Try.underlying31 rfl sz_31 wide_take (by simp only [KE]; decide))) ?_
  refine aP 4 rfl (Ky pl_33 zr_33 rfl (((KAR (A:=([]:List Value)) (B:=(vec .u64 9 (fun _=>0))) (D:=([]:List Value)) (cs:=natL (A/m)) rfl rfl (by first|exact KD _|exact KH _ _ _|exact KE _|exact Kt _ _ _|rfl|(simp only [List.length_append,List.length_cons,List.length_nil,KD,KH,KE,Kt,KN,KY])) (by first|rfl|simp only [List.append_assoc,List.nil_append,List.append_nil,List.cons_append]) (by first|exact KD _|exact KH _ _ _|exact KE _|exact Kt _ _ _|rfl|(simp only [List.length_append,List.length_cons,List.length_nil,KD,KH,KE,Kt,KN,KY])) (by first|exact KD _|exact KH _ _ _|exact KE _|exact Kt _ _ _|rfl|(simp only [List.length_append,List.length_cons,List.length_nil,KD,KH,KE,Kt,KN,KY])) rfl):fillL _ _ _ = _).trans (congrArg some (show _ = (natL (A/m)) from by first|rfl|simp only [List.append_assoc,List.nil_append,List.append_nil,List.cons_append])))) ?_
  refine LAny.twoX 5 6 rfl rfl rfl rfl (by kernel_rfl) (.inr (LStep.det (dL rfl (hv:=by exact KI Try.underlying33 rfl sz_33)) (Nb rfl) ?_)) (.inl ⟨rfl,sA rfl rfl sz_33 (by repeat (first|exact Ka _|exact Kl _ _ _|exact Kc _|exact Kg _ _ _|exact Km _ _ _|exact KO|refine KJ rfl ?_|refine KP ?_ ?_)) (hl:=by first|exact KD _|exact KH _ _ _|exact KE _|exact KN _ _ _|exact KY _ _ _|rfl|simp [KH,KD,KE]) (h:=?_)⟩)
  ·
    refine aL 6 rfl (sA rfl rfl sz_33 (by repeat (first|exact Ka _|exact Kl _ _ _|exact Kc _|exact Kg _ _ _|exact Km _ _ _|exact KO|refine KJ rfl ?_|refine KP ?_ ?_)) (hl:=by first|exact KD _|exact KH _ _ _|exact KE _|exact KN _ _ _|exact KY _ _ _|rfl|simp [KH,KD,KE]) (h:=?_))
    refine aL 7 rfl (sA rfl rfl sz_33 (by repeat (first|exact Ka _|exact Kl _ _ _|exact Kc _|exact Kg _ _ _|exact Km _ _ _|exact KO|refine KJ rfl ?_|refine KP ?_ ?_)) (hl:=by first|exact KD _|exact KH _ _ _|exact KE _|exact KN _ _ _|exact KY _ _ _|rfl|simp [KH,KD,KE]) (h:=?_))
    refine aP 8 rfl (KZ (v:=.int .i64 ((0:Nat):Int)) rfl) ?_
    refine aE ?_
    refine KM ?_
    refine ⟨[_,_,_],.cons ⟨_,_,_,rfl,(by repeat (first|exact Mh _|apply Mt)),by exact KI Try.underlying33 rfl sz_33⟩ (.cons ⟨_,_,_,rfl,(by repeat (first|exact Mh _|apply Mt)),by exact KI Try.underlying33 rfl sz_33⟩ (.cons rfl .nil)),fun a w' hr=>⟨?_,hr.fr.below⟩⟩
    rfl
  ·
    refine aD 5 rfl (dL rfl (hv:=by exact KI Try.underlying33 rfl sz_33)) ?_
    refine aL 7 rfl (sA rfl rfl sz_33 (by repeat (first|exact Ka _|exact Kl _ _ _|exact Kc _|exact Kg _ _ _|exact Km _ _ _|exact KO|refine KJ rfl ?_|refine KP ?_ ?_)) (hl:=by first|exact KD _|exact KH _ _ _|exact KE _|exact KN _ _ _|exact KY _ _ _|rfl|simp [KH,KD,KE]) (h:=?_))
    refine aP 8 rfl (KZ (v:=.int .i64 ((0:Nat):Int)) rfl) ?_
    refine aE ?_
    refine KM ?_
    refine ⟨[_,_,_],.cons ⟨_,_,_,rfl,(by repeat (first|exact Mh _|apply Mt)),by exact KI Try.underlying33 rfl sz_33⟩ (.cons ⟨_,_,_,rfl,(by repeat (first|exact Mh _|apply Mt)),by exact KI Try.underlying33 rfl sz_33⟩ (.cons rfl .nil)),fun a w' hr=>⟨?_,hr.fr.below⟩⟩
    rfl
end Go.Proofs.Ytlmiolnccgjjjaa
set_option linter.unusedVariables false
namespace Go.Proofs.Ytlmiolnccgjjjaa
open Go Go.RowKit
theorem word_digits (A i:Nat):limb A i = D.limb A (2*i)+4294967296*D.limb A (2*i+1):=by
  unfold limb D.limb
  have h1:A/2^(32*(2*i+1)) = A/2^(64*i)/4294967296:=by
    rw [Nat.div_div_eq_div_mul,show (4294967296:Nat) = 2^32 from rfl,← Nat.pow_add]; congr 2; omega
  rw [h1,show 32*(2*i) = 64*i by omega]
  generalize A/2^(64*i) = q
  omega
theorem digit_low (A i:Nat):limb A i%4294967296 = D.limb A (2*i):=by
  have:=word_digits A i
  have:=D.limb_lt A (2*i)
  omega
theorem digit_high (A i:Nat):limb A i/4294967296 = D.limb A (2*i+1):=by
  have:=word_digits A i
  have:=D.limb_lt A (2*i)
  omega
theorem or_digits {a b:Nat} (ha:a<4294967296) (hb:b<4294967296):(a ||| b*4294967296%18446744073709551616) = a+4294967296*b:=by
  have h:=or_high (a:=a) (z:=b) (s:=32) ha (by decide)
  rw [show (2:Nat)^32 = 4294967296 from rfl] at h
  rw [h,Nat.mod_eq_of_lt (by omega)]; omega
theorem word_or (A i:Nat):(D.limb A (2*i) ||| D.limb A (2*i+1)*4294967296%18446744073709551616) = limb A i:=by
  rw [or_digits (D.limb_lt _ _) (D.limb_lt _ _),word_digits]
theorem w9_digits {i:Nat} (h:i = 18):2^(32*i) = W9:=by
  obtain ⟨j,hj⟩:∃ j:Nat,j = 9:=⟨9,rfl⟩
  rw [← w9 hj,show 32*i = 64*j by omega]
theorem lt_w9_dig {A:Nat} (h:A<W9):∀ n,n = 18→A<2^(32*n):=fun n hn=>by rw [w9_digits hn]; exact h
theorem nw_w9_dig {A:Nat} (h:A<W9):D.nw A≤18:=D.nw_le (lt_w9_dig h 18 rfl)
namespace D
theorem limb_zero (i:Nat):limb 0 i = 0:=by simp [limb]
theorem nw_ne {A:Nat} (h:nw A≠0):2^(32*(nw A-1))≤A:=by
  have hA:A≠0:=fun e=>h (by rw [e]; rfl)
  have h1:=blen_pos hA
  have h2:=blen_ne hA
  exact Nat.le_trans (Nat.pow_le_pow_right (by decide) (by unfold nw; omega)) h1
theorem bits_words {A:Nat} (h:nw A≠0):32*(nw A-1)+blen (limb A (nw A-1)) = blen A:=by
  have h1:=nw_ne h
  rw [limb_top (A:=A) (n:=nw A-1) (by rw [show nw A-1+1 = nw A by omega]; exact lt_nw A)]
  have:=blen_shr h1
  omega
theorem nw_mono {A B:Nat} (h:A≤B):nw A≤nw B:=nw_le (Nat.lt_of_le_of_lt h (lt_nw B))
theorem lt_of_nw {A B:Nat} (h:nw A<nw B):A<B:=Nat.lt_of_not_le fun h'=>by have:=nw_mono h'; omega
theorem carry_borrow {A B:Nat} (h:B≤A) (i:Nat):carry B (A-B) i = borrow A B i:=by
  have hp:=pow64_pos i
  have h0:(B%2^(32*i)+(A-B)%2^(32*i))%2^(32*i) = A%2^(32*i):=by rw [← Nat.add_mod]; congr 1; omega
  unfold carry borrow
  have h1:=Nat.mod_lt B hp
  have h2:=Nat.mod_lt (A-B) hp
  generalize B%2^(32*i) = b at *
  generalize (A-B)%2^(32*i) = d at *
  generalize A%2^(32*i) = a at *
  generalize 2^(32*i) = M at *
  by_cases hc:b+d<M
  · rw [Nat.mod_eq_of_lt hc] at h0
    rw [Nat.div_eq_of_lt hc,if_neg (by omega)]
  · have e:b+d = (b+d-M)+M:=by omega
    rw [e,Nat.add_mod_right,Nat.mod_eq_of_lt (by omega)] at h0
    rw [e,Nat.add_div_right _ hp,Nat.div_eq_of_lt (by omega),if_pos (by omega)]
theorem sub_limb {A B:Nat} (h:B≤A) (i:Nat):(limb A i+4294967296-limb B i-borrow A B i)%4294967296 = limb (A-B) i∧1-(limb A i+4294967296-limb B i-borrow A B i)/4294967296 = borrow A B (i+1):=by
  have h1:=add_limb B (A-B) i
  rw [carry_borrow h,carry_borrow h,show B+(A-B) = A by omega] at h1
  have h2:=limb_lt A i
  have h3:=limb_lt B i
  have h4:=limb_lt (A-B) i
  have h5:=borrow_le A B i
  have h6:=borrow_le A B (i+1)
  omega
theorem add_lt {A B k:Nat} (hA:A<2^(32*k)) (hB:B<2^(32*k)):A+B<2^(32*(k+1)):=by
  rw [pow64_succ]; omega
theorem carry_top {A B k:Nat} (hA:A<2^(32*k)) (hB:B<2^(32*k)):carry A B k = limb (A+B) k:=by
  unfold carry limb
  rw [Nat.mod_eq_of_lt hA,Nat.mod_eq_of_lt hB,Nat.mod_eq_of_lt]
  rw [Nat.div_lt_iff_lt_mul (pow64_pos k)]
  have:=pow64_pos k
  omega
theorem ext {n A B:Nat} (hA:A<2^(32*n)) (hB:B<2^(32*n)) (h:∀ i,i<n→limb A i = limb B i):A = B:=by
  have key:∀ k,k≤n→A/2^(32*(n-k)) = B/2^(32*(n-k)):=by
    intro k
    induction k with
    | zero=>intro _; rw [Nat.sub_zero,Nat.div_eq_of_lt hA,Nat.div_eq_of_lt hB]
    | succ k ih =>
      intro hk
      refine (div_eq_iff_limb A B (n-(k+1))).2 ⟨?_,h _ (by omega)⟩
      rw [show n-(k+1)+1 = n-k by omega]
      exact ih (by omega)
  have:=key n (Nat.le_refl _)
  simpa using this
theorem limb_below {V y s i k w : Nat} (hs : s * w = 32) (hk : k < w) (hi : V % 2 ^ (s * (w * i + k + 1)) = 0) (hy : y < 2 ^ s) : (limb V i ||| y * 2 ^ (s * k) % 4294967296) < 4294967296 ∧
    ∀ j,limb (V+y*2^(s*(w*i+k))) j = if j = i then (limb V i ||| y*2^(s*k)%4294967296) else limb V j:=by
  have h1:2^(s*(w*i+k)) = 2^(s*k)*2^(32*i):=by
    rw [← Nat.pow_add,Nat.mul_add,← Nat.mul_assoc,hs]; congr 1; omega
  have hle:s*k+s≤32:=by
    have:s*(k+1)≤s*w:=Nat.mul_le_mul_left _ hk
    rw [Nat.mul_succ] at this
    omega
  have hpos:0<2^(s*k):=Nat.pow_pos (by decide)
  have hylt:y*2^(s*k)<2^(s*k+s):=by
    rw [Nat.add_comm,Nat.pow_add]; exact Nat.mul_lt_mul_of_pos_right hy hpos
  have hle2:2^(s*k+s)≤4294967296:=by
    have:2^(s*k+s)≤2^32:=Nat.pow_le_pow_right (by decide) hle
    exact this
  have h2:2^(s*(w*i+k+1)) = 2^(s*k+s)*2^(32*i):=by
    rw [← Nat.pow_add,Nat.mul_add,Nat.mul_add,← Nat.mul_assoc,hs]; congr 1; omega
  obtain ⟨m,hm⟩:=Nat.dvd_of_mod_eq_zero hi
  have hl:limb V i = m*2^(s*k+s)%4294967296:=by
    unfold limb
    rw [hm,h2,show 2^(s*k+s)*2^(32*i)*m = m*2^(s*k+s)*2^(32*i) by rw [Nat.mul_comm _ m,Nat.mul_assoc],Nat.mul_div_cancel _ (pow64_pos _)]
  have ho:(limb V i ||| y*2^(s*k)%4294967296) = limb V i+y*2^(s*k):=by
    rw [Nat.mod_eq_of_lt (show y*2^(s*k)<4294967296 by omega),hl,Nat.or_comm,or_high hylt hle,Nat.add_comm]
  have hlt:limb V i+y*2^(s*k)<4294967296:=by
    rw [← ho]
    exact Nat.or_lt_two_pow (n:=32) (limb_lt V i) (Nat.mod_lt _ (by decide))
  rw [ho]
  refine ⟨hlt,fun j=>?_⟩
  have:=limb_addl V (y*2^(s*k)) i j hlt
  rw [← this,h1,Nat.mul_assoc]
end D
theorem limb_piece64 {V y s i k w : Nat} (hs : s * w = 64) (hk : k < w) (hi : V < 2 ^ (s * (w * i + k))) (hy : y < 2 ^ s) : (limb V i ||| y * 2 ^ (s * k) % 18446744073709551616) < 18446744073709551616 ∧
    ∀ j,limb (y*2^(s*(w*i+k))+V) j = if j = i then (limb V i ||| y*2^(s*k)%18446744073709551616) else limb V j:=by
  have h1:2^(s*(w*i+k)) = 2^(s*k)*2^(64*i):=by
    rw [← Nat.pow_add,Nat.mul_add,← Nat.mul_assoc,hs]; congr 1; omega
  have hl:limb V i<2^(s*k):=by
    have:V/2^(64*i)<2^(s*k):=by
      rw [Nat.div_lt_iff_lt_mul (pow64_pos _),← h1]; exact hi
    exact Nat.lt_of_le_of_lt (Nat.mod_le _ _) this
  have hle:s*k+s≤64:=by
    have:s*(k+1)≤s*w:=Nat.mul_le_mul_left _ hk
    rw [Nat.mul_succ] at this
    omega
  have hlt:y*2^(s*k)+2^(s*k)≤18446744073709551616:=by
    have h2:(y+1)*2^(s*k)≤2^s*2^(s*k):=Nat.mul_le_mul_right _ hy
    have h3:2^s*2^(s*k)≤2^64:=by rw [← Nat.pow_add]; exact Nat.pow_le_pow_right (by decide) (by omega)
    rw [Nat.add_mul] at h2
    have h4:(2:Nat)^64 = 18446744073709551616:=rfl
    omega
  have hpos:0<2^(s*k):=Nat.pow_pos (by decide)
  have ho:(limb V i ||| y*2^(s*k)%18446744073709551616) = limb V i+y*2^(s*k):=by
    rw [or_high hl (by omega),Nat.mod_eq_of_lt (by omega)]
  rw [ho]
  refine ⟨by omega,fun j=>?_⟩
  have:=limb_addl V (y*2^(s*k)) i j (by omega)
  rw [← this,h1,Nat.mul_assoc,Nat.add_comm]
end Go.Proofs.Ytlmiolnccgjjjaa
set_option linter.unusedVariables false
set_option linter.unusedSimpArgs false
set_option maxRecDepth 20000
namespace Go.Proofs.Ytlmiolnccgjjjaa
open Go Go.RowKit
theorem c_trim (A b n c m:Nat) (ty:TypeId) (wr:Bool) (w:World) (hb:(Item.blk b ⟨wr,vec .u32 m (D.limb A),ty,(0,0)⟩).holds w) (hnm:n≤m) (hnc:n≤c) (hc:n<9223372036854775808) (hA:A<2^(32*n)):Calls Try.prog 87 ([.slice (some ⟨b,0,none⟩) n c]:List Value).toArray w (fun e w'=>e = .returned (.slice (some ⟨b,0,none⟩) (D.nw A) c)∧Below w.heap.size w w'):=by
  refine Ki (N:=21) (rs:=[.tmp 2]) [.blk b ⟨false,vec .u32 m (D.limb A),ty,(0,0)⟩] Try.func87 rfl Try.ntmps87 Try.results87 (Nb rfl) ⟨hb,trivial⟩ rfl ?_
  show LCode _ _ _ ⟨_,_⟩ _
  refine KB (KA ?_)
  refine oA ?_
  refine KC ?_
  refine KB (KA ?_)
  refine oM ?_
  refine oP (KAC Try.underlying24 rfl) ?_
  refine oA ?_
  refine KC ?_
  refine KB ?_
  refine LCode.block ?_
  refine Ks (α:=Nat) (fun x=>x≤n∧A<2^(32*x)) (fun x=>⟨[(0,.slice (some ⟨b,0,none⟩) n c),(3,.int .i64 ((x:Nat):Int))],[.blk b ⟨false,vec .u32 m (D.limb A),ty,(0,0)⟩]⟩) (fun x=>x) (n) (⟨Nat.le_refl _,hA⟩) (Kq ⟨rfl,rfl,trivial⟩ (by repeat (first|exact Sel.nil _|refine Sel.cons (by repeat (first|exact Ph _|apply Pt_)) ?_))) ?_
  rintro x ⟨hx,hlt⟩
  refine KB ?_
  refine KB ?_
  by_cases h0:0<x
  ·
    refine KA ?_
    refine oM ?_
    refine oP (KF rfl rfl (br_t (br_gtr (b:=0)) h0)) ?_
    refine oM ?_
    refine oGM ?_
    refine oGM ?_
    refine oGP (KF rfl rfl (br_sub (b:=1) (by omega) (by omega))) ?_
    refine oGP (Ko Try.underlying24 sz_67 rfl rfl (by omega)) ?_
    refine KAQ rfl rfl (dL rfl (hv:=KL Try.underlying67 rfl (by exact Ke _ _ _ (show x-1<m by omega)))) (Nb rfl) ?_
    refine oGP (KF rfl rfl (br_eql (b:=0))) ?_
    refine oP (Kn rfl rfl) ?_
    refine KC ?_
    first|refine KS rfl (fun h15=>?_) (fun h15=>?_)|refine KU rfl (fun h15=>?_) (fun h15=>?_)
    ·
      have h15:D.limb A (x-1) = 0:=by have:=h15; simpa using this
      refine KT ?_
      refine LCode.block ?_
      refine KA ?_
      refine oM ?_
      refine oP (KF rfl rfl (br_sub (b:=1) (by omega) (by omega))) ?_
      refine oA ?_
      refine KC ?_
      refine ⟨x-1,⟨by omega,?_⟩,by omega,Kq ⟨rfl,rfl,trivial⟩ (by repeat (first|exact Sel.nil _|refine Sel.cons (by repeat (first|exact Ph _|apply Pt_)) ?_))⟩
      exact D.lt_of_limb_zero (A:=A) (n:=x-1) (by rw [show x-1+1 = x by omega]; exact hlt) h15
    ·
      have h15:¬ D.limb A (x-1) = 0:=by have:=h15; simpa using this
      refine Kp ?_
      refine KB (KA ?_)
      refine oM ?_
      refine oM ?_
      refine oP (Det.slH Try.underlying24 sz_67 rfl rfl (by omega) (by omega)) ?_
      refine oA ?_
      refine KC (KM ?_)
      have he:D.nw A = x:=D.nw_eq hlt (.inr (D.le_of_limb (A:=A) (n:=x-1) (by rw [show x-1+1 = x by omega]; exact hlt) h15))
      refine ⟨[_],.cons rfl .nil,fun a w' hr=>⟨?_,hr.fr.below⟩⟩
      rw [he]; rfl
  ·
    refine KA ?_
    refine oM ?_
    refine oP (KF rfl rfl (br_f (br_gtr (b:=0)) h0)) ?_
    refine oM ?_
    refine oK ?_
    refine oK ?_
    refine oK ?_
    refine oK ?_
    refine oK ?_
    refine oK ?_
    refine oP (Kh rfl rfl) ?_
    refine KC ?_
    refine KR rfl ?_
    refine Kp ?_
    refine KB (KA ?_)
    refine oM ?_
    refine oM ?_
    refine oP (Det.slH Try.underlying24 sz_67 rfl rfl (by omega) (by omega)) ?_
    refine oA ?_
    refine KC (KM ?_)
    have he:D.nw A = x:=D.nw_eq hlt (.inl (by omega))
    refine ⟨[_],.cons rfl .nil,fun a w' hr=>⟨?_,hr.fr.below⟩⟩
    rw [he]; rfl
theorem c_n_From (A:Nat) (hA:A<W9) (w:World)  : Calls Try.prog 46 ([natV A]:List Value).toArray w (fun e w'=>NumR w ([]) (A) (fun v=>v) e w'):=by
  refine Ki (N:=33) (rs:=[.tmp 2]) [] Try.func46 rfl Try.ntmps46 Try.results46 (Nb rfl) trivial rfl ?_
  show LCode _ _ _ ⟨_,_⟩ _
  refine KB (KA ?_)
  refine oS (mB (fun b1=>?_))
  refine oA ?_
  refine KC ?_
  refine KB (KA ?_)
  refine oS (mk (Makes.mkV Try.underlying24 inf_67 rfl rfl (by decide) (by decide)) (fun b5=>?_))
  refine oA ?_
  refine KC ?_
  refine KB ?_
  refine KB (KA ?_)
  refine oP (KZ (v:=.int .i64 ((0:Nat):Int)) rfl) ?_
  refine KC ?_
  refine LCode.block ?_
  refine Ks (α:=Nat) (fun x=>x≤9) (fun x=>⟨[(1,.pointer (some ⟨b1,0,none⟩)),(3,.slice (some ⟨b5,0,none⟩) 18 18),(4,.int .i64 ((x:Nat):Int))],[.blk b5 ⟨true,vec .u32 18 (fun j=>if j<2*x then D.limb A j else 0),67,(0,0)⟩,.blk b1 ⟨true,natL A,33,(0,0)⟩]⟩) (fun x=>9-x) (0) (Nat.zero_le _) (Kq ⟨rfl,rfl,rfl,trivial⟩ (by repeat (first|exact Sel.nil _|refine Sel.cons (by repeat (first|exact Ph _|apply Pt_)) ?_))) ?_
  intro x hx
  refine KB ?_
  refine KB (KA ?_)
  refine oM ?_
  refine oP (KF rfl rfl (KAT (b:=9))) ?_
  refine KC ?_
  first|refine KS rfl (fun h7=>?_) (fun h7=>?_)|refine KU rfl (fun h7=>?_) (fun h7=>?_)
  ·
    refine KT ?_
    refine KB ?_
    refine LCode.block ?_
    refine KB (KA ?_)
    refine oM ?_
    refine oM ?_
    refine oP (KF rfl rfl (br_mul (a:=2) (by omega))) ?_
    refine oM ?_
    refine oP (KG (o':=0) Try.underlying33 rfl rfl rfl sz_31 (by decide)) ?_
    refine oP (Kr Try.underlying31 sz_30 rfl rfl (by omega)) ?_
    refine oD (dL rfl (hv:=KL Try.underlying30 rfl (by exact Kd _ (by omega)))) ?_
    refine oP (KF rfl rfl (br_and64 (b:=4294967295) (limb_lt _ _) (by decide))) ?_
    refine oP (KAP Try.underlying30 Try.underlying67 rfl) ?_
    refine oP (Ko Try.underlying24 sz_67 rfl rfl (by omega)) ?_
    refine KV rfl (Kj rfl rfl rfl sz_67 (by repeat (first|exact Sh _|apply St_)) (by first|(simp only [KH,KD,KE,Kt]; omega)|(simp; done)|(simp; omega)) (by first|exact KAH _ _ _ _ _|exact KAJ _ _ _ _ (by omega)|exact KAI _ _ _ _|rfl) (by simp) ?_)
    refine KC ?_
    refine KA ?_
    refine oM ?_
    refine oM ?_
    refine oP (KF rfl rfl (br_mul (a:=2) (by omega))) ?_
    refine oP (KF rfl rfl (Kv (b:=1) (by omega))) ?_
    refine oM ?_
    refine oP (KG (o':=0) Try.underlying33 rfl rfl rfl sz_31 (by decide)) ?_
    refine oP (Kr Try.underlying31 sz_30 rfl rfl (by omega)) ?_
    refine oD (dL rfl (hv:=KL Try.underlying30 rfl (by exact Kd _ (by omega)))) ?_
    refine oP (KF rfl rfl (KAL (b:=32) (limb_lt _ _))) ?_
    refine oP (KAP Try.underlying30 Try.underlying67 rfl) ?_
    refine oP (Ko Try.underlying24 sz_67 rfl rfl (by omega)) ?_
    refine KV rfl (Kj rfl rfl rfl sz_67 (by repeat (first|exact Sh _|apply St_)) (by first|(simp only [KH,KD,KE,Kt]; omega)|(simp; done)|(simp; omega)) (by first|exact KAH _ _ _ _ _|exact KAJ _ _ _ _ (by omega)|exact KAI _ _ _ _|rfl) (by simp) ?_)
    refine KC ?_
    refine KA ?_
    refine oM ?_
    refine oP (KF rfl rfl (Kv (b:=1) (by omega))) ?_
    refine oA ?_
    refine KC ?_
    refine ⟨x+1,by omega,by omega,KAO (Sub.cells (b:=b5) (cs':=vec .u32 18 (fun j=>if j<2*(x+1) then D.limb A j else 0)) (by repeat (first|exact Sh _|apply St_)) (KAA fun j hj=>?_)) (Kq ⟨rfl,rfl,rfl,trivial⟩ (by repeat (first|exact Sel.nil _|refine Sel.cons (by repeat (first|exact Ph _|apply Pt_)) ?_)))⟩
    by_cases e:j = 2*x+1
    · rw [if_pos e,if_pos (by omega),e,← digit_high]
      exact Nat.mod_eq_of_lt (by have:=limb_lt A x; rw [show (2:Nat)^32 = 4294967296 from rfl]; omega)
    · rw [if_neg e]
      by_cases e2:j = 2*x
      · rw [if_pos e2,if_pos (by omega),e2,and32,Nat.mod_mod,digit_low]
      · rw [if_neg e2]
        by_cases e3:j<2*x
        · rw [if_pos e3,if_pos (by omega)]
        · rw [if_neg e3,if_neg (by omega)]
  ·
    refine Kp ?_
    refine KB ?_
    obtain rfl:x = 9:=by omega
    refine LCode.sub (Sub.cells (b:=b5) (cs':=vec .u32 18 (D.limb A)) (by repeat (first|exact Sh _|apply St_)) (KAA fun j hj=>if_pos (by omega))) ?_
    refine KA ?_
    refine oM ?_
    refine oS (cF rfl en_87 rfl (fun w hw=>c_trim A b5 18 18 18 _ true w (mC hw) (Nat.le_refl _) (Nat.le_refl _) (by decide) (lt_w9_dig hA 18 rfl)) ?_)
    refine oA ?_
    refine KC (KM ?_)
    refine ⟨[_],.cons rfl .nil,fun a w' hr=>hr.num (by repeat (first|exact Mh _|apply Mt)) (lt_w9_dig hA 18 rfl)⟩
theorem c_n_digit (q:NV) (A n i:Nat) (w:World) (hq:(numI q A n).holds w):Calls Try.prog 95 ([slV q n,.int .i64 ((i:Nat):Int)]:List Value).toArray w (fun e w'=>e = .returned (.int .u64 ((D.limb A i:Nat):Int))∧Below w.heap.size w w'):=by
  have hA:=numI_lt hq
  refine Ki (N:=14) (rs:=[.tmp 4]) [numI q A n] Try.func95 rfl Try.ntmps95 Try.results95 (Nb rfl) ⟨hq,trivial⟩ rfl ?_
  show LCode _ _ _ ⟨_,_⟩ _
  refine KB (KA ?_)
  refine oP (KZ (v:=.int .u64 ((0:Nat):Int)) rfl) ?_
  refine KC ?_
  refine KB ?_
  refine KB (KA ?_)
  refine oM ?_
  refine oM ?_
  refine oP (KAC Try.underlying24 rfl) ?_
  refine oP (KF rfl rfl (KAT)) ?_
  refine KC ?_
  first|refine KS rfl (fun h8=>?_) (fun h8=>?_)|refine KU rfl (fun h8=>?_) (fun h8=>?_)
  ·
    have h8:i<n:=h8
    refine KB (KA ?_)
    refine oM ?_
    refine oM ?_
    refine oP (KAW Try.underlying24 sz_67 rfl rfl (by omega)) ?_
    refine oD (Det.loadN Try.underlying67 rfl rfl (by repeat (first|exact Mh _|apply Mt)) (by omega)) ?_
    refine oP (KAE Try.underlying67 Try.underlying30 rfl (by first|omega|exact Nat.lt_trans (D.limb_lt _ _) (by decide))) ?_
    refine oA ?_
    refine KC (KM ?_)
    refine ⟨[_],.cons rfl .nil,fun a w' hr=>⟨rfl,hr.fr.below⟩⟩
  ·
    have h8:¬ i<n:=h8
    refine KT ?_
    refine KB (KA ?_)
    refine oP (KZ (v:=.int .u64 ((0:Nat):Int)) rfl) ?_
    refine KC (KM ?_)
    have hz:D.limb A i = 0:=D.limb_high (n:=n) hA (by omega)
    refine ⟨[_],.cons rfl .nil,fun a w' hr=>⟨?_,hr.fr.below⟩⟩
    rw [hz]; rfl
end Go.Proofs.Ytlmiolnccgjjjaa
set_option linter.unusedVariables false
set_option linter.unusedSimpArgs false
namespace Go.Proofs.Ytlmiolnccgjjjaa
open Go Go.RowKit
theorem cellOf {w:World} {b:Nat} {cs:List Value} {e:TypeId} {fz:Nat×Nat} (h:w.heap[b]? = some (.cells cs.toArray e fz)) (o:Nat):w.cell? ⟨b,o,none⟩ = cs[o]?:=cell_of (B:=⟨true,cs,e,fz⟩) h o
theorem exec_append {P : Program} {a : Act} {w w' : World} {x y : Operand} {v u r : Value} {t : TypeId} {d : Nat} {ty : TypeId} {pos : String} {aft : Array Edge} {g : Option (Nat × Bool)} (hx : a.eval x = v) (hy : a.eval y = u)
    (h:(Builtin.append_ #[t,t] ty #[v,u]).run P w = .ok r w'):(execOp a.eval ⟨some d,.call { callee:=.builtin .append,args:=#[x,y],argTypes:=#[t,t] },ty,pos,aft,g⟩).run P w = .ok (.value r) w':=by
  simp only [execOp,resolve,invoke,builtin,Sem.run_bind,Sem.run_pure,Result.andThen_ok,List.map_toArray,List.map_cons,List.map_nil,hx,hy,h]
theorem run_load_num {P:Program} {w:World} {q:NV} {A n m:Nat} (h:(numI q A n).holds w) (hm:m≤n) (h0:0<n):(loadCells ⟨q.b,0,none⟩ m).run P w = .ok (vec .u32 m (D.limb A)).toArray w:=by
  obtain ⟨rest,ty,fz,hb⟩:=(numI_get h).2 (pz_pos q h0).2.2
  have h1:=run_loadCells_list (P:=P) w ⟨q.b,0,none⟩ (vec .u32 m (D.limb A)) (fun j u hj=>by
    have ha:(⟨q.b,0,none⟩:Addr).add j = ⟨q.b,0+j,none⟩:=by unfold Addr.add; split <;> simp_all
    rw [ha,cellOf hb,Nat.zero_add]
    have hj':j<m:=by
      rcases Nat.lt_or_ge j m with h'|h'
      · exact h'
      · rw [List.getElem?_eq_none (by rw [KH]; exact h')] at hj; cases hj
    rw [Ke _ _ _ hj'] at hj
    rw [List.getElem?_append_left (by rw [KH]; omega),Ke _ _ _ (by omega)]
    exact hj)
  rwa [KH] at h1
theorem numI_cells {w:World} {q:NV} {A n:Nat} (h:(numI q A n).holds w) (h0:0<n):∀ j u,(vec .u32 n (D.limb A))[j]? = some u→w.cell? ((⟨q.b,0,none⟩:Addr).add j) = some u:=by
  obtain ⟨rest,ty,fz,hb⟩:=(numI_get h).2 (pz_pos q h0).2.2
  intro j u hj
  have ha:(⟨q.b,0,none⟩:Addr).add j = ⟨q.b,0+j,none⟩:=by unfold Addr.add; split <;> simp_all
  rw [ha,cellOf hb,Nat.zero_add]
  have hj':j<n:=by
    rcases Nat.lt_or_ge j n with h'|h'
    · exact h'
    · rw [List.getElem?_eq_none (by rw [KH]; exact h')] at hj; cases hj
  rw [List.getElem?_append_left (by rw [KH]; exact hj')]
  exact hj
section
variable {P:Program} {C:Ctx} {ty:TypeId} {pos:String} {aft:Array Edge} {d:Nat} {x y z:Operand} {v u:Value} {t s e:TypeId} {K:St→Prop}
theorem LStepW.copyN {T : List (Nat × Value)} {H H' : List Item} {b l c n A u0 : Nat} {q : NV} {ats : List TypeId} {et : TypeId} {cs0 cs' : List Value} {g : Option (Nat × Bool)} (hx : evT T x = some (.slice (some ⟨b, 0, none⟩) l c)) (hy : evT T y = some (.slice (pz q n) n u0))
    (hat:ats[0]? = some t) (ht:P.underlying t = some (.slice e)) (he:szOf P e = some 1) (hq:numI q A n∈H) (hl:n≤l) (hlc:l≤cs0.length) (hd:d<C.N)
    (hs:SetAt b ⟨true,cs0,et,(0,0)⟩ ⟨true,cs',et,(0,0)⟩ H H') (hc':splice cs0 0 (vec .u32 n (D.limb A)) = cs')
    (h:K ⟨(d,.int .i64 (n:Int)) :: T,H'⟩):LStepW P C ⟨some d,.call { callee:=.builtin .copy,args:=#[x,y],argTypes:=ats.toArray },ty,pos,aft,g⟩ ⟨T,H⟩ K:=by
  subst hc'
  unfold LStepW
  intro a w hr Qr
  have hb:=hr.hp _ hs.mem
  have hn:=hr.hp _ hq
  have hfc:(Builtin.firstCells 1 n (.slice (pz q n) n u0)).run P w = .ok (vec .u32 n (D.limb A)).toArray w:=by
    rcases Nat.eq_zero_or_pos n with h0|h0
    · subst h0
      cases hz:pz q 0 with
      | none=>simp [Builtin.firstCells,vec]
      | some ad=>simp [Builtin.firstCells,vec,loadCells,loadCellsFrom]
    · rw [(pz_pos q h0).1]
      simpa [Builtin.firstCells] using run_load_num (P:=P) hn (Nat.le_refl n) h0
  obtain ⟨w',r,hx',hk,hz,ho,htp,hu⟩:=run_storeCells (P:=P) b et (0,0) (vec .u32 n (D.limb A)) 0 0 cs0 w hb (fun c hc=>by
    obtain ⟨i,_,rfl⟩:=List.mem_map.1 hc
    rfl) (by rw [KH]; omega) (fun j hj=>by simp)
  have hsz:=run_sizeOf he w
  have hmin:Nat.min n l = n:=Nat.min_eq_left hl
  unfold Oper.wp
  have hrun:(execOp a.eval ⟨some d,.call { callee:=.builtin .copy,args:=#[x,y],argTypes:=ats.toArray },ty,pos,aft,g⟩).run P w = .ok (.value (.int .i64 (n:Int))) w':=by
    simp [execOp,hr.ev hx,hr.ev hy,resolve,invoke,builtin,Builtin.copy_,hat,run_underlying ht,Builtin.lenOf,hmin,hsz,hfc,r,goInt]
  rw [hrun]
  exact ⟨_,h,(hr.setBlk hs rfl (by simpa [Item.holds] using hx') hk hz ho htp hu).put hd _⟩
theorem Rel.toNum {T : List (Nat × Value)} {H H0 : List Item} {b n A c : Nat} {et : TypeId} {fz : Nat × Nat} {a : Act} {w : World} (hr : Rel C ⟨T, H⟩ a w) (hp : Pick (.blk b ⟨true, vec .u32 n (D.limb A), et, fz⟩) H H0) (hA : A < 2 ^ (32 * n)) :
    Rel C ⟨T,numT ⟨false,b,c⟩ A :: H0⟩ a w:=by
  have hpm:=hp.perm
  have hd:(Item.blk b ⟨true,vec .u32 n (D.limb A),et,fz⟩ :: H0).Pairwise Apart:=(List.Perm.pairwise_iff (fun h=>Apart.symm h) hpm).1 hr.dist
  have hm:∀ x,x∈H0→x∈H:=fun x hx=>hpm.mem_iff.2 (.tail _ hx)
  have hin:Item.blk b ⟨true,vec .u32 n (D.limb A),et,fz⟩∈H:=hpm.mem_iff.2 (.head _)
  obtain ⟨h1,h2⟩:=List.pairwise_cons.1 hd
  refine ⟨hr.size,hr.defers,hr.tm,?_,?_,List.pairwise_cons.2 ⟨?_,h2⟩,hr.fr⟩
  · intro x hx
    rcases List.mem_cons.1 hx with rfl|hx
    · exact numT_blk (hr.hp _ hin) hA
    · exact hr.hp x (hm x hx)
  · intro x hx hw
    rcases List.mem_cons.1 hx with rfl|hx
    · cases hw
    · exact hr.own x (hm x hx) hw
  · intro y hy hw k hk
    rcases hw with hw|hw
    · cases hw
    · have hk' : k = b := by
        unfold numT numI Item.fp fpz at hk
        simpa using hk
      subst hk'
      exact h1 y hy (.inr hw) k (by simp [Item.fp])
theorem LOps.toNum {ops : Array Oper} {rest : List Oper} {Q : Exit → St → Prop} {T : List (Nat × Value)} {H H0 : List Item} {b n A c : Nat} {et : TypeId} {fz : Nat × Nat} (hp : Pick (.blk b ⟨true, vec .u32 n (D.limb A), et, fz⟩) H H0) (hA : A < 2 ^ (32 * n))
    (h:(C.w0.heap.size≤b∨C.W b)→LOps P C ops rest ⟨T,numT ⟨false,b,c⟩ A :: H0⟩ Q):LOps P C ops rest ⟨T,H⟩ Q:=by
  unfold LOps
  intro a w hr
  have hin:Item.blk b ⟨true,vec .u32 n (D.limb A),et,fz⟩∈H:=hp.perm.mem_iff.2 (.head _)
  have hx:=h (hr.own _ hin rfl b (by simp [Item.fp]))
  unfold LOps at hx
  exact hx a w (hr.toNum hp hA)
theorem LCode.toNum {co : Code} {Q : Exit → St → Prop} {T : List (Nat × Value)} {H H0 : List Item} {b n A c : Nat} {et : TypeId} {fz : Nat × Nat} (hp : Pick (.blk b ⟨true, vec .u32 n (D.limb A), et, fz⟩) H H0) (hA : A < 2 ^ (32 * n))
    (h:(C.w0.heap.size≤b∨C.W b)→LCode P C co ⟨T,numT ⟨false,b,c⟩ A :: H0⟩ Q):LCode P C co ⟨T,H⟩ Q:=by
  unfold LCode
  intro a w hr
  have hin:Item.blk b ⟨true,vec .u32 n (D.limb A),et,fz⟩∈H:=hp.perm.mem_iff.2 (.head _)
  have hx:=h (hr.own _ hin rfl b (by simp [Item.fp]))
  unfold LCode at hx
  exact hx a w (hr.toNum hp hA)
theorem LStep.appendN {T : List (Nat × Value)} {H H0 : List Item} {b n A c0 bytes : Nat} {zv : Value} {q : NV} {et : TypeId} {fz : Nat × Nat} {g : Option (Nat × Bool)} (hx : evT T x = some (.slice (some ⟨b, 0, none⟩) 0 0)) (hy : evT T y = some (.slice (pz q n) n c0))
    (ht:P.underlying t = some (.slice e)) (hi:infOf P e = some (zv,1,bytes)) (h1:one zv = true) (hp:Pick (.blk b ⟨true,[],et,fz⟩) H H0) (hq:numI q A n∈H0) (hn:n*bytes≤140737488355328) (hn2:n≤1000000000) (hd:d<C.N)
    (h:∀ r:NV,(∀ k,k∈fpz r n→C.w0.heap.size≤k∨C.W k)→K ⟨(d,slV r n) :: T,numI r A n :: H0⟩):LStep P C ⟨some d,.call { callee:=.builtin .append,args:=#[x,y],argTypes:=#[t,t] },ty,pos,aft,g⟩ ⟨T,H⟩ K:=by
  unfold LStep
  intro a w hr Qr
  obtain ⟨i,hi1,hi3,hi2,hi4⟩:=inf_spec hi
  have hpm:=hp.perm
  have hin:Item.blk b ⟨true,[],et,fz⟩∈H:=hpm.mem_iff.2 (.head _)
  have hb:=hr.hp _ hin
  have hA:=numI_lt (hr.hp _ (hpm.mem_iff.2 (.tail _ hq)))
  have hpos:=hr.own _ hin rfl b (by simp [Item.fp])
  unfold Oper.wp
  rcases Nat.eq_zero_or_pos n with h0|h0
  · subst h0
    have hfc:(Builtin.firstCells i.size 0 (.slice (pz q 0) 0 c0)).run P w = .ok #[] w:=by
      cases hz:pz q 0 with
      | none=>simp [Builtin.firstCells]
      | some ad=>simp [Builtin.firstCells,loadCells,loadCellsFrom]
    have hrun:(execOp a.eval ⟨some d,.call { callee:=.builtin .append,args:=#[x,y],argTypes:=#[t,t] },ty,pos,aft,g⟩).run P w = .ok (.value (.slice (some ⟨b,0,none⟩) 0 0)) w:=by
      simp [execOp,hr.ev hx,hr.ev hy,resolve,invoke,builtin,Builtin.append_,run_underlying ht,sizeOf,typeInfo,hi1,Builtin.lenOf,hfc,storeCells]
    rw [hrun]
    have hA0:A = 0:=by simpa using hA
    subst hA0
    have hK:=h ⟨false,b,0⟩ (fun k hk=>by
      unfold fpz at hk
      simp at hk; subst hk; exact hpos)
    refine ⟨Below.refl _ _,_,hK,?_⟩
    have:=(hr.toNum (b:=b) (n:=0) (A:=0) (c:=0) (et:=et) (fz:=fz) hp (by decide)).put hd (slV ⟨false,b,0⟩ 0)
    exact this
  · have hz:=(pz_pos q h0).1
    rw [hz] at hy
    have hnum:=hr.hp _ (hpm.mem_iff.2 (.tail _ hq))
    have hzc:=one_cells h1
    have hrr:=run_append_grow (P:=P) w t ty e i zv ht hi1 hi3 ⟨b,0,none⟩ 0 0 [] (by simp) (by simp) ⟨q.b,0,none⟩ n c0 (vec .u32 n (D.limb A)) (by rw [KH,hi2,Nat.mul_one]) (numI_cells hnum h0) (by omega) (by omega) (growslice_fits (by omega) (by rw [hi4,Nat.zero_add]; exact hn))
    have hrun : (execOp a.eval ⟨some d, .call { callee := .builtin .append, args := #[x, y], argTypes := #[t, t] }, ty, pos, aft, g⟩).run P w = .ok (.value (.slice (some ⟨w.heap.size, 0, none⟩) (0 + n) (grownCap w (0 + n) 0 e)))
        (w.drew.alloc (.cells (#[]++(vec .u32 n (D.limb A)).toArray++Builtin.zeroCells zv.cells (grownCap w (0+n) 0 e-(0+n))) e)):=by
      simp only [execOp,resolve,invoke,builtin,Sem.run_bind,Sem.run_pure,Result.andThen_ok,List.map_toArray,List.map_cons,List.map_nil,hr.ev hx,hr.ev hy,hrr]
    rw [hrun]
    have hrd:Rel C ⟨T,H⟩ a w.drew:=hr.drew
    rw [Nat.zero_add]
    have hK:=h ⟨false,w.heap.size,grownCap w n 0 e⟩ (fun k hk=>by
      unfold fpz at hk
      simp at hk; subst hk; exact .inl hr.fr.size)
    refine ⟨?_,_,hK,?_⟩
    · exact ⟨rfl,rfl,rfl,by simp,fun k hk=>Below.heap_alloc w.drew _ _ hk⟩
    · have hsel : Rel C ⟨T, H0⟩ a w.drew := by
        have hdd:(Item.blk b ⟨true,[],et,fz⟩ :: H0).Pairwise Apart:=(List.Perm.pairwise_iff (fun h=>Apart.symm h) hpm).1 hr.dist
        have hm:∀ x,x∈H0→x∈H:=fun x hx=>hpm.mem_iff.2 (.tail _ hx)
        exact ⟨hrd.size,hrd.defers,hrd.tm,fun x hx=>hrd.hp x (hm x hx),fun x hx=>hrd.own x (hm x hx),(List.pairwise_cons.1 hdd).2,hrd.fr⟩
      have hal:=hsel.alloc (vec .u32 n (D.limb A)++(Builtin.zeroCells zv.cells (grownCap w n 0 e-n)).toList) e
      have hcs:(vec .u32 n (D.limb A)++(Builtin.zeroCells zv.cells (grownCap w n 0 e-n)).toList).toArray = #[]++(vec .u32 n (D.limb A)).toArray++Builtin.zeroCells zv.cells (grownCap w n 0 e-n):=by
        apply Array.ext'
        simp
      rw [hcs] at hal
      have hbk:=hal.hp _ (.head _)
      have hfin:Rel C ⟨T,numI ⟨false,w.heap.size,grownCap w n 0 e⟩ A n :: H0⟩ a (w.drew.alloc (.cells (#[]++(vec .u32 n (D.limb A)).toArray++Builtin.zeroCells zv.cells (grownCap w n 0 e-n)) e)):=?_
      · exact hfin.put hd _
      refine ⟨hal.size,hal.defers,hal.tm,?_,?_,?_,hal.fr⟩
      · intro x hx
        rcases List.mem_cons.1 hx with rfl|hx
        · exact numI_blk (m:=n) (n:=n) hbk (Nat.le_refl _) hA
        · exact hal.hp x (.tail _ hx)
      · intro x hx hw
        rcases List.mem_cons.1 hx with rfl|hx
        · cases hw
        · exact hal.own x (.tail _ hx) hw
      · obtain ⟨g1,g2⟩:=List.pairwise_cons.1 hal.dist
        refine List.pairwise_cons.2 ⟨fun y hy hw k hk=>?_,g2⟩
        rcases hw with hw|hw
        · cases hw
        · have hk' : k = w.heap.size := by
            unfold numI Item.fp fpz at hk
            simpa using hk
          subst hk'
          exact g1 y hy (.inl rfl) _ (by simp [Item.fp])
theorem LStepW.append {T : List (Nat × Value)} {H H0 : List Item} {b a0 c0 n cap m bytes : Nat} {zv : Value} {xs rest news : List Value} {wr : Bool} {ea : TypeId} {fz : Nat × Nat} {g : Option (Nat × Bool)} (hx : evT T x = some (.slice (some ⟨b, 0, none⟩) n cap)) (hy : evT T y = some (.slice (some ⟨a0, 0, none⟩) m c0))
    (ht:P.underlying t = some (.slice e)) (hi:infOf P e = some (zv,1,bytes)) (h1:one zv = true) (hp:Pick (.blk b ⟨true,xs++rest,e,(0,0)⟩) H H0) (hm:Item.blk a0 ⟨wr,news,ea,fz⟩∈H0) (hxl:xs.length = n) (hcl:xs.length+rest.length = cap) (hml:news.length = m) (ho:AllOne news)
    (hn:(n+m)*bytes≤140737488355328) (hn2:n+m≤1000000000) (hd:d<C.N)
    (h:∀ b' cap' rest',xs.length+news.length+rest'.length = cap'→K ⟨(d,.slice (some ⟨b',0,none⟩) (n+m) cap') :: T,.blk b' ⟨true,(xs++news)++rest',e,(0,0)⟩ :: H0⟩):LStepW P C ⟨some d,.call { callee:=.builtin .append,args:=#[x,y],argTypes:=#[t,t] },ty,pos,aft,g⟩ ⟨T,H⟩ K:=by
  unfold LStepW
  intro a w hr Qr
  obtain ⟨i,hi1,hi3,hi2,hi4⟩:=inf_spec hi
  have hpm:=hp.perm
  have hin:Item.blk b ⟨true,xs++rest,e,(0,0)⟩∈H:=hpm.mem_iff.2 (.head _)
  have hb:w.heap[b]? = some (.cells (xs++rest).toArray e (0,0)):=hr.hp _ hin
  have ha:w.heap[a0]? = some (.cells news.toArray ea fz):=hr.hp _ (hpm.mem_iff.2 (.tail _ hm))
  have hpos:=hr.own _ hin rfl b (by simp [Item.fp])
  have hdd:(Item.blk b ⟨true,xs++rest,e,(0,0)⟩ :: H0).Pairwise Apart:=(List.Perm.pairwise_iff (fun h=>Apart.symm h) hpm).1 hr.dist
  obtain ⟨hd1,hd2⟩:=List.pairwise_cons.1 hdd
  have hmm:∀ x,x∈H0→x∈H:=fun x hx=>hpm.mem_iff.2 (.tail _ hx)
  have hnews:∀ j u,news[j]? = some u→w.cell? ((⟨a0,0,none⟩:Addr).add j) = some u:=fun j u hj=>by
    have hadd:(⟨a0,0,none⟩:Addr).add j = ⟨a0,0+j,none⟩:=by unfold Addr.add; split <;> simp_all
    rw [hadd,cellOf ha,Nat.zero_add]; exact hj
  have hsel:Rel C ⟨T,H0⟩ a w:=⟨hr.size,hr.defers,hr.tm,fun x hx=>hr.hp x (hmm x hx),fun x hx=>hr.own x (hmm x hx),hd2,hr.fr⟩
  unfold Oper.wp
  by_cases hroom:n+m≤cap
  · have hrr:=run_append_room (P:=P) w t ty e i ht hi1 b n cap (xs++rest).toArray hb ⟨a0,0,none⟩ m c0 news (by rw [hi2,Nat.mul_one]; exact hml) hnews (fun u hu=>by have:=ho u hu; cases u <;> simp_all [one,Value.oneCell']) hroom (by simp [hi2]; omega)
    rw [exec_append (hr.ev hx) (hr.ev hy) hrr]
    have e1:((xs++rest).toArray.toList.take (n*i.size)++news++(xs++rest).toArray.toList.drop (n*i.size+news.length)) = (xs++news)++rest.drop m:=by
      rw [hi2,Nat.mul_one,hml,← hxl]
      simp
    rw [e1]
    have hK:=h b cap (rest.drop m) (by simp; omega)
    refine ⟨_,hK,?_⟩
    have hnew:(w.setRow b ((xs++news)++rest.drop m).toArray).heap[b]? = some (.cells ((xs++news)++rest.drop m).toArray e (0,0)):=setRow_heap w b _ _ e _ hb
    have hoth:∀ k,k≠b→(w.setRow b ((xs++news)++rest.drop m).toArray).heap[k]? = w.heap[k]?:=fun k hk=>setRow_other w b k _ hk
    have hr2:Rel C ⟨T,.blk b ⟨true,xs++rest,e,(0,0)⟩ :: H0⟩ a w:=⟨hr.size,hr.defers,hr.tm,fun x hx=>hr.hp x (hpm.mem_iff.2 hx),fun x hx=>hr.own x (hpm.mem_iff.2 hx),hdd,hr.fr⟩
    exact (hr2.setBlk (B':=⟨true,(xs++news)++rest.drop m,e,(0,0)⟩) (SetAt.head _) rfl hnew hoth (by simp [World.setRow]) rfl rfl rfl).put hd _
  · have hrr := run_append_grow (P := P) w t ty e i zv ht hi1 hi3 ⟨b, 0, none⟩ n cap xs (by rw [hi2, Nat.mul_one]; exact hxl) (fun j u hj => by
      have hadd:(⟨b,0,none⟩:Addr).add j = ⟨b,0+j,none⟩:=by unfold Addr.add; split <;> simp_all
      rw [hadd,cellOf hb,Nat.zero_add]
      rcases Nat.lt_or_ge j xs.length with h'|h'
      · rw [List.getElem?_append_left h']; exact hj
      · rw [List.getElem?_eq_none h'] at hj; cases hj) ⟨a0,0,none⟩ m c0 news (by rw [hi2,Nat.mul_one]; exact hml) hnews (by omega) (by omega) (growslice_fits (by omega) (by rw [hi4]; exact hn))
    rw [exec_append (hr.ev hx) (hr.ev hy) hrr]
    have hge:=grownCap_ge w (n+m) cap e
    have hz0:zv.cells.size = 1:=by rw [one_cells h1]; rfl
    have hK:=h w.heap.size (grownCap w (n+m) cap e) (Builtin.zeroCells zv.cells (grownCap w (n+m) cap e-(n+m))).toList (by
      have hzz:=size_zeroCells zv.cells (grownCap w (n+m) cap e-(n+m))
      rw [hz0] at hzz
      rw [← Array.length_toList] at hzz
      omega)
    refine ⟨_,hK,?_⟩
    have hal:=hsel.drew.alloc ((xs++news)++(Builtin.zeroCells zv.cells (grownCap w (n+m) cap e-(n+m))).toList) e
    have hcs:((xs++news)++(Builtin.zeroCells zv.cells (grownCap w (n+m) cap e-(n+m))).toList).toArray = xs.toArray++news.toArray++Builtin.zeroCells zv.cells (grownCap w (n+m) cap e-(n+m)):=by
      apply Array.ext'
      simp
    rw [hcs] at hal
    exact hal.put hd _
end
end Go.Proofs.Ytlmiolnccgjjjaa
set_option linter.unusedVariables false
set_option linter.unusedSimpArgs false
set_option maxRecDepth 20000
namespace Go.Proofs.Ytlmiolnccgjjjaa
open Go Go.RowKit
theorem Rel.setOwn {C : Ctx} {st : St} {a : Act} {w w' : World} (h : Rel C st a w) {x x' : Item} {R : List Item} (hp : Pick x st.H R) (hx : x.wr = true) (hx' : x'.holds w')
    (hnew:∀ k,k∈x'.fp→w.heap.size≤k∨k∈x.fp) (hf:Fr (fun k=>k∈x.fp) w w'):Rel C ⟨st.T,x' :: R⟩ a w':=by
  have hpm:=hp.perm
  have hdist:(x :: R).Pairwise Apart:=(hpm.pairwise_iff (fun h=>Apart.symm h)).1 h.dist
  obtain ⟨hXR,hR⟩:=List.pairwise_cons.1 hdist
  have inR:∀ y,y∈R→y∈st.H:=fun y hy=>hpm.mem_iff.2 (.tail _ hy)
  have inX:x∈st.H:=hpm.mem_iff.2 (.head _)
  refine ⟨h.size,h.defers,h.tm,fun y hy=>?_,fun y hy hw k hk=>?_,?_,?_⟩
  · rcases List.mem_cons.1 hy with rfl|hy
    · exact hx'
    · have hold:=h.hp y (inR y hy)
      exact Item.holds_agree hold (fun k hk=>hf.block k (Item.lt hold k hk) (fun hkx=>hXR y hy (.inl hx) k hkx hk)) hf.size
  · rcases List.mem_cons.1 hy with rfl|hy
    · rcases hnew k hk with h1|h1
      · exact .inl (Nat.le_trans h.fr.size h1)
      · exact h.own x inX hx k h1
    · exact h.own y (inR y hy) hw k hk
  · refine List.pairwise_cons.2 ⟨fun y hy _ k hk hk'=>?_,hR⟩
    rcases hnew k hk with h1|h1
    · have:=Item.lt (h.hp y (inR y hy)) k hk'
      omega
    · exact hXR y hy (.inl hx) k h1 hk'
  · refine ⟨hf.os.trans h.fr.os,hf.tape.trans h.fr.tape,hf.output.trans h.fr.output,Nat.le_trans h.fr.size hf.size,fun k hk1 hk2=>?_⟩
    refine (hf.block k (Nat.lt_of_lt_of_le hk1 h.fr.size) (fun hkx=>?_)).trans (h.fr.block k hk1 hk2)
    rcases h.own x inX hx k hkx with h1|h1
    · omega
    · exact hk2 h1
abbrev TrRow:=Option (Nat×Nat×List Value)
def trV (b:Option Nat):Value:=.pointer (b.map fun b=>⟨b,0,none⟩)
def evsL (l:List Nat):List Value:=l.flatMap fun k=>[.int .i64 ((2:Nat):Int),.int .i64 ((k:Nat):Int)]
theorem evsL_length (l:List Nat):(evsL l).length = l.length*2:=by
  induction l with
  | nil=>rfl
  | cons k l ih =>
    show ([Value.int .i64 ((2:Nat):Int),.int .i64 ((k:Nat):Int)]++evsL l).length = _
    rw [List.length_append,ih,List.length_cons]; show 2+l.length*2 = (l.length+1)*2; omega
theorem evsL_snoc (l:List Nat) (k:Nat):evsL (l++[k]) = evsL l++[.int .i64 ((2:Nat):Int),.int .i64 ((k:Nat):Int)]:=by simp [evsL]
def trSl (r:TrRow) (n:Nat):Value:=match r with
  | none=>.slice none 0 0
  | some r=>.slice (some ⟨r.1,0,none⟩) n r.2.1
def trFp (b:Option Nat) (r:TrRow):List Nat:=match b with
  | none=>[]
  | some b=>match r with
    | none=>[b]
    | some r=>[b,r.1]
def trP (b:Option Nat) (r:TrRow) (l:List Nat) (w:World):Prop:=match b with
  | none=>True
  | some b=>w.heap[b]? = some (.cells [trSl r l.length].toArray 121 (0,0))∧match r with
    | none=>l = []
    | some r=>w.heap[r.1]? = some (.cells (evsL l++r.2.2).toArray 83 (0,0))∧(evsL l).length+r.2.2.length = r.2.1*2∧r.1≠b
def trI (b:Option Nat) (r:TrRow) (l:List Nat):Item:=.own (trFp b r) (trP b r l)
theorem trI_P {b:Option Nat} {r:TrRow} {l:List Nat} {w:World} (h:(trI b r l).holds w):trP b r l w:=h.2 w (Agree.refl _ _)
theorem trI_of {b:Option Nat} {r:TrRow} {l:List Nat} {w:World} (h:trP b r l w):(trI b r l).holds w:=by
  rcases b with _|b
  · exact ⟨fun k hk=>(by cases hk),fun _ _=>trivial⟩
  · rcases r with _|r
    · obtain ⟨h1,h2⟩:=h
      refine ⟨fun k hk=>?_,fun w' ha=>⟨(ha b (.head _)).trans h1,h2⟩⟩
      have:k = b:=by simpa [trFp] using hk
      subst this; exact lt_of_get h1
    · obtain ⟨h1,h2,h3,h4⟩:=h
      refine ⟨fun k hk=>?_,fun w' ha=>⟨(ha b (.head _)).trans h1,(ha r.1 (.tail _ (.head _))).trans h2,h3,h4⟩⟩
      have:k = b∨k = r.1:=by simpa [trFp] using hk
      rcases this with rfl|rfl
      · exact lt_of_get h1
      · exact lt_of_get h2
theorem trI_nil (l:List Nat) (w:World):(trI none none l).holds w:=trI_of trivial
def Out (b:Option Nat) (r:TrRow) (x:Item):Prop:=∀ k,k∈trFp b r→k ∉ x.fp
theorem Out.nil (r:TrRow) (x:Item):Out none r x:=fun k hk=>by cases hk
def Outs (b:Option Nat) (r:TrRow):List Item→Prop
  | []=>True
  | x :: t=>Out b r x∧Outs b r t
theorem Outs.mem {b:Option Nat} {r:TrRow} {H:List Item} (h:Outs b r H):∀ x,x∈H→Out b r x:=by
  induction H with
  | nil=>intro x hx; cases hx
  | cons y t ih =>
    intro x hx
    rcases List.mem_cons.1 hx with rfl|hx
    · exact h.1
    · exact ih h.2 x hx
def TrR (w:World) (b:Option Nat) (r:TrRow) (l:List Nat) (v:Value) (e:Ending) (w':World):Prop :=
  ∃ r',e = .returned v∧(trI b r' l).holds w'∧(∀ k,k∈trFp b r'→w.heap.size≤k∨k∈trFp b r)∧Fr (fun k=>k∈trFp b r) w w'
theorem TrR.nil {w:World} {r:TrRow} {l:List Nat} {v:Value} {e:Ending} {w':World} (h:TrR w none r l v e w'):e = .returned v∧Below w.heap.size w w':=by
  obtain ⟨_,h1,_,_,h2⟩:=h
  exact ⟨h1,h2.os,h2.tape,h2.output,h2.size,fun k hk=>h2.block k hk (fun hk'=>by cases hk')⟩
theorem TrR.same {w:World} {b:Option Nat} {r:TrRow} {l:List Nat} {v:Value} {e:Ending} {w':World} (h:(trI b r l).holds w) (he:e = .returned v) (hb:Below w.heap.size w w'):TrR w b r l v e w' :=
  ⟨r,he,Item.holds_agree h (fun k hk=>hb.block k (Item.lt h k hk)) hb.size,fun k hk=>.inr hk,hb.os,hb.tape,hb.output,hb.size,fun k hk _=>hb.block k hk⟩
section
variable {P:Program} {C:Ctx} {ty:TypeId} {pos:String} {aft:Array Edge} {d:Nat} {K:St→Prop} {x:Operand} {v:Value}
theorem LStepW.callT {T : List (Nat × Value)} {H R : List Item} {f : FuncId} {xs : List Operand} {vs first : List Value} {ats : Array TypeId} {g : Option (Nat × Bool)} {b : Option Nat} {r : TrRow} {l l' : List Nat} (hf : evT T x = some (.func (.func f) first.toArray #[])) (he : Ku P f) (ha : evL T xs = some vs) (hd : d < C.N)
    (hp:Pick (trI b r l) H R)
    (hc:∀ w,(∀ x,x∈H→x.holds w)→(∀ y,y∈R→Out b r y)→Calls P f (first++vs).toArray w (TrR w b r l' v))
    (h:∀ r',K ⟨(d,v) :: T,trI b r' l' :: R⟩):LStepW P C ⟨some d,.call { callee:=.value x,args:=xs.toArray,argTypes:=ats },ty,pos,aft,g⟩ ⟨T,H⟩ K:=by
  unfold LStepW
  intro a w hr Qr
  obtain ⟨fn,h1,h2,h3⟩:=he
  have hdist:(trI b r l :: R).Pairwise Apart:=(hp.perm.pairwise_iff (fun h=>Apart.symm h)).1 hr.dist
  refine wp_callee (vs:=first++vs) ?_ (hc w hr.hp (fun y hy k hk=>(List.pairwise_cons.1 hdist).1 y hy (.inl rfl) k hk)) ?_
  · have:=hr.evs ha
    simp [execOp,resolve,hr.ev hf,Deferred.ofValue,invoke,run_call h1 h2 h3,this]
  · rintro e' w' ⟨r',rfl,hits,hnew,hfr⟩
    exact ⟨v,rfl,_,h r',(hr.setOwn hp rfl hits hnew hfr).put hd v⟩
end
theorem calls_tr {P : Program} {f : FuncId} {fn : Func} {c : Code} {vs : List Value} {w : World} (b : Option Nat) (r : TrRow) (l : List Nat) (H : List Item) {rs : List ResultVar} {N : Nat} {R : Ending → World → Prop} (hf : P.funcs[f]? = some fn) (hb : fn.body = some c) (hn : fn.ntmps = N) (hs : fn.results = rs.toArray)
    (hlen:vs.length≤N) (h0:(trI b r l).holds w) (hH:Hold w H) (hro:H.all (fun x=>!x.wr) = true) (hne:Outs b r H)
    (h:LCode P ⟨w,fun k=>k∈trFp b r,N⟩ c ⟨argT 0 vs,trI b r l :: H⟩ (LEnd P ⟨w,fun k=>k∈trFp b r,N⟩ rs fun v _ w'=>R (.returned v) w')):Calls P f vs.toArray w R:=by
  have hr:∀ x,x∈H→x.wr = false:=by
    intro x hx
    have:=List.all_eq_true.1 hro x hx
    simpa using this
  refine calls_walk hf hb hn hs hlen ?_ ?_ ?_ h
  · intro x hx
    rcases List.mem_cons.1 hx with rfl|hx
    · exact h0
    · exact hH.mem x hx
  · intro x hx hw k hk
    rcases List.mem_cons.1 hx with rfl|hx
    · exact hk
    · rw [hr x hx] at hw; cases hw
  · exact List.pairwise_cons.2 ⟨fun y hy _ k hk hk'=>hne.mem y hy k hk hk',List.pairwise_of_forall_mem_list (fun x hx y hy hw=>(by rw [hr x hx,hr y hy] at hw; rcases hw with hw|hw <;> cases hw))⟩
theorem Rel.tr {w:World} {b:Option Nat} {r r':TrRow} {l:List Nat} {N:Nat} {st:St} {a:Act} {w':World} {v:Value} (h:Rel ⟨w,fun k=>k∈trFp b r,N⟩ st a w') (hm:trI b r' l∈st.H):TrR w b r l v (.returned v) w' :=
  ⟨r',rfl,h.hp _ hm,fun k hk=>h.own _ hm rfl k hk,h.fr⟩
theorem calls_wM {P : Program} {f : FuncId} {fn : Func} {c : Code} {vs : List Value} {w : World} (X : List Item) (W : Nat → Prop) {rs : List ResultVar} {N : Nat} {R : Ending → World → Prop} (hf : P.funcs[f]? = some fn) (hb : fn.body = some c) (hn : fn.ntmps = N) (hs : fn.results = rs.toArray)
    (hlen:vs.length≤N) (hX:Hold w X) (hd:X.Pairwise Apart) (hW:∀ x,x∈X→x.wr = true→∀ k,k∈x.fp→W k)
    (h:LCode P ⟨w,W,N⟩ c ⟨argT 0 vs,X⟩ (LEnd P ⟨w,W,N⟩ rs fun v _ w'=>R (.returned v) w')):Calls P f vs.toArray w R :=
  calls_walk hf hb hn hs hlen hX.mem hW hd h
theorem apart_two {H:List Item} (h:H.Pairwise Apart) {b c:Nat} {B D:Blk} (hx:Item.blk b B∈H) (hy:Item.blk c D∈H) (hw:B.wr = true) (hne:B.elem≠D.elem):c≠b:=by
  rintro rfl
  have hne':Item.blk c B≠Item.blk c D:=fun e=>by injection e with _ e; exact hne (congrArg Blk.elem e)
  have key:∀ (l:List Item),l.Pairwise Apart→Item.blk c B∈l→Item.blk c D∈l→False:=by
    intro l hl h1 h2
    induction l with
    | nil=>cases h1
    | cons q l ih =>
      obtain ⟨g1,g2⟩:=List.pairwise_cons.1 hl
      rcases List.mem_cons.1 h1 with e1|k1 <;> rcases List.mem_cons.1 h2 with e2|k2
      · exact hne' (e1.trans e2.symm)
      · subst e1; exact g1 (.blk c D) k2 (.inl hw) c (.head _) (.head _)
      · subst e2; exact g1 (.blk c B) k1 (.inr hw) c (.head _) (.head _)
      · exact ih g2 k1 k2
  exact key H h hx hy
section
variable {P:Program} {C:Ctx} {ty:TypeId} {pos:String} {aft:Array Edge} {d:Nat} {K:St→Prop} {x y:Operand} {t e:TypeId}
theorem LStepW.appendSM {s : Nat} {T : List (Nat × Value)} {H H0 : List Item} {b a0 c0 n cap m bytes : Nat} {zv : Value} {xs rest news cs more : List Value} {wr : Bool} {ea : TypeId} {fz : Nat × Nat} {g : Option (Nat × Bool)} (hx : evT T x = some (.slice (some ⟨b, 0, none⟩) n cap)) (hy : evT T y = some (.slice (some ⟨a0, 0, none⟩) m c0))
    (ht:P.underlying t = some (.slice e)) (hi:infOf P e = some (zv,s,bytes)) (hz0:zv.cells.size = s) (hp:Pick (.blk b ⟨true,xs++rest,e,(0,0)⟩) H H0) (hm:Item.blk a0 ⟨wr,cs,ea,fz⟩∈H0) (hcs:cs = news++more) (hxl:xs.length = n*s) (hcl:xs.length+rest.length = cap*s) (hml:news.length = m*s) (ho:AllOne news)
    (hn:(n+m)*bytes≤140737488355328) (hn2:n+m≤1000000000) (hd:d<C.N)
    (h:∀ b' cap' rest',xs.length+news.length+rest'.length = cap'*s→K ⟨(d,.slice (some ⟨b',0,none⟩) (n+m) cap') :: T,.blk b' ⟨true,(xs++news)++rest',e,(0,0)⟩ :: H0⟩):LStepW P C ⟨some d,.call { callee:=.builtin .append,args:=#[x,y],argTypes:=#[t,t] },ty,pos,aft,g⟩ ⟨T,H⟩ K:=by
  unfold LStepW
  intro a w hr Qr
  obtain ⟨i,hi1,hi3,hi2,hi4⟩:=inf_spec hi
  have hpm:=hp.perm
  have hin:Item.blk b ⟨true,xs++rest,e,(0,0)⟩∈H:=hpm.mem_iff.2 (.head _)
  have hb:w.heap[b]? = some (.cells (xs++rest).toArray e (0,0)):=hr.hp _ hin
  have ha:w.heap[a0]? = some (.cells cs.toArray ea fz):=hr.hp _ (hpm.mem_iff.2 (.tail _ hm))
  subst hcs
  have hpos:=hr.own _ hin rfl b (by simp [Item.fp])
  have hdd:(Item.blk b ⟨true,xs++rest,e,(0,0)⟩ :: H0).Pairwise Apart:=(List.Perm.pairwise_iff (fun h=>Apart.symm h) hpm).1 hr.dist
  obtain ⟨hd1,hd2⟩:=List.pairwise_cons.1 hdd
  have hmm:∀ x,x∈H0→x∈H:=fun x hx=>hpm.mem_iff.2 (.tail _ hx)
  have hnews:∀ j u,news[j]? = some u→w.cell? ((⟨a0,0,none⟩:Addr).add j) = some u:=fun j u hj=>by
    have hadd:(⟨a0,0,none⟩:Addr).add j = ⟨a0,0+j,none⟩:=by unfold Addr.add; split <;> simp_all
    rw [hadd,cellOf ha,Nat.zero_add,List.getElem?_append_left (by rcases Nat.lt_or_ge j news.length with h'|h'; exact h'; rw [List.getElem?_eq_none h'] at hj; cases hj)]; exact hj
  have hsel:Rel C ⟨T,H0⟩ a w:=⟨hr.size,hr.defers,hr.tm,fun x hx=>hr.hp x (hmm x hx),fun x hx=>hr.own x (hmm x hx),hd2,hr.fr⟩
  unfold Oper.wp
  by_cases hroom:n+m≤cap
  · have hrr:=run_append_room (P:=P) w t ty e i ht hi1 b n cap (xs++rest).toArray hb ⟨a0,0,none⟩ m c0 news (by rw [hi2]; exact hml) hnews (fun u hu=>by have:=ho u hu; cases u <;> simp_all [one,Value.oneCell']) hroom (by have hs2:=Nat.mul_le_mul_right s hroom; rw [Nat.add_mul] at hs2; simp [hi2]; omega)
    rw [exec_append (hr.ev hx) (hr.ev hy) hrr]
    have e1:((xs++rest).toArray.toList.take (n*i.size)++news++(xs++rest).toArray.toList.drop (n*i.size+news.length)) = (xs++news)++rest.drop (m*s):=by
      rw [hi2,hml,← hxl]
      simp
    rw [e1]
    have hK:=h b cap (rest.drop (m*s)) (by have hs2:=Nat.mul_le_mul_right s hroom; rw [Nat.add_mul] at hs2; simp; omega)
    refine ⟨_,hK,?_⟩
    have hnew:(w.setRow b ((xs++news)++rest.drop (m*s)).toArray).heap[b]? = some (.cells ((xs++news)++rest.drop (m*s)).toArray e (0,0)):=setRow_heap w b _ _ e _ hb
    have hoth:∀ k,k≠b→(w.setRow b ((xs++news)++rest.drop (m*s)).toArray).heap[k]? = w.heap[k]?:=fun k hk=>setRow_other w b k _ hk
    have hr2:Rel C ⟨T,.blk b ⟨true,xs++rest,e,(0,0)⟩ :: H0⟩ a w:=⟨hr.size,hr.defers,hr.tm,fun x hx=>hr.hp x (hpm.mem_iff.2 hx),fun x hx=>hr.own x (hpm.mem_iff.2 hx),hdd,hr.fr⟩
    exact (hr2.setBlk (B':=⟨true,(xs++news)++rest.drop (m*s),e,(0,0)⟩) (SetAt.head _) rfl hnew hoth (by simp [World.setRow]) rfl rfl rfl).put hd _
  · have hrr := run_append_grow (P := P) w t ty e i zv ht hi1 hi3 ⟨b, 0, none⟩ n cap xs (by rw [hi2]; exact hxl) (fun j u hj => by
      have hadd:(⟨b,0,none⟩:Addr).add j = ⟨b,0+j,none⟩:=by unfold Addr.add; split <;> simp_all
      rw [hadd,cellOf hb,Nat.zero_add]
      rcases Nat.lt_or_ge j xs.length with h'|h'
      · rw [List.getElem?_append_left h']; exact hj
      · rw [List.getElem?_eq_none h'] at hj; cases hj) ⟨a0,0,none⟩ m c0 news (by rw [hi2]; exact hml) hnews (by omega) (by omega) (growslice_fits (by omega) (by rw [hi4]; exact hn))
    rw [exec_append (hr.ev hx) (hr.ev hy) hrr]
    have hge:=grownCap_ge w (n+m) cap e
    have hK:=h w.heap.size (grownCap w (n+m) cap e) (Builtin.zeroCells zv.cells (grownCap w (n+m) cap e-(n+m))).toList (by
      have hzz:=size_zeroCells zv.cells (grownCap w (n+m) cap e-(n+m))
      rw [hz0] at hzz
      rw [← Array.length_toList,Nat.sub_mul,Nat.add_mul] at hzz
      have hs2:=Nat.mul_le_mul_right s hge
      rw [Nat.add_mul] at hs2
      omega)
    refine ⟨_,hK,?_⟩
    have hal:=hsel.drew.alloc ((xs++news)++(Builtin.zeroCells zv.cells (grownCap w (n+m) cap e-(n+m))).toList) e
    have hcs:((xs++news)++(Builtin.zeroCells zv.cells (grownCap w (n+m) cap e-(n+m))).toList).toArray = xs.toArray++news.toArray++Builtin.zeroCells zv.cells (grownCap w (n+m) cap e-(n+m)):=by
      apply Array.ext'
      simp
    rw [hcs] at hal
    exact hal.put hd _
theorem LStepW.appendS {s : Nat} {T : List (Nat × Value)} {H H0 : List Item} {b a0 c0 n cap m bytes : Nat} {zv : Value} {xs rest news : List Value} {wr : Bool} {ea : TypeId} {fz : Nat × Nat} {g : Option (Nat × Bool)} (hx : evT T x = some (.slice (some ⟨b, 0, none⟩) n cap)) (hy : evT T y = some (.slice (some ⟨a0, 0, none⟩) m c0))
    (ht:P.underlying t = some (.slice e)) (hi:infOf P e = some (zv,s,bytes)) (hz0:zv.cells.size = s) (hp:Pick (.blk b ⟨true,xs++rest,e,(0,0)⟩) H H0) (hm:Item.blk a0 ⟨wr,news,ea,fz⟩∈H0) (hxl:xs.length = n*s) (hcl:xs.length+rest.length = cap*s) (hml:news.length = m*s) (ho:AllOne news)
    (hn:(n+m)*bytes≤140737488355328) (hn2:n+m≤1000000000) (hd:d<C.N)
    (h:∀ b' cap' rest',xs.length+news.length+rest'.length = cap'*s→K ⟨(d,.slice (some ⟨b',0,none⟩) (n+m) cap') :: T,.blk b' ⟨true,(xs++news)++rest',e,(0,0)⟩ :: H0⟩):LStepW P C ⟨some d,.call { callee:=.builtin .append,args:=#[x,y],argTypes:=#[t,t] },ty,pos,aft,g⟩ ⟨T,H⟩ K :=
  LStepW.appendSM (cs:=news) (more:=[]) hx hy ht hi hz0 hp hm (List.append_nil _).symm hxl hcl hml ho hn hn2 hd h
theorem LStepW.appendNilS {s : Nat} {T : List (Nat × Value)} {H : List Item} {a0 c0 m bytes : Nat} {zv : Value} {news : List Value} {wr : Bool} {ea : TypeId} {fz : Nat × Nat} {g : Option (Nat × Bool)} (hx : evT T x = some (.slice none 0 0)) (hy : evT T y = some (.slice (some ⟨a0, 0, none⟩) m c0))
    (ht:P.underlying t = some (.slice e)) (hi:infOf P e = some (zv,s,bytes)) (hz0:zv.cells.size = s) (hm:Item.blk a0 ⟨wr,news,ea,fz⟩∈H) (hml:news.length = m*s) (h0:0<m)
    (hn:m*bytes≤140737488355328) (hn2:m≤1000000000) (hd:d<C.N)
    (h:∀ b' cap' rest',news.length+rest'.length = cap'*s→K ⟨(d,.slice (some ⟨b',0,none⟩) m cap') :: T,.blk b' ⟨true,news++rest',e,(0,0)⟩ :: H⟩):LStepW P C ⟨some d,.call { callee:=.builtin .append,args:=#[x,y],argTypes:=#[t,t] },ty,pos,aft,g⟩ ⟨T,H⟩ K:=by
  unfold LStepW
  intro a w hr Qr
  obtain ⟨i,hi1,hi3,hi2,hi4⟩:=inf_spec hi
  have ha:w.heap[a0]? = some (.cells news.toArray ea fz):=hr.hp _ hm
  have hnews:∀ j u,news[j]? = some u→w.cell? ((⟨a0,0,none⟩:Addr).add j) = some u:=fun j u hj=>by
    have hadd:(⟨a0,0,none⟩:Addr).add j = ⟨a0,0+j,none⟩:=by unfold Addr.add; split <;> simp_all
    rw [hadd,cellOf ha,Nat.zero_add]; exact hj
  unfold Oper.wp
  have hrr:=run_append_nil (P:=P) w t ty e i zv ht hi1 hi3 ⟨a0,0,none⟩ m c0 news (by rw [hi2]; exact hml) hnews h0 (by omega) (by rw [hi4]; omega)
  rw [exec_append (hr.ev hx) (hr.ev hy) hrr]
  have hge:=grownCap_ge w m 0 e
  have hK:=h w.heap.size (grownCap w m 0 e) (Builtin.zeroCells zv.cells (grownCap w m 0 e-m)).toList (by
    have hzz:=size_zeroCells zv.cells (grownCap w m 0 e-m)
    rw [hz0] at hzz
    rw [← Array.length_toList,Nat.sub_mul] at hzz
    have hs2:=Nat.mul_le_mul_right s hge
    omega)
  refine ⟨_,hK,?_⟩
  have hal:=hr.drew.alloc (news++(Builtin.zeroCells zv.cells (grownCap w m 0 e-m)).toList) e
  have hcs:(news++(Builtin.zeroCells zv.cells (grownCap w m 0 e-m)).toList).toArray = news.toArray++Builtin.zeroCells zv.cells (grownCap w m 0 e-m):=by
    apply Array.ext'
    simp
  rw [hcs] at hal
  exact hal.put hd _
end
end Go.Proofs.Ytlmiolnccgjjjaa
set_option linter.unusedVariables false
set_option linter.unusedSimpArgs false
set_option maxRecDepth 20000
namespace Go.Proofs.Ytlmiolnccgjjjaa
open Go Go.RowKit
theorem inf_ev:infOf Try.prog 83 = some (.agg ([.int .i64 ((0:Nat):Int),.int .i64 ((0:Nat):Int)]:List Value).toArray,2,16):=by kernel_rfl
theorem fill_ev (k:Nat):fillL ((List.range 1).map fun i=>(i*2,2)) [Value.int .i64 ((0:Nat):Int),.int .i64 ((0:Nat):Int)] [(0,.agg ([.int .i64 ((2:Nat):Int),.int .i64 ((k:Nat):Int)]:List Value).toArray)] = some [.int .i64 ((2:Nat):Int),.int .i64 ((k:Nat):Int)]:=fillL_whole rfl rfl
theorem row_ev:((Array.range (1*2)).map fun i=>(Value.agg ([.int .i64 ((0:Nat):Int),.int .i64 ((0:Nat):Int)]:List Value).toArray).cells[i%(Value.agg ([.int .i64 ((0:Nat):Int),.int .i64 ((0:Nat):Int)]:List Value).toArray).cells.size]!) = ([.int .i64 ((0:Nat):Int),.int .i64 ((0:Nat):Int)]:List Value).toArray:=by kernel_rfl
theorem c_trNew  (w:World)  : Calls Try.prog 36 ([]:List Value).toArray w (fun e w'=>∃ v its,(∃ b,v = trV (some b)∧its = [trI (some b) none []])∧e = .returned v∧Brings w [] its w'):=by
  refine Ki (N:=3) (rs:=[.tmp 0]) [] Try.func36 rfl Try.ntmps36 Try.results36 (Nb rfl) trivial rfl ?_
  show LCode _ _ _ ⟨_,_⟩ _
  refine KB (KA ?_)
  refine oA ?_
  refine KC ?_
  refine KB (KA ?_)
  refine oP (Ky pl_121 zr_121 rfl rfl) ?_
  refine oS (mB (fun b2=>?_))
  refine oA ?_
  refine KC (KM ?_)
  exact ⟨[_],.cons rfl .nil,fun a w' hr=>⟨_,_,⟨b2,rfl,rfl⟩,rfl,hr.fr.below,fun x hx=>by
    obtain rfl:x = _:=by simpa using hx
    exact trI_of ⟨hr.hp (.blk b2 ⟨true,[.slice none 0 0],121,(0,0)⟩) (by repeat (first|exact Mh _|apply Mt)),rfl⟩,fun x hx k hk=>by
    obtain rfl:x = _:=by simpa using hx
    obtain rfl:k = b2:=by simpa [trI,trFp,Item.fp] using hk
    exact .inl (hr.new (B:=⟨true,_,_,_⟩) (by repeat (first|exact Mh _|apply Mt)) rfl),fun x hx _ k hk=>by
    obtain rfl:x = _:=by simpa using hx
    obtain rfl:k = b2:=by simpa [trI,trFp,Item.fp] using hk
    exact hr.new (B:=⟨true,_,_,_⟩) (by repeat (first|exact Mh _|apply Mt)) rfl,List.pairwise_singleton _ _⟩⟩
theorem c_trLen1 (bt n cap:Nat) (p:Option Addr) (w:World) (hb:(Item.blk bt ⟨false,[.slice p n cap],121,(0,0)⟩).holds w):Calls Try.prog 37 ([.pointer (some ⟨bt,0,none⟩)]:List Value).toArray w (fun e w'=>e = .returned (.int .i64 ((n:Nat):Int))∧Below w.heap.size w w'):=by
  refine Ki (N:=10) (rs:=[.tmp 2]) [.blk bt ⟨false,[.slice p n cap],121,(0,0)⟩] Try.func37 rfl Try.ntmps37 Try.results37 (Nb rfl) ⟨hb,trivial⟩ rfl ?_
  show LCode _ _ _ ⟨_,_⟩ _
  refine KB (KA ?_)
  refine oP (KZ (v:=.int .i64 ((0:Nat):Int)) rfl) ?_
  refine KC ?_
  refine KB ?_
  refine KB (KA ?_)
  refine oM ?_
  refine oP (KK (Det.eqp Try.underlying49 rfl rfl) (show _ = Value.bool false from rfl)) ?_
  refine KC ?_
  refine KR rfl ?_
  refine KT ?_
  refine KB (KA ?_)
  refine oM ?_
  refine oP (KQ rfl) ?_
  refine oP (KG (o':=0) Try.underlying121 rfl rfl rfl sz_81 (by decide)) ?_
  refine oD (dL rfl (hv:=KL Try.underlying81 rfl (by first|rfl|exact Ke _ _ _ (by omega)|exact Kd _ (by omega)|exact Kb _ (by omega)|exact dv_m _ _ _ (by omega)))) ?_
  refine oP (KAC Try.underlying81 rfl) ?_
  refine oA ?_
  refine KC (KM ?_)
  refine ⟨[_],.cons rfl .nil,fun a w' hr=>⟨?_,hr.fr.below⟩⟩
  rfl
theorem c_trLen (b:Nat) (r:TrRow) (l:List Nat) (w:World) (h:(trI (some b) r l).holds w):Calls Try.prog 37 ([trV (some b)]:List Value).toArray w (fun e w'=>e = .returned (.int .i64 ((l.length:Nat):Int))∧Below w.heap.size w w'):=by
  have hp:=trI_P h
  rcases r with _|r
  · obtain ⟨h1,rfl⟩:=hp
    exact c_trLen1 b 0 0 none w h1
  · exact c_trLen1 b l.length r.2.1 (some ⟨r.1,0,none⟩) w hp.1
theorem c_trIndex0 (k:Nat) (w:World)  : Calls Try.prog 83 ([trV none,.int .i64 ((k:Nat):Int)]:List Value).toArray w (fun e w'=>e = .returned (.int .i64 ((1:Nat):Int))∧Below w.heap.size w w'):=by
  refine Ki (N:=18) (rs:=[.tmp 4]) [] Try.func83 rfl Try.ntmps83 Try.results83 (Nb rfl) trivial rfl ?_
  show LCode _ _ _ ⟨_,_⟩ _
  refine KB (KA ?_)
  refine oP (KZ (v:=.int .i64 ((0:Nat):Int)) rfl) ?_
  refine KC ?_
  refine KB ?_
  refine KB (KA ?_)
  refine oM ?_
  refine oP (KK (Det.eqp Try.underlying49 rfl rfl) (show _ = Value.bool true from rfl)) ?_
  refine KC ?_
  refine Kf rfl ?_
  refine KB (KA ?_)
  refine oP (KZ (v:=.int .i64 ((1:Nat):Int)) rfl) ?_
  refine KC (KM ?_)
  refine ⟨[_],.cons rfl .nil,fun a w' hr=>⟨?_,hr.fr.below⟩⟩
  rfl
theorem c_trIndex1 (b k:Nat) (w:World) (hb:trP (some b) none [] w):Calls Try.prog 83 ([trV (some b),.int .i64 ((k:Nat):Int)]:List Value).toArray w (fun e w'=>TrR w (some b) none [k] (.int .i64 ((0:Nat):Int)) e w'):=by
  refine calls_wM (N:=18) (rs:=[.tmp 4]) [.blk b ⟨true,[.slice none 0 0],121,(0,0)⟩] (fun j=>j∈trFp (some b) none) Try.func83 rfl Try.ntmps83 Try.results83 (Nb rfl) ⟨hb.1,trivial⟩ (List.pairwise_singleton _ _) (fun x hx _ j hj=>by
    obtain rfl:x = _:=by simpa using hx
    exact hj) ?_
  show LCode _ _ _ ⟨_,_⟩ _
  refine KB (KA ?_)
  refine oP (KZ (v:=.int .i64 ((0:Nat):Int)) rfl) ?_
  refine KC ?_
  refine KB ?_
  refine KB (KA ?_)
  refine oM ?_
  refine oP (KK (Det.eqp Try.underlying49 rfl rfl) (show _ = Value.bool false from rfl)) ?_
  refine KC ?_
  refine KR rfl ?_
  refine KT ?_
  refine KB (KA ?_)
  refine oM ?_
  refine oM ?_
  refine oP (KQ rfl) ?_
  refine oP (KG (o':=0) Try.underlying121 rfl rfl rfl sz_81 (by decide)) ?_
  refine oD (dL rfl (hv:=KL Try.underlying81 rfl (by first|rfl|exact Ke _ _ _ (by omega)|exact Kd _ (by omega)|exact Kb _ (by omega)|exact dv_m _ _ _ (by omega)))) ?_
  refine oM ?_
  refine oP (KK (Ky pl_83 zr_83 rfl rfl) (show _ = Value.agg ([.int .i64 ((2:Nat):Int),.int .i64 ((k:Nat):Int)]:List Value).toArray from rfl)) ?_
  refine oS (mk (Makes.row (vs:=[(0,.agg ([.int .i64 ((2:Nat):Int),.int .i64 ((k:Nat):Int)]:List Value).toArray)]) Try.underlying81 inf_ev (by decide) row_ev rfl (fill_ev k) (fun h=>by cases h)) (fun b14=>?_))
  refine KV rfl (LStepW.appendNilS (s:=2) (news:=[.int .i64 ((2:Nat):Int),.int .i64 ((k:Nat):Int)]) rfl rfl Try.underlying81 inf_ev rfl (by repeat (first|exact Mh _|apply Mt)) rfl (by decide) (by decide) (by decide) (Nb rfl) ?_)
  intro b1 cap1 rest1 hc1
  refine oP (KQ rfl) ?_
  refine oP (KG (o':=0) Try.underlying121 rfl rfl rfl sz_81 (by decide)) ?_
  refine KV rfl (Kj rfl rfl rfl sz_81 (by repeat (first|exact Sh _|apply St_)) (by first|(simp only [KH,KD,KE,Kt]; omega)|(simp; done)|(simp; omega)) (by first|exact KAH _ _ _ _ _|exact KAJ _ _ _ _ (by omega)|exact KAI _ _ _ _|rfl) (by simp) ?_)
  refine KC ?_
  refine KB (KA ?_)
  refine oP (KZ (v:=.int .i64 ((0:Nat):Int)) rfl) ?_
  refine KC (KM ?_)
  refine ⟨[_],.cons rfl .nil,fun a w' hr=>?_⟩
  have g1:=hr.hp (Item.blk b ⟨true,[.slice (some ⟨b1,0,none⟩) 1 cap1],121,(0,0)⟩) (by repeat (first|exact Mh _|apply Mt))
  have g2:=hr.hp (Item.blk b1 ⟨true,[.int .i64 ((2:Nat):Int),.int .i64 ((k:Nat):Int)]++rest1,83,(0,0)⟩) (by repeat (first|exact Mh _|apply Mt))
  have o1:=hr.own (Item.blk b ⟨true,[.slice (some ⟨b1,0,none⟩) 1 cap1],121,(0,0)⟩) (by repeat (first|exact Mh _|apply Mt)) rfl
  have o2:=hr.own (Item.blk b1 ⟨true,[.int .i64 ((2:Nat):Int),.int .i64 ((k:Nat):Int)]++rest1,83,(0,0)⟩) (by repeat (first|exact Mh _|apply Mt)) rfl
  have hap:b1≠b:=apart_two hr.dist (b:=b) (B:=⟨true,[.slice (some ⟨b1,0,none⟩) 1 cap1],121,(0,0)⟩) (c:=b1) (D:=⟨true,[.int .i64 ((2:Nat):Int),.int .i64 ((k:Nat):Int)]++rest1,83,(0,0)⟩) (by repeat (first|exact Mh _|apply Mt)) (by repeat (first|exact Mh _|apply Mt)) rfl (fun e=>absurd (show (121:Nat) = 83 from e) (by decide))
  exact ⟨some (b1,cap1,rest1),rfl,trI_of ⟨g1,g2,hc1,hap⟩,fun j hj=>(by
    have hj':j = b∨j = b1:=by simpa [trFp] using hj
    rcases hj' with rfl|rfl
    · exact o1 j (.head _)
    · exact o2 j (.head _)),hr.fr⟩
theorem c_trIndex2 (b r cap:Nat) (rest:List Value) (l:List Nat) (k:Nat) (w:World) (hb:trP (some b) (some (r,cap,rest)) l w) (hl:l.length≤100000000):Calls Try.prog 83 ([trV (some b),.int .i64 ((k:Nat):Int)]:List Value).toArray w (fun e w'=>TrR w (some b) (some (r,cap,rest)) (l++[k]) (.int .i64 ((0:Nat):Int)) e w'):=by
  refine calls_wM (N:=18) (rs:=[.tmp 4]) [.blk b ⟨true,[.slice (some ⟨r,0,none⟩) l.length cap],121,(0,0)⟩,.blk r ⟨true,evsL l++rest,83,(0,0)⟩] (fun j=>j∈trFp (some b) (some (r,cap,rest))) Try.func83 rfl Try.ntmps83 Try.results83 (Nb rfl) ⟨hb.1,hb.2.1,trivial⟩ (List.pairwise_cons.2 ⟨fun y hy _ j hj hj'=>by
    obtain rfl:y = _:=by simpa using hy
    obtain rfl:j = b:=by simpa [Item.fp] using hj
    exact hb.2.2.2 (by simpa [Item.fp] using hj':j = r).symm,List.pairwise_singleton _ _⟩) (fun x hx _ j hj=>by
    rcases List.mem_cons.1 hx with rfl|hx
    · obtain rfl:j = b:=by simpa [Item.fp] using hj
      exact .head _
    · obtain rfl:x = _:=by simpa using hx
      obtain rfl:j = r:=by simpa [Item.fp] using hj
      exact .tail _ (.head _)) ?_
  show LCode _ _ _ ⟨_,_⟩ _
  refine KB (KA ?_)
  refine oP (KZ (v:=.int .i64 ((0:Nat):Int)) rfl) ?_
  refine KC ?_
  refine KB ?_
  refine KB (KA ?_)
  refine oM ?_
  refine oP (KK (Det.eqp Try.underlying49 rfl rfl) (show _ = Value.bool false from rfl)) ?_
  refine KC ?_
  refine KR rfl ?_
  refine KT ?_
  refine KB (KA ?_)
  refine oM ?_
  refine oM ?_
  refine oP (KQ rfl) ?_
  refine oP (KG (o':=0) Try.underlying121 rfl rfl rfl sz_81 (by decide)) ?_
  refine oD (dL rfl (hv:=KL Try.underlying81 rfl (by first|rfl|exact Ke _ _ _ (by omega)|exact Kd _ (by omega)|exact Kb _ (by omega)|exact dv_m _ _ _ (by omega)))) ?_
  refine oM ?_
  refine oP (KK (Ky pl_83 zr_83 rfl rfl) (show _ = Value.agg ([.int .i64 ((2:Nat):Int),.int .i64 ((k:Nat):Int)]:List Value).toArray from rfl)) ?_
  refine oS (mk (Makes.row (vs:=[(0,.agg ([.int .i64 ((2:Nat):Int),.int .i64 ((k:Nat):Int)]:List Value).toArray)]) Try.underlying81 inf_ev (by decide) row_ev rfl (fill_ev k) (fun h=>by cases h)) (fun b14=>?_))
  refine KV rfl (LStepW.appendS (s:=2) (m:=1) (xs:=evsL l) (rest:=rest) (news:=[.int .i64 ((2:Nat):Int),.int .i64 ((k:Nat):Int)]) rfl rfl Try.underlying81 inf_ev rfl (by repeat (first|exact Pick.head _|apply Pick.tail)) (by repeat (first|exact Mh _|apply Mt)) (evsL_length l) (by have:=hb.2.2.1; exact this) rfl (KJ rfl (KJ rfl KO)) (by omega) (by omega) (Nb rfl) ?_)
  intro b1 cap1 rest1 hc1
  refine oP (KQ rfl) ?_
  refine oP (KG (o':=0) Try.underlying121 rfl rfl rfl sz_81 (by decide)) ?_
  refine KV rfl (Kj rfl rfl rfl sz_81 (by repeat (first|exact Sh _|apply St_)) (by first|(simp only [KH,KD,KE,Kt]; omega)|(simp; done)|(simp; omega)) (by first|exact KAH _ _ _ _ _|exact KAJ _ _ _ _ (by omega)|exact KAI _ _ _ _|rfl) (by simp) ?_)
  refine KC ?_
  refine KB (KA ?_)
  refine oP (KZ (v:=.int .i64 ((0:Nat):Int)) rfl) ?_
  refine KC (KM ?_)
  have hc2:(evsL (l++[k])).length+rest1.length = cap1*2:=by rw [evsL_snoc,List.length_append]; exact hc1
  have hsl:(l++[k]).length = l.length+1:=by simp
  refine ⟨[_],.cons rfl .nil,fun a w' hr=>?_⟩
  have g1:=hr.hp (Item.blk b ⟨true,[.slice (some ⟨b1,0,none⟩) (l.length+1) cap1],121,(0,0)⟩) (by repeat (first|exact Mh _|apply Mt))
  have g2:=hr.hp (Item.blk b1 ⟨true,(evsL l++[.int .i64 ((2:Nat):Int),.int .i64 ((k:Nat):Int)])++rest1,83,(0,0)⟩) (by repeat (first|exact Mh _|apply Mt))
  have o1:=hr.own (Item.blk b ⟨true,[.slice (some ⟨b1,0,none⟩) (l.length+1) cap1],121,(0,0)⟩) (by repeat (first|exact Mh _|apply Mt)) rfl
  have o2:=hr.own (Item.blk b1 ⟨true,(evsL l++[.int .i64 ((2:Nat):Int),.int .i64 ((k:Nat):Int)])++rest1,83,(0,0)⟩) (by repeat (first|exact Mh _|apply Mt)) rfl
  have hap:b1≠b:=apart_two hr.dist (b:=b) (B:=⟨true,[.slice (some ⟨b1,0,none⟩) (l.length+1) cap1],121,(0,0)⟩) (c:=b1) (D:=⟨true,(evsL l++[.int .i64 ((2:Nat):Int),.int .i64 ((k:Nat):Int)])++rest1,83,(0,0)⟩) (by repeat (first|exact Mh _|apply Mt)) (by repeat (first|exact Mh _|apply Mt)) rfl (fun e=>absurd (show (121:Nat) = 83 from e) (by decide))
  rw [← evsL_snoc] at g2
  rw [← hsl] at g1
  exact ⟨some (b1,cap1,rest1),rfl,trI_of ⟨g1,g2,hc2,hap⟩,fun j hj=>(by
    have hj':j = b∨j = b1:=by simpa [trFp] using hj
    rcases hj' with rfl|rfl
    · exact o1 j (.head _)
    · exact o2 j (.head _)),hr.fr⟩
def trE (b:Option Nat):Int:=match b with
  | none=>1
  | some _=>0
theorem c_trIndex (b:Option Nat) (r:TrRow) (l:List Nat) (k:Nat) (w:World) (h:(trI b r l).holds w) (hl:l.length≤100000000):Calls Try.prog 83 ([trV b,.int .i64 ((k:Nat):Int)]:List Value).toArray w (TrR w b r (l++[k]) (.int .i64 (trE b))):=by
  rcases b with _|b
  · exact (c_trIndex0 k w).mono fun e w' ⟨h1,h2⟩=>TrR.same (trI_of trivial) h1 h2
  · have hp:=trI_P h
    rcases r with _|⟨r,cap,rest⟩
    · obtain rfl:=hp.2
      exact c_trIndex1 b k w hp
    · exact c_trIndex2 b r cap rest l k w hp hl
end Go.Proofs.Ytlmiolnccgjjjaa
set_option linter.unusedVariables false
set_option linter.unusedSimpArgs false
set_option maxRecDepth 20000
namespace Go.Proofs.Ytlmiolnccgjjjaa
open Go Go.RowKit
theorem neg64 {x:Nat} (h0:x≠0) (hx:x<18446744073709551616):Value.int .u64 (IntKind.u64.wrap (0-(x:Int))) = .int .u64 ((18446744073709551616-x:Nat):Int):=by
  rw [wrap_u64,show (0-(x:Int))%18446744073709551616 = ((18446744073709551616-x:Nat):Int) by omega]
theorem cpl64 {y:Nat} (hy:y<18446744073709551616):Value.int .u64 (IntKind.u64.wrap (BitVec.ofInt IntKind.u64.bits IntKind.u64.max ^^^ BitVec.ofInt IntKind.u64.bits (y:Int)).toNat) = .int .u64 ((18446744073709551615-y:Nat):Int):=by
  have e3:(BitVec.ofInt IntKind.u64.bits IntKind.u64.max ^^^ BitVec.ofInt IntKind.u64.bits (y:Int)).toNat = 18446744073709551615-y:=by
    show (BitVec.ofInt 64 18446744073709551615 ^^^ BitVec.ofInt 64 (y:Int)).toNat = _
    rw [show BitVec.ofInt 64 18446744073709551615 = BitVec.allOnes 64 by decide,BitVec.ofInt_natCast,BitVec.allOnes_xor,BitVec.toNat_not,BitVec.toNat_ofNat,Nat.mod_eq_of_lt (show y<2^64 from hy)]
  rw [e3,wrap_u64_nat,Nat.mod_eq_of_lt (by omega)]
theorem or_top {x:Nat} (h0:x≠0) (hx:x<18446744073709551616):9223372036854775808≤x ||| (18446744073709551616-x):=by
  have h1:=(Nat.left_le_or:x≤x ||| (18446744073709551616-x))
  have h2:=(Nat.right_le_or:18446744073709551616-x≤x ||| (18446744073709551616-x))
  omega
theorem xor_zero {a b:Nat}:a ^^^ b = 0↔a = b:=by
  constructor
  · intro h
    have:=congrArg (· ^^^ b) h
    simpa [Nat.xor_assoc] using this
  · rintro rfl; exact Nat.xor_self _
theorem c_spread (b:Nat) (w:World) (hb:b≤1):Calls Try.prog 146 ([.int .u64 ((b:Nat):Int)]:List Value).toArray w (fun e w'=>e = .returned (.int .u64 ((if b = 0 then 0 else 18446744073709551615:Nat):Int))∧Below w.heap.size w w'):=by
  refine Ki (N:=6) (rs:=[.tmp 2]) [] Try.func146 rfl Try.ntmps146 Try.results146 (Nb rfl) trivial rfl ?_
  show LCode _ _ _ ⟨_,_⟩ _
  refine KB (KA ?_)
  refine oP (KZ (v:=.int .u64 ((0:Nat):Int)) rfl) ?_
  refine KC ?_
  refine KB ?_
  rcases (show b = 0∨b = 1 by omega) with rfl|rfl
  ·
    refine KA ?_
    refine oM ?_
    refine oP (KF rfl rfl (br_and64 (b:=1) (by decide) (by decide))) ?_
    refine oP (Det.neg rfl) ?_
    refine oA ?_
    refine KC (KM ?_)
    refine ⟨[_],.cons rfl .nil,fun a w' hr=>⟨?_,hr.fr.below⟩⟩
    rfl
  ·
    refine KA ?_
    refine oM ?_
    refine oP (KF rfl rfl (br_and64 (b:=1) (by decide) (by decide))) ?_
    refine oP (Det.neg rfl) ?_
    refine oA ?_
    refine KC (KM ?_)
    refine ⟨[_],.cons rfl .nil,fun a w' hr=>⟨?_,hr.fr.below⟩⟩
    rfl
theorem c_mZero (x:Nat) (w:World) (hx:x<18446744073709551616):Calls Try.prog 126 ([.int .u64 ((x:Nat):Int)]:List Value).toArray w (fun e w'=>e = .returned (.int .u64 ((if x = 0 then 18446744073709551615 else 0:Nat):Int))∧Below w.heap.size w w'):=by
  refine Ki (N:=10) (rs:=[.tmp 2]) [] Try.func126 rfl Try.ntmps126 Try.results126 (Nb rfl) trivial rfl ?_
  show LCode _ _ _ ⟨_,_⟩ _
  refine KB (KA ?_)
  refine oP (KZ (v:=.int .u64 ((0:Nat):Int)) rfl) ?_
  refine KC ?_
  refine KB ?_
  by_cases h0:x = 0
  ·
    subst h0
    refine KA ?_
    refine oM ?_
    refine oM ?_
    refine oP (Det.neg rfl) ?_
    refine oP (KF rfl rfl (br_or64 (b:=0) (by decide) (by decide))) ?_
    refine oP (Det.cpl rfl rfl) ?_
    refine oP (KF (v:=.int .u64 ((1:Nat):Int)) rfl rfl (by kernel_rfl)) ?_
    refine oS (cF rfl en_146 rfl (fun w hw=>c_spread 1 w (by decide)) ?_)
    refine oA ?_
    refine KC (KM ?_)
    refine ⟨[_],.cons rfl .nil,fun a w' hr=>⟨rfl,hr.fr.below⟩⟩
  ·
    have ht:=or_top h0 hx
    have hlt:x ||| (18446744073709551616-x)<18446744073709551616:=Nat.or_lt_two_pow (n:=64) hx (by omega)
    refine KA ?_
    refine oM ?_
    refine oM ?_
    refine oP (KK (Det.neg rfl) (neg64 h0 hx)) ?_
    refine oP (KF rfl rfl (br_or64 hx (by omega))) ?_
    refine oP (KK (Det.cpl rfl rfl) (cpl64 hlt)) ?_
    refine oP (KK (KF rfl rfl (KAL (b:=63) (by omega))) (vi (b:=0) (Nat.div_eq_of_lt (by omega)))) ?_
    refine oS (cF rfl en_146 rfl (fun w hw=>c_spread 0 w (by decide)) ?_)
    refine oA ?_
    refine KC (KM ?_)
    refine ⟨[_],.cons rfl .nil,fun a w' hr=>⟨?_,hr.fr.below⟩⟩
    rw [if_neg h0]
    rfl
theorem c_mEqual (a b:Nat) (w:World) (ha:a<18446744073709551616) (hb:b<18446744073709551616):Calls Try.prog 84 ([.int .u64 ((a:Nat):Int),.int .u64 ((b:Nat):Int)]:List Value).toArray w (fun e w'=>e = .returned (.int .u64 ((if a = b then 18446744073709551615 else 0:Nat):Int))∧Below w.heap.size w w'):=by
  refine Ki (N:=9) (rs:=[.tmp 4]) [] Try.func84 rfl Try.ntmps84 Try.results84 (Nb rfl) trivial rfl ?_
  show LCode _ _ _ ⟨_,_⟩ _
  refine KB (KA ?_)
  refine oP (KZ (v:=.int .u64 ((0:Nat):Int)) rfl) ?_
  refine KC ?_
  refine KB (KA ?_)
  refine oM ?_
  refine oM ?_
  refine oP (KF rfl rfl (br_xor64 ha hb)) ?_
  refine oS (cF rfl en_126 rfl (fun w hw=>c_mZero (a ^^^ b) w (Nat.xor_lt_two_pow (n:=64) ha hb)) ?_)
  refine oA ?_
  refine KC (KM ?_)
  refine ⟨[_],.cons rfl .nil,fun a_ w' hr=>⟨?_,hr.fr.below⟩⟩
  show Ending.returned (.int .u64 ((if a ^^^ b = 0 then 18446744073709551615 else 0:Nat):Int)) = _
  by_cases h:a = b
  · rw [if_pos h,if_pos (xor_zero.2 h)]
  · rw [if_neg h,if_neg (fun e=>h (xor_zero.1 e))]
theorem andNot_0 {b:Nat} (hb:b<18446744073709551616):Kw .andNot .u64 (b:Int) .u64 ((0:Nat):Int) = some (.int .u64 (b:Int)):=by
  simp only [Kw,if_true]
  have e:(BitVec.ofInt 64 (b:Int) &&& ~~~BitVec.ofInt 64 0).toNat = b:=by
    rw [show ~~~BitVec.ofInt 64 0 = BitVec.allOnes 64 by decide,BitVec.and_allOnes,BitVec.ofInt_natCast,BitVec.toNat_ofNat,Nat.mod_eq_of_lt (show b<2^64 from hb)]
  show some (Value.int .u64 (IntKind.u64.wrap ((BitVec.ofInt 64 (b:Int) &&& ~~~BitVec.ofInt 64 0).toNat:Int))) = _
  rw [e,wrap_u64_nat,Nat.mod_eq_of_lt hb]
theorem andNot_m {b:Nat}:Kw .andNot .u64 (b:Int) .u64 ((18446744073709551615:Nat):Int) = some (.int .u64 ((0:Nat):Int)):=by
  simp only [Kw,if_true]
  have e:(BitVec.ofInt 64 (b:Int) &&& ~~~BitVec.ofInt 64 18446744073709551615).toNat = 0:=by
    rw [show ~~~BitVec.ofInt 64 18446744073709551615 = 0#64 by decide,BitVec.and_zero]; rfl
  show some (Value.int .u64 (IntKind.u64.wrap ((BitVec.ofInt 64 (b:Int) &&& ~~~BitVec.ofInt 64 18446744073709551615).toNat:Int))) = _
  rw [e]; rfl
theorem and_max {a:Nat} (ha:a<18446744073709551616):a &&& 18446744073709551615 = a:=by
  rw [show 18446744073709551615 = 2^64-1 from rfl,Nat.and_two_pow_sub_one_eq_mod]
  exact Nat.mod_eq_of_lt ha
theorem c_word (m a b:Nat) (w:World) (hm:m = 0∨m = 18446744073709551615) (ha:a<18446744073709551616) (hb:b<18446744073709551616):Calls Try.prog 128 ([.agg ([.int .u64 ((m:Nat):Int)]:List Value).toArray,.int .u64 ((a:Nat):Int),.int .u64 ((b:Nat):Int)]:List Value).toArray w (fun e w'=>e = .returned (.int .u64 ((if m = 0 then b else a:Nat):Int))∧Below w.heap.size w w'):=by
  refine Ki (N:=16) (rs:=[.tmp 6]) [] Try.func128 rfl Try.ntmps128 Try.results128 (Nb rfl) trivial rfl ?_
  show LCode _ _ _ ⟨_,_⟩ _
  refine KB (KA ?_)
  refine oS (mB (fun b3=>?_))
  refine oP (KZ (v:=.int .u64 ((0:Nat):Int)) rfl) ?_
  refine KC ?_
  refine KB ?_
  rcases hm with rfl|rfl
  ·
    refine KA ?_
    refine oM ?_
    refine oP (KG (o':=0) Try.underlying180 rfl rfl rfl sz_30 (by decide)) ?_
    refine oD (dL rfl (hv:=KL Try.underlying30 rfl (by first|rfl|exact Ke _ _ _ (by omega)|exact Kd _ (by omega)|exact Kb _ (by omega)|exact dv_m _ _ _ (by omega)))) ?_
    refine oP (KK (KF rfl rfl (br_and64 (b:=0) ha (by decide))) (vi (b:=0) (Nat.and_zero _))) ?_
    refine oM ?_
    refine oP (KG (o':=0) Try.underlying180 rfl rfl rfl sz_30 (by decide)) ?_
    refine oD (dL rfl (hv:=KL Try.underlying30 rfl (by first|rfl|exact Ke _ _ _ (by omega)|exact Kd _ (by omega)|exact Kb _ (by omega)|exact dv_m _ _ _ (by omega)))) ?_
    refine oP (KF rfl rfl (andNot_0 hb)) ?_
    refine oP (KK (KF rfl rfl (br_or64 (a:=0) (by decide) hb)) (vi (b:=b) (Nat.zero_or _))) ?_
    refine oA ?_
    refine KC (KM ?_)
    refine ⟨[_],.cons rfl .nil,fun a w' hr=>⟨?_,hr.fr.below⟩⟩
    rfl
  ·
    refine KA ?_
    refine oM ?_
    refine oP (KG (o':=0) Try.underlying180 rfl rfl rfl sz_30 (by decide)) ?_
    refine oD (dL rfl (hv:=KL Try.underlying30 rfl (by first|rfl|exact Ke _ _ _ (by omega)|exact Kd _ (by omega)|exact Kb _ (by omega)|exact dv_m _ _ _ (by omega)))) ?_
    refine oP (KK (KF rfl rfl (br_and64 (b:=18446744073709551615) ha (by decide))) (vi (b:=a) (and_max ha))) ?_
    refine oM ?_
    refine oP (KG (o':=0) Try.underlying180 rfl rfl rfl sz_30 (by decide)) ?_
    refine oD (dL rfl (hv:=KL Try.underlying30 rfl (by first|rfl|exact Ke _ _ _ (by omega)|exact Kd _ (by omega)|exact Kb _ (by omega)|exact dv_m _ _ _ (by omega)))) ?_
    refine oP (KF rfl rfl andNot_m) ?_
    refine oP (KK (KF rfl rfl (br_or64 (b:=0) ha (by decide))) (vi (b:=a) (Nat.or_zero _))) ?_
    refine oA ?_
    refine KC (KM ?_)
    refine ⟨[_],.cons rfl .nil,fun a w' hr=>⟨?_,hr.fr.below⟩⟩
    rfl
theorem c_wordL (m A B R x:Nat) (w:World) (hm:m = 0∨m = 18446744073709551615) (hR:R = if m = 0 then B else A):Calls Try.prog 128 ([.agg ([.int .u64 ((m:Nat):Int)]:List Value).toArray,.int .u64 ((limb A x:Nat):Int),.int .u64 ((limb B x:Nat):Int)]:List Value).toArray w (fun e w'=>e = .returned (.int .u64 ((limb R x:Nat):Int))∧Below w.heap.size w w'):=by
  have h:=c_word m (limb A x) (limb B x) w hm (limb_lt _ _) (limb_lt _ _)
  rw [show limb R x = if m = 0 then limb B x else limb A x by rw [hR]; split <;> rfl]
  exact h
theorem mix_get {R A x:Nat} (h:x<9):(vec .u64 9 (fun k=>if k<x then limb R k else limb A k))[x]? = some (.int .u64 ((limb A x:Nat):Int)):=by
  rw [Ke _ _ _ h,if_neg (Nat.lt_irrefl x)]
theorem mix_step (R A x:Nat):vec .u64 9 (fun j=>if j = x then limb R x else (if j<x then limb R j else limb A j)) = vec .u64 9 (fun k=>if k<x+1 then limb R k else limb A k):=KAA fun k _=>by
  by_cases e:k = x
  · subst e; rw [if_pos rfl,if_pos (Nat.lt_succ_self _)]
  · rw [if_neg e]
    by_cases l:k<x
    · rw [if_pos l,if_pos (by omega)]
    · rw [if_neg l,if_neg (by omega)]
theorem c_mNat (m A B R:Nat) (w:World) (hm:m = 0∨m = 18446744073709551615) (hR:R = if m = 0 then B else A):Calls Try.prog 127 ([.func (.func 128) #[.agg ([.int .u64 ((m:Nat):Int)]:List Value).toArray] #[],natV A,natV B]:List Value).toArray w (fun e w'=>e = .returned (natV R)∧Below w.heap.size w w'):=by
  refine Ki (N:=26) (rs:=[.cell 6 33]) [] Try.func127 rfl Try.ntmps127 Try.results127 (Nb rfl) trivial rfl ?_
  show LCode _ _ _ ⟨_,_⟩ _
  refine KB (KA ?_)
  refine oS (mB (fun b4=>?_))
  refine oS (mB (fun b5=>?_))
  refine oS (mk (KX zr_33) (fun b6=>?_))
  refine KC ?_
  refine KB ?_
  refine KB (KA ?_)
  refine oP (KAB (v:=.int .i64 ((0:Nat):Int)) rfl) ?_
  refine KC ?_
  refine LCode.block ?_
  refine Ks (α:=Nat) (fun x=>x≤9) (fun x=>⟨[(0,.func (.func 128) #[.agg ([.int .u64 ((m:Nat):Int)]:List Value).toArray] #[]),(4,.pointer (some ⟨b4,0,none⟩)),(5,.pointer (some ⟨b5,0,none⟩)),(6,.pointer (some ⟨b6,0,none⟩)),(8,.int .i64 ((x:Nat):Int))],[.blk b6 ⟨true,vec .u64 9 (fun _=>0),33,(0,0)⟩,.blk b5 ⟨true,natL B,33,(0,0)⟩,.blk b4 ⟨true,vec .u64 9 (fun k=>if k<x then limb R k else limb A k),33,(0,0)⟩]⟩) (fun x=>9-x) (0) (Nat.zero_le _) (KAO (Sub.cells (b:=b4) (cs':=vec .u64 9 (fun k=>if k<0 then limb R k else limb A k)) (by repeat (first|exact Sh _|apply St_)) (KAA fun k _=>(if_neg (Nat.not_lt_zero k)).symm)) (Kq ⟨rfl,rfl,rfl,rfl,rfl,trivial⟩ (by repeat (first|exact Sel.nil _|refine Sel.cons (by repeat (first|exact Ph _|apply Pt_)) ?_)))) ?_
  intro x hx
  refine KB (KA ?_)
  refine oP (KF rfl rfl (KAT (b:=9))) ?_
  refine KC ?_
  refine KB ?_
  first|refine KS rfl (fun h9=>?_) (fun h9=>?_)|refine KU rfl (fun h9=>?_) (fun h9=>?_)
  ·
    have h9:x<9:=h9
    refine KT ?_
    refine KB ?_
    refine LCode.block ?_
    refine KB (KA ?_)
    refine oM ?_
    refine oA ?_
    refine KC ?_
    refine rD [13] ?_
    refine aM 0 ?_
    refine aM 1 ?_
    refine aM 2 ?_
    refine aP 3 rfl (KG (o':=0) Try.underlying33 rfl rfl rfl sz_31 (by decide)) ?_
    refine aP 4 rfl (Kr Try.underlying31 sz_30 rfl rfl (by omega)) ?_
    refine aD 5 rfl (dL rfl (hv:=KL Try.underlying30 rfl (by exact mix_get (by omega)))) ?_
    refine aM 6 ?_
    refine aP 7 rfl (KG (o':=0) Try.underlying33 rfl rfl rfl sz_31 (by decide)) ?_
    refine aP 8 rfl (Kr Try.underlying31 sz_30 rfl rfl (by omega)) ?_
    refine aD 9 rfl (dL rfl (hv:=KL Try.underlying30 rfl (by first|rfl|exact Ke _ _ _ (by omega)|exact Kd _ (by omega)|exact Kb _ (by omega)|exact dv_m _ _ _ (by omega)))) ?_
    refine aP 11 rfl (KG (o':=0) Try.underlying33 rfl rfl rfl sz_31 (by decide)) ?_
    refine aO 10 rfl (KAG (first:=[.agg ([.int .u64 ((m:Nat):Int)]:List Value).toArray]) rfl en_128 rfl (Nb rfl) (fun w hw=>c_wordL m A B R x w hm hR) ?_)
    refine aP 12 rfl (Kr Try.underlying31 sz_30 rfl rfl (by omega)) ?_
    refine aL 13 rfl (Kj rfl rfl rfl sz_30 (by repeat (first|exact Sh _|apply St_)) (by first|(simp only [KH,KD,KE,Kt]; omega)|(simp; done)|(simp; omega)) (by first|exact KAH _ _ _ _ _|exact KAJ _ _ _ _ (by omega)|exact KAI _ _ _ _|rfl) (by simp) ?_)
    refine aE ?_
    refine KA ?_
    refine oP (KF rfl rfl (Kv (b:=1) (by omega))) ?_
    refine oM ?_
    refine KC ?_
    refine ⟨x+1,by omega,by omega,KAO (Sub.cells (b:=b4) (cs':=vec .u64 9 (fun k=>if k<x+1 then limb R k else limb A k)) (by repeat (first|exact Sh _|apply St_)) (mix_step R A x)) (Kq ⟨rfl,rfl,rfl,rfl,rfl,trivial⟩ (by repeat (first|exact Sel.nil _|refine Sel.cons (by repeat (first|exact Ph _|apply Pt_)) ?_)))⟩
  ·
    have h9:¬ x<9:=h9
    refine Kp ?_
    refine KB ?_
    obtain rfl:x = 9:=by omega
    refine LCode.sub (Sub.cells (b:=b4) (cs':=natL R) (by repeat (first|exact Sh _|apply St_)) (KAA fun k hk=>by rw [if_pos hk])) ?_
    refine KA ?_
    refine oD (dL rfl (hv:=by exact KI Try.underlying33 rfl sz_33)) ?_
    refine KV rfl (sA rfl rfl sz_33 (by repeat (first|exact Ka _|exact Kl _ _ _|exact Kc _|exact Kg _ _ _|exact Km _ _ _|exact KO|refine KJ rfl ?_|refine KP ?_ ?_)) (hl:=by first|exact KD _|exact KH _ _ _|exact KE _|exact KN _ _ _|exact KY _ _ _|rfl|simp [KH,KD,KE]) (h:=?_))
    refine KC (KM ?_)
    refine ⟨[_],.cons ⟨_,_,_,rfl,(by repeat (first|exact Mh _|apply Mt)),by exact KI Try.underlying33 rfl sz_33⟩ .nil,fun a w' hr=>⟨?_,hr.fr.below⟩⟩
    rfl
theorem c_mSelect (m A B R:Nat) (w:World) (hm:m = 0∨m = 18446744073709551615) (hR:R = if m = 0 then B else A):Calls Try.prog 85 ([.int .u64 ((m:Nat):Int),natV A,natV B]:List Value).toArray w (fun e w'=>e = .returned (natV R)∧Below w.heap.size w w'):=by
  refine Ki (N:=13) (rs:=[.cell 6 33]) [] Try.func85 rfl Try.ntmps85 Try.results85 (Nb rfl) trivial rfl ?_
  show LCode _ _ _ ⟨_,_⟩ _
  refine KB (KA ?_)
  refine oS (mB (fun b4=>?_))
  refine oS (mB (fun b5=>?_))
  refine oS (mk (KX zr_33) (fun b6=>?_))
  refine KC ?_
  refine KB (KA ?_)
  refine oM ?_
  refine oP (KK (Ky pl_180 zr_180 rfl rfl) (show _ = Value.agg ([.int .u64 ((m:Nat):Int)]:List Value).toArray from rfl)) ?_
  refine oP (Det.makeFunc1 rfl) ?_
  refine oD (dL rfl (hv:=by exact KI Try.underlying33 rfl sz_33)) ?_
  refine oD (dL rfl (hv:=by exact KI Try.underlying33 rfl sz_33)) ?_
  refine oS (cF rfl en_127 rfl (fun w hw=>c_mNat m A B R w hm hR) ?_)
  refine KV rfl (sA rfl rfl sz_33 (by repeat (first|exact Ka _|exact Kl _ _ _|exact Kc _|exact Kg _ _ _|exact Km _ _ _|exact KO|refine KJ rfl ?_|refine KP ?_ ?_)) (hl:=by first|exact KD _|exact KH _ _ _|exact KE _|exact KN _ _ _|exact KY _ _ _|rfl|simp [KH,KD,KE]) (h:=?_))
  refine KC (KM ?_)
  refine ⟨[_],.cons ⟨_,_,_,rfl,(by repeat (first|exact Mh _|apply Mt)),by exact KI Try.underlying33 rfl sz_33⟩ .nil,fun a w' hr=>⟨?_,hr.fr.below⟩⟩
  rfl
end Go.Proofs.Ytlmiolnccgjjjaa
set_option linter.unusedVariables false
set_option linter.unusedSimpArgs false
set_option maxRecDepth 20000
namespace Go.Proofs.Ytlmiolnccgjjjaa
open Go Go.RowKit
theorem c_n_Nat (q:NV) (A n:Nat) (w:World) (hq:(numI q A n).holds w):Calls Try.prog 52 ([slV q n]:List Value).toArray w (fun e w'=>e = .returned (natV A)∧Below w.heap.size w w'):=by
  refine Ki (N:=24) (rs:=[.cell 2 33]) [numI q A n] Try.func52 rfl Try.ntmps52 Try.results52 (Nb rfl) ⟨hq,trivial⟩ rfl ?_
  show LCode _ _ _ ⟨_,_⟩ _
  refine KB (KA ?_)
  refine oS (mk (KX zr_33) (fun b2=>?_))
  refine KC ?_
  refine KB (KA ?_)
  refine oS (mk (KX zr_33) (fun b3=>?_))
  refine KC ?_
  refine KB ?_
  refine KB (KA ?_)
  refine oP (KZ (v:=.int .i64 ((0:Nat):Int)) rfl) ?_
  refine KC ?_
  refine LCode.block ?_
  refine Ks (α:=Nat) (fun x=>x≤9) (fun x=>⟨[(0,slV q n),(2,.pointer (some ⟨b2,0,none⟩)),(3,.pointer (some ⟨b3,0,none⟩)),(4,.int .i64 ((x:Nat):Int))],[.blk b3 ⟨true,vec .u64 9 (fun j=>if j<x then limb A j else 0),33,(0,0)⟩,.blk b2 ⟨true,vec .u64 9 (fun _=>0),33,(0,0)⟩,numI q A n]⟩) (fun x=>9-x) (0) (Nat.zero_le _) (Kq ⟨rfl,rfl,rfl,rfl,trivial⟩ (by repeat (first|exact Sel.nil _|refine Sel.cons (by repeat (first|exact Ph _|apply Pt_)) ?_))) ?_
  intro x hx
  refine KB ?_
  refine KB (KA ?_)
  refine oM ?_
  refine oP (KF rfl rfl (KAT (b:=9))) ?_
  refine KC ?_
  first|refine KS rfl (fun h6=>?_) (fun h6=>?_)|refine KU rfl (fun h6=>?_) (fun h6=>?_)
  ·
    refine KT ?_
    refine KB ?_
    refine LCode.block ?_
    refine KA ?_
    refine oM ?_
    refine oM ?_
    refine oM ?_
    refine oP (KF rfl rfl (br_mul (a:=2) (by omega))) ?_
    refine oS (cF rfl en_95 rfl (fun w hw=>c_n_digit _ _ _ _ w (mC hw)) ?_)
    refine oM ?_
    refine oM ?_
    refine oP (KF rfl rfl (br_mul (a:=2) (by omega))) ?_
    refine oP (KF rfl rfl (Kv (b:=1) (by omega))) ?_
    refine oS (cF rfl en_95 rfl (fun w hw=>c_n_digit _ _ _ _ w (mC hw)) ?_)
    refine oP (KF rfl rfl (br_shl64 (b:=32))) ?_
    refine oP (KF rfl rfl (br_or64 (Nat.lt_trans (D.limb_lt _ _) (by decide)) (Nat.mod_lt _ (by decide)))) ?_
    refine oP (KG (o':=0) Try.underlying33 rfl rfl rfl sz_31 (by decide)) ?_
    refine oP (Kr Try.underlying31 sz_30 rfl rfl (by omega)) ?_
    refine KV rfl (Kj rfl rfl rfl sz_30 (by repeat (first|exact Sh _|apply St_)) (by first|(simp only [KH,KD,KE,Kt]; omega)|(simp; done)|(simp; omega)) (by first|exact KAH _ _ _ _ _|exact KAJ _ _ _ _ (by omega)|exact KAI _ _ _ _|rfl) (by simp) ?_)
    refine KC ?_
    refine KA ?_
    refine oM ?_
    refine oP (KF rfl rfl (Kv (b:=1) (by omega))) ?_
    refine oA ?_
    refine KC ?_
    refine ⟨x+1,by omega,by omega,KAO (Sub.cells (b:=b3) (cs':=vec .u64 9 (fun j=>if j<x+1 then limb A j else 0)) (by repeat (first|exact Sh _|apply St_)) (KAA fun j hj=>?_)) (Kq ⟨rfl,rfl,rfl,rfl,trivial⟩ (by repeat (first|exact Sel.nil _|refine Sel.cons (by repeat (first|exact Ph _|apply Pt_)) ?_)))⟩
    by_cases e:j = x
    · rw [if_pos e,if_pos (by omega),e]
      exact word_or A x
    · rw [if_neg e]
      by_cases e3:j<x
      · rw [if_pos e3,if_pos (by omega)]
      · rw [if_neg e3,if_neg (by omega)]
  ·
    refine Kp ?_
    refine KB ?_
    obtain rfl:x = 9:=by omega
    refine LCode.sub (Sub.cells (b:=b3) (cs':=natL A) (by repeat (first|exact Sh _|apply St_)) (KAA fun j hj=>if_pos (by omega))) ?_
    refine KA ?_
    refine oD (dL rfl (hv:=by exact KI Try.underlying33 rfl sz_33)) ?_
    refine KV rfl (sA rfl rfl sz_33 (by repeat (first|exact Ka _|exact Kl _ _ _|exact Kc _|exact Kg _ _ _|exact Km _ _ _|exact KO|refine KJ rfl ?_|refine KP ?_ ?_)) (hl:=by first|exact KD _|exact KH _ _ _|exact KE _|exact KN _ _ _|exact KY _ _ _|rfl|simp [KH,KD,KE]) (h:=?_))
    refine KC (KM ?_)
    refine ⟨[_],.cons ⟨_,_,_,rfl,(by repeat (first|exact Mh _|apply Mt)),by exact KI Try.underlying33 rfl sz_33⟩ .nil,fun a w' hr=>⟨?_,hr.fr.below⟩⟩
    rfl
theorem c_n_Cmp (q r:NV) (A B:Nat) (w:World) (hq:(numT q A).holds w) (hr:(numT r B).holds w) (hA:D.nw A≤1000000):Calls Try.prog 59 ([numV q A,numV r B]:List Value).toArray w (fun e w'=>e = .returned (.int .i64 (cmpI A B))∧Below w.heap.size w w'):=by
  refine Ki (N:=41) (rs:=[.tmp 4]) [numT q A,numT r B] Try.func59 rfl Try.ntmps59 Try.results59 (Nb rfl) ⟨hq,hr,trivial⟩ rfl ?_
  show LCode _ _ _ ⟨_,_⟩ _
  refine KB (KA ?_)
  refine oP (KZ (v:=.int .i64 ((0:Nat):Int)) rfl) ?_
  refine KC ?_
  refine KB ?_
  refine KB (KA ?_)
  refine oM ?_
  refine oP (KAC Try.underlying24 rfl) ?_
  refine oM ?_
  refine oP (KAC Try.underlying24 rfl) ?_
  refine oP (KF rfl rfl (br_neq)) ?_
  refine KC ?_
  first|refine KS rfl (fun h10=>?_) (fun h10=>?_)|refine KU rfl (fun h10=>?_) (fun h10=>?_)
  ·
    have h10:¬ D.nw A = D.nw B:=by have:=h10; simpa using this
    refine KB ?_
    refine KB (KA ?_)
    refine oM ?_
    refine oP (KAC Try.underlying24 rfl) ?_
    refine oM ?_
    refine oP (KAC Try.underlying24 rfl) ?_
    refine oP (KF rfl rfl (KAT)) ?_
    refine KC ?_
    first|refine KS rfl (fun h15=>?_) (fun h15=>?_)|refine KU rfl (fun h15=>?_) (fun h15=>?_)
    ·
      have h15:D.nw A<D.nw B:=by have:=h15; simpa using this
      refine KB (KA ?_)
      refine oA ?_
      refine KC (KM ?_)
      have he:A<B:=D.lt_of_nw h15
      refine ⟨[_],.cons rfl .nil,fun a w' hr=>⟨?_,hr.fr.below⟩⟩
      simp [resOf,cmpI,he]
    ·
      have h15:¬ D.nw A<D.nw B:=by have:=h15; simpa using this
      refine KT ?_
      refine KB (KA ?_)
      refine oP (KZ (v:=.int .i64 ((1:Nat):Int)) rfl) ?_
      refine KC (KM ?_)
      have he:B<A:=D.lt_of_nw (by omega)
      have he2:¬ A<B:=by omega
      refine ⟨[_],.cons rfl .nil,fun a w' hr=>⟨?_,hr.fr.below⟩⟩
      simp [resOf,cmpI,he,he2]
  ·
    have h10:D.nw A = D.nw B:=by have:=h10; simpa using this
    refine KT ?_
    refine KB ?_
    refine KB (KA ?_)
    refine oM ?_
    refine oP (KAC Try.underlying24 rfl) ?_
    refine oP (KF (v:=.int .i64 ((D.nw A:Int)-1)) rfl rfl (br_subI (by omega) (by omega))) ?_
    refine oA ?_
    refine KC ?_
    refine LCode.block ?_
    refine Ks (α:=Nat) (fun x=>x≤D.nw A∧A/2^(32*x) = B/2^(32*x)) (fun x=>⟨[(0,numV q A),(1,numV r B),(5,.int .i64 ((x:Int)-1))],[numT q A,numT r B]⟩) (fun x=>x) (D.nw A) (⟨Nat.le_refl _,by rw [Nat.div_eq_of_lt (D.lt_nw A),h10,Nat.div_eq_of_lt (D.lt_nw B)]⟩) (Kq ⟨rfl,rfl,rfl,trivial⟩ (by repeat (first|exact Sel.nil _|refine Sel.cons (by repeat (first|exact Ph _|apply Pt_)) ?_))) ?_
    rintro x ⟨hx,hab⟩
    refine KB ?_
    refine KB ?_
    rcases Nat.eq_zero_or_pos x with h0|h0
    ·
      refine KA ?_
      refine oM ?_
      refine oP (KF (v:=.bool false) rfl rfl (by subst h0; rfl)) ?_
      refine KC ?_
      refine KR rfl ?_
      refine Kp ?_
      refine KB (KA ?_)
      refine oP (KZ (v:=.int .i64 ((0:Nat):Int)) rfl) ?_
      refine KC (KM ?_)
      have he:A = B:=by subst h0; simpa using hab
      refine ⟨[_],.cons rfl .nil,fun a w' hr=>⟨?_,hr.fr.below⟩⟩
      simp [resOf,cmpI,he]
    ·
      obtain ⟨x,rfl⟩:∃ y,x = y+1:=⟨x-1,by omega⟩
      refine KA ?_
      refine oM ?_
      refine oP (KF (v:=.bool true) rfl rfl (by simp [Kw])) ?_
      refine KC ?_
      refine Kf rfl ?_
      refine KT ?_
      refine KB ?_
      refine LCode.block ?_
      refine KB ?_
      refine rD [] ?_
      refine aM 0 ?_
      refine aP 1 rfl (KAB (v:=.int .i64 ((x:Nat):Int)) (by show some _ = some _; congr 2; omega)) ?_
      refine aP 2 rfl (KAW Try.underlying24 sz_67 rfl rfl (by omega)) ?_
      refine aD 3 rfl (Det.loadN Try.underlying67 rfl rfl (by repeat (first|exact Mh _|apply Mt)) (by omega)) ?_
      refine aM 4 ?_
      refine aP 5 rfl (KAB (v:=.int .i64 ((x:Nat):Int)) (by show some _ = some _; congr 2; omega)) ?_
      refine aP 6 rfl (KAW Try.underlying24 sz_67 rfl rfl (by omega)) ?_
      refine aD 7 rfl (Det.loadN Try.underlying67 rfl rfl (by repeat (first|exact Mh _|apply Mt)) (by omega)) ?_
      refine aP 8 rfl (KF rfl rfl (br_neq)) ?_
      refine aE ?_
      first|refine KS rfl (fun h31=>?_) (fun h31=>?_)|refine KU rfl (fun h31=>?_) (fun h31=>?_)
      ·
        refine KB ?_
        refine KB ?_
        refine rD [] ?_
        refine aM 0 ?_
        refine aP 1 rfl (KAB (v:=.int .i64 ((x:Nat):Int)) (by show some _ = some _; congr 2; omega)) ?_
        refine aP 2 rfl (KAW Try.underlying24 sz_67 rfl rfl (by omega)) ?_
        refine aD 3 rfl (Det.loadN Try.underlying67 rfl rfl (by repeat (first|exact Mh _|apply Mt)) (by omega)) ?_
        refine aM 4 ?_
        refine aP 5 rfl (KAB (v:=.int .i64 ((x:Nat):Int)) (by show some _ = some _; congr 2; omega)) ?_
        refine aP 6 rfl (KAW Try.underlying24 sz_67 rfl rfl (by omega)) ?_
        refine aD 7 rfl (Det.loadN Try.underlying67 rfl rfl (by repeat (first|exact Mh _|apply Mt)) (by omega)) ?_
        refine aP 8 rfl (KF rfl rfl (KAT)) ?_
        refine aE ?_
        first|refine KS rfl (fun h40=>?_) (fun h40=>?_)|refine KU rfl (fun h40=>?_) (fun h40=>?_)
        ·
          refine KB (KA ?_)
          refine oA ?_
          refine KC (KM ?_)
          have he:A<B:=D.lt_of_limb hab h40
          refine ⟨[_],.cons rfl .nil,fun a w' hr=>⟨?_,hr.fr.below⟩⟩
          simp [resOf,cmpI,he]
        ·
          refine KT ?_
          refine KB (KA ?_)
          refine oP (KZ (v:=.int .i64 ((1:Nat):Int)) rfl) ?_
          refine KC (KM ?_)
          have he:B<A:=D.lt_of_limb hab.symm (by omega)
          have he2:¬ A<B:=by omega
          refine ⟨[_],.cons rfl .nil,fun a w' hr=>⟨?_,hr.fr.below⟩⟩
          simp [resOf,cmpI,he,he2]
      ·
        refine KT ?_
        refine KA ?_
        refine oP (KAB (v:=.int .i64 ((x:Nat):Int)) (by show some _ = some _; congr 2; omega)) ?_
        refine oP (KF rfl rfl rfl) ?_
        refine oA ?_
        refine KC ?_
        refine ⟨x,⟨by omega,?_⟩,by omega,Kq ⟨rfl,rfl,?_,trivial⟩ (by repeat (first|exact Sel.nil _|refine Sel.cons (by repeat (first|exact Ph _|apply Pt_)) ?_))⟩
        · have h1:D.limb A x = D.limb B x:=by have:=h31; omega
          exact (D.div_eq_iff_limb A B x).2 ⟨hab,h1⟩
        · exact congrArg (fun i:Int=>some (Value.int .i64 i)) (wrap_i64 (by omega) (by omega))
theorem c_n_Sub (q r:NV) (A B:Nat) (w:World) (hq:(numT q A).holds w) (hr:(numT r B).holds w) (hBA:B≤A) (hA:D.nw A≤1000000):Calls Try.prog 65 ([numV q A,numV r B]:List Value).toArray w (fun e w'=>NumR w ([]) (A-B) (fun v=>v) e w'):=by
  refine Ki (N:=39) (rs:=[.tmp 4]) [numT q A,numT r B] Try.func65 rfl Try.ntmps65 Try.results65 (Nb rfl) ⟨hq,hr,trivial⟩ rfl ?_
  show LCode _ _ _ ⟨_,_⟩ _
  refine KB (KA ?_)
  refine oA ?_
  refine KC ?_
  refine KB (KA ?_)
  refine oM ?_
  refine oP (KAC Try.underlying24 rfl) ?_
  refine oS (mk (Makes.mkV Try.underlying24 inf_67 rfl rfl (by omega) (by omega)) (fun b11=>?_))
  refine oA ?_
  refine KC ?_
  refine KB (KA ?_)
  refine oP (KZ (v:=.int .u64 ((0:Nat):Int)) rfl) ?_
  refine KC ?_
  refine KB ?_
  refine KB (KA ?_)
  refine oP (KZ (v:=.int .i64 ((0:Nat):Int)) rfl) ?_
  refine KC ?_
  refine LCode.block ?_
  refine Ks (α:=Nat) (fun x=>x≤D.nw A) (fun x=>⟨[(0,numV q A),(1,numV r B),(5,.slice (some ⟨b11,0,none⟩) (D.nw A) (D.nw A)),(6,.int .u64 ((D.borrow A B x:Nat):Int)),(7,.int .i64 ((x:Nat):Int))],[.blk b11 ⟨true,vec .u32 (D.nw A) (fun j=>if j<x then D.limb (A-B) j else 0),67,(0,0)⟩,numT q A,numT r B]⟩) (fun x=>D.nw A-x) (0) (Nat.zero_le _) (Kq ⟨rfl,rfl,rfl,by rw [D.borrow_zero]; rfl,rfl,trivial⟩ (by repeat (first|exact Sel.nil _|refine Sel.cons (by repeat (first|exact Ph _|apply Pt_)) ?_))) ?_
  intro x hx
  refine KB ?_
  refine KB (KA ?_)
  refine oM ?_
  refine oM ?_
  refine oP (KAC Try.underlying24 rfl) ?_
  refine oP (KF rfl rfl (KAT)) ?_
  refine KC ?_
  first|refine KS rfl (fun h15=>?_) (fun h15=>?_)|refine KU rfl (fun h15=>?_) (fun h15=>?_)
  ·
    refine KT ?_
    refine KB ?_
    refine LCode.block ?_
    refine KB ?_
    have hs:=D.sub_limb hBA x
    have hbr:=D.borrow_le A B x
    have hla:=D.limb_lt A x
    have hlb:=D.limb_lt B x
    refine KA ?_
    refine oM ?_
    refine oM ?_
    refine oS (cF rfl en_95 rfl (fun w hw=>c_n_digit q A (D.nw A) x w (mC hw)) ?_)
    refine oP (KF rfl rfl (KAM (b:=4294967296))) ?_
    refine oM ?_
    refine oM ?_
    refine oS (cF rfl en_95 rfl (fun w hw=>c_n_digit r B (D.nw B) x w (mC hw)) ?_)
    refine oP (KF rfl rfl (br_sub64 (by omega))) ?_
    refine oM ?_
    refine oP (KF rfl rfl (br_sub64 (by omega))) ?_
    refine oA ?_
    refine KC ?_
    refine KB (KA ?_)
    refine oM ?_
    refine oM ?_
    refine oM ?_
    refine oP (KF rfl rfl (br_and64 (b:=4294967295) (by omega) (by decide))) ?_
    refine oP (KAP Try.underlying30 Try.underlying67 rfl) ?_
    refine oP (Ko Try.underlying24 sz_67 rfl rfl (by omega)) ?_
    refine KV rfl (Kj rfl rfl rfl sz_67 (by repeat (first|exact Sh _|apply St_)) (by first|(simp only [KH,KD,KE,Kt]; omega)|(simp; done)|(simp; omega)) (by first|exact KAH _ _ _ _ _|exact KAJ _ _ _ _ (by omega)|exact KAI _ _ _ _|rfl) (by simp) ?_)
    refine KC ?_
    refine KA ?_
    refine oM ?_
    refine oP (KF rfl rfl (KAL (b:=32) (by omega))) ?_
    refine oP (KF rfl rfl (br_sub64 (a:=1) (by omega))) ?_
    refine oA ?_
    refine KC ?_
    refine KA ?_
    refine oM ?_
    refine oP (KF rfl rfl (Kv (b:=1) (by omega))) ?_
    refine oA ?_
    refine KC ?_
    refine ⟨x+1,by omega,by omega,KAO (Sub.cells (b:=b11) (cs':=vec .u32 (D.nw A) (fun j=>if j<x+1 then D.limb (A-B) j else 0)) (by repeat (first|exact Sh _|apply St_)) (KAA fun j hj=>?_)) (Kq ⟨rfl,rfl,rfl,congrArg (fun n:Nat=>some (Value.int .u64 (n:Int))) ?_,rfl,trivial⟩ (by repeat (first|exact Sel.nil _|refine Sel.cons (by repeat (first|exact Ph _|apply Pt_)) ?_)))⟩
    · by_cases e:j = x
      · rw [if_pos e,if_pos (by omega),e,and32]
        omega
      · rw [if_neg e]
        by_cases e3:j<x
        · rw [if_pos e3,if_pos (by omega)]
        · rw [if_neg e3,if_neg (by omega)]
    · omega
  ·
    refine Kp ?_
    refine KB ?_
    obtain rfl:x = D.nw A:=by omega
    refine LCode.sub (Sub.cells (b:=b11) (cs':=vec .u32 (D.nw A) (D.limb (A-B))) (by repeat (first|exact Sh _|apply St_)) (KAA fun j hj=>if_pos hj)) ?_
    refine KA ?_
    refine oM ?_
    refine oS (cF rfl en_87 rfl (fun w hw=>c_trim (A-B) b11 (D.nw A) (D.nw A) (D.nw A) _ true w (mC hw) (Nat.le_refl _) (Nat.le_refl _) (by omega) (Nat.lt_of_le_of_lt (Nat.sub_le _ _) (D.lt_nw A))) ?_)
    refine oA ?_
    refine KC (KM ?_)
    refine ⟨[_],.cons rfl .nil,fun a w' hr=>hr.num (by repeat (first|exact Mh _|apply Mt)) (Nat.lt_of_le_of_lt (Nat.sub_le _ _) (D.lt_nw A))⟩
end Go.Proofs.Ytlmiolnccgjjjaa
