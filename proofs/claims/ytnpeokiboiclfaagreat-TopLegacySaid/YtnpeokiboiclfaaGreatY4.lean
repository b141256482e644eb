/- Part 4 of what the proof leans on: a symbolic execution of the model, walks of the program's functions, and the mathematics. No condition. -/
import Derived.WalkKit
import Derived.Orders
import Derived.Laws.StructEq
import Derived.WalkSpells
import Derived.OrdersHeld
import Derived.KernelRfl
import Derived.Laws.Externs
import Derived.Laws.Bits64
import Derived.Laws.MakeOwn
import Derived.Laws.BytesString
import Derived.Carry
import Derived.WideShapes
import GoSem.Claim
import Derived.Test.YtnpeokiboiclfaaGreatProg
import Derived.Deep.Upon
import Derived.Shelf.Strings.Repeat
import Derived.Ground.NamesProg
import Derived.Lib.Agree
import Derived.Shelf.Strings.Builder1
import Derived.Laws.AppendOwn
import Derived.Lib.ConvBytes
import Derived.Laws.CopyRow
import Derived.MapKept
import Derived.Test.YtnpeokiboiclfaaGreatRows
import Derived.ProofKit
import Derived.OpenShut
import Derived.SizedLaws
import Derived.ChangeMaps5
import Derived.Test.YtnpeokiboiclfaaGreatY3
set_option linter.unusedVariables false
set_option linter.unusedSimpArgs false
set_option maxRecDepth 20000
namespace Go.Proofs.YtnpeokiboiclfaaGreat
open Go Go.RowKit
open Grp
theorem KCN (X Y:Nat) (i:Bool) (wr:Bool) (e:TypeId) (fz:Nat×Nat):LoadV Tryz.prog 33 ⟨wr,ptL X Y i,e,fz⟩ 9 (natV Y):=KAg u33 rfl sz_33 (show ptL X Y i = natL X++(natL Y++[.bool i]) from rfl) (KL _) (KL _)
theorem pj_ld2 (X Y Z:Nat) (wr:Bool) (e:TypeId) (fz:Nat×Nat):LoadV Tryz.prog 33 ⟨wr,pjL X Y Z,e,fz⟩ 18 (natV Z):=LoadV.last u33 rfl sz_33 (show pjL X Y Z = (natL X++natL Y)++natL Z by simp [pjL]) (by simp [KL]) (KL _)
theorem pt_gt (X Y:Nat) (i:Bool):(ptL X Y i)[18]? = some (.bool i):=get_mid (A:=natL X++natL Y) (D:=[]) (by simp [ptL]) (by simp [KL])
theorem eq_pt (X Y:Nat) (i:Bool) (X' Y':Nat) (i':Bool) (hX:X<W9) (hY:Y<W9) (hX':X' < W9) (hY':Y' < W9):EqD 4 Tryz.prog 47 (ptV X Y i) (ptV X' Y' i') (decide (X = X') && (decide (Y = Y') && ((i == i') && true))):=by
  have d1:∀ A B i,((ptL A B i).drop 0).take 9 = natL A:=fun A B i=>by
    rw [List.drop_zero]; unfold ptL; rw [List.take_left' (KL A)]
  have d2:∀ A B i,((ptL A B i).drop 9).take 9 = natL B:=fun A B i=>by
    unfold ptL; rw [List.drop_left' (KL A),List.take_left' (KL B)]
  exact EqD.struct (fs:=[_,_,_]) u47 kr (EqFs.cons dc (KCd u33 rfl sz_33 (d1 X Y i)) (KCd u33 rfl sz_33 (d1 X' Y' i')) (KBI X X' hX hX')
    (EqFs.cons dc (KCd u33 rfl sz_33 (d2 X Y i)) (KCd u33 rfl sz_33 (d2 X' Y' i')) (KBI Y Y' hY hY')
    (EqFs.cons dc (KBO u4 rfl (pt_gt X Y i)) (KBO u4 rfl (pt_gt X' Y' i')) ((EqD.bool u4).mono dc) EqFs.nil)))
theorem pt_w9 {V:Cv} (hok:V.Ok) (P:Grp.Pt V.p):xv P<W9∧yv P<W9:=⟨Ks (Nat.lt_trans (xv_lt P) hok.bounds.2.1),Ks (Nat.lt_trans (yv_lt P) hok.bounds.2.1)⟩
def ptP {p:Nat} (P:Grp.Pt p):Value:=ptV (xv P) (yv P) (iv P)
theorem eq_ptP_t {V:Cv} (hok:V.Ok) {P Q:Grp.Pt V.p} (h:P = Q):EqD 4 Tryz.prog 47 (ptP P) (ptP Q) true:=by
  subst h
  have:=eq_pt (xv P) (yv P) (iv P) (xv P) (yv P) (iv P) (pt_w9 hok P).1 (pt_w9 hok P).2 (pt_w9 hok P).1 (pt_w9 hok P).2
  rwa [show (decide (xv P = xv P) && (decide (yv P = yv P) && ((iv P == iv P) && true))) = true by simp] at this
theorem fill_ptInf:fillL [(0,9),(9,9),(18,1)] (vec .u64 9 (fun _=>0)++(vec .u64 9 (fun _=>0)++[Value.bool false])) [(2,.bool true)] = some (ptL 0 0 true):=by
  refine (KAK (A:=vec .u64 9 (fun _=>0)++vec .u64 9 (fun _=>0)) (B:=[Value.bool false]) (D:=[]) (cs:=[Value.bool true]) rfl rfl rfl (by simp) (by simp [KU]) rfl rfl).trans ?_
  simp [ptL,natL,vec_zeros 9]
theorem KDS:Value.agg (vec .u64 9 (fun _=>0)++(vec .u64 9 (fun _=>0)++[Value.bool false]):List Value).toArray = ptV 0 0 false:=by
  unfold ptV ptL natL; rw [vec_zeros 9]
section
variable (V:Cv) (hok:V.Ok) (f bd:Nat)
include hok
theorem KBJ (X Y:Fin V.p) (w:World) (hf:(Item.blk f ⟨false,fldL V.p bd,165,(0,0)⟩).holds w):CF Tryz.prog 82 [Pz f,natV X.val,natV Y.val] w (natV (X+Y).val):=by
  have:=KDT V f bd X.val Y.val w hf hok.bounds.2.1 X.isLt Y.isLt
  rwa [← Fin.val_add] at this
theorem KCb (X Y:Fin V.p) (w:World) (hf:(Item.blk f ⟨false,fldL V.p bd,165,(0,0)⟩).holds w):CF Tryz.prog 120 [Pz f,natV X.val,natV Y.val] w (natV (X-Y).val):=by
  have:=c_f_Sub V f bd X.val Y.val w hf hok.bounds.2.1 X.isLt Y.isLt
  rwa [← fin_subv] at this
theorem KAa (X Y:Fin V.p) (w:World) (hf:(Item.blk f ⟨false,fldL V.p bd,165,(0,0)⟩).holds w) (hbd:(Item.blk bd ⟨false,dvL V.p,269,(0,0)⟩).holds w):CF Tryz.prog 97 [Pz f,natV X.val,natV Y.val] w (natV (X*Y).val):=by
  have hb:=hok.bounds
  have hpW:=Ks hb.2.1
  have:=c_f_Mul V f bd X.val Y.val w hf hbd om hpW (Nat.lt_trans X.isLt hpW) (Nat.lt_trans Y.isLt hpW)
  rwa [← Fin.val_mul] at this
theorem c_F_Inv (X:Fin V.p) (w:World) (hf:(Item.blk f ⟨false,fldL V.p bd,165,(0,0)⟩).holds w):CF Tryz.prog 121 [Pz f,natV X.val] w (natV (finv X).val):=by
  have hb:=hok.bounds
  have hpW:=Ks hb.2.1
  have:=c_f_Inv V f bd X.val w hf om hpW (Nat.lt_trans X.isLt hpW)
  rwa [← finv_val] at this
end
theorem a_val {V:Cv} (hok:V.Ok):natV V.a = natV V.A.val:=by rw [hok.A_val hok.bounds.2.2.1]
theorem b_val {V:Cv} (hok:V.Ok):natV V.b = natV V.B.val:=by rw [hok.B_val hok.bounds.2.2.2.1]
theorem t_val {V:Cv} (hok:V.Ok):natV (thr V) = natV (V.B+V.B+V.B).val:=by
  rw [Fin.val_add,Fin.val_add,hok.B_val hok.bounds.2.2.2.1]; rfl
def acC (id p a b n gx gy:Nat) (inf:Bool) (bits size:Nat) (leg:Bool):List Value:=[Iz id]++(natL p++(natL a++(natL b++(natL n++(ptL gx gy inf++([Iz bits]++([Iz size]++[.bool leg])))))))
def acL (V:Cv):List Value:=acC V.id V.p V.a V.b V.n V.x V.y false (blen V.n) (nby V.p) (legB V)
theorem acC_length (id p a b n gx gy:Nat) (inf:Bool) (bits size:Nat) (leg:Bool):(acC id p a b n gx gy inf bits size leg).length = 59:=by simp [acC,KL,KW]
theorem acL_length (V:Cv):(acL V).length = 59:=acC_length _ _ _ _ _ _ _ _ _ _ _
theorem acC_one (id p a b n gx gy:Nat) (inf:Bool) (bits size:Nat) (leg:Bool):KBT (acC id p a b n gx gy inf bits size leg):=by
  unfold acC
  repeat (first|exact Kx _|exact KAB _ _ _|exact Kz|refine Km rfl ?_|refine KAd ?_ ?_)
theorem acL_one (V:Cv):KBT (acL V):=acC_one _ _ _ _ _ _ _ _ _ _ _
theorem ac_at_n (id p a b n gx gy:Nat) (inf:Bool) (bits size:Nat) (leg:Bool):acC id p a b n gx gy inf bits size leg = ([Iz id]++(natL p++(natL a++(natL b))))++((natL n)++(ptL gx gy inf++([Iz bits]++([Iz size]++([.bool leg]))))):=by simp only [acC,List.append_assoc,List.append_nil,List.nil_append]
theorem ac_len_n (id p a b n gx gy:Nat) (inf:Bool) (bits size:Nat) (leg:Bool):([Iz id]++(natL p++(natL a++(natL b))):List Value).length = 28:=by simp [KL,KW]
theorem ac_ld_n (id p a b n gx gy:Nat) (inf:Bool) (bits size:Nat) (leg:Bool) (wr:Bool) (e:TypeId) (fz:Nat×Nat):LoadV Tryz.prog 33 ⟨wr,acC id p a b n gx gy inf bits size leg,e,fz⟩ 28 (.agg (natL n).toArray):=KAg u33 rfl sz_33 (ac_at_n id p a b n gx gy inf bits size leg) (ac_len_n id p a b n gx gy inf bits size leg) (by simp [KL,KW])
theorem ac_at_g (id p a b n gx gy:Nat) (inf:Bool) (bits size:Nat) (leg:Bool):acC id p a b n gx gy inf bits size leg = ([Iz id]++(natL p++(natL a++(natL b++(natL n)))))++((ptL gx gy inf)++([Iz bits]++([Iz size]++([.bool leg])))):=by simp only [acC,List.append_assoc,List.append_nil,List.nil_append]
theorem ac_len_g (id p a b n gx gy:Nat) (inf:Bool) (bits size:Nat) (leg:Bool):([Iz id]++(natL p++(natL a++(natL b++(natL n)))):List Value).length = 37:=by simp [KL,KW]
theorem ac_ld_g (id p a b n gx gy:Nat) (inf:Bool) (bits size:Nat) (leg:Bool) (wr:Bool) (e:TypeId) (fz:Nat×Nat):LoadV Tryz.prog 47 ⟨wr,acC id p a b n gx gy inf bits size leg,e,fz⟩ 37 (.agg (ptL gx gy inf).toArray):=KAg u47 rfl sz_47 (ac_at_g id p a b n gx gy inf bits size leg) (ac_len_g id p a b n gx gy inf bits size leg) (by simp [KL,KW])
theorem ac_gt_inf (id p a b n gx gy:Nat) (inf:Bool) (bits size:Nat) (leg:Bool):(acC id p a b n gx gy inf bits size leg)[55]? = some (.bool inf):=get_mid (A:=[Iz id]++(natL p++(natL a++(natL b++(natL n++(natL gx++(natL gy))))))) (D:=[Iz bits]++([Iz size]++([.bool leg]))) (by simp only [acC,ptL,List.append_assoc,List.append_nil,List.nil_append,List.cons_append]) (by simp [KL,KW])
theorem op_ac (V:Cv) (f:Nat):opL V f = acL V++(Pz f :: natL (thr V)):=by
  simp only [opL,cvC,acL,acC,List.append_assoc,List.cons_append,List.nil_append]
theorem op_ld_ac (V:Cv) (f:Nat) (wr:Bool) (e:TypeId) (fz:Nat×Nat):LoadV Tryz.prog 53 ⟨wr,opL V f,e,fz⟩ 0 (.agg (acL V).toArray):=Kh u53 rfl sz_53 (op_ac V f) (acL_length V)
end Go.Proofs.YtnpeokiboiclfaaGreat
set_option linter.unusedVariables false
set_option linter.unusedSimpArgs false
set_option maxRecDepth 20000
namespace Go.Proofs.YtnpeokiboiclfaaGreat
open Go Go.RowKit
theorem NFr.in {lo:Nat} {old:List Nat} {q:NV} {n:Nat} (h:∀ k,k∈fpz q n→k∈old):NFr lo old q n:=fun k hk=>.inr (h k hk)
theorem NFr.le {lo:Nat} {old old':List Nat} {q:NV} {n:Nat} (h:NFr lo old q n) (hs:∀ k,k∈old→k∈old'):NFr lo old' q n:=fun k hk=>(h k hk).imp id (hs k)
open Grp
theorem y_pos {V:Cv} (hok:V.Ok) {x y:Fin V.p} (h1:On V.A V.B (.aff x y)):y.val≠0:=fun e=>hok.good.y_ne h1 (Fin.ext e)
def fp2 {p:Nat} (q r:NV) (P:Pt p) (l:List Nat):List Nat:=fpz q (D.nw (xv P))++(fpz r (D.nw (yv P))++l)
theorem NFr.two {p:Nat} {q1 r1 q2 r2 u:NV} {P P2:Pt p} {lo n:Nat} {old:List Nat} (h:NFr lo (fp2 q1 r1 P (fp2 q2 r2 P2 [])) u n) (h1:NFr lo old q1 (D.nw (xv P))) (h2:NFr lo old r1 (D.nw (yv P))) (h3:NFr lo old q2 (D.nw (xv P2))) (h4:NFr lo old r2 (D.nw (yv P2))):NFr lo old u n:=fun k hk=>by
  rcases h k hk with h|h
  · exact .inl h
  · rcases List.mem_append.1 h with h|h
    · exact h1 k h
    · rcases List.mem_append.1 h with h|h
      · exact h2 k h
      · rcases List.mem_append.1 h with h|h
        · exact h3 k h
        · rcases List.mem_append.1 h with h|h
          · exact h4 k h
          · cases h
theorem c_Right (V:Cv) (b f bd:Nat) (hok:V.Ok) (X:Fin V.p) (w:World) (hb:(Item.blk b ⟨false,opL V f,100,(0,0)⟩).holds w) (hf:(Item.blk f ⟨false,fldL V.p bd,165,(0,0)⟩).holds w) (hbd:(Item.blk bd ⟨false,dvL V.p,269,(0,0)⟩).holds w):CF Tryz.prog 98 [Pz b,natV X.val] w (natV ((X*X+V.A)*X+V.B).val):=by
  have hbb:=hok.bounds
  have hpW:V.p<W9:=Ks hbb.2.1
  refine KV (N:=31) (rs:=[.cell 4 33]) [.blk b ⟨false,opL V f,100,(0,0)⟩,.blk f ⟨false,fldL V.p bd,165,(0,0)⟩,.blk bd ⟨false,dvL V.p,269,(0,0)⟩] Tryz.func98 rfl Tryz.ntmps98 Tryz.results98 (Nb rfl) ⟨hb,hf,hbd,trivial⟩ rfl ?_
  refine KB (KA (oS (mB (fun b3=>?_))));refine oS (mk (KK zr_33) (fun b4=>?_));refine KC (KB (KA (oM ?_)));refine oP (KF rfl) (oP (KE (o':=59) u100 rfl rfl rfl sz_98 dc) (oD (dL rfl (hv:=KI u98 rfl (by exact KAt _ _ _ _ _ _ _ _ _ _ _ _ _))) ?_));refine oA (KC (KB (rD [21] ?_)));refine aM 0 ?_;refine aM 1 ?_;refine aM 2 ?_;refine aM 3 ?_;refine aD 4 rfl dNa ?_;refine aD 5 rfl dNa ?_;refine aM 7 ?_;refine aP 8 rfl (KF rfl) (aP 9 rfl (KE (o':=0) u100 rfl rfl rfl sz_53 dc) (aP 10 rfl (KE (o':=10) u53 rfl rfl rfl sz_33 dc) (aD 11 rfl (KBL (dL rfl (hv:=by exact cvC_ld_a _ _ _ _ _ _ _ _ _ _ _ _ _ _ _ _)) (a_val hok)) ?_)));refine aD 13 rfl dNa ?_;refine aM 15 ?_;refine aP 16 rfl (KF rfl) (aP 17 rfl (KE (o':=0) u100 rfl rfl rfl sz_53 dc) (aP 18 rfl (KE (o':=19) u53 rfl rfl rfl sz_33 dc) (aD 19 rfl (KBL (dL rfl (hv:=by exact KBy _ _ _ _ _ _ _ _ _ _ _ _ _ _ _ _)) (b_val hok)) ?_)))
  refine aO 6 rfl (cF rfl en_97 rfl (fun w hw=>KAa V hok f bd _ _ w (mC hw) (mC hw)) ?_);refine aO 12 rfl (cF rfl en_82 rfl (fun w hw=>KBJ V hok f bd _ _ w (mC hw)) ?_);refine aO 14 rfl (cF rfl en_97 rfl (fun w hw=>KAa V hok f bd _ _ w (mC hw) (mC hw)) ?_);refine aO 20 rfl (cF rfl en_82 rfl (fun w hw=>KBJ V hok f bd _ _ w (mC hw)) ?_);refine aL 21 rfl (sA rfl rfl sz_33 mO (hl:=mL) (h:=?_));refine aE (KN (eN (.cons ⟨_,_,_,rfl,mM,by exact KD u33 rfl sz_33⟩ .nil) ?_))
  rfl
theorem c_HasT (V:Cv) (f bd A:Nat) (w:World) (hf:(Item.blk f ⟨false,fldL V.p bd,165,(0,0)⟩).holds w) (hA:A<W9) (hpW:V.p<W9) (h:A<V.p):CF Tryz.prog 96 [Pz f,natV A] w (.bool true):=by
  have:=c_f_Has V f bd A w hf hA hpW
  rwa [decide_eq_true h] at this
theorem c_HasF (V:Cv) (f bd A:Nat) (w:World) (hf:(Item.blk f ⟨false,fldL V.p bd,165,(0,0)⟩).holds w) (hA:A<W9) (hpW:V.p<W9) (h:¬ A<V.p):CF Tryz.prog 96 [Pz f,natV A] w (.bool false):=by
  have:=c_f_Has V f bd A w hf hA hpW
  rwa [decide_eq_false h] at this
theorem right_val {V:Cv} (hok:V.Ok) (x:Fin V.p):KCw V.p V.a V.b x.val = ((x*x+V.A)*x+V.B).val:=by
  unfold KCw
  rw [Fin.val_add,Fin.val_mul,Fin.val_add,Fin.val_mul,hok.A_val hok.bounds.2.2.1,hok.B_val hok.bounds.2.2.2.1]
theorem on_x' {p a b X Y:Nat} (h:¬ X<p):onB p a b X Y false = false:=by
  unfold onB; rw [if_neg dc,decide_eq_false h,Bool.false_and]
theorem on_yy' {p a b X Y:Nat} (h:¬ Y<p):onB p a b X Y false = false:=by
  unfold onB; rw [if_neg dc,decide_eq_false h,Bool.false_and,Bool.and_false]
theorem on_fin {V:Cv} (hok:V.Ok) (x y:Fin V.p):onB V.p V.a V.b x.val y.val false = decide ((y*y).val = ((x*x+V.A)*x+V.B).val):=by
  unfold onB
  rw [if_neg dc,decide_eq_true x.isLt,decide_eq_true y.isLt,Bool.true_and,Bool.true_and,right_val hok,Fin.val_mul]
theorem on_inf' {p a b X Y:Nat}:onB p a b X Y true = (decide (X = 0) && decide (Y = 0)):=if_pos rfl
theorem c_cOn (V:Cv) (b f bd:Nat) (hok:V.Ok) (X Y:Nat) (i:Bool) (w:World) (hb:(Item.blk b ⟨false,opL V f,100,(0,0)⟩).holds w) (hf:(Item.blk f ⟨false,fldL V.p bd,165,(0,0)⟩).holds w) (hbd:(Item.blk bd ⟨false,dvL V.p,269,(0,0)⟩).holds w) (hX:X<W9) (hY:Y<W9):CF Tryz.prog 55 [Pz b,ptV X Y i] w (.bool (onB V.p V.a V.b X Y i)):=by
  have hbb:=hok.bounds
  have hpW:V.p<W9:=Ks hbb.2.1
  refine KV (N:=42) (rs:=[.tmp 4]) [.blk b ⟨false,opL V f,100,(0,0)⟩,.blk f ⟨false,fldL V.p bd,165,(0,0)⟩,.blk bd ⟨false,dvL V.p,269,(0,0)⟩] Tryz.func55 rfl Tryz.ntmps55 Tryz.results55 (Nb rfl) ⟨hb,hf,hbd,trivial⟩ rfl ?_
  refine KB (KA (oS (mB (fun b3=>?_))));refine oA (KC (KB (KB ?_)))
  cases i
  ·
   refine KA (oP (KE (o':=18) u47 rfl rfl rfl sz_4 dc) (oD (dL rfl (hv:=KI u4 rfl (by exact pt_gt _ _ _))) ?_));refine KC (KH rfl (KM (KB ?_)))
   rcases (show (¬ X<V.p)∨(X<V.p∧¬ Y<V.p)∨(X<V.p∧Y<V.p) by omega) with h1|⟨h1,h2⟩|⟨h1,h2⟩
   ·
    refine rD [] (aM 0 ?_);refine aP 1 rfl (KF rfl) (aP 2 rfl (KE (o':=59) u100 rfl rfl rfl sz_98 dc) (aD 3 rfl (dL rfl (hv:=KI u98 rfl (by exact KAt _ _ _ _ _ _ _ _ _ _ _ _ _))) ?_));refine aP 4 rfl (KE (o':=0) u47 rfl rfl rfl sz_33 dc) (aD 5 rfl (dL rfl (hv:=by exact Kh u33 rfl sz_33 rfl (KL _))) ?_);refine aO 6 rfl (cF rfl en_96 rfl (fun w hw=>c_HasF V f bd X w (mC hw) hX hpW h1) ?_);refine aM 7 ?_;refine aK 8 ?_;refine aK 9 ?_;refine aK 10 ?_;refine aK 11 ?_;refine aK 12 ?_;refine aK 13 ?_;refine aK 14 ?_;refine aP 15 rfl (KT rfl rfl) (aM 16 ?_);refine aK 17 ?_;refine aK 18 ?_;refine aK 19 ?_;refine aK 20 ?_;refine aK 21 ?_;refine aK 22 ?_;refine aK 23 ?_;refine aK 24 ?_;refine aK 25 ?_;refine aK 26 ?_;refine aK 27 ?_;refine aK 28 ?_;refine aK 29 ?_;refine aK 30 ?_;refine aP 31 rfl (KT rfl rfl) (aA 32 ?_);refine aE (KN (eN (.cons rfl .nil) ?_))
    rw [on_x' h1]
    rfl
   ·
    refine rD [] (aM 0 ?_);refine aP 1 rfl (KF rfl) (aP 2 rfl (KE (o':=59) u100 rfl rfl rfl sz_98 dc) (aD 3 rfl (dL rfl (hv:=KI u98 rfl (by exact KAt _ _ _ _ _ _ _ _ _ _ _ _ _))) ?_));refine aP 4 rfl (KE (o':=0) u47 rfl rfl rfl sz_33 dc) (aD 5 rfl (dL rfl (hv:=by exact Kh u33 rfl sz_33 rfl (KL _))) ?_);refine aO 6 rfl (cF rfl en_96 rfl (fun w hw=>c_HasT V f bd X w (mC hw) hX hpW h1) ?_);refine aM 7 ?_;refine aGM 8 ?_;refine aGP 9 rfl (KF rfl) (aGP 10 rfl (KE (o':=59) u100 rfl rfl rfl sz_98 dc) (aGD 11 rfl (dL rfl (hv:=KI u98 rfl (by exact KAt _ _ _ _ _ _ _ _ _ _ _ _ _))) ?_));refine aGP 12 rfl (KE (o':=9) u47 rfl rfl rfl sz_33 dc) (aGD 13 rfl (dL rfl (hv:=by exact KCN _ _ _ _ _ _)) ?_);refine aGO 14 rfl (cF rfl en_96 rfl (fun w hw=>c_HasF V f bd Y w (mC hw) hY hpW h2) ?_);refine aP 15 rfl (Kd rfl rfl) (aM 16 ?_)
    refine aK 17 ?_;refine aK 18 ?_;refine aK 19 ?_;refine aK 20 ?_;refine aK 21 ?_;refine aK 22 ?_;refine aK 23 ?_;refine aK 24 ?_;refine aK 25 ?_;refine aK 26 ?_;refine aK 27 ?_;refine aK 28 ?_;refine aK 29 ?_;refine aK 30 ?_;refine aP 31 rfl (KT rfl rfl) (aA 32 ?_);refine aE (KN (eN (.cons rfl .nil) ?_))
    rw [on_yy' h2]
    rfl
   obtain ⟨x,rfl⟩:∃ x:Fin V.p,x.val = X:=⟨⟨X,h1⟩,rfl⟩
   obtain ⟨y,rfl⟩:∃ y:Fin V.p,y.val = Y:=⟨⟨Y,h2⟩,rfl⟩
   refine rD [] (aM 0 ?_);refine aP 1 rfl (KF rfl) (aP 2 rfl (KE (o':=59) u100 rfl rfl rfl sz_98 dc) (aD 3 rfl (dL rfl (hv:=KI u98 rfl (by exact KAt _ _ _ _ _ _ _ _ _ _ _ _ _))) ?_));refine aP 4 rfl (KE (o':=0) u47 rfl rfl rfl sz_33 dc) (aD 5 rfl (dL rfl (hv:=by exact Kh u33 rfl sz_33 rfl (KL _))) ?_);refine aO 6 rfl (cF rfl en_96 rfl (fun w hw=>c_HasT V f bd x.val w (mC hw) (Nat.lt_trans x.isLt hpW) hpW x.isLt) ?_);refine aM 7 ?_;refine aGM 8 ?_;refine aGP 9 rfl (KF rfl) (aGP 10 rfl (KE (o':=59) u100 rfl rfl rfl sz_98 dc) (aGD 11 rfl (dL rfl (hv:=KI u98 rfl (by exact KAt _ _ _ _ _ _ _ _ _ _ _ _ _))) ?_));refine aGP 12 rfl (KE (o':=9) u47 rfl rfl rfl sz_33 dc) (aGD 13 rfl (dL rfl (hv:=by exact KCN _ _ _ _ _ _)) ?_);refine aGO 14 rfl (cF rfl en_96 rfl (fun w hw=>c_HasT V f bd y.val w (mC hw) (Nat.lt_trans y.isLt hpW) hpW y.isLt) ?_)
   refine aP 15 rfl (Kd rfl rfl) (aM 16 ?_);refine aGM 17 ?_;refine aGP 18 rfl (KF rfl) (aGP 19 rfl (KE (o':=59) u100 rfl rfl rfl sz_98 dc) (aGD 20 rfl (dL rfl (hv:=KI u98 rfl (by exact KAt _ _ _ _ _ _ _ _ _ _ _ _ _))) ?_));refine aGP 21 rfl (KE (o':=9) u47 rfl rfl rfl sz_33 dc) (aGD 22 rfl (dL rfl (hv:=by exact KCN _ _ _ _ _ _)) ?_);refine aGP 23 rfl (KE (o':=9) u47 rfl rfl rfl sz_33 dc) (aGD 24 rfl (dL rfl (hv:=by exact KCN _ _ _ _ _ _)) ?_);refine aGM 26 ?_;refine aGP 27 rfl (KE (o':=0) u47 rfl rfl rfl sz_33 dc) (aGD 28 rfl (dL rfl (hv:=by exact Kh u33 rfl sz_33 rfl (KL _))) ?_);refine aGO 25 rfl (cF rfl en_97 rfl (fun w hw=>KAa V hok f bd _ _ w (mC hw) (mC hw)) ?_);refine aGO 29 rfl (cF rfl en_98 rfl (fun w hw=>c_Right V b f bd hok _ w (mC hw) (mC hw) (mC hw)) ?_);refine aGP 30 rfl (KBw kr (fun w=>KBI (y*y).val ((x*x+V.A)*x+V.B).val (Nat.lt_trans (y*y).isLt hpW) (Nat.lt_trans ((x*x+V.A)*x+V.B).isLt hpW) 10000 dc w) rfl rfl) ?_
   refine aP 31 rfl (Kd rfl rfl) (aA 32 ?_);refine aE (KN (eN (.cons rfl .nil) ?_))
   rw [on_fin hok]
   rfl
  refine KA (oP (KE (o':=18) u47 rfl rfl rfl sz_4 dc) (oD (dL rfl (hv:=KI u4 rfl (by exact pt_gt _ _ _))) ?_));refine KC (KS rfl (KB (KA (oD dNb ?_))));refine oP (KJ (KX pl_47 zr_47 rfl fill_ptInf) rfl) (oP (KBw kr (fun w=>eq_pt X Y true 0 0 true hX hY KCC KCC 10000 dc w) rfl rfl) ?_);refine oA (KC (KN ?_));refine eN (.cons rfl .nil) ?_
  rw [on_inf',show (decide (X = 0) && decide (Y = 0)) = (decide (X = 0) && (decide (Y = 0) && ((true == true) && true))) by simp]
  rfl
theorem c_curveGet (id:Int) (V:Cv) (w:World) (h:cvI id = some V):CF Tryz.prog 22 [.int .i64 id] w (.tuple #[.agg (acL V).toArray,Iz 0]):=by
  obtain ⟨hok,hid⟩:=KAw h
  have hbb:=hok.bounds
  have hpW:V.p<W9:=Ks hbb.2.1
  have hnW:V.n<W9:=Ks hbb.2.2.2.2.2.2.1
  have hbl:=KAM hnW
  have hnb:nby V.n≤72:=by (unfold nby; omega)
  refine KV (N:=14) (rs:=[.cell 2 53,.tmp 3]) [] Tryz.func22 rfl Tryz.ntmps22 Tryz.results22 (Nb rfl) trivial rfl ?_
  refine KB (KA (oS (mk (KK zr_53) (fun b2=>?_))));refine oP (KO (v:=Iz 0) rfl) (KC (KB (KA (oM ?_))));refine oS (oOpen h rfl rfl (fun b f bd=>?_));refine oA (KC (KB (KB (KA (oM ?_)))));refine oP (KJ (KAI u81 rfl rfl) (show _ = Value.bool false from rfl)) (KC (KH rfl (KM (KB (KA (oM ?_))))));refine oP (KF rfl) (oP (KE (o':=0) u100 rfl rfl rfl sz_53 dc) (oD (dL rfl (hv:=by exact op_ld_ac _ _ _ _ _)) ?_));refine LOps.step rfl (sA rfl rfl sz_53 (by exact acL_one _) (hl:=by exact acL_length _) (h:=?_));refine oP (KO (v:=Iz 0) rfl) (KC (KN (eN (.cons ⟨_,_,_,rfl,mM,by exact KD u53 rfl sz_53⟩ (.cons rfl .nil)) ?_)))
  rfl
open Grp
def pjF {p:Nat} (T:Fin p×Fin p×Fin p):Value:=pjV T.1.val T.2.1.val T.2.2.val
def pjFL {p:Nat} (T:Fin p×Fin p×Fin p):List Value:=pjL T.1.val T.2.1.val T.2.2.val
theorem fill_pj (X Y Z:Nat):fillL [(0,9),(9,9),(18,9)] (vec .u64 9 (fun _=>0)++(vec .u64 9 (fun _=>0)++vec .u64 9 (fun _=>0))) [(0,natV X),(1,natV Y),(2,natV Z)] = some (pjL X Y Z):=by
  refine KAK (A:=[]) (B:=vec .u64 9 (fun _=>0)) (D:=vec .u64 9 (fun _=>0)++vec .u64 9 (fun _=>0)) (cs:=natL X) rfl rfl (KL _) rfl rfl (KU _ _ _) ?_;refine KAK (A:=natL X) (B:=vec .u64 9 (fun _=>0)) (D:=vec .u64 9 (fun _=>0)) (cs:=natL Y) rfl rfl (KL _) (by simp) (KL _) (KU _ _ _) ?_;refine (KAK (A:=natL X++natL Y) (B:=vec .u64 9 (fun _=>0)) (D:=[]) (cs:=natL Z) rfl rfl (KL _) (by simp) (by simp [KL]) (KU _ _ _) rfl).trans ?_
  simp [pjL]
theorem fill_pjN (Y:Nat):fillL [(0,9),(9,9),(18,9)] (vec .u64 9 (fun _=>0)++(vec .u64 9 (fun _=>0)++vec .u64 9 (fun _=>0))) [(1,natV Y)] = some (pjL 0 Y 0):=by
  refine (KAK (A:=vec .u64 9 (fun _=>0)) (B:=vec .u64 9 (fun _=>0)) (D:=vec .u64 9 (fun _=>0)) (cs:=natL Y) rfl rfl (KL _) rfl (KU _ _ _) (KU _ _ _) rfl).trans ?_
  simp [pjL,natL,vec_zeros 9]
theorem c_None  (w:World)  : CF Tryz.prog 99 [] w (pjV 0 1 0):=by
  refine KV (N:=3) (rs:=[.cell 0 135]) [] Tryz.func99 rfl Tryz.ntmps99 Tryz.results99 (Nb rfl) trivial rfl ?_
  refine KB (KA (oS (mk (KK KDO) (fun b0=>?_))));refine KC (KB (KA (oS (cF rfl en_80 rfl (fun w hw=>KAU 1 dc w) ?_))));refine oP (KJ (KX pl_135 KDO rfl (fill_pjN 1)) rfl) (oT rfl rfl KAN ?_);refine KC (KN (eN (.cons ⟨_,_,_,rfl,mM,by exact KD u135 rfl KAN⟩ .nil) ?_))
  rfl
theorem c_NoneF {V:Cv} (hok:V.Ok) (w:World):CF Tryz.prog 99 [] w (pjF (tripF (.inf:Pt V.p))):=by
  have h:=c_None w
  have e:pjF (tripF (.inf:Pt V.p)) = pjV 0 1 0:=by
    unfold pjF tripF
    rw [fin_one (show 1<V.p from hok.prime.1)]
    rfl
  rwa [e]
theorem c_Triple (V:Cv) (hok:V.Ok) (P:Pt V.p) (w:World)  : CF Tryz.prog 67 [ptP P] w (pjF (tripF P)):=by
  refine KV (N:=12) (rs:=[.cell 2 135]) [] Tryz.func67 rfl Tryz.ntmps67 Tryz.results67 (Nb rfl) trivial rfl ?_
  refine KB (KA (oS (mB (fun b1=>?_))));refine oS (mk (KK KDO) (fun b2=>?_));refine KC (KB (KB ?_))
  rcases P with _|⟨x,y⟩
  ·
   refine KA (oP (KE (o':=18) u47 rfl rfl rfl sz_4 dc) (oD (dL rfl (hv:=KI u4 rfl (by exact pt_gt _ _ _))) ?_));refine KC (KS rfl (KB (KA (oS (cF rfl en_99 rfl (fun w hw=>c_NoneF hok w) ?_)))));refine oT rfl rfl KAN ?_;refine KC (KN (eN (.cons ⟨_,_,_,rfl,mM,by exact KD u135 rfl KAN⟩ .nil) ?_))
   rfl
  refine KA (oP (KE (o':=18) u47 rfl rfl rfl sz_4 dc) (oD (dL rfl (hv:=KI u4 rfl (by exact pt_gt _ _ _))) ?_));refine KC (KH rfl (KM (KB (rD [6] (aP 0 rfl (KE (o':=0) u47 rfl rfl rfl sz_33 dc) (aD 1 rfl (dL rfl (hv:=by exact Kh u33 rfl sz_33 rfl (KL _))) ?_))))));refine aP 2 rfl (KE (o':=9) u47 rfl rfl rfl sz_33 dc) (aD 3 rfl (dL rfl (hv:=by exact KCN _ _ _ _ _ _)) ?_);refine aO 4 rfl (cF rfl en_80 rfl (fun w hw=>KAU 1 dc w) ?_);refine aP 5 rfl (KJ (KX pl_135 KDO rfl (fill_pj _ _ _)) rfl) (aL 6 rfl (sA rfl rfl KAN mO (hl:=mL) (h:=?_)));refine aE (KN (eN (.cons ⟨_,_,_,rfl,mM,by exact KD u135 rfl KAN⟩ .nil) ?_))
  show _ = Ending.returned (pjV x.val y.val (1:Fin V.p).val)
  rw [fin_one (show 1<V.p from hok.prime.1)]
  rfl
theorem c_Plain (V:Cv) (b f bd:Nat) (hok:V.Ok) (X Y Z:Fin V.p) (w:World) (hb:(Item.blk b ⟨false,opL V f,100,(0,0)⟩).holds w) (hf:(Item.blk f ⟨false,fldL V.p bd,165,(0,0)⟩).holds w) (hbd:(Item.blk bd ⟨false,dvL V.p,269,(0,0)⟩).holds w):CF Tryz.prog 65 [Pz b,pjV X.val Y.val Z.val] w (ptP (plainP X Y Z)):=by
  have hbb:=hok.bounds
  have hpW:V.p<W9:=Ks hbb.2.1
  refine KV (N:=35) (rs:=[.cell 4 47]) [.blk b ⟨false,opL V f,100,(0,0)⟩,.blk f ⟨false,fldL V.p bd,165,(0,0)⟩,.blk bd ⟨false,dvL V.p,269,(0,0)⟩] Tryz.func65 rfl Tryz.ntmps65 Tryz.results65 (Nb rfl) ⟨hb,hf,hbd,trivial⟩ rfl ?_
  refine KB (KA (oS (mB (fun b3=>?_))));refine oS (mk (KK zr_47) (fun b4=>?_));refine KC (KB (KB ?_))
  by_cases hz:Z = 0
  ·
   refine KA (oP (KE (o':=18) u135 rfl rfl rfl sz_33 dc) (oD (dL rfl (hv:=by exact pj_ld2 _ _ _ _ _ _)) ?_));refine oP (KJ (KX pl_33 zr_33 rfl rfl) (show _ = natV 0 by unfold natV natL; rw [← vec_zeros 9])) ?_;refine oP (KJ (KBw kr (fun w=>KBI Z.val 0 (Nat.lt_trans Z.isLt hpW) KCC 10000 dc w) rfl rfl) (show _ = Value.bool true by rw [decide_eq_true (by rw [hz]; rfl)])) ?_;refine KC (KS rfl (KB (KA (oP (KJ (KX pl_47 zr_47 rfl fill_ptInf) rfl) (oT rfl rfl sz_47 ?_)))));refine KC (KN (eN (.cons ⟨_,_,_,rfl,mM,by exact KD u47 rfl sz_47⟩ .nil) ?_))
   rw [hz,plain_inf]
   rfl
  refine KA (oP (KE (o':=18) u135 rfl rfl rfl sz_33 dc) (oD (dL rfl (hv:=by exact pj_ld2 _ _ _ _ _ _)) ?_));refine oP (KJ (KX pl_33 zr_33 rfl rfl) (show _ = natV 0 by unfold natV natL; rw [← vec_zeros 9])) ?_;refine oP (KJ (KBw kr (fun w=>KBI Z.val 0 (Nat.lt_trans Z.isLt hpW) KCC 10000 dc w) rfl rfl) (show _ = Value.bool false by rw [decide_eq_false (show ¬ Z.val = 0 from fun e=>hz (Fin.ext e))])) (KC (KH rfl (KM (KB (rD [8] (aM 0 ?_))))));refine aP 1 rfl (KF rfl) (aP 2 rfl (KE (o':=59) u100 rfl rfl rfl sz_98 dc) (aD 3 rfl (dL rfl (hv:=KI u98 rfl (by exact KAt _ _ _ _ _ _ _ _ _ _ _ _ _))) ?_));refine aP 4 rfl (KE (o':=18) u135 rfl rfl rfl sz_33 dc) (aD 5 rfl (dL rfl (hv:=by exact pj_ld2 _ _ _ _ _ _)) ?_);refine KAR ?_;refine Kl 7 rfl (.inl zr_33) (Nb rfl) rfl rfl rfl ?_;refine LAnyP.step 6 rfl rfl rfl (Nb rfl) kr rfl (Ke (first:=[]) rfl en_121 rfl (fun w hw=>c_F_Inv V hok f bd _ w (mC hw))) ?_
  rintro _ _ ⟨rfl,rfl⟩
  refine pE (fun b5=>?_);refine Kv ?_;refine aL 8 rfl (sA rfl rfl sz_33 mO (hl:=mL) (h:=?_));refine aE (KB (rD [17] (aM 0 ?_)));refine aP 1 rfl (KF rfl) (aP 2 rfl (KE (o':=59) u100 rfl rfl rfl sz_98 dc) (aD 3 rfl (dL rfl (hv:=KI u98 rfl (by exact KAt _ _ _ _ _ _ _ _ _ _ _ _ _))) ?_));refine aP 4 rfl (KE (o':=0) u135 rfl rfl rfl sz_33 dc) (aD 5 rfl (dL rfl (hv:=by exact Kh u33 rfl sz_33 rfl (KL _))) ?_);refine aD 6 rfl dNa ?_;refine aM 8 ?_;refine aP 9 rfl (KF rfl) (aP 10 rfl (KE (o':=59) u100 rfl rfl rfl sz_98 dc) (aD 11 rfl (dL rfl (hv:=KI u98 rfl (by exact KAt _ _ _ _ _ _ _ _ _ _ _ _ _))) ?_));refine aP 12 rfl (KE (o':=9) u135 rfl rfl rfl sz_33 dc) (aD 13 rfl (dL rfl (hv:=by exact KAg u33 rfl sz_33 rfl (KL _) (KL _))) ?_);refine aD 14 rfl dNa ?_
  refine aO 7 rfl (cF rfl en_97 rfl (fun w hw=>KAa V hok f bd _ _ w (mC hw) (mC hw)) ?_);refine aO 15 rfl (cF rfl en_97 rfl (fun w hw=>KAa V hok f bd _ _ w (mC hw) (mC hw)) ?_);refine aP 16 rfl (KJ (KX pl_47 zr_47 rfl (fill_pt _ _)) rfl) (aL 17 rfl (sA rfl rfl sz_47 mO (hl:=mL) (h:=?_)));refine aE (KN (eN (.cons ⟨_,_,_,rfl,mM,by exact KD u47 rfl sz_47⟩ .nil) ?_))
  rw [plain_aff hz]
  rfl
theorem c_Sum (V:Cv) (b f bd:Nat) (hok:V.Ok) (X1 Y1 Z1 X2 Y2 Z2:Fin V.p) (w:World) (hb:(Item.blk b ⟨false,opL V f,100,(0,0)⟩).holds w) (hf:(Item.blk f ⟨false,fldL V.p bd,165,(0,0)⟩).holds w) (hbd:(Item.blk bd ⟨false,dvL V.p,269,(0,0)⟩).holds w):CF Tryz.prog 100 [Pz b,pjV X1.val Y1.val Z1.val,pjV X2.val Y2.val Z2.val] w (pjF (sum3 V.A (V.B+V.B+V.B) X1 Y1 Z1 X2 Y2 Z2)):=by
  have hbb:=hok.bounds
  have hpW:V.p<W9:=Ks hbb.2.1
  refine KV (N:=213) (rs:=[.cell 6 135]) [.blk b ⟨false,opL V f,100,(0,0)⟩,.blk f ⟨false,fldL V.p bd,165,(0,0)⟩,.blk bd ⟨false,dvL V.p,269,(0,0)⟩] Tryz.func100 rfl Tryz.ntmps100 Tryz.results100 (Nb rfl) ⟨hb,hf,hbd,trivial⟩ rfl ?_
  refine KB (KA (oS (mB (fun b4=>?_))));refine oS (mB (fun b5=>?_));refine oS (mk (KK KDO) (fun b6=>?_));refine KC (KB (rD [] (aM 0 ?_)));refine aP 1 rfl (KF rfl) (aP 2 rfl (KE (o':=59) u100 rfl rfl rfl sz_98 dc) (aD 3 rfl (dL rfl (hv:=KI u98 rfl (by exact KAt _ _ _ _ _ _ _ _ _ _ _ _ _))) ?_));refine aP 4 rfl (Kw rfl) (aM 5 ?_);refine aP 6 rfl (KF rfl) (aP 7 rfl (KE (o':=59) u100 rfl rfl rfl sz_98 dc) (aD 8 rfl (dL rfl (hv:=KI u98 rfl (by exact KAt _ _ _ _ _ _ _ _ _ _ _ _ _))) ?_));refine aP 9 rfl (Kw rfl) (aM 10 ?_);refine aP 11 rfl (KF rfl) (aP 12 rfl (KE (o':=59) u100 rfl rfl rfl sz_98 dc) (aD 13 rfl (dL rfl (hv:=KI u98 rfl (by exact KAt _ _ _ _ _ _ _ _ _ _ _ _ _))) ?_));refine aP 14 rfl (Kw rfl) (aA 15 ?_);refine aA 16 ?_;refine aA 17 ?_;refine aE (KB (rD [21,22,23] (aM 0 ?_)));refine aP 1 rfl (KE (o':=0) u135 rfl rfl rfl sz_33 dc) (aD 2 rfl (dL rfl (hv:=by exact Kh u33 rfl sz_33 rfl (KL _))) ?_)
  refine aP 3 rfl (KE (o':=0) u135 rfl rfl rfl sz_33 dc) (aD 4 rfl (dL rfl (hv:=by exact Kh u33 rfl sz_33 rfl (KL _))) ?_);refine aM 6 ?_;refine aP 7 rfl (KE (o':=9) u135 rfl rfl rfl sz_33 dc) (aP 9 rfl (KE (o':=9) u135 rfl rfl rfl sz_33 dc) (aM 12 ?_));refine aP 13 rfl (KE (o':=18) u135 rfl rfl rfl sz_33 dc) (aP 15 rfl (KE (o':=18) u135 rfl rfl rfl sz_33 dc) (KAq [11,17,21,22,23] 8 rfl kr (Nb rfl) (dL rfl (hv:=by exact KAg u33 rfl sz_33 rfl (KL _) (KL _))) ?_));refine KAq [11,17,21,22,23] 10 rfl kr (Nb rfl) (dL rfl (hv:=by exact KAg u33 rfl sz_33 rfl (KL _) (KL _))) ?_;refine KAq [17,21,22,23] 14 rfl kr (Nb rfl) (dL rfl (hv:=by exact pj_ld2 _ _ _ _ _ _)) ?_;refine KAq [17,21,22,23] 16 rfl kr (Nb rfl) (dL rfl (hv:=by exact pj_ld2 _ _ _ _ _ _)) ?_;refine KAR ?_;refine Kl 18 rfl (.inl zr_33) (Nb rfl) rfl rfl rfl ?_
  refine Kl 19 rfl (.inl zr_33) (Nb rfl) rfl rfl rfl ?_;refine Kl 20 rfl (.inl zr_33) (Nb rfl) rfl rfl rfl ?_;refine LAnyP.step 5 rfl rfl rfl (Nb rfl) kr rfl (Ke (first:=[_]) rfl en_97 rfl (fun w hw=>KAa V hok f bd _ _ w (mC hw) (mC hw))) ?_
  rintro _ _ ⟨rfl,rfl⟩
  refine LAnyP.step 11 rfl rfl rfl (Nb rfl) kr rfl (Ke (first:=[_]) rfl en_97 rfl (fun w hw=>KAa V hok f bd _ _ w (mC hw) (mC hw))) ?_
  rintro _ _ ⟨rfl,rfl⟩
  refine LAnyP.step 17 rfl rfl rfl (Nb rfl) kr rfl (Ke (first:=[_]) rfl en_97 rfl (fun w hw=>KAa V hok f bd _ _ w (mC hw) (mC hw))) ?_
  rintro _ _ ⟨rfl,rfl⟩
  refine pE (fun b12=>?_);refine pE (fun b11=>?_);refine pE (fun b10=>?_);refine Kv ?_;refine aL 21 rfl (sA rfl rfl sz_33 mO (hl:=mL) (h:=?_));refine aL 22 rfl (sA rfl rfl sz_33 mO (hl:=mL) (h:=?_));refine aL 23 rfl (sA rfl rfl sz_33 mO (hl:=mL) (h:=?_));refine aE (KB (rD [21] (aM 0 ?_)));refine aM 1 ?_;refine aM 2 ?_;refine aP 3 rfl (KE (o':=0) u135 rfl rfl rfl sz_33 dc) (aD 4 rfl (dL rfl (hv:=by exact Kh u33 rfl sz_33 rfl (KL _))) ?_);refine aP 5 rfl (KE (o':=9) u135 rfl rfl rfl sz_33 dc) (aD 6 rfl (dL rfl (hv:=by exact KAg u33 rfl sz_33 rfl (KL _) (KL _))) ?_);refine aM 8 ?_;refine aP 9 rfl (KE (o':=0) u135 rfl rfl rfl sz_33 dc) (aD 10 rfl (dL rfl (hv:=by exact Kh u33 rfl sz_33 rfl (KL _))) ?_);refine aP 11 rfl (KE (o':=9) u135 rfl rfl rfl sz_33 dc) (aD 12 rfl (dL rfl (hv:=by exact KAg u33 rfl sz_33 rfl (KL _) (KL _))) ?_)
  refine aM 15 ?_;refine aD 16 rfl dNa ?_;refine aD 17 rfl dNa ?_;refine KAR ?_;refine Kl 20 rfl (.inl zr_33) (Nb rfl) rfl rfl rfl ?_;refine LAnyP.step 7 rfl rfl rfl (Nb rfl) kr rfl (Ke (first:=[_]) rfl en_82 rfl (fun w hw=>KBJ V hok f bd _ _ w (mC hw))) ?_
  rintro _ _ ⟨rfl,rfl⟩
  refine LAnyP.step 13 rfl rfl rfl (Nb rfl) kr rfl (Ke (first:=[_]) rfl en_82 rfl (fun w hw=>KBJ V hok f bd _ _ w (mC hw))) ?_
  rintro _ _ ⟨rfl,rfl⟩
  refine LAnyP.step 14 rfl rfl rfl (Nb rfl) kr rfl (Ke (first:=[_]) rfl en_97 rfl (fun w hw=>KAa V hok f bd _ _ w (mC hw) (mC hw))) ?_
  rintro _ _ ⟨rfl,rfl⟩
  refine LAnyP.step 18 rfl rfl rfl (Nb rfl) kr rfl (Ke (first:=[_]) rfl en_82 rfl (fun w hw=>KBJ V hok f bd _ _ w (mC hw))) ?_
  rintro _ _ ⟨rfl,rfl⟩
  refine LAnyP.step 19 rfl rfl rfl (Nb rfl) kr rfl (Ke (first:=[_]) rfl KDG rfl (fun w hw=>KCb V hok f bd _ _ w (mC hw))) ?_
  rintro _ _ ⟨rfl,rfl⟩
  refine pE (fun b13=>?_);refine Kv ?_;refine aL 21 rfl (sA rfl rfl sz_33 mO (hl:=mL) (h:=?_));refine aE (KB (rD [21] (aM 0 ?_)));refine aM 1 ?_;refine aM 2 ?_;refine aP 3 rfl (KE (o':=0) u135 rfl rfl rfl sz_33 dc) (aD 4 rfl (dL rfl (hv:=by exact Kh u33 rfl sz_33 rfl (KL _))) ?_);refine aP 5 rfl (KE (o':=18) u135 rfl rfl rfl sz_33 dc) (aD 6 rfl (dL rfl (hv:=by exact pj_ld2 _ _ _ _ _ _)) ?_);refine aM 8 ?_;refine aP 9 rfl (KE (o':=0) u135 rfl rfl rfl sz_33 dc) (aD 10 rfl (dL rfl (hv:=by exact Kh u33 rfl sz_33 rfl (KL _))) ?_);refine aP 11 rfl (KE (o':=18) u135 rfl rfl rfl sz_33 dc) (aD 12 rfl (dL rfl (hv:=by exact pj_ld2 _ _ _ _ _ _)) ?_);refine aM 15 ?_;refine aD 16 rfl dNa ?_;refine aD 17 rfl dNa ?_;refine KAR ?_
  refine Kl 20 rfl (.inl zr_33) (Nb rfl) rfl rfl rfl ?_;refine LAnyP.step 7 rfl rfl rfl (Nb rfl) kr rfl (Ke (first:=[_]) rfl en_82 rfl (fun w hw=>KBJ V hok f bd _ _ w (mC hw))) ?_
  rintro _ _ ⟨rfl,rfl⟩
  refine LAnyP.step 13 rfl rfl rfl (Nb rfl) kr rfl (Ke (first:=[_]) rfl en_82 rfl (fun w hw=>KBJ V hok f bd _ _ w (mC hw))) ?_
  rintro _ _ ⟨rfl,rfl⟩
  refine LAnyP.step 14 rfl rfl rfl (Nb rfl) kr rfl (Ke (first:=[_]) rfl en_97 rfl (fun w hw=>KAa V hok f bd _ _ w (mC hw) (mC hw))) ?_
  rintro _ _ ⟨rfl,rfl⟩
  refine LAnyP.step 18 rfl rfl rfl (Nb rfl) kr rfl (Ke (first:=[_]) rfl en_82 rfl (fun w hw=>KBJ V hok f bd _ _ w (mC hw))) ?_
  rintro _ _ ⟨rfl,rfl⟩
  refine LAnyP.step 19 rfl rfl rfl (Nb rfl) kr rfl (Ke (first:=[_]) rfl KDG rfl (fun w hw=>KCb V hok f bd _ _ w (mC hw))) ?_
  rintro _ _ ⟨rfl,rfl⟩
  refine pE (fun b14=>?_);refine Kv ?_;refine aL 21 rfl (sA rfl rfl sz_33 mO (hl:=mL) (h:=?_));refine aE (KB (rD [21] (aM 0 ?_)));refine aM 1 ?_;refine aM 2 ?_;refine aP 3 rfl (KE (o':=9) u135 rfl rfl rfl sz_33 dc) (aD 4 rfl (dL rfl (hv:=by exact KAg u33 rfl sz_33 rfl (KL _) (KL _))) ?_);refine aP 5 rfl (KE (o':=18) u135 rfl rfl rfl sz_33 dc) (aD 6 rfl (dL rfl (hv:=by exact pj_ld2 _ _ _ _ _ _)) ?_);refine aM 8 ?_;refine aP 9 rfl (KE (o':=9) u135 rfl rfl rfl sz_33 dc) (aD 10 rfl (dL rfl (hv:=by exact KAg u33 rfl sz_33 rfl (KL _) (KL _))) ?_);refine aP 11 rfl (KE (o':=18) u135 rfl rfl rfl sz_33 dc) (aD 12 rfl (dL rfl (hv:=by exact pj_ld2 _ _ _ _ _ _)) ?_);refine aM 15 ?_;refine aD 16 rfl dNa ?_;refine aD 17 rfl dNa ?_
  refine KAR ?_;refine Kl 20 rfl (.inl zr_33) (Nb rfl) rfl rfl rfl ?_;refine LAnyP.step 7 rfl rfl rfl (Nb rfl) kr rfl (Ke (first:=[_]) rfl en_82 rfl (fun w hw=>KBJ V hok f bd _ _ w (mC hw))) ?_
  rintro _ _ ⟨rfl,rfl⟩
  refine LAnyP.step 13 rfl rfl rfl (Nb rfl) kr rfl (Ke (first:=[_]) rfl en_82 rfl (fun w hw=>KBJ V hok f bd _ _ w (mC hw))) ?_
  rintro _ _ ⟨rfl,rfl⟩
  refine LAnyP.step 14 rfl rfl rfl (Nb rfl) kr rfl (Ke (first:=[_]) rfl en_97 rfl (fun w hw=>KAa V hok f bd _ _ w (mC hw) (mC hw))) ?_
  rintro _ _ ⟨rfl,rfl⟩
  refine LAnyP.step 18 rfl rfl rfl (Nb rfl) kr rfl (Ke (first:=[_]) rfl en_82 rfl (fun w hw=>KBJ V hok f bd _ _ w (mC hw))) ?_
  rintro _ _ ⟨rfl,rfl⟩
  refine LAnyP.step 19 rfl rfl rfl (Nb rfl) kr rfl (Ke (first:=[_]) rfl KDG rfl (fun w hw=>KCb V hok f bd _ _ w (mC hw))) ?_
  rintro _ _ ⟨rfl,rfl⟩
  refine pE (fun b15=>?_);refine Kv ?_;refine aL 21 rfl (sA rfl rfl sz_33 mO (hl:=mL) (h:=?_));refine aE (KB (rD [18] (aM 0 ?_)));refine aM 1 ?_;refine aM 2 ?_;refine aP 3 rfl (KF rfl) (aP 4 rfl (KE (o':=60) u100 rfl rfl rfl sz_33 dc) (aD 5 rfl (KBL (dL rfl (hv:=by exact cvC_ld_t3 _ _ _ _ _ _ _ _ _ _ _ _ _ _ _ _)) (t_val hok)) ?_));refine aD 6 rfl dNa ?_;refine aM 8 ?_;refine aM 9 ?_;refine aP 10 rfl (KF rfl) (aP 11 rfl (KE (o':=0) u100 rfl rfl rfl sz_53 dc) (aP 12 rfl (KE (o':=10) u53 rfl rfl rfl sz_33 dc) (aD 13 rfl (KBL (dL rfl (hv:=by exact cvC_ld_a _ _ _ _ _ _ _ _ _ _ _ _ _ _ _ _)) (a_val hok)) ?_)));refine aD 14 rfl dNa ?_;refine KAR ?_;refine Kl 17 rfl (.inl zr_33) (Nb rfl) rfl rfl rfl ?_;refine LAnyP.step 7 rfl rfl rfl (Nb rfl) kr rfl (Ke (first:=[_]) rfl en_97 rfl (fun w hw=>KAa V hok f bd _ _ w (mC hw) (mC hw))) ?_
  rintro _ _ ⟨rfl,rfl⟩
  refine LAnyP.step 15 rfl rfl rfl (Nb rfl) kr rfl (Ke (first:=[_]) rfl en_97 rfl (fun w hw=>KAa V hok f bd _ _ w (mC hw) (mC hw))) ?_
  rintro _ _ ⟨rfl,rfl⟩
  refine LAnyP.step 16 rfl rfl rfl (Nb rfl) kr rfl (Ke (first:=[_]) rfl en_82 rfl (fun w hw=>KBJ V hok f bd _ _ w (mC hw))) ?_
  rintro _ _ ⟨rfl,rfl⟩
  refine pE (fun b16=>?_);refine Kv ?_;refine aL 18 rfl (sA rfl rfl sz_33 mO (hl:=mL) (h:=?_));refine aE (KB (KA (oM ?_)));refine oD dNa ?_;refine oD dNa ?_;refine oS (Ky (first:=[_]) rfl KDG rfl (Nb rfl) (fun w hw=>KCb V hok f bd _ _ w (mC hw)) ?_);refine oS (mk (KK zr_33) (fun b17=>?_));refine oT rfl rfl sz_33 ?_;refine KC (KB (KA (oM ?_)));refine oD dNa ?_;refine oD dNa ?_;refine oS (Ky (first:=[_]) rfl en_82 rfl (Nb rfl) (fun w hw=>KBJ V hok f bd _ _ w (mC hw)) ?_);refine oT rfl rfl sz_33 ?_;refine KC (KB (KA (oM ?_)));refine oD dNa ?_;refine oD dNa ?_;refine oS (Ky (first:=[_]) rfl en_97 rfl (Nb rfl) (fun w hw=>KAa V hok f bd _ _ w (mC hw) (mC hw)) ?_)
  refine oS (mk (KK zr_33) (fun b18=>?_));refine oT rfl rfl sz_33 ?_;refine KC (KB (rD [7] (aM 0 ?_)));refine aM 1 ?_;refine aD 2 rfl dNa ?_;refine aD 3 rfl dNa ?_;refine aD 5 rfl dNa ?_;refine aO 4 rfl (Ky (first:=[_]) rfl en_82 rfl (Nb rfl) (fun w hw=>KBJ V hok f bd _ _ w (mC hw)) ?_);refine aO 6 rfl (Ky (first:=[_]) rfl en_82 rfl (Nb rfl) (fun w hw=>KBJ V hok f bd _ _ w (mC hw)) ?_);refine aL 7 rfl (sA rfl rfl sz_33 mO (hl:=mL) (h:=?_));refine aE (KB (rD [8] (aM 0 ?_)));refine aM 1 ?_;refine aP 2 rfl (KF rfl) (aP 3 rfl (KE (o':=0) u100 rfl rfl rfl sz_53 dc) (aP 4 rfl (KE (o':=10) u53 rfl rfl rfl sz_33 dc) (aD 5 rfl (KBL (dL rfl (hv:=by exact cvC_ld_a _ _ _ _ _ _ _ _ _ _ _ _ _ _ _ _)) (a_val hok)) ?_)));refine aD 6 rfl dNa ?_
  refine aO 7 rfl (Ky (first:=[_]) rfl en_97 rfl (Nb rfl) (fun w hw=>KAa V hok f bd _ _ w (mC hw) (mC hw)) ?_);refine aL 8 rfl (sA rfl rfl sz_33 mO (hl:=mL) (h:=?_));refine aE (KB (rD [7] (aM 0 ?_)));refine aM 1 ?_;refine aP 2 rfl (KF rfl) (aP 3 rfl (KE (o':=60) u100 rfl rfl rfl sz_33 dc) (aD 4 rfl (KBL (dL rfl (hv:=by exact cvC_ld_t3 _ _ _ _ _ _ _ _ _ _ _ _ _ _ _ _)) (t_val hok)) ?_));refine aD 5 rfl dNa ?_;refine aO 6 rfl (Ky (first:=[_]) rfl en_97 rfl (Nb rfl) (fun w hw=>KAa V hok f bd _ _ w (mC hw) (mC hw)) ?_);refine aL 7 rfl (sA rfl rfl sz_33 mO (hl:=mL) (h:=?_));refine aE (KB (KA (oM ?_)));refine oD dNa ?_;refine oD dNa ?_;refine oS (Ky (first:=[_]) rfl en_82 rfl (Nb rfl) (fun w hw=>KBJ V hok f bd _ _ w (mC hw)) ?_);refine oT rfl rfl sz_33 ?_
  refine KC (KB (rD [11] (aM 0 ?_)));refine aM 1 ?_;refine aP 2 rfl (KF rfl) (aP 3 rfl (KE (o':=0) u100 rfl rfl rfl sz_53 dc) (aP 4 rfl (KE (o':=10) u53 rfl rfl rfl sz_33 dc) (aD 5 rfl (KBL (dL rfl (hv:=by exact cvC_ld_a _ _ _ _ _ _ _ _ _ _ _ _ _ _ _ _)) (a_val hok)) ?_)));refine aM 6 ?_;refine aD 7 rfl dNa ?_;refine aD 8 rfl dNa ?_;refine aO 9 rfl (Ky (first:=[_]) rfl KDG rfl (Nb rfl) (fun w hw=>KCb V hok f bd _ _ w (mC hw)) ?_);refine aO 10 rfl (Ky (first:=[_]) rfl en_97 rfl (Nb rfl) (fun w hw=>KAa V hok f bd _ _ w (mC hw) (mC hw)) ?_);refine aL 11 rfl (sA rfl rfl sz_33 mO (hl:=mL) (h:=?_));refine aE (KB (KA (oM ?_)));refine oD dNa ?_;refine oD dNa ?_;refine oS (Ky (first:=[_]) rfl en_82 rfl (Nb rfl) (fun w hw=>KBJ V hok f bd _ _ w (mC hw)) ?_)
  refine oT rfl rfl sz_33 ?_;refine KC (KB (rD [7] (aM 0 ?_)));refine aD 1 rfl dNa ?_;refine aM 2 ?_;refine aD 3 rfl dNa ?_;refine aD 4 rfl dNa ?_;refine aO 5 rfl (Ky (first:=[_]) rfl en_97 rfl (Nb rfl) (fun w hw=>KAa V hok f bd _ _ w (mC hw) (mC hw)) ?_);refine aO 6 rfl (Ky (first:=[_]) rfl en_82 rfl (Nb rfl) (fun w hw=>KBJ V hok f bd _ _ w (mC hw)) ?_);refine aL 7 rfl (sA rfl rfl sz_33 mO (hl:=mL) (h:=?_));refine aE (KB (rD [10] (aM 0 ?_)));refine aM 1 ?_;refine aD 2 rfl dNa ?_;refine aD 3 rfl dNa ?_;refine aM 5 ?_;refine aD 6 rfl dNa ?_;refine aD 7 rfl dNa ?_
  refine aO 4 rfl (Ky (first:=[_]) rfl en_97 rfl (Nb rfl) (fun w hw=>KAa V hok f bd _ _ w (mC hw) (mC hw)) ?_);refine aO 8 rfl (Ky (first:=[_]) rfl en_97 rfl (Nb rfl) (fun w hw=>KAa V hok f bd _ _ w (mC hw) (mC hw)) ?_);refine aO 9 rfl (Ky (first:=[_]) rfl KDG rfl (Nb rfl) (fun w hw=>KCb V hok f bd _ _ w (mC hw)) ?_);refine aL 10 rfl (sA rfl rfl sz_33 mO (hl:=mL) (h:=?_));refine aE (KB (rD [10] (aM 0 ?_)));refine aM 1 ?_;refine aD 2 rfl dNa ?_;refine aD 3 rfl dNa ?_;refine aM 5 ?_;refine aD 6 rfl dNa ?_;refine aD 7 rfl dNa ?_;refine aO 4 rfl (Ky (first:=[_]) rfl en_97 rfl (Nb rfl) (fun w hw=>KAa V hok f bd _ _ w (mC hw) (mC hw)) ?_);refine aO 8 rfl (Ky (first:=[_]) rfl en_97 rfl (Nb rfl) (fun w hw=>KAa V hok f bd _ _ w (mC hw) (mC hw)) ?_)
  refine aO 9 rfl (Ky (first:=[_]) rfl en_82 rfl (Nb rfl) (fun w hw=>KBJ V hok f bd _ _ w (mC hw)) ?_);refine aL 10 rfl (sA rfl rfl sz_33 mO (hl:=mL) (h:=?_));refine aE (KB (KA (oD dNa ?_)));refine oD dNa ?_;refine oD dNa ?_;refine oP (KJ (KX pl_135 KDO rfl (fill_pj _ _ _)) rfl) (oT rfl rfl KAN ?_);refine KC (KN (eN (.cons ⟨_,_,_,rfl,mM,by exact KD u135 rfl KAN⟩ .nil) ?_))
  rfl
open Grp
theorem pm_top (V:Cv) (P:Pt V.p) (K:Nat):pmul V.A P (K/2^blen K) = .inf:=by rw [Nat.div_eq_of_lt (KCM K)]; rfl
theorem pm_T {V:Cv} (hok:V.Ok) {P:Pt V.p} (hP:On V.A V.B P) {K y:Nat} (h:K/2^y%2 = 1):padd V.A (padd V.A (pmul V.A P (K/2^(y+1))) (pmul V.A P (K/2^(y+1)))) P = pmul V.A P (K/2^y):=by
  have:=pmul_bit hok.crv hP K y
  rwa [if_pos h] at this
theorem pm_F {V:Cv} (hok:V.Ok) {P:Pt V.p} (hP:On V.A V.B P) {K y:Nat} (h:¬ K/2^y%2 = 1):padd V.A (pmul V.A P (K/2^(y+1))) (pmul V.A P (K/2^(y+1))) = pmul V.A P (K/2^y):=by
  have:=pmul_bit hok.crv hP K y
  rwa [if_neg h] at this
def sumT (V:Cv) (T U:Fin V.p×Fin V.p×Fin V.p):Fin V.p×Fin V.p×Fin V.p:=sum3 V.A (V.B+V.B+V.B) T.1 T.2.1 T.2.2 U.1 U.2.1 U.2.2
structure RepT (V:Cv) (T:Fin V.p×Fin V.p×Fin V.p) (P:Pt V.p):Prop where
  rep:Rep T.1 T.2.1 T.2.2 P
  on:On V.A V.B P
theorem RepT.sum {V:Cv} (hok:V.Ok) {T U:Fin V.p×Fin V.p×Fin V.p} {P R:Pt V.p} (h:RepT V T P) (k:RepT V U R):RepT V (sumT V T U) (padd V.A P R):=⟨hok.rep_sum h.rep k.rep h.on k.on,hok.sum h.on k.on⟩
theorem KBZ {V:Cv} (hok:V.Ok) {P:Pt V.p} (hP:On V.A V.B P):RepT V (tripF P) P:=⟨hok.rep_trip P,hP⟩
theorem c_SumT (V:Cv) (b f bd:Nat) (hok:V.Ok) (T U:Fin V.p×Fin V.p×Fin V.p) (w:World) (hb:(Item.blk b ⟨false,opL V f,100,(0,0)⟩).holds w) (hf:(Item.blk f ⟨false,fldL V.p bd,165,(0,0)⟩).holds w) (hbd:(Item.blk bd ⟨false,dvL V.p,269,(0,0)⟩).holds w):CF Tryz.prog 100 [Pz b,pjF T,pjF U] w (pjF (sumT V T U)) :=
  c_Sum V b f bd hok T.1 T.2.1 T.2.2 U.1 U.2.1 U.2.2 w hb hf hbd
theorem c_PlainT (V:Cv) (b f bd:Nat) (hok:V.Ok) (T:Fin V.p×Fin V.p×Fin V.p) (P:Pt V.p) (w:World) (hb:(Item.blk b ⟨false,opL V f,100,(0,0)⟩).holds w) (hf:(Item.blk f ⟨false,fldL V.p bd,165,(0,0)⟩).holds w) (hbd:(Item.blk bd ⟨false,dvL V.p,269,(0,0)⟩).holds w) (h:RepT V T P):CF Tryz.prog 65 [Pz b,pjF T] w (ptP P):=by
  have:=c_Plain V b f bd hok T.1 T.2.1 T.2.2 w hb hf hbd
  rwa [Rep.plain hok.prime h.rep] at this
theorem c_cTimes (V:Cv) (b f bd:Nat) (hok:V.Ok) (K:Nat) (hK:K<W9) (T:Fin V.p×Fin V.p×Fin V.p) (P:Pt V.p) (w:World) (hb:(Item.blk b ⟨false,opL V f,100,(0,0)⟩).holds w) (hf:(Item.blk f ⟨false,fldL V.p bd,165,(0,0)⟩).holds w) (hbd:(Item.blk bd ⟨false,dvL V.p,269,(0,0)⟩).holds w) (hrep:RepT V T P):Calls Tryz.prog 66 ([Pz b,natV K,pjF T]:List Value).toArray w (fun e w'=>∃ v,(∃ U,RepT V U (pmul V.A P K)∧v = pjF U)∧e = .returned v∧Below w.heap.size w w'):=by
  have hbl:=KAM hK
  refine KV (N:=30) (rs:=[.cell 6 135]) [.blk b ⟨false,opL V f,100,(0,0)⟩,.blk f ⟨false,fldL V.p bd,165,(0,0)⟩,.blk bd ⟨false,dvL V.p,269,(0,0)⟩] Tryz.func66 rfl Tryz.ntmps66 Tryz.results66 (Nb rfl) ⟨hb,hf,hbd,trivial⟩ rfl ?_
  refine KB (KA (oS (mB (fun b4=>?_))));refine oS (mB (fun b5=>?_));refine oS (mk (KK KDO) (fun b6=>?_));refine KC (KB (KA (oS (cF rfl en_99 rfl (fun w hw=>c_NoneF hok w) ?_))));refine oS (mk (KK KDO) (fun b7=>?_));refine LOps.step rfl (sA rfl rfl KAN (by exact pjL_one _ _ _) (hl:=by exact KBx _ _ _) (h:=?_));refine KC (KB (KB (KA (oD dNa ?_))));refine oS (cF rfl en_81 rfl (fun w hw=>KBz K hK w) ?_);refine oP (KG (v:=.int .i64 (((blen K:Nat):Int)-1)) rfl rfl (KBs om om)) (oA (KC (LCode.block ?_)));refine Kc (α:=Nat×(Fin V.p×Fin V.p×Fin V.p)) (fun x=>x.1≤blen K∧RepT V x.2 (pmul V.A P (K/2^x.1))) (fun x=>⟨[(0,Pz b),(4,Pz b4),(5,Pz b5),(6,Pz b6),(7,Pz b7),(8,.int .i64 (((x.1:Nat):Int)-1))],[.blk b7 ⟨true,pjFL x.2,135,(0,0)⟩,.blk b6 ⟨true,(vec .u64 9 (fun _=>0)++(vec .u64 9 (fun _=>0)++vec .u64 9 (fun _=>0))),135,(0,0)⟩,.blk b5 ⟨true,pjFL T,135,(0,0)⟩,.blk b4 ⟨true,natL K,33,(0,0)⟩,.blk b ⟨false,opL V f,100,(0,0)⟩,.blk f ⟨false,fldL V.p bd,165,(0,0)⟩,.blk bd ⟨false,dvL V.p,269,(0,0)⟩]⟩) (fun x=>x.1) ((blen K,tripF (.inf:Pt V.p))) (⟨Nat.le_refl _,by dsimp only; rw [pm_top]; exact KBZ hok trivial⟩) (Ka ⟨rfl,rfl,rfl,rfl,rfl,rfl,trivial⟩ mS) ?_
  rintro x ⟨hx1,hx2⟩
  refine KB (KB ?_)
  rcases Nat.eq_zero_or_pos x.1 with h0|h0
  ·
   refine KA (oM ?_);refine oP (KG (v:=.bool false) rfl rfl (by rw [h0]; rfl)) ?_;refine KC (KH rfl (Kb (KB ?_)))
   have eR:pmul V.A P (K/2^x.1) = pmul V.A P K:=by rw [h0,Nat.pow_zero,Nat.div_one]
   rw [eR] at hx2
   refine KA (oD (dL rfl (hv:=by exact KD u135 rfl KAN)) ?_);refine LOps.step rfl (sA rfl rfl KAN (by exact pjL_one _ _ _) (hl:=by exact KBx _ _ _) (h:=?_));refine KC (KN ?_);refine ⟨[_],.cons ⟨_,_,_,rfl,mM,by exact KD u135 rfl (by have:=KAN; exact this)⟩ .nil,fun a w' hr=>⟨_,⟨x.2,hx2,rfl⟩,rfl,hr.fr.below⟩⟩
  obtain ⟨y,hy⟩:∃ y,x.1 = y+1:=⟨x.1-1,by omega⟩
  rw [hy] at hx2
  refine KA (oM ?_);refine oP (KG (v:=.bool true) rfl rfl (by rw [hy]; simp [Kp] <;> omega)) ?_;refine KC (KS rfl (KM (KB (LCode.block (KB (KA (oM ?_)))))));refine oD (dL rfl (hv:=by exact KD u135 rfl KAN)) ?_;refine oD (dL rfl (hv:=by exact KD u135 rfl KAN)) ?_;refine oS (cF rfl en_100 rfl (fun w hw=>c_SumT V b f bd hok (x.2) (x.2) w (mC hw) (mC hw) (mC hw)) ?_);refine LOps.step rfl (sA rfl rfl KAN (by exact pjL_one _ _ _) (hl:=by exact KBx _ _ _) (h:=?_));refine KC (KB (KA (oD dNa ?_)));refine oP (Kf (v:=Iz y) (by show some _ = some _; congr 2; omega)) ?_;refine oS (cF rfl en_57 rfl (fun w hw=>KCp K y hK om w) ?_);refine oP (KG rfl rfl (Ku (b:=1))) (KC ?_)
  first|refine KQ rfl (fun hbit=>?_) (fun hbit=>?_)|refine KR rfl (fun hbit=>?_) (fun hbit=>?_)
  ·
   have hbit:K/2^y%2 = 1:=hbit
   refine KA (oM ?_);refine oD (dL rfl (hv:=by exact KD u135 rfl KAN)) ?_;refine oD (dL rfl (hv:=by exact KD u135 rfl KAN)) ?_;refine oS (cF rfl en_100 rfl (fun w hw=>c_SumT V b f bd hok (sumT V x.2 x.2) (T) w (mC hw) (mC hw) (mC hw)) ?_);refine LOps.step rfl (sA rfl rfl KAN (by exact pjL_one _ _ _) (hl:=by exact KBx _ _ _) (h:=?_));refine KC (KA ?_);refine oP (Kf (v:=Iz y) (by show some _ = some _; congr 2; omega)) ?_;refine oP (KG (v:=.int .i64 (((y:Nat):Int)-1)) rfl rfl (KBs om om)) (oA (KC ?_))
   exact ⟨(y,sumT V (sumT V x.2 x.2) T),⟨by dsimp only; omega,by have:=RepT.sum hok (RepT.sum hok hx2 hx2) hrep; rw [pm_T hok hrep.on hbit] at this; exact this⟩,by dsimp only; omega,Ka ⟨rfl,rfl,rfl,rfl,rfl,rfl,trivial⟩ mS⟩
  have hbit:¬ K/2^y%2 = 1:=hbit
  refine KM (KA ?_);refine oP (Kf (v:=Iz y) (by show some _ = some _; congr 2; omega)) ?_;refine oP (KG (v:=.int .i64 (((y:Nat):Int)-1)) rfl rfl (KBs om om)) (oA (KC ?_))
  exact ⟨(y,sumT V x.2 x.2),⟨by dsimp only; omega,by have:=RepT.sum hok hx2 hx2; rw [pm_F hok hrep.on hbit] at this; exact this⟩,by dsimp only; omega,Ka ⟨rfl,rfl,rfl,rfl,rfl,rfl,trivial⟩ mS⟩
open Grp
theorem fpow_val {p:Nat} [NeZero p] (x:Fin p):∀ e,(fpow x e).val = x.val^e%p
  | 0=>rfl
  | e+1=>by
    show (fpow x e*x).val = _
    rw [Fin.val_mul,fpow_val x e,Nat.pow_succ,Nat.mul_mod,Nat.mod_mod,← Nat.mul_mod]
def sqN (p a:Nat):Option Nat:=(List.range p).find? fun r=>Nat.beq (r*r%p) a && Nat.beq (r%2) 0
theorem sqN_some {p a r:Nat} (h:sqN p a = some r):r<p∧r*r%p = a∧r%2 = 0:=by
  unfold sqN at h
  have h1:=List.find?_some h
  have h2:=List.mem_of_find?_eq_some h
  simp only [Bool.and_eq_true] at h1
  exact ⟨List.mem_range.1 h2,Nat.eq_of_beq_eq_true h1.1,Nat.eq_of_beq_eq_true h1.2⟩
theorem sqN_none {p a:Nat} (h:sqN p a = none) {r:Nat} (hr:r<p) (h1:r*r%p = a):r%2 = 1:=by
  unfold sqN at h
  have h2:=List.find?_eq_none.1 h r (List.mem_range.2 hr)
  rcases Nat.mod_two_eq_zero_or_one r with h3|h3
  · exact absurd (by rw [h1,h3]; simp) h2
  · exact h3
theorem fin_neg_val {p:Nat} [NeZero p] (x:Fin p) (h:x.val≠0):(0-x).val = p-x.val:=by
  have:=x.isLt
  rw [Fin.sub_def]
  show (p-x.val+(0:Fin p).val)%p = _
  rw [Fin.val_zero,Nat.add_zero,Nat.mod_eq_of_lt om]
theorem neg_sq {p:Nat} [NeZero p] (x:Fin p):(0-x)*(0-x) = x*x:=by grind -lia
def evenR {p:Nat} [NeZero p] (x:Fin p):Fin p:=if x.val%2 = 1 then 0-x else x
theorem evenR_sq {p:Nat} [NeZero p] (x:Fin p):evenR x*evenR x = x*x:=by
  unfold evenR; split
  · exact neg_sq x
  · rfl
theorem evenR_even {p:Nat} [NeZero p] (hodd:p%2 = 1) (x:Fin p):(evenR x).val%2 = 0:=by
  unfold evenR; split
  · rename_i h
    have:=x.isLt
    rw [fin_neg_val x om]; omega
  · omega
theorem sqN_eq {p:Nat} [NeZero p] (hf:Fld p) (hodd:p%2 = 1) (x:Fin p):sqN p (x*x).val = some (evenR x).val:=by
  cases h:sqN p (x*x).val with
  | none =>
    have h1:=sqN_none h (evenR x).isLt (by rw [← Fin.val_mul,evenR_sq])
    have h2:=evenR_even hodd x
    omega
  | some r =>
    obtain ⟨h1,h2,h3⟩:=sqN_some h
    have e:(⟨r,h1⟩:Fin p) = evenR x:=even_root hf hodd (by rw [evenR_sq]; exact Fin.ext (by rw [Fin.val_mul]; exact h2)) h3 (evenR_even hodd x)
    rw [← e]
theorem p_odd {V:Cv} (hok:V.Ok):V.p%2 = 1:=by
  exact hok.bounds.2.2.2.2.2.2.2.1
theorem Cv.Ok.zbounds {V:Cv} (h:V.Ok):2≤V.z∧V.z<V.p:=by
  have cs:=h.cs
  simp only [Bool.and_eq_true] at cs
  exact ⟨Nb cs.1.1.1.1.1.1.1.2,Nb cs.1.1.1.1.1.1.2⟩
theorem sqN_no {V:Cv} (hok:V.Ok) {a:Fin V.p} (h0:a≠0) (h:fpow a ((V.p-1)/2)≠1):sqN V.p a.val = none:=by
  cases h1:sqN V.p a.val with
  | none=>rfl
  | some r =>
    obtain ⟨h2,h3,h4⟩:=sqN_some h1
    have hb:=hok.bounds
    have hod:=p_odd hok
    have e:a = (⟨r,h2⟩:Fin V.p)*⟨r,h2⟩:=Fin.ext (by rw [Fin.val_mul]; exact h3.symm)
    refine absurd ?_ h
    have hr:(⟨r,h2⟩:Fin V.p)≠0:=fun e0=>h0 (by rw [e,e0]; grind -lia)
    have:=fermat hok.fld om hr
    rw [show V.p-1 = (V.p-1)/2+(V.p-1)/2 by omega,fpow_add,← mul_fpow,← e] at this
    exact this
theorem sqN_zero {p:Nat} (hp:0<p):sqN p 0 = some 0:=by
  unfold sqN
  obtain ⟨n,rfl⟩:∃ n,p = n+1:=⟨p-1,by omega⟩
  rw [List.range_succ_eq_map,List.find?_cons]
  simp
theorem two_lt {k m B:Nat} (h:2^k*m = B) (hm:0<m) (hB:B<W9):k<576:=by
  refine Nat.lt_of_not_le fun hk=>?_
  obtain ⟨q,hq⟩:∃ q:Nat,q = 9:=⟨9,rfl⟩
  have h1:2^(64*q)≤2^k:=Nat.pow_le_pow_right dc om
  have h2:2^k*1≤2^k*m:=Nat.mul_le_mul_left _ hm
  rw [w9 hq] at h1
  omega
theorem val_one {V:Cv} (hok:V.Ok):(1:Fin V.p).val = 1:=by
  have:=hok.bounds
  show 1%V.p = 1
  exact Nat.mod_eq_of_lt om
theorem ne_iff1 {V:Cv} (hok:V.Ok) {x:Fin V.p}:x.val = 1↔x = 1:=⟨fun h=>Fin.ext (h.trans (val_one hok).symm),fun h=>h ▸ val_one hok⟩
theorem fpow_succ2 {p:Nat} [NeZero p] (x:Fin p) (k:Nat):fpow x (2^k)*fpow x (2^k) = fpow x (2^(k+1)):=by rw [← fpow_add,← Nat.mul_two,← Nat.pow_succ]
theorem c_F_Pow (V:Cv) (hok:V.Ok) (bd:Nat) (X:Fin V.p) (E:Nat) (w:World) (hbd:(Item.blk bd ⟨false,dvL V.p,269,(0,0)⟩).holds w) (hE:E<W9):CF Tryz.prog 160 [.agg [Pz bd].toArray,natV X.val,natV E] w (natV (fpow X E).val):=by
  have hb:=hok.bounds
  have hpW:=Ks hb.2.1
  have:=c_Pow V.p X.val E bd om hpW w hbd (Nat.lt_trans X.isLt hpW) hE
  rwa [← fpow_val] at this
theorem c_one  (w:World)  : CF Tryz.prog 159 [] w (natV 1):=by
  refine KV (N:=2) (rs:=[.cell 0 33]) [] Tryz.func159 rfl Tryz.ntmps159 Tryz.results159 (Nb rfl) trivial rfl ?_
  refine KB (KA (oS (mk (KK zr_33) (fun b0=>?_))));refine KC (KB (KA (oS (cF rfl en_80 rfl (fun w hw=>KAU 1 dc w) ?_))));refine oT rfl rfl sz_33 ?_;refine KC (KN (eN (.cons ⟨_,_,_,rfl,mM,by exact KD u33 rfl sz_33⟩ .nil) ?_))
  rfl
theorem c_half (A:Nat) (hA:A<W9) (w:World)  : CF Tryz.prog 161 [natV A] w (natV (A/2)):=by
  refine KV (N:=11) (rs:=[.cell 2 33]) [] Tryz.func161 rfl Tryz.ntmps161 Tryz.results161 (Nb rfl) trivial rfl ?_
  refine KB (KA (oS (mB (fun b1=>?_))));refine oS (mk (KK zr_33) (fun b2=>?_));refine KC (KB (KA (oD dNa ?_)));refine oS (cF rfl en_83 rfl (fun w hw=>c_nat_Shr A 1 hA dc w) ?_);refine oM ?_;refine oX ?_;refine oX ?_;refine oS (mk (KK zr_33) (fun b3=>?_));refine oT rfl rfl sz_33 ?_;refine oA (KC (KB (KA ?_)));refine oD dNa ?_;refine oT rfl rfl sz_33 ?_;refine KC (KN (eN (.cons ⟨_,_,_,rfl,mM,by exact KD u33 rfl sz_33⟩ .nil) ?_))
  rw [Nat.pow_one]
  rfl
theorem c_f_AddS (V:Cv) (f bd z:Nat) (w:World) (hf:(Item.blk f ⟨false,fldL V.p bd,165,(0,0)⟩).holds w) (hok:V.Ok) (hz:z+1<V.p):CF Tryz.prog 82 [Pz f,natV z,natV 1] w (natV (z+1)):=by
  have:=KDT V f bd z 1 w hf hok.bounds.2.1 om om
  rwa [Nat.mod_eq_of_lt hz] at this
theorem c_F_PowN (V:Cv) (hok:V.Ok) (bd z:Nat) (E:Nat) (w:World) (hbd:(Item.blk bd ⟨false,dvL V.p,269,(0,0)⟩).holds w) (hE:E<W9) (hz:z<V.p):CF Tryz.prog 160 [.agg [Pz bd].toArray,natV z,natV E] w (natV (fpow (c V.p z) E).val):=by
  have:=c_F_Pow V hok bd (c V.p z) E w hbd hE
  rwa [show (c V.p z).val = z from Nat.mod_eq_of_lt hz] at this
theorem neg_one_val {p:Nat} [NeZero p] (h:2≤p):(-1:Fin p).val = p-1:=by
  have h1:(-1:Fin p) = 0-1:=by grind -lia
  have h2:(1:Fin p).val = 1:=by show 1%p = 1; exact Nat.mod_eq_of_lt om
  rw [h1,fin_neg_val 1 om,h2]
theorem fpow_cval {p:Nat} [NeZero p] (z E:Nat):(fpow (c p z) E).val = z^E%p:=by
  rw [← c_pow]; rfl
theorem half_of {p o s:Nat} (h:o*2^s = p-1) (hp:p%2 = 1) (h2:2≤p) (ho:o%2 = 1):0<s∧o*2^(s-1) = (p-1)/2:=by
  cases s with
  | zero=>rw [Nat.pow_zero,Nat.mul_one] at h; omega
  | succ k =>
    rw [Nat.pow_succ,← Nat.mul_assoc] at h
    refine ⟨Nat.succ_pos k,?_⟩
    show o*2^k = _
    omega
theorem c_root (V:Cv) (f bd:Nat) (hok:V.Ok) (a:Fin V.p) (w:World) (hf:(Item.blk f ⟨false,fldL V.p bd,165,(0,0)⟩).holds w) (hbd:(Item.blk bd ⟨false,dvL V.p,269,(0,0)⟩).holds w) (ha:fpow a ((V.p-1)/2) = 1):Calls Tryz.prog 162 ([Pz f,natV a.val]:List Value).toArray w (fun e w'=>∃ v,(∃ x:Fin V.p,x*x = a∧v = natV x.val)∧e = .returned v∧Below w.heap.size w w'):=by
  have hbb:=hok.bounds
  have hpW:V.p<W9:=Ks hbb.2.1
  have hz:=hok.zbounds
  refine KV (N:=118) (rs:=[.cell 4 33]) [.blk f ⟨false,fldL V.p bd,165,(0,0)⟩,.blk bd ⟨false,dvL V.p,269,(0,0)⟩] Tryz.func162 rfl Tryz.ntmps162 Tryz.results162 (Nb rfl) ⟨hf,hbd,trivial⟩ rfl ?_
  refine KB (KA (oS (mB (fun b3=>?_))));refine oS (mk (KK zr_33) (fun b4=>?_));refine KC (KB (rD [10] (aM 0 ?_)));refine aP 1 rfl (KF rfl) (aP 2 rfl (KE (o':=0) u165 rfl rfl rfl sz_33 dc) (aD 3 rfl (dL rfl (hv:=by exact Kh u33 rfl sz_33 rfl (KL _))) ?_));refine KAR ?_;refine Kl 9 rfl (.inl zr_33) (Nb rfl) rfl rfl rfl ?_;refine LAnyP.step 4 rfl rfl rfl (Nb rfl) kr rfl (Ke (first:=[]) rfl en_159 rfl (fun w hw=>c_one w)) ?_
  rintro _ _ ⟨rfl,rfl⟩
  refine LAnyP.step 5 rfl rfl rfl (Nb rfl) kr rfl (Ke (first:=[]) rfl en_79 rfl (fun w hw=>KCz V.p 1 w hpW om)) ?_
  rintro _ _ ⟨rfl,rfl⟩
  refine pM 6 ?_;refine pP 7 rfl (Det.extract rfl rfl) (pP 8 rfl (Det.extract rfl rfl) (pE (fun b5=>?_)));refine Kv ?_;refine aL 10 rfl (sA rfl rfl sz_33 mO (hl:=mL) (h:=?_));refine aA 11 ?_;refine aE (KB (KA (oD dNa ?_)));refine oS (mk (KK zr_33) (fun b7=>?_));refine oT rfl rfl sz_33 ?_;refine oP (KO (v:=Iz 0) rfl) (KC (KB (LCode.block ?_)));refine Kc (α:=Nat×Nat) (fun x=>x.1*2^x.2 = V.p-1∧0<x.1) (fun x=>⟨[(0,Pz f),(3,Pz b3),(4,Pz b4),(5,Pz b5),(7,Pz b7),(8,Iz x.2)],[.blk b7 ⟨true,natL x.1,33,(0,0)⟩,.blk b5 ⟨true,natL (V.p-1),33,(0,0)⟩,.blk b4 ⟨true,vec .u64 9 (fun _=>0),33,(0,0)⟩,.blk b3 ⟨true,natL a.val,33,(0,0)⟩,.blk f ⟨false,fldL V.p bd,165,(0,0)⟩,.blk bd ⟨false,dvL V.p,269,(0,0)⟩]⟩) (fun x=>x.1) ((V.p-1,0)) (⟨by dsimp only; omega,by dsimp only; omega⟩) (Ka ⟨rfl,rfl,rfl,rfl,rfl,rfl,trivial⟩ mS) ?_
  rintro o ⟨ho1,ho2⟩
  refine KB (KB ?_)
  have ho3:o.1≤V.p-1:=by
    have h2:o.1*1≤o.1*2^o.2:=Nat.mul_le_mul_left _ Nat.one_le_two_pow
    omega
  have ho4:o.2<576:=two_lt ((Nat.mul_comm _ _).trans ho1) ho2 om
  refine KA (oD dNa ?_);refine oS (cF rfl en_57 rfl (fun w hw=>KCp o.1 0 om dc w) ?_);refine oP (KG rfl rfl (Ku (b:=0))) (KC ?_)
  first|refine KQ rfl (fun h30=>?_) (fun h30=>?_)|refine KR rfl (fun h30=>?_) (fun h30=>?_)
  ·
   have h30:o.1/2^0%2 = 0:=h30
   rw [Nat.pow_zero,Nat.div_one] at h30
   refine KM (LCode.block (KA (oD dNa ?_)));refine oS (cF rfl en_161 rfl (fun w hw=>c_half o.1 om w) ?_);refine oM ?_;refine oP (KG rfl rfl (Kj (b:=1) om)) (oT rfl rfl sz_33 ?_);refine oA (KC ?_)
   exact ⟨(o.1/2,o.2+1),⟨by dsimp only; rw [Nat.pow_succ,Nat.mul_comm (2^o.2) 2,← Nat.mul_assoc,show o.1/2*2 = o.1 by omega]; exact ho1,by dsimp only; omega⟩,by dsimp only; omega,Ka ⟨rfl,rfl,rfl,rfl,rfl,rfl,trivial⟩ mS⟩
  have h30:¬ o.1/2^0%2 = 0:=h30
  rw [Nat.pow_zero,Nat.div_one] at h30
  refine Kb (KB (KA (oS (cF rfl en_80 rfl (fun w hw=>KAU 2 dc w) ?_))));refine oS (mk (KK zr_33) (fun b9=>?_));refine oT rfl rfl sz_33 ?_;refine KC (KB (LCode.block (Kc (α:=Nat) (fun x=>2≤x∧x≤V.z) (fun x=>⟨[(0,Pz f),(3,Pz b3),(4,Pz b4),(5,Pz b5),(7,Pz b7),(8,Iz o.2),(9,Pz b9)],[.blk b9 ⟨true,natL x,33,(0,0)⟩,.blk b7 ⟨true,natL o.1,33,(0,0)⟩,.blk b5 ⟨true,natL (V.p-1),33,(0,0)⟩,.blk b4 ⟨true,vec .u64 9 (fun _=>0),33,(0,0)⟩,.blk b3 ⟨true,natL a.val,33,(0,0)⟩,.blk f ⟨false,fldL V.p bd,165,(0,0)⟩,.blk bd ⟨false,dvL V.p,269,(0,0)⟩]⟩) (fun x=>V.z-x) (2) (⟨Nat.le_refl _,hz.1⟩) (Ka ⟨rfl,rfl,rfl,rfl,rfl,rfl,rfl,trivial⟩ mS) ?_)))
  rintro z ⟨hz1,hz2⟩
  refine KB (KB (rD [] (aM 0 ?_)));refine aP 1 rfl (KF rfl) (aP 2 rfl (KE (o':=9) u165 rfl rfl rfl KBo dc) (aD 3 rfl (dL rfl (hv:=by exact LoadV.last u163 rfl KBo rfl (KL _) rfl)) ?_));refine aD 4 rfl dNa ?_;refine aD 5 rfl dNa ?_;refine aD 8 rfl dNa ?_;refine aO 6 rfl (cF rfl en_161 rfl (fun w hw=>c_half (V.p-1) om w) ?_);refine aO 7 rfl (cF rfl en_160 rfl (fun w hw=>c_Pow V.p z ((V.p-1)/2) bd om hpW w (mC hw) om om) ?_);refine aP 9 rfl (KBh kr (fun w=>KBI (z^((V.p-1)/2)%V.p) (V.p-1) (Nat.lt_trans (Nat.mod_lt _ om) hpW) om 10000 dc w) rfl rfl) ?_;refine aE ?_
  first|refine KQ rfl (fun h45=>?_) (fun h45=>?_)|refine KR rfl (fun h45=>?_) (fun h45=>?_)
  ·
   have h45:z^((V.p-1)/2)%V.p≠V.p-1:=by simpa using h45
   refine KM (LCode.block ?_)
   have hzz:z≠V.z:=fun h=>h45 (by have:=congrArg Fin.val hok.none; rw [fpow_cval,neg_one_val om] at this; rw [h]; exact this)
   refine rD [4] (aM 0 ?_);refine aD 1 rfl dNa ?_;refine aO 2 rfl (cF rfl en_159 rfl (fun w hw=>c_one w) ?_);refine aO 3 rfl (cF rfl en_82 rfl (fun w hw=>c_f_AddS V f bd z w (mC hw) hok om) ?_);refine aL 4 rfl (sA rfl rfl sz_33 mO (hl:=mL) (h:=?_));refine aE ?_
   exact ⟨z+1,⟨by omega,by omega⟩,by omega,Ka ⟨rfl,rfl,rfl,rfl,rfl,rfl,rfl,trivial⟩ mS⟩
  have h45:z^((V.p-1)/2)%V.p = V.p-1:=by simpa using h45
  refine Kb (KB ?_)
  have hz3:fpow (c V.p z) ((V.p-1)/2) = -1:=Fin.ext (by rw [fpow_cval,neg_one_val om]; exact h45)
  obtain ⟨hs1,hs2⟩:=half_of ho1 (p_odd hok) om om
  refine rD [7] (aD 0 rfl dNa ?_);refine KAR ?_;refine Kl 6 rfl (.inl zr_33) (Nb rfl) rfl rfl rfl ?_;refine LAnyP.step 1 rfl rfl rfl (Nb rfl) kr rfl (Ke (first:=[]) rfl en_159 rfl (fun w hw=>c_one w)) ?_
  rintro _ _ ⟨rfl,rfl⟩
  refine LAnyP.step 2 rfl rfl rfl (Nb rfl) kr rfl (Ke (first:=[]) rfl en_91 rfl (fun w hw=>c_nat_AddS o.1 1 w om)) ?_
  rintro _ _ ⟨rfl,rfl⟩
  refine pM 3 ?_;refine pP 4 rfl (Det.extract rfl rfl) (pP 5 rfl (Det.extract rfl rfl) (pE (fun b10=>?_)));refine Kv ?_;refine aL 7 rfl (sA rfl rfl sz_33 mO (hl:=mL) (h:=?_));refine aA 8 ?_;refine aE (KB (rD [25,26,27] (aM 0 ?_)));refine aP 1 rfl (KF rfl) (aP 2 rfl (KE (o':=9) u165 rfl rfl rfl KBo dc) (aD 3 rfl (dL rfl (hv:=by exact LoadV.last u163 rfl KBo rfl (KL _) rfl)) ?_));refine aD 4 rfl dNa ?_;refine aD 5 rfl dNa ?_;refine aM 7 ?_;refine aP 8 rfl (KF rfl) (aP 9 rfl (KE (o':=9) u165 rfl rfl rfl KBo dc) (aM 15 ?_));refine aP 16 rfl (KF rfl) (aP 17 rfl (KE (o':=9) u165 rfl rfl rfl KBo dc) (KAq [14,21,25,26,27] 10 rfl kr (Nb rfl) (dL rfl (hv:=by exact LoadV.last u163 rfl KBo rfl (KL _) rfl)) ?_));refine KAq [14,21,25,26,27] 11 rfl kr (Nb rfl) dNa ?_
  refine KAq [13,14,21,25,26,27] 12 rfl kr (Nb rfl) dNa ?_;refine KAq [21,25,26,27] 18 rfl kr (Nb rfl) (dL rfl (hv:=by exact LoadV.last u163 rfl KBo rfl (KL _) rfl)) ?_;refine KAq [21,25,26,27] 19 rfl kr (Nb rfl) dNa ?_;refine KAq [21,25,26,27] 20 rfl kr (Nb rfl) dNa ?_;refine KAR ?_;refine Kl 22 rfl (.inl zr_33) (Nb rfl) rfl rfl rfl ?_;refine Kl 23 rfl (.inl zr_33) (Nb rfl) rfl rfl rfl ?_;refine Kl 24 rfl (.inl zr_33) (Nb rfl) rfl rfl rfl ?_;refine LAnyP.step 6 rfl rfl rfl (Nb rfl) kr rfl (Ke (first:=[]) rfl en_160 rfl (fun w hw=>c_F_PowN V hok bd z o.1 w (mC hw) om om)) ?_
  rintro _ _ ⟨rfl,rfl⟩
  refine LAnyP.step 13 rfl rfl rfl (Nb rfl) kr rfl (Ke (first:=[]) rfl en_161 rfl (fun w hw=>c_half (o.1+1) om w)) ?_
  rintro _ _ ⟨rfl,rfl⟩
  refine LAnyP.step 14 rfl rfl rfl (Nb rfl) kr rfl (Ke (first:=[]) rfl en_160 rfl (fun w hw=>c_F_Pow V hok bd a ((o.1+1)/2) w (mC hw) om)) ?_
  rintro _ _ ⟨rfl,rfl⟩
  refine LAnyP.step 21 rfl rfl rfl (Nb rfl) kr rfl (Ke (first:=[]) rfl en_160 rfl (fun w hw=>c_F_Pow V hok bd a o.1 w (mC hw) om)) ?_
  rintro _ _ ⟨rfl,rfl⟩
  refine pE (fun b14=>?_);refine pE (fun b13=>?_);refine pE (fun b12=>?_);refine Kv ?_;refine aL 25 rfl (sA rfl rfl sz_33 mO (hl:=mL) (h:=?_));refine aL 26 rfl (sA rfl rfl sz_33 mO (hl:=mL) (h:=?_));refine aL 27 rfl (sA rfl rfl sz_33 mO (hl:=mL) (h:=?_));refine aE (KB (LCode.block ?_));refine Kc (α:=Fin V.p×Fin V.p×Fin V.p×Nat) (fun x=>TS a x.1 x.2.1 x.2.2.1 x.2.2.2∧x.2.2.2<576) (fun x=>⟨[(0,Pz f),(4,Pz b4),(8,Iz x.2.2.2),(12,Pz b12),(13,Pz b13),(14,Pz b14)],[.blk b12 ⟨true,natL x.2.1.val,33,(0,0)⟩,.blk b13 ⟨true,natL x.1.val,33,(0,0)⟩,.blk b14 ⟨true,natL x.2.2.1.val,33,(0,0)⟩,.blk b4 ⟨true,vec .u64 9 (fun _=>0),33,(0,0)⟩,.blk f ⟨false,fldL V.p bd,165,(0,0)⟩,.blk bd ⟨false,dvL V.p,269,(0,0)⟩]⟩) (fun x=>x.2.2.2) ((fpow a ((o.1+1)/2),fpow (c V.p z) o.1,fpow a o.1,o.2)) (⟨TS.init hs1 om (by rw [hs2]; exact hz3) (by rw [hs2]; exact ha),ho4⟩) (Ka ⟨rfl,rfl,rfl,rfl,rfl,rfl,trivial⟩ mS) ?_
  rintro y ⟨hy1,hy2⟩
  refine KB (KB (rD [] (aD 0 rfl dNa ?_)));refine aO 1 rfl (cF rfl en_159 rfl (fun w hw=>c_one w) ?_);refine aP 2 rfl (KBh kr (fun w=>KBI y.2.2.1.val 1 (Nat.lt_trans y.2.2.1.isLt hpW) one_w9 10000 dc w) rfl rfl) ?_;refine aE ?_
  first|refine KQ rfl (fun h80=>?_) (fun h80=>?_)|refine KR rfl (fun h80=>?_) (fun h80=>?_)
  ·
   have h80:y.2.2.1≠1:=fun h=>by simp [(ne_iff1 hok).2 h] at h80
   refine KM (LCode.block (KB (KA (oP (KO (v:=Iz 0) rfl) (KC (KB (KB (KA (oD dNa ?_)))))))));refine oS (mk (KK zr_33) (fun b16=>?_));refine oT rfl rfl sz_33 ?_;refine KC (LCode.block (Kc (α:=Nat×Nat) (fun x=>∀ j,j<x.1→fpow y.2.2.1 (2^j)≠1) (fun x=>⟨[(0,Pz f),(4,Pz b4),(8,Iz y.2.2.2),(12,Pz b12),(13,Pz b13),(14,Pz b14),(15,Iz x.1),(16,Pz x.2)],[.blk x.2 ⟨true,natL (fpow y.2.2.1 (2^x.1)).val,33,(0,0)⟩,.blk b12 ⟨true,natL y.2.1.val,33,(0,0)⟩,.blk b13 ⟨true,natL y.1.val,33,(0,0)⟩,.blk b14 ⟨true,natL y.2.2.1.val,33,(0,0)⟩,.blk b4 ⟨true,vec .u64 9 (fun _=>0),33,(0,0)⟩,.blk f ⟨false,fldL V.p bd,165,(0,0)⟩,.blk bd ⟨false,dvL V.p,269,(0,0)⟩]⟩) (fun x=>y.2.2.2-x.1) ((0,b16)) (fun j hj=>absurd hj (Nat.not_lt_zero _)) (KAD (Sub.cells (b:=b16) (cs':=natL (fpow y.2.2.1 (2^0)).val) mT (by rw [Nat.pow_zero,fpow_one])) (Ka ⟨rfl,rfl,rfl,rfl,rfl,rfl,rfl,rfl,trivial⟩ mS)) ?_))
   rintro k hk
   refine KB (KB ?_)
   have hkm0:=TS.less hok.fld.dom hy1 hk
   refine rD [] (aD 0 rfl dNa ?_);refine aO 1 rfl (cF rfl en_159 rfl (fun w hw=>c_one w) ?_);refine aP 2 rfl (KBh kr (fun w=>KBI (fpow y.2.2.1 (2^k.1)).val 1 (Nat.lt_trans (fpow y.2.2.1 (2^k.1)).isLt hpW) one_w9 10000 dc w) rfl rfl) ?_;refine aE ?_
   first|refine KQ rfl (fun h84=>?_) (fun h84=>?_)|refine KR rfl (fun h84=>?_) (fun h84=>?_)
   ·
    have h84:fpow y.2.2.1 (2^k.1)≠1:=fun h=>by simp [(ne_iff1 hok).2 h] at h84
    refine KM (KB (LCode.block (KA (oM ?_))));refine oP (KG rfl rfl (Kj (b:=1) om)) (oA (KC (KB (KB (KA ?_)))));refine oD dNa ?_;refine KC (KA (oS (mk (KK zr_33) (fun b16=>?_))));refine oT rfl rfl sz_33 ?_;refine KC (KA (oM ?_));refine oD dNa ?_;refine oD dNa ?_;refine oS (cF rfl en_97 rfl (fun w hw=>KAa V hok f bd _ _ w (mC hw) (mC hw)) ?_);refine oT rfl rfl sz_33 ?_;refine KC ?_
    have hk':∀ j,j<k.1+1→fpow y.2.2.1 (2^j)≠1:=fun j hj=>by
      rcases Nat.lt_or_eq_of_le (Nat.le_of_lt_succ hj) with h|rfl
      · exact hk j h
      · exact h84
    have hkm:=TS.less hok.fld.dom hy1 hk'
    exact ⟨(k.1+1,b16),hk',by dsimp only; omega,KAD (Sub.cells (b:=b16) (cs':=natL (fpow y.2.2.1 (2^(k.1+1))).val) mT (by rw [fpow_succ2])) (Ka ⟨rfl,rfl,rfl,rfl,rfl,rfl,rfl,rfl,trivial⟩ mS)⟩
   have h84:fpow y.2.2.1 (2^k.1) = 1:=(ne_iff1 hok).1 (by simpa using h84)
   refine Kb (KB ?_)
   obtain ⟨hn1,hn2,-⟩:=TS.next hok.fld.dom hy1 h80 hk h84
   refine KA (oD dNa ?_);refine oS (mk (KK zr_33) (fun b17=>?_));refine oT rfl rfl sz_33 ?_;refine KC (KB (KB (KA (oM (oM ?_)))));refine oP (KG (v:=Iz ((y.2.2.2-k.1))) rfl rfl ((KBs om om).trans (by congr 2; omega))) ?_;refine oP (KG (v:=Iz ((y.2.2.2-k.1-1))) rfl rfl ((KBs om om).trans (by congr 2; omega))) ?_;refine oP (Kf (v:=Iz 0) rfl) (KC (LCode.block (Kc (α:=Nat) (fun x=>x≤y.2.2.2-k.1-1) (fun x=>⟨[(0,Pz f),(4,Pz b4),(8,Iz y.2.2.2),(12,Pz b12),(13,Pz b13),(14,Pz b14),(15,Iz k.1),(17,Pz b17),(96,Iz ((y.2.2.2-k.1-1))),(97,Iz x)],[.blk b17 ⟨true,natL (fpow y.2.1 (2^x)).val,33,(0,0)⟩,.blk b12 ⟨true,natL y.2.1.val,33,(0,0)⟩,.blk b13 ⟨true,natL y.1.val,33,(0,0)⟩,.blk b14 ⟨true,natL y.2.2.1.val,33,(0,0)⟩,.blk b4 ⟨true,vec .u64 9 (fun _=>0),33,(0,0)⟩,.blk f ⟨false,fldL V.p bd,165,(0,0)⟩,.blk bd ⟨false,dvL V.p,269,(0,0)⟩]⟩) (fun x=>y.2.2.2-k.1-1-x) (0) (Nat.zero_le _) (KAD (Sub.cells (b:=b17) (cs':=natL (fpow y.2.1 (2^0)).val) mT (by rw [Nat.pow_zero,fpow_one])) (Ka ⟨rfl,rfl,rfl,rfl,rfl,rfl,rfl,rfl,rfl,rfl,trivial⟩ mS)) ?_)))
   rintro i hi
   refine KB (KA (oP (KG rfl rfl (KAA)) (KC (KB ?_))))
   first|refine KQ rfl (fun h98=>?_) (fun h98=>?_)|refine KR rfl (fun h98=>?_) (fun h98=>?_)
   ·
    refine KM (KB (LCode.block (KA (oM ?_))));refine oD dNa ?_;refine oD dNa ?_;refine oS (cF rfl en_97 rfl (fun w hw=>KAa V hok f bd _ _ w (mC hw) (mC hw)) ?_);refine oT rfl rfl sz_33 ?_;refine KC (KA (oP (KG rfl rfl (Kj (b:=1) om)) (oM (KC ?_))))
    exact ⟨i+1,by omega,by omega,KAD (Sub.cells (b:=b17) (cs':=natL (fpow y.2.1 (2^(i+1))).val) mT (by rw [fpow_succ2])) (Ka ⟨rfl,rfl,rfl,rfl,rfl,rfl,rfl,rfl,rfl,rfl,trivial⟩ mS)⟩
   refine Kb (KB ?_)
   obtain rfl:i = y.2.2.2-k.1-1:=by omega
   refine rD [8,9] (aM 0 ?_);refine aD 1 rfl dNa ?_;refine aD 2 rfl dNa ?_;refine aM 4 ?_;refine KAq [7,8,9] 5 rfl kr (Nb rfl) dNa ?_;refine KAq [7,8,9] 6 rfl kr (Nb rfl) dNa ?_;refine aO 3 rfl (cF rfl en_97 rfl (fun w hw=>KAa V hok f bd _ _ w (mC hw) (mC hw)) ?_);refine aO 7 rfl (cF rfl en_97 rfl (fun w hw=>KAa V hok f bd _ _ w (mC hw) (mC hw)) ?_);refine aL 8 rfl (sA rfl rfl sz_33 mO (hl:=mL) (h:=?_));refine aL 9 rfl (sA rfl rfl sz_33 mO (hl:=mL) (h:=?_));refine aE (KA (oM ?_));refine oD dNa ?_;refine oD dNa ?_;refine oS (cF rfl en_97 rfl (fun w hw=>KAa V hok f bd _ _ w (mC hw) (mC hw)) ?_)
   refine oM ?_;refine oT rfl rfl sz_33 ?_;refine oA (KC ?_)
   obtain ⟨hn1,hn2,hn3⟩:=TS.next hok.fld.dom hy1 h80 hk h84
   exact ⟨(y.1*(fpow y.2.1 (2^(y.2.2.2-k.1-1))),(fpow y.2.1 (2^(y.2.2.2-k.1-1)))*(fpow y.2.1 (2^(y.2.2.2-k.1-1))),y.2.2.1*((fpow y.2.1 (2^(y.2.2.2-k.1-1)))*(fpow y.2.1 (2^(y.2.2.2-k.1-1)))),k.1),⟨hn3,by dsimp only; omega⟩,by dsimp only; omega,Ka ⟨rfl,rfl,rfl,rfl,rfl,rfl,trivial⟩ mS⟩
  have h80:y.2.2.1 = 1:=(ne_iff1 hok).1 (by simpa using h80)
  refine Kb (KB (KA (oD dNa ?_)));refine oT rfl rfl sz_33 ?_;refine KC (KN (⟨[_],.cons ⟨_,_,_,rfl,mM,by exact KD u33 rfl sz_33⟩ .nil,fun a w' hr=>⟨_,⟨y.1,hy1.done h80,rfl⟩,rfl,hr.fr.below⟩⟩))
def sqV (p a:Nat):Value:=match sqN p a with
  | some r=>.tuple #[natV r,.bool true]
  | none=>.tuple #[natV 0,.bool false]
theorem sqV_some {p a r:Nat} (h:sqN p a = some r):sqV p a = .tuple #[natV r,.bool true]:=by unfold sqV; rw [h]
theorem sqV_none {p a:Nat} (h:sqN p a = none):sqV p a = .tuple #[natV 0,.bool false]:=by unfold sqV; rw [h]
theorem c_F_Sqrt (V:Cv) (f bd:Nat) (hok:V.Ok) (a:Fin V.p) (w:World) (hf:(Item.blk f ⟨false,fldL V.p bd,165,(0,0)⟩).holds w) (hbd:(Item.blk bd ⟨false,dvL V.p,269,(0,0)⟩).holds w):CF Tryz.prog 119 [Pz f,natV a.val] w (sqV V.p a.val):=by
  have hbb:=hok.bounds
  have hpW:V.p<W9:=Ks hbb.2.1
  refine KV (N:=44) (rs:=[.cell 4 33,.tmp 5]) [.blk f ⟨false,fldL V.p bd,165,(0,0)⟩,.blk bd ⟨false,dvL V.p,269,(0,0)⟩] Tryz.func119 rfl Tryz.ntmps119 Tryz.results119 (Nb rfl) ⟨hf,hbd,trivial⟩ rfl ?_
  refine KB (KA (oS (mB (fun b3=>?_))));refine oS (mk (KK zr_33) (fun b4=>?_));refine oA (KC (KB (KB (KA ?_))));refine oD dNa ?_;refine oP (KJ (KX pl_33 zr_33 rfl rfl) (show _ = natV 0 by unfold natV natL; rw [← vec_zeros 9])) ?_;refine oP (KBw kr (fun w=>KBI a.val 0 (Nat.lt_trans a.isLt hpW) KCC 10000 dc w) rfl rfl) ?_;refine KC ?_
  first|refine KQ rfl (fun h11=>?_) (fun h11=>?_)|refine KR rfl (fun h11=>?_) (fun h11=>?_)
  ·
   have h11:a.val = 0:=by simpa using h11
   refine KB (KA (oD dNa ?_));refine oT rfl rfl sz_33 ?_;refine oA (KC (KN ?_));refine eN (.cons ⟨_,_,_,rfl,mM,by exact KD u33 rfl sz_33⟩ (.cons rfl .nil)) ?_
   rw [h11,sqV_some (sqN_zero om)]
   rfl
  have h11:a≠0:=fun h=>by rw [h] at h11; simp at h11
  refine KM (KB (rD [10] (aM 0 ?_)));refine aP 1 rfl (KF rfl) (aP 2 rfl (KE (o':=0) u165 rfl rfl rfl sz_33 dc) (aD 3 rfl (dL rfl (hv:=by exact Kh u33 rfl sz_33 rfl (KL _))) ?_));refine KAR ?_;refine Kl 9 rfl (.inl zr_33) (Nb rfl) rfl rfl rfl ?_;refine LAnyP.step 4 rfl rfl rfl (Nb rfl) kr rfl (Ke (first:=[]) rfl en_159 rfl (fun w hw=>c_one w)) ?_
  rintro _ _ ⟨rfl,rfl⟩
  refine LAnyP.step 5 rfl rfl rfl (Nb rfl) kr rfl (Ke (first:=[]) rfl en_79 rfl (fun w hw=>KCz V.p 1 w hpW om)) ?_
  rintro _ _ ⟨rfl,rfl⟩
  refine pM 6 ?_;refine pP 7 rfl (Det.extract rfl rfl) (pP 8 rfl (Det.extract rfl rfl) (pE (fun b6=>?_)));refine Kv ?_;refine aL 10 rfl (sA rfl rfl sz_33 mO (hl:=mL) (h:=?_));refine aA 11 ?_;refine aE (KB (KB (rD [] (aM 0 ?_))));refine aP 1 rfl (KF rfl) (aP 2 rfl (KE (o':=9) u165 rfl rfl rfl KBo dc) (aD 3 rfl (dL rfl (hv:=by exact LoadV.last u163 rfl KBo rfl (KL _) rfl)) ?_));refine aD 4 rfl dNa ?_;refine aD 5 rfl dNa ?_;refine aO 6 rfl (cF rfl en_161 rfl (fun w hw=>c_half (V.p-1) om w) ?_);refine aO 7 rfl (cF rfl en_160 rfl (fun w hw=>c_F_Pow V hok bd a ((V.p-1)/2) w (mC hw) om) ?_);refine aO 8 rfl (cF rfl en_159 rfl (fun w hw=>c_one w) ?_);refine aP 9 rfl (KBh kr (fun w=>KBI (fpow a ((V.p-1)/2)).val 1 (Nat.lt_trans (fpow a ((V.p-1)/2)).isLt hpW) one_w9 10000 dc w) rfl rfl) ?_
  refine aE ?_
  first|refine KQ rfl (fun h31=>?_) (fun h31=>?_)|refine KR rfl (fun h31=>?_) (fun h31=>?_)
  ·
   have h31:fpow a ((V.p-1)/2)≠1:=fun h=>by simp [(ne_iff1 hok).2 h] at h31
   refine KB (KA ?_);refine oP (KJ (KX pl_33 zr_33 rfl rfl) (show _ = natV 0 by unfold natV natL; rw [← vec_zeros 9])) ?_;refine oT rfl rfl sz_33 ?_;refine oA (KC (KN ?_));refine eN (.cons ⟨_,_,_,rfl,mM,by exact KD u33 rfl sz_33⟩ (.cons rfl .nil)) ?_
   rw [sqV_none (sqN_no hok h11 h31)]
   rfl
  have h31:fpow a ((V.p-1)/2) = 1:=(ne_iff1 hok).1 (by simpa using h31)
  refine KM (KB (KA (oM ?_)));refine oD dNa ?_;refine oS (KDK (first:=[]) rfl en_162 rfl (Nb rfl) (fun w hw=>c_root V f bd hok a w (mC hw) (mC hw) h31) ?_)
  rintro _ ⟨x,hx,rfl⟩
  refine oS (mk (KK zr_33) (fun b8=>?_));refine oT rfl rfl sz_33 ?_;refine KC (KB (KB (KA (oD dNa ?_))));refine oS (cF rfl en_57 rfl (fun w hw=>KCp x.val 0 (Nat.lt_trans x.isLt hpW) dc w) ?_);refine oP (KG rfl rfl (Ku (b:=1))) (KC ?_)
  first|refine KQ rfl (fun h38=>?_) (fun h38=>?_)|refine KR rfl (fun h38=>?_) (fun h38=>?_)
  ·
   have h38:x.val/2^0%2 = 1:=h38
   rw [Nat.pow_zero,Nat.div_one] at h38
   refine KA (oM ?_);refine oP (KJ (KX pl_33 zr_33 rfl rfl) (show _ = natV 0 by unfold natV natL; rw [← vec_zeros 9])) ?_;refine oD dNa ?_;refine oS (cF rfl KDG rfl (fun w hw=>KCb V hok f bd 0 x w (mC hw)) ?_);refine oT rfl rfl sz_33 ?_;refine KC (KB (KA (oD dNa ?_)));refine oT rfl rfl sz_33 ?_;refine oA (KC (KN ?_));refine eN (.cons ⟨_,_,_,rfl,mM,by exact KD u33 rfl sz_33⟩ (.cons rfl .nil)) ?_
   rw [← hx,sqV_some (sqN_eq hok.fld (p_odd hok) x),evenR,if_pos h38]
   rfl
  have h38:¬ x.val/2^0%2 = 1:=h38
  rw [Nat.pow_zero,Nat.div_one] at h38
  refine KM (KB (KA (oD dNa ?_)));refine oT rfl rfl sz_33 ?_;refine oA (KC (KN ?_));refine eN (.cons ⟨_,_,_,rfl,mM,by exact KD u33 rfl sz_33⟩ (.cons rfl .nil)) ?_
  rw [← hx,sqV_some (sqN_eq hok.fld (p_odd hok) x),evenR,if_neg h38]
  rfl
open Grp
theorem Brings.own {w w':World} {H:List Item} {b:Nat} {cs:List Value} {e:TypeId} (hb:Below w.heap.size w w') (h:(Item.blk b ⟨true,cs,e,(0,0)⟩).holds w') (hn:w.heap.size≤b):Brings w H [.blk b ⟨true,cs,e,(0,0)⟩] w' :=
  ⟨hb,(by intro x hx; simp at hx; subst hx; exact h),(by intro x hx k hk; simp at hx; subst hx; simp [Item.fp] at hk; subst hk; exact .inl hn),(by intro x hx _ k hk; simp at hx; subst hx; simp [Item.fp] at hk; subst hk; exact hn),List.pairwise_singleton _ _⟩
open Grp
theorem xG {V:Cv} (hok:V.Ok):xv V.G = V.x:=val_c hok.bounds.2.2.2.2.1
theorem yG {V:Cv} (hok:V.Ok):yv V.G = V.y:=val_c hok.bounds.2.2.2.2.2.1
open Grp
theorem Det.indexArrN {P : Program} {C : Ctx} {st : St} {d : Option Tmp} {ty : TypeId} {pos : String} {aft : Array Edge} {g : Option (Nat × Bool)} {t : TypeId} {x y : Operand} {n s : Nat} {e : TypeId} {k : IntKind} {i : Nat} {b o : Nat} (ht : P.underlying t = some (.array n e)) (he : szOf P e = some s) (hx : evT st.T x = some (.pointer (some ⟨b, o, none⟩)))
    (hy:evT st.T y = some (.int k (i:Int))) (h1:i<n):Slots P C ⟨d,.indexAddr t x y,ty,pos,aft,g⟩ st (.pointer (some ⟨b,o+i*s,none⟩)):=by
  unfold Slots
  intro a w hr
  have hb:(0≤(i:Int)∧(i:Int)<(n:Int)):=⟨by omega,by omega⟩
  simp [execOp,hr _ _ hx,hr _ _ hy,Instr.indexAt,asIntOf,run_underlying ht,Instr.sureAddr,hb,KBA he,Addr.add,h1]
theorem g_val {V:Cv} (hok:V.Ok):Value.agg (ptL V.x V.y false).toArray = ptP V.G:=by
  unfold ptP ptV
  rw [xG hok,yG hok]
  rfl
theorem c_cOnB (V:Cv) (b f bd:Nat) (hok:V.Ok) (X Y:Nat) (i r:Bool) (w:World) (hb:(Item.blk b ⟨false,opL V f,100,(0,0)⟩).holds w) (hf:(Item.blk f ⟨false,fldL V.p bd,165,(0,0)⟩).holds w) (hbd:(Item.blk bd ⟨false,dvL V.p,269,(0,0)⟩).holds w) (hX:X<W9) (hY:Y<W9) (hr:onB V.p V.a V.b X Y i = r):CF Tryz.prog 55 [Pz b,ptV X Y i] w (.bool r):=by
  have:=c_cOn V b f bd hok X Y i w hb hf hbd hX hY
  rwa [hr] at this
theorem c_cOnP (V:Cv) (b f bd:Nat) (hok:V.Ok) (P:Pt V.p) (w:World) (hb:(Item.blk b ⟨false,opL V f,100,(0,0)⟩).holds w) (hf:(Item.blk f ⟨false,fldL V.p bd,165,(0,0)⟩).holds w) (hbd:(Item.blk bd ⟨false,dvL V.p,269,(0,0)⟩).holds w) (hP:On V.A V.B P):CF Tryz.prog 55 [Pz b,ptP P] w (.bool true) :=
  c_cOnB V b f bd hok (xv P) (yv P) (iv P) true w hb hf hbd (pt_w9 hok P).1 (pt_w9 hok P).2 (onB_on hP)
theorem KAC {p:Nat} (T:Fin p×Fin p×Fin p):(pjFL T).length = 27:=KBx _ _ _
theorem KBK {p:Nat} (T:Fin p×Fin p×Fin p):KBT (pjFL T):=pjL_one _ _ _
def arr4 {p:Nat} (a b c d:Fin p×Fin p×Fin p):List Value:=pjFL a++(pjFL b++(pjFL c++pjFL d))
theorem arr4_length {p:Nat} (a b c d:Fin p×Fin p×Fin p):(arr4 a b c d).length = 108:=by simp [arr4,KAC]
theorem arr4_one {p:Nat} (a b c d:Fin p×Fin p×Fin p):KBT (arr4 a b c d):=KAd (KBK _) (KAd (KBK _) (KAd (KBK _) (KBK _)))
theorem fill_arr4 {p:Nat} (a b c d:Fin p×Fin p×Fin p):fillL ((List.range 4).map fun i=>(i*27,27)) (vec .u64 9 (fun _=>0)++(vec .u64 9 (fun _=>0)++(vec .u64 9 (fun _=>0)++(vec .u64 9 (fun _=>0)++(vec .u64 9 (fun _=>0)++(vec .u64 9 (fun _=>0)++(vec .u64 9 (fun _=>0)++(vec .u64 9 (fun _=>0)++(vec .u64 9 (fun _=>0)++(vec .u64 9 (fun _=>0)++(vec .u64 9 (fun _=>0)++(vec .u64 9 (fun _=>0))))))))))))) [(0,pjF a),(1,pjF b),(2,pjF c),(3,pjF d)] = some (arr4 a b c d):=by
  refine KAK (A:=[]) (B:=vec .u64 9 (fun _=>0)++(vec .u64 9 (fun _=>0)++(vec .u64 9 (fun _=>0)))) (D:=vec .u64 9 (fun _=>0)++(vec .u64 9 (fun _=>0)++(vec .u64 9 (fun _=>0)++(vec .u64 9 (fun _=>0)++(vec .u64 9 (fun _=>0)++(vec .u64 9 (fun _=>0)++(vec .u64 9 (fun _=>0)++(vec .u64 9 (fun _=>0)++(vec .u64 9 (fun _=>0)))))))))) (cs:=pjFL a) rfl rfl (KAC _) (by simp only [List.append_assoc,List.nil_append,List.append_nil]) rfl (by simp [KU]) ?_;refine KAK (A:=pjFL a) (B:=vec .u64 9 (fun _=>0)++(vec .u64 9 (fun _=>0)++(vec .u64 9 (fun _=>0)))) (D:=vec .u64 9 (fun _=>0)++(vec .u64 9 (fun _=>0)++(vec .u64 9 (fun _=>0)++(vec .u64 9 (fun _=>0)++(vec .u64 9 (fun _=>0)++(vec .u64 9 (fun _=>0))))))) (cs:=pjFL b) rfl rfl (KAC _) (by simp only [List.append_assoc,List.nil_append,List.append_nil]) (KAC _) (by simp [KU]) ?_;refine KAK (A:=pjFL a++pjFL b) (B:=vec .u64 9 (fun _=>0)++(vec .u64 9 (fun _=>0)++(vec .u64 9 (fun _=>0)))) (D:=vec .u64 9 (fun _=>0)++(vec .u64 9 (fun _=>0)++(vec .u64 9 (fun _=>0)))) (cs:=pjFL c) rfl rfl (KAC _) (by simp only [List.append_assoc,List.nil_append,List.append_nil]) (by simp [KAC]) (by simp [KU]) ?_
  refine (KAK (A:=pjFL a++(pjFL b++pjFL c)) (B:=vec .u64 9 (fun _=>0)++(vec .u64 9 (fun _=>0)++(vec .u64 9 (fun _=>0)))) (D:=[]) (cs:=pjFL d) rfl rfl (KAC _) (by simp only [List.append_assoc,List.nil_append,List.append_nil]) (by simp [KAC]) (by simp [KU]) rfl).trans ?_
  simp [arr4]
theorem arr4_1 {p:Nat} (a b c d:Fin p×Fin p×Fin p) (wr:Bool) (e:TypeId) (fz:Nat×Nat):LoadV Tryz.prog 135 ⟨wr,arr4 a b c d,e,fz⟩ 27 (pjF b):=KAg (pre:=pjFL a) (cs:=pjFL b) (post:=pjFL c++pjFL d) u135 rfl KAN rfl (KAC _) (KAC _)
theorem arr4_2 {p:Nat} (a b c d:Fin p×Fin p×Fin p) (wr:Bool) (e:TypeId) (fz:Nat×Nat):LoadV Tryz.prog 135 ⟨wr,arr4 a b c d,e,fz⟩ 54 (pjF c):=KAg (pre:=pjFL a++pjFL b) (cs:=pjFL c) (post:=pjFL d) u135 rfl KAN (by simp [arr4]) (by simp [KAC]) (KAC _)
theorem arr4_3 {p:Nat} (a b c d:Fin p×Fin p×Fin p) (wr:Bool) (e:TypeId) (fz:Nat×Nat):LoadV Tryz.prog 135 ⟨wr,arr4 a b c d,e,fz⟩ 81 (pjF d):=LoadV.last (pre:=pjFL a++(pjFL b++pjFL c)) (cs:=pjFL d) u135 rfl KAN (by simp [arr4]) (by simp [KAC]) (KAC _)
noncomputable def dualP (V:Cv) (U W:Nat) (Q:Pt V.p):Pt V.p:=padd V.A (pmul V.A V.G U) (pmul V.A Q W)
theorem dual_step {V:Cv} (hok:V.Ok) {Q:Pt V.p} (hQ:On V.A V.B Q) {U W y bu bv:Nat} {T Tk:Fin V.p×Fin V.p×Fin V.p} (h1:U/2^y%2 = bu) (h2:W/2^y%2 = bv) (hT:RepT V T (dualP V (U/2^(y+1)) (W/2^(y+1)) Q)) (hk:RepT V Tk (dualP V bu bv Q)):RepT V (sumT V (sumT V T T) Tk) (dualP V (U/2^y) (W/2^y) Q):=by
  have:=RepT.sum hok (RepT.sum hok hT hT) hk
  subst h1 h2
  unfold dualP at *
  rwa [hok.dual_bit hok.on hQ] at this
theorem dual_zero {V:Cv} (hok:V.Ok) {Q:Pt V.p} (hQ:On V.A V.B Q) {U W y:Nat} {T:Fin V.p×Fin V.p×Fin V.p} (h1:U/2^y%2 = 0) (h2:W/2^y%2 = 0) (hT:RepT V T (dualP V (U/2^(y+1)) (W/2^(y+1)) Q)):RepT V (sumT V T T) (dualP V (U/2^y) (W/2^y) Q):=by
  have h:=RepT.sum hok hT hT
  have e:=hok.dual_bit hok.on hQ U W y
  rw [h1,h2,KDY,KDY,hok.add_inf (show On V.A V.B (.inf:Pt V.p) from trivial)] at e
  unfold dualP at *
  rw [hok.add_inf (hok.sum (hok.sum (hok.mul hok.on _) (hok.mul hQ _)) (hok.sum (hok.mul hok.on _) (hok.mul hQ _)))] at e
  rwa [e] at h
theorem dual_10 {V:Cv} (hok:V.Ok) {Q:Pt V.p} (hQ:On V.A V.B Q):RepT V (tripF V.G) (dualP V 1 0 Q):=by
  unfold dualP
  rw [pmul_one hok.fld hok.on,KDY,hok.add_inf hok.on]
  exact KBZ hok hok.on
theorem dual_01 {V:Cv} (hok:V.Ok) {Q:Pt V.p} (hQ:On V.A V.B Q):RepT V (tripF Q) (dualP V 0 1 Q):=by
  unfold dualP
  rw [pmul_one hok.fld hQ,KDY,hok.inf_add hQ]
  exact KBZ hok hQ
theorem dual_11 {V:Cv} (hok:V.Ok) {Q:Pt V.p} (hQ:On V.A V.B Q):RepT V (sumT V (tripF V.G) (tripF Q)) (dualP V 1 1 Q):=by
  unfold dualP
  rw [pmul_one hok.fld hQ,pmul_one hok.fld hok.on]
  exact RepT.sum hok (KBZ hok hok.on) (KBZ hok hQ)
theorem dual_top {V:Cv} (hok:V.Ok) {Q:Pt V.p} {U W:Nat} (hU:U<V.n) (hW:W<V.n):dualP V (U/2^blen V.n) (W/2^blen V.n) Q = .inf:=by
  have hn:=KCM V.n
  unfold dualP
  rw [Nat.div_eq_of_lt (Nat.lt_trans hU hn),Nat.div_eq_of_lt (Nat.lt_trans hW hn),KDY,KDY,hok.add_inf (show On V.A V.B (.inf:Pt V.p) from trivial)]
theorem c_dualTimes (V:Cv) (b f bd:Nat) (hok:V.Ok) (U W:Nat) (Q:Pt V.p) (hQ:On V.A V.B Q) (hU:U<V.n) (hW:W<V.n) (w:World) (hb:(Item.blk b ⟨false,opL V f,100,(0,0)⟩).holds w) (hf:(Item.blk f ⟨false,fldL V.p bd,165,(0,0)⟩).holds w) (hbd:(Item.blk bd ⟨false,dvL V.p,269,(0,0)⟩).holds w):CF Tryz.prog 56 [Pz b,natV U,natV W,ptP Q] w (ptP (dualP V U W Q)):=by
  have hbb:=hok.bounds
  have hnW:V.n<W9:=Ks hbb.2.2.2.2.2.2.1
  have hbl:=KAM hnW
  have hU9:=Nat.lt_trans hU hnW
  have hW9:=Nat.lt_trans hW hnW
  refine KV (N:=65) (rs:=[.cell 8 47]) [.blk b ⟨false,opL V f,100,(0,0)⟩,.blk f ⟨false,fldL V.p bd,165,(0,0)⟩,.blk bd ⟨false,dvL V.p,269,(0,0)⟩] Tryz.func56 rfl Tryz.ntmps56 Tryz.results56 (Nb rfl) ⟨hb,hf,hbd,trivial⟩ rfl ?_
  refine KB (KA (oS (mB (fun b5=>?_))));refine oS (mB (fun b6=>?_));refine oS (mB (fun b7=>?_));refine oS (mk (KK zr_47) (fun b8=>?_));refine KC (KB (rD [10,11] (aM 0 ?_)));refine aP 1 rfl (KF rfl) (aP 2 rfl (KE (o':=0) u100 rfl rfl rfl sz_53 dc) (aP 3 rfl (KE (o':=37) u53 rfl rfl rfl sz_47 dc) (aD 4 rfl (KBL (dL rfl (hv:=by exact cvC_ld_g _ _ _ _ _ _ _ _ _ _ _ _ _ _ _ _)) (g_val hok)) ?_)));refine KAq [7,10,11] 6 rfl kr (Nb rfl) dNb ?_;refine KAR ?_;refine Kl 8 rfl (.inl KDO) (Nb rfl) rfl rfl rfl ?_;refine Kl 9 rfl (.inl KDO) (Nb rfl) rfl rfl rfl ?_;refine LAnyP.step 5 rfl rfl rfl (Nb rfl) kr rfl (Ke (first:=[]) rfl en_67 rfl (fun w hw=>c_Triple V hok V.G w)) ?_
  rintro _ _ ⟨rfl,rfl⟩
  refine LAnyP.step 7 rfl rfl rfl (Nb rfl) kr rfl (Ke (first:=[]) rfl en_67 rfl (fun w hw=>c_Triple V hok Q w)) ?_
  rintro _ _ ⟨rfl,rfl⟩
  refine pE (fun b10=>?_);refine pE (fun b9=>?_);refine Kv ?_;refine aL 10 rfl (sA rfl rfl KAN (by exact KBK _) (hl:=by exact KAC _) (h:=?_));refine aL 11 rfl (sA rfl rfl KAN (by exact KBK _) (hl:=by exact KAC _) (h:=?_));refine aE (KB (rD [9] (aD 1 rfl (dL rfl (hv:=by exact KD u135 rfl KAN)) ?_)));refine aD 2 rfl (dL rfl (hv:=by exact KD u135 rfl KAN)) ?_;refine aM 3 ?_;refine aD 4 rfl (dL rfl (hv:=by exact KD u135 rfl KAN)) ?_;refine aD 5 rfl (dL rfl (hv:=by exact KD u135 rfl KAN)) ?_;refine KAR ?_;refine Kl 8 rfl (.inl zr_183) (Nb rfl) rfl rfl rfl ?_;refine LAnyP.step 0 rfl rfl rfl (Nb rfl) kr rfl (Ke (first:=[]) rfl en_99 rfl (fun w hw=>c_NoneF hok w)) ?_
  rintro _ _ ⟨rfl,rfl⟩
  refine LAnyP.step 6 rfl rfl rfl (Nb rfl) kr rfl (Ke (first:=[]) rfl en_100 rfl (fun w hw=>c_SumT V b f bd hok (tripF V.G) (tripF Q) w (mC hw) (mC hw) (mC hw))) ?_
  rintro _ _ ⟨rfl,rfl⟩
  refine pP 7 rfl (KJ (KX pl_183 zr_183 rfl (fill_arr4 _ _ _ _)) rfl) (pE (fun b11=>?_));refine Kv ?_;refine aL 9 rfl (sA rfl rfl sz_183 (by exact arr4_one _ _ _ _) (hl:=by exact arr4_length _ _ _ _) (h:=?_));refine aE (KB (KA (oS (cF rfl en_99 rfl (fun w hw=>c_NoneF hok w) ?_))));refine oS (mk (KK KDO) (fun b12=>?_));refine LOps.step rfl (sA rfl rfl KAN (by exact KBK _) (hl:=by exact KAC _) (h:=?_));refine KC (KB (KB (KA (oM ?_))));refine oP (KF rfl) (oP (KE (o':=0) u100 rfl rfl rfl sz_53 dc) (oP (KE (o':=56) u53 rfl rfl rfl sz_3 dc) (oD (dL rfl (hv:=KI u3 rfl (by exact KDH _ _ _ _ _ _ _ _ _ _ _ _ _))) ?_)));refine oP (KG (v:=.int .i64 (((blen V.n:Nat):Int)-1)) rfl rfl (KBs om om)) (oA (KC (LCode.block ?_)));refine Kc (α:=Nat×(Fin V.p×Fin V.p×Fin V.p)) (fun x=>x.1≤blen V.n∧RepT V x.2 (dualP V (U/2^x.1) (W/2^x.1) Q)) (fun x=>⟨[(0,Pz b),(5,Pz b5),(6,Pz b6),(7,Pz b7),(8,Pz b8),(11,Pz b11),(12,Pz b12),(13,.int .i64 (((x.1:Nat):Int)-1))],[.blk b12 ⟨true,pjFL x.2,135,(0,0)⟩,.blk b11 ⟨true,arr4 (tripF (.inf:Pt V.p)) (tripF V.G) (tripF Q) (sumT V (tripF V.G) (tripF Q)),183,(0,0)⟩,.blk b8 ⟨true,(vec .u64 9 (fun _=>0)++(vec .u64 9 (fun _=>0)++[Value.bool false])),47,(0,0)⟩,.blk b7 ⟨true,ptL (xv Q) (yv Q) (iv Q),47,(0,0)⟩,.blk b6 ⟨true,natL W,33,(0,0)⟩,.blk b5 ⟨true,natL U,33,(0,0)⟩,.blk b ⟨false,opL V f,100,(0,0)⟩,.blk f ⟨false,fldL V.p bd,165,(0,0)⟩,.blk bd ⟨false,dvL V.p,269,(0,0)⟩]⟩) (fun x=>x.1) ((blen V.n,tripF (.inf:Pt V.p))) (⟨Nat.le_refl _,by dsimp only; rw [dual_top hok hU hW]; exact KBZ hok trivial⟩) (Ka ⟨rfl,rfl,rfl,rfl,rfl,rfl,rfl,rfl,trivial⟩ mS) ?_
  rintro x ⟨hx1,hx2⟩
  refine KB (KB ?_)
  rcases Nat.eq_zero_or_pos x.1 with h0|h0
  ·
   refine KA (oM ?_);refine oP (KG (v:=.bool false) rfl rfl (by rw [h0]; rfl)) ?_;refine KC (KH rfl (Kb (KB ?_)))
   have eR:dualP V (U/2^x.1) (W/2^x.1) Q = dualP V U W Q:=by rw [h0,Nat.pow_zero,Nat.div_one,Nat.div_one]
   rw [eR] at hx2
   refine KA (oM ?_);refine oD (dL rfl (hv:=by exact KD u135 rfl KAN)) ?_;refine oS (cF rfl en_65 rfl (fun w hw=>c_PlainT V b f bd hok (x.2) (dualP V U W Q) w (mC hw) (mC hw) (mC hw) (hx2)) ?_);refine oT rfl rfl sz_47 ?_;refine KC (KN (eN (.cons ⟨_,_,_,rfl,mM,by exact KD u47 rfl sz_47⟩ .nil) ?_))
   rfl
  obtain ⟨y,hy⟩:∃ y,x.1 = y+1:=⟨x.1-1,by omega⟩
  rw [hy] at hx2
  refine KA (oM ?_);refine oP (KG (v:=.bool true) rfl rfl (by rw [hy]; simp [Kp] <;> omega)) ?_;refine KC (KS rfl (KM (KB (LCode.block (KB (KA (oM ?_)))))));refine oD (dL rfl (hv:=by exact KD u135 rfl KAN)) ?_;refine oD (dL rfl (hv:=by exact KD u135 rfl KAN)) ?_;refine oS (cF rfl en_100 rfl (fun w hw=>c_SumT V b f bd hok (x.2) (x.2) w (mC hw) (mC hw) (mC hw)) ?_);refine LOps.step rfl (sA rfl rfl KAN (by exact KBK _) (hl:=by exact KAC _) (h:=?_));refine KC (KB (rD [] (aD 0 rfl dNa ?_)));refine aP 1 rfl (Kf (v:=Iz y) (by show some _ = some _; congr 2; omega)) ?_;refine aD 3 rfl dNa ?_;refine aP 4 rfl (Kf (v:=Iz y) (by show some _ = some _; congr 2; omega)) ?_;refine aO 2 rfl (cF rfl en_57 rfl (fun w hw=>KCp U y hU9 om w) ?_);refine aO 5 rfl (cF rfl en_57 rfl (fun w hw=>KCp W y hW9 om w) ?_)
  refine aP 6 rfl (KG rfl rfl (KCB (a:=2) om)) (aP 7 rfl (KG rfl rfl (Kj om)) (aA 8 ?_));refine aE (KB ?_)
  rcases (show (U/2^y%2 = 0∧W/2^y%2 = 0)∨(U/2^y%2 = 1∧W/2^y%2 = 0)∨(U/2^y%2 = 0∧W/2^y%2 = 1)∨(U/2^y%2 = 1∧W/2^y%2 = 1) by omega) with ⟨k1,k2⟩|⟨k1,k2⟩|⟨k1,k2⟩|⟨k1,k2⟩
  ·
   refine KA ?_;refine oP (Kf (v:=Iz 0) (by show some _ = some _; congr 2; omega)) ?_;refine oP (bF rfl rfl (KAb (b:=0)) dc) (KC (KH rfl (KM (KA ?_))));refine oP (Kf (v:=Iz y) (by show some _ = some _; congr 2; omega)) ?_;refine oP (KG (v:=.int .i64 (((y:Nat):Int)-1)) rfl rfl (KBs om om)) (oA (KC ?_))
   exact ⟨(y,sumT V x.2 x.2),⟨by dsimp only; omega,dual_zero hok hQ k1 k2 hx2⟩,by dsimp only; omega,Ka ⟨rfl,rfl,rfl,rfl,rfl,rfl,rfl,rfl,trivial⟩ mS⟩
  ·
   refine KA ?_;refine oP (Kf (v:=Iz 1) (by show some _ = some _; congr 2; omega)) ?_;refine oP (bT rfl rfl (KAb (b:=0)) dc) (KC (KS rfl (rD [6] (aM 0 ?_))));refine aD 1 rfl (dL rfl (hv:=by exact KD u135 rfl KAN)) ?_;refine aP 2 rfl (Kf (v:=Iz 1) (by show some _ = some _; congr 2; omega)) ?_;refine aP 3 rfl (Det.indexArrN u183 KAN rfl rfl dc) (aD 4 rfl (dL rfl (hv:=by exact arr4_1 _ _ _ _ _ _ _)) ?_);refine aO 5 rfl (cF rfl en_100 rfl (fun w hw=>c_SumT V b f bd hok (sumT V x.2 x.2) (tripF V.G) w (mC hw) (mC hw) (mC hw)) ?_);refine aL 6 rfl (sA rfl rfl KAN (by exact KBK _) (hl:=by exact KAC _) (h:=?_));refine aE (KA ?_);refine oP (Kf (v:=Iz y) (by show some _ = some _; congr 2; omega)) ?_;refine oP (KG (v:=.int .i64 (((y:Nat):Int)-1)) rfl rfl (KBs om om)) (oA (KC ?_))
   exact ⟨(y,sumT V (sumT V x.2 x.2) (tripF V.G)),⟨by dsimp only; omega,dual_step hok hQ k1 k2 hx2 (dual_10 hok hQ)⟩,by dsimp only; omega,Ka ⟨rfl,rfl,rfl,rfl,rfl,rfl,rfl,rfl,trivial⟩ mS⟩
  ·
   refine KA ?_;refine oP (Kf (v:=Iz 2) (by show some _ = some _; congr 2; omega)) ?_;refine oP (bT rfl rfl (KAb (b:=0)) dc) (KC (KS rfl (rD [6] (aM 0 ?_))));refine aD 1 rfl (dL rfl (hv:=by exact KD u135 rfl KAN)) ?_;refine aP 2 rfl (Kf (v:=Iz 2) (by show some _ = some _; congr 2; omega)) ?_;refine aP 3 rfl (Det.indexArrN u183 KAN rfl rfl dc) (aD 4 rfl (dL rfl (hv:=by exact arr4_2 _ _ _ _ _ _ _)) ?_);refine aO 5 rfl (cF rfl en_100 rfl (fun w hw=>c_SumT V b f bd hok (sumT V x.2 x.2) (tripF Q) w (mC hw) (mC hw) (mC hw)) ?_);refine aL 6 rfl (sA rfl rfl KAN (by exact KBK _) (hl:=by exact KAC _) (h:=?_));refine aE (KA ?_);refine oP (Kf (v:=Iz y) (by show some _ = some _; congr 2; omega)) ?_;refine oP (KG (v:=.int .i64 (((y:Nat):Int)-1)) rfl rfl (KBs om om)) (oA (KC ?_))
   exact ⟨(y,sumT V (sumT V x.2 x.2) (tripF Q)),⟨by dsimp only; omega,dual_step hok hQ k1 k2 hx2 (dual_01 hok hQ)⟩,by dsimp only; omega,Ka ⟨rfl,rfl,rfl,rfl,rfl,rfl,rfl,rfl,trivial⟩ mS⟩
  refine KA ?_;refine oP (Kf (v:=Iz 3) (by show some _ = some _; congr 2; omega)) ?_;refine oP (bT rfl rfl (KAb (b:=0)) dc) (KC (KS rfl (rD [6] (aM 0 ?_))));refine aD 1 rfl (dL rfl (hv:=by exact KD u135 rfl KAN)) ?_;refine aP 2 rfl (Kf (v:=Iz 3) (by show some _ = some _; congr 2; omega)) ?_;refine aP 3 rfl (Det.indexArrN u183 KAN rfl rfl dc) (aD 4 rfl (dL rfl (hv:=by exact arr4_3 _ _ _ _ _ _ _)) ?_);refine aO 5 rfl (cF rfl en_100 rfl (fun w hw=>c_SumT V b f bd hok (sumT V x.2 x.2) (sumT V (tripF V.G) (tripF Q)) w (mC hw) (mC hw) (mC hw)) ?_);refine aL 6 rfl (sA rfl rfl KAN (by exact KBK _) (hl:=by exact KAC _) (h:=?_));refine aE (KA ?_);refine oP (Kf (v:=Iz y) (by show some _ = some _; congr 2; omega)) ?_;refine oP (KG (v:=.int .i64 (((y:Nat):Int)-1)) rfl rfl (KBs om om)) (oA (KC ?_))
  exact ⟨(y,sumT V (sumT V x.2 x.2) (sumT V (tripF V.G) (tripF Q))),⟨by dsimp only; omega,dual_step hok hQ k1 k2 hx2 (dual_11 hok hQ)⟩,by dsimp only; omega,Ka ⟨rfl,rfl,rfl,rfl,rfl,rfl,rfl,rfl,trivial⟩ mS⟩


open Grp
open Grp


open Grp
def pfx (x:Nat):ByteArray:=strOf ((List.range 1).map fun i=>UInt8.ofNat ((fun _=>x) i))
def coB (V:Cv) (X:Nat):ByteArray:=strOf (Kr (nby V.p) X)
def putS (V:Cv) (X Y:Nat) (sh:Bool):ByteArray:=if sh then pfx (2+Y%2)++coB V X else pfx 4++coB V X++coB V Y
def putV (V:Cv) (X Y:Nat) (i sh:Bool):Value:=if (onB V.p V.a V.b X Y i && !i) = true then .tuple #[.string (putS V X Y sh),Iz 0] else .tuple #[.string ⟨#[]⟩,Iz 2101]
theorem putV_off {V:Cv} {X Y:Nat} {i:Bool} (sh:Bool) (h:onB V.p V.a V.b X Y i = false):putV V X Y i sh = .tuple #[.string ⟨#[]⟩,Iz 2101]:=by unfold putV; rw [h]; rfl
theorem putV_inf (V:Cv) (X Y:Nat) (sh:Bool):putV V X Y true sh = .tuple #[.string ⟨#[]⟩,Iz 2101]:=by unfold putV; rw [Bool.not_true,Bool.and_false]; rfl
theorem putV_on {V:Cv} {X Y:Nat} (sh:Bool) (h:onB V.p V.a V.b X Y false = true):putV V X Y false sh = .tuple #[.string (putS V X Y sh),Iz 0]:=by unfold putV; rw [h]; rfl
theorem pfx_mod (y:Nat):pfx ((2+y/2^0%2)%256) = pfx (2+y%2):=by
  rw [Nat.pow_zero,Nat.div_one,Nat.mod_eq_of_lt om]
theorem on_lt {V:Cv} {X Y:Nat} (h:onB V.p V.a V.b X Y false = true):X<V.p∧Y<V.p:=by
  unfold onB at h
  rw [if_neg dc] at h
  simp only [Bool.and_eq_true,decide_eq_true_eq] at h
  exact ⟨h.1,h.2.1⟩
theorem c_cOnV (v:Bool) (V:Cv) (b f bd:Nat) (hok:V.Ok) (X Y:Nat) (i:Bool) (w:World) (hb:(Item.blk b ⟨false,opL V f,100,(0,0)⟩).holds w) (hf:(Item.blk f ⟨false,fldL V.p bd,165,(0,0)⟩).holds w) (hbd:(Item.blk bd ⟨false,dvL V.p,269,(0,0)⟩).holds w) (hX:X<W9) (hY:Y<W9) (h:onB V.p V.a V.b X Y i = v):CF Tryz.prog 55 [Pz b,ptV X Y i] w (.bool v):=h ▸ c_cOn V b f bd hok X Y i w hb hf hbd hX hY
theorem c_s_Put (id:Int) (V:Cv) (X Y:Nat) (i sh:Bool) (w:World) (h:cvI id = some V) (hX:X<W9) (hY:Y<W9):CF Tryz.prog 25 [.int .i64 id,ptV X Y i,.bool sh] w (putV V X Y i sh):=by
  obtain ⟨hok,hid⟩:=KAw h
  have hbb:=hok.bounds
  have hpW:V.p<W9:=Ks hbb.2.1
  have hnW:V.n<W9:=Ks hbb.2.2.2.2.2.2.1
  have hbl:=KAM hnW
  have hnb:nby V.n≤72:=by (unfold nby; omega)
  have hnp:nby V.p≤72:=by have:=KAM (Ks hbb.2.1); (unfold nby; omega)
  refine KV (N:=65) (rs:=[.tmp 6,.tmp 7]) [] Tryz.func25 rfl Tryz.ntmps25 Tryz.results25 (Nb rfl) trivial rfl ?_
  refine KB (KA (oS (mB (fun b4=>?_))));refine oA ?_;refine oP (KO (v:=Iz 0) rfl) (KC (KB (KA (oM ?_))));refine oS (oOpen h rfl rfl (fun b f bd=>?_));refine oA (KC (KB (LCode.block (KB (KA (oM ?_))))));refine oP (KJ (KAI u81 rfl rfl) (show _ = Value.bool false from rfl)) (oA (KC ?_));refine KH rfl (KB ?_)
  rcases (show i = true∨(i = false∧onB V.p V.a V.b X Y false = false)∨(i = false∧onB V.p V.a V.b X Y false = true) by cases i <;> cases onB V.p V.a V.b X Y false <;> simp) with rfl|⟨rfl,h1⟩|⟨rfl,h1⟩
  ·
   refine KA (oP (KE (o':=18) u47 rfl rfl rfl sz_4 dc) (oD (dL rfl (hv:=KI u4 rfl (by exact pt_gt _ _ _))) ?_));refine oM ?_;refine oK (oK (oK (oK (oP (Kd rfl rfl) (oA (KC ?_))))));refine KS rfl (KB (KA (oA ?_)));refine oP (KO (v:=Iz 2101) rfl) (KC (KN (eN (.cons rfl (.cons rfl .nil)) ?_)))
   rw [putV_inf]
   rfl
  ·
   refine KA (oP (KE (o':=18) u47 rfl rfl rfl sz_4 dc) (oD (dL rfl (hv:=KI u4 rfl (by exact pt_gt _ _ _))) ?_));refine oM ?_;refine oGM ?_;refine Kt rfl rfl dNb (Nb rfl) ?_;refine oGS (cF rfl en_55 rfl (fun w hw=>c_cOnV false V b f bd hok X Y false w (mC hw) (mC hw) (mC hw) hX hY h1) ?_);refine oGP (KJ (KAH rfl) (show _ = Value.bool true from rfl)) (oP (KT rfl rfl) (oA (KC ?_)));refine KS rfl (KB (KA (oA ?_)));refine oP (KO (v:=Iz 2101) rfl) (KC (KN (eN (.cons rfl (.cons rfl .nil)) ?_)))
   rw [putV_off sh h1]
   rfl
  refine KA (oP (KE (o':=18) u47 rfl rfl rfl sz_4 dc) (oD (dL rfl (hv:=KI u4 rfl (by exact pt_gt _ _ _))) ?_));refine oM ?_;refine oGM ?_;refine Kt rfl rfl dNb (Nb rfl) ?_;refine oGS (cF rfl en_55 rfl (fun w hw=>c_cOnV true V b f bd hok X Y false w (mC hw) (mC hw) (mC hw) hX hY h1) ?_);refine oGP (KJ (KAH rfl) (show _ = Value.bool false from rfl)) (oP (KT rfl rfl) (oA (KC ?_)));refine KH rfl (KM (KB ?_))
  obtain ⟨hXp,hYp⟩:=on_lt h1
  refine rD [] (aP 0 rfl (KE (o':=0) u47 rfl rfl rfl sz_33 dc) (aD 1 rfl (dL rfl (hv:=by exact Kh u33 rfl sz_33 rfl (KL _))) ?_));refine aM 2 ?_;refine aP 3 rfl (KF rfl) (aP 4 rfl (KE (o':=0) u100 rfl rfl rfl sz_53 dc) (aP 5 rfl (KE (o':=57) u53 rfl rfl rfl sz_3 dc) (aD 6 rfl (dL rfl (hv:=KI u3 rfl (by exact KAl _ _ _ _ _ _ _ _ _ _ _ _ _))) ?_)));refine aO 7 rfl (cF rfl en_47 rfl (fun w hw=>KBg X (nby V.p) w om hnp (nby_le hXp)) ?_);refine aM 8 ?_;refine aP 9 rfl (Det.extract rfl rfl) (aP 10 rfl (Det.extract rfl rfl) (aA 11 ?_));refine aA 12 ?_;refine aE (KB (KB (KA (oM (KC ?_)))))
  first|refine KQ rfl (fun hsh=>?_) (fun hsh=>?_)|refine KR rfl (fun hsh=>?_) (fun hsh=>?_)
  ·
   subst hsh
   refine KB (KA (oP (KE (o':=9) u47 rfl rfl rfl sz_33 dc) (oD (dL rfl (hv:=by exact KCN _ _ _ _ _ _)) ?_)));refine oS (cF rfl en_57 rfl (fun w hw=>KCp Y 0 hY dc w) ?_);refine oP (KG rfl rfl (Kj (a:=2) om)) (oP (KAV u3 u5 rfl) (oS (mk (KAP u70 inf_5 rfl rfl rfl rfl dc rfl) (fun b44=>?_))));refine oD (KBS (f:=fun _=>(2+Y/2^0%2)%256) u70 u5 u9 rfl mM (by rfl)) ?_;refine oM ?_;refine oP (KAh rfl rfl (by have h2:=KAs (nby V.p) X; have h3:=KAs (nby V.p) Y; have h4:∀ x,(strOf ((List.range 1).map fun i=>UInt8.ofNat ((fun _=>x) i))).size = 1:=fun _=>rfl; have h5:(⟨#[4]⟩:ByteArray).size = 1:=rfl; try simp only [ByteArray.size_append,h4,h2,h3,h5]; omega)) ?_;refine oA ?_;refine oP (KO (v:=Iz 0) rfl) (KC (KN (eN (.cons rfl (.cons rfl .nil)) ?_)))
   rw [putV_on _ h1,putS,if_pos rfl,← pfx_mod]
   rfl
  subst hsh
  refine KM (KB (rD [] (aP 0 rfl (KE (o':=9) u47 rfl rfl rfl sz_33 dc) (aD 1 rfl (dL rfl (hv:=by exact KCN _ _ _ _ _ _)) ?_))));refine aM 2 ?_;refine aP 3 rfl (KF rfl) (aP 4 rfl (KE (o':=0) u100 rfl rfl rfl sz_53 dc) (aP 5 rfl (KE (o':=57) u53 rfl rfl rfl sz_3 dc) (aD 6 rfl (dL rfl (hv:=KI u3 rfl (by exact KAl _ _ _ _ _ _ _ _ _ _ _ _ _))) ?_)));refine aO 7 rfl (cF rfl en_47 rfl (fun w hw=>KBg Y (nby V.p) w om hnp (nby_le hYp)) ?_);refine aM 8 ?_;refine aP 9 rfl (Det.extract rfl rfl) (aP 10 rfl (Det.extract rfl rfl) (aA 11 ?_));refine aA 12 ?_;refine aE (KB (KA (oS (mk (KAP u70 inf_5 rfl rfl rfl rfl dc rfl) (fun b59=>?_)))));refine oD (KBS (f:=fun _=>4) u70 u5 u9 rfl mM (by rfl)) ?_;refine oM ?_;refine oP (KAh rfl rfl (by have h2:=KAs (nby V.p) X; have h3:=KAs (nby V.p) Y; have h4:∀ x,(strOf ((List.range 1).map fun i=>UInt8.ofNat ((fun _=>x) i))).size = 1:=fun _=>rfl; have h5:(⟨#[4]⟩:ByteArray).size = 1:=rfl; try simp only [ByteArray.size_append,h4,h2,h3,h5]; omega)) ?_
  refine oM ?_;refine oP (KAh rfl rfl (by have h2:=KAs (nby V.p) X; have h3:=KAs (nby V.p) Y; have h4:∀ x,(strOf ((List.range 1).map fun i=>UInt8.ofNat ((fun _=>x) i))).size = 1:=fun _=>rfl; have h5:(⟨#[4]⟩:ByteArray).size = 1:=rfl; try simp only [ByteArray.size_append,h4,h2,h3,h5]; omega)) ?_;refine oA ?_;refine oP (KO (v:=Iz 0) rfl) (KC (KN (eN (.cons rfl (.cons rfl .nil)) ?_)))
  rw [putV_on _ h1,putS,if_neg dc]
  rfl
def liftT (V:Cv) (X odd:Nat):Nat×Nat×Bool:=if X<V.p then (match sqN V.p (KCw V.p V.a V.b X) with
  | none=>(0,0,false)
  | some r=>if odd = 0 then (X,r,true) else if r = 0 then (X,0,false) else (X,V.p-r,true)) else (0,0,false)
theorem lift_far {V:Cv} {X odd:Nat} (h:¬ X<V.p):liftT V X odd = (0,0,false):=if_neg h
theorem lift_no {V:Cv} {X odd:Nat} (h:X<V.p) (h1:sqN V.p (KCw V.p V.a V.b X) = none):liftT V X odd = (0,0,false):=by unfold liftT; rw [if_pos h,h1]
theorem lift_even {V:Cv} {X r:Nat} (h:X<V.p) (h1:sqN V.p (KCw V.p V.a V.b X) = some r):liftT V X 0 = (X,r,true):=by unfold liftT; rw [if_pos h,h1]; rfl
theorem lift_zero {V:Cv} {X:Nat} (h:X<V.p) (h1:sqN V.p (KCw V.p V.a V.b X) = some 0):liftT V X 1 = (X,0,false):=by unfold liftT; rw [if_pos h,h1]; rfl
theorem lift_odd {V:Cv} {X r:Nat} (h:X<V.p) (h1:sqN V.p (KCw V.p V.a V.b X) = some r) (h0:r≠0):liftT V X 1 = (X,V.p-r,true):=by unfold liftT; rw [if_pos h,h1]; simp [h0]
theorem c_RightN (R X:Nat) (V:Cv) (b f bd:Nat) (hok:V.Ok) (w:World) (hb:(Item.blk b ⟨false,opL V f,100,(0,0)⟩).holds w) (hf:(Item.blk f ⟨false,fldL V.p bd,165,(0,0)⟩).holds w) (hbd:(Item.blk bd ⟨false,dvL V.p,269,(0,0)⟩).holds w) (hX:X<V.p) (hR:KCw V.p V.a V.b X = R):CF Tryz.prog 98 [Pz b,natV X] w (natV R):=by
  have h1:=c_Right V b f bd hok ⟨X,hX⟩ w hb hf hbd
  rw [← right_val hok] at h1
  rw [← hR]
  exact h1
theorem right_ltV {V:Cv} (hok:V.Ok) (X:Nat):KCw V.p V.a V.b X<V.p:=Nat.mod_lt _ (by have:=hok.bounds; omega)
theorem c_F_SqrtN (V:Cv) (f bd:Nat) (hok:V.Ok) (R:Nat) (w:World) (hf:(Item.blk f ⟨false,fldL V.p bd,165,(0,0)⟩).holds w) (hbd:(Item.blk bd ⟨false,dvL V.p,269,(0,0)⟩).holds w) (hR:R<V.p) (h:sqN V.p R = none):CF Tryz.prog 119 [Pz f,natV R] w (.tuple #[natV 0,.bool false]):=by
  have h1:=c_F_Sqrt V f bd hok ⟨R,hR⟩ w hf hbd
  rw [sqV_none h] at h1
  exact h1
theorem c_F_SqrtS (r:Nat) (V:Cv) (f bd:Nat) (hok:V.Ok) (R:Nat) (w:World) (hf:(Item.blk f ⟨false,fldL V.p bd,165,(0,0)⟩).holds w) (hbd:(Item.blk bd ⟨false,dvL V.p,269,(0,0)⟩).holds w) (hR:R<V.p) (h:sqN V.p R = some r):CF Tryz.prog 119 [Pz f,natV R] w (.tuple #[natV r,.bool true]):=by
  have h1:=c_F_Sqrt V f bd hok ⟨R,hR⟩ w hf hbd
  rw [sqV_some h] at h1
  exact h1
theorem c_bit0 (v A:Nat) (w:World) (hA:A<W9) (h:A%2 = v):CF Tryz.prog 57 [natV A,.int .i64 0] w (Iz v):=by
  have h1:=KCp A 0 hA dc w
  rw [Nat.pow_zero,Nat.div_one,h] at h1
  exact h1
theorem c_f_neg (V:Cv) (hok:V.Ok) (f bd r:Nat) (w:World) (hf:(Item.blk f ⟨false,fldL V.p bd,165,(0,0)⟩).holds w) (h0:r≠0) (h:r<V.p):CF Tryz.prog 120 [Pz f,natV 0,natV r] w (natV (V.p-r)):=by
  have h1:=c_f_Sub V f bd 0 r w hf hok.bounds.2.1 om h
  rwa [Nat.zero_add,Nat.mod_eq_of_lt om] at h1
theorem c_f_neg0 (V:Cv) (hok:V.Ok) (f bd:Nat) (w:World) (hf:(Item.blk f ⟨false,fldL V.p bd,165,(0,0)⟩).holds w):CF Tryz.prog 120 [Pz f,natV 0,natV 0] w (natV 0):=by
  have hb:=hok.bounds
  have h1:=c_f_Sub V f bd 0 0 w hf hb.2.1 om om
  rwa [Nat.zero_add,Nat.sub_zero,Nat.mod_self] at h1
theorem fill_ptI2 (X Y:Nat):fillL [(0,9),(9,9),(18,1)] (vec .u64 9 (fun _=>0)++(vec .u64 9 (fun _=>0)++[Value.bool false])) [(0,natV X),(1,natV Y)] = some (ptL X Y false):=by
  refine KAK (A:=[]) (B:=vec .u64 9 (fun _=>0)) (D:=vec .u64 9 (fun _=>0)++[Value.bool false]) (cs:=natL X) rfl rfl (KL _) rfl rfl (KU _ _ _) ?_;refine (KAK (A:=natL X) (B:=vec .u64 9 (fun _=>0)) (D:=[Value.bool false]) (cs:=natL Y) rfl rfl (KL _) (by simp) (KL _) (KU _ _ _) rfl).trans ?_
  simp [ptL]
theorem c_lift (V:Cv) (b f bd:Nat) (hok:V.Ok) (X odd:Nat) (w:World) (hb:(Item.blk b ⟨false,opL V f,100,(0,0)⟩).holds w) (hf:(Item.blk f ⟨false,fldL V.p bd,165,(0,0)⟩).holds w) (hbd:(Item.blk bd ⟨false,dvL V.p,269,(0,0)⟩).holds w) (hX:X<W9) (hodd:odd≤1):CF Tryz.prog 62 [Pz b,natV X,Iz odd] w (.tuple #[ptV (liftT V X odd).1 (liftT V X odd).2.1 false,.bool (liftT V X odd).2.2]):=by
  have hbb:=hok.bounds
  have hpW:V.p<W9:=Ks hbb.2.1
  have hpo:=p_odd hok
  refine KV (N:=50) (rs:=[.cell 6 47,.tmp 7]) [.blk b ⟨false,opL V f,100,(0,0)⟩,.blk f ⟨false,fldL V.p bd,165,(0,0)⟩,.blk bd ⟨false,dvL V.p,269,(0,0)⟩] Tryz.func62 rfl Tryz.ntmps62 Tryz.results62 (Nb rfl) ⟨hb,hf,hbd,trivial⟩ rfl ?_
  refine KB (KA (oS (mB (fun b4=>?_))));refine oS (mk (KK zr_47) (fun b6=>?_));refine oA (KC (KB (KB ?_)))
  rcases (show (¬ X<V.p)∨X<V.p by omega) with h1|hXp
  ·
   refine rD [] (aM 0 ?_);refine aP 1 rfl (KF rfl) (aP 2 rfl (KE (o':=59) u100 rfl rfl rfl sz_98 dc) (aD 3 rfl (dL rfl (hv:=KI u98 rfl (by exact KAt _ _ _ _ _ _ _ _ _ _ _ _ _))) ?_));refine aD 4 rfl dNa ?_;refine aO 5 rfl (cF rfl en_96 rfl (fun w hw=>c_HasF V f bd X w (mC hw) hX hpW h1) ?_);refine aP 6 rfl (KJ (KAH rfl) (show _ = Value.bool true from rfl)) (aE (KS rfl (KB (KA (oP (KJ (KX pl_47 zr_47 rfl rfl) KDS) (LOps.step rfl (sA rfl rfl sz_47 (by exact KAB _ _ _) (hl:=by exact KW _ _ _) (h:=?_))))))));refine oA (KC (KN ?_));refine eN (.cons ⟨_,_,_,rfl,mM,by exact KD u47 rfl sz_47⟩ (.cons rfl .nil)) ?_
   rw [lift_far h1]
   rfl
  refine rD [] (aM 0 ?_);refine aP 1 rfl (KF rfl) (aP 2 rfl (KE (o':=59) u100 rfl rfl rfl sz_98 dc) (aD 3 rfl (dL rfl (hv:=KI u98 rfl (by exact KAt _ _ _ _ _ _ _ _ _ _ _ _ _))) ?_));refine aD 4 rfl dNa ?_;refine aO 5 rfl (cF rfl en_96 rfl (fun w hw=>c_HasT V f bd X w (mC hw) hX hpW hXp) ?_);refine aP 6 rfl (KJ (KAH rfl) (show _ = Value.bool false from rfl)) (aE (KH rfl (KM (KB ?_))))
  obtain ⟨R,hR⟩:∃ R,KCw V.p V.a V.b X = R:=⟨_,rfl⟩
  have hRp:R<V.p:=hR ▸ right_ltV hok X
  rcases h1:sqN V.p R with _|r
  ·
   refine rD [12] (aM 0 ?_);refine aP 1 rfl (KF rfl) (aP 2 rfl (KE (o':=59) u100 rfl rfl rfl sz_98 dc) (aD 3 rfl (dL rfl (hv:=KI u98 rfl (by exact KAt _ _ _ _ _ _ _ _ _ _ _ _ _))) ?_));refine aM 4 ?_;refine aD 5 rfl dNa ?_;refine KAR ?_;refine Kl 11 rfl (.inl zr_33) (Nb rfl) rfl rfl rfl ?_;refine LAnyP.step 6 rfl rfl rfl (Nb rfl) kr rfl (Ke (first:=[]) rfl en_98 rfl (fun w hw=>c_RightN R X V b f bd hok w (mC hw) (mC hw) (mC hw) hXp hR)) ?_
   rintro _ _ ⟨rfl,rfl⟩
   refine LAnyP.step 7 rfl rfl rfl (Nb rfl) kr rfl (Ke (first:=[]) rfl en_119 rfl (fun w hw=>c_F_SqrtN V f bd hok R w (mC hw) (mC hw) hRp h1)) ?_
   rintro _ _ ⟨rfl,rfl⟩
   refine pM 8 ?_;refine pP 9 rfl (Det.extract rfl rfl) (pP 10 rfl (Det.extract rfl rfl) (pE (fun b8=>?_)));refine Kv ?_;refine aL 12 rfl (sA rfl rfl sz_33 (by exact Kx _) (hl:=by exact KL _) (h:=?_));refine aA 13 ?_;refine aE (KB (KB (KA (oM ?_))));refine oP (KJ (KAH rfl) (show _ = Value.bool true from rfl)) (KC (KS rfl (KB (KA (oP (KJ (KX pl_47 zr_47 rfl rfl) KDS) (LOps.step rfl (sA rfl rfl sz_47 (by exact KAB _ _ _) (hl:=by exact KW _ _ _) (h:=?_))))))));refine oA (KC (KN ?_));refine eN (.cons ⟨_,_,_,rfl,mM,by exact KD u47 rfl sz_47⟩ (.cons rfl .nil)) ?_
   rw [← hR] at h1
   rw [lift_no hXp h1]
   rfl
  refine rD [12] (aM 0 ?_);refine aP 1 rfl (KF rfl) (aP 2 rfl (KE (o':=59) u100 rfl rfl rfl sz_98 dc) (aD 3 rfl (dL rfl (hv:=KI u98 rfl (by exact KAt _ _ _ _ _ _ _ _ _ _ _ _ _))) ?_));refine aM 4 ?_;refine aD 5 rfl dNa ?_;refine KAR ?_;refine Kl 11 rfl (.inl zr_33) (Nb rfl) rfl rfl rfl ?_;refine LAnyP.step 6 rfl rfl rfl (Nb rfl) kr rfl (Ke (first:=[]) rfl en_98 rfl (fun w hw=>c_RightN R X V b f bd hok w (mC hw) (mC hw) (mC hw) hXp hR)) ?_
  rintro _ _ ⟨rfl,rfl⟩
  refine LAnyP.step 7 rfl rfl rfl (Nb rfl) kr rfl (Ke (first:=[]) rfl en_119 rfl (fun w hw=>c_F_SqrtS r V f bd hok R w (mC hw) (mC hw) hRp h1)) ?_
  rintro _ _ ⟨rfl,rfl⟩
  refine pM 8 ?_;refine pP 9 rfl (Det.extract rfl rfl) (pP 10 rfl (Det.extract rfl rfl) (pE (fun b8=>?_)));refine Kv ?_;refine aL 12 rfl (sA rfl rfl sz_33 (by exact Kx _) (hl:=by exact KL _) (h:=?_));refine aA 13 ?_;refine aE (KB (KB (KA (oM ?_))));refine oP (KJ (KAH rfl) (show _ = Value.bool false from rfl)) (KC (KH rfl (KM (KB (KB ?_)))))
  obtain ⟨hr1,hr2,hr3⟩:=sqN_some h1
  rcases (show odd = 0∨(odd = 1∧r = 0)∨(odd = 1∧r≠0) by omega) with rfl|⟨rfl,rfl⟩|⟨rfl,hr0⟩
  ·
   refine KA (oD dNa ?_);refine oS (cF rfl en_57 rfl (fun w hw=>c_bit0 0 r w om hr3) ?_);refine oM ?_;refine oP (KG (v:=.bool false) rfl rfl (by rfl)) (KC (KH rfl (KM (KB (rD [7] (aD 0 rfl dNa ?_))))));refine aD 1 rfl dNa ?_;refine aP 2 rfl (KJ (KX pl_47 zr_47 rfl (fill_ptI2 _ _)) rfl) (aM 5 ?_);refine aO 3 rfl (LStep.det dNa (Nb rfl) ?_);refine aO 4 rfl (cF rfl en_57 rfl (fun w hw=>c_bit0 0 r w om hr3) ?_);refine aP 6 rfl (KG (v:=.bool true) rfl rfl (by rfl)) (aL 7 rfl (sA rfl rfl sz_47 (by exact KAB _ _ _) (hl:=by exact KW _ _ _) (h:=?_)));refine aA 8 ?_;refine aE (KN (eN (.cons ⟨_,_,_,rfl,mM,by exact KD u47 rfl sz_47⟩ (.cons rfl .nil)) ?_))
   rw [← hR] at h1
   rw [lift_even hXp h1]
   rfl
  ·
   refine KA (oD dNa ?_);refine oS (cF rfl en_57 rfl (fun w hw=>c_bit0 0 0 w om rfl) ?_);refine oM ?_;refine oP (KG (v:=.bool true) rfl rfl (by rfl)) (KC (KS rfl (rD [7] (aM 0 ?_))));refine aP 1 rfl (KF rfl) (aP 2 rfl (KE (o':=59) u100 rfl rfl rfl sz_98 dc) (aD 3 rfl (dL rfl (hv:=KI u98 rfl (by exact KAt _ _ _ _ _ _ _ _ _ _ _ _ _))) ?_));refine aP 4 rfl (KJ (KX pl_33 zr_33 rfl rfl) (show _ = natV 0 by unfold natV natL; rw [← vec_zeros 9])) ?_;refine aD 5 rfl dNa ?_;refine aO 6 rfl (cF rfl KDG rfl (fun w hw=>c_f_neg0 V hok f bd w (mC hw)) ?_);refine aL 7 rfl (sA rfl rfl sz_33 (by exact Kx _) (hl:=by exact KL _) (h:=?_));refine aE (KB (rD [7] (aD 0 rfl dNa ?_)));refine aD 1 rfl dNa ?_
   refine aP 2 rfl (KJ (KX pl_47 zr_47 rfl (fill_ptI2 _ _)) rfl) (aM 5 ?_);refine aO 3 rfl (LStep.det dNa (Nb rfl) ?_);refine aO 4 rfl (cF rfl en_57 rfl (fun w hw=>c_bit0 0 0 w om rfl) ?_);refine aP 6 rfl (KG (v:=.bool false) rfl rfl (by rfl)) (aL 7 rfl (sA rfl rfl sz_47 (by exact KAB _ _ _) (hl:=by exact KW _ _ _) (h:=?_)));refine aA 8 ?_;refine aE (KN (eN (.cons ⟨_,_,_,rfl,mM,by exact KD u47 rfl sz_47⟩ (.cons rfl .nil)) ?_))
   rw [← hR] at h1
   rw [lift_zero hXp h1]
   rfl
  refine KA (oD dNa ?_);refine oS (cF rfl en_57 rfl (fun w hw=>c_bit0 0 r w om hr3) ?_);refine oM ?_;refine oP (KG (v:=.bool true) rfl rfl (by rfl)) (KC (KS rfl (rD [7] (aM 0 ?_))));refine aP 1 rfl (KF rfl) (aP 2 rfl (KE (o':=59) u100 rfl rfl rfl sz_98 dc) (aD 3 rfl (dL rfl (hv:=KI u98 rfl (by exact KAt _ _ _ _ _ _ _ _ _ _ _ _ _))) ?_));refine aP 4 rfl (KJ (KX pl_33 zr_33 rfl rfl) (show _ = natV 0 by unfold natV natL; rw [← vec_zeros 9])) ?_;refine aD 5 rfl dNa ?_;refine aO 6 rfl (cF rfl KDG rfl (fun w hw=>c_f_neg V hok f bd r w (mC hw) hr0 hr1) ?_);refine aL 7 rfl (sA rfl rfl sz_33 (by exact Kx _) (hl:=by exact KL _) (h:=?_));refine aE (KB (rD [7] (aD 0 rfl dNa ?_)));refine aD 1 rfl dNa ?_
  refine aP 2 rfl (KJ (KX pl_47 zr_47 rfl (fill_ptI2 _ _)) rfl) (aM 5 ?_);refine aO 3 rfl (LStep.det dNa (Nb rfl) ?_);refine aO 4 rfl (cF rfl en_57 rfl (fun w hw=>c_bit0 1 (V.p-r) w om om) ?_);refine aP 6 rfl (KG (v:=.bool true) rfl rfl (by rfl)) (aL 7 rfl (sA rfl rfl sz_47 (by exact KAB _ _ _) (hl:=by exact KW _ _ _) (h:=?_)));refine aA 8 ?_;refine aE (KN (eN (.cons ⟨_,_,_,rfl,mM,by exact KD u47 rfl sz_47⟩ (.cons rfl .nil)) ?_))
  rw [← hR] at h1
  rw [lift_odd hXp h1 hr0]
  rfl
def b0 (s:ByteArray):Nat:=(s.data.toList.getD 0 0).toNat
theorem b0_lt (s:ByteArray):b0 s<256:=UInt8.toNat_lt _
def getX (V:Cv) (s:ByteArray):Nat:=beVal (s.extract 1 (1+nby V.p)).data.toList
def getY (V:Cv) (s:ByteArray):Nat:=beVal (s.extract (1+nby V.p) s.size).data.toList
def getT (V:Cv) (s:ByteArray):Nat×Nat×Nat :=
  if s.size = 1+nby V.p∧(b0 s = 2∨b0 s = 3) then (if (liftT V (getX V s) (b0 s-2)).2.2 = true then ((liftT V (getX V s) (b0 s-2)).1,(liftT V (getX V s) (b0 s-2)).2.1,0) else (0,0,2101))
  else if s.size = 1+2*nby V.p∧b0 s = 4 then (if onB V.p V.a V.b (getX V s) (getY V s) false = true then (getX V s,getY V s,0) else (0,0,2101))
  else (0,0,2102)
def getV (V:Cv) (s:ByteArray):Value:=.tuple #[ptV (getT V s).1 (getT V s).2.1 false,Iz ((getT V s).2.2)]
theorem KCt {V:Cv} {s:ByteArray} {X Y e:Nat} (h:getT V s = (X,Y,e)):getV V s = .tuple #[ptV X Y false,Iz e]:=by unfold getV; rw [h]
theorem get_form {V:Cv} {s:ByteArray} (h1:¬ (s.size = 1+nby V.p∧(b0 s = 2∨b0 s = 3))) (h2:¬ (s.size = 1+2*nby V.p∧b0 s = 4)):getT V s = (0,0,2102):=by unfold getT; rw [if_neg h1,if_neg h2]
theorem get_short {V:Cv} {s:ByteArray} {o X Y:Nat} (h1:s.size = 1+nby V.p) (ho:b0 s = 2+o) (ho1:o≤1) (h:liftT V (getX V s) o = (X,Y,true)):getT V s = (X,Y,0):=by
  unfold getT
  rw [if_pos ⟨h1,by omega⟩,ho,Nat.add_sub_cancel_left,h]; rfl
theorem get_shortF {V:Cv} {s:ByteArray} {o X Y:Nat} (h1:s.size = 1+nby V.p) (ho:b0 s = 2+o) (ho1:o≤1) (h:liftT V (getX V s) o = (X,Y,false)):getT V s = (0,0,2101):=by
  unfold getT
  rw [if_pos ⟨h1,by omega⟩,ho,Nat.add_sub_cancel_left,h]; rfl
theorem get_long {V:Cv} {s:ByteArray} (h1:s.size = 1+2*nby V.p) (hb:b0 s = 4) (h:onB V.p V.a V.b (getX V s) (getY V s) false = true):getT V s = (getX V s,getY V s,0):=by
  unfold getT
  rw [if_neg om,if_pos ⟨h1,hb⟩,if_pos h]
theorem get_longF {V:Cv} {s:ByteArray} (h1:s.size = 1+2*nby V.p) (hb:b0 s = 4) (h:onB V.p V.a V.b (getX V s) (getY V s) false = false):getT V s = (0,0,2101):=by
  unfold getT
  rw [if_neg om,if_pos ⟨h1,hb⟩,if_neg (by rw [h]; decide)]
theorem ext_ext (s:ByteArray) (k:Nat) (h:1+k≤s.size):(s.extract 1 s.size).extract 0 k = s.extract 1 (1+k):=by
  rw [ByteArray.extract_extract]
  congr 1; omega
theorem ext_ext2 (s:ByteArray) (k:Nat) (h:1+k≤s.size):(s.extract 1 s.size).extract k (s.extract 1 s.size).size = s.extract (1+k) s.size:=by
  rw [ByteArray.extract_extract,KAk _ _ _ (Nat.le_refl _)]
  congr 1; omega
theorem ptX_set0 (X Y X':Nat) (i:Bool):KAZ (ptL X Y i) 0 (natL X') = ptL X' Y i:=KAf (A:=[]) (B:=natL X) (D:=natL Y++[.bool i]) (by simp [ptL]) rfl (by rw [KL,KL]) (by simp [ptL])
theorem ptX_set9 (X Y Y':Nat) (i:Bool):KAZ (ptL X Y i) 9 (natL Y') = ptL X Y' i:=KAf (A:=natL X) (B:=natL Y) (D:=[.bool i]) (by simp [ptL]) (KL _) (by rw [KL,KL]) (by simp [ptL])
theorem ptX_zero:(vec .u64 9 (fun _=>0)++(vec .u64 9 (fun _=>0)++[Value.bool false]):List Value) = ptL 0 0 false:=by
  unfold ptL natL; rw [vec_zeros 9]
theorem KCo (X:Nat) (s:ByteArray) (w:World) (h:s.size≤72) (hX:beVal s.data.toList = X):CF Tryz.prog 49 [.string s] w (.tuple #[natV X,Iz 0]):=hX ▸ KDe s w h
theorem c_liftX (Z:Nat×Nat×Bool) (V:Cv) (b f bd:Nat) (hok:V.Ok) (X odd:Nat) (w:World) (hb:(Item.blk b ⟨false,opL V f,100,(0,0)⟩).holds w) (hf:(Item.blk f ⟨false,fldL V.p bd,165,(0,0)⟩).holds w) (hbd:(Item.blk bd ⟨false,dvL V.p,269,(0,0)⟩).holds w) (hX:X<W9) (hodd:odd≤1) (hZ:liftT V X odd = Z):CF Tryz.prog 62 [Pz b,natV X,Iz odd] w (.tuple #[ptV Z.1 Z.2.1 false,.bool Z.2.2]):=by
  subst hZ; exact c_lift V b f bd hok X odd w hb hf hbd hX hodd
theorem emp_t:((⟨#[]⟩:ByteArray).toList == (⟨#[]⟩:ByteArray).toList) = true:=by simp
theorem emp_f {s:ByteArray} (h:s.size≠0):(s.toList == (⟨#[]⟩:ByteArray).toList) = false:=by
  cases h1:(s.toList == (⟨#[]⟩:ByteArray).toList) with
  | false=>rfl
  | true =>
    rw [eq_str,decide_eq_true_eq] at h1
    have h2:s.data.size = 0:=by rw [← Array.length_toList,h1]; rfl
    exact absurd h2 h
theorem c_s_Get_emp (id:Int) (V:Cv) (w:World) (h:cvI id = some V):CF Tryz.prog 29 [.int .i64 id,.string ⟨#[]⟩] w (.tuple #[ptV 0 0 false,Iz 2102]):=by
  obtain ⟨hok,hid⟩:=KAw h
  have hbb:=hok.bounds
  have hpW:V.p<W9:=Ks hbb.2.1
  have hnW:V.n<W9:=Ks hbb.2.2.2.2.2.2.1
  have hbl:=KAM hnW
  have hnb:nby V.n≤72:=by (unfold nby; omega)
  have hnp:nby V.p≤72:=by have:=KAM (Ks hbb.2.1); (unfold nby; omega)
  refine KV (N:=102) (rs:=[.cell 4 47,.tmp 5]) [] Tryz.func29 rfl Tryz.ntmps29 Tryz.results29 (Nb rfl) trivial rfl ?_
  refine KB (KA (oS (mk (KK zr_47) (fun b4=>?_))));refine oP (KO (v:=Iz 0) rfl) (KC (KB (KA (oM ?_))));refine oS (oOpen h rfl rfl (fun b f bd=>?_));refine oA (KC (KB (KB (KA (oM ?_)))));refine oP (KJ (KAI u81 rfl rfl) (show _ = Value.bool false from rfl)) (KC (KH rfl (KM (KB (KB (KA (oM ?_)))))));refine oP (KJ (KCU rfl rfl) (congrArg Value.bool (emp_t))) (KC (KS rfl (KB (KA (oP (KJ (KX pl_47 zr_47 rfl rfl) KDS) (LOps.step rfl (sA rfl rfl sz_47 (by exact KAB _ _ _) (hl:=by exact KW _ _ _) (h:=?_))))))));refine oP (KO (v:=Iz 2102) rfl) (KC (KN (eN (.cons ⟨_,_,_,rfl,mM,by exact KD u47 rfl sz_47⟩ (.cons rfl .nil)) ?_)))
  skip
  rfl
theorem c_s_Get_s0 (id:Int) (V:Cv) (s:ByteArray) (X X' Y':Nat) (ok:Bool) (w:World) (h:cvI id = some V) (hsz:s.size = 1+nby V.p) (hb:b0 s = 2) (hX:beVal (s.extract 1 s.size).data.toList = X) (hXw:X<W9) (hl:liftT V X 0 = (X',Y',ok)):CF Tryz.prog 29 [.int .i64 id,.string s] w (getV V s):=by
  obtain ⟨hok,hid⟩:=KAw h
  have hbb:=hok.bounds
  have hpW:V.p<W9:=Ks hbb.2.1
  have hnW:V.n<W9:=Ks hbb.2.2.2.2.2.2.1
  have hbl:=KAM hnW
  have hnb:nby V.n≤72:=by (unfold nby; omega)
  have hnp:nby V.p≤72:=by have:=KAM (Ks hbb.2.1); (unfold nby; omega)
  have hs0:s.size≠0:=by omega
  refine KV (N:=102) (rs:=[.cell 4 47,.tmp 5]) [] Tryz.func29 rfl Tryz.ntmps29 Tryz.results29 (Nb rfl) trivial rfl ?_
  refine KB (KA (oS (mk (KK zr_47) (fun b4=>?_))));refine oP (KO (v:=Iz 0) rfl) (KC (KB (KA (oM ?_))));refine oS (oOpen h rfl rfl (fun b f bd=>?_));refine oA (KC (KB (KB (KA (oM ?_)))));refine oP (KJ (KAI u81 rfl rfl) (show _ = Value.bool false from rfl)) (KC (KH rfl (KM (KB (KB (KA (oM ?_)))))));refine oP (KJ (KCU rfl rfl) (congrArg Value.bool (emp_f hs0))) (KC (KH rfl (KM (KB (rD [] (aM 0 ?_))))));refine aP 1 rfl (KJ (KAE u9 rfl rfl om om) (show _ = .int .u8 ((2:Nat):Int) from congrArg (fun n:Nat=>Value.int .u8 ((n:Nat):Int)) hb)) (aP 2 rfl (KAo u5 u3 rfl om) (aM 3 ?_));refine aP 4 rfl (KJ (KBb u9 rfl rfl om om) (show _ = Value.string (s.extract 1 s.size) from rfl)) (aA 5 ?_);refine aA 6 ?_;refine aE (KB (KA (oS (mk (KK zr_47) (fun b9=>?_)))));refine KC (KB (KA (oA (KC (KB (LCode.block (KB ?_)))))))
  have hrs:(s.extract 1 s.size).size = nby V.p:=by rw [KAk _ _ _ (Nat.le_refl _)]; omega
  refine KA (oM ?_);refine oP (bT rfl rfl (Ku (b:=2)) (rfl)) (oM ?_);refine oK (oK (oP (Kd rfl rfl) (oM ?_)));refine oGM ?_;refine oGP (KAQ u9 rfl) (oGM ?_);refine oGP (KF rfl) (oGP (KE (o':=0) u100 rfl rfl rfl sz_53 dc) (oGP (KE (o':=57) u53 rfl rfl rfl sz_3 dc) (Kt rfl rfl (dL rfl (hv:=KI u3 rfl (by exact KAl _ _ _ _ _ _ _ _ _ _ _ _ _))) (Nb rfl) ?_)));refine oGP (bT rfl rfl Ku (hrs)) (oP (Kd rfl rfl) (oA (KC ?_)));refine KS rfl (KB ?_)
  cases ok
  ·
   refine KA (oM ?_);refine oS (cF rfl en_49 rfl (fun w hw=>KCo X (s.extract 1 s.size) w om hX) ?_);refine oM ?_;refine oX ?_;refine oX ?_;refine oS (mk (KK zr_33) (fun b11=>?_));refine LOps.step rfl (sA rfl rfl sz_33 (by exact Kx _) (hl:=by exact KL _) (h:=?_));refine oA (KC (KA (oM ?_)));refine oD dNa ?_;refine oM ?_;refine oP (KG (v:=Iz 0) rfl rfl (by rfl)) (oS (cF rfl en_62 rfl (fun w hw=>c_liftX (X',Y',false) V b f bd hok X 0 w (mC hw) (mC hw) (mC hw) hXw dc hl) ?_));refine oM ?_;refine oX ?_;refine oX ?_;refine LOps.step rfl (sA rfl rfl sz_47 (by exact KAB _ _ _) (hl:=by exact KW _ _ _) (h:=?_));refine oA (KC (KB (KB (KA (oM ?_)))));refine oP (KJ (KAH rfl) (show _ = Value.bool true from rfl)) (KC (KS rfl (KB (KA (oP (KJ (KX pl_47 zr_47 rfl rfl) KDS) (LOps.step rfl (sA rfl rfl sz_47 (by exact KAB _ _ _) (hl:=by exact KW _ _ _) (h:=?_))))))))
   refine oP (KO (v:=Iz 2101) rfl) (KC (KN (eN (.cons ⟨_,_,_,rfl,mM,by exact KD u47 rfl sz_47⟩ (.cons rfl .nil)) ?_)))
   have hg:getX V s = X:=by unfold getX; rw [← hsz]; exact hX
   rw [← hg] at hl
   rw [KCt (get_shortF hsz hb dc hl)]
   rfl
  refine KA (oM ?_);refine oS (cF rfl en_49 rfl (fun w hw=>KCo X (s.extract 1 s.size) w om hX) ?_);refine oM ?_;refine oX ?_;refine oX ?_;refine oS (mk (KK zr_33) (fun b11=>?_));refine LOps.step rfl (sA rfl rfl sz_33 (by exact Kx _) (hl:=by exact KL _) (h:=?_));refine oA (KC (KA (oM ?_)));refine oD dNa ?_;refine oM ?_;refine oP (KG (v:=Iz 0) rfl rfl (by rfl)) (oS (cF rfl en_62 rfl (fun w hw=>c_liftX (X',Y',true) V b f bd hok X 0 w (mC hw) (mC hw) (mC hw) hXw dc hl) ?_));refine oM ?_;refine oX ?_;refine oX ?_;refine LOps.step rfl (sA rfl rfl sz_47 (by exact KAB _ _ _) (hl:=by exact KW _ _ _) (h:=?_));refine oA (KC (KB (KB (KA (oM ?_)))));refine oP (KJ (KAH rfl) (show _ = Value.bool false from rfl)) (KC (KH rfl (KM (KB (KA (oD dNb ?_))))));refine LOps.step rfl (sA rfl rfl sz_47 (by exact KAB _ _ _) (hl:=by exact KW _ _ _) (h:=?_))
  refine oP (KO (v:=Iz 0) rfl) (KC (KN (eN (.cons ⟨_,_,_,rfl,mM,by exact KD u47 rfl sz_47⟩ (.cons rfl .nil)) ?_)))
  have hg:getX V s = X:=by unfold getX; rw [← hsz]; exact hX
  rw [← hg] at hl
  rw [KCt (get_short hsz hb dc hl)]
  rfl
theorem c_s_Get_s1 (id:Int) (V:Cv) (s:ByteArray) (X X' Y':Nat) (ok:Bool) (w:World) (h:cvI id = some V) (hsz:s.size = 1+nby V.p) (hb:b0 s = 3) (hX:beVal (s.extract 1 s.size).data.toList = X) (hXw:X<W9) (hl:liftT V X 1 = (X',Y',ok)):CF Tryz.prog 29 [.int .i64 id,.string s] w (getV V s):=by
  obtain ⟨hok,hid⟩:=KAw h
  have hbb:=hok.bounds
  have hpW:V.p<W9:=Ks hbb.2.1
  have hnW:V.n<W9:=Ks hbb.2.2.2.2.2.2.1
  have hbl:=KAM hnW
  have hnb:nby V.n≤72:=by (unfold nby; omega)
  have hnp:nby V.p≤72:=by have:=KAM (Ks hbb.2.1); (unfold nby; omega)
  have hs0:s.size≠0:=by omega
  refine KV (N:=102) (rs:=[.cell 4 47,.tmp 5]) [] Tryz.func29 rfl Tryz.ntmps29 Tryz.results29 (Nb rfl) trivial rfl ?_
  refine KB (KA (oS (mk (KK zr_47) (fun b4=>?_))));refine oP (KO (v:=Iz 0) rfl) (KC (KB (KA (oM ?_))));refine oS (oOpen h rfl rfl (fun b f bd=>?_));refine oA (KC (KB (KB (KA (oM ?_)))));refine oP (KJ (KAI u81 rfl rfl) (show _ = Value.bool false from rfl)) (KC (KH rfl (KM (KB (KB (KA (oM ?_)))))));refine oP (KJ (KCU rfl rfl) (congrArg Value.bool (emp_f hs0))) (KC (KH rfl (KM (KB (rD [] (aM 0 ?_))))));refine aP 1 rfl (KJ (KAE u9 rfl rfl om om) (show _ = .int .u8 ((3:Nat):Int) from congrArg (fun n:Nat=>Value.int .u8 ((n:Nat):Int)) hb)) (aP 2 rfl (KAo u5 u3 rfl om) (aM 3 ?_));refine aP 4 rfl (KJ (KBb u9 rfl rfl om om) (show _ = Value.string (s.extract 1 s.size) from rfl)) (aA 5 ?_);refine aA 6 ?_;refine aE (KB (KA (oS (mk (KK zr_47) (fun b9=>?_)))));refine KC (KB (KA (oA (KC (KB (LCode.block (KB ?_)))))))
  have hrs:(s.extract 1 s.size).size = nby V.p:=by rw [KAk _ _ _ (Nat.le_refl _)]; omega
  refine KA (oM ?_);refine oP (bF rfl rfl (Ku (b:=2)) dc) (oM ?_);refine oGM ?_;refine oGP (bT rfl rfl (Ku (b:=3)) (rfl)) (oP (KT rfl rfl) (oM ?_));refine oGM ?_;refine oGP (KAQ u9 rfl) (oGM ?_);refine oGP (KF rfl) (oGP (KE (o':=0) u100 rfl rfl rfl sz_53 dc) (oGP (KE (o':=57) u53 rfl rfl rfl sz_3 dc) (Kt rfl rfl (dL rfl (hv:=KI u3 rfl (by exact KAl _ _ _ _ _ _ _ _ _ _ _ _ _))) (Nb rfl) ?_)));refine oGP (bT rfl rfl Ku (hrs)) (oP (Kd rfl rfl) (oA (KC ?_)));refine KS rfl (KB ?_)
  cases ok
  ·
   refine KA (oM ?_);refine oS (cF rfl en_49 rfl (fun w hw=>KCo X (s.extract 1 s.size) w om hX) ?_);refine oM ?_;refine oX ?_;refine oX ?_;refine oS (mk (KK zr_33) (fun b11=>?_));refine LOps.step rfl (sA rfl rfl sz_33 (by exact Kx _) (hl:=by exact KL _) (h:=?_));refine oA (KC (KA (oM ?_)));refine oD dNa ?_;refine oM ?_;refine oP (KG (v:=Iz 1) rfl rfl (by rfl)) (oS (cF rfl en_62 rfl (fun w hw=>c_liftX (X',Y',false) V b f bd hok X 1 w (mC hw) (mC hw) (mC hw) hXw dc hl) ?_));refine oM ?_;refine oX ?_;refine oX ?_;refine LOps.step rfl (sA rfl rfl sz_47 (by exact KAB _ _ _) (hl:=by exact KW _ _ _) (h:=?_));refine oA (KC (KB (KB (KA (oM ?_)))));refine oP (KJ (KAH rfl) (show _ = Value.bool true from rfl)) (KC (KS rfl (KB (KA (oP (KJ (KX pl_47 zr_47 rfl rfl) KDS) (LOps.step rfl (sA rfl rfl sz_47 (by exact KAB _ _ _) (hl:=by exact KW _ _ _) (h:=?_))))))))
   refine oP (KO (v:=Iz 2101) rfl) (KC (KN (eN (.cons ⟨_,_,_,rfl,mM,by exact KD u47 rfl sz_47⟩ (.cons rfl .nil)) ?_)))
   have hg:getX V s = X:=by unfold getX; rw [← hsz]; exact hX
   rw [← hg] at hl
   rw [KCt (get_shortF hsz hb dc hl)]
   rfl
  refine KA (oM ?_);refine oS (cF rfl en_49 rfl (fun w hw=>KCo X (s.extract 1 s.size) w om hX) ?_);refine oM ?_;refine oX ?_;refine oX ?_;refine oS (mk (KK zr_33) (fun b11=>?_));refine LOps.step rfl (sA rfl rfl sz_33 (by exact Kx _) (hl:=by exact KL _) (h:=?_));refine oA (KC (KA (oM ?_)));refine oD dNa ?_;refine oM ?_;refine oP (KG (v:=Iz 1) rfl rfl (by rfl)) (oS (cF rfl en_62 rfl (fun w hw=>c_liftX (X',Y',true) V b f bd hok X 1 w (mC hw) (mC hw) (mC hw) hXw dc hl) ?_));refine oM ?_;refine oX ?_;refine oX ?_;refine LOps.step rfl (sA rfl rfl sz_47 (by exact KAB _ _ _) (hl:=by exact KW _ _ _) (h:=?_));refine oA (KC (KB (KB (KA (oM ?_)))));refine oP (KJ (KAH rfl) (show _ = Value.bool false from rfl)) (KC (KH rfl (KM (KB (KA (oD dNb ?_))))));refine LOps.step rfl (sA rfl rfl sz_47 (by exact KAB _ _ _) (hl:=by exact KW _ _ _) (h:=?_))
  refine oP (KO (v:=Iz 0) rfl) (KC (KN (eN (.cons ⟨_,_,_,rfl,mM,by exact KD u47 rfl sz_47⟩ (.cons rfl .nil)) ?_)))
  have hg:getX V s = X:=by unfold getX; rw [← hsz]; exact hX
  rw [← hg] at hl
  rw [KCt (get_short hsz hb dc hl)]
  rfl
theorem c_s_Get_f2 (id:Int) (V:Cv) (s:ByteArray) (w:World) (h:cvI id = some V) (hs0:s.size≠0) (hs:s.size<9223372036854775808) (hb:b0 s = 2) (hsz:s.size≠1+nby V.p):CF Tryz.prog 29 [.int .i64 id,.string s] w (.tuple #[ptV 0 0 false,Iz 2102]):=by
  obtain ⟨hok,hid⟩:=KAw h
  have hbb:=hok.bounds
  have hpW:V.p<W9:=Ks hbb.2.1
  have hnW:V.n<W9:=Ks hbb.2.2.2.2.2.2.1
  have hbl:=KAM hnW
  have hnb:nby V.n≤72:=by (unfold nby; omega)
  have hnp:nby V.p≤72:=by have:=KAM (Ks hbb.2.1); (unfold nby; omega)
  have hb256:=b0_lt s
  refine KV (N:=102) (rs:=[.cell 4 47,.tmp 5]) [] Tryz.func29 rfl Tryz.ntmps29 Tryz.results29 (Nb rfl) trivial rfl ?_
  refine KB (KA (oS (mk (KK zr_47) (fun b4=>?_))));refine oP (KO (v:=Iz 0) rfl) (KC (KB (KA (oM ?_))));refine oS (oOpen h rfl rfl (fun b f bd=>?_));refine oA (KC (KB (KB (KA (oM ?_)))));refine oP (KJ (KAI u81 rfl rfl) (show _ = Value.bool false from rfl)) (KC (KH rfl (KM (KB (KB (KA (oM ?_)))))));refine oP (KJ (KCU rfl rfl) (congrArg Value.bool (emp_f hs0))) (KC (KH rfl (KM (KB (rD [] (aM 0 ?_))))));refine aP 1 rfl (KJ (KAE u9 rfl rfl om om) (show _ = .int .u8 ((2:Nat):Int) from congrArg (fun n:Nat=>Value.int .u8 ((n:Nat):Int)) hb)) (aP 2 rfl (KAo u5 u3 rfl om) (aM 3 ?_));refine aP 4 rfl (KJ (KBb u9 rfl rfl om om) (show _ = Value.string (s.extract 1 s.size) from rfl)) (aA 5 ?_);refine aA 6 ?_;refine aE (KB (KA (oS (mk (KK zr_47) (fun b9=>?_)))));refine KC (KB (KA (oA (KC (KB (LCode.block (KB ?_)))))))
  have hrs:(s.extract 1 s.size).size = s.size-1:=by rw [KAk _ _ _ (Nat.le_refl _)]
  refine KA (oM ?_);refine oP (bT rfl rfl (Ku (b:=2)) (rfl)) (oM ?_);refine oK (oK (oP (Kd rfl rfl) (oM ?_)));refine oGM ?_;refine oGP (KAQ u9 rfl) (oGM ?_);refine oGP (KF rfl) (oGP (KE (o':=0) u100 rfl rfl rfl sz_53 dc) (oGP (KE (o':=57) u53 rfl rfl rfl sz_3 dc) (Kt rfl rfl (dL rfl (hv:=KI u3 rfl (by exact KAl _ _ _ _ _ _ _ _ _ _ _ _ _))) (Nb rfl) ?_)));refine oGP (bF rfl rfl Ku (om)) (oP (Kd rfl rfl) (oA (KC ?_)));refine KH rfl (KB (KA (oM ?_)));refine oP (bF rfl rfl (Ku (b:=4)) dc) (oM ?_);refine oK (oK (oK (oK (oK (oK (oK (oK (oK (oP (KT rfl rfl) (oA (KC ?_)))))))))));refine KH rfl (KB (KA (oP (KJ (KX pl_47 zr_47 rfl rfl) KDS) (LOps.step rfl (sA rfl rfl sz_47 (by exact KAB _ _ _) (hl:=by exact KW _ _ _) (h:=?_))))));refine oP (KO (v:=Iz 2102) rfl) (KC (KN (eN (.cons ⟨_,_,_,rfl,mM,by exact KD u47 rfl sz_47⟩ (.cons rfl .nil)) ?_)))
  skip
  rfl
theorem c_s_Get_f3 (id:Int) (V:Cv) (s:ByteArray) (w:World) (h:cvI id = some V) (hs0:s.size≠0) (hs:s.size<9223372036854775808) (hb:b0 s = 3) (hsz:s.size≠1+nby V.p):CF Tryz.prog 29 [.int .i64 id,.string s] w (.tuple #[ptV 0 0 false,Iz 2102]):=by
  obtain ⟨hok,hid⟩:=KAw h
  have hbb:=hok.bounds
  have hpW:V.p<W9:=Ks hbb.2.1
  have hnW:V.n<W9:=Ks hbb.2.2.2.2.2.2.1
  have hbl:=KAM hnW
  have hnb:nby V.n≤72:=by (unfold nby; omega)
  have hnp:nby V.p≤72:=by have:=KAM (Ks hbb.2.1); (unfold nby; omega)
  have hb256:=b0_lt s
  refine KV (N:=102) (rs:=[.cell 4 47,.tmp 5]) [] Tryz.func29 rfl Tryz.ntmps29 Tryz.results29 (Nb rfl) trivial rfl ?_
  refine KB (KA (oS (mk (KK zr_47) (fun b4=>?_))));refine oP (KO (v:=Iz 0) rfl) (KC (KB (KA (oM ?_))));refine oS (oOpen h rfl rfl (fun b f bd=>?_));refine oA (KC (KB (KB (KA (oM ?_)))));refine oP (KJ (KAI u81 rfl rfl) (show _ = Value.bool false from rfl)) (KC (KH rfl (KM (KB (KB (KA (oM ?_)))))));refine oP (KJ (KCU rfl rfl) (congrArg Value.bool (emp_f hs0))) (KC (KH rfl (KM (KB (rD [] (aM 0 ?_))))));refine aP 1 rfl (KJ (KAE u9 rfl rfl om om) (show _ = .int .u8 ((3:Nat):Int) from congrArg (fun n:Nat=>Value.int .u8 ((n:Nat):Int)) hb)) (aP 2 rfl (KAo u5 u3 rfl om) (aM 3 ?_));refine aP 4 rfl (KJ (KBb u9 rfl rfl om om) (show _ = Value.string (s.extract 1 s.size) from rfl)) (aA 5 ?_);refine aA 6 ?_;refine aE (KB (KA (oS (mk (KK zr_47) (fun b9=>?_)))));refine KC (KB (KA (oA (KC (KB (LCode.block (KB ?_)))))))
  have hrs:(s.extract 1 s.size).size = s.size-1:=by rw [KAk _ _ _ (Nat.le_refl _)]
  refine KA (oM ?_);refine oP (bF rfl rfl (Ku (b:=2)) dc) (oM ?_);refine oGM ?_;refine oGP (bT rfl rfl (Ku (b:=3)) (rfl)) (oP (KT rfl rfl) (oM ?_));refine oGM ?_;refine oGP (KAQ u9 rfl) (oGM ?_);refine oGP (KF rfl) (oGP (KE (o':=0) u100 rfl rfl rfl sz_53 dc) (oGP (KE (o':=57) u53 rfl rfl rfl sz_3 dc) (Kt rfl rfl (dL rfl (hv:=KI u3 rfl (by exact KAl _ _ _ _ _ _ _ _ _ _ _ _ _))) (Nb rfl) ?_)));refine oGP (bF rfl rfl Ku (om)) (oP (Kd rfl rfl) (oA (KC ?_)));refine KH rfl (KB (KA (oM ?_)));refine oP (bF rfl rfl (Ku (b:=4)) dc) (oM ?_);refine oK (oK (oK (oK (oK (oK (oK (oK (oK (oP (KT rfl rfl) (oA (KC ?_)))))))))));refine KH rfl (KB (KA (oP (KJ (KX pl_47 zr_47 rfl rfl) KDS) (LOps.step rfl (sA rfl rfl sz_47 (by exact KAB _ _ _) (hl:=by exact KW _ _ _) (h:=?_))))));refine oP (KO (v:=Iz 2102) rfl) (KC (KN (eN (.cons ⟨_,_,_,rfl,mM,by exact KD u47 rfl sz_47⟩ (.cons rfl .nil)) ?_)))
  skip
  rfl
theorem c_s_Get_f4 (id:Int) (V:Cv) (s:ByteArray) (w:World) (h:cvI id = some V) (hs0:s.size≠0) (hs:s.size<9223372036854775808) (hb:b0 s = 4) (hsz:s.size≠1+2*nby V.p):CF Tryz.prog 29 [.int .i64 id,.string s] w (.tuple #[ptV 0 0 false,Iz 2102]):=by
  obtain ⟨hok,hid⟩:=KAw h
  have hbb:=hok.bounds
  have hpW:V.p<W9:=Ks hbb.2.1
  have hnW:V.n<W9:=Ks hbb.2.2.2.2.2.2.1
  have hbl:=KAM hnW
  have hnb:nby V.n≤72:=by (unfold nby; omega)
  have hnp:nby V.p≤72:=by have:=KAM (Ks hbb.2.1); (unfold nby; omega)
  have hb256:=b0_lt s
  refine KV (N:=102) (rs:=[.cell 4 47,.tmp 5]) [] Tryz.func29 rfl Tryz.ntmps29 Tryz.results29 (Nb rfl) trivial rfl ?_
  refine KB (KA (oS (mk (KK zr_47) (fun b4=>?_))));refine oP (KO (v:=Iz 0) rfl) (KC (KB (KA (oM ?_))));refine oS (oOpen h rfl rfl (fun b f bd=>?_));refine oA (KC (KB (KB (KA (oM ?_)))));refine oP (KJ (KAI u81 rfl rfl) (show _ = Value.bool false from rfl)) (KC (KH rfl (KM (KB (KB (KA (oM ?_)))))));refine oP (KJ (KCU rfl rfl) (congrArg Value.bool (emp_f hs0))) (KC (KH rfl (KM (KB (rD [] (aM 0 ?_))))));refine aP 1 rfl (KJ (KAE u9 rfl rfl om om) (show _ = .int .u8 ((4:Nat):Int) from congrArg (fun n:Nat=>Value.int .u8 ((n:Nat):Int)) hb)) (aP 2 rfl (KAo u5 u3 rfl om) (aM 3 ?_));refine aP 4 rfl (KJ (KBb u9 rfl rfl om om) (show _ = Value.string (s.extract 1 s.size) from rfl)) (aA 5 ?_);refine aA 6 ?_;refine aE (KB (KA (oS (mk (KK zr_47) (fun b9=>?_)))));refine KC (KB (KA (oA (KC (KB (LCode.block (KB ?_)))))))
  have hrs:(s.extract 1 s.size).size = s.size-1:=by rw [KAk _ _ _ (Nat.le_refl _)]
  refine KA (oM ?_);refine oP (bF rfl rfl (Ku (b:=2)) dc) (oM ?_);refine oGM ?_;refine oGP (bF rfl rfl (Ku (b:=3)) dc) (oP (KT rfl rfl) (oM ?_));refine oK (oK (oK (oK (oK (oK (oK (oK (oP (KT rfl rfl) (oA (KC ?_))))))))));refine KH rfl (KB (KA (oM ?_)));refine oP (bT rfl rfl (Ku (b:=4)) (rfl)) (oM ?_);refine oGM ?_;refine oGP (KAQ u9 rfl) (oGM ?_);refine oGP (KF rfl) (oGP (KE (o':=0) u100 rfl rfl rfl sz_53 dc) (oGP (KE (o':=57) u53 rfl rfl rfl sz_3 dc) (Kt rfl rfl (dL rfl (hv:=KI u3 rfl (by exact KAl _ _ _ _ _ _ _ _ _ _ _ _ _))) (Nb rfl) ?_)));refine oGP (KG rfl rfl (KCB (a:=2) om)) (oGP (bF rfl rfl Ku (om)) (oP (Kd rfl rfl) (oA (KC ?_))));refine KH rfl (KB (KA (oP (KJ (KX pl_47 zr_47 rfl rfl) KDS) (LOps.step rfl (sA rfl rfl sz_47 (by exact KAB _ _ _) (hl:=by exact KW _ _ _) (h:=?_))))));refine oP (KO (v:=Iz 2102) rfl) (KC (KN (eN (.cons ⟨_,_,_,rfl,mM,by exact KD u47 rfl sz_47⟩ (.cons rfl .nil)) ?_)))
  skip
  rfl
theorem c_s_Get_fo (id:Int) (V:Cv) (s:ByteArray) (w:World) (h:cvI id = some V) (hs0:s.size≠0) (hs:s.size<9223372036854775808) (hb2:b0 s≠2) (hb3:b0 s≠3) (hb4:b0 s≠4):CF Tryz.prog 29 [.int .i64 id,.string s] w (.tuple #[ptV 0 0 false,Iz 2102]):=by
  obtain ⟨hok,hid⟩:=KAw h
  have hbb:=hok.bounds
  have hpW:V.p<W9:=Ks hbb.2.1
  have hnW:V.n<W9:=Ks hbb.2.2.2.2.2.2.1
  have hbl:=KAM hnW
  have hnb:nby V.n≤72:=by (unfold nby; omega)
  have hnp:nby V.p≤72:=by have:=KAM (Ks hbb.2.1); (unfold nby; omega)
  have hb256:=b0_lt s
  refine KV (N:=102) (rs:=[.cell 4 47,.tmp 5]) [] Tryz.func29 rfl Tryz.ntmps29 Tryz.results29 (Nb rfl) trivial rfl ?_
  refine KB (KA (oS (mk (KK zr_47) (fun b4=>?_))));refine oP (KO (v:=Iz 0) rfl) (KC (KB (KA (oM ?_))));refine oS (oOpen h rfl rfl (fun b f bd=>?_));refine oA (KC (KB (KB (KA (oM ?_)))));refine oP (KJ (KAI u81 rfl rfl) (show _ = Value.bool false from rfl)) (KC (KH rfl (KM (KB (KB (KA (oM ?_)))))));refine oP (KJ (KCU rfl rfl) (congrArg Value.bool (emp_f hs0))) (KC (KH rfl (KM (KB (rD [] (aM 0 ?_))))));refine aP 1 rfl (KJ (KAE u9 rfl rfl om om) (show _ = .int .u8 (((b0 s):Nat):Int) from congrArg (fun n:Nat=>Value.int .u8 ((n:Nat):Int)) rfl)) (aP 2 rfl (KAo u5 u3 rfl om) (aM 3 ?_));refine aP 4 rfl (KJ (KBb u9 rfl rfl om om) (show _ = Value.string (s.extract 1 s.size) from rfl)) (aA 5 ?_);refine aA 6 ?_;refine aE (KB (KA (oS (mk (KK zr_47) (fun b9=>?_)))));refine KC (KB (KA (oA (KC (KB (LCode.block (KB ?_)))))))
  have hrs:(s.extract 1 s.size).size = s.size-1:=by rw [KAk _ _ _ (Nat.le_refl _)]
  refine KA (oM ?_);refine oP (bF rfl rfl (Ku (b:=2)) (om)) (oM ?_);refine oGM ?_;refine oGP (bF rfl rfl (Ku (b:=3)) (om)) (oP (KT rfl rfl) (oM ?_));refine oK (oK (oK (oK (oK (oK (oK (oK (oP (KT rfl rfl) (oA (KC ?_))))))))));refine KH rfl (KB (KA (oM ?_)));refine oP (bF rfl rfl (Ku (b:=4)) (om)) (oM ?_);refine oK (oK (oK (oK (oK (oK (oK (oK (oK (oP (KT rfl rfl) (oA (KC ?_)))))))))));refine KH rfl (KB (KA (oP (KJ (KX pl_47 zr_47 rfl rfl) KDS) (LOps.step rfl (sA rfl rfl sz_47 (by exact KAB _ _ _) (hl:=by exact KW _ _ _) (h:=?_))))));refine oP (KO (v:=Iz 2102) rfl) (KC (KN (eN (.cons ⟨_,_,_,rfl,mM,by exact KD u47 rfl sz_47⟩ (.cons rfl .nil)) ?_)))
  skip
  rfl
theorem c_s_Get_l (id:Int) (V:Cv) (s:ByteArray) (X Y:Nat) (ok:Bool) (w:World) (h:cvI id = some V) (hsz:s.size = 1+2*nby V.p) (hb:b0 s = 4) (hX:beVal (s.extract 1 (1+nby V.p)).data.toList = X) (hY:beVal (s.extract (1+nby V.p) s.size).data.toList = Y) (hXw:X<W9) (hYw:Y<W9) (hl:onB V.p V.a V.b X Y false = ok):CF Tryz.prog 29 [.int .i64 id,.string s] w (getV V s):=by
  obtain ⟨hok,hid⟩:=KAw h
  have hbb:=hok.bounds
  have hpW:V.p<W9:=Ks hbb.2.1
  have hnW:V.n<W9:=Ks hbb.2.2.2.2.2.2.1
  have hbl:=KAM hnW
  have hnb:nby V.n≤72:=by (unfold nby; omega)
  have hnp:nby V.p≤72:=by have:=KAM (Ks hbb.2.1); (unfold nby; omega)
  have hs0:s.size≠0:=by omega
  refine KV (N:=102) (rs:=[.cell 4 47,.tmp 5]) [] Tryz.func29 rfl Tryz.ntmps29 Tryz.results29 (Nb rfl) trivial rfl ?_
  refine KB (KA (oS (mk (KK zr_47) (fun b4=>?_))));refine oP (KO (v:=Iz 0) rfl) (KC (KB (KA (oM ?_))));refine oS (oOpen h rfl rfl (fun b f bd=>?_));refine oA (KC (KB (KB (KA (oM ?_)))));refine oP (KJ (KAI u81 rfl rfl) (show _ = Value.bool false from rfl)) (KC (KH rfl (KM (KB (KB (KA (oM ?_)))))));refine oP (KJ (KCU rfl rfl) (congrArg Value.bool (emp_f hs0))) (KC (KH rfl (KM (KB (rD [] (aM 0 ?_))))));refine aP 1 rfl (KJ (KAE u9 rfl rfl om om) (show _ = .int .u8 ((4:Nat):Int) from congrArg (fun n:Nat=>Value.int .u8 ((n:Nat):Int)) hb)) (aP 2 rfl (KAo u5 u3 rfl om) (aM 3 ?_));refine aP 4 rfl (KJ (KBb u9 rfl rfl om om) (show _ = Value.string (s.extract 1 s.size) from rfl)) (aA 5 ?_);refine aA 6 ?_;refine aE (KB (KA (oS (mk (KK zr_47) (fun b9=>?_)))));refine KC (KB (KA (oA (KC (KB (LCode.block (KB ?_)))))))
  have hrs:(s.extract 1 s.size).size = s.size-1:=by rw [KAk _ _ _ (Nat.le_refl _)]
  refine KA (oM ?_);refine oP (bF rfl rfl (Ku (b:=2)) dc) (oM ?_);refine oGM ?_;refine oGP (bF rfl rfl (Ku (b:=3)) dc) (oP (KT rfl rfl) (oM ?_));refine oK (oK (oK (oK (oK (oK (oK (oK (oP (KT rfl rfl) (oA (KC ?_))))))))));refine KH rfl (KB (KA (oM ?_)));refine oP (bT rfl rfl (Ku (b:=4)) (rfl)) (oM ?_);refine oGM ?_;refine oGP (KAQ u9 rfl) (oGM ?_);refine oGP (KF rfl) (oGP (KE (o':=0) u100 rfl rfl rfl sz_53 dc) (oGP (KE (o':=57) u53 rfl rfl rfl sz_3 dc) (Kt rfl rfl (dL rfl (hv:=KI u3 rfl (by exact KAl _ _ _ _ _ _ _ _ _ _ _ _ _))) (Nb rfl) ?_)));refine oGP (KG rfl rfl (KCB (a:=2) om)) (oGP (bT rfl rfl Ku (om)) (oP (Kd rfl rfl) (oA (KC ?_))));refine KS rfl (KB (LCode.sub (Sub.cells (b:=b9) (cs':=ptL 0 0 false) mT ptX_zero) ?_));refine KA (oM (oM ?_));refine oP (KF rfl) (oP (KE (o':=0) u100 rfl rfl rfl sz_53 dc) (oP (KE (o':=57) u53 rfl rfl rfl sz_3 dc) (oD (dL rfl (hv:=KI u3 rfl (by exact KAl _ _ _ _ _ _ _ _ _ _ _ _ _))) ?_)))
  refine oP (KJ (KDB u9 rfl rfl om om) (show _ = Value.string (s.extract 1 (1+nby V.p)) from by rw [Int.toNat_natCast,ext_ext s _ om])) ?_;refine oS (cF rfl en_49 rfl (fun w hw=>KCo X (s.extract 1 (1+nby V.p)) w (by rw [KAk _ _ _ om]; omega) hX) ?_);refine oM ?_;refine oX ?_;refine oX ?_;refine oP (KE (o':=0) u47 rfl rfl rfl sz_33 dc) ?_;refine LOps.step rfl (Ko rfl rfl rfl sz_33 (KL _) (Kx _) mT (by simp only [KW]; decide) (ptX_set0 _ _ _ _) (by simp) ?_);refine KC (KB (KA (oM (oM ?_))));refine oP (KF rfl) (oP (KE (o':=0) u100 rfl rfl rfl sz_53 dc) (oP (KE (o':=57) u53 rfl rfl rfl sz_3 dc) (oD (dL rfl (hv:=KI u3 rfl (by exact KAl _ _ _ _ _ _ _ _ _ _ _ _ _))) ?_)));refine oP (KJ (KBb u9 rfl rfl om om) (show _ = Value.string (s.extract (1+nby V.p) s.size) from by rw [Int.toNat_natCast,ext_ext2 s _ om])) ?_
  refine oS (cF rfl en_49 rfl (fun w hw=>KCo Y (s.extract (1+nby V.p) s.size) w (by rw [KAk _ _ _ (Nat.le_refl _)]; omega) hY) ?_);refine oM ?_;refine oX ?_;refine oX ?_;refine oP (KE (o':=9) u47 rfl rfl rfl sz_33 dc) ?_;refine LOps.step rfl (Ko rfl rfl rfl sz_33 (KL _) (Kx _) mT (by simp only [KW]; decide) (ptX_set9 _ _ _ _) (by simp) ?_);refine KC ?_
  cases ok
  ·
   refine KA (oM ?_);refine oD dNb ?_;refine oS (cF rfl en_55 rfl (fun w hw=>c_cOnV false V b f bd hok X Y false w (mC hw) (mC hw) (mC hw) hXw hYw hl) ?_);refine oA (KC (KB (KB (KA (oM ?_)))));refine oP (KJ (KAH rfl) (show _ = Value.bool true from rfl)) (KC (KS rfl (KB (KA (oP (KJ (KX pl_47 zr_47 rfl rfl) KDS) (LOps.step rfl (sA rfl rfl sz_47 (by exact KAB _ _ _) (hl:=by exact KW _ _ _) (h:=?_))))))));refine oP (KO (v:=Iz 2101) rfl) (KC (KN (eN (.cons ⟨_,_,_,rfl,mM,by exact KD u47 rfl sz_47⟩ (.cons rfl .nil)) ?_)))
   subst hX hY
   rw [KCt (get_longF hsz hb hl)]
   rfl
  refine KA (oM ?_);refine oD dNb ?_;refine oS (cF rfl en_55 rfl (fun w hw=>c_cOnV true V b f bd hok X Y false w (mC hw) (mC hw) (mC hw) hXw hYw hl) ?_);refine oA (KC (KB (KB (KA (oM ?_)))));refine oP (KJ (KAH rfl) (show _ = Value.bool false from rfl)) (KC (KH rfl (KM (KB (KA (oD dNb ?_))))));refine LOps.step rfl (sA rfl rfl sz_47 (by exact KAB _ _ _) (hl:=by exact KW _ _ _) (h:=?_));refine oP (KO (v:=Iz 0) rfl) (KC (KN (eN (.cons ⟨_,_,_,rfl,mM,by exact KD u47 rfl sz_47⟩ (.cons rfl .nil)) ?_)))
  subst hX hY
  rw [KCt (get_long hsz hb hl)]
  unfold getX getY
  rfl
theorem c_s_Get4 (id:Int) (V:Cv) (s:ByteArray) (X Y:Nat) (w:World) (h:cvI id = some V) (hsz:s.size = 1+2*nby V.p) (hb:b0 s = 4) (hX:beVal (s.extract 1 (1+nby V.p)).data.toList = X) (hY:beVal (s.extract (1+nby V.p) s.size).data.toList = Y) (hXw:X<W9) (hYw:Y<W9) (hl:onB V.p V.a V.b X Y false = true):CF Tryz.prog 29 [.int .i64 id,.string s] w (.tuple #[ptV X Y false,Iz 0]):=by
  obtain ⟨hok,hid⟩:=KAw h
  have hbb:=hok.bounds
  have hpW:V.p<W9:=Ks hbb.2.1
  have hnW:V.n<W9:=Ks hbb.2.2.2.2.2.2.1
  have hbl:=KAM hnW
  have hnb:nby V.n≤72:=by (unfold nby; omega)
  have hnp:nby V.p≤72:=by have:=KAM (Ks hbb.2.1); (unfold nby; omega)
  have hs0:s.size≠0:=by omega
  refine KV (N:=102) (rs:=[.cell 4 47,.tmp 5]) [] Tryz.func29 rfl Tryz.ntmps29 Tryz.results29 (Nb rfl) trivial rfl ?_
  refine KB (KA (oS (mk (KK zr_47) (fun b4=>?_))));refine oP (KO (v:=Iz 0) rfl) (KC (KB (KA (oM ?_))));refine oS (oOpen h rfl rfl (fun b f bd=>?_));refine oA (KC (KB (KB (KA (oM ?_)))));refine oP (KJ (KAI u81 rfl rfl) (show _ = Value.bool false from rfl)) (KC (KH rfl (KM (KB (KB (KA (oM ?_)))))));refine oP (KJ (KCU rfl rfl) (congrArg Value.bool (emp_f hs0))) (KC (KH rfl (KM (KB (rD [] (aM 0 ?_))))));refine aP 1 rfl (KJ (KAE u9 rfl rfl om om) (show _ = .int .u8 ((4:Nat):Int) from congrArg (fun n:Nat=>Value.int .u8 ((n:Nat):Int)) hb)) (aP 2 rfl (KAo u5 u3 rfl om) (aM 3 ?_));refine aP 4 rfl (KJ (KBb u9 rfl rfl om om) (show _ = Value.string (s.extract 1 s.size) from rfl)) (aA 5 ?_);refine aA 6 ?_;refine aE (KB (KA (oS (mk (KK zr_47) (fun b9=>?_)))));refine KC (KB (KA (oA (KC (KB (LCode.block (KB ?_)))))))
  have hrs:(s.extract 1 s.size).size = s.size-1:=by rw [KAk _ _ _ (Nat.le_refl _)]
  refine KA (oM ?_);refine oP (bF rfl rfl (Ku (b:=2)) dc) (oM ?_);refine oGM ?_;refine oGP (bF rfl rfl (Ku (b:=3)) dc) (oP (KT rfl rfl) (oM ?_));refine oK (oK (oK (oK (oK (oK (oK (oK (oP (KT rfl rfl) (oA (KC ?_))))))))));refine KH rfl (KB (KA (oM ?_)));refine oP (bT rfl rfl (Ku (b:=4)) (rfl)) (oM ?_);refine oGM ?_;refine oGP (KAQ u9 rfl) (oGM ?_);refine oGP (KF rfl) (oGP (KE (o':=0) u100 rfl rfl rfl sz_53 dc) (oGP (KE (o':=57) u53 rfl rfl rfl sz_3 dc) (Kt rfl rfl (dL rfl (hv:=KI u3 rfl (by exact KAl _ _ _ _ _ _ _ _ _ _ _ _ _))) (Nb rfl) ?_)));refine oGP (KG rfl rfl (KCB (a:=2) om)) (oGP (bT rfl rfl Ku (om)) (oP (Kd rfl rfl) (oA (KC ?_))));refine KS rfl (KB (LCode.sub (Sub.cells (b:=b9) (cs':=ptL 0 0 false) mT ptX_zero) ?_));refine KA (oM (oM ?_));refine oP (KF rfl) (oP (KE (o':=0) u100 rfl rfl rfl sz_53 dc) (oP (KE (o':=57) u53 rfl rfl rfl sz_3 dc) (oD (dL rfl (hv:=KI u3 rfl (by exact KAl _ _ _ _ _ _ _ _ _ _ _ _ _))) ?_)))
  refine oP (KJ (KDB u9 rfl rfl om om) (show _ = Value.string (s.extract 1 (1+nby V.p)) from by rw [Int.toNat_natCast,ext_ext s _ om])) ?_;refine oS (cF rfl en_49 rfl (fun w hw=>KCo X (s.extract 1 (1+nby V.p)) w (by rw [KAk _ _ _ om]; omega) hX) ?_);refine oM ?_;refine oX ?_;refine oX ?_;refine oP (KE (o':=0) u47 rfl rfl rfl sz_33 dc) ?_;refine LOps.step rfl (Ko rfl rfl rfl sz_33 (KL _) (Kx _) mT (by simp only [KW]; decide) (ptX_set0 _ _ _ _) (by simp) ?_);refine KC (KB (KA (oM (oM ?_))));refine oP (KF rfl) (oP (KE (o':=0) u100 rfl rfl rfl sz_53 dc) (oP (KE (o':=57) u53 rfl rfl rfl sz_3 dc) (oD (dL rfl (hv:=KI u3 rfl (by exact KAl _ _ _ _ _ _ _ _ _ _ _ _ _))) ?_)));refine oP (KJ (KBb u9 rfl rfl om om) (show _ = Value.string (s.extract (1+nby V.p) s.size) from by rw [Int.toNat_natCast,ext_ext2 s _ om])) ?_
  refine oS (cF rfl en_49 rfl (fun w hw=>KCo Y (s.extract (1+nby V.p) s.size) w (by rw [KAk _ _ _ (Nat.le_refl _)]; omega) hY) ?_);refine oM ?_;refine oX ?_;refine oX ?_;refine oP (KE (o':=9) u47 rfl rfl rfl sz_33 dc) ?_;refine LOps.step rfl (Ko rfl rfl rfl sz_33 (KL _) (Kx _) mT (by simp only [KW]; decide) (ptX_set9 _ _ _ _) (by simp) ?_);refine KC (KA (oM ?_));refine oD dNb ?_;refine oS (cF rfl en_55 rfl (fun w hw=>c_cOnV true V b f bd hok X Y false w (mC hw) (mC hw) (mC hw) hXw hYw hl) ?_);refine oA (KC (KB (KB (KA (oM ?_)))));refine oP (KJ (KAH rfl) (show _ = Value.bool false from rfl)) (KC (KH rfl (KM (KB (KA (oD dNb ?_))))));refine LOps.step rfl (sA rfl rfl sz_47 (by exact KAB _ _ _) (hl:=by exact KW _ _ _) (h:=?_));refine oP (KO (v:=Iz 0) rfl) (KC (KN (eN (.cons ⟨_,_,_,rfl,mM,by exact KD u47 rfl sz_47⟩ (.cons rfl .nil)) ?_)))
  skip
  rfl
theorem nby_posV {V:Cv} (hok:V.Ok):1≤nby V.p:=by
  have hb:=hok.bounds
  have:=KCM V.p
  unfold nby
  rcases Nat.eq_zero_or_pos (blen V.p) with h|h
  · rw [h] at this; omega
  · omega
theorem getX_w9 {V:Cv} (hnb:nby V.p≤72) {s:ByteArray} (h:1+nby V.p≤s.size):getX V s<W9:=KCj (by show (s.extract 1 (1+nby V.p)).size≤72; rw [KAk _ _ _ h]; omega)
theorem getY_w9 {V:Cv} (hnb:nby V.p≤72) {s:ByteArray} (h:s.size = 1+2*nby V.p):getY V s<W9:=KCj (by show (s.extract (1+nby V.p) s.size).size≤72; rw [KAk _ _ _ (Nat.le_refl _)]; omega)
theorem nbp_72 {V:Cv} (hok:V.Ok):nby V.p≤72:=by have:=KAM (Ks hok.bounds.2.1); (unfold nby; omega)
theorem c_s_Get (id:Int) (V:Cv) (s:ByteArray) (w:World) (h:cvI id = some V) (hs:s.size<9223372036854775808):CF Tryz.prog 29 [.int .i64 id,.string s] w (getV V s):=by
  obtain ⟨hok,-⟩:=KAw h
  have hnb:=nbp_72 hok
  have hk1:=nby_posV hok
  by_cases h0:s.size = 0
  · have e : s = ⟨#[]⟩ := by
      obtain ⟨d⟩:=s
      have h1:d.size = 0:=h0
      rw [Array.size_eq_zero_iff.1 h1]
    rw [KCt (get_form om om),e]
    exact c_s_Get_emp id V w h
  · by_cases h2:b0 s = 2
    · by_cases h1:s.size = 1+nby V.p
      · have hx:beVal (s.extract 1 s.size).data.toList = getX V s:=by unfold getX; rw [← h1]
        exact c_s_Get_s0 id V s (getX V s) (liftT V (getX V s) 0).1 (liftT V (getX V s) 0).2.1 (liftT V (getX V s) 0).2.2 w h h1 h2 hx (getX_w9 hnb om) rfl
      · rw [KCt (get_form om om)]
        exact c_s_Get_f2 id V s w h h0 hs h2 h1
    · by_cases h3:b0 s = 3
      · by_cases h1:s.size = 1+nby V.p
        · have hx:beVal (s.extract 1 s.size).data.toList = getX V s:=by unfold getX; rw [← h1]
          exact c_s_Get_s1 id V s (getX V s) (liftT V (getX V s) 1).1 (liftT V (getX V s) 1).2.1 (liftT V (getX V s) 1).2.2 w h h1 h3 hx (getX_w9 hnb om) rfl
        · rw [KCt (get_form om om)]
          exact c_s_Get_f3 id V s w h h0 hs h3 h1
      · by_cases h4:b0 s = 4
        · by_cases h1:s.size = 1+2*nby V.p
          · exact c_s_Get_l id V s (getX V s) (getY V s) _ w h h1 h4 rfl rfl (getX_w9 hnb om) (getY_w9 hnb h1) rfl
          · rw [KCt (get_form om om)]
            exact c_s_Get_f4 id V s w h h0 hs h4 h1
        · rw [KCt (get_form om om)]
          exact c_s_Get_fo id V s w h h0 hs h2 h3 h4
end Go.Proofs.YtnpeokiboiclfaaGreat
set_option linter.unusedVariables false
set_option linter.unusedSimpArgs false
set_option maxRecDepth 20000
namespace Go.Proofs.YtnpeokiboiclfaaGreat
open Go Go.RowKit
theorem Rel.setOwn {C : Ctx} {st : St} {a : Act} {w w' : World} (h : Rel C st a w) {x x' : Item} {R : List Item} (hp : Pick x st.H R) (hx : x.wr = true) (hx' : x'.holds w')
    (hnew:∀ k,k∈x'.fp→w.heap.size≤k∨k∈x.fp) (hf:Fr (fun k=>k∈x.fp) w w'):Rel C ⟨st.T,x' :: R⟩ a w':=by
  have hpm:=hp.perm
  have hdist:(x :: R).Pairwise Apart:=(hpm.pairwise_iff (fun h=>Apart.symm h)).1 h.dist
  obtain ⟨hXR,hR⟩:=List.pairwise_cons.1 hdist
  have inR:∀ y,y∈R→y∈st.H:=fun y hy=>hpm.mem_iff.2 (.tail _ hy)
  have inX:x∈st.H:=hpm.mem_iff.2 (.head _)
  refine ⟨h.size,h.defers,h.tm,fun y hy=>?_,fun y hy hw k hk=>?_,?_,?_⟩
  · rcases List.mem_cons.1 hy with rfl|hy
    · exact hx'
    · have hold:=h.hp y (inR y hy)
      exact KAr hold (fun k hk=>hf.block k (Item.lt hold k hk) (fun hkx=>hXR y hy (.inl hx) k hkx hk)) hf.size
  · rcases List.mem_cons.1 hy with rfl|hy
    · rcases hnew k hk with h1|h1
      · exact .inl (Nat.le_trans h.fr.size h1)
      · exact h.own x inX hx k h1
    · exact h.own y (inR y hy) hw k hk
  · refine List.pairwise_cons.2 ⟨fun y hy _ k hk hk'=>?_,hR⟩
    rcases hnew k hk with h1|h1
    · have:=Item.lt (h.hp y (inR y hy)) k hk'
      omega
    · exact hXR y hy (.inl hx) k h1 hk'
  · refine ⟨hf.os.trans h.fr.os,hf.tape.trans h.fr.tape,hf.output.trans h.fr.output,Nat.le_trans h.fr.size hf.size,fun k hk1 hk2=>?_⟩
    refine (hf.block k (Nat.lt_of_lt_of_le hk1 h.fr.size) (fun hkx=>?_)).trans (h.fr.block k hk1 hk2)
    rcases h.own x inX hx k hkx with h1|h1
    · omega
    · exact hk2 h1
abbrev TrRow:=Option (Nat×Nat×List Value)
def trV (b:Option Nat):Value:=.pointer (b.map fun b=>⟨b,0,none⟩)
def evsL (l:List Nat):List Value:=l.flatMap fun k=>[Iz 2,Iz k]
theorem evsL_length (l:List Nat):(evsL l).length = l.length*2:=by
  induction l with
  | nil=>rfl
  | cons k l ih =>
    show ([Iz 2,Iz k]++evsL l).length = _
    rw [List.length_append,ih,List.length_cons]; show 2+l.length*2 = (l.length+1)*2; omega
theorem evsL_snoc (l:List Nat) (k:Nat):evsL (l++[k]) = evsL l++[Iz 2,Iz k]:=by simp [evsL]
def trSl (r:TrRow) (n:Nat):Value:=match r with
  | none=>.slice none 0 0
  | some r=>.slice (some ⟨r.1,0,none⟩) n r.2.1
def trFp (b:Option Nat) (r:TrRow):List Nat:=match b with
  | none=>[]
  | some b=>match r with
    | none=>[b]
    | some r=>[b,r.1]
def trP (b:Option Nat) (r:TrRow) (l:List Nat) (w:World):Prop:=match b with
  | none=>True
  | some b=>w.heap[b]? = some (.cells [trSl r l.length].toArray 224 (0,0))∧match r with
    | none=>l = []
    | some r=>w.heap[r.1]? = some (.cells (evsL l++r.2.2).toArray 313 (0,0))∧(evsL l).length+r.2.2.length = r.2.1*2∧r.1≠b
def trI (b:Option Nat) (r:TrRow) (l:List Nat):Item:=.own (trFp b r) (trP b r l)
theorem trI_P {b:Option Nat} {r:TrRow} {l:List Nat} {w:World} (h:(trI b r l).holds w):trP b r l w:=h.2 w (KDC _ _)
theorem trI_of {b:Option Nat} {r:TrRow} {l:List Nat} {w:World} (h:trP b r l w):(trI b r l).holds w:=by
  rcases b with _|b
  · exact ⟨fun k hk=>(by cases hk),fun _ _=>trivial⟩
  · rcases r with _|r
    · obtain ⟨h1,h2⟩:=h
      refine ⟨fun k hk=>?_,fun w' ha=>⟨(ha b (.head _)).trans h1,h2⟩⟩
      have:k = b:=by simpa [trFp] using hk
      subst this; exact KDF h1
    · obtain ⟨h1,h2,h3,h4⟩:=h
      refine ⟨fun k hk=>?_,fun w' ha=>⟨(ha b (.head _)).trans h1,(ha r.1 (.tail _ (.head _))).trans h2,h3,h4⟩⟩
      have:k = b∨k = r.1:=by simpa [trFp] using hk
      rcases this with rfl|rfl
      · exact KDF h1
      · exact KDF h2
theorem trI_nil (l:List Nat) (w:World):(trI none none l).holds w:=trI_of trivial
def Out (b:Option Nat) (r:TrRow) (x:Item):Prop:=∀ k,k∈trFp b r→k ∉ x.fp
theorem Out.nil (r:TrRow) (x:Item):Out none r x:=fun k hk=>by cases hk
def Outs (b:Option Nat) (r:TrRow):List Item→Prop
  | []=>True
  | x :: t=>Out b r x∧Outs b r t
theorem Outs.mem {b:Option Nat} {r:TrRow} {H:List Item} (h:Outs b r H):∀ x,x∈H→Out b r x:=by
  induction H with
  | nil=>intro x hx; cases hx
  | cons y t ih =>
    intro x hx
    rcases List.mem_cons.1 hx with rfl|hx
    · exact h.1
    · exact ih h.2 x hx
def TrR (w:World) (b:Option Nat) (r:TrRow) (l:List Nat) (v:Value) (e:Ending) (w':World):Prop :=
  ∃ r',e = .returned v∧(trI b r' l).holds w'∧(∀ k,k∈trFp b r'→w.heap.size≤k∨k∈trFp b r)∧Fr (fun k=>k∈trFp b r) w w'
theorem TrR.nil {w:World} {r:TrRow} {l:List Nat} {v:Value} {e:Ending} {w':World} (h:TrR w none r l v e w'):e = .returned v∧Below w.heap.size w w':=by
  obtain ⟨_,h1,_,_,h2⟩:=h
  exact ⟨h1,h2.os,h2.tape,h2.output,h2.size,fun k hk=>h2.block k hk (fun hk'=>by cases hk')⟩
theorem TrR.same {w:World} {b:Option Nat} {r:TrRow} {l:List Nat} {v:Value} {e:Ending} {w':World} (h:(trI b r l).holds w) (he:e = .returned v) (hb:Below w.heap.size w w'):TrR w b r l v e w' :=
  ⟨r,he,KAr h (fun k hk=>hb.block k (Item.lt h k hk)) hb.size,fun k hk=>.inr hk,hb.os,hb.tape,hb.output,hb.size,fun k hk _=>hb.block k hk⟩
section
variable {P:Program} {C:Ctx} {ty:TypeId} {pos:String} {aft:Array Edge} {d:Nat} {K:St→Prop} {x:Operand} {v:Value}
theorem KBv {T : List (Nat × Value)} {H R : List Item} {f : FuncId} {xs : List Operand} {vs first : List Value} {ats : Array TypeId} {g : Option (Nat × Bool)} {b : Option Nat} {r : TrRow} {l l' : List Nat} (hf : evT T x = some (.func (.func f) first.toArray #[])) (he : KY P f) (ha : evL T xs = some vs) (hd : d < C.N)
    (hp:Pick (trI b r l) H R)
    (hc:∀ w,(∀ x,x∈H→x.holds w)→(∀ y,y∈R→Out b r y)→Calls P f (first++vs).toArray w (TrR w b r l' v))
    (h:∀ r',K ⟨(d,v) :: T,trI b r' l' :: R⟩):KAX P C ⟨some d,.call { callee:=.value x,args:=xs.toArray,argTypes:=ats },ty,pos,aft,g⟩ ⟨T,H⟩ K:=by
  unfold KAX
  intro a w hr Qr
  obtain ⟨fn,h1,h2,h3⟩:=he
  have hdist:(trI b r l :: R).Pairwise Apart:=(hp.perm.pairwise_iff (fun h=>Apart.symm h)).1 hr.dist
  refine wp_callee (vs:=first++vs) ?_ (hc w hr.hp (fun y hy k hk=>(List.pairwise_cons.1 hdist).1 y hy (.inl rfl) k hk)) ?_
  · have:=hr.evs ha
    simp [execOp,resolve,hr.ev hf,Deferred.ofValue,invoke,run_call h1 h2 h3,this]
  · rintro e' w' ⟨r',rfl,hits,hnew,hfr⟩
    exact ⟨v,rfl,_,h r',(hr.setOwn hp rfl hits hnew hfr).put hd v⟩
end
theorem calls_tr {P : Program} {f : FuncId} {fn : Func} {c : Code} {vs : List Value} {w : World} (b : Option Nat) (r : TrRow) (l : List Nat) (H : List Item) {rs : List ResultVar} {N : Nat} {R : Ending → World → Prop} (hf : P.funcs[f]? = some fn) (hb : fn.body = some c) (hn : fn.ntmps = N) (hs : fn.results = rs.toArray)
    (hlen:vs.length≤N) (h0:(trI b r l).holds w) (hH:Hold w H) (hro:H.all (fun x=>!x.wr) = true) (hne:Outs b r H)
    (h:LCode P ⟨w,fun k=>k∈trFp b r,N⟩ c ⟨argT 0 vs,trI b r l :: H⟩ (LEnd P ⟨w,fun k=>k∈trFp b r,N⟩ rs fun v _ w'=>R (.returned v) w')):Calls P f vs.toArray w R:=by
  have hr:∀ x,x∈H→x.wr = false:=by
    intro x hx
    have:=List.all_eq_true.1 hro x hx
    simpa using this
  refine KDc hf hb hn hs hlen ?_ ?_ ?_ h
  · intro x hx
    rcases List.mem_cons.1 hx with rfl|hx
    · exact h0
    · exact hH.mem x hx
  · intro x hx hw k hk
    rcases List.mem_cons.1 hx with rfl|hx
    · exact hk
    · rw [hr x hx] at hw; cases hw
  · exact List.pairwise_cons.2 ⟨fun y hy _ k hk hk'=>hne.mem y hy k hk hk',List.pairwise_of_forall_mem_list (fun x hx y hy hw=>(by rw [hr x hx,hr y hy] at hw; rcases hw with hw|hw <;> cases hw))⟩
theorem Rel.tr {w:World} {b:Option Nat} {r r':TrRow} {l:List Nat} {N:Nat} {st:St} {a:Act} {w':World} {v:Value} (h:Rel ⟨w,fun k=>k∈trFp b r,N⟩ st a w') (hm:trI b r' l∈st.H):TrR w b r l v (.returned v) w' :=
  ⟨r',rfl,h.hp _ hm,fun k hk=>h.own _ hm rfl k hk,h.fr⟩
theorem calls_wM {P : Program} {f : FuncId} {fn : Func} {c : Code} {vs : List Value} {w : World} (X : List Item) (W : Nat → Prop) {rs : List ResultVar} {N : Nat} {R : Ending → World → Prop} (hf : P.funcs[f]? = some fn) (hb : fn.body = some c) (hn : fn.ntmps = N) (hs : fn.results = rs.toArray)
    (hlen:vs.length≤N) (hX:Hold w X) (hd:X.Pairwise Apart) (hW:∀ x,x∈X→x.wr = true→∀ k,k∈x.fp→W k)
    (h:LCode P ⟨w,W,N⟩ c ⟨argT 0 vs,X⟩ (LEnd P ⟨w,W,N⟩ rs fun v _ w'=>R (.returned v) w')):Calls P f vs.toArray w R :=
  KDc hf hb hn hs hlen hX.mem hW hd h
theorem apart_two {H:List Item} (h:H.Pairwise Apart) {b c:Nat} {B D:Blk} (hx:Item.blk b B∈H) (hy:Item.blk c D∈H) (hw:B.wr = true) (hne:B.elem≠D.elem):c≠b:=by
  rintro rfl
  have hne':Item.blk c B≠Item.blk c D:=fun e=>by injection e with _ e; exact hne (congrArg Blk.elem e)
  have key:∀ (l:List Item),l.Pairwise Apart→Item.blk c B∈l→Item.blk c D∈l→False:=by
    intro l hl h1 h2
    induction l with
    | nil=>cases h1
    | cons q l ih =>
      obtain ⟨g1,g2⟩:=List.pairwise_cons.1 hl
      rcases List.mem_cons.1 h1 with e1|k1 <;> rcases List.mem_cons.1 h2 with e2|k2
      · exact hne' (e1.trans e2.symm)
      · subst e1; exact g1 (.blk c D) k2 (.inl hw) c (.head _) (.head _)
      · subst e2; exact g1 (.blk c B) k1 (.inr hw) c (.head _) (.head _)
      · exact ih g2 k1 k2
  exact key H h hx hy
section
variable {P:Program} {C:Ctx} {ty:TypeId} {pos:String} {aft:Array Edge} {d:Nat} {K:St→Prop} {x y:Operand} {t e:TypeId}
theorem LStepW.appendSM {s : Nat} {T : List (Nat × Value)} {H H0 : List Item} {b a0 c0 n cap m bytes : Nat} {zv : Value} {xs rest news cs more : List Value} {wr : Bool} {ea : TypeId} {fz : Nat × Nat} {g : Option (Nat × Bool)} (hx : evT T x = some (.slice (some ⟨b, 0, none⟩) n cap)) (hy : evT T y = some (.slice (some ⟨a0, 0, none⟩) m c0))
    (ht:P.underlying t = some (.slice e)) (hi:infOf P e = some (zv,s,bytes)) (hz0:zv.cells.size = s) (hp:Pick (.blk b ⟨true,xs++rest,e,(0,0)⟩) H H0) (hm:Item.blk a0 ⟨wr,cs,ea,fz⟩∈H0) (hcs:cs = news++more) (hxl:xs.length = n*s) (hcl:xs.length+rest.length = cap*s) (hml:news.length = m*s) (ho:KBT news)
    (hn:(n+m)*bytes≤140737488355328) (hn2:n+m≤1000000000) (hd:d<C.N)
    (h:∀ b' cap' rest',xs.length+news.length+rest'.length = cap'*s→K ⟨(d,.slice (some ⟨b',0,none⟩) (n+m) cap') :: T,.blk b' ⟨true,(xs++news)++rest',e,(0,0)⟩ :: H0⟩):KAX P C ⟨some d,.call { callee:=.builtin .append,args:=#[x,y],argTypes:=#[t,t] },ty,pos,aft,g⟩ ⟨T,H⟩ K:=by
  unfold KAX
  intro a w hr Qr
  obtain ⟨i,hi1,hi3,hi2,hi4⟩:=inf_spec hi
  have hpm:=hp.perm
  have hin:Item.blk b ⟨true,xs++rest,e,(0,0)⟩∈H:=hpm.mem_iff.2 (.head _)
  have hb:w.heap[b]? = some (.cells (xs++rest).toArray e (0,0)):=hr.hp _ hin
  have ha:w.heap[a0]? = some (.cells cs.toArray ea fz):=hr.hp _ (hpm.mem_iff.2 (.tail _ hm))
  subst hcs
  have hpos:=hr.own _ hin rfl b (by simp [Item.fp])
  have hdd:(Item.blk b ⟨true,xs++rest,e,(0,0)⟩ :: H0).Pairwise Apart:=(List.Perm.pairwise_iff (fun h=>Apart.symm h) hpm).1 hr.dist
  obtain ⟨hd1,hd2⟩:=List.pairwise_cons.1 hdd
  have hmm:∀ x,x∈H0→x∈H:=fun x hx=>hpm.mem_iff.2 (.tail _ hx)
  have hnews:∀ j u,news[j]? = some u→w.cell? ((⟨a0,0,none⟩:Addr).add j) = some u:=fun j u hj=>by
    have hadd:(⟨a0,0,none⟩:Addr).add j = ⟨a0,0+j,none⟩:=by unfold Addr.add; split <;> simp_all
    rw [hadd,cellOf ha,Nat.zero_add,List.getElem?_append_left (by rcases Nat.lt_or_ge j news.length with h'|h'; exact h'; rw [List.getElem?_eq_none h'] at hj; cases hj)]; exact hj
  have hsel:Rel C ⟨T,H0⟩ a w:=⟨hr.size,hr.defers,hr.tm,fun x hx=>hr.hp x (hmm x hx),fun x hx=>hr.own x (hmm x hx),hd2,hr.fr⟩
  unfold Oper.wp
  by_cases hroom:n+m≤cap
  · have hrr:=run_append_room (P:=P) w t ty e i ht hi1 b n cap (xs++rest).toArray hb ⟨a0,0,none⟩ m c0 news (by rw [hi2]; exact hml) hnews (fun u hu=>by have:=ho u hu; cases u <;> simp_all [one,Value.oneCell']) hroom (by have hs2:=Nat.mul_le_mul_right s hroom; rw [Nat.add_mul] at hs2; simp [hi2]; omega)
    rw [KCZ (hr.ev hx) (hr.ev hy) hrr]
    have e1:((xs++rest).toArray.toList.take (n*i.size)++news++(xs++rest).toArray.toList.drop (n*i.size+news.length)) = (xs++news)++rest.drop (m*s):=by
      rw [hi2,hml,← hxl]
      simp
    rw [e1]
    have hK:=h b cap (rest.drop (m*s)) (by have hs2:=Nat.mul_le_mul_right s hroom; rw [Nat.add_mul] at hs2; simp; omega)
    refine ⟨_,hK,?_⟩
    have hnew:(w.setRow b ((xs++news)++rest.drop (m*s)).toArray).heap[b]? = some (.cells ((xs++news)++rest.drop (m*s)).toArray e (0,0)):=setRow_heap w b _ _ e _ hb
    have hoth:∀ k,k≠b→(w.setRow b ((xs++news)++rest.drop (m*s)).toArray).heap[k]? = w.heap[k]?:=fun k hk=>setRow_other w b k _ hk
    have hr2:Rel C ⟨T,.blk b ⟨true,xs++rest,e,(0,0)⟩ :: H0⟩ a w:=⟨hr.size,hr.defers,hr.tm,fun x hx=>hr.hp x (hpm.mem_iff.2 hx),fun x hx=>hr.own x (hpm.mem_iff.2 hx),hdd,hr.fr⟩
    exact (hr2.setBlk (B':=⟨true,(xs++news)++rest.drop (m*s),e,(0,0)⟩) (SetAt.head _) rfl hnew hoth (by simp [World.setRow]) rfl rfl rfl).put hd _
  · have hrr := run_append_grow (P := P) w t ty e i zv ht hi1 hi3 ⟨b, 0, none⟩ n cap xs (by rw [hi2]; exact hxl) (fun j u hj => by
      have hadd:(⟨b,0,none⟩:Addr).add j = ⟨b,0+j,none⟩:=by unfold Addr.add; split <;> simp_all
      rw [hadd,cellOf hb,Nat.zero_add]
      rcases Nat.lt_or_ge j xs.length with h'|h'
      · rw [List.getElem?_append_left h']; exact hj
      · rw [List.getElem?_eq_none h'] at hj; cases hj) ⟨a0,0,none⟩ m c0 news (by rw [hi2]; exact hml) hnews om om (growslice_fits om (by rw [hi4]; exact hn))
    rw [KCZ (hr.ev hx) (hr.ev hy) hrr]
    have hge:=grownCap_ge w (n+m) cap e
    have hK:=h w.heap.size (grownCap w (n+m) cap e) (Builtin.zeroCells zv.cells (grownCap w (n+m) cap e-(n+m))).toList (by
      have hzz:=size_zeroCells zv.cells (grownCap w (n+m) cap e-(n+m))
      rw [hz0] at hzz
      rw [← Array.length_toList,Nat.sub_mul,Nat.add_mul] at hzz
      have hs2:=Nat.mul_le_mul_right s hge
      rw [Nat.add_mul] at hs2
      omega)
    refine ⟨_,hK,?_⟩
    have hal:=hsel.drew.alloc ((xs++news)++(Builtin.zeroCells zv.cells (grownCap w (n+m) cap e-(n+m))).toList) e
    have hcs:((xs++news)++(Builtin.zeroCells zv.cells (grownCap w (n+m) cap e-(n+m))).toList).toArray = xs.toArray++news.toArray++Builtin.zeroCells zv.cells (grownCap w (n+m) cap e-(n+m)):=by
      apply Array.ext'
      simp
    rw [hcs] at hal
    exact hal.put hd _
theorem KDU {s : Nat} {T : List (Nat × Value)} {H H0 : List Item} {b a0 c0 n cap m bytes : Nat} {zv : Value} {xs rest news : List Value} {wr : Bool} {ea : TypeId} {fz : Nat × Nat} {g : Option (Nat × Bool)} (hx : evT T x = some (.slice (some ⟨b, 0, none⟩) n cap)) (hy : evT T y = some (.slice (some ⟨a0, 0, none⟩) m c0))
    (ht:P.underlying t = some (.slice e)) (hi:infOf P e = some (zv,s,bytes)) (hz0:zv.cells.size = s) (hp:Pick (.blk b ⟨true,xs++rest,e,(0,0)⟩) H H0) (hm:Item.blk a0 ⟨wr,news,ea,fz⟩∈H0) (hxl:xs.length = n*s) (hcl:xs.length+rest.length = cap*s) (hml:news.length = m*s) (ho:KBT news)
    (hn:(n+m)*bytes≤140737488355328) (hn2:n+m≤1000000000) (hd:d<C.N)
    (h:∀ b' cap' rest',xs.length+news.length+rest'.length = cap'*s→K ⟨(d,.slice (some ⟨b',0,none⟩) (n+m) cap') :: T,.blk b' ⟨true,(xs++news)++rest',e,(0,0)⟩ :: H0⟩):KAX P C ⟨some d,.call { callee:=.builtin .append,args:=#[x,y],argTypes:=#[t,t] },ty,pos,aft,g⟩ ⟨T,H⟩ K :=
  LStepW.appendSM (cs:=news) (more:=[]) hx hy ht hi hz0 hp hm (List.append_nil _).symm hxl hcl hml ho hn hn2 hd h
theorem KCe {s : Nat} {T : List (Nat × Value)} {H : List Item} {a0 c0 m bytes : Nat} {zv : Value} {news : List Value} {wr : Bool} {ea : TypeId} {fz : Nat × Nat} {g : Option (Nat × Bool)} (hx : evT T x = some (.slice none 0 0)) (hy : evT T y = some (.slice (some ⟨a0, 0, none⟩) m c0))
    (ht:P.underlying t = some (.slice e)) (hi:infOf P e = some (zv,s,bytes)) (hz0:zv.cells.size = s) (hm:Item.blk a0 ⟨wr,news,ea,fz⟩∈H) (hml:news.length = m*s) (h0:0<m)
    (hn:m*bytes≤140737488355328) (hn2:m≤1000000000) (hd:d<C.N)
    (h:∀ b' cap' rest',news.length+rest'.length = cap'*s→K ⟨(d,.slice (some ⟨b',0,none⟩) m cap') :: T,.blk b' ⟨true,news++rest',e,(0,0)⟩ :: H⟩):KAX P C ⟨some d,.call { callee:=.builtin .append,args:=#[x,y],argTypes:=#[t,t] },ty,pos,aft,g⟩ ⟨T,H⟩ K:=by
  unfold KAX
  intro a w hr Qr
  obtain ⟨i,hi1,hi3,hi2,hi4⟩:=inf_spec hi
  have ha:w.heap[a0]? = some (.cells news.toArray ea fz):=hr.hp _ hm
  have hnews:∀ j u,news[j]? = some u→w.cell? ((⟨a0,0,none⟩:Addr).add j) = some u:=fun j u hj=>by
    have hadd:(⟨a0,0,none⟩:Addr).add j = ⟨a0,0+j,none⟩:=by unfold Addr.add; split <;> simp_all
    rw [hadd,cellOf ha,Nat.zero_add]; exact hj
  unfold Oper.wp
  have hrr:=run_append_nil (P:=P) w t ty e i zv ht hi1 hi3 ⟨a0,0,none⟩ m c0 news (by rw [hi2]; exact hml) hnews h0 om (by rw [hi4]; omega)
  rw [KCZ (hr.ev hx) (hr.ev hy) hrr]
  have hge:=grownCap_ge w m 0 e
  have hK:=h w.heap.size (grownCap w m 0 e) (Builtin.zeroCells zv.cells (grownCap w m 0 e-m)).toList (by
    have hzz:=size_zeroCells zv.cells (grownCap w m 0 e-m)
    rw [hz0] at hzz
    rw [← Array.length_toList,Nat.sub_mul] at hzz
    have hs2:=Nat.mul_le_mul_right s hge
    omega)
  refine ⟨_,hK,?_⟩
  have hal:=hr.drew.alloc (news++(Builtin.zeroCells zv.cells (grownCap w m 0 e-m)).toList) e
  have hcs:(news++(Builtin.zeroCells zv.cells (grownCap w m 0 e-m)).toList).toArray = news.toArray++Builtin.zeroCells zv.cells (grownCap w m 0 e-m):=by
    apply Array.ext'
    simp
  rw [hcs] at hal
  exact hal.put hd _
end
end Go.Proofs.YtnpeokiboiclfaaGreat
set_option linter.unusedVariables false
set_option linter.unusedSimpArgs false
set_option maxRecDepth 20000
namespace Go.Proofs.YtnpeokiboiclfaaGreat
open Go Go.RowKit
theorem inf_ev:infOf Tryz.prog 313 = some (.agg ([Iz 0,Iz 0]:List Value).toArray,2,16):=kr
theorem fill_ev (k:Nat):fillL ((List.range 1).map fun i=>(i*2,2)) [Iz 0,Iz 0] [(0,.agg ([Iz 2,Iz k]:List Value).toArray)] = some [Iz 2,Iz k]:=fillL_whole rfl rfl
theorem row_ev:((Array.range (1*2)).map fun i=>(Value.agg ([Iz 0,Iz 0]:List Value).toArray).cells[i%(Value.agg ([Iz 0,Iz 0]:List Value).toArray).cells.size]!) = ([Iz 0,Iz 0]:List Value).toArray:=kr
theorem c_trNew  (w:World)  : Calls Tryz.prog 101 ([]:List Value).toArray w (fun e w'=>∃ v its,(∃ b,v = trV (some b)∧its = [trI (some b) none []])∧e = .returned v∧Brings w [] its w'):=by
  refine KV (N:=3) (rs:=[.tmp 0]) [] Tryz.func101 rfl Tryz.ntmps101 Tryz.results101 (Nb rfl) trivial rfl ?_
  refine KB (KA (oA (KC (KB (KA ?_)))));refine oP (KX pl_224 zr_224 rfl rfl) (oS (mB (fun b2=>?_)));refine oA (KC (KN ?_))
  exact ⟨[_],.cons rfl .nil,fun a w' hr=>⟨_,_,⟨b2,rfl,rfl⟩,rfl,hr.fr.below,fun x hx=>by
    obtain rfl:x = _:=by simpa using hx
    exact trI_of ⟨hr.hp (.blk b2 ⟨true,[.slice none 0 0],224,(0,0)⟩) mM,rfl⟩,fun x hx k hk=>by
    obtain rfl:x = _:=by simpa using hx
    obtain rfl:k = b2:=by simpa [trI,trFp,Item.fp] using hk
    exact .inl (hr.new (B:=⟨true,_,_,_⟩) mM rfl),fun x hx _ k hk=>by
    obtain rfl:x = _:=by simpa using hx
    obtain rfl:k = b2:=by simpa [trI,trFp,Item.fp] using hk
    exact hr.new (B:=⟨true,_,_,_⟩) mM rfl,List.pairwise_singleton _ _⟩⟩
theorem c_trIndex0 (k:Nat) (w:World)  : CF Tryz.prog 183 [trV none,Iz k] w (Iz 1):=by
  refine KV (N:=18) (rs:=[.tmp 4]) [] Tryz.func183 rfl Tryz.ntmps183 Tryz.results183 (Nb rfl) trivial rfl ?_
  refine KB (KA (oP (KO (v:=Iz 0) rfl) (KC (KB (KB (KA (oM ?_)))))));refine oP (KJ (KAI u86 rfl rfl) (show _ = Value.bool true from rfl)) (KC (KS rfl (KB (KA (oP (KO (v:=Iz 1) rfl) (KC (KN (eN (.cons rfl .nil) ?_))))))))
  rfl
theorem c_trIndex1 (b k:Nat) (w:World) (hb:trP (some b) none [] w):Calls Tryz.prog 183 ([trV (some b),Iz k]:List Value).toArray w (fun e w'=>TrR w (some b) none [k] (Iz 0) e w'):=by
  refine calls_wM (N:=18) (rs:=[.tmp 4]) [.blk b ⟨true,[.slice none 0 0],224,(0,0)⟩] (fun j=>j∈trFp (some b) none) Tryz.func183 rfl Tryz.ntmps183 Tryz.results183 (Nb rfl) ⟨hb.1,trivial⟩ (List.pairwise_singleton _ _) (fun x hx _ j hj=>by
    obtain rfl:x = _:=by simpa using hx
    exact hj) ?_
  refine KB (KA (oP (KO (v:=Iz 0) rfl) (KC (KB (KB (KA (oM ?_)))))));refine oP (KJ (KAI u86 rfl rfl) (show _ = Value.bool false from rfl)) (KC (KH rfl (KM (KB (KA (oM (oM ?_)))))));refine oP (KF rfl) (oP (KE (o':=0) u224 rfl rfl rfl sz_222 dc) (oD (dL rfl (hv:=KI u222 rfl gL)) ?_));refine oM ?_;refine oP (KJ (KX pl_313 zr_313 rfl rfl) (show _ = Value.agg ([Iz 2,Iz k]:List Value).toArray from rfl)) (oS (mk (KCH (vs:=[(0,.agg ([Iz 2,Iz k]:List Value).toArray)]) u222 inf_ev dc row_ev rfl (fill_ev k) (fun h=>by cases h)) (fun b14=>?_)));refine LOps.step rfl (KCe (s:=2) (news:=[Iz 2,Iz k]) rfl rfl u222 inf_ev rfl mM rfl dc dc dc (Nb rfl) ?_)
  intro b1 cap1 rest1 hc1
  refine oP (KF rfl) (oP (KE (o':=0) u224 rfl rfl rfl sz_222 dc) (LOps.step rfl (KZ rfl rfl rfl sz_222 mT lT sT (by simp) ?_)));refine KC (KB (KA (oP (KO (v:=Iz 0) rfl) (KC (KN (⟨[_],.cons rfl .nil,fun a w' hr=>?_⟩))))))
  have g1:=hr.hp (Item.blk b ⟨true,[.slice (some ⟨b1,0,none⟩) 1 cap1],224,(0,0)⟩) mM
  have g2:=hr.hp (Item.blk b1 ⟨true,[Iz 2,Iz k]++rest1,313,(0,0)⟩) mM
  have o1:=hr.own (Item.blk b ⟨true,[.slice (some ⟨b1,0,none⟩) 1 cap1],224,(0,0)⟩) mM rfl
  have o2:=hr.own (Item.blk b1 ⟨true,[Iz 2,Iz k]++rest1,313,(0,0)⟩) mM rfl
  have hap:b1≠b:=apart_two hr.dist (b:=b) (B:=⟨true,[.slice (some ⟨b1,0,none⟩) 1 cap1],224,(0,0)⟩) (c:=b1) (D:=⟨true,[Iz 2,Iz k]++rest1,313,(0,0)⟩) mM mM rfl (fun e=>absurd (show (224:Nat) = 313 from e) dc)
  exact ⟨some (b1,cap1,rest1),rfl,trI_of ⟨g1,g2,hc1,hap⟩,fun j hj=>(by
    have hj':j = b∨j = b1:=by simpa [trFp] using hj
    rcases hj' with rfl|rfl
    · exact o1 j (.head _)
    · exact o2 j (.head _)),hr.fr⟩
theorem c_trIndex2 (b r cap:Nat) (rest:List Value) (l:List Nat) (k:Nat) (w:World) (hb:trP (some b) (some (r,cap,rest)) l w) (hl:l.length≤100000000):Calls Tryz.prog 183 ([trV (some b),Iz k]:List Value).toArray w (fun e w'=>TrR w (some b) (some (r,cap,rest)) (l++[k]) (Iz 0) e w'):=by
  refine calls_wM (N:=18) (rs:=[.tmp 4]) [.blk b ⟨true,[.slice (some ⟨r,0,none⟩) l.length cap],224,(0,0)⟩,.blk r ⟨true,evsL l++rest,313,(0,0)⟩] (fun j=>j∈trFp (some b) (some (r,cap,rest))) Tryz.func183 rfl Tryz.ntmps183 Tryz.results183 (Nb rfl) ⟨hb.1,hb.2.1,trivial⟩ (List.pairwise_cons.2 ⟨fun y hy _ j hj hj'=>by
    obtain rfl:y = _:=by simpa using hy
    obtain rfl:j = b:=by simpa [Item.fp] using hj
    exact hb.2.2.2 (by simpa [Item.fp] using hj':j = r).symm,List.pairwise_singleton _ _⟩) (fun x hx _ j hj=>by
    rcases List.mem_cons.1 hx with rfl|hx
    · obtain rfl:j = b:=by simpa [Item.fp] using hj
      exact .head _
    · obtain rfl:x = _:=by simpa using hx
      obtain rfl:j = r:=by simpa [Item.fp] using hj
      exact .tail _ (.head _)) ?_
  refine KB (KA (oP (KO (v:=Iz 0) rfl) (KC (KB (KB (KA (oM ?_)))))));refine oP (KJ (KAI u86 rfl rfl) (show _ = Value.bool false from rfl)) (KC (KH rfl (KM (KB (KA (oM (oM ?_)))))));refine oP (KF rfl) (oP (KE (o':=0) u224 rfl rfl rfl sz_222 dc) (oD (dL rfl (hv:=KI u222 rfl gL)) ?_));refine oM ?_;refine oP (KJ (KX pl_313 zr_313 rfl rfl) (show _ = Value.agg ([Iz 2,Iz k]:List Value).toArray from rfl)) (oS (mk (KCH (vs:=[(0,.agg ([Iz 2,Iz k]:List Value).toArray)]) u222 inf_ev dc row_ev rfl (fill_ev k) (fun h=>by cases h)) (fun b14=>?_)));refine LOps.step rfl (KDU (s:=2) (m:=1) (xs:=evsL l) (rest:=rest) (news:=[Iz 2,Iz k]) rfl rfl u222 inf_ev rfl mP mM (evsL_length l) (by have:=hb.2.2.1; exact this) rfl (Km rfl (Km rfl Kz)) om om (Nb rfl) ?_)
  intro b1 cap1 rest1 hc1
  refine oP (KF rfl) (oP (KE (o':=0) u224 rfl rfl rfl sz_222 dc) (LOps.step rfl (KZ rfl rfl rfl sz_222 mT lT sT (by simp) ?_)));refine KC (KB (KA (oP (KO (v:=Iz 0) rfl) (KC (KN ?_)))))
  have hc2:(evsL (l++[k])).length+rest1.length = cap1*2:=by rw [evsL_snoc,List.length_append]; exact hc1
  have hsl:(l++[k]).length = l.length+1:=by simp
  refine ⟨[_],.cons rfl .nil,fun a w' hr=>?_⟩
  have g1:=hr.hp (Item.blk b ⟨true,[.slice (some ⟨b1,0,none⟩) (l.length+1) cap1],224,(0,0)⟩) mM
  have g2:=hr.hp (Item.blk b1 ⟨true,(evsL l++[Iz 2,Iz k])++rest1,313,(0,0)⟩) mM
  have o1:=hr.own (Item.blk b ⟨true,[.slice (some ⟨b1,0,none⟩) (l.length+1) cap1],224,(0,0)⟩) mM rfl
  have o2:=hr.own (Item.blk b1 ⟨true,(evsL l++[Iz 2,Iz k])++rest1,313,(0,0)⟩) mM rfl
  have hap:b1≠b:=apart_two hr.dist (b:=b) (B:=⟨true,[.slice (some ⟨b1,0,none⟩) (l.length+1) cap1],224,(0,0)⟩) (c:=b1) (D:=⟨true,(evsL l++[Iz 2,Iz k])++rest1,313,(0,0)⟩) mM mM rfl (fun e=>absurd (show (224:Nat) = 313 from e) dc)
  rw [← evsL_snoc] at g2
  rw [← hsl] at g1
  exact ⟨some (b1,cap1,rest1),rfl,trI_of ⟨g1,g2,hc2,hap⟩,fun j hj=>(by
    have hj':j = b∨j = b1:=by simpa [trFp] using hj
    rcases hj' with rfl|rfl
    · exact o1 j (.head _)
    · exact o2 j (.head _)),hr.fr⟩
def trE (b:Option Nat):Int:=match b with
  | none=>1
  | some _=>0
theorem c_trIndex (b:Option Nat) (r:TrRow) (l:List Nat) (k:Nat) (w:World) (h:(trI b r l).holds w) (hl:l.length≤100000000):Calls Tryz.prog 183 ([trV b,Iz k]:List Value).toArray w (TrR w b r (l++[k]) (.int .i64 (trE b))):=by
  rcases b with _|b
  · exact (c_trIndex0 k w).mono fun e w' ⟨h1,h2⟩=>TrR.same (trI_of trivial) h1 h2
  · have hp:=trI_P h
    rcases r with _|⟨r,cap,rest⟩
    · obtain rfl:=hp.2
      exact c_trIndex1 b k w hp
    · exact c_trIndex2 b r cap rest l k w hp hl
theorem neg64 {x:Nat} (h0:x≠0) (hx:x<18446744073709551616):Value.int .u64 (IntKind.u64.wrap (0-(x:Int))) = .int .u64 ((18446744073709551616-x:Nat):Int):=by
  rw [wrap_u64,show (0-(x:Int))%18446744073709551616 = ((18446744073709551616-x:Nat):Int) by omega]
theorem cpl64 {y:Nat} (hy:y<18446744073709551616):Value.int .u64 (IntKind.u64.wrap (BitVec.ofInt IntKind.u64.bits IntKind.u64.max ^^^ BitVec.ofInt IntKind.u64.bits (y:Int)).toNat) = .int .u64 ((18446744073709551615-y:Nat):Int):=by
  have e3:(BitVec.ofInt IntKind.u64.bits IntKind.u64.max ^^^ BitVec.ofInt IntKind.u64.bits (y:Int)).toNat = 18446744073709551615-y:=by
    show (BitVec.ofInt 64 18446744073709551615 ^^^ BitVec.ofInt 64 (y:Int)).toNat = _
    rw [show BitVec.ofInt 64 18446744073709551615 = BitVec.allOnes 64 by decide,BitVec.ofInt_natCast,BitVec.allOnes_xor,BitVec.toNat_not,BitVec.toNat_ofNat,Nat.mod_eq_of_lt (show y<2^64 from hy)]
  rw [e3,KAT,Nat.mod_eq_of_lt om]
theorem or_top {x:Nat} (h0:x≠0) (hx:x<18446744073709551616):9223372036854775808≤x ||| (18446744073709551616-x):=by
  have h1:=(Nat.left_le_or:x≤x ||| (18446744073709551616-x))
  have h2:=(Nat.right_le_or:18446744073709551616-x≤x ||| (18446744073709551616-x))
  omega
theorem xor_zero {a b:Nat}:a ^^^ b = 0↔a = b:=by
  constructor
  · intro h
    have:=congrArg (· ^^^ b) h
    simpa [Nat.xor_assoc] using this
  · rintro rfl; exact Nat.xor_self _
theorem c_spread (b:Nat) (w:World) (hb:b≤1):CF Tryz.prog 224 [.int .u64 ((b:Nat):Int)] w (.int .u64 ((if b = 0 then 0 else 18446744073709551615:Nat):Int)):=by
  refine KV (N:=6) (rs:=[.tmp 2]) [] Tryz.func224 rfl Tryz.ntmps224 Tryz.results224 (Nb rfl) trivial rfl ?_
  refine KB (KA (oP (KO (v:=.int .u64 ((0:Nat):Int)) rfl) (KC (KB ?_))))
  rcases (show b = 0∨b = 1 by omega) with rfl|rfl
  ·
   refine KA (oM ?_);refine oP (KG rfl rfl (KBR (b:=1) dc dc)) (oP (Det.neg rfl) (oA (KC (KN ?_))));refine eN (.cons rfl .nil) ?_
   rfl
  refine KA (oM ?_);refine oP (KG rfl rfl (KBR (b:=1) dc dc)) (oP (Det.neg rfl) (oA (KC (KN ?_))));refine eN (.cons rfl .nil) ?_
  rfl
theorem c_mZero (x:Nat) (w:World) (hx:x<18446744073709551616):CF Tryz.prog 207 [.int .u64 ((x:Nat):Int)] w (.int .u64 ((if x = 0 then 18446744073709551615 else 0:Nat):Int)):=by
  refine KV (N:=10) (rs:=[.tmp 2]) [] Tryz.func207 rfl Tryz.ntmps207 Tryz.results207 (Nb rfl) trivial rfl ?_
  refine KB (KA (oP (KO (v:=.int .u64 ((0:Nat):Int)) rfl) (KC (KB ?_))))
  by_cases h0:x = 0
  ·
   subst h0
   refine KA (oM (oM ?_));refine oP (Det.neg rfl) (oP (KG rfl rfl (KCT (b:=0) dc dc)) (oP (Det.cpl rfl rfl) (oP (KG (v:=.int .u64 ((1:Nat):Int)) rfl rfl kr) (oS (cF rfl en_224 rfl (fun w hw=>c_spread 1 w dc) ?_)))));refine oA (KC (KN ?_));refine ⟨[_],.cons rfl .nil,fun a w' hr=>⟨rfl,hr.fr.below⟩⟩
  have ht:=or_top h0 hx
  have hlt:x ||| (18446744073709551616-x)<18446744073709551616:=Nat.or_lt_two_pow (n:=64) hx om
  refine KA (oM (oM ?_));refine oP (KJ (Det.neg rfl) (neg64 h0 hx)) (oP (KG rfl rfl (KCT hx om)) (oP (KJ (Det.cpl rfl rfl) (cpl64 hlt)) (oP (KJ (KG rfl rfl (KAm (b:=63) om)) (vi (b:=0) (Nat.div_eq_of_lt om))) (oS (cF rfl en_224 rfl (fun w hw=>c_spread 0 w dc) ?_)))));refine oA (KC (KN ?_));refine eN (.cons rfl .nil) ?_
  rw [if_neg h0]
  rfl
theorem c_mEqual (a b:Nat) (w:World) (ha:a<18446744073709551616) (hb:b<18446744073709551616):CF Tryz.prog 184 [.int .u64 ((a:Nat):Int),.int .u64 ((b:Nat):Int)] w (.int .u64 ((if a = b then 18446744073709551615 else 0:Nat):Int)):=by
  refine KV (N:=9) (rs:=[.tmp 4]) [] Tryz.func184 rfl Tryz.ntmps184 Tryz.results184 (Nb rfl) trivial rfl ?_
  refine KB (KA (oP (KO (v:=.int .u64 ((0:Nat):Int)) rfl) (KC (KB (KA (oM (oM ?_)))))));refine oP (KG rfl rfl (br_xor64 ha hb)) (oS (cF rfl en_207 rfl (fun w hw=>c_mZero (a ^^^ b) w (Nat.xor_lt_two_pow (n:=64) ha hb)) ?_));refine oA (KC (KN ?_));refine ⟨[_],.cons rfl .nil,fun a_ w' hr=>⟨?_,hr.fr.below⟩⟩
  show Ending.returned (.int .u64 ((if a ^^^ b = 0 then 18446744073709551615 else 0:Nat):Int)) = _
  by_cases h:a = b
  · rw [if_pos h,if_pos (xor_zero.2 h)]
  · rw [if_neg h,if_neg (fun e=>h (xor_zero.1 e))]
theorem andNot_0 {b:Nat} (hb:b<18446744073709551616):Kp .andNot .u64 (b:Int) .u64 ((0:Nat):Int) = some (.int .u64 (b:Int)):=by
  simp only [Kp,if_true]
  have e:(BitVec.ofInt 64 (b:Int) &&& ~~~BitVec.ofInt 64 0).toNat = b:=by
    rw [show ~~~BitVec.ofInt 64 0 = BitVec.allOnes 64 by decide,BitVec.and_allOnes,BitVec.ofInt_natCast,BitVec.toNat_ofNat,Nat.mod_eq_of_lt (show b<2^64 from hb)]
  show some (Value.int .u64 (IntKind.u64.wrap ((BitVec.ofInt 64 (b:Int) &&& ~~~BitVec.ofInt 64 0).toNat:Int))) = _
  rw [e,KAT,Nat.mod_eq_of_lt hb]
theorem andNot_m {b:Nat}:Kp .andNot .u64 (b:Int) .u64 ((18446744073709551615:Nat):Int) = some (.int .u64 ((0:Nat):Int)):=by
  simp only [Kp,if_true]
  have e:(BitVec.ofInt 64 (b:Int) &&& ~~~BitVec.ofInt 64 18446744073709551615).toNat = 0:=by
    rw [show ~~~BitVec.ofInt 64 18446744073709551615 = 0#64 by decide,BitVec.and_zero]; rfl
  show some (Value.int .u64 (IntKind.u64.wrap ((BitVec.ofInt 64 (b:Int) &&& ~~~BitVec.ofInt 64 18446744073709551615).toNat:Int))) = _
  rw [e]; rfl
theorem and_max {a:Nat} (ha:a<18446744073709551616):a &&& 18446744073709551615 = a:=by
  rw [show 18446744073709551615 = 2^64-1 from rfl,Nat.and_two_pow_sub_one_eq_mod]
  exact Nat.mod_eq_of_lt ha
theorem c_word (m a b:Nat) (w:World) (hm:m = 0∨m = 18446744073709551615) (ha:a<18446744073709551616) (hb:b<18446744073709551616):CF Tryz.prog 209 [.agg ([.int .u64 ((m:Nat):Int)]:List Value).toArray,.int .u64 ((a:Nat):Int),.int .u64 ((b:Nat):Int)] w (.int .u64 ((if m = 0 then b else a:Nat):Int)):=by
  refine KV (N:=16) (rs:=[.tmp 6]) [] Tryz.func209 rfl Tryz.ntmps209 Tryz.results209 (Nb rfl) trivial rfl ?_
  refine KB (KA (oS (mB (fun b3=>?_))));refine oP (KO (v:=.int .u64 ((0:Nat):Int)) rfl) (KC (KB ?_))
  rcases hm with rfl|rfl
  ·
   refine KA (oM ?_);refine oP (KE (o':=0) u317 rfl rfl rfl sz_30 dc) (oD (dL rfl (hv:=KI u30 rfl gL)) ?_);refine oP (KJ (KG rfl rfl (KBR (b:=0) ha dc)) (vi (b:=0) (Nat.and_zero _))) (oM ?_);refine oP (KE (o':=0) u317 rfl rfl rfl sz_30 dc) (oD (dL rfl (hv:=KI u30 rfl gL)) ?_);refine oP (KG rfl rfl (andNot_0 hb)) (oP (KJ (KG rfl rfl (KCT (a:=0) dc hb)) (vi (b:=b) (Nat.zero_or _))) (oA (KC (KN ?_))));refine eN (.cons rfl .nil) ?_
   rfl
  refine KA (oM ?_);refine oP (KE (o':=0) u317 rfl rfl rfl sz_30 dc) (oD (dL rfl (hv:=KI u30 rfl gL)) ?_);refine oP (KJ (KG rfl rfl (KBR (b:=18446744073709551615) ha dc)) (vi (b:=a) (and_max ha))) (oM ?_);refine oP (KE (o':=0) u317 rfl rfl rfl sz_30 dc) (oD (dL rfl (hv:=KI u30 rfl gL)) ?_);refine oP (KG rfl rfl andNot_m) (oP (KJ (KG rfl rfl (KCT (b:=0) ha dc)) (vi (b:=a) (Nat.or_zero _))) (oA (KC (KN ?_))));refine eN (.cons rfl .nil) ?_
  rfl
theorem c_wordL (m A B R x:Nat) (w:World) (hm:m = 0∨m = 18446744073709551615) (hR:R = if m = 0 then B else A):CF Tryz.prog 209 [.agg ([.int .u64 ((m:Nat):Int)]:List Value).toArray,.int .u64 ((limb A x:Nat):Int),.int .u64 ((limb B x:Nat):Int)] w (.int .u64 ((limb R x:Nat):Int)):=by
  have h:=c_word m (limb A x) (limb B x) w hm (limb_lt _ _) (limb_lt _ _)
  rw [show limb R x = if m = 0 then limb B x else limb A x by rw [hR]; split <;> rfl]
  exact h
theorem mix_get {R A x:Nat} (h:x<9):(vec .u64 9 (fun k=>if k<x then limb R k else limb A k))[x]? = some (.int .u64 ((limb A x:Nat):Int)):=by
  rw [Ki _ _ _ h,if_neg (Nat.lt_irrefl x)]
theorem mix_step (R A x:Nat):vec .u64 9 (fun j=>if j = x then limb R x else (if j<x then limb R j else limb A j)) = vec .u64 9 (fun k=>if k<x+1 then limb R k else limb A k):=Kq fun k _=>by
  by_cases e:k = x
  · subst e; rw [if_pos rfl,if_pos (Nat.lt_succ_self _)]
  · rw [if_neg e]
    by_cases l:k<x
    · rw [if_pos l,if_pos om]
    · rw [if_neg l,if_neg om]
theorem c_mNat (m A B R:Nat) (w:World) (hm:m = 0∨m = 18446744073709551615) (hR:R = if m = 0 then B else A):CF Tryz.prog 208 [.func (.func 209) #[.agg ([.int .u64 ((m:Nat):Int)]:List Value).toArray] #[],natV A,natV B] w (natV R):=by
  refine KV (N:=26) (rs:=[.cell 6 33]) [] Tryz.func208 rfl Tryz.ntmps208 Tryz.results208 (Nb rfl) trivial rfl ?_
  refine KB (KA (oS (mB (fun b4=>?_))));refine oS (mB (fun b5=>?_));refine oS (mk (KK zr_33) (fun b6=>?_));refine KC (KB (KB (KA (oP (Kf (v:=Iz 0) rfl) (KC (LCode.block (Kc (α:=Nat) (fun x=>x≤9) (fun x=>⟨[(0,.func (.func 209) #[.agg ([.int .u64 ((m:Nat):Int)]:List Value).toArray] #[]),(4,Pz b4),(5,Pz b5),(6,Pz b6),(8,Iz x)],[.blk b6 ⟨true,vec .u64 9 (fun _=>0),33,(0,0)⟩,.blk b5 ⟨true,natL B,33,(0,0)⟩,.blk b4 ⟨true,vec .u64 9 (fun k=>if k<x then limb R k else limb A k),33,(0,0)⟩]⟩) (fun x=>9-x) (0) (Nat.zero_le _) (KAD (Sub.cells (b:=b4) (cs':=vec .u64 9 (fun k=>if k<0 then limb R k else limb A k)) mT (Kq fun k _=>(if_neg (Nat.not_lt_zero k)).symm)) (Ka ⟨rfl,rfl,rfl,rfl,rfl,trivial⟩ mS)) ?_)))))))
  intro x hx
  refine KB (KA (oP (KG rfl rfl (KAA (b:=9))) (KC (KB ?_))))
  first|refine KQ rfl (fun h9=>?_) (fun h9=>?_)|refine KR rfl (fun h9=>?_) (fun h9=>?_)
  ·
   have h9:x<9:=h9
   refine KM (KB (LCode.block (KB (KA (oM (oA (KC (rD [13] ?_))))))));refine aM 0 ?_;refine aM 1 ?_;refine aM 2 ?_;refine aP 3 rfl (KE (o':=0) u33 rfl rfl rfl sz_31 dc) (aP 4 rfl (KP u31 sz_30 rfl rfl om) (aD 5 rfl (dL rfl (hv:=KI u30 rfl (by exact mix_get om))) ?_));refine aM 6 ?_;refine aP 7 rfl (KE (o':=0) u33 rfl rfl rfl sz_31 dc) (aP 8 rfl (KP u31 sz_30 rfl rfl om) (aD 9 rfl (dL rfl (hv:=KI u30 rfl gL)) ?_));refine aP 11 rfl (KE (o':=0) u33 rfl rfl rfl sz_31 dc) (aO 10 rfl (Ky (first:=[.agg ([.int .u64 ((m:Nat):Int)]:List Value).toArray]) rfl en_209 rfl (Nb rfl) (fun w hw=>c_wordL m A B R x w hm hR) ?_));refine aP 12 rfl (KP u31 sz_30 rfl rfl om) (aL 13 rfl (KZ rfl rfl rfl sz_30 mT lT sT (by simp) ?_));refine aE (KA (oP (KG rfl rfl (Kj (b:=1) om)) (oM (KC ?_))));refine ⟨x+1,by omega,by omega,KAD (Sub.cells (b:=b4) (cs':=vec .u64 9 (fun k=>if k<x+1 then limb R k else limb A k)) mT (mix_step R A x)) (Ka ⟨rfl,rfl,rfl,rfl,rfl,trivial⟩ mS)⟩
  have h9:¬ x<9:=h9
  refine Kb (KB ?_)
  obtain rfl:x = 9:=by omega
  refine LCode.sub (Sub.cells (b:=b4) (cs':=natL R) mT (Kq fun k hk=>by rw [if_pos hk])) ?_;refine KA (oD dNa ?_);refine oT rfl rfl sz_33 ?_;refine KC (KN (eN (.cons ⟨_,_,_,rfl,mM,by exact KD u33 rfl sz_33⟩ .nil) ?_))
  rfl
theorem c_mSelect (m A B R:Nat) (w:World) (hm:m = 0∨m = 18446744073709551615) (hR:R = if m = 0 then B else A):CF Tryz.prog 185 [.int .u64 ((m:Nat):Int),natV A,natV B] w (natV R):=by
  refine KV (N:=13) (rs:=[.cell 6 33]) [] Tryz.func185 rfl Tryz.ntmps185 Tryz.results185 (Nb rfl) trivial rfl ?_
  refine KB (KA (oS (mB (fun b4=>?_))));refine oS (mB (fun b5=>?_));refine oS (mk (KK zr_33) (fun b6=>?_));refine KC (KB (KA (oM ?_)));refine oP (KJ (KX pl_317 zr_317 rfl rfl) (show _ = Value.agg ([.int .u64 ((m:Nat):Int)]:List Value).toArray from rfl)) (oP (Kw rfl) (oD dNa ?_));refine oD dNa ?_;refine oS (cF rfl en_208 rfl (fun w hw=>c_mNat m A B R w hm hR) ?_);refine oT rfl rfl sz_33 ?_;refine KC (KN (eN (.cons ⟨_,_,_,rfl,mM,by exact KD u33 rfl sz_33⟩ .nil) ?_))
  rfl
end Go.Proofs.YtnpeokiboiclfaaGreat
set_option linter.unusedVariables false
set_option linter.unusedSimpArgs false
set_option maxRecDepth 20000
namespace Go.Proofs.YtnpeokiboiclfaaGreat
open Go Go.RowKit
open Grp
section
variable {P:Program} {C:Ctx} {d:Nat} {ty:TypeId} {pos:String} {aft:Array Edge} {K:St→Prop} {x:Operand} {v:Value}
theorem LStep.callK {T : List (Nat × Value)} {H : List Item} {f : FuncId} {xs : List Operand} {vs caps : List Value} {ats : Array TypeId} {g : Option (Nat × Bool)} (hf : evT T x = some (.func (.func f) #[] caps.toArray)) (he : KY P f) (ha : evL T xs = some vs) (hd : d < C.N)
    (hc:∀ w,(∀ x,x∈H→x.holds w)→Calls P f (vs++caps).toArray w (fun e w'=>e = .returned v∧Below w.heap.size w w'))
    (h:K ⟨(d,v) :: T,H⟩):LStep P C ⟨some d,.call { callee:=.value x,args:=xs.toArray,argTypes:=ats },ty,pos,aft,g⟩ ⟨T,H⟩ K:=by
  unfold LStep; intro a w hr Qr
  obtain ⟨fn,h1,h2,h3⟩:=he
  refine wp_callee (vs:=vs++caps) ?_ (hc w hr.hp) ?_
  · have:=hr.evs ha
    simp [execOp,resolve,hr.ev hf,Deferred.ofValue,invoke,run_call h1 h2 h3,this]
  · rintro e w' ⟨rfl,hb⟩
    exact ⟨v,rfl,hb,_,h,(hr.below hb).put hd v⟩
end
theorem c_slope (V:Cv) (b f bd:Nat) (hok:V.Ok) (l x1 y1 x2 y2:Fin V.p) (i j:Bool) (w:World) (hb:(Item.blk b ⟨false,opL V f,100,(0,0)⟩).holds w) (hf:(Item.blk f ⟨false,fldL V.p bd,165,(0,0)⟩).holds w) (hbd:(Item.blk bd ⟨false,dvL V.p,269,(0,0)⟩).holds w):CF Tryz.prog 236 [.agg ([Pz b]:List Value).toArray,natV l.val,ptV x1.val y1.val i,ptV x2.val y2.val j] w (ptV (l*l-x1-x2).val (l*(x1-(l*l-x1-x2))-y1).val false):=by
  have hbb:=hok.bounds
  have hpW:V.p<W9:=Ks hbb.2.1
  refine KV (N:=42) (rs:=[.cell 8 47]) [.blk b ⟨false,opL V f,100,(0,0)⟩,.blk f ⟨false,fldL V.p bd,165,(0,0)⟩,.blk bd ⟨false,dvL V.p,269,(0,0)⟩] Tryz.func236 rfl Tryz.ntmps236 Tryz.results236 (Nb rfl) ⟨hb,hf,hbd,trivial⟩ rfl ?_
  refine KB (KA (oS (mB (fun b4=>?_))));refine oS (mB (fun b5=>?_));refine oS (mB (fun b6=>?_));refine oS (mB (fun b7=>?_));refine oS (mk (KK zr_47) (fun b8=>?_));refine KC (KB (KA (oP (KE (o':=0) u132 rfl rfl rfl sz_81 dc) (oD (dL rfl (hv:=KI u81 rfl gL)) ?_))));refine oP (KF rfl) (oP (KE (o':=59) u100 rfl rfl rfl sz_98 dc) (oD (dL rfl (hv:=KI u98 rfl (by exact KAt _ _ _ _ _ _ _ _ _ _ _ _ _))) ?_));refine oA (KC (KB (rD [13] ?_)));refine aM 0 ?_;refine aM 1 ?_;refine aM 2 ?_;refine aD 3 rfl dNa ?_;refine aD 4 rfl dNa ?_;refine aP 6 rfl (KE (o':=0) u47 rfl rfl rfl sz_33 dc) (aD 7 rfl (dL rfl (hv:=by exact Kh u33 rfl sz_33 rfl (KL _))) ?_);refine aP 9 rfl (KE (o':=0) u47 rfl rfl rfl sz_33 dc) (aD 10 rfl (dL rfl (hv:=by exact Kh u33 rfl sz_33 rfl (KL _))) ?_)
  refine KAR ?_;refine Kl 12 rfl (.inl zr_33) (Nb rfl) rfl rfl rfl ?_;refine LAnyP.step 5 rfl rfl rfl (Nb rfl) kr rfl (Ke (first:=[]) rfl en_97 rfl (fun w hw=>KAa V hok f bd _ _ w (mC hw) (mC hw))) ?_
  rintro _ _ ⟨rfl,rfl⟩
  refine LAnyP.step 8 rfl rfl rfl (Nb rfl) kr rfl (Ke (first:=[]) rfl KDG rfl (fun w hw=>KCb V hok f bd _ _ w (mC hw))) ?_
  rintro _ _ ⟨rfl,rfl⟩
  refine LAnyP.step 11 rfl rfl rfl (Nb rfl) kr rfl (Ke (first:=[]) rfl KDG rfl (fun w hw=>KCb V hok f bd _ _ w (mC hw))) ?_
  rintro _ _ ⟨rfl,rfl⟩
  refine pE (fun b10=>?_);refine Kv ?_;refine aL 13 rfl (sA rfl rfl sz_33 mO (hl:=mL) (h:=?_));refine aE (KB (rD [14] (aD 0 rfl dNa ?_)));refine aM 1 ?_;refine aM 2 ?_;refine aD 3 rfl dNa ?_;refine aM 4 ?_;refine aP 5 rfl (KE (o':=0) u47 rfl rfl rfl sz_33 dc) (aD 6 rfl (dL rfl (hv:=by exact Kh u33 rfl sz_33 rfl (KL _))) ?_);refine aD 7 rfl dNa ?_;refine aP 10 rfl (KE (o':=9) u47 rfl rfl rfl sz_33 dc) (aD 11 rfl (dL rfl (hv:=by exact KCN _ _ _ _ _ _)) ?_);refine aO 8 rfl (cF rfl KDG rfl (fun w hw=>KCb V hok f bd _ _ w (mC hw)) ?_);refine aO 9 rfl (cF rfl en_97 rfl (fun w hw=>KAa V hok f bd _ _ w (mC hw) (mC hw)) ?_);refine aO 12 rfl (cF rfl KDG rfl (fun w hw=>KCb V hok f bd _ _ w (mC hw)) ?_);refine aP 13 rfl (KJ (KX pl_47 zr_47 rfl (fill_pt _ _)) rfl) (aL 14 rfl (sA rfl rfl sz_47 mO (hl:=mL) (h:=?_)))
  refine aE (KN (eN (.cons ⟨_,_,_,rfl,mM,by exact KD u47 rfl sz_47⟩ .nil) ?_))
  rfl
theorem c_gadd (V:Cv) (b f bd:Nat) (hok:V.Ok) (P P2 R:Pt V.p) (w:World) (hb:(Item.blk b ⟨false,opL V f,100,(0,0)⟩).holds w) (hf:(Item.blk f ⟨false,fldL V.p bd,165,(0,0)⟩).holds w) (hbd:(Item.blk bd ⟨false,dvL V.p,269,(0,0)⟩).holds w) (hP:On V.A V.B P) (hP2:On V.A V.B P2) (hR:padd V.A P P2 = R):CF Tryz.prog 235 [.agg ([Pz b]:List Value).toArray,ptP P,ptP P2] w (ptP R):=by
  have hbb:=hok.bounds
  have hpW:V.p<W9:=Ks hbb.2.1
  refine KV (N:=96) (rs:=[.cell 6 47]) [.blk b ⟨false,opL V f,100,(0,0)⟩,.blk f ⟨false,fldL V.p bd,165,(0,0)⟩,.blk bd ⟨false,dvL V.p,269,(0,0)⟩] Tryz.func235 rfl Tryz.ntmps235 Tryz.results235 (Nb rfl) ⟨hb,hf,hbd,trivial⟩ rfl ?_
  refine KB (KA (oS (mB (fun b3=>?_))));refine oS (mB (fun b4=>?_));refine oS (mB (fun b5=>?_));refine oS (mk (KK zr_47) (fun b6=>?_));refine KC (KB ?_)
  rcases P with _|⟨x1,y1⟩
  ·
   have eR:=(hok.inf_add hP2).symm.trans hR
   subst eR
   refine KA (oP (KE (o':=0) u132 rfl rfl rfl sz_81 dc) (oD (dL rfl (hv:=KI u81 rfl gL)) ?_));refine oP (KF rfl) (oP (KE (o':=59) u100 rfl rfl rfl sz_98 dc) (oD (dL rfl (hv:=KI u98 rfl (by exact KAt _ _ _ _ _ _ _ _ _ _ _ _ _))) ?_));refine oA (KC (KB (LCode.block (KB (KA ?_)))));refine oP (KE (o':=18) u47 rfl rfl rfl sz_4 dc) (oD (dL rfl (hv:=KI u4 rfl (by exact pt_gt _ _ _))) ?_);refine oA (KC ?_);refine KS rfl (KB (KA (oD dNb ?_)));refine oT rfl rfl sz_47 ?_;refine KC (KN (eN (.cons ⟨_,_,_,rfl,mM,by exact KD u47 rfl sz_47⟩ .nil) ?_))
   rfl
  refine KA (oP (KE (o':=0) u132 rfl rfl rfl sz_81 dc) (oD (dL rfl (hv:=KI u81 rfl gL)) ?_));refine oP (KF rfl) (oP (KE (o':=59) u100 rfl rfl rfl sz_98 dc) (oD (dL rfl (hv:=KI u98 rfl (by exact KAt _ _ _ _ _ _ _ _ _ _ _ _ _))) ?_));refine oA (KC (KB (LCode.block (KB (KA ?_)))));refine oP (KE (o':=18) u47 rfl rfl rfl sz_4 dc) (oD (dL rfl (hv:=KI u4 rfl (by exact pt_gt _ _ _))) ?_);refine oA (KC ?_);refine KH rfl (KB ?_)
  rcases P2 with _|⟨x2,y2⟩
  ·
   have eR:=(hok.add_inf hP).symm.trans hR
   subst eR
   refine KA (oP (KE (o':=18) u47 rfl rfl rfl sz_4 dc) (oD (dL rfl (hv:=KI u4 rfl (by exact pt_gt _ _ _))) ?_));refine oA (KC ?_);refine KS rfl (KB (KA (oD dNb ?_)));refine oT rfl rfl sz_47 ?_;refine KC (KN (eN (.cons ⟨_,_,_,rfl,mM,by exact KD u47 rfl sz_47⟩ .nil) ?_))
   rfl
  refine KA (oP (KE (o':=18) u47 rfl rfl rfl sz_4 dc) (oD (dL rfl (hv:=KI u4 rfl (by exact pt_gt _ _ _))) ?_));refine oA (KC ?_);refine KH rfl (KB ?_)
  by_cases hx:x1 = x2
  ·
   refine KA (oP (KE (o':=0) u47 rfl rfl rfl sz_33 dc) (oD (dL rfl (hv:=by exact Kh u33 rfl sz_33 rfl (KL _))) ?_));refine oP (KE (o':=0) u47 rfl rfl rfl sz_33 dc) (oD (dL rfl (hv:=by exact Kh u33 rfl sz_33 rfl (KL _))) ?_);refine oP (KJ (KBh kr (fun w=>KBI x1.val x2.val (Nat.lt_trans x1.isLt hpW) (Nat.lt_trans x2.isLt hpW) 10000 dc w) rfl rfl) (show _ = Value.bool false by rw [decide_eq_true (congrArg Fin.val hx)]; rfl)) ?_;refine oA (KC ?_);refine KH rfl (KB ?_)
   by_cases hy:y1 = y2
   ·
    have hy0:¬ y1.val = 0:=y_pos hok hP
    refine KA (oP (KE (o':=9) u47 rfl rfl rfl sz_33 dc) (oD (dL rfl (hv:=by exact KCN _ _ _ _ _ _)) ?_));refine oP (KE (o':=9) u47 rfl rfl rfl sz_33 dc) (oD (dL rfl (hv:=by exact KCN _ _ _ _ _ _)) ?_);refine oP (KJ (KBh kr (fun w=>KBI y1.val y2.val (Nat.lt_trans y1.isLt hpW) (Nat.lt_trans y2.isLt hpW) 10000 dc w) rfl rfl) (show _ = Value.bool false by rw [decide_eq_true (congrArg Fin.val hy)]; rfl)) ?_;refine oM ?_;refine oGP (KE (o':=9) u47 rfl rfl rfl sz_33 dc) (Kt rfl rfl (dL rfl (hv:=by exact KCN _ _ _ _ _ _)) (Nb rfl) ?_);refine oGP (KJ (KX pl_33 zr_33 rfl rfl) (show _ = natV 0 by unfold natV natL; rw [← vec_zeros 9])) ?_;refine oGP (KJ (KBw kr (fun w=>KBI y1.val 0 (Nat.lt_trans y1.isLt hpW) KCC 10000 dc w) rfl rfl) (show _ = Value.bool false by rw [decide_eq_false hy0])) (oP (KT rfl rfl) (oA (KC ?_)));refine KH rfl (KM (KB ?_))
    subst hx hy
    have eR:=(add_tangF hok.prime hok.fld hP (fin_ne0 hy0)).symm.trans hR
    subst eR
    refine KA (oM ?_);refine oP (KE (o':=0) u47 rfl rfl rfl sz_33 dc) (oD (dL rfl (hv:=by exact Kh u33 rfl sz_33 rfl (KL _))) ?_);refine oP (KE (o':=0) u47 rfl rfl rfl sz_33 dc) (oD (dL rfl (hv:=by exact Kh u33 rfl sz_33 rfl (KL _))) ?_);refine oS (cF rfl en_97 rfl (fun w hw=>KAa V hok f bd _ _ w (mC hw) (mC hw)) ?_);refine oS (mk (KK zr_33) (fun b8=>?_));refine oT rfl rfl sz_33 ?_;refine KC (KB (rD [29] (aD 0 rfl (dL rfl (hv:=by exact KD u132 rfl sz_132)) ?_)));refine aM 1 ?_;refine aM 2 ?_;refine aM 3 ?_;refine aM 4 ?_;refine aD 5 rfl dNa ?_;refine aD 6 rfl dNa ?_;refine aD 8 rfl dNa ?_;refine aP 10 rfl (KE (o':=0) u132 rfl rfl rfl sz_81 dc) (aD 11 rfl (dL rfl (hv:=KI u81 rfl gL)) ?_)
    refine aP 12 rfl (KF rfl) (aP 13 rfl (KE (o':=0) u100 rfl rfl rfl sz_53 dc) (aP 14 rfl (KE (o':=10) u53 rfl rfl rfl sz_33 dc) (aD 15 rfl (KBL (dL rfl (hv:=by exact cvC_ld_a _ _ _ _ _ _ _ _ _ _ _ _ _ _ _ _)) (a_val hok)) ?_)));refine aM 17 ?_;refine aM 18 ?_;refine aP 19 rfl (KE (o':=9) u47 rfl rfl rfl sz_33 dc) (aD 20 rfl (dL rfl (hv:=by exact KCN _ _ _ _ _ _)) ?_);refine aP 21 rfl (KE (o':=9) u47 rfl rfl rfl sz_33 dc) (aD 22 rfl (dL rfl (hv:=by exact KCN _ _ _ _ _ _)) ?_);refine aD 26 rfl dNb ?_;refine aD 27 rfl dNb ?_;refine aO 7 rfl (cF rfl en_82 rfl (fun w hw=>KBJ V hok f bd _ _ w (mC hw)) ?_);refine aO 9 rfl (cF rfl en_82 rfl (fun w hw=>KBJ V hok f bd _ _ w (mC hw)) ?_);refine aO 16 rfl (cF rfl en_82 rfl (fun w hw=>KBJ V hok f bd _ _ w (mC hw)) ?_)
    refine aO 23 rfl (cF rfl en_82 rfl (fun w hw=>KBJ V hok f bd _ _ w (mC hw)) ?_);refine aO 24 rfl (cF rfl en_121 rfl (fun w hw=>c_F_Inv V hok f bd _ w (mC hw)) ?_);refine aO 25 rfl (cF rfl en_97 rfl (fun w hw=>KAa V hok f bd _ _ w (mC hw) (mC hw)) ?_);refine aO 28 rfl (cF rfl en_236 rfl (fun w hw=>c_slope V b f bd hok ((x1*x1+x1*x1+x1*x1+V.A)*finv (y1+y1)) x1 y1 x1 y1 false false w (mC hw) (mC hw) (mC hw)) ?_);refine aL 29 rfl (sA rfl rfl sz_47 mO (hl:=mL) (h:=?_));refine aE (KN (eN (.cons ⟨_,_,_,rfl,mM,by exact KD u47 rfl sz_47⟩ .nil) ?_))
    rfl
   have eR:=(add_opp hok.fld hP hP2 hx hy).symm.trans hR
   subst eR
   refine KA (oP (KE (o':=9) u47 rfl rfl rfl sz_33 dc) (oD (dL rfl (hv:=by exact KCN _ _ _ _ _ _)) ?_));refine oP (KE (o':=9) u47 rfl rfl rfl sz_33 dc) (oD (dL rfl (hv:=by exact KCN _ _ _ _ _ _)) ?_);refine oP (KJ (KBh kr (fun w=>KBI y1.val y2.val (Nat.lt_trans y1.isLt hpW) (Nat.lt_trans y2.isLt hpW) 10000 dc w) rfl rfl) (show _ = Value.bool true by rw [decide_eq_false (fun e=>hy (Fin.ext e))]; rfl)) ?_;refine oM ?_;refine oK (oK (oK (oK (oP (Kd rfl rfl) (oA (KC ?_))))));refine KS rfl (KB (KA (oP (KJ (KX pl_47 zr_47 rfl fill_ptInf) rfl) (oT rfl rfl sz_47 ?_))));refine KC (KN (eN (.cons ⟨_,_,_,rfl,mM,by exact KD u47 rfl sz_47⟩ .nil) ?_))
   rfl
  refine KA (oP (KE (o':=0) u47 rfl rfl rfl sz_33 dc) (oD (dL rfl (hv:=by exact Kh u33 rfl sz_33 rfl (KL _))) ?_));refine oP (KE (o':=0) u47 rfl rfl rfl sz_33 dc) (oD (dL rfl (hv:=by exact Kh u33 rfl sz_33 rfl (KL _))) ?_);refine oP (KJ (KBh kr (fun w=>KBI x1.val x2.val (Nat.lt_trans x1.isLt hpW) (Nat.lt_trans x2.isLt hpW) 10000 dc w) rfl rfl) (show _ = Value.bool true by rw [decide_eq_false (fun e=>hx (Fin.ext e))]; rfl)) ?_;refine oA (KC ?_);refine KS rfl (KB ?_)
  have eR:=(add_chordF hok.prime hok.fld hP hP2 hx).symm.trans hR
  subst eR
  refine rD [20] (aD 0 rfl (dL rfl (hv:=by exact KD u132 rfl sz_132)) ?_);refine aM 1 ?_;refine aM 2 ?_;refine aP 3 rfl (KE (o':=9) u47 rfl rfl rfl sz_33 dc) (aD 4 rfl (dL rfl (hv:=by exact KCN _ _ _ _ _ _)) ?_);refine aP 5 rfl (KE (o':=9) u47 rfl rfl rfl sz_33 dc) (aD 6 rfl (dL rfl (hv:=by exact KCN _ _ _ _ _ _)) ?_);refine aM 8 ?_;refine aM 9 ?_;refine aP 10 rfl (KE (o':=0) u47 rfl rfl rfl sz_33 dc) (aD 11 rfl (dL rfl (hv:=by exact Kh u33 rfl sz_33 rfl (KL _))) ?_);refine aP 12 rfl (KE (o':=0) u47 rfl rfl rfl sz_33 dc) (aD 13 rfl (dL rfl (hv:=by exact Kh u33 rfl sz_33 rfl (KL _))) ?_);refine aD 17 rfl dNb ?_;refine aD 18 rfl dNb ?_;refine aO 7 rfl (cF rfl KDG rfl (fun w hw=>KCb V hok f bd _ _ w (mC hw)) ?_)
  refine aO 14 rfl (cF rfl KDG rfl (fun w hw=>KCb V hok f bd _ _ w (mC hw)) ?_);refine aO 15 rfl (cF rfl en_121 rfl (fun w hw=>c_F_Inv V hok f bd _ w (mC hw)) ?_);refine aO 16 rfl (cF rfl en_97 rfl (fun w hw=>KAa V hok f bd _ _ w (mC hw) (mC hw)) ?_);refine aO 19 rfl (cF rfl en_236 rfl (fun w hw=>c_slope V b f bd hok ((y2-y1)*finv (x2-x1)) x1 y1 x2 y2 false false w (mC hw) (mC hw) (mC hw)) ?_);refine aL 20 rfl (sA rfl rfl sz_47 mO (hl:=mL) (h:=?_));refine aE (KN (eN (.cons ⟨_,_,_,rfl,mM,by exact KD u47 rfl sz_47⟩ .nil) ?_))
  rfl
theorem c_gmul (V:Cv) (b f bd:Nat) (hok:V.Ok) (K bk:Nat) (hK:K<W9) (P:Pt V.p) (X Y:Nat) (i:Bool) (w:World) (hb:(Item.blk b ⟨false,opL V f,100,(0,0)⟩).holds w) (hf:(Item.blk f ⟨false,fldL V.p bd,165,(0,0)⟩).holds w) (hbd:(Item.blk bd ⟨false,dvL V.p,269,(0,0)⟩).holds w) (hP:On V.A V.B P) (hk:(Item.blk bk ⟨false,natL K,33,(0,0)⟩).holds w):CF Tryz.prog 64 [.agg ([Pz b]:List Value).toArray,ptP P,ptV X Y i,Pz bk] w (ptP (pmul V.A P K)):=by
  have hbb:=hok.bounds
  have hpW:V.p<W9:=Ks hbb.2.1
  refine KV (N:=17) (rs:=[.cell 7 47]) [.blk b ⟨false,opL V f,100,(0,0)⟩,.blk f ⟨false,fldL V.p bd,165,(0,0)⟩,.blk bd ⟨false,dvL V.p,269,(0,0)⟩,.blk bk ⟨false,natL K,33,(0,0)⟩] Tryz.func64 rfl Tryz.ntmps64 Tryz.results64 (Nb rfl) ⟨hb,hf,hbd,hk,trivial⟩ rfl ?_
  refine KB (KA (oS (mB (fun b4=>?_))));refine oS (mB (fun b5=>?_));refine oS (mB (fun b6=>?_));refine oS (mk (KK zr_47) (fun b7=>?_));refine KC (KB (rD [9] (aP 0 rfl (KE (o':=0) u132 rfl rfl rfl sz_81 dc) (aD 1 rfl (dL rfl (hv:=KI u81 rfl gL)) ?_))));refine aP 2 rfl (KE (o':=0) u132 rfl rfl rfl sz_81 dc) (aD 3 rfl (dL rfl (hv:=KI u81 rfl gL)) ?_);refine aD 4 rfl dNa ?_;refine aD 5 rfl dNb ?_;refine aO 6 rfl (cF rfl en_67 rfl (fun w hw=>c_Triple V hok P w) ?_);refine aO 7 rfl (KDK (first:=[]) rfl en_66 rfl (Nb rfl) (fun w hw=>c_cTimes V b f bd hok K hK _ P w (mC hw) (mC hw) (mC hw) (KBZ hok hP)) ?_)
  rintro _ ⟨U,hU,rfl⟩
  refine aO 8 rfl (cF rfl en_65 rfl (fun w hw=>c_PlainT V b f bd hok (U) (pmul V.A P K) w (mC hw) (mC hw) (mC hw) (hU)) ?_);refine aL 9 rfl (sA rfl rfl sz_47 mO (hl:=mL) (h:=?_));refine aE (KN (eN (.cons ⟨_,_,_,rfl,mM,by exact KD u47 rfl sz_47⟩ .nil) ?_))
  rfl
theorem c_do_ok (id:Int) (V:Cv) (P P2 R:Pt V.p) (fid:FuncId) (w:World) (h:cvI id = some V) (hP:On V.A V.B P) (hP2:On V.A V.B P2) (he:KY Tryz.prog fid) (hc:∀ b f bd (w:World),(Item.blk b ⟨false,opL V f,100,(0,0)⟩).holds w→(Item.blk f ⟨false,fldL V.p bd,165,(0,0)⟩).holds w→(Item.blk bd ⟨false,dvL V.p,269,(0,0)⟩).holds w→Calls Tryz.prog fid ([.agg ([Pz b]:List Value).toArray,ptP P,ptP P2]:List Value).toArray w (fun e w'=>e = .returned (ptP R)∧Below w.heap.size w w')):CF Tryz.prog 63 [.int .i64 id,ptP P,ptP P2,.func (.func fid) #[] #[]] w (.tuple #[ptP R,Iz 0]):=by
  obtain ⟨hok,hid⟩:=KAw h
  have hbb:=hok.bounds
  have hpW:V.p<W9:=Ks hbb.2.1
  have hnW:V.n<W9:=Ks hbb.2.2.2.2.2.2.1
  have hbl:=KAM hnW
  have hnb:nby V.n≤72:=by (unfold nby; omega)
  refine KV (N:=35) (rs:=[.cell 8 47,.tmp 9]) [] Tryz.func63 rfl Tryz.ntmps63 Tryz.results63 (Nb rfl) trivial rfl ?_
  refine KB (KA (oS (mB (fun b5=>?_))));refine oS (mB (fun b6=>?_));refine oS (mk (KK zr_47) (fun b8=>?_));refine oP (KO (v:=Iz 0) rfl) (KC (KB (KA (oM ?_))));refine oS (oOpen h rfl rfl (fun b f bd=>?_));refine oA (KC (KB (LCode.block (KB (KA (oM ?_))))));refine oP (KJ (KAI u81 rfl rfl) (show _ = Value.bool false from rfl)) (oA (KC ?_));refine KH rfl (KB (KA (oM ?_)));refine oD dNb ?_;refine oS (cF rfl en_55 rfl (fun w hw=>c_cOnP V b f bd hok (P) w (mC hw) (mC hw) (mC hw) hP) ?_);refine oP (KJ (KAH rfl) (show _ = Value.bool false from rfl)) (oM ?_);refine oGM ?_;refine Kt rfl rfl dNb (Nb rfl) ?_;refine oGS (cF rfl en_55 rfl (fun w hw=>c_cOnP V b f bd hok (P2) w (mC hw) (mC hw) (mC hw) hP2) ?_);refine oGP (KJ (KAH rfl) (show _ = Value.bool false from rfl)) (oP (KT rfl rfl) (oA (KC ?_)))
  refine KH rfl (KM (KB (KA (oM (oM ?_)))));refine oP (KJ (KX pl_132 zr_132 rfl rfl) (show _ = Value.agg ([Pz b]:List Value).toArray from rfl)) (oD dNb ?_);refine oD dNb ?_;refine oS (cF rfl he rfl (fun w hw=>hc b f bd w (mC hw) (mC hw) (mC hw)) ?_);refine oT rfl rfl sz_47 ?_;refine oP (KO (v:=Iz 0) rfl) (KC (KN (eN (.cons ⟨_,_,_,rfl,mM,by exact KD u47 rfl sz_47⟩ (.cons rfl .nil)) ?_)))
  rfl
theorem c_do_okK (id:Int) (V:Cv) (P P2 R:Pt V.p) (fid:FuncId) (K bk:Nat) (w:World) (h:cvI id = some V) (hP:On V.A V.B P) (hP2:On V.A V.B P2) (he:KY Tryz.prog fid) (hc:∀ b f bd (w:World),(Item.blk b ⟨false,opL V f,100,(0,0)⟩).holds w→(Item.blk f ⟨false,fldL V.p bd,165,(0,0)⟩).holds w→(Item.blk bd ⟨false,dvL V.p,269,(0,0)⟩).holds w→(Item.blk bk ⟨false,natL K,33,(0,0)⟩).holds w→Calls Tryz.prog fid ([.agg ([Pz b]:List Value).toArray,ptP P,ptP P2,Pz bk]:List Value).toArray w (fun e w'=>e = .returned (ptP R)∧Below w.heap.size w w')) (hk:(Item.blk bk ⟨false,natL K,33,(0,0)⟩).holds w):CF Tryz.prog 63 [.int .i64 id,ptP P,ptP P2,.func (.func fid) #[] #[Pz bk]] w (.tuple #[ptP R,Iz 0]):=by
  obtain ⟨hok,hid⟩:=KAw h
  have hbb:=hok.bounds
  have hpW:V.p<W9:=Ks hbb.2.1
  have hnW:V.n<W9:=Ks hbb.2.2.2.2.2.2.1
  have hbl:=KAM hnW
  have hnb:nby V.n≤72:=by (unfold nby; omega)
  refine KV (N:=35) (rs:=[.cell 8 47,.tmp 9]) [.blk bk ⟨false,natL K,33,(0,0)⟩] Tryz.func63 rfl Tryz.ntmps63 Tryz.results63 (Nb rfl) ⟨hk,trivial⟩ rfl ?_
  refine KB (KA (oS (mB (fun b5=>?_))));refine oS (mB (fun b6=>?_));refine oS (mk (KK zr_47) (fun b8=>?_));refine oP (KO (v:=Iz 0) rfl) (KC (KB (KA (oM ?_))));refine oS (oOpen h rfl rfl (fun b f bd=>?_));refine oA (KC (KB (LCode.block (KB (KA (oM ?_))))));refine oP (KJ (KAI u81 rfl rfl) (show _ = Value.bool false from rfl)) (oA (KC ?_));refine KH rfl (KB (KA (oM ?_)));refine oD dNb ?_;refine oS (cF rfl en_55 rfl (fun w hw=>c_cOnP V b f bd hok (P) w (mC hw) (mC hw) (mC hw) hP) ?_);refine oP (KJ (KAH rfl) (show _ = Value.bool false from rfl)) (oM ?_);refine oGM ?_;refine Kt rfl rfl dNb (Nb rfl) ?_;refine oGS (cF rfl en_55 rfl (fun w hw=>c_cOnP V b f bd hok (P2) w (mC hw) (mC hw) (mC hw) hP2) ?_);refine oGP (KJ (KAH rfl) (show _ = Value.bool false from rfl)) (oP (KT rfl rfl) (oA (KC ?_)))
  refine KH rfl (KM (KB (KA (oM (oM ?_)))));refine oP (KJ (KX pl_132 zr_132 rfl rfl) (show _ = Value.agg ([Pz b]:List Value).toArray from rfl)) (oD dNb ?_);refine oD dNb ?_;refine oS (LStep.callK (caps:=[Pz bk]) rfl he rfl (Nb rfl) (fun w hw=>hc b f bd w (mC hw) (mC hw) (mC hw) (mC hw)) ?_);refine oT rfl rfl sz_47 ?_;refine oP (KO (v:=Iz 0) rfl) (KC (KN (eN (.cons ⟨_,_,_,rfl,mM,by exact KD u47 rfl sz_47⟩ (.cons rfl .nil)) ?_)))
  rfl
theorem c_affAdd (id:Int) (V:Cv) (P P2 R:Pt V.p) (w:World) (h:cvI id = some V) (hP:On V.A V.B P) (hP2:On V.A V.B P2) (hR:padd V.A P P2 = R):CF Tryz.prog 229 [.int .i64 id,ptP P,ptP P2] w (.tuple #[ptP R,Iz 0]):=by
  obtain ⟨hok,hid⟩:=KAw h
  refine KV (N:=14) (rs:=[.cell 6 47,.tmp 7]) [] Tryz.func229 rfl Tryz.ntmps229 Tryz.results229 (Nb rfl) trivial rfl ?_
  refine KB (KA (oS (mB (fun b4=>?_))));refine oS (mB (fun b5=>?_));refine oS (mk (KK zr_47) (fun b6=>?_));refine oP (KO (v:=Iz 0) rfl) (KC (KB (KA (oM ?_))));refine oD dNb ?_;refine oD dNb ?_;refine oS (cF rfl en_63 rfl (fun w hw=>c_do_ok id V P P2 R 235 w h hP hP2 en_235 (fun b f bd w h1 h2 h3=>c_gadd V b f bd hok P P2 R w h1 h2 h3 hP hP2 hR)) ?_);refine oX ?_;refine oX ?_;refine oT rfl rfl sz_47 ?_;refine oA (KC (KN ?_));refine eN (.cons ⟨_,_,_,rfl,mM,by exact KD u47 rfl sz_47⟩ (.cons rfl .nil)) ?_
  rfl
theorem c_affMul (id:Int) (V:Cv) (K:Nat) (P:Pt V.p) (w:World) (h:cvI id = some V) (hP:On V.A V.B P) (hK:K<W9):CF Tryz.prog 30 [.int .i64 id,natV K,ptP P] w (.tuple #[ptP (pmul V.A P K),Iz 0]):=by
  obtain ⟨hok,hid⟩:=KAw h
  refine KV (N:=15) (rs:=[.cell 6 47,.tmp 7]) [] Tryz.func30 rfl Tryz.ntmps30 Tryz.results30 (Nb rfl) trivial rfl ?_
  refine KB (KA (oS (mB (fun b4=>?_))));refine oS (mB (fun b5=>?_));refine oS (mk (KK zr_47) (fun b6=>?_));refine oP (KO (v:=Iz 0) rfl) (KC (KB (KA (oM ?_))));refine oD dNb ?_;refine oD dNb ?_;refine oP (Det.makeFuncC1 rfl) (oS (cF rfl en_63 rfl (fun w hw=>c_do_okK id V P P (pmul V.A P K) 64 K b4 w h hP hP en_64 (fun b f bd w h1 h2 h3 hk=>c_gmul V b f bd hok K b4 hK P _ _ _ w h1 h2 h3 hP hk) (show (Item.blk b4 ⟨true,_,_,_⟩).holds w from hw _ mM)) ?_));refine oX ?_;refine oX ?_;refine oT rfl rfl sz_47 ?_;refine oA (KC (KN ?_));refine eN (.cons ⟨_,_,_,rfl,mM,by exact KD u47 rfl sz_47⟩ (.cons rfl .nil)) ?_
  rfl
end Go.Proofs.YtnpeokiboiclfaaGreat
set_option linter.unusedVariables false
set_option linter.unusedSimpArgs false
set_option maxRecDepth 20000
namespace Go.Proofs.YtnpeokiboiclfaaGreat
open Go Go.RowKit
open Grp
def ptPL {p:Nat} (P:Pt p):List Value:=ptL (xv P) (yv P) (iv P)
theorem KCL {p:Nat} (P:Pt p):(ptPL P).length = 19:=KW _ _ _
theorem ptPL_one {p:Nat} (P:Pt p):KBT (ptPL P):=KAB _ _ _
def tabL {p:Nat} (E:Nat→Pt p):Nat→List Value
  | 0=>[]
  | n+1=>tabL E n++ptPL (E n)
theorem KCW {p:Nat} (E:Nat→Pt p):∀ n,(tabL E n).length = n*19
  | 0=>rfl
  | n+1=>by show (tabL E n++ptPL (E n)).length = _; rw [List.length_append,KCW E n,KCL]; omega
theorem tabL_at {p:Nat} (E:Nat→Pt p) {k:Nat}:∀ {n},k<n→∃ post,tabL E n = tabL E k++(ptPL (E k)++post)
  | 0,h=>by omega
  | n+1,h=>by
    by_cases e:k = n
    · subst e; exact ⟨[],by rw [List.append_nil]; rfl⟩
    · obtain ⟨post,hp⟩:=tabL_at E (show k<n by omega)
      exact ⟨post++ptPL (E n),by show tabL E n++ptPL (E n) = _; rw [hp]; simp only [List.append_assoc]⟩
theorem tab_load {p:Nat} {wr:Bool} {e:TypeId} {fz:Nat×Nat} (E:Nat→Pt p) {k n:Nat} (h:k<n) (rest:List Value):LoadV Tryz.prog 47 ⟨wr,tabL E n++rest,e,fz⟩ (0+k*19) (ptP (E k)):=by
  obtain ⟨post,hp⟩:=tabL_at E h
  exact KAg (pre:=tabL E k) (cs:=ptPL (E k)) (post:=post++rest) u47 rfl sz_47 (by show tabL E n++rest = _; rw [hp]; simp only [List.append_assoc]) (by rw [KCW]; omega) (KCL _)
theorem inf_pt:infOf Tryz.prog 47 = some (.agg (vec .u64 9 (fun _=>0)++(vec .u64 9 (fun _=>0)++[Value.bool false]):List Value).toArray,19,152):=kr
theorem fill_ptR {p:Nat} (P:Pt p):fillL ((List.range 1).map fun i=>(i*19,19)) (vec .u64 9 (fun _=>0)++(vec .u64 9 (fun _=>0)++[Value.bool false])) [(0,.agg (ptPL P).toArray)] = some (ptPL P):=fillL_whole (by simp [KU]) (KCL P)
theorem row_pt:((Array.range (1*19)).map fun i=>(Value.agg (vec .u64 9 (fun _=>0)++(vec .u64 9 (fun _=>0)++[Value.bool false]):List Value).toArray).cells[i%(Value.agg (vec .u64 9 (fun _=>0)++(vec .u64 9 (fun _=>0)++[Value.bool false]):List Value).toArray).cells.size]!) = (vec .u64 9 (fun _=>0)++(vec .u64 9 (fun _=>0)++[Value.bool false]):List Value).toArray:=kr
noncomputable abbrev mulE (V:Cv) (P:Pt V.p):Nat→Pt V.p:=fun j=>pmul V.A P j
structure TabS (p:Nat) where
  k:Nat
  T:Fin p×Fin p×Fin p
  br:Nat
  cap:Nat
  rest:List Value
theorem Brings.two {w w':World} {b c:Nat} {B D:Blk} (hb:Below w.heap.size w w') (h1:(Item.blk b B).holds w') (h2:(Item.blk c D).holds w') (n1:w.heap.size≤b) (n2:w.heap.size≤c) (hne:c≠b):Brings w [] [.blk b B,.blk c D] w':=by
  have key:∀ x,x∈[Item.blk b B,.blk c D]→∀ k,k∈x.fp→w.heap.size≤k:=fun x hx k hk=>by
    rcases List.mem_cons.1 hx with rfl|hx
    · obtain rfl:k = b:=by simpa [Item.fp] using hk
      exact n1
    · obtain rfl:x = _:=by simpa using hx
      obtain rfl:k = c:=by simpa [Item.fp] using hk
      exact n2
  refine ⟨hb,fun x hx=>?_,fun x hx k hk=>.inl (key x hx k hk),fun x hx _=>key x hx,List.pairwise_cons.2 ⟨fun y hy _ k hk hk'=>?_,List.pairwise_singleton _ _⟩⟩
  · rcases List.mem_cons.1 hx with rfl|hx
    · exact h1
    · obtain rfl:x = _:=by simpa using hx
      exact h2
  · obtain rfl:y = _:=by simpa using hy
    obtain rfl:k = b:=by simpa [Item.fp] using hk
    exact hne (by simpa [Item.fp] using hk':k = c).symm
theorem bringsC {P:Program} {f:FuncId} {a:Array Value} {w:World} {Q:Value→List Item→Prop} (h:Calls P f a w (fun e w'=>∃ v its,Q v its∧e = .returned v∧Brings w [] its w')) (H:List Item):Calls P f a w (fun e w'=>∃ v its,Q v its∧e = .returned v∧Brings w H its w') :=
  h.mono fun e w' ⟨v,its,h1,h2,h3⟩=>⟨v,its,h1,h2,h3.more (fun x hx=>by cases hx)⟩
theorem c_tabOf (V:Cv) (b f bd:Nat) (hok:V.Ok) (P:Pt V.p) (hP:On V.A V.B P) (n:Nat) (hn0:1≤n) (hn:n≤16) (w:World) (hb:(Item.blk b ⟨false,opL V f,100,(0,0)⟩).holds w) (hf:(Item.blk f ⟨false,fldL V.p bd,165,(0,0)⟩).holds w) (hbd:(Item.blk bd ⟨false,dvL V.p,269,(0,0)⟩).holds w):Calls Tryz.prog 88 ([Pz b,ptP P,Iz n]:List Value).toArray w (fun e w'=>∃ v its,(fun v its=>∃ bt br cap rest,v = Pz bt∧its = [.blk bt ⟨true,[.slice (some ⟨br,0,none⟩) n cap],220,(0,0)⟩,.blk br ⟨true,tabL (mulE V P) n++rest,47,(0,0)⟩]) v its∧e = .returned v∧Brings w [] its w'):=by
  refine KV (N:=36) (rs:=[.tmp 6]) [.blk b ⟨false,opL V f,100,(0,0)⟩,.blk f ⟨false,fldL V.p bd,165,(0,0)⟩,.blk bd ⟨false,dvL V.p,269,(0,0)⟩] Tryz.func88 rfl Tryz.ntmps88 Tryz.results88 (Nb rfl) ⟨hb,hf,hbd,trivial⟩ rfl ?_
  refine KB (KA (oS (mB (fun b4=>?_))));refine oA (KC (KB (KA ?_)));refine oP (KX pl_220 zr_220 rfl rfl) (oS (mB (fun b11=>?_)));refine oA (KC (KB (KA ?_)));refine oD dNb ?_;refine oS (cF rfl en_67 rfl (fun w hw=>c_Triple V hok P w) ?_);refine oS (cF rfl en_99 rfl (fun w hw=>c_NoneF hok w) ?_);refine oS (mk (KK KDO) (fun b8=>?_));refine oS (mk (KK KDO) (fun b9=>?_));refine LOps.step rfl (sA rfl rfl KAN (by exact KBK _) (hl:=by exact KAC _) (h:=?_));refine LOps.step rfl (sA rfl rfl KAN (by exact KBK _) (hl:=by exact KAC _) (h:=?_));refine KC (KB (KB (KA (oM ?_))));refine oP (Kf (v:=Iz 0) rfl) (KC (LCode.block (Kc (α:=Option (TabS V.p)) (fun x=>match x with|none=>True|some y=>1≤y.k∧y.k≤n∧RepT V y.T (pmul V.A P y.k)∧(tabL (mulE V P) y.k).length+y.rest.length = y.cap*19) (fun x=>match x with|none=>⟨[(0,Pz b),(7,Pz b11),(8,Pz b8),(9,Pz b9),(15,Iz n),(16,Iz 0)],[.blk b11 ⟨true,[.slice none 0 0],220,(0,0)⟩,.blk b9 ⟨true,pjFL (tripF (.inf:Pt V.p)),135,(0,0)⟩,.blk b8 ⟨true,pjFL (tripF P),135,(0,0)⟩,.blk b ⟨false,opL V f,100,(0,0)⟩,.blk f ⟨false,fldL V.p bd,165,(0,0)⟩,.blk bd ⟨false,dvL V.p,269,(0,0)⟩]⟩|some y=>⟨[(0,Pz b),(7,Pz b11),(8,Pz b8),(9,Pz b9),(15,Iz n),(16,Iz y.k)],[.blk b11 ⟨true,[.slice (some ⟨y.br,0,none⟩) y.k y.cap],220,(0,0)⟩,.blk y.br ⟨true,tabL (mulE V P) y.k++y.rest,47,(0,0)⟩,.blk b9 ⟨true,pjFL y.T,135,(0,0)⟩,.blk b8 ⟨true,pjFL (tripF P),135,(0,0)⟩,.blk b ⟨false,opL V f,100,(0,0)⟩,.blk f ⟨false,fldL V.p bd,165,(0,0)⟩,.blk bd ⟨false,dvL V.p,269,(0,0)⟩]⟩) (fun x=>match x with|none=>n+1|some y=>n-y.k) (none) (trivial) (Ka ⟨rfl,rfl,rfl,rfl,rfl,rfl,trivial⟩ mS) ?_)))
  intro x hx
  refine KB ?_
  rcases x with _|⟨k,T,br,cap,rest⟩
  ·
   refine KA (oP (bT rfl rfl KAA om) (KC (KB (KS rfl (KM (KB (LCode.block (KB (rD [9,12] (aM 0 ?_))))))))));refine aM 1 ?_;refine aP 2 rfl (KF rfl) (aP 3 rfl (KE (o':=0) u220 rfl rfl rfl sz_218 dc) (aD 4 rfl (dL rfl (hv:=KI u218 rfl gL)) ?_));refine aM 5 ?_;refine aO 6 rfl (LStep.det (dL rfl (hv:=by exact KD u135 rfl KAN)) (Nb rfl) ?_);refine aO 7 rfl (cF rfl en_65 rfl (fun w hw=>c_PlainT V b f bd hok (tripF (.inf:Pt V.p)) (mulE V P 0) w (mC hw) (mC hw) (mC hw) (KBZ hok trivial)) ?_);refine aO 8 rfl (mk (KCH (vs:=[(0,.agg (ptPL (mulE V P 0)).toArray)]) u218 inf_pt dc row_pt rfl (fill_ptR (mulE V P 0)) (fun h=>by cases h)) (fun b26=>?_));refine aL 9 rfl (KCe (s:=19) (news:=ptPL (mulE V P 0)) rfl rfl u218 inf_pt rfl mM (KCL _) dc dc dc (Nb rfl) ?_)
   intro b1 cap1 rest1 hc1
   refine aP 10 rfl (KF rfl) (aP 11 rfl (KE (o':=0) u220 rfl rfl rfl sz_218 dc) (aL 12 rfl (KZ rfl rfl rfl sz_218 mT lT sT (by simp) ?_)));refine aE (KA (oM ?_));refine oD (dL rfl (hv:=by exact KD u135 rfl KAN)) ?_;refine oD (dL rfl (hv:=by exact KD u135 rfl KAN)) ?_;refine oS (cF rfl en_100 rfl (fun w hw=>c_SumT V b f bd hok (tripF (.inf:Pt V.p)) (tripF P) w (mC hw) (mC hw) (mC hw)) ?_);refine LOps.step rfl (sA rfl rfl KAN (by exact KBK _) (hl:=by exact KAC _) (h:=?_));refine KC (KA (oP (KG rfl rfl (Kj (b:=1) om)) (oM (KC ?_))))
   exact ⟨some ⟨0+1,sumT V (tripF (.inf:Pt V.p)) (tripF P),b1,cap1,rest1⟩,⟨Nat.le_add_left _ _,by show 0+1≤n; omega,RepT.sum hok (KBZ hok trivial) (KBZ hok hP),by rw [KCL] at hc1; show (tabL (mulE V P) (0+1)).length+rest1.length = cap1*19; rw [KCW]; omega⟩,by show n-(0+1)<n+1; omega,KAD (Sub.cells (b:=b1) (cs':=tabL (mulE V P) (0+1)++rest1) mT (by rfl)) (Ka ⟨rfl,rfl,rfl,rfl,rfl,rfl,trivial⟩ mS)⟩
  obtain ⟨hk1,hkn,hT,hcap⟩:=hx
  dsimp only at hk1 hkn hT hcap
  refine KA (oP (KG rfl rfl (KAA)) (KC (KB ?_)))
  first|refine KQ rfl (fun h17=>?_) (fun h17=>?_)|refine KR rfl (fun h17=>?_) (fun h17=>?_)
  ·
   have h17:k<n:=h17
   refine KM (KB (LCode.block (KB (rD [9,12] (aM 0 ?_)))));refine aM 1 ?_;refine aP 2 rfl (KF rfl) (aP 3 rfl (KE (o':=0) u220 rfl rfl rfl sz_218 dc) (aD 4 rfl (dL rfl (hv:=KI u218 rfl gL)) ?_));refine aM 5 ?_;refine aO 6 rfl (LStep.det (dL rfl (hv:=by exact KD u135 rfl KAN)) (Nb rfl) ?_);refine aO 7 rfl (cF rfl en_65 rfl (fun w hw=>c_PlainT V b f bd hok (T) (mulE V P k) w (mC hw) (mC hw) (mC hw) (hT)) ?_);refine aO 8 rfl (mk (KCH (vs:=[(0,.agg (ptPL (mulE V P k)).toArray)]) u218 inf_pt dc row_pt rfl (fill_ptR (mulE V P k)) (fun h=>by cases h)) (fun b26=>?_));refine aL 9 rfl (KDU (s:=19) (m:=1) (xs:=tabL (mulE V P) k) (rest:=rest) (news:=ptPL (mulE V P k)) rfl rfl u218 inf_pt rfl mP mM (KCW _ _) hcap (KCL _) (ptPL_one _) om om (Nb rfl) ?_)
   intro b1 cap1 rest1 hc1
   refine aP 10 rfl (KF rfl) (aP 11 rfl (KE (o':=0) u220 rfl rfl rfl sz_218 dc) (aL 12 rfl (KZ rfl rfl rfl sz_218 mT lT sT (by simp) ?_)));refine aE (KA (oM ?_));refine oD (dL rfl (hv:=by exact KD u135 rfl KAN)) ?_;refine oD (dL rfl (hv:=by exact KD u135 rfl KAN)) ?_;refine oS (cF rfl en_100 rfl (fun w hw=>c_SumT V b f bd hok (T) (tripF P) w (mC hw) (mC hw) (mC hw)) ?_);refine LOps.step rfl (sA rfl rfl KAN (by exact KBK _) (hl:=by exact KAC _) (h:=?_));refine KC (KA (oP (KG rfl rfl (Kj (b:=1) om)) (oM (KC ?_))))
   exact ⟨some ⟨k+1,sumT V T (tripF P),b1,cap1,rest1⟩,⟨Nat.le_add_left _ _,by show k+1≤n; omega,RepT.sum hok hT (KBZ hok hP),by rw [KCW,KCL] at hc1; show (tabL (mulE V P) (k+1)).length+rest1.length = cap1*19; rw [KCW]; omega⟩,by show n-(k+1)<n-k; omega,KAD (Sub.cells (b:=b1) (cs':=tabL (mulE V P) (k+1)++rest1) mT (by rfl)) (Ka ⟨rfl,rfl,rfl,rfl,rfl,rfl,trivial⟩ mS)⟩
  have h17:¬ k<n:=h17
  refine Kb (KB (KA (oM (oA (KC (KN ?_))))))
  obtain rfl:k = n:=by omega
  exact ⟨[_],.cons rfl .nil,fun a w' hr=>⟨_,_,⟨b11,br,cap,rest,rfl,rfl⟩,rfl,Brings.two hr.fr.below (hr.hp (.blk b11 ⟨true,_,_,_⟩) mM) (hr.hp (.blk br ⟨true,_,_,_⟩) mM) (hr.new (b:=b11) (B:=⟨true,_,_,_⟩) mM rfl) (hr.new (b:=br) (B:=⟨true,_,_,_⟩) mM rfl) (apart_two hr.dist (b:=b11) (B:=⟨true,_,220,_⟩) (c:=br) (D:=⟨true,_,47,_⟩) mM mM rfl (fun e=>absurd (show (220:Nat) = 47 from e) dc))⟩⟩
def pk (i A:Nat):Nat→Nat
  | 0=>0
  | k+1=>if k = i then A else pk i A k
theorem pk_low {i A:Nat}:∀ {k},k≤i→pk i A k = 0
  | 0,_=>rfl
  | k+1,h=>by
    show (if k = i then A else pk i A k) = 0
    rw [if_neg om]; exact pk_low om
theorem pk_last {i A:Nat}:∀ {k},i<k→pk i A k = A
  | 0,h=>by omega
  | k+1,h=>by
    show (if k = i then A else pk i A k) = A
    by_cases e:k = i
    · rw [if_pos e]
    · rw [if_neg e]; exact pk_last om
theorem pk_m (i k:Nat):(if k = i then 18446744073709551615 else 0) = 0∨(if k = i then 18446744073709551615 else 0) = 18446744073709551615:=by
  by_cases e:k = i
  · exact .inr (if_pos e)
  · exact .inl (if_neg e)
theorem pk_next (F:Nat→Nat) (i k:Nat):pk i (F i) (k+1) = if (if k = i then 18446744073709551615 else 0) = 0 then pk i (F i) k else F k:=by
  show (if k = i then F i else pk i (F i) k) = _
  by_cases e:k = i
  · rw [if_pos e,if_pos e,if_neg dc,e]
  · rw [if_neg e,if_neg e,if_pos rfl]
theorem pk_or {i A z k:Nat} (hz:k = i→z = A) (h1:z≤1):pk i A k ||| (z &&& if k = i then 18446744073709551615 else 0) = pk i A (k+1):=by
  show _ = (if k = i then A else pk i A k)
  by_cases e:k = i
  · rw [if_pos e,if_pos e,pk_low om,Nat.zero_or,and_max om]; exact hz e
  · rw [if_neg e,if_neg e,Nat.and_zero,Nat.or_zero]
theorem pk_lt {i A:Nat} (h:A≤1):∀ k,pk i A k≤1
  | 0=>Nat.zero_le _
  | k+1=>by
    show (if k = i then A else pk i A k)≤1
    split
    · exact h
    · exact pk_lt h k
def ib {p:Nat} (P:Pt p):Nat:=if iv P = true then 1 else 0
theorem ib_le {p:Nat} (P:Pt p):ib P≤1:=by unfold ib; split <;> omega
theorem ib_eq {p:Nat} (P:Pt p):decide (ib P = 1) = iv P:=by unfold ib; cases iv P <;> rfl
section
variable {P:Program} {C:Ctx} {d:Option Tmp} {ty:TypeId} {pos:String} {aft:Array Edge} {g:Option (Nat×Bool)} {st:St} {x y:Operand} {t e:TypeId}
theorem Det.indexSN {s i : Nat} {k : IntKind} {b o l c : Nat} (ht : P.underlying t = some (.slice e)) (he : szOf P e = some s) (hx : evT st.T x = some (.slice (some ⟨b, o, none⟩) l c)) (hy : evT st.T y = some (.int k (i : Int))) (h1 : i < l) :
    Slots P C ⟨d,.indexAddr t x y,ty,pos,aft,g⟩ st (.pointer (some ⟨b,o+i*s,none⟩)):=by
  have:=KDL (P:=P) (C:=C) (d:=d) (ty:=ty) (pos:=pos) (aft:=aft) (g:=g) (st:=st) ht he hx hy om om
  rwa [Int.toNat_natCast] at this
end
theorem pt_zeroK (i A B:Nat):(vec .u64 9 (fun _=>0)++(vec .u64 9 (fun _=>0)++[Value.bool false]):List Value) = ptL (pk i A 0) (pk i B 0) false:=by
  show _ = ptL 0 0 false
  unfold ptL natL; rw [vec_zeros 9]
theorem pt_setY (X Y Y':Nat) (i:Bool):KAZ (ptL X Y i) 9 (natL Y') = ptL X Y' i:=KAf (A:=natL X) (B:=natL Y) (D:=[.bool i]) (by simp [ptL]) (KL _) (by rw [KL,KL]) (by simp [ptL])
theorem pt_set0 (X Y X':Nat) (i:Bool):KAZ (ptL X Y i) 0 (natL X') = ptL X' Y i:=KAf (A:=[]) (B:=natL X) (D:=natL Y++[.bool i]) (by simp [ptL]) rfl (by rw [KL,KL]) (by simp [ptL])
theorem pt_set2 (X Y:Nat) (i j:Bool):(ptL X Y i).set 18 (.bool j) = ptL X Y j:=by
  unfold ptL
  rw [List.set_append_right _ _ (by rw [KL]; decide),KL,List.set_append_right _ _ (by rw [KL]; decide),KL]; rfl
theorem c_tabPick (b:Option Nat) (r:TrRow) (l:List Nat) (bt br cap:Nat) (rest:List Value) {wr1 wr2:Bool} (V:Cv) (hok:V.Ok) (E:Nat→Pt V.p) (n i:Nat) (hi:i<n) (hn:n≤16) (w:World) (h0:(trI b r l).holds w) (h1:(Item.blk bt ⟨wr1,[.slice (some ⟨br,0,none⟩) n cap],220,(0,0)⟩).holds w) (h2:(Item.blk br ⟨wr2,tabL (E) n++rest,47,(0,0)⟩).holds w) (n1:Out b r (Item.blk bt ⟨wr1,[.slice (some ⟨br,0,none⟩) n cap],220,(0,0)⟩)) (n2:Out b r (Item.blk br ⟨wr2,tabL (E) n++rest,47,(0,0)⟩)) (hl:l.length≤90000000):Calls Tryz.prog 142 ([Pz bt,trV b,Iz i]:List Value).toArray w (fun e w'=>TrR w b r (l++List.range n) (.tuple #[ptP (E i),Iz 0]) e w'):=by
  refine calls_tr (N:=75) (rs:=[.cell 6 47,.tmp 7]) b r l [.blk bt ⟨false,[.slice (some ⟨br,0,none⟩) n cap],220,(0,0)⟩,.blk br ⟨false,tabL (E) n++rest,47,(0,0)⟩] Tryz.func142 rfl Tryz.ntmps142 Tryz.results142 (Nb rfl) h0 ⟨h1,h2,trivial⟩ rfl ⟨n1,n2,trivial⟩ ?_
  refine KB (KA (oS (mk (KK zr_47) (fun b6=>?_))));refine oP (KO (v:=Iz 0) rfl) (KC (KB (LCode.block (KB (KA (oM ?_))))));refine oP (KJ (KAI u177 rfl rfl) (show _ = Value.bool false from rfl)) (oA (KC ?_));refine KH rfl (KB (KA (oM ?_)));refine oP (bF rfl rfl (KAA (b:=0)) (Nat.not_lt_zero _)) (oM ?_);refine oGM ?_;refine oGM ?_;refine oGP (KF rfl) (oGP (KE (o':=0) u220 rfl rfl rfl sz_218 dc) (Kt rfl rfl (dL rfl (hv:=KI u218 rfl gL)) (Nb rfl) ?_));refine oGP (KBc u218 rfl) (oGP (bF rfl rfl KBf om) (oP (KT rfl rfl) (oA (KC ?_))));refine KH rfl (KM (KB (KA (oS (mk (KK zr_47) (fun b8=>?_))))));refine KC (KB (KA (oP (KO (v:=.int .u64 ((0:Nat):Int)) rfl) (KC (KB (KB (KA (oM ?_))))))));refine oP (KF rfl) (oP (KE (o':=0) u220 rfl rfl rfl sz_218 dc) (oD (dL rfl (hv:=KI u218 rfl gL)) ?_));refine oP (KBc u218 rfl) (oP (Kf (v:=Iz 0) rfl) (KC (LCode.block ?_)))
  refine Kc (α:=Nat×TrRow) (fun x=>x.1≤n) (fun x=>⟨[(0,Pz bt),(1,trV b),(2,Iz i),(6,Pz b6),(8,Pz b8),(9,.int .u64 ((pk i (ib (E i)) x.1:Nat):Int)),(34,.slice (some ⟨br,0,none⟩) n cap),(35,Iz n),(36,Iz x.1)],[trI b x.2 (l++List.range x.1),.blk b8 ⟨true,ptL (pk i (xv (E i)) x.1) (pk i (yv (E i)) x.1) false,47,(0,0)⟩,.blk b6 ⟨true,vec .u64 9 (fun _=>0)++(vec .u64 9 (fun _=>0)++[Value.bool false]),47,(0,0)⟩,.blk bt ⟨false,[.slice (some ⟨br,0,none⟩) n cap],220,(0,0)⟩,.blk br ⟨false,tabL (E) n++rest,47,(0,0)⟩]⟩) (fun x=>n-x.1) ((0,r)) (Nat.zero_le _) (KAD (Sub.cells (b:=b8) (cs':=ptL (pk i (xv (E i)) 0) (pk i (yv (E i)) 0) false) mT (pt_zeroK _ _ _)) (by dsimp only [List.range_zero]; rw [List.append_nil]; exact Ka ⟨rfl,rfl,rfl,rfl,rfl,rfl,rfl,rfl,rfl,trivial⟩ mS)) ?_
  intro x hx
  refine KB (KA (oP (KG rfl rfl (KAA)) (KC (KB ?_))))
  first|refine KQ rfl (fun h37=>?_) (fun h37=>?_)|refine KR rfl (fun h37=>?_) (fun h37=>?_)
  ·
   have h37:x.1<n:=h37
   refine KM (KB (LCode.block (KB (KA (oM ?_)))));refine oP (Det.indexSN u218 sz_47 rfl rfl om) (oD (dL rfl (hv:=by exact tab_load E h37 rest)) ?_);refine oS (mk (KK zr_47) (fun b11=>?_));refine oA ?_;refine LOps.step rfl (sA rfl rfl sz_47 (by exact KAB _ _ _) (hl:=by exact KW _ _ _) (h:=?_));refine KC (KB (KA (oM (oM ?_))));refine LOps.step rfl (KBv (first:=[]) (r:=x.2) (l:=l++List.range x.1) (l':=l++List.range (x.1+1)) rfl en_183 rfl (Nb rfl) mP (fun w hw hn=>by rw [List.range_succ,← List.append_assoc]; exact c_trIndex b x.2 _ x.1 w (mC hw) (by rw [List.length_append,List.length_range]; omega)) ?_)
   intro r1
   refine KC (KB (KA (oM ?_)));refine oP (KCA u3 u30 rfl (by first|omega|exact Nat.lt_trans (D.limb_lt _ _) dc)) ?_;refine oM ?_;refine oP (KCA u3 u30 rfl (by first|omega|exact Nat.lt_trans (D.limb_lt _ _) dc)) ?_;refine oS (cF rfl en_184 rfl (fun w hw=>c_mEqual x.1 i w om om) ?_);refine oA (KC (KB (rD [13,15] ?_)));refine aM 0 ?_;refine aP 1 rfl (KE (o':=0) u47 rfl rfl rfl sz_33 dc) (aD 2 rfl (dL rfl (hv:=by exact Kh u33 rfl sz_33 rfl (KL _))) ?_);refine aP 3 rfl (KE (o':=0) u47 rfl rfl rfl sz_33 dc) (aD 4 rfl (dL rfl (hv:=by exact Kh u33 rfl sz_33 rfl (KL _))) ?_);refine aM 6 ?_;refine aP 7 rfl (KE (o':=9) u47 rfl rfl rfl sz_33 dc) (aP 9 rfl (KE (o':=9) u47 rfl rfl rfl sz_33 dc) (aD 10 rfl (dL rfl (hv:=by exact KCN _ _ _ _ _ _)) ?_));refine KAq [11,13,14,15] 8 rfl kr (Nb rfl) (dL rfl (hv:=by exact KCN _ _ _ _ _ _)) ?_
   refine aO 5 rfl (cF rfl en_185 rfl (fun w hw=>c_mSelect (if x.1 = i then 18446744073709551615 else 0) (xv (E x.1)) (pk i (xv (E i)) x.1) (pk i (xv (E i)) (x.1+1)) w (pk_m _ _) (pk_next (fun j=>xv (E j)) i x.1)) ?_);refine aP 12 rfl (KE (o':=0) u47 rfl rfl rfl sz_33 dc) (aO 11 rfl (cF rfl en_185 rfl (fun w hw=>c_mSelect (if x.1 = i then 18446744073709551615 else 0) (yv (E x.1)) (pk i (yv (E i)) x.1) (pk i (yv (E i)) (x.1+1)) w (pk_m _ _) (pk_next (fun j=>yv (E j)) i x.1)) ?_));refine aL 13 rfl (Ko rfl rfl rfl sz_33 (KL _) (Kx _) mT (by simp only [KW]; decide) (pt_set0 _ _ _ _) (by simp) ?_);refine aP 14 rfl (KE (o':=9) u47 rfl rfl rfl sz_33 dc) ?_;refine aL 15 rfl (Ko rfl rfl rfl sz_33 (KL _) (Kx _) mT (by simp only [KW]; decide) (pt_setY _ _ _ _) (by simp) ?_);refine aE (KB (KA (oP (KO (v:=.int .u64 ((0:Nat):Int)) rfl) (KC (KB (KB ?_))))))
   cases hiv:iv (E x.1)
   ·
    refine KA (oP (KE (o':=18) u47 rfl rfl rfl sz_4 dc) (oD (dL rfl (hv:=KI u4 rfl (by exact pt_gt _ _ _))) ?_));refine KC (KH rfl (KM (KA (oM (oM (oM ?_))))));refine oP (KG rfl rfl (KBR (a:=0) (b:=(if x.1 = i then 18446744073709551615 else 0)) dc (by split <;> decide))) ?_;refine oP (KJ (KG rfl rfl (KCT (a:=pk i (ib (E i)) x.1) (b:=0 &&& (if x.1 = i then 18446744073709551615 else 0)) (Nat.lt_of_le_of_lt (pk_lt (ib_le _) _) dc) (Nat.lt_of_le_of_lt Nat.and_le_left dc))) (vi (b:=pk i (ib (E i)) (x.1+1)) (pk_or (fun e=>by rw [← e]; unfold ib; rw [hiv]; rfl) dc))) ?_;refine oA (KC (KA ?_));refine oP (KG rfl rfl (Kj (b:=1) om)) (oM (KC ?_))
    exact ⟨(x.1+1,r1),by dsimp only; omega,by dsimp only; omega,Ka ⟨rfl,rfl,rfl,rfl,rfl,rfl,rfl,rfl,rfl,trivial⟩ mS⟩
   refine KA (oP (KE (o':=18) u47 rfl rfl rfl sz_4 dc) (oD (dL rfl (hv:=KI u4 rfl (by exact pt_gt _ _ _))) ?_));refine KC (KS rfl (KA (oP (KO (v:=.int .u64 ((1:Nat):Int)) rfl) (KC (KA (oM (oM (oM ?_))))))));refine oP (KG rfl rfl (KBR (a:=1) (b:=(if x.1 = i then 18446744073709551615 else 0)) dc (by split <;> decide))) ?_;refine oP (KJ (KG rfl rfl (KCT (a:=pk i (ib (E i)) x.1) (b:=1 &&& (if x.1 = i then 18446744073709551615 else 0)) (Nat.lt_of_le_of_lt (pk_lt (ib_le _) _) dc) (Nat.lt_of_le_of_lt Nat.and_le_left dc))) (vi (b:=pk i (ib (E i)) (x.1+1)) (pk_or (fun e=>by rw [← e]; unfold ib; rw [hiv]; rfl) dc))) ?_;refine oA (KC (KA ?_));refine oP (KG rfl rfl (Kj (b:=1) om)) (oM (KC ?_))
   exact ⟨(x.1+1,r1),by dsimp only; omega,by dsimp only; omega,Ka ⟨rfl,rfl,rfl,rfl,rfl,rfl,rfl,rfl,rfl,trivial⟩ mS⟩
  have h37:¬ x.1<n:=h37
  refine Kb (KB ?_)
  have hx1n:x.1 = n:=by omega
  rw [hx1n,pk_last hi,pk_last hi,pk_last hi]
  refine KA (oM ?_);refine oP (KJ (KG rfl rfl (Ku (b:=1))) (congrArg Value.bool (ib_eq (E i)))) (oP (KE (o':=18) u47 rfl rfl rfl sz_4 dc) ?_);refine LOps.step rfl (KZ rfl rfl rfl sz_4 mT (by rw [KW]; decide) (by exact pt_set2 _ _ _ _) (by simp) ?_);refine KC (KB (KA (oD dNb ?_)));refine LOps.step rfl (sA rfl rfl sz_47 (by exact KAB _ _ _) (hl:=by exact KW _ _ _) (h:=?_));refine oP (KO (v:=Iz 0) rfl) (KC (KN ?_))
  exact ⟨[_,_],.cons ⟨_,_,_,rfl,mM,by exact KD u47 rfl sz_47⟩ (.cons rfl .nil),fun a w' hr=>hr.tr mM⟩
end Go.Proofs.YtnpeokiboiclfaaGreat
set_option linter.unusedVariables false
set_option linter.unusedSimpArgs false
set_option maxRecDepth 20000
namespace Go.Proofs.YtnpeokiboiclfaaGreat
open Go Go.RowKit
open Grp
def dg (K m i:Nat):Nat:=K/2^((m-1-i)*4)%16
theorem dg_lt (K m i:Nat):dg K m i<16:=Nat.mod_lt _ dc
theorem and15 (A:Nat):limb A 0 &&& 15 = A%16:=by
  rw [show 15 = 2^4-1 from rfl,Nat.and_two_pow_sub_one_eq_mod]
  unfold limb
  rw [Nat.mul_zero,Nat.pow_zero,Nat.div_one,show (2:Nat)^4 = 16 from rfl]
  omega
theorem vec_snoc {k:IntKind} {f:Nat→Nat} {n x:Nat} (h:x = f n) (rest:List Value):(vec k n f++[Value.int k ((x:Nat):Int)])++rest = vec k (n+1) f++rest:=by
  subst h
  congr 1
  simp [vec,List.range_succ]
theorem vec_first {k:IntKind} {f:Nat→Nat} {x:Nat} (h:x = f 0) (rest:List Value):[Value.int k ((x:Nat):Int)]++rest = vec k (0+1) f++rest:=by
  subst h; rfl
structure DigS where
  j:Nat
  bd:Nat
  cap:Nat
  rest:List Value
theorem dig_cases (x:Option DigS) (m:Nat):x = none∨(∃ j bd cap rest,x = some ⟨j,bd,cap,rest⟩∧j<m)∨(∃ j bd cap rest,x = some ⟨j,bd,cap,rest⟩∧m≤j):=by
  rcases x with _|⟨j,bd,cap,rest⟩
  · exact .inl rfl
  · rcases Nat.lt_or_ge j m with h|h
    · exact .inr (.inl ⟨j,bd,cap,rest,rfl,h⟩)
    · exact .inr (.inr ⟨j,bd,cap,rest,rfl,h⟩)
theorem Brings.one {w w':World} {b:Nat} {B:Blk} (hb:Below w.heap.size w w') (h1:(Item.blk b B).holds w') (n1:w.heap.size≤b):Brings w [] [.blk b B] w':=by
  have key:∀ x,x∈[Item.blk b B]→∀ k,k∈x.fp→w.heap.size≤k:=fun x hx k hk=>by
    obtain rfl:x = _:=by simpa using hx
    obtain rfl:k = b:=by simpa [Item.fp] using hk
    exact n1
  exact ⟨hb, fun x hx => (by obtain rfl : x = _ := by simpa using hx
                             exact h1),fun x hx k hk=>.inl (key x hx k hk),fun x hx _=>key x hx,List.pairwise_singleton _ _⟩
theorem c_wide4  (w:World)  : CF Tryz.prog 182 [Iz 4] w (.bool true):=by
  refine KV (N:=9) (rs:=[.tmp 2]) [] Tryz.func182 rfl Tryz.ntmps182 Tryz.results182 (Nb rfl) trivial rfl ?_
  refine KB (KA (oA (KC (KB (KA (oM ?_))))));refine oP (bT rfl rfl (KBf (b:=1)) dc) (oM ?_);refine oGM ?_;refine oGP (bT rfl rfl (br_leq (b:=6)) dc) (oP (Kd rfl rfl) (oA (KC (KN ?_))));refine eN (.cons rfl .nil) ?_
  rfl
theorem c_Digits (K B m:Nat) (hK:K<W9) (hB:1≤B) (hB2:B≤576) (hKB:blen K≤B) (hm:(B+3)/4 = m) (w:World)  : Calls Tryz.prog 141 ([natV K,Iz B,Iz 4]:List Value).toArray w (fun e w'=>∃ v its,(fun v its=>∃ bd cap rest,v = .tuple #[.slice (some ⟨bd,0,none⟩) m cap,Iz 0]∧its = [.blk bd ⟨true,vec .i64 (m) (dg K m)++rest,3,(0,0)⟩]) v its∧e = .returned v∧Brings w [] its w'):=by
  refine KV (N:=61) (rs:=[.tmp 6,.tmp 7]) [] Tryz.func141 rfl Tryz.ntmps141 Tryz.results141 (Nb rfl) trivial rfl ?_
  refine KB (KA (oS (mB (fun b3=>?_))));refine oA ?_;refine oP (KO (v:=Iz 0) rfl) (KC (KB (KB (KA (oM ?_)))));refine oS (cF rfl en_182 rfl (fun w hw=>c_wide4 w) ?_);refine oP (KJ (KAH rfl) (show _ = Value.bool false from rfl)) (oM ?_);refine oGM ?_;refine oGP (bF rfl rfl (KAA (b:=1)) om) (oP (KT rfl rfl) (oM ?_));refine oGM ?_;refine oGP (bF rfl rfl (KAb (b:=576)) om) (oP (KT rfl rfl) (oM ?_));refine Kt rfl rfl dNa (Nb rfl) ?_;refine oGS (cF rfl en_81 rfl (fun w hw=>KBz K hK w) ?_);refine oGM ?_;refine oGP (bF rfl rfl KAb om) (oP (KT rfl rfl) (KC (KH rfl (KM (KB (KA (oA (KC (KB (KB (KA (oM (oM ?_)))))))))))));refine oP (KG rfl rfl (Kj om)) (oP (KG rfl rfl (KAe (b:=1) om om)) (oM ?_));refine oP (KJ (KG rfl rfl (KDI (b:=4) om om)) (vi (b:=m) om)) (oP (KG (v:=.int .i64 (((m:Nat):Int)-1)) rfl rfl (KBs om om)) (oA (KC (LCode.block ?_))));refine Kc (α:=Option DigS) (fun x=>match x with|none=>True|some y=>1≤y.j∧y.j≤m∧y.j+y.rest.length = y.cap) (fun x=>match x with|none=>⟨[(1,Iz B),(2,Iz 4),(3,Pz b3),(8,.slice none 0 0),(9,.int .i64 (((m:Nat):Int)-1))],[.blk b3 ⟨true,natL K,33,(0,0)⟩]⟩|some y=>⟨[(1,Iz B),(2,Iz 4),(3,Pz b3),(8,.slice (some ⟨y.bd,0,none⟩) y.j y.cap),(9,.int .i64 (((m-y.j:Nat):Int)-1))],[.blk y.bd ⟨true,vec .i64 (y.j) (dg K m)++y.rest,3,(0,0)⟩,.blk b3 ⟨true,natL K,33,(0,0)⟩]⟩) (fun x=>match x with|none=>m+1|some y=>m-y.j) (none) (trivial) (Ka ⟨rfl,rfl,rfl,rfl,rfl,trivial⟩ mS) ?_
  intro x hx
  refine KB (KB ?_)
  rcases dig_cases x m with rfl|⟨j,bd,cap,rest,rfl,hjm⟩|⟨j,bd,cap,rest,rfl,hjm⟩
  ·
   obtain ⟨z,hz⟩:∃ z,m = z+1:=⟨m-1,by omega⟩
   refine KA (oM ?_);refine oP (KG (v:=.bool true) rfl rfl (by simp [Kp]; omega)) ?_;refine KC (KS rfl (KM (KB (LCode.block (KB (KA (oD dNa ?_)))))));refine oP (Kf (v:=Iz z) (by show some _ = some _; congr 2; omega)) ?_;refine oM ?_;refine oP (KG rfl rfl (KCB om)) (oP (KJ (Det.min rfl rfl) (show _ = Iz (z*4) by rw [if_neg om])) (oS (cF rfl en_83 rfl (fun w hw=>c_nat_Shr K (z*4) hK om w) ?_)));refine oM ?_;refine oX ?_;refine oX ?_;refine oS (mk (KK zr_33) (fun b10=>?_));refine oT rfl rfl sz_33 ?_;refine oA (KC (rD [10] ?_));refine aM 0 ?_;refine aP 1 rfl (KE (o':=0) u33 rfl rfl rfl sz_31 dc) (aP 2 rfl (KP (i:=0) u31 sz_30 rfl rfl dc) (aM 4 ?_));refine aP 5 rfl (KJ (KG rfl rfl (KCK (a:=1) (b:=4))) (vi (b:=16) dc)) (aP 6 rfl (KJ (KG rfl rfl (KBW (a:=16) (b:=1) dc)) (vi (b:=15) dc)) (aO 3 rfl (LStep.det (dL rfl (hv:=KI u30 rfl (by exact KAY _ dc))) (Nb rfl) ?_)))
   refine aP 7 rfl (KJ (KG rfl rfl (KBR (b:=15) (limb_lt _ _) dc)) (vi (b:=K/2^(z*4)%16) (and15 _))) (aP 8 rfl (KAo u30 u3 rfl om) (aO 9 rfl (mk (KAP u76 inf_3 rfl rfl rfl rfl dc rfl) (fun b58=>?_))));refine aL 10 rfl (LStepW.appendNil (news:=[Iz (K/2^(z*4)%16)]) rfl rfl u76 inf_3 rfl mM rfl dc dc dc (Nb rfl) ?_)
   intro b1 cap1 rest1 hc1
   refine aA 11 ?_;refine aE (KA ?_);refine oP (Kf (v:=Iz z) (by show some _ = some _; congr 2; omega)) ?_;refine oP (KG (v:=.int .i64 (((z:Nat):Int)-1)) rfl rfl (KBs om om)) (oA (KC ?_))
   obtain rfl:m-(0+1) = z:=by omega
   exact ⟨some ⟨0+1,b1,cap1,rest1⟩,⟨Nat.le_refl _,by show 0+1≤m; omega,by show 0+1+rest1.length = cap1; have h1:=hc1; simp at h1; omega⟩,by show m-(0+1)<m+1; omega,KAD (Sub.cells (b:=b1) (cs':=vec .i64 (0+1) (dg K m)++rest1) mT (vec_first rfl _)) (Ka ⟨rfl,rfl,rfl,rfl,rfl,trivial⟩ mS)⟩
  ·
   obtain ⟨hj1,hjn,hcap⟩:=hx
   dsimp only at hj1 hjn hcap
   dsimp only
   obtain ⟨z,hz⟩:∃ z,m-j = z+1:=⟨m-j-1,by omega⟩
   refine KA (oM ?_);refine oP (KG (v:=.bool true) rfl rfl (by simp [Kp]; omega)) ?_;refine KC (KS rfl (KM (KB (LCode.block (KB (KA (oD dNa ?_)))))));refine oP (Kf (v:=Iz z) (by show some _ = some _; congr 2; omega)) ?_;refine oM ?_;refine oP (KG rfl rfl (KCB om)) (oP (KJ (Det.min rfl rfl) (show _ = Iz (z*4) by rw [if_neg om])) (oS (cF rfl en_83 rfl (fun w hw=>c_nat_Shr K (z*4) hK om w) ?_)));refine oM ?_;refine oX ?_;refine oX ?_;refine oS (mk (KK zr_33) (fun b10=>?_));refine oT rfl rfl sz_33 ?_;refine oA (KC (rD [10] ?_));refine aM 0 ?_;refine aP 1 rfl (KE (o':=0) u33 rfl rfl rfl sz_31 dc) (aP 2 rfl (KP (i:=0) u31 sz_30 rfl rfl dc) (aM 4 ?_));refine aP 5 rfl (KJ (KG rfl rfl (KCK (a:=1) (b:=4))) (vi (b:=16) dc)) (aP 6 rfl (KJ (KG rfl rfl (KBW (a:=16) (b:=1) dc)) (vi (b:=15) dc)) (aO 3 rfl (LStep.det (dL rfl (hv:=KI u30 rfl (by exact KAY _ dc))) (Nb rfl) ?_)))
   refine aP 7 rfl (KJ (KG rfl rfl (KBR (b:=15) (limb_lt _ _) dc)) (vi (b:=K/2^(z*4)%16) (and15 _))) (aP 8 rfl (KAo u30 u3 rfl om) (aO 9 rfl (mk (KAP u76 inf_3 rfl rfl rfl rfl dc rfl) (fun b58=>?_))));refine aL 10 rfl (LStepW.append (xs:=vec .i64 j (dg K m)) (rest:=rest) (news:=[Iz (K/2^(z*4)%16)]) rfl rfl u76 inf_3 rfl mP mM (KU _ _ _) (by rw [KU]; exact hcap) rfl (Km rfl Kz) om om (Nb rfl) ?_)
   intro b1 cap1 rest1 hc1
   refine aA 11 ?_;refine aE (KA ?_);refine oP (Kf (v:=Iz z) (by show some _ = some _; congr 2; omega)) ?_;refine oP (KG (v:=.int .i64 (((z:Nat):Int)-1)) rfl rfl (KBs om om)) (oA (KC ?_))
   obtain rfl:m-(j+1) = z:=by omega
   exact ⟨some ⟨j+1,b1,cap1,rest1⟩,⟨by show 1≤j+1; omega,by show j+1≤m; omega,by show j+1+rest1.length = cap1; have h1:=hc1; rw [KU] at h1; exact h1⟩,by show m-(j+1)<m-j; omega,KAD (Sub.cells (b:=b1) (cs':=vec .i64 (j+1) (dg K m)++rest1) mT (vec_snoc (by unfold dg; rw [show m-1-j = m-(j+1) by omega]) _)) (Ka ⟨rfl,rfl,rfl,rfl,rfl,trivial⟩ mS)⟩
  obtain ⟨hj1,hjn,hcap⟩:=hx
  dsimp only at hj1 hjn hcap
  dsimp only
  refine KA (oM ?_);refine oP (KG (v:=.bool false) rfl rfl (by simp [Kp]; omega)) ?_;refine KC (KH rfl (Kb (KB (KA (oM (oA ?_))))));refine oP (KO (v:=Iz 0) rfl) (KC (KN ?_))
  obtain rfl:j = m:=by omega
  exact ⟨[_,_],.cons rfl (.cons rfl .nil),fun a w' hr=>⟨_,_,⟨bd,cap,rest,rfl,rfl⟩,rfl,Brings.one hr.fr.below (hr.hp (.blk bd ⟨true,_,_,_⟩) mM) (hr.new (b:=bd) (B:=⟨true,_,_,_⟩) mM rfl)⟩⟩
def evN:Nat→List Nat
  | 0=>[]
  | n+1=>evN n++List.range 16
theorem KDb:∀ n,(evN n).length = n*16
  | 0=>rfl
  | n+1=>by show (evN n++List.range 16).length = _; rw [List.length_append,KDb n,List.length_range]; omega
structure MulS (p:Nat) where
  i:Nat
  T:Fin p×Fin p×Fin p
  r:TrRow
theorem mul_top {V:Cv} (hok:V.Ok) {P:Pt V.p} {K m:Nat} (hK:K<V.n) (hm:(blen V.n+3)/4 = m):RepT V (tripF (.inf:Pt V.p)) (pmul V.A P (K/2^((m-0)*4))):=by
  have h1:=KCM V.n
  have h2:2^blen V.n≤2^((m-0)*4):=Nat.pow_le_pow_right dc om
  rw [Nat.div_eq_of_lt (Nat.lt_of_lt_of_le (Nat.lt_trans hK h1) h2)]
  exact KBZ hok trivial
theorem mul_twice {V:Cv} (hok:V.Ok) {P:Pt V.p} (hP:On V.A V.B P) {q j:Nat} {T:Fin V.p×Fin V.p×Fin V.p} (h:RepT V T (pmul V.A P (q*2^j))):RepT V (sumT V T T) (pmul V.A P (q*2^(j+1))):=by
  have:=RepT.sum hok h h
  rwa [← pmul_add hok.crv hP,← Nat.mul_two,Nat.mul_assoc,← Nat.pow_succ] at this
theorem mul_digit {V:Cv} (hok:V.Ok) {P:Pt V.p} (hP:On V.A V.B P) {K m i:Nat} (hi:i<m) {T:Fin V.p×Fin V.p×Fin V.p} (h:RepT V T (pmul V.A P (K/2^((m-i)*4)*2^4))):RepT V (sumT V T (tripF (mulE V P (dg K m i)))) (pmul V.A P (K/2^((m-(i+1))*4))):=by
  have:=RepT.sum hok h (KBZ hok (hok.mul hP (dg K m i)))
  rw [← pmul_add hok.crv hP] at this
  have e:K/2^((m-i)*4)*2^4+dg K m i = K/2^((m-(i+1))*4):=by
    unfold dg
    rw [show m-1-i = m-(i+1) by omega,show (m-i)*4 = (m-(i+1))*4+4 by omega,Nat.pow_add,← Nat.div_div_eq_div_mul,show (2:Nat)^4 = 16 from rfl]
    generalize K/2^((m-(i+1))*4) = N
    omega
  rwa [e] at this
theorem mul_all {V:Cv} {P:Pt V.p} {K m i:Nat} {T:Fin V.p×Fin V.p×Fin V.p} (hi:i = m) (h:RepT V T (pmul V.A P (K/2^((m-i)*4)))):RepT V T (pmul V.A P K):=by
  subst hi
  rwa [Nat.sub_self,Nat.zero_mul,Nat.pow_zero,Nat.div_one] at h
theorem dig_get {K m i:Nat} {rest:List Value} (h:i<m):(vec .i64 m (dg K m)++rest)[i+0]? = some (Iz (dg K m i)):=by
  rw [Nat.add_zero,List.getElem?_append_left (by rw [KU]; exact h)]
  exact Ki _ _ _ h
theorem c_mTimes (tb:Option Nat) (tr:TrRow) (l:List Nat) (V:Cv) (b f bd:Nat) (hok:V.Ok) (K m:Nat) (P:Pt V.p) (bt br cap:Nat) (rest:List Value) {wr1 wr2:Bool} (hP:On V.A V.B P) (hK:K<V.n) (hm:(blen V.n+3)/4 = m) (w:World) (h0:(trI tb tr l).holds w) (hl:l.length≤80000000) (hb:(Item.blk b ⟨false,opL V f,100,(0,0)⟩).holds w) (hf:(Item.blk f ⟨false,fldL V.p bd,165,(0,0)⟩).holds w) (hbd:(Item.blk bd ⟨false,dvL V.p,269,(0,0)⟩).holds w) (h1:(Item.blk bt ⟨wr1,[.slice (some ⟨br,0,none⟩) 16 cap],220,(0,0)⟩).holds w) (h2:(Item.blk br ⟨wr2,tabL (mulE V (P)) 16++rest,47,(0,0)⟩).holds w) (o0:Out tb tr (Item.blk b ⟨false,opL V f,100,(0,0)⟩)) (o1:Out tb tr (Item.blk f ⟨false,fldL V.p bd,165,(0,0)⟩)) (o2:Out tb tr (Item.blk bd ⟨false,dvL V.p,269,(0,0)⟩)) (n1:Out tb tr (Item.blk bt ⟨wr1,[.slice (some ⟨br,0,none⟩) 16 cap],220,(0,0)⟩)) (n2:Out tb tr (Item.blk br ⟨wr2,tabL (mulE V (P)) 16++rest,47,(0,0)⟩)):Calls Tryz.prog 87 ([trV tb,Pz b,natV K,Pz bt]:List Value).toArray w (fun e w'=>TrR w tb tr (l++evN m) (ptP (pmul V.A P K)) e w'):=by
  have hbb:=hok.bounds
  have hnW:V.n<W9:=Ks hbb.2.2.2.2.2.2.1
  have hbl:=KAM hnW
  have hK9:=Nat.lt_trans hK hnW
  have hkb:blen K≤blen V.n:=KBM (Nat.lt_trans hK (KCM _))
  have hbl1:1≤blen V.n:=Nat.pos_of_ne_zero (KDJ om)
  refine calls_tr (N:=56) (rs:=[.cell 8 47]) tb tr l [.blk b ⟨false,opL V f,100,(0,0)⟩,.blk f ⟨false,fldL V.p bd,165,(0,0)⟩,.blk bd ⟨false,dvL V.p,269,(0,0)⟩,.blk bt ⟨false,[.slice (some ⟨br,0,none⟩) 16 cap],220,(0,0)⟩,.blk br ⟨false,tabL (mulE V (P)) 16++rest,47,(0,0)⟩] Tryz.func87 rfl Tryz.ntmps87 Tryz.results87 (Nb rfl) h0 ⟨hb,hf,hbd,h1,h2,trivial⟩ rfl ⟨o0,o1,o2,n1,n2,trivial⟩ ?_
  refine KB (KA (oS (mB (fun b6=>?_))));refine oS (mk (KK zr_47) (fun b8=>?_));refine KC (KB (rD [] (aD 0 rfl dNa ?_)));refine aM 1 ?_;refine aP 2 rfl (KF rfl) (aP 3 rfl (KE (o':=0) u100 rfl rfl rfl sz_53 dc) (aP 4 rfl (KE (o':=56) u53 rfl rfl rfl sz_3 dc) (aD 5 rfl (dL rfl (hv:=KI u3 rfl (by exact KDH _ _ _ _ _ _ _ _ _ _ _ _ _))) ?_)));refine aO 6 rfl (cC rfl en_141 rfl (fun w hw=>bringsC (c_Digits K (blen V.n) m hK9 hbl1 om hkb hm w) _) ?_)
  rintro _ _ ⟨ds,dcap,drest,rfl,rfl⟩
  refine aM 7 ?_;refine aP 8 rfl (Det.extract rfl rfl) (aP 9 rfl (Det.extract rfl rfl) (aA 10 ?_));refine aA 11 ?_;refine aE (KB (KA (oS (cF rfl en_99 rfl (fun w hw=>c_NoneF hok w) ?_))));refine oS (mk (KK KDO) (fun b11=>?_));refine LOps.step rfl (sA rfl rfl KAN (by exact KBK _) (hl:=by exact KAC _) (h:=?_));refine KC (KB (KB (KA (oM ?_))));refine oP (KBc u76 rfl) (oP (Kf (v:=Iz 0) rfl) (KC (LCode.block ?_)));refine Kc (α:=MulS V.p) (fun x=>x.i≤m∧RepT V x.T (pmul V.A P (K/2^((m-x.i)*4)))) (fun x=>⟨[(0,trV tb),(1,Pz b),(3,Pz bt),(8,Pz b8),(11,Pz b11),(27,.slice (some ⟨ds,0,none⟩) m dcap),(28,Iz m),(29,Iz x.i)],[trI tb (x.r) (l++evN x.i),.blk b11 ⟨true,pjFL x.T,135,(0,0)⟩,.blk b8 ⟨true,vec .u64 9 (fun _=>0)++(vec .u64 9 (fun _=>0)++[Value.bool false]),47,(0,0)⟩,.blk ds ⟨true,vec .i64 (m) (dg K m)++drest,3,(0,0)⟩,.blk b ⟨false,opL V f,100,(0,0)⟩,.blk f ⟨false,fldL V.p bd,165,(0,0)⟩,.blk bd ⟨false,dvL V.p,269,(0,0)⟩,.blk bt ⟨false,[.slice (some ⟨br,0,none⟩) 16 cap],220,(0,0)⟩,.blk br ⟨false,tabL (mulE V (P)) 16++rest,47,(0,0)⟩]⟩) (fun x=>m-x.i) (⟨0,tripF (.inf:Pt V.p),tr⟩) (⟨Nat.zero_le _,mul_top hok hK hm⟩) (by dsimp only [evN]; rw [List.append_nil]; exact Ka ⟨rfl,rfl,rfl,rfl,rfl,rfl,rfl,rfl,trivial⟩ mS) ?_
  rintro x ⟨hx1,hx2⟩
  refine KB (KA (oP (KG rfl rfl (KAA)) (KC (KB ?_))))
  first|refine KQ rfl (fun h30=>?_) (fun h30=>?_)|refine KR rfl (fun h30=>?_) (fun h30=>?_)
  ·
   have h30:x.i<m:=h30
   refine KM (KB (LCode.block (KB (KA (oP (Det.indexS u76 sz_3 rfl rfl om) (oD (dL rfl (hv:=KI u3 rfl (by exact dig_get om))) ?_))))));refine oA (KC (KB (KB (KA ?_))));refine oP (Kf (v:=Iz 0) rfl) (KC (LCode.block ?_));refine Kc (α:=Nat×(Fin V.p×Fin V.p×Fin V.p)) (fun y=>y.1≤4∧RepT V y.2 (pmul V.A P (K/2^((m-x.i)*4)*2^y.1))) (fun y=>⟨[(13,Iz (dg K m x.i)),(33,Iz y.1),(0,trV tb),(1,Pz b),(3,Pz bt),(8,Pz b8),(11,Pz b11),(27,.slice (some ⟨ds,0,none⟩) m dcap),(28,Iz m),(29,Iz x.i)],[trI tb (x.r) (l++evN x.i),.blk b11 ⟨true,pjFL y.2,135,(0,0)⟩,.blk b8 ⟨true,vec .u64 9 (fun _=>0)++(vec .u64 9 (fun _=>0)++[Value.bool false]),47,(0,0)⟩,.blk ds ⟨true,vec .i64 (m) (dg K m)++drest,3,(0,0)⟩,.blk b ⟨false,opL V f,100,(0,0)⟩,.blk f ⟨false,fldL V.p bd,165,(0,0)⟩,.blk bd ⟨false,dvL V.p,269,(0,0)⟩,.blk bt ⟨false,[.slice (some ⟨br,0,none⟩) 16 cap],220,(0,0)⟩,.blk br ⟨false,tabL (mulE V (P)) 16++rest,47,(0,0)⟩]⟩) (fun y=>4-y.1) ((0,x.T)) (⟨Nat.zero_le _,by dsimp only; rw [Nat.pow_zero,Nat.mul_one]; exact hx2⟩) (Ka ⟨rfl,rfl,rfl,rfl,rfl,rfl,rfl,rfl,rfl,rfl,trivial⟩ mS) ?_
   rintro y ⟨hy1,hy2⟩
   refine KB (KA (oP (KG rfl rfl (KAA (b:=4))) (KC (KB ?_))))
   first|refine KQ rfl (fun h34=>?_) (fun h34=>?_)|refine KR rfl (fun h34=>?_) (fun h34=>?_)
   ·
    have h34:y.1<4:=h34
    refine KM (KB (LCode.block (KA (oM ?_))));refine oD (dL rfl (hv:=by exact KD u135 rfl KAN)) ?_;refine oD (dL rfl (hv:=by exact KD u135 rfl KAN)) ?_;refine oS (cF rfl en_100 rfl (fun w hw=>c_SumT V b f bd hok (y.2) (y.2) w (mC hw) (mC hw) (mC hw)) ?_);refine LOps.step rfl (sA rfl rfl KAN (by exact KBK _) (hl:=by exact KAC _) (h:=?_));refine KC (KA (oP (KG rfl rfl (Kj (b:=1) om)) (oM (KC ?_))))
    exact ⟨(y.1+1,sumT V y.2 y.2),⟨by dsimp only; omega,mul_twice hok hP hy2⟩,by dsimp only; omega,Ka ⟨rfl,rfl,rfl,rfl,rfl,rfl,rfl,rfl,rfl,rfl,trivial⟩ mS⟩
   have h34:¬ y.1<4:=h34
   refine Kb (KB ?_)
   obtain ⟨j,T⟩:=y
   obtain rfl:j = 4:=by omega
   refine KA (oM (oM (oM ?_)));refine LOps.step rfl (KBv (first:=[]) (r:=x.r) (l:=l++evN x.i) (l':=l++evN (x.i+1)) rfl en_142 rfl (Nb rfl) mP (fun w hw hn=>by rw [show l++evN (x.i+1) = (l++evN x.i)++List.range 16 from (List.append_assoc _ _ _).symm]; exact c_tabPick tb x.r _ bt br cap rest V hok (mulE V (P)) 16 (dg K m x.i) (dg_lt _ _ _) dc w (mC hw) (mC hw) (mC hw) (hn _ mM) (hn _ mM) (by rw [List.length_append,KDb]; omega)) ?_)
   intro r1
   refine oM ?_;refine oX ?_;refine oX ?_;refine oS (mk (KK zr_47) (fun b14=>?_));refine LOps.step rfl (sA rfl rfl sz_47 mO (hl:=by exact KW _ _ _) (h:=?_));refine oA (KC (rD [5] ?_));refine aM 0 ?_;refine aD 1 rfl (dL rfl (hv:=by exact KD u135 rfl KAN)) ?_;refine aD 2 rfl dNb ?_;refine aO 3 rfl (cF rfl en_67 rfl (fun w hw=>c_Triple V hok (mulE V (P) (dg K m x.i)) w) ?_);refine aO 4 rfl (cF rfl en_100 rfl (fun w hw=>c_SumT V b f bd hok (T) (tripF (mulE V (P) (dg K m x.i))) w (mC hw) (mC hw) (mC hw)) ?_);refine aL 5 rfl (sA rfl rfl KAN (by exact KBK _) (hl:=by exact KAC _) (h:=?_));refine aE (KA (oP (KG rfl rfl (Kj (b:=1) om)) (oM (KC ?_))))
   exact ⟨⟨x.i+1,sumT V T (tripF (mulE V (P) (dg K m x.i))),r1⟩,⟨by dsimp only; omega,mul_digit hok hP h30 hy2⟩,by dsimp only; omega,Ka ⟨rfl,rfl,rfl,rfl,rfl,rfl,rfl,rfl,trivial⟩ mS⟩
  have h30:¬ x.i<m:=h30
  refine Kb (KB ?_)
  have hxm:x.i = m:=by omega
  refine KA (oM ?_);refine oD (dL rfl (hv:=by exact KD u135 rfl KAN)) ?_;refine oS (cF rfl en_65 rfl (fun w hw=>c_PlainT V b f bd hok (x.T) (pmul V.A P K) w (mC hw) (mC hw) (mC hw) (mul_all hxm hx2)) ?_);refine LOps.step rfl (sA rfl rfl sz_47 mO (hl:=by simp [KW,KU]) (h:=?_));refine KC (KN ?_)
  exact ⟨[_],.cons ⟨_,_,_,rfl,mM,by exact KD u47 rfl sz_47⟩ .nil,fun a w' hr=>by
    have hq:=hr.tr (v:=ptP (pmul V.A P K)) (r':=x.r) (l:=l++evN x.i) mM
    rwa [hxm] at hq⟩
open Grp
theorem c_mMul (tb:Option Nat) (tr:TrRow) (l:List Nat) (id:Int) (V:Cv) (K:Nat) (P:Pt V.p) (m:Nat) (hm:(blen V.n+3)/4 = m) (w:World) (h:cvI id = some V) (hP:On V.A V.B P) (hK:K<V.n) (h0:(trI tb tr l).holds w) (hl:l.length≤80000000):Calls Tryz.prog 58 ([trV tb,.int .i64 id,natV K,ptP P]:List Value).toArray w (fun e w'=>TrR w tb tr (l++evN m) (.tuple #[ptP (pmul V.A P K),Iz 0]) e w'):=by
  obtain ⟨hok,hid⟩:=KAw h
  have hbb:=hok.bounds
  have hpW:V.p<W9:=Ks hbb.2.1
  have hnW:V.n<W9:=Ks hbb.2.2.2.2.2.2.1
  have hbl:=KAM hnW
  have hnb:nby V.n≤72:=by (unfold nby; omega)
  refine calls_tr (N:=40) (rs:=[.cell 8 47,.tmp 9]) tb tr l [] Tryz.func58 rfl Tryz.ntmps58 Tryz.results58 (Nb rfl) h0 trivial rfl trivial ?_
  refine KB (KA (oS (mB (fun b6=>?_))));refine oS (mB (fun b7=>?_));refine oS (mk (KK zr_47) (fun b8=>?_));refine oP (KO (v:=Iz 0) rfl) (KC (KB (KA (oM ?_))));refine oS (oOpen h rfl rfl (fun b f bd=>?_));refine oA (KC (KB (LCode.block (KB (KA (oM ?_))))));refine oP (KJ (KAI u81 rfl rfl) (show _ = Value.bool false from rfl)) (oA (KC ?_));refine KH rfl (KB (KA (oM ?_)));refine oD dNb ?_;refine oS (cF rfl en_55 rfl (fun w hw=>c_cOnP V b f bd hok (P) w (mC hw) (mC hw) (mC hw) hP) ?_);refine oP (KJ (KAH rfl) (show _ = Value.bool false from rfl)) (oA (KC ?_));refine KH rfl (KB (rD [] (aD 0 rfl dNa ?_)));refine aM 1 ?_;refine aP 2 rfl (KF rfl) (aP 3 rfl (KE (o':=0) u100 rfl rfl rfl sz_53 dc) (aP 4 rfl (KE (o':=28) u53 rfl rfl rfl sz_33 dc) (aD 5 rfl (dL rfl (hv:=by exact KBB _ _ _ _ _ _ _ _ _ _ _ _ _ _ _ _)) ?_)))
  refine aO 6 rfl (cF rfl en_46 rfl (fun w hw=>KAz K V.n (Nat.lt_trans hK hnW) hnW w) ?_);refine aP 7 rfl (bF rfl rfl cmp_geq (Nat.not_le_of_gt hK)) (aA 8 ?_);refine aE (KH rfl (KM (KB (rD [6,7] (aM 0 ?_)))));refine aM 1 ?_;refine aD 2 rfl dNa ?_;refine aM 3 ?_;refine aO 4 rfl (LStep.det dNb (Nb rfl) ?_);refine aO 5 rfl (cC rfl en_88 rfl (fun w hw=>bringsC (c_tabOf V b f bd hok (P) hP 16 dc dc w (mC hw) (mC hw) (mC hw)) _) ?_)
  rintro _ _ ⟨bt,br,cap,rest,rfl,rfl⟩
  refine aL 6 rfl (KBv (first:=[]) (r:=tr) (l:=l) (l':=l++evN m) rfl en_87 rfl (Nb rfl) mP (fun w hw hn=>c_mTimes tb tr l V b f bd hok K m (P) bt br cap rest hP hK hm w (mC hw) hl (mC hw) (mC hw) (mC hw) (mC hw) (mC hw) (hn _ mM) (hn _ mM) (hn _ mM) (hn _ mM) (hn _ mM)) ?_)
  intro r1
  refine aL 7 rfl (sA rfl rfl sz_47 (by exact KAB _ _ _) (hl:=by simp [KW,KU]) (h:=?_));refine aP 8 rfl (KO (v:=Iz 0) rfl) (aE (KN ?_))
  exact ⟨[_,_],.cons ⟨_,_,_,rfl,mM,by exact KD u47 rfl sz_47⟩ (.cons rfl .nil),fun a w' hr=>hr.tr mM⟩
theorem c_bTimes (tb:Option Nat) (tr:TrRow) (l:List Nat) (V:Cv) (b f bd:Nat) (hok:V.Ok) (K:Nat) (hK:K<V.n) (m:Nat) (hm:(blen V.n+3)/4 = m) (w:World) (h0:(trI tb tr l).holds w) (hl:l.length≤80000000) (hb:(Item.blk b ⟨false,opL V f,100,(0,0)⟩).holds w) (hf:(Item.blk f ⟨false,fldL V.p bd,165,(0,0)⟩).holds w) (hbd:(Item.blk bd ⟨false,dvL V.p,269,(0,0)⟩).holds w) (o0:Out tb tr (Item.blk b ⟨false,opL V f,100,(0,0)⟩)) (o1:Out tb tr (Item.blk f ⟨false,fldL V.p bd,165,(0,0)⟩)) (o2:Out tb tr (Item.blk bd ⟨false,dvL V.p,269,(0,0)⟩)):Calls Tryz.prog 42 ([trV tb,Pz b,natV K]:List Value).toArray w (fun e w'=>TrR w tb tr (l++evN m) (ptP (pmul V.A V.G K)) e w'):=by
  refine calls_tr (N:=18) (rs:=[.cell 6 47]) tb tr l [.blk b ⟨false,opL V f,100,(0,0)⟩,.blk f ⟨false,fldL V.p bd,165,(0,0)⟩,.blk bd ⟨false,dvL V.p,269,(0,0)⟩] Tryz.func42 rfl Tryz.ntmps42 Tryz.results42 (Nb rfl) h0 ⟨hb,hf,hbd,trivial⟩ rfl ⟨o0,o1,o2,trivial⟩ ?_
  refine KB (KA (oS (mB (fun b5=>?_))));refine oS (mk (KK zr_47) (fun b6=>?_));refine KC (KB (rD [10,11] (aM 0 ?_)));refine aM 1 ?_;refine aD 2 rfl dNa ?_;refine aM 3 ?_;refine aM 4 ?_;refine aP 5 rfl (KF rfl) (aP 6 rfl (KE (o':=0) u100 rfl rfl rfl sz_53 dc) (aP 7 rfl (KE (o':=37) u53 rfl rfl rfl sz_47 dc) (aO 8 rfl (LStep.det (KBL (dL rfl (hv:=by exact cvC_ld_g _ _ _ _ _ _ _ _ _ _ _ _ _ _ _ _)) (g_val hok)) (Nb rfl) ?_))));refine aO 9 rfl (cC rfl en_88 rfl (fun w hw=>bringsC (c_tabOf V b f bd hok (V.G) hok.on 16 dc dc w (mC hw) (mC hw) (mC hw)) _) ?_)
  rintro _ _ ⟨bt,br,cap,rest,rfl,rfl⟩
  refine aL 10 rfl (KBv (first:=[]) (r:=tr) (l:=l) (l':=l++evN m) rfl en_87 rfl (Nb rfl) mP (fun w hw hn=>c_mTimes tb tr l V b f bd hok K m (V.G) bt br cap rest hok.on hK hm w (mC hw) hl (mC hw) (mC hw) (mC hw) (mC hw) (mC hw) (hn _ mM) (hn _ mM) (hn _ mM) (hn _ mM) (hn _ mM)) ?_)
  intro r1
  refine aL 11 rfl (sA rfl rfl sz_47 (by exact KAB _ _ _) (hl:=by simp [KW,KU]) (h:=?_));refine aE (KN ?_)
  exact ⟨[_],.cons ⟨_,_,_,rfl,mM,by exact KD u47 rfl sz_47⟩ .nil,fun a w' hr=>hr.tr mM⟩
theorem c_bMul (tb:Option Nat) (tr:TrRow) (l:List Nat) (id:Int) (V:Cv) (K:Nat) (m:Nat) (hm:(blen V.n+3)/4 = m) (w:World) (h:cvI id = some V) (hK:K<V.n) (h0:(trI tb tr l).holds w) (hl:l.length≤80000000):Calls Tryz.prog 24 ([trV tb,.int .i64 id,natV K]:List Value).toArray w (fun e w'=>TrR w tb tr (l++evN m) (.tuple #[ptP (pmul V.A V.G K),Iz 0]) e w'):=by
  obtain ⟨hok,hid⟩:=KAw h
  have hbb:=hok.bounds
  have hpW:V.p<W9:=Ks hbb.2.1
  have hnW:V.n<W9:=Ks hbb.2.2.2.2.2.2.1
  have hbl:=KAM hnW
  have hnb:nby V.n≤72:=by (unfold nby; omega)
  refine calls_tr (N:=29) (rs:=[.cell 6 47,.tmp 7]) tb tr l [] Tryz.func24 rfl Tryz.ntmps24 Tryz.results24 (Nb rfl) h0 trivial rfl trivial ?_
  refine KB (KA (oS (mB (fun b5=>?_))));refine oS (mk (KK zr_47) (fun b6=>?_));refine oP (KO (v:=Iz 0) rfl) (KC (KB (KA (oM ?_))));refine oS (oOpen h rfl rfl (fun b f bd=>?_));refine oA (KC (KB (LCode.block (KB (KA (oM ?_))))));refine oP (KJ (KAI u81 rfl rfl) (show _ = Value.bool false from rfl)) (oA (KC ?_));refine KH rfl (KB (rD [] (aD 0 rfl dNa ?_)));refine aM 1 ?_;refine aP 2 rfl (KF rfl) (aP 3 rfl (KE (o':=0) u100 rfl rfl rfl sz_53 dc) (aP 4 rfl (KE (o':=28) u53 rfl rfl rfl sz_33 dc) (aD 5 rfl (dL rfl (hv:=by exact KBB _ _ _ _ _ _ _ _ _ _ _ _ _ _ _ _)) ?_)));refine aO 6 rfl (cF rfl en_46 rfl (fun w hw=>KAz K V.n (Nat.lt_trans hK hnW) hnW w) ?_);refine aP 7 rfl (bF rfl rfl cmp_geq (Nat.not_le_of_gt hK)) (aA 8 ?_);refine aE (KH rfl (KM (KB (KA (oM (oM ?_))))));refine oD dNa ?_
  refine LOps.step rfl (KBv (first:=[]) (r:=tr) (l:=l) (l':=l++evN m) rfl en_42 rfl (Nb rfl) mP (fun w hw hn=>c_bTimes tb tr l V b f bd hok K hK m hm w (mC hw) hl (mC hw) (mC hw) (mC hw) (hn _ mM) (hn _ mM) (hn _ mM)) ?_)
  intro r1
  refine LOps.step rfl (sA rfl rfl sz_47 (by exact KAB _ _ _) (hl:=by simp [KW,KU]) (h:=?_));refine oP (KO (v:=Iz 0) rfl) (KC (KN ?_))
  exact ⟨[_,_],.cons ⟨_,_,_,rfl,mM,by exact KD u47 rfl sz_47⟩ (.cons rfl .nil),fun a w' hr=>hr.tr mM⟩
theorem c_bMulN (id:Int) (V:Cv) (K:Nat) (R:Pt V.p) (w:World) (h:cvI id = some V) (hK:K<V.n) (hR:pmul V.A V.G K = R):CF Tryz.prog 24 [.pointer none,.int .i64 id,natV K] w (.tuple #[ptP R,Iz 0]) :=
  hR ▸ (c_bMul none none [] id V K _ rfl w h hK (trI_nil _ _) (Nat.zero_le _)).mono fun e w' h=>TrR.nil h


open Grp
def pStr (V:Cv) (X Y:Nat) (i sh:Bool):ByteArray:=if (onB V.p V.a V.b X Y i && !i) = true then putS V X Y sh else ⟨#[]⟩
def pErr (V:Cv) (X Y:Nat) (i:Bool):Nat:=if (onB V.p V.a V.b X Y i && !i) = true then 0 else 2101
theorem putV_eq (V:Cv) (X Y:Nat) (i sh:Bool):putV V X Y i sh = .tuple #[.string (pStr V X Y i sh),Iz (pErr V X Y i)]:=by
  unfold putV pStr pErr; split <;> rfl
theorem c_s_Put2 (id:Int) (V:Cv) (X Y:Nat) (i sh:Bool) (w:World) (h:cvI id = some V) (hX:X<W9) (hY:Y<W9):CF Tryz.prog 25 [.int .i64 id,ptV X Y i,.bool sh] w (.tuple #[.string (pStr V X Y i sh),Iz (pErr V X Y i)]):=by
  have h1:=c_s_Put id V X Y i sh w h hX hY
  rwa [putV_eq] at h1
theorem c_s_PutE (s:ByteArray) (n:Nat) (id:Int) (V:Cv) (X Y:Nat) (i sh:Bool) (w:World) (h:cvI id = some V) (hX:X<W9) (hY:Y<W9) (hs:pStr V X Y i sh = s) (hn:pErr V X Y i = n):CF Tryz.prog 25 [.int .i64 id,ptV X Y i,.bool sh] w (.tuple #[.string s,Iz n]):=by
  subst hs hn; exact c_s_Put2 id V X Y i sh w h hX hY
theorem c_s_GetE (X Y n:Nat) (id:Int) (V:Cv) (s:ByteArray) (w:World) (h:cvI id = some V) (hs:s.size<9223372036854775808) (hn:getT V s = (X,Y,n)):CF Tryz.prog 29 [.int .i64 id,.string s] w (.tuple #[ptV X Y false,Iz n]):=by
  have h1:=c_s_Get id V s w h hs
  rwa [KCt hn] at h1
theorem getX_l (V:Cv) (s:ByteArray):getX V s = beVal ((s.data.toList.take (1+nby V.p)).drop 1):=by unfold getX; rw [ext_data]
theorem getY_l (V:Cv) (s:ByteArray):getY V s = beVal (s.data.toList.drop (1+nby V.p)):=by
  unfold getY; rw [ext_data]
  rw [show s.size = s.data.toList.length by rw [Array.length_toList]; rfl,List.take_length]
theorem size_l (s:ByteArray):s.size = s.data.toList.length:=by rw [Array.length_toList]; rfl
open Grp
theorem p_pow {V:Cv} {X:Nat} (h:X<V.p):X<256^nby V.p:=by
  have h1:=KCM V.p
  have h2:2^blen V.p≤2^(8*nby V.p):=Nat.pow_le_pow_right dc (by unfold nby; omega)
  rw [Nat.pow_mul] at h2
  exact Nat.lt_trans h (Nat.lt_of_lt_of_le h1 h2)
theorem pfx_l (x:Nat):(pfx x).data.toList = [UInt8.ofNat x]:=rfl
theorem coB_l (V:Cv) (X:Nat):(coB V X).data.toList = Kr (nby V.p) X:=by unfold coB strOf; rfl
theorem putS_s (V:Cv) (X Y:Nat):(putS V X Y true).data.toList = UInt8.ofNat (2+Y%2) :: Kr (nby V.p) X:=by
  unfold putS; rw [if_pos rfl,ByteArray.toList_data_append,pfx_l,coB_l]; rfl
theorem putS_l (V:Cv) (X Y:Nat):(putS V X Y false).data.toList = 4 :: (Kr (nby V.p) X++Kr (nby V.p) Y):=by
  unfold putS; rw [if_neg dc,ByteArray.toList_data_append,ByteArray.toList_data_append,pfx_l,coB_l,coB_l]; rfl
theorem on_rt {V:Cv} {X Y:Nat} (h:onB V.p V.a V.b X Y false = true):Y*Y%V.p = KCw V.p V.a V.b X:=by
  unfold onB at h
  rw [if_neg dc] at h
  simp only [Bool.and_eq_true,decide_eq_true_eq] at h
  exact h.2.2
theorem even_of {V:Cv} (hok:V.Ok) {X Y:Nat} (h:onB V.p V.a V.b X Y false = true):sqN V.p (KCw V.p V.a V.b X) = some (if Y%2 = 1 then V.p-Y else Y):=by
  obtain ⟨hX,hY⟩:=on_lt h
  have h1:=sqN_eq hok.fld (p_odd hok) (⟨Y,hY⟩:Fin V.p)
  rw [Fin.val_mul] at h1
  rw [← on_rt h]
  show sqN V.p (Y*Y%V.p) = _
  refine Eq.trans h1 (congrArg some ?_)
  unfold evenR
  by_cases h2:Y%2 = 1
  · rw [if_pos h2,if_pos h2,fin_neg_val _ (by show Y≠0; omega)]
  · rw [if_neg h2,if_neg h2]
theorem lift_put {V:Cv} (hok:V.Ok) {X Y:Nat} (h:onB V.p V.a V.b X Y false = true):liftT V X (Y%2) = (X,Y,true):=by
  have h1:=even_of hok h
  obtain ⟨hX,hY⟩:=on_lt h
  rcases Nat.mod_two_eq_zero_or_one Y with h2|h2
  · rw [if_neg om] at h1
    rw [h2]; exact lift_even hX h1
  · rw [if_pos h2] at h1
    rw [h2,lift_odd hX h1 om,show V.p-(V.p-Y) = Y by omega]
theorem u8_toNat {n:Nat} (h:n<256):(UInt8.ofNat n).toNat = n:=by
  rw [UInt8.toNat_ofNat']; exact Nat.mod_eq_of_lt h
theorem getT_short {V:Cv} {s:ByteArray} {b:UInt8} {l:List UInt8} {o X Y:Nat} {ok:Bool} (hs:s.data.toList = b :: l) (hl:l.length = nby V.p) (hb:b.toNat = 2+o) (ho:o≤1) (hL:liftT V (beVal l) o = (X,Y,ok)):getT V s = if ok then (X,Y,0) else (0,0,2101):=by
  have h1:s.size = 1+nby V.p:=by rw [size_l,hs,List.length_cons,hl,Nat.add_comm]
  have h2:b0 s = 2+o:=by unfold b0; rw [hs]; exact hb
  have h3:getX V s = beVal l:=by
    rw [getX_l,hs,Nat.add_comm,List.take_succ_cons,List.drop_succ_cons,List.drop_zero,← hl,List.take_length]
  rw [← h3] at hL
  cases ok
  · exact get_shortF h1 h2 ho hL
  · exact get_short h1 h2 ho hL
theorem getT_long {V:Cv} {s:ByteArray} {l m:List UInt8} {ok:Bool} (hk:1≤nby V.p) (hs:s.data.toList = 4 :: (l++m)) (hl:l.length = nby V.p) (hm:m.length = nby V.p) (hL:onB V.p V.a V.b (beVal l) (beVal m) false = ok):getT V s = if ok then (beVal l,beVal m,0) else (0,0,2101):=by
  have h1:s.size = 1+2*nby V.p:=by rw [size_l,hs,List.length_cons,List.length_append,hl,hm]; omega
  have h2:b0 s = 4:=by unfold b0; rw [hs]; rfl
  have h3:getX V s = beVal l:=by
    rw [getX_l,hs,Nat.add_comm,List.take_succ_cons,List.drop_succ_cons,List.drop_zero,List.take_left' hl]
  have h4:getY V s = beVal m:=by
    rw [getY_l,hs,Nat.add_comm,List.drop_succ_cons,List.drop_left' hl]
  have e:getT V s = if onB V.p V.a V.b (getX V s) (getY V s) false = true then (getX V s,getY V s,0) else (0,0,2101):=by
    unfold getT
    rw [if_neg om,if_pos ⟨h1,h2⟩]
  rw [e,h3,h4,hL]
theorem get_put {V:Cv} (hok:V.Ok) {X Y:Nat} (sh:Bool) (h:onB V.p V.a V.b X Y false = true):getT V (putS V X Y sh) = (X,Y,0):=by
  obtain ⟨hX,hY⟩:=on_lt h
  have eX:beVal (Kr (nby V.p) X) = X:=by rw [KCc,Nat.mod_eq_of_lt (p_pow hX)]
  have eY:beVal (Kr (nby V.p) Y) = Y:=by rw [KCc,Nat.mod_eq_of_lt (p_pow hY)]
  cases sh with
  | true =>
    refine (getT_short (o:=Y%2) (ok:=true) (X:=X) (Y:=Y) (putS_s V X Y) (KAG _ _) (u8_toNat om) om ?_).trans rfl
    rw [eX]; exact lift_put hok h
  | false =>
    refine (getT_long (ok:=true) (nby_posV hok) (putS_l V X Y) (KAG _ _) (KAG _ _) ?_).trans ?_
    · rw [eX,eY]; exact h
    · rw [eX,eY]; rfl
open Grp
theorem pStr_on {V:Cv} {X Y:Nat} (sh:Bool) (h:onB V.p V.a V.b X Y false = true):pStr V X Y false sh = putS V X Y sh∧pErr V X Y false = 0:=by
  unfold pStr pErr
  rw [if_pos (by rw [h]; rfl),if_pos (by rw [h]; rfl)]
  exact ⟨rfl,rfl⟩
theorem aff_on {V:Cv} {x y:Fin V.p} (h:On V.A V.B (.aff x y)):onB V.p V.a V.b x.val y.val false = true:=onB_on h
theorem putS_size {V:Cv} (hnb:nby V.p≤72) (X Y:Nat) (sh:Bool):(putS V X Y sh).size<9223372036854775808:=by
  rw [size_l]
  cases sh
  · rw [putS_l,List.length_cons,List.length_append,KAG,KAG]; omega
  · rw [putS_s,List.length_cons,KAG]; omega
open Grp
theorem c_bTimesN (V:Cv) (b f bd:Nat) (hok:V.Ok) (K:Nat) (R:Pt V.p) (w:World) (hK:K<V.n) (hR:pmul V.A V.G K = R) (hb:(Item.blk b ⟨false,opL V f,100,(0,0)⟩).holds w) (hf:(Item.blk f ⟨false,fldL V.p bd,165,(0,0)⟩).holds w) (hbd:(Item.blk bd ⟨false,dvL V.p,269,(0,0)⟩).holds w):CF Tryz.prog 42 [.pointer none,Pz b,natV K] w (ptP R) :=
  hR ▸ (c_bTimes none none [] V b f bd hok K hK _ rfl w (trI_nil _ _) (Nat.zero_le _) hb hf hbd (Out.nil _ _) (Out.nil _ _) (Out.nil _ _)).mono fun e w' h=>TrR.nil h
theorem c_cKeyT (V:Cv) (b f X:Nat) (w:World) (hb:(Item.blk b ⟨false,opL V f,100,(0,0)⟩).holds w) (hX:X<W9) (hnW:V.n<W9) (h0:X≠0) (hn:X<V.n):CF Tryz.prog 38 [Pz b,natV X] w (.bool true):=by
  refine KV (N:=18) (rs:=[.tmp 4]) [.blk b ⟨false,opL V f,100,(0,0)⟩] Tryz.func38 rfl Tryz.ntmps38 Tryz.results38 (Nb rfl) ⟨hb,trivial⟩ rfl ?_
  refine KB (KA (oS (mB (fun b3=>?_))));refine oA (KC (KB (rD [] ?_)));refine aD 0 rfl dNa ?_;refine aP 1 rfl (KJ (KX pl_33 zr_33 rfl rfl) (show _ = natV 0 by unfold natV natL; rw [← vec_zeros 9])) ?_;refine aP 2 rfl (KJ (KBh kr (fun w=>KBI X 0 hX KCC 10000 dc w) rfl rfl) (show _ = Value.bool true by rw [decide_eq_false h0]; rfl)) ?_;refine aM 3 ?_;refine aGD 4 rfl dNa ?_;refine aGM 5 ?_;refine aGP 6 rfl (KF rfl) (aGP 7 rfl (KE (o':=0) u100 rfl rfl rfl sz_53 dc) (aGP 8 rfl (KE (o':=28) u53 rfl rfl rfl sz_33 dc) (aGD 9 rfl (dL rfl (hv:=by exact KBB _ _ _ _ _ _ _ _ _ _ _ _ _ _ _ _)) ?_)));refine aGO 10 rfl (cF rfl en_46 rfl (fun w hw=>KAz X V.n hX hnW w) ?_);refine aGP 11 rfl (bT rfl rfl cmp_lt (hn)) (aP 12 rfl (Kd rfl rfl) (aA 13 ?_));refine aE (KN (eN (.cons rfl .nil) ?_))
  rfl
theorem c_cKeyZ (V:Cv) (b f:Nat) (w:World) (hb:(Item.blk b ⟨false,opL V f,100,(0,0)⟩).holds w):CF Tryz.prog 38 [Pz b,natV 0] w (.bool false):=by
  refine KV (N:=18) (rs:=[.tmp 4]) [.blk b ⟨false,opL V f,100,(0,0)⟩] Tryz.func38 rfl Tryz.ntmps38 Tryz.results38 (Nb rfl) ⟨hb,trivial⟩ rfl ?_
  refine KB (KA (oS (mB (fun b3=>?_))));refine oA (KC (KB (rD [] ?_)));refine aD 0 rfl dNa ?_;refine aP 1 rfl (KJ (KX pl_33 zr_33 rfl rfl) (show _ = natV 0 by unfold natV natL; rw [← vec_zeros 9])) ?_;refine aP 2 rfl (KJ (KBh kr (fun w=>KBI 0 0 KCC KCC 10000 dc w) rfl rfl) (show _ = Value.bool false by rw [decide_eq_true rfl]; rfl)) ?_;refine aM 3 ?_;refine aK 4 ?_;refine aK 5 ?_;refine aK 6 ?_;refine aK 7 ?_;refine aK 8 ?_;refine aK 9 ?_;refine aK 10 ?_;refine aK 11 ?_;refine aP 12 rfl (KT rfl rfl) (aA 13 ?_);refine aE (KN (eN (.cons rfl .nil) ?_))
  rfl
theorem c_cKeyF (V:Cv) (b f X:Nat) (w:World) (hb:(Item.blk b ⟨false,opL V f,100,(0,0)⟩).holds w) (hX:X<W9) (hnW:V.n<W9) (h0:X≠0) (hn:V.n≤X):CF Tryz.prog 38 [Pz b,natV X] w (.bool false):=by
  refine KV (N:=18) (rs:=[.tmp 4]) [.blk b ⟨false,opL V f,100,(0,0)⟩] Tryz.func38 rfl Tryz.ntmps38 Tryz.results38 (Nb rfl) ⟨hb,trivial⟩ rfl ?_
  refine KB (KA (oS (mB (fun b3=>?_))));refine oA (KC (KB (rD [] ?_)));refine aD 0 rfl dNa ?_;refine aP 1 rfl (KJ (KX pl_33 zr_33 rfl rfl) (show _ = natV 0 by unfold natV natL; rw [← vec_zeros 9])) ?_;refine aP 2 rfl (KJ (KBh kr (fun w=>KBI X 0 hX KCC 10000 dc w) rfl rfl) (show _ = Value.bool true by rw [decide_eq_false h0]; rfl)) ?_;refine aM 3 ?_;refine aGD 4 rfl dNa ?_;refine aGM 5 ?_;refine aGP 6 rfl (KF rfl) (aGP 7 rfl (KE (o':=0) u100 rfl rfl rfl sz_53 dc) (aGP 8 rfl (KE (o':=28) u53 rfl rfl rfl sz_33 dc) (aGD 9 rfl (dL rfl (hv:=by exact KBB _ _ _ _ _ _ _ _ _ _ _ _ _ _ _ _)) ?_)));refine aGO 10 rfl (cF rfl en_46 rfl (fun w hw=>KAz X V.n hX hnW w) ?_);refine aGP 11 rfl (bF rfl rfl cmp_lt (Nat.not_lt_of_le hn)) (aP 12 rfl (Kd rfl rfl) (aA 13 ?_));refine aE (KN (eN (.cons rfl .nil) ?_))
  rfl
theorem c_kCheckT (id:Int) (V:Cv) (K:Nat) (w:World) (h:cvI id = some V) (h0:K≠0) (hn:K<V.n):CF Tryz.prog 54 [.int .i64 id,natV K] w (Iz 0):=by
  obtain ⟨hok,hid⟩:=KAw h
  have hbb:=hok.bounds
  have hpW:V.p<W9:=Ks hbb.2.1
  have hnW:V.n<W9:=Ks hbb.2.2.2.2.2.2.1
  have hbl:=KAM hnW
  have hnb:nby V.n≤72:=by (unfold nby; omega)
  refine KV (N:=16) (rs:=[.tmp 4]) [] Tryz.func54 rfl Tryz.ntmps54 Tryz.results54 (Nb rfl) trivial rfl ?_
  refine KB (KA (oS (mB (fun b3=>?_))));refine oP (KO (v:=Iz 0) rfl) (KC (KB (KA (oM ?_))));refine oS (oOpen h rfl rfl (fun b f bd=>?_));refine oA (KC (KB (LCode.block (KB (KA (oM ?_))))));refine oP (KJ (KAI u81 rfl rfl) (show _ = Value.bool false from rfl)) (oA (KC ?_));refine KH rfl (KB (KA (oM ?_)));refine oD dNa ?_;refine oS (cF rfl en_38 rfl (fun w hw=>c_cKeyT V b f K w (mC hw) (Nat.lt_trans hn hnW) hnW h0 hn) ?_);refine oP (KJ (KAH rfl) (show _ = Value.bool false from rfl)) (oA (KC ?_));refine KH rfl (KM (KB (KA (oP (KO (v:=Iz 0) rfl) (KC (KN (eN (.cons rfl .nil) ?_)))))))
  rfl
theorem c_kPublic (id:Int) (V:Cv) (K:Nat) (R:Pt V.p) (w:World) (h:cvI id = some V) (h0:K≠0) (hn:K<V.n) (hR:pmul V.A V.G K = R):CF Tryz.prog 20 [.pointer none,.int .i64 id,natV K] w (.tuple #[ptP R,Iz 0]):=by
  obtain ⟨hok,hid⟩:=KAw h
  have hbb:=hok.bounds
  have hpW:V.p<W9:=Ks hbb.2.1
  have hnW:V.n<W9:=Ks hbb.2.2.2.2.2.2.1
  have hbl:=KAM hnW
  have hnb:nby V.n≤72:=by (unfold nby; omega)
  refine KV (N:=21) (rs:=[.cell 6 47,.tmp 7]) [] Tryz.func20 rfl Tryz.ntmps20 Tryz.results20 (Nb rfl) trivial rfl ?_
  refine KB (KA (oS (mB (fun b5=>?_))));refine oS (mk (KK zr_47) (fun b6=>?_));refine oP (KO (v:=Iz 0) rfl) (KC (KB (KB (KA (oM ?_)))));refine oD dNa ?_;refine oS (cF rfl en_54 rfl (fun w hw=>c_kCheckT id V K w h h0 hn) ?_);refine oA (KC (KB (KA (oM ?_))));refine oP (bF rfl rfl (KAn (b:=0)) dc) (KC (KH rfl (KM (KB (rD [5] (aM 0 ?_))))));refine aM 1 ?_;refine aD 3 rfl dNa ?_;refine aO 2 rfl (oOpen h rfl rfl (fun b f bd=>?_));refine aO 4 rfl (cF rfl en_42 rfl (fun w hw=>c_bTimesN V b f bd hok K R w hn hR (mC hw) (mC hw) (mC hw)) ?_);refine aL 5 rfl (sA rfl rfl sz_47 (by exact KAB _ _ _) (hl:=by exact KW _ _ _) (h:=?_));refine aP 6 rfl (KO (v:=Iz 0) rfl) (aE (KN (eN (.cons ⟨_,_,_,rfl,mM,by exact KD u47 rfl sz_47⟩ (.cons rfl .nil)) ?_)))
  rfl
open Grp
def GetC (id:Int) (s:ByteArray) (X Y:Nat):Prop:=∀ w:World,CF Tryz.prog 29 [.int .i64 id,.string s] w (.tuple #[ptV X Y false,Iz 0])
theorem c_get4 {V:Cv} (hok:V.Ok) {X Y:Nat} (ho:onB V.p V.a V.b X Y false = true) {id:Int} (h:cvI id = some V):GetC id (putS V X Y false) X Y:=by
  intro w
  obtain ⟨hX,hY⟩:=on_lt ho
  have hpW:V.p<W9:=Ks hok.bounds.2.1
  have eX:beVal (Kr (nby V.p) X) = X:=by rw [KCc,Nat.mod_eq_of_lt (p_pow hX)]
  have eY:beVal (Kr (nby V.p) Y) = Y:=by rw [KCc,Nat.mod_eq_of_lt (p_pow hY)]
  have hs:=putS_l V X Y
  have hl:(Kr (nby V.p) X).length = nby V.p:=KAG _ _
  refine c_s_Get4 id V _ X Y w h ?_ ?_ ?_ ?_ (Nat.lt_trans hX hpW) (Nat.lt_trans hY hpW) ho
  · rw [size_l,hs,List.length_cons,List.length_append,KAG,KAG]; omega
  · unfold b0; rw [hs]; rfl
  · have:=getX_l V (putS V X Y false)
    unfold getX at this
    rw [this,hs,Nat.add_comm,List.take_succ_cons,List.drop_succ_cons,List.drop_zero,List.take_left' hl,eX]
  · have:=getY_l V (putS V X Y false)
    unfold getY at this
    rw [this,hs,Nat.add_comm,List.drop_succ_cons,List.drop_left' hl,eY]
theorem c_eSharedG (tb:Option Nat) (tr:TrRow) (l:List Nat) (id:Int) (V:Cv) (K:Nat) (s:ByteArray) (x y:Fin V.p) (m:Nat) (hm:(blen V.n+3)/4 = m) (w:World) (h:cvI id = some V) (hk0:K≠0) (hn:K<V.n) (hg:GetC id s x.val y.val) (hP:On V.A V.B (.aff x y)) (h0:(trI tb tr l).holds w) (hl:l.length≤80000000):Calls Tryz.prog 26 ([trV tb,.int .i64 id,natV K,.string s]:List Value).toArray w (fun e w'=>TrR w tb tr (l++evN m) (.tuple #[.string (coB V (xv (pmul V.A (.aff x y:Pt V.p) K))),Iz 0]) e w'):=by
  obtain ⟨hok,hid⟩:=KAw h
  have hbb:=hok.bounds
  have hpW:V.p<W9:=Ks hbb.2.1
  have hnW:V.n<W9:=Ks hbb.2.2.2.2.2.2.1
  have hbl:=KAM hnW
  have hnb:nby V.n≤72:=by (unfold nby; omega)
  have hnp:=nbp_72 hok
  refine calls_tr (N:=55) (rs:=[.tmp 8,.tmp 9]) tb tr l [] Tryz.func26 rfl Tryz.ntmps26 Tryz.results26 (Nb rfl) h0 trivial rfl trivial ?_
  refine KB (KA (oS (mB (fun b6=>?_))));refine oA ?_;refine oP (KO (v:=Iz 0) rfl) (KC (KB (KA (oM ?_))));refine oS (oOpen h rfl rfl (fun b f bd=>?_));refine oA (KC (KB (LCode.block (KB (KA (oM ?_))))));refine oP (KJ (KAI u81 rfl rfl) (show _ = Value.bool false from rfl)) (oA (KC ?_));refine KH rfl (KB (KA (oM ?_)));refine oD dNa ?_;refine oS (cF rfl en_54 rfl (fun w hw=>c_kCheckT id V K w h hk0 hn) ?_);refine oP (bF rfl rfl (KAn (b:=0)) dc) (oA (KC ?_));refine KH rfl (KM (KB (KA (oM (oM ?_)))));refine oS (cF rfl en_29 rfl (fun w hw=>hg w) ?_);refine oM ?_;refine oX ?_;refine oX ?_;refine oS (mk (KK zr_47) (fun b11=>?_));refine LOps.step rfl (sA rfl rfl sz_47 (by exact KAB _ _ _) (hl:=by simp [KW,KU]) (h:=?_));refine oA (KC (KB (KB (KA (oM ?_)))));refine oP (bF rfl rfl (KAn (b:=0)) dc) (KC (KH rfl (KM (KB (KA (oM (oM ?_)))))))
  refine oD dNa ?_;refine oD dNb ?_;refine LOps.step rfl (KBv (first:=[]) (r:=tr) (l:=l) (l':=l++evN m) rfl en_58 rfl (Nb rfl) mP (fun w hw hn0=>c_mMul tb tr l id V K (.aff x y) m hm w h hP hn (mC hw) hl) ?_)
  intro r1
  refine oM ?_;refine oX ?_;refine oX ?_;refine oS (mk (KK zr_47) (fun b13=>?_));refine LOps.step rfl (sA rfl rfl sz_47 (by exact KAB _ _ _) (hl:=by simp [KW,KU]) (h:=?_));refine oA (KC (KB (rD [] ?_)));refine aP 0 rfl (KE (o':=0) u47 rfl rfl rfl sz_33 dc) (aD 1 rfl (dL rfl (hv:=by exact Kh u33 rfl sz_33 rfl (KL _))) ?_);refine aM 2 ?_;refine aP 3 rfl (KF rfl) (aP 4 rfl (KE (o':=0) u100 rfl rfl rfl sz_53 dc) (aP 5 rfl (KE (o':=57) u53 rfl rfl rfl sz_3 dc) (aD 6 rfl (dL rfl (hv:=KI u3 rfl (by exact KAl _ _ _ _ _ _ _ _ _ _ _ _ _))) ?_)));refine aO 7 rfl (cF rfl en_47 rfl (fun w hw=>KBg (xv (pmul V.A (.aff x y:Pt V.p) K)) (nby V.p) w (Nat.lt_trans (xv_lt _) hpW) hnp (nby_le (xv_lt _))) ?_);refine aM 8 ?_;refine aP 9 rfl (Det.extract rfl rfl) (aP 10 rfl (Det.extract rfl rfl) (aA 11 ?_));refine aA 12 ?_;refine aE (KB (KA (oM (oA ?_))))
  refine oP (KO (v:=Iz 0) rfl) (KC (KN ?_))
  exact ⟨[_,_],.cons rfl (.cons rfl .nil),fun a w' hr=>hr.tr mM⟩
theorem c_eSharedGN (R:ByteArray) (id:Int) (V:Cv) (K:Nat) (s:ByteArray) (x y:Fin V.p) (w:World) (h:cvI id = some V) (h0:K≠0) (hn:K<V.n) (hg:GetC id s x.val y.val) (hP:On V.A V.B (.aff x y)) (hR:coB V (xv (pmul V.A (.aff x y:Pt V.p) K)) = R):CF Tryz.prog 26 [.pointer none,.int .i64 id,natV K,.string s] w (.tuple #[.string R,Iz 0]) :=
  hR ▸ (c_eSharedG none none [] id V K s x y _ rfl w h h0 hn hg hP (trI_nil _ _) (Nat.zero_le _)).mono fun e w' h=>TrR.nil h
end Go.Proofs.YtnpeokiboiclfaaGreat
set_option linter.unusedVariables false
set_option linter.unusedSimpArgs false
namespace Go.Proofs.YtnpeokiboiclfaaGreat
open Go Go.RowKit
def byF (s:ByteArray) (i:Nat):Nat:=(s.data.toList.getD i 0).toNat
theorem Rel.allocF {C : Ctx} {st : St} {a : Act} {w : World} (h : Rel C st a w) (cs : List Value) (e : TypeId) (fz : Nat × Nat) :
    Rel C ⟨st.T,.blk w.heap.size ⟨true,cs,e,fz⟩ :: st.H⟩ a (w.alloc (.cells cs.toArray e fz)):=by
  refine ⟨h.size,h.defers,h.tm,?_,?_,?_,?_⟩
  · intro x hx
    rcases List.mem_cons.1 hx with rfl|hx
    · exact heap_alloc_new _ _
    · exact holds_alloc (h.hp x hx) _
  · intro x hx hw k hk
    rcases List.mem_cons.1 hx with rfl|hx
    · simp [Item.fp] at hk; subst hk; exact .inl h.fr.size
    · exact h.own x hx hw k hk
  · refine List.pairwise_cons.2 ⟨fun y hy _ k hk hk'=>?_,h.dist⟩
    simp [Item.fp] at hk; subst hk
    exact Nat.lt_irrefl _ (Item.lt (h.hp y hy) _ hk')
  · exact ⟨h.fr.os,h.fr.tape,h.fr.output,by have:=h.fr.size; simp; omega,fun k hk hw=>(Below.heap_alloc _ _ _ (Nat.lt_of_lt_of_le hk h.fr.size)).trans (h.fr.block k hk hw)⟩
section
variable {P:Program} {C:Ctx} {ty:TypeId} {pos:String} {aft:Array Edge} {d:Nat} {K:St→Prop} {x:Operand} {t e sr:TypeId}
theorem LStepW.toBytes {T : List (Nat × Value)} {H : List Item} {s : ByteArray} {g : Option (Nat × Bool)} {u : TypeDesc} (hx : evT T x = some (.string s)) (hs : P.underlying sr = some u) (ht : P.underlying t = some (.slice e)) (he : P.underlying e = some (.int .u8)) (hd : d < C.N)
    (h:∀ b cap rest n,s.size+List.length rest = n→K ⟨(d,.slice (some ⟨b,0,none⟩) s.size cap) :: T,.blk b ⟨true,vec .u8 s.size (byF s)++rest,e,(n,n+1)⟩ :: H⟩):KAX P C ⟨some d,.convert sr t x,ty,pos,aft,g⟩ ⟨T,H⟩ K:=by
  unfold KAX
  intro a w hr Qr
  unfold Oper.wp
  have hrun:=Go.Lib.run_convert_string_bytes (P:=P) w sr t e s hs ht he
  have hl:(Go.Lib.bytesCells w e s).toList = vec .u8 s.size (byF s)++List.replicate (grownCap w s.size 0 e-s.size) (Value.int .u8 0):=by
    unfold Go.Lib.bytesCells vec byF
    rw [Array.toList_append,Array.toList_replicate]
    congr 1
    rw [Array.toList_map]
    apply List.ext_getElem
    · simp
    · intro i h1 h2
      simp at h1
      simp [List.getD,h1]
  have hw:Go.Lib.bytesWorld w e s = w.drew.alloc (.cells (Go.Lib.bytesCells w e s) e ((Go.Lib.bytesCells w e s).size,(Go.Lib.bytesCells w e s).size+1)):=by
    have hm:∀ (a:Array Obj) (x:Obj) (f:Obj→Obj),(a.push x).modify a.size f = a.push (f x):=by
      intro a x f
      apply Array.ext
      · simp
      · intro i h1 h2
        simp only [Array.getElem_modify,Array.getElem_push]
        by_cases h:a.size = i
        · subst h
          simp
        · have hi:i<a.size:=by simp at h1; omega
          simp [h,hi]
    unfold Go.Lib.bytesWorld World.freeze
    rw [if_neg (by decide)]
    show ({ w.drew.alloc (.cells (Go.Lib.bytesCells w e s) e) with heap:=(w.heap.push (.cells (Go.Lib.bytesCells w e s) e)).modify w.heap.size _ }:World) = _
    rw [hm]
    rfl
  have hex:(execOp a.eval ⟨some d,.convert sr t x,ty,pos,aft,g⟩).run P w = .ok (.value (.slice (some ⟨w.heap.size,0,none⟩) s.size (grownCap w s.size 0 e))) (Go.Lib.bytesWorld w e s):=by
    simp [execOp,hr.ev hx,hrun]
  rw [hex]
  have hK:=h w.heap.size (grownCap w s.size 0 e) (List.replicate (grownCap w s.size 0 e-s.size) (Value.int .u8 0)) (Go.Lib.bytesCells w e s).size (by
    rw [← Array.length_toList,hl,List.length_append,KU])
  refine ⟨_,hK,?_⟩
  have hal:=hr.drew.allocF (vec .u8 s.size (byF s)++List.replicate (grownCap w s.size 0 e-s.size) (Value.int .u8 0)) e ((Go.Lib.bytesCells w e s).size,(Go.Lib.bytesCells w e s).size+1)
  have e1:(vec .u8 s.size (byF s)++List.replicate (grownCap w s.size 0 e-s.size) (Value.int .u8 0)).toArray = Go.Lib.bytesCells w e s:=by
    apply Array.ext'
    exact hl.symm
  rw [e1] at hal
  rw [hw]
  exact hal.put hd _
end
end Go.Proofs.YtnpeokiboiclfaaGreat
