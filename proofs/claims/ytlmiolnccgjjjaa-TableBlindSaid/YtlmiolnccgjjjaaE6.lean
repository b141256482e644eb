/- Part 6 of what the proof leans on: a symbolic execution of the model, walks of the program's functions, and the mathematics. No condition. -/
import Derived.WalkKit
import Derived.Orders
import Derived.Laws.StructEq
import Derived.WalkSpells
import Derived.OrdersHeld
import Derived.KernelRfl
import Derived.Laws.Externs
import Derived.Laws.Bits64
import Derived.Laws.MakeOwn
import Derived.Laws.BytesString
import Derived.Carry
import Derived.WideShapes
import GoSem.Claim
import Derived.Test.YtlmiolnccgjjjaaProg
import Derived.Laws.AppendOwn
import Derived.Test.YtlmiolnccgjjjaaRows
import Derived.ProofKit
import Derived.OpenShut
import Derived.Test.YtlmiolnccgjjjaaE5
set_option linter.unusedVariables false
set_option linter.unusedSimpArgs false
set_option maxRecDepth 20000
namespace Go.Proofs.Ytlmiolnccgjjjaa
open Go Go.RowKit
theorem br_andI (x:Int) {m:Nat} (k:Nat) (hk:k≤62) (hm:m = 2^k-1):KAP .and .i64 x .i64 ((m:Nat):Int) = some (.int .i64 (((x%(2^k:Nat)).toNat:Nat):Int)):=by
  subst hm
  have hp:2^k≤4611686018427387904:=Nat.pow_le_pow_right (n:=2) (by decide) hk
  have hp0:0<2^k:=Nat.pow_pos (by decide)
  show some (Value.int .i64 (IntKind.i64.wrap ((BitVec.ofInt 64 x &&& BitVec.ofInt 64 ((2^k-1:Nat):Int)).toNat:Int))) = _
  have h1:(BitVec.ofInt 64 x &&& BitVec.ofInt 64 ((2^k-1:Nat):Int)).toNat = (x%(2^k:Nat)).toNat:=by
    rw [ofInt_nat,BitVec.toNat_and,BitVec.toNat_ofNat,Nat.mod_eq_of_lt (show 2^k-1<2^64 by omega),Nat.and_two_pow_sub_one_eq_mod]
    have h2:(BitVec.ofInt 64 x).toNat = (x%18446744073709551616).toNat:=by rw [BitVec.toNat_ofInt]; rfl
    rw [h2]
    have hd:((2^k:Nat):Int) ∣ 18446744073709551616:=⟨((2^(64-k):Nat):Int),by rw [← Int.natCast_mul,← Nat.pow_add,show k+(64-k) = 64 by omega]; rfl⟩
    have h3:=Int.emod_emod_of_dvd x hd
    have h4:0≤x%18446744073709551616:=Int.emod_nonneg _ (by decide)
    generalize x%18446744073709551616 = y at *
    rw [← h3]
    obtain ⟨n,rfl⟩:∃ n:Nat,y = n:=⟨y.toNat,by omega⟩
    rw [Int.toNat_natCast,← Int.natCast_emod,Int.toNat_natCast]
  have h5:=Int.emod_lt_of_pos x (show (0:Int)<((2^k:Nat):Int) by omega)
  have h6:=Int.emod_nonneg x (show ((2^k:Nat):Int)≠0 by omega)
  rw [h1,wrap_i64 (by omega) (by omega)]
def lowI (x:Int) (m:Nat):Nat:=(x%(m:Int)).toNat
theorem lowI_lt (x:Int) {m:Nat} (hm:0<m):lowI x m<m:=by
  unfold lowI
  have h5:=Int.emod_lt_of_pos x (show (0:Int)<(m:Int) by omega)
  have h6:=Int.emod_nonneg x (show (m:Int)≠0 by omega)
  omega
theorem br_and15 (x:Int):KAP .and .i64 x .i64 15 = some (.int .i64 ((lowI x 16:Nat):Int)):=br_andI x (m:=15) 4 (by decide) rfl
theorem br_and7 (x:Int):KAP .and .i64 x .i64 7 = some (.int .i64 ((lowI x 8:Nat):Int)):=br_andI x (m:=7) 3 (by decide) rfl
open Grp
theorem c_awake16  (w:World)  : Calls Try.prog 28 ([]:List Value).toArray w (fun e w'=>e = .returned (.bool true)∧Below w.heap.size w w'):=by
  obtain ⟨V,hV⟩:∃ V,V = cv13:=⟨_,rfl⟩
  have h:cvI 13 = some V:=by rw [hV]; rfl
  obtain ⟨hok,hid⟩:=cvI_ok h
  have hn13:V.n = 223:=by rw [hV]; rfl
  obtain ⟨hb5,hb521,hba,hbb,hbx,hby,hbn,hbo,hbo2,hbb1,hbn1⟩:=hok.bounds
  have hsz:=hok.sz
  have hsp:=hsz.p
  have hsa:=hsz.a
  have hsb:=hsz.b
  have hp0:V.p≠0:=by omega
  have hpp:0<V.p:=by omega
  have hm17:∀ k,D.nw (k%V.p)≤17:=fun k=>Nat.le_trans (D.nw_mono (Nat.le_of_lt (Nat.mod_lt k hpp))) hsp
  refine Ky (N:=78) (rs:=[.tmp 0]) [] Try.func28 rfl Try.ntmps28 Try.results28 (Nb rfl) trivial rfl ?_
  show LCode _ _ _ ⟨_,_⟩ _
  refine KD (KB ?_)
  refine KA (KF rfl) (Nb rfl) ?_
  refine KG ?_
  refine KD (KB ?_)
  refine KI rfl (KS (Kx (Post:=fun v its=>∃ Q,v = .tuple #[.agg (crvL Q V).toArray,.bool true]∧its = [crvI Q V]) (first:=[]) rfl en_29 rfl (Nb rfl) (fun w1 hw hs=>(c_r_Get _ V w1 h).mono fun e w' ⟨Q,h1,h2,h3,h4⟩=>⟨_,_,⟨Q,rfl,rfl⟩,h1,Brings.nums h4 (by intro x hx; simp at hx; subst hx; exact h2) (by intro x hx; simp at hx; subst hx; rfl) (by intro x hx k hk; simp at hx; subst hx; exact .inl (h3 k hk))⟩) ?_))
  rintro _ _ ⟨Q,rfl,rfl⟩
  refine KA (KC rfl) (Nb rfl) ?_
  refine KA (Ka rfl rfl) (Nb rfl) ?_
  refine KA (Ka rfl rfl) (Nb rfl) ?_
  refine KI rfl (KS (KR (Ke zr_26) (Nb rfl) (fun b1=>?_)))
  refine KI rfl (KQ rfl rfl sz_26 (by repeat (first|exact KY|refine KW rfl ?_)) (by repeat (first|exact Sh _|apply St_)) (by rfl) ?_)
  refine KA (KF rfl) (Nb rfl) ?_
  refine KG ?_
  refine KD (KB ?_)
  refine LOps.det (KL rfl (by repeat (first|exact Mh _|apply Mt)) (by exact KO Try.underlying26 rfl sz_26)) (Nb rfl) ?_
  refine KI rfl (KS (Kx (first:=[]) rfl en_31 rfl (Nb rfl) (fun w hw hs=>(c_r_GP Q V w (hw _ (by repeat (first|exact Mh _|apply Mt))) hok).mono fun e w' h=>Num2R.q (Old.one (x:=crvI Q V) (by repeat (first|exact Mh _|apply Mt)) rfl) hs h) ?_))
  rintro _ _ ⟨qga,qgb,rfl,rfl,hnga,hngb⟩
  refine KI rfl (KS (KP (first:=[]) rfl en_30 rfl (Nb rfl) (fun w hw=>c_r_OutP V qga qgb (V.G) w (hw _ (by repeat (first|exact Mh _|apply Mt))) (hw _ (by repeat (first|exact Mh _|apply Mt)))) ?_))
  refine KI rfl (KS (KR (Ke zr_35) (Nb rfl) (fun b3=>?_)))
  refine KI rfl (KQ rfl rfl sz_35 (by exact Kn _ _ _) (by repeat (first|exact Sh _|apply St_)) (by exact KV _ _ _) ?_)
  refine KG ?_
  refine KD (KB ?_)
  refine LOps.det (KL rfl (by repeat (first|exact Mh _|apply Mt)) (by exact KO Try.underlying35 rfl sz_35)) (Nb rfl) ?_
  refine KI rfl (KS (KAb (first:=[]) rfl en_32 rfl (Nb rfl) (fun w hw=>bringsC (c_tabNew 13 V (V.G) 4 w h hok.on (by omega) (by omega)) _) ?_))
  rintro _ _ ⟨bt0,br0,cap0,rest0,rfl,rfl⟩
  refine KA (KC rfl) (Nb rfl) ?_
  refine KA (Ka rfl rfl) (Nb rfl) ?_
  refine KA (Ka rfl rfl) (Nb rfl) ?_
  refine KA (KF rfl) (Nb rfl) ?_
  refine KA (KF rfl) (Nb rfl) ?_
  refine KG ?_
  refine KD ?_
  refine KD (KB ?_)
  refine KA (KC rfl) (Nb rfl) ?_
  refine KI rfl (KS (KP (first:=[]) rfl en_33 rfl (Nb rfl) (fun w hw=>c_Num _ w) ?_))
  refine KA (KK (v:=.bool false) rfl rfl (br_f (br_neq (b:=0)) (by first|exact (fun e=>e rfl)|(simp; done)|omega))) (Nb rfl) ?_
  refine KA (KC rfl) (Nb rfl) ?_
  refine KU rfl rfl (KC rfl) (Nb rfl) ?_
  refine KU rfl rfl (KT (Det.eqp Try.underlying40 rfl rfl) (show _ = Value.bool false by rfl)) (Nb rfl) ?_
  refine KA (KAC rfl rfl) (Nb rfl) ?_
  refine KG ?_
  refine Kd rfl ?_
  refine Kf ?_
  refine KD (KB ?_)
  refine KI rfl (KS (KAb (first:=[]) rfl en_36 rfl (Nb rfl) (fun w hw=>bringsC (c_trNew w) _) ?_))
  rintro _ _ ⟨tb0,rfl,rfl⟩
  refine KA (KF rfl) (Nb rfl) ?_
  refine KG ?_
  refine KD (KB ?_)
  refine KA (KC rfl) (Nb rfl) ?_
  refine KA (KC rfl) (Nb rfl) ?_
  refine KI rfl (LStepW.callT (first:=[]) (b:=some tb0) (r:=none) (l:=[]) (l':=[]++List.range 4) rfl en_34 rfl (Nb rfl) (by repeat (first|exact Pick.head _|apply Pick.tail)) (fun w hw hn=>c_tabPick (some tb0) none ([]) bt0 br0 cap0 rest0 V hok (mulE V V.G) 4 1 (by decide) (by omega) w (hw _ (by repeat (first|exact Mh _|apply Mt))) (hw _ (by repeat (first|exact Mh _|apply Mt))) (hw _ (by repeat (first|exact Mh _|apply Mt))) (hn _ (by repeat (first|exact Mh _|apply Mt))) (hn _ (by repeat (first|exact Mh _|apply Mt))) (by simp)) ?_)
  intro r1
  refine KA (KC rfl) (Nb rfl) ?_
  refine KA (Ka rfl rfl) (Nb rfl) ?_
  refine KA (Ka rfl rfl) (Nb rfl) ?_
  refine KI rfl (KS (KR (Ke zr_35) (Nb rfl) (fun b7=>?_)))
  refine KI rfl (KQ rfl rfl sz_35 (by exact Kn _ _ _) (by repeat (first|exact Sh _|apply St_)) (by exact KV _ _ _) ?_)
  refine KA (KF rfl) (Nb rfl) ?_
  refine KG ?_
  refine KD (KB ?_)
  refine KA (KC rfl) (Nb rfl) ?_
  refine KA (KC rfl) (Nb rfl) ?_
  refine KI rfl (KS (KP (first:=[]) rfl en_34 rfl (Nb rfl) (fun w hw=>c_tabPick_bad (some tb0) bt0 br0 cap0 4 4 w (hw _ (by repeat (first|exact Mh _|apply Mt))) (.inr (by decide))) ?_))
  refine KA (KC rfl) (Nb rfl) ?_
  refine KA (Ka rfl rfl) (Nb rfl) ?_
  refine KA (Ka rfl rfl) (Nb rfl) ?_
  refine KI rfl (KS (KR (Ke zr_35) (Nb rfl) (fun b9=>?_)))
  refine KI rfl (KQ rfl rfl sz_35 (by exact Kn _ _ _) (by repeat (first|exact Sh _|apply St_)) (by exact KV _ _ _) ?_)
  refine KA (KF rfl) (Nb rfl) ?_
  refine KG ?_
  refine KD (KB ?_)
  refine LOps.det (KL rfl (by repeat (first|exact Mh _|apply Mt)) (by exact KO Try.underlying35 rfl sz_35)) (Nb rfl) ?_
  refine KI rfl (KS (KP (first:=[]) rfl en_32 rfl (Nb rfl) (fun w hw=>c_tabNew_size 13 V V.G 17 w h hok.on (.inr (by decide))) ?_))
  refine KA (KC rfl) (Nb rfl) ?_
  refine KA (Ka rfl rfl) (Nb rfl) ?_
  refine KA (Ka rfl rfl) (Nb rfl) ?_
  refine KA (KF rfl) (Nb rfl) ?_
  refine KA (KF rfl) (Nb rfl) ?_
  refine KG ?_
  refine KD (KB ?_)
  refine LOps.det (KL rfl (by repeat (first|exact Mh _|apply Mt)) (by exact KO Try.underlying35 rfl sz_35)) (Nb rfl) ?_
  refine LOps.det (KL rfl (by repeat (first|exact Mh _|apply Mt)) (by exact KO Try.underlying35 rfl sz_35)) (Nb rfl) ?_
  refine KA (KT (Det.eqa (by kernel_rfl) (fun w=>eq_ptP_t hok (P:=mulE V V.G 1) (Q:=V.G) (pmul_one hok.fld hok.on) 10000 (by decide) w) rfl rfl) (show _ = Value.bool true by rfl)) (Nb rfl) ?_
  refine KA (KC rfl) (Nb rfl) ?_
  refine KU rfl rfl (KC rfl) (Nb rfl) ?_
  refine KAS rfl rfl rfl (KS (KP (first:=[]) rfl en_33 rfl (Nb rfl) (fun w hw=>c_Num _ w) ?_))
  refine KU rfl rfl (KK (v:=.bool true) rfl rfl (br_t (KAc (b:=0)) (by first|rfl|assumption|omega|(simp; done)))) (Nb rfl) ?_
  refine KA (Kp rfl rfl) (Nb rfl) ?_
  refine KA (KC rfl) (Nb rfl) ?_
  refine KU rfl rfl (KC rfl) (Nb rfl) ?_
  refine KAS rfl rfl rfl (KS (KP (first:=[]) rfl en_33 rfl (Nb rfl) (fun w hw=>c_Num _ w) ?_))
  refine KU rfl rfl (KK (v:=.bool true) rfl rfl (br_t (KAc (b:=1603)) (by first|rfl|assumption|omega|(simp; done)))) (Nb rfl) ?_
  refine KA (Kp rfl rfl) (Nb rfl) ?_
  refine KA (KC rfl) (Nb rfl) ?_
  refine KU rfl rfl (KC rfl) (Nb rfl) ?_
  refine KAS rfl rfl rfl (KS (KP (first:=[]) rfl en_33 rfl (Nb rfl) (fun w hw=>c_Num _ w) ?_))
  refine KU rfl rfl (KK (v:=.bool true) rfl rfl (br_t (KAc (b:=1602)) (by first|rfl|assumption|omega|(simp; done)))) (Nb rfl) ?_
  refine KA (Kp rfl rfl) (Nb rfl) ?_
  refine KA (KC rfl) (Nb rfl) ?_
  refine KU rfl rfl (KC rfl) (Nb rfl) ?_
  refine KAS rfl rfl rfl (KS (KP (first:=[]) rfl en_35 rfl (Nb rfl) (fun w hw=>c_tabSize bt0 br0 4 cap0 w (hw _ (by repeat (first|exact Mh _|apply Mt)))) ?_))
  refine KU rfl rfl (KK (v:=.bool true) rfl rfl (br_t (KAc (b:=4)) (by first|rfl|assumption|omega|(simp; done)))) (Nb rfl) ?_
  refine KA (Kp rfl rfl) (Nb rfl) ?_
  refine KA (KC rfl) (Nb rfl) ?_
  refine KU rfl rfl (KC rfl) (Nb rfl) ?_
  refine KAS rfl rfl rfl (KS (KP (first:=[]) rfl en_37 rfl (Nb rfl) (fun w hw=>c_trLen tb0 r1 ([]++List.range 4) w (hw _ (by repeat (first|exact Mh _|apply Mt)))) ?_))
  refine KU rfl rfl (KK (v:=.bool true) rfl rfl (br_t (KAc (b:=4)) (by first|rfl|assumption|omega|(simp; done)))) (Nb rfl) ?_
  refine KA (Kp rfl rfl) (Nb rfl) ?_
  refine KA (KF rfl) (Nb rfl) ?_
  refine KG (KX ?_)
  refine ⟨[_],.cons rfl .nil,fun a w' hr=>⟨?_,hr.fr.below⟩⟩
  rfl
theorem c_TableSizes_bad (id n i:Int) (w:World) (hn:n<1∨16<n):Calls Try.prog 3 ([.int .i64 id,.int .i64 n,.int .i64 i]:List Value).toArray w (fun e w'=>e = .returned (.bool true)∧Below w.heap.size w w'):=by
  obtain ⟨V,h⟩:=cvI_idx id
  obtain ⟨hok,hid⟩:=cvI_ok h
  have h2:=cvI_id h
  obtain ⟨hb5,hb521,hba,hbb,hbx,hby,hbn,hbo,hbo2,hbb1,hbn1⟩:=hok.bounds
  have hsz:=hok.sz
  have hsp:=hsz.p
  have hsa:=hsz.a
  have hsb:=hsz.b
  have hp0:V.p≠0:=by omega
  have hpp:0<V.p:=by omega
  have hm17:∀ k,D.nw (k%V.p)≤17:=fun k=>Nat.le_trans (D.nw_mono (Nat.le_of_lt (Nat.mod_lt k hpp))) hsp
  have hpW:V.p<W9:=w9_521 hb521
  have hnW:V.n<W9:=w9_521 hbn
  have hxW:=Nat.lt_trans hbx hpW
  have hyW:=Nat.lt_trans hby hpW
  have hsn:=hsz.n
  have h17:∀ {A:Nat},A<V.p→D.nw A≤100000:=fun h=>Nat.le_trans (nw_521 (Nat.lt_trans h hb521)) (by decide)
  refine Ky (N:=127) (rs:=[.tmp 6]) [] Try.func3 rfl Try.ntmps3 Try.results3 (Nb rfl) trivial rfl ?_
  show LCode _ _ _ ⟨_,_⟩ _
  refine KD (KB ?_)
  refine KA (KF rfl) (Nb rfl) ?_
  refine KG ?_
  refine KD ?_
  refine KD (KB ?_)
  refine KI rfl (KS (KP (first:=[]) rfl en_28 rfl (Nb rfl) (fun w hw=>c_awake16 w) ?_))
  refine KA (KT (Det.not rfl) (show _ = Value.bool false from rfl)) (Nb rfl) ?_
  refine KG ?_
  refine Kd rfl ?_
  refine Kf ?_
  refine KD (KB ?_)
  refine KA (KC rfl) (Nb rfl) ?_
  refine KA (KT (Det.conv Try.underlying3 Try.underlying29 rfl) (uidx_eq _)) (Nb rfl) ?_
  refine KA (KK rfl rfl (br_rem64 (b:=15) (by omega))) (Nb rfl) ?_
  refine KA (Det.convi Try.underlying29 Try.underlying3 rfl (by omega)) (Nb rfl) ?_
  refine KA (KK rfl rfl (KAL (a:=1) (by omega))) (Nb rfl) ?_
  refine KI rfl (KS (Kx (Post:=fun v its=>∃ Q,v = .tuple #[.agg (crvL Q V).toArray,.bool true]∧its = [crvI Q V]) (first:=[]) rfl en_29 rfl (Nb rfl) (fun w1 hw hs=>(c_r_Get _ V w1 h).mono fun e w' ⟨Q,h1,h2,h3,h4⟩=>⟨_,_,⟨Q,rfl,rfl⟩,h1,Brings.nums h4 (by intro x hx; simp at hx; subst hx; exact h2) (by intro x hx; simp at hx; subst hx; rfl) (by intro x hx k hk; simp at hx; subst hx; exact .inl (h3 k hk))⟩) ?_))
  rintro _ _ ⟨Q,rfl,rfl⟩
  refine KA (KC rfl) (Nb rfl) ?_
  refine KA (Ka rfl rfl) (Nb rfl) ?_
  refine KA (Ka rfl rfl) (Nb rfl) ?_
  refine KI rfl (KS (KR (Ke zr_26) (Nb rfl) (fun b7=>?_)))
  refine KI rfl (KQ rfl rfl sz_26 (by repeat (first|exact KY|refine KW rfl ?_)) (by repeat (first|exact Sh _|apply St_)) (by rfl) ?_)
  refine KA (KF rfl) (Nb rfl) ?_
  refine KG ?_
  refine KD (KB ?_)
  refine LOps.det (KL rfl (by repeat (first|exact Mh _|apply Mt)) (by exact KO Try.underlying26 rfl sz_26)) (Nb rfl) ?_
  refine KI rfl (KS (Kx (first:=[]) rfl en_31 rfl (Nb rfl) (fun w hw hs=>(c_r_GP Q V w (hw _ (by repeat (first|exact Mh _|apply Mt))) hok).mono fun e w' h=>Num2R.q (Old.one (x:=crvI Q V) (by repeat (first|exact Mh _|apply Mt)) rfl) hs h) ?_))
  rintro _ _ ⟨qga,qgb,rfl,rfl,hnga,hngb⟩
  refine KI rfl (KS (KP (first:=[]) rfl en_30 rfl (Nb rfl) (fun w hw=>c_r_OutP V qga qgb (V.G) w (hw _ (by repeat (first|exact Mh _|apply Mt))) (hw _ (by repeat (first|exact Mh _|apply Mt)))) ?_))
  refine KI rfl (KS (KR (Ke zr_35) (Nb rfl) (fun b9=>?_)))
  refine KI rfl (KQ rfl rfl sz_35 (by exact Kn _ _ _) (by repeat (first|exact Sh _|apply St_)) (by exact KV _ _ _) ?_)
  refine KG ?_
  refine KD (KB ?_)
  refine KA (KM (o':=0) Try.underlying26 rfl rfl rfl sz_3 (by decide)) (Nb rfl) ?_
  refine LOps.det (KL rfl (by repeat (first|exact Mh _|apply Mt)) (Kb Try.underlying3 rfl (by first|rfl|exact Ku _ _ _ (by omega)|exact Ks _ (by omega)|exact Kq _ (by omega)|exact dv_m _ _ _ (by omega)))) (Nb rfl) ?_
  refine LOps.det (KL rfl (by repeat (first|exact Mh _|apply Mt)) (by exact KO Try.underlying35 rfl sz_35)) (Nb rfl) ?_
  refine KA (KC rfl) (Nb rfl) ?_
  refine KI rfl (KS (KP (first:=[]) rfl en_32 rfl (Nb rfl) (fun w hw=>c_tabNew_size _ V V.G n w h2 hok.on hn) ?_))
  refine KA (KC rfl) (Nb rfl) ?_
  refine KA (Ka rfl rfl) (Nb rfl) ?_
  refine KA (Ka rfl rfl) (Nb rfl) ?_
  refine KA (KF rfl) (Nb rfl) ?_
  refine KA (KF rfl) (Nb rfl) ?_
  refine KG ?_
  refine KD (KB ?_)
  refine KA (KM (o':=0) Try.underlying26 rfl rfl rfl sz_3 (by decide)) (Nb rfl) ?_
  refine LOps.det (KL rfl (by repeat (first|exact Mh _|apply Mt)) (Kb Try.underlying3 rfl (by first|rfl|exact Ku _ _ _ (by omega)|exact Ks _ (by omega)|exact Kq _ (by omega)|exact dv_m _ _ _ (by omega)))) (Nb rfl) ?_
  refine LOps.det (KL rfl (by repeat (first|exact Mh _|apply Mt)) (by exact KO Try.underlying35 rfl sz_35)) (Nb rfl) ?_
  refine KI rfl (KS (KAb (first:=[]) rfl en_32 rfl (Nb rfl) (fun w hw=>bringsC (c_tabNew _ V (V.G) 1 w h2 hok.on (by omega) (by omega)) _) ?_))
  rintro _ _ ⟨bt1,br1,cap1,rest1,rfl,rfl⟩
  refine KA (KC rfl) (Nb rfl) ?_
  refine KA (Ka rfl rfl) (Nb rfl) ?_
  refine KA (Ka rfl rfl) (Nb rfl) ?_
  refine KA (KF rfl) (Nb rfl) ?_
  refine KA (KF rfl) (Nb rfl) ?_
  refine KG ?_
  refine KD ?_
  refine KD (KB ?_)
  refine KA (KC rfl) (Nb rfl) ?_
  refine KA (KT (Det.not rfl) (show _ = Value.bool false from rfl)) (Nb rfl) ?_
  refine KA (KC rfl) (Nb rfl) ?_
  refine KU rfl rfl (KC rfl) (Nb rfl) ?_
  refine KAS rfl rfl rfl (KS (KP (first:=[]) rfl en_33 rfl (Nb rfl) (fun w hw=>c_Num _ w) ?_))
  refine KU rfl rfl (KK (v:=.bool false) rfl rfl (br_f (br_neq (b:=0)) (by first|exact (fun e=>e rfl)|(simp; done)|omega))) (Nb rfl) ?_
  refine KA (KAC rfl rfl) (Nb rfl) ?_
  refine KG ?_
  refine Kd rfl ?_
  refine Kf ?_
  refine KD (KB ?_)
  refine KA (KC rfl) (Nb rfl) ?_
  refine KI rfl (KS (KP (first:=[]) rfl en_34 rfl (Nb rfl) (fun w hw=>c_tabPickN bt1 br1 cap1 rest1 V hok (mulE V V.G) 1 0 ((.inf:Pt V.p)) w (by decide) (by omega) (hw _ (by repeat (first|exact Mh _|apply Mt))) (hw _ (by repeat (first|exact Mh _|apply Mt))) (rfl)) ?_))
  refine KA (KC rfl) (Nb rfl) ?_
  refine KA (Ka rfl rfl) (Nb rfl) ?_
  refine KA (Ka rfl rfl) (Nb rfl) ?_
  refine KI rfl (KS (KR (Ke zr_35) (Nb rfl) (fun b14=>?_)))
  refine KI rfl (KQ rfl rfl sz_35 (by exact Kn _ _ _) (by repeat (first|exact Sh _|apply St_)) (by exact KV _ _ _) ?_)
  refine KA (KF rfl) (Nb rfl) ?_
  refine KG ?_
  refine KD (KB ?_)
  refine KA (KC rfl) (Nb rfl) ?_
  refine KI rfl (KS (KP (first:=[]) rfl en_34 rfl (Nb rfl) (fun w hw=>c_tabPick_bad none bt1 br1 cap1 1 1 w (hw _ (by repeat (first|exact Mh _|apply Mt))) (.inr (by decide))) ?_))
  refine KA (KC rfl) (Nb rfl) ?_
  refine KA (Ka rfl rfl) (Nb rfl) ?_
  refine KA (Ka rfl rfl) (Nb rfl) ?_
  refine KI rfl (KS (KR (Ke zr_35) (Nb rfl) (fun b16=>?_)))
  refine KI rfl (KQ rfl rfl sz_35 (by exact Kn _ _ _) (by repeat (first|exact Sh _|apply St_)) (by exact KV _ _ _) ?_)
  refine KA (KF rfl) (Nb rfl) ?_
  refine KG ?_
  refine KD ?_
  refine KD ?_
  rcases (show n<1∨(1≤n∧16<n) by omega) with g1|⟨g1,g2⟩
  ·
    refine KB ?_
    refine KA (KC rfl) (Nb rfl) ?_
    refine KA (KK (v:=.bool true) rfl rfl (by simp [KAP]; omega)) (Nb rfl) ?_
    refine KA (KC rfl) (Nb rfl) ?_
    refine Kv rfl rfl rfl (Nb rfl) ?_
    refine Kv rfl rfl rfl (Nb rfl) ?_
    refine KA (Kp rfl rfl) (Nb rfl) ?_
    refine KG ?_
    refine Kw rfl ?_
    refine KD (KB ?_)
    refine KA (KC rfl) (Nb rfl) ?_
    refine KI rfl (KS (KP (first:=[]) rfl en_33 rfl (Nb rfl) (fun w hw=>c_Num _ w) ?_))
    refine KA (KK (v:=.bool true) rfl rfl (br_t (KAc (b:=1602)) (by first|rfl|assumption|omega|(simp; done)))) (Nb rfl) ?_
    refine KA (KC rfl) (Nb rfl) ?_
    refine KU rfl rfl (KC rfl) (Nb rfl) ?_
    refine KU rfl rfl (KT (Det.eqp Try.underlying40 rfl rfl) (show _ = Value.bool true by rfl)) (Nb rfl) ?_
    refine KA (Kp rfl rfl) (Nb rfl) ?_
    refine KA (KC rfl) (Nb rfl) ?_
    refine KAi rfl rfl (KL rfl (by repeat (first|exact Mh _|apply Mt)) (by exact KO Try.underlying35 rfl sz_35)) (Nb rfl) ?_
    refine KU rfl rfl (KT (KAQ pl_35 zr_35 rfl fill_ptInf) rfl) (Nb rfl) ?_
    refine KU rfl rfl (KT (Det.eqa (by kernel_rfl) (fun w=>eq_ptP_t hok (P:=(.inf:Pt V.p)) (Q:=(.inf:Pt V.p)) (rfl) 10000 (by decide) w) rfl rfl) (show _ = Value.bool true by rfl)) (Nb rfl) ?_
    refine KA (Kp rfl rfl) (Nb rfl) ?_
    refine KA (KC rfl) (Nb rfl) ?_
    refine KU rfl rfl (KC rfl) (Nb rfl) ?_
    refine KAS rfl rfl rfl (KS (KP (first:=[]) rfl en_33 rfl (Nb rfl) (fun w hw=>c_Num _ w) ?_))
    refine KU rfl rfl (KK (v:=.bool true) rfl rfl (br_t (KAc (b:=0)) (by first|rfl|assumption|omega|(simp; done)))) (Nb rfl) ?_
    refine KA (Kp rfl rfl) (Nb rfl) ?_
    refine KA (KF rfl) (Nb rfl) ?_
    refine KG (KX ?_)
    refine ⟨[_],.cons rfl .nil,fun a w' hr=>⟨?_,hr.fr.below⟩⟩
    rfl
  ·
    refine KB ?_
    refine KA (KC rfl) (Nb rfl) ?_
    refine KA (KK (v:=.bool false) rfl rfl (by simp [KAP]; omega)) (Nb rfl) ?_
    refine KA (KC rfl) (Nb rfl) ?_
    refine KU rfl rfl (KC rfl) (Nb rfl) ?_
    refine KU rfl rfl (KK (v:=.bool true) rfl rfl (by simp [KAP]; omega)) (Nb rfl) ?_
    refine KA (KAC rfl rfl) (Nb rfl) ?_
    refine KG ?_
    refine Kw rfl ?_
    refine KD (KB ?_)
    refine KA (KC rfl) (Nb rfl) ?_
    refine KI rfl (KS (KP (first:=[]) rfl en_33 rfl (Nb rfl) (fun w hw=>c_Num _ w) ?_))
    refine KA (KK (v:=.bool true) rfl rfl (br_t (KAc (b:=1602)) (by first|rfl|assumption|omega|(simp; done)))) (Nb rfl) ?_
    refine KA (KC rfl) (Nb rfl) ?_
    refine KU rfl rfl (KC rfl) (Nb rfl) ?_
    refine KU rfl rfl (KT (Det.eqp Try.underlying40 rfl rfl) (show _ = Value.bool true by rfl)) (Nb rfl) ?_
    refine KA (Kp rfl rfl) (Nb rfl) ?_
    refine KA (KC rfl) (Nb rfl) ?_
    refine KAi rfl rfl (KL rfl (by repeat (first|exact Mh _|apply Mt)) (by exact KO Try.underlying35 rfl sz_35)) (Nb rfl) ?_
    refine KU rfl rfl (KT (KAQ pl_35 zr_35 rfl fill_ptInf) rfl) (Nb rfl) ?_
    refine KU rfl rfl (KT (Det.eqa (by kernel_rfl) (fun w=>eq_ptP_t hok (P:=(.inf:Pt V.p)) (Q:=(.inf:Pt V.p)) (rfl) 10000 (by decide) w) rfl rfl) (show _ = Value.bool true by rfl)) (Nb rfl) ?_
    refine KA (Kp rfl rfl) (Nb rfl) ?_
    refine KA (KC rfl) (Nb rfl) ?_
    refine KU rfl rfl (KC rfl) (Nb rfl) ?_
    refine KAS rfl rfl rfl (KS (KP (first:=[]) rfl en_33 rfl (Nb rfl) (fun w hw=>c_Num _ w) ?_))
    refine KU rfl rfl (KK (v:=.bool true) rfl rfl (br_t (KAc (b:=0)) (by first|rfl|assumption|omega|(simp; done)))) (Nb rfl) ?_
    refine KA (Kp rfl rfl) (Nb rfl) ?_
    refine KA (KF rfl) (Nb rfl) ?_
    refine KG (KX ?_)
    refine ⟨[_],.cons rfl .nil,fun a w' hr=>⟨?_,hr.fr.below⟩⟩
    rfl
theorem c_TableSizes_in (id:Int) (n i:Nat) (w:World) (hn0:1≤n) (hn:n≤16) (hi:i<n):Calls Try.prog 3 ([.int .i64 id,.int .i64 ((n:Nat):Int),.int .i64 ((i:Nat):Int)]:List Value).toArray w (fun e w'=>e = .returned (.bool true)∧Below w.heap.size w w'):=by
  obtain ⟨V,h⟩:=cvI_idx id
  obtain ⟨hok,hid⟩:=cvI_ok h
  have h2:=cvI_id h
  obtain ⟨hb5,hb521,hba,hbb,hbx,hby,hbn,hbo,hbo2,hbb1,hbn1⟩:=hok.bounds
  have hsz:=hok.sz
  have hsp:=hsz.p
  have hsa:=hsz.a
  have hsb:=hsz.b
  have hp0:V.p≠0:=by omega
  have hpp:0<V.p:=by omega
  have hm17:∀ k,D.nw (k%V.p)≤17:=fun k=>Nat.le_trans (D.nw_mono (Nat.le_of_lt (Nat.mod_lt k hpp))) hsp
  have hpW:V.p<W9:=w9_521 hb521
  have hnW:V.n<W9:=w9_521 hbn
  have hxW:=Nat.lt_trans hbx hpW
  have hyW:=Nat.lt_trans hby hpW
  have hsn:=hsz.n
  have h17:∀ {A:Nat},A<V.p→D.nw A≤100000:=fun h=>Nat.le_trans (nw_521 (Nat.lt_trans h hb521)) (by decide)
  refine Ky (N:=127) (rs:=[.tmp 6]) [] Try.func3 rfl Try.ntmps3 Try.results3 (Nb rfl) trivial rfl ?_
  show LCode _ _ _ ⟨_,_⟩ _
  refine KD (KB ?_)
  refine KA (KF rfl) (Nb rfl) ?_
  refine KG ?_
  refine KD ?_
  refine KD (KB ?_)
  refine KI rfl (KS (KP (first:=[]) rfl en_28 rfl (Nb rfl) (fun w hw=>c_awake16 w) ?_))
  refine KA (KT (Det.not rfl) (show _ = Value.bool false from rfl)) (Nb rfl) ?_
  refine KG ?_
  refine Kd rfl ?_
  refine Kf ?_
  refine KD (KB ?_)
  refine KA (KC rfl) (Nb rfl) ?_
  refine KA (KT (Det.conv Try.underlying3 Try.underlying29 rfl) (uidx_eq _)) (Nb rfl) ?_
  refine KA (KK rfl rfl (br_rem64 (b:=15) (by omega))) (Nb rfl) ?_
  refine KA (Det.convi Try.underlying29 Try.underlying3 rfl (by omega)) (Nb rfl) ?_
  refine KA (KK rfl rfl (KAL (a:=1) (by omega))) (Nb rfl) ?_
  refine KI rfl (KS (Kx (Post:=fun v its=>∃ Q,v = .tuple #[.agg (crvL Q V).toArray,.bool true]∧its = [crvI Q V]) (first:=[]) rfl en_29 rfl (Nb rfl) (fun w1 hw hs=>(c_r_Get _ V w1 h).mono fun e w' ⟨Q,h1,h2,h3,h4⟩=>⟨_,_,⟨Q,rfl,rfl⟩,h1,Brings.nums h4 (by intro x hx; simp at hx; subst hx; exact h2) (by intro x hx; simp at hx; subst hx; rfl) (by intro x hx k hk; simp at hx; subst hx; exact .inl (h3 k hk))⟩) ?_))
  rintro _ _ ⟨Q,rfl,rfl⟩
  refine KA (KC rfl) (Nb rfl) ?_
  refine KA (Ka rfl rfl) (Nb rfl) ?_
  refine KA (Ka rfl rfl) (Nb rfl) ?_
  refine KI rfl (KS (KR (Ke zr_26) (Nb rfl) (fun b7=>?_)))
  refine KI rfl (KQ rfl rfl sz_26 (by repeat (first|exact KY|refine KW rfl ?_)) (by repeat (first|exact Sh _|apply St_)) (by rfl) ?_)
  refine KA (KF rfl) (Nb rfl) ?_
  refine KG ?_
  refine KD (KB ?_)
  refine LOps.det (KL rfl (by repeat (first|exact Mh _|apply Mt)) (by exact KO Try.underlying26 rfl sz_26)) (Nb rfl) ?_
  refine KI rfl (KS (Kx (first:=[]) rfl en_31 rfl (Nb rfl) (fun w hw hs=>(c_r_GP Q V w (hw _ (by repeat (first|exact Mh _|apply Mt))) hok).mono fun e w' h=>Num2R.q (Old.one (x:=crvI Q V) (by repeat (first|exact Mh _|apply Mt)) rfl) hs h) ?_))
  rintro _ _ ⟨qga,qgb,rfl,rfl,hnga,hngb⟩
  refine KI rfl (KS (KP (first:=[]) rfl en_30 rfl (Nb rfl) (fun w hw=>c_r_OutP V qga qgb (V.G) w (hw _ (by repeat (first|exact Mh _|apply Mt))) (hw _ (by repeat (first|exact Mh _|apply Mt)))) ?_))
  refine KI rfl (KS (KR (Ke zr_35) (Nb rfl) (fun b9=>?_)))
  refine KI rfl (KQ rfl rfl sz_35 (by exact Kn _ _ _) (by repeat (first|exact Sh _|apply St_)) (by exact KV _ _ _) ?_)
  refine KG ?_
  refine KD (KB ?_)
  refine KA (KM (o':=0) Try.underlying26 rfl rfl rfl sz_3 (by decide)) (Nb rfl) ?_
  refine LOps.det (KL rfl (by repeat (first|exact Mh _|apply Mt)) (Kb Try.underlying3 rfl (by first|rfl|exact Ku _ _ _ (by omega)|exact Ks _ (by omega)|exact Kq _ (by omega)|exact dv_m _ _ _ (by omega)))) (Nb rfl) ?_
  refine LOps.det (KL rfl (by repeat (first|exact Mh _|apply Mt)) (by exact KO Try.underlying35 rfl sz_35)) (Nb rfl) ?_
  refine KA (KC rfl) (Nb rfl) ?_
  refine KI rfl (KS (KAb (first:=[]) rfl en_32 rfl (Nb rfl) (fun w hw=>bringsC (c_tabNew _ V (V.G) n w h2 hok.on hn0 hn) _) ?_))
  rintro _ _ ⟨bt0,br0,cap0,rest0,rfl,rfl⟩
  refine KA (KC rfl) (Nb rfl) ?_
  refine KA (Ka rfl rfl) (Nb rfl) ?_
  refine KA (Ka rfl rfl) (Nb rfl) ?_
  refine KA (KF rfl) (Nb rfl) ?_
  refine KA (KF rfl) (Nb rfl) ?_
  refine KG ?_
  refine KD (KB ?_)
  refine KA (KM (o':=0) Try.underlying26 rfl rfl rfl sz_3 (by decide)) (Nb rfl) ?_
  refine LOps.det (KL rfl (by repeat (first|exact Mh _|apply Mt)) (Kb Try.underlying3 rfl (by first|rfl|exact Ku _ _ _ (by omega)|exact Ks _ (by omega)|exact Kq _ (by omega)|exact dv_m _ _ _ (by omega)))) (Nb rfl) ?_
  refine LOps.det (KL rfl (by repeat (first|exact Mh _|apply Mt)) (by exact KO Try.underlying35 rfl sz_35)) (Nb rfl) ?_
  refine KI rfl (KS (KAb (first:=[]) rfl en_32 rfl (Nb rfl) (fun w hw=>bringsC (c_tabNew _ V (V.G) 1 w h2 hok.on (by omega) (by omega)) _) ?_))
  rintro _ _ ⟨bt1,br1,cap1,rest1,rfl,rfl⟩
  refine KA (KC rfl) (Nb rfl) ?_
  refine KA (Ka rfl rfl) (Nb rfl) ?_
  refine KA (Ka rfl rfl) (Nb rfl) ?_
  refine KA (KF rfl) (Nb rfl) ?_
  refine KA (KF rfl) (Nb rfl) ?_
  refine KG ?_
  refine KD ?_
  refine KD (KB ?_)
  refine KA (KC rfl) (Nb rfl) ?_
  refine KA (KT (Det.not rfl) (show _ = Value.bool false from rfl)) (Nb rfl) ?_
  refine KA (KC rfl) (Nb rfl) ?_
  refine KU rfl rfl (KC rfl) (Nb rfl) ?_
  refine KAS rfl rfl rfl (KS (KP (first:=[]) rfl en_33 rfl (Nb rfl) (fun w hw=>c_Num _ w) ?_))
  refine KU rfl rfl (KK (v:=.bool false) rfl rfl (br_f (br_neq (b:=0)) (by first|exact (fun e=>e rfl)|(simp; done)|omega))) (Nb rfl) ?_
  refine KA (KAC rfl rfl) (Nb rfl) ?_
  refine KG ?_
  refine Kd rfl ?_
  refine Kf ?_
  refine KD (KB ?_)
  refine KA (KC rfl) (Nb rfl) ?_
  refine KI rfl (KS (KP (first:=[]) rfl en_34 rfl (Nb rfl) (fun w hw=>c_tabPickN bt1 br1 cap1 rest1 V hok (mulE V V.G) 1 0 ((.inf:Pt V.p)) w (by decide) (by omega) (hw _ (by repeat (first|exact Mh _|apply Mt))) (hw _ (by repeat (first|exact Mh _|apply Mt))) (rfl)) ?_))
  refine KA (KC rfl) (Nb rfl) ?_
  refine KA (Ka rfl rfl) (Nb rfl) ?_
  refine KA (Ka rfl rfl) (Nb rfl) ?_
  refine KI rfl (KS (KR (Ke zr_35) (Nb rfl) (fun b14=>?_)))
  refine KI rfl (KQ rfl rfl sz_35 (by exact Kn _ _ _) (by repeat (first|exact Sh _|apply St_)) (by exact KV _ _ _) ?_)
  refine KA (KF rfl) (Nb rfl) ?_
  refine KG ?_
  refine KD (KB ?_)
  refine KA (KC rfl) (Nb rfl) ?_
  refine KI rfl (KS (KP (first:=[]) rfl en_34 rfl (Nb rfl) (fun w hw=>c_tabPick_bad none bt1 br1 cap1 1 1 w (hw _ (by repeat (first|exact Mh _|apply Mt))) (.inr (by decide))) ?_))
  refine KA (KC rfl) (Nb rfl) ?_
  refine KA (Ka rfl rfl) (Nb rfl) ?_
  refine KA (Ka rfl rfl) (Nb rfl) ?_
  refine KI rfl (KS (KR (Ke zr_35) (Nb rfl) (fun b16=>?_)))
  refine KI rfl (KQ rfl rfl sz_35 (by exact Kn _ _ _) (by repeat (first|exact Sh _|apply St_)) (by exact KV _ _ _) ?_)
  refine KA (KF rfl) (Nb rfl) ?_
  refine KG ?_
  refine KD ?_
  refine KD (KB ?_)
  refine KA (KC rfl) (Nb rfl) ?_
  refine KA (KK (v:=.bool false) rfl rfl (br_f (KAp (b:=1)) (by omega))) (Nb rfl) ?_
  refine KA (KC rfl) (Nb rfl) ?_
  refine KU rfl rfl (KC rfl) (Nb rfl) ?_
  refine KU rfl rfl (KK (v:=.bool false) rfl rfl (br_f (br_gtr (b:=16)) (by omega))) (Nb rfl) ?_
  refine KA (KAC rfl rfl) (Nb rfl) ?_
  refine KG ?_
  refine Kd rfl ?_
  refine Kf ?_
  refine KD (KB ?_)
  refine KA (KC rfl) (Nb rfl) ?_
  refine KA (KC rfl) (Nb rfl) ?_
  refine KI rfl (KS (KP (first:=[]) rfl en_34 rfl (Nb rfl) (fun w hw=>c_tabPickN bt0 br0 cap0 rest0 V hok (mulE V V.G) n i (mulE V V.G i) w hi hn (hw _ (by repeat (first|exact Mh _|apply Mt))) (hw _ (by repeat (first|exact Mh _|apply Mt))) (rfl)) ?_))
  refine KA (KC rfl) (Nb rfl) ?_
  refine KA (Ka rfl rfl) (Nb rfl) ?_
  refine KA (Ka rfl rfl) (Nb rfl) ?_
  refine KI rfl (KS (KR (Ke zr_35) (Nb rfl) (fun b18=>?_)))
  refine KI rfl (KQ rfl rfl sz_35 (by exact Kn _ _ _) (by repeat (first|exact Sh _|apply St_)) (by exact KV _ _ _) ?_)
  refine KA (KF rfl) (Nb rfl) ?_
  refine KG ?_
  refine KD (KB ?_)
  refine KA (KC rfl) (Nb rfl) ?_
  refine KI rfl (KS (KP (first:=[]) rfl en_33 rfl (Nb rfl) (fun w hw=>c_Num _ w) ?_))
  refine KA (KK (v:=.bool true) rfl rfl (br_t (KAc (b:=0)) (by first|rfl|assumption|omega|(simp; done)))) (Nb rfl) ?_
  refine KA (KC rfl) (Nb rfl) ?_
  refine KU rfl rfl (KC rfl) (Nb rfl) ?_
  refine KAS rfl rfl rfl (KS (KP (first:=[]) rfl en_35 rfl (Nb rfl) (fun w hw=>c_tabSize bt0 br0 n cap0 w (hw _ (by repeat (first|exact Mh _|apply Mt)))) ?_))
  refine KU rfl rfl (KC rfl) (Nb rfl) ?_
  refine KU rfl rfl (KK (v:=.bool true) rfl rfl (br_t KAc (rfl))) (Nb rfl) ?_
  refine KA (Kp rfl rfl) (Nb rfl) ?_
  refine KA (KC rfl) (Nb rfl) ?_
  refine KAi rfl rfl (KL rfl (by repeat (first|exact Mh _|apply Mt)) (by exact KO Try.underlying35 rfl sz_35)) (Nb rfl) ?_
  refine KU rfl rfl (KT (KAQ pl_35 zr_35 rfl fill_ptInf) rfl) (Nb rfl) ?_
  refine KU rfl rfl (KT (Det.eqa (by kernel_rfl) (fun w=>eq_ptP_t hok (P:=(.inf:Pt V.p)) (Q:=(.inf:Pt V.p)) (rfl) 10000 (by decide) w) rfl rfl) (show _ = Value.bool true by rfl)) (Nb rfl) ?_
  refine KA (Kp rfl rfl) (Nb rfl) ?_
  refine KA (KC rfl) (Nb rfl) ?_
  refine KU rfl rfl (KC rfl) (Nb rfl) ?_
  refine KAS rfl rfl rfl (KS (KP (first:=[]) rfl en_33 rfl (Nb rfl) (fun w hw=>c_Num _ w) ?_))
  refine KU rfl rfl (KK (v:=.bool true) rfl rfl (br_t (KAc (b:=1603)) (by first|rfl|assumption|omega|(simp; done)))) (Nb rfl) ?_
  refine KA (Kp rfl rfl) (Nb rfl) ?_
  refine KA (KC rfl) (Nb rfl) ?_
  refine KU rfl rfl (KC rfl) (Nb rfl) ?_
  refine KAS rfl rfl rfl (KS (KP (first:=[]) rfl en_33 rfl (Nb rfl) (fun w hw=>c_Num _ w) ?_))
  refine KU rfl rfl (KK (v:=.bool true) rfl rfl (br_t (KAc (b:=0)) (by first|rfl|assumption|omega|(simp; done)))) (Nb rfl) ?_
  refine KU rfl rfl (KC rfl) (Nb rfl) ?_
  refine KU rfl rfl (KK (v:=.bool true) rfl rfl (br_t (br_geq (b:=0)) (Nat.zero_le _))) (Nb rfl) ?_
  refine KU rfl rfl (KC rfl) (Nb rfl) ?_
  refine KU rfl rfl (KC rfl) (Nb rfl) ?_
  refine KU rfl rfl (KC rfl) (Nb rfl) ?_
  refine KU rfl rfl (KK (v:=.bool true) rfl rfl (br_t KAp (hi))) (Nb rfl) ?_
  refine KU rfl rfl (Kp rfl rfl) (Nb rfl) ?_
  refine KU rfl rfl (KT (Det.eqb Try.underlying4 rfl rfl) (show _ = Value.bool true by simp)) (Nb rfl) ?_
  refine KA (Kp rfl rfl) (Nb rfl) ?_
  refine KA (KF rfl) (Nb rfl) ?_
  refine KG (KX ?_)
  refine ⟨[_],.cons rfl .nil,fun a w' hr=>⟨?_,hr.fr.below⟩⟩
  rfl
theorem c_TableSizes_out (id:Int) (n:Nat) (i:Int) (w:World) (hn0:1≤n) (hn:n≤16) (hi:i<0∨(n:Int)≤i):Calls Try.prog 3 ([.int .i64 id,.int .i64 ((n:Nat):Int),.int .i64 i]:List Value).toArray w (fun e w'=>e = .returned (.bool true)∧Below w.heap.size w w'):=by
  obtain ⟨V,h⟩:=cvI_idx id
  obtain ⟨hok,hid⟩:=cvI_ok h
  have h2:=cvI_id h
  obtain ⟨hb5,hb521,hba,hbb,hbx,hby,hbn,hbo,hbo2,hbb1,hbn1⟩:=hok.bounds
  have hsz:=hok.sz
  have hsp:=hsz.p
  have hsa:=hsz.a
  have hsb:=hsz.b
  have hp0:V.p≠0:=by omega
  have hpp:0<V.p:=by omega
  have hm17:∀ k,D.nw (k%V.p)≤17:=fun k=>Nat.le_trans (D.nw_mono (Nat.le_of_lt (Nat.mod_lt k hpp))) hsp
  have hpW:V.p<W9:=w9_521 hb521
  have hnW:V.n<W9:=w9_521 hbn
  have hxW:=Nat.lt_trans hbx hpW
  have hyW:=Nat.lt_trans hby hpW
  have hsn:=hsz.n
  have h17:∀ {A:Nat},A<V.p→D.nw A≤100000:=fun h=>Nat.le_trans (nw_521 (Nat.lt_trans h hb521)) (by decide)
  refine Ky (N:=127) (rs:=[.tmp 6]) [] Try.func3 rfl Try.ntmps3 Try.results3 (Nb rfl) trivial rfl ?_
  show LCode _ _ _ ⟨_,_⟩ _
  refine KD (KB ?_)
  refine KA (KF rfl) (Nb rfl) ?_
  refine KG ?_
  refine KD ?_
  refine KD (KB ?_)
  refine KI rfl (KS (KP (first:=[]) rfl en_28 rfl (Nb rfl) (fun w hw=>c_awake16 w) ?_))
  refine KA (KT (Det.not rfl) (show _ = Value.bool false from rfl)) (Nb rfl) ?_
  refine KG ?_
  refine Kd rfl ?_
  refine Kf ?_
  refine KD (KB ?_)
  refine KA (KC rfl) (Nb rfl) ?_
  refine KA (KT (Det.conv Try.underlying3 Try.underlying29 rfl) (uidx_eq _)) (Nb rfl) ?_
  refine KA (KK rfl rfl (br_rem64 (b:=15) (by omega))) (Nb rfl) ?_
  refine KA (Det.convi Try.underlying29 Try.underlying3 rfl (by omega)) (Nb rfl) ?_
  refine KA (KK rfl rfl (KAL (a:=1) (by omega))) (Nb rfl) ?_
  refine KI rfl (KS (Kx (Post:=fun v its=>∃ Q,v = .tuple #[.agg (crvL Q V).toArray,.bool true]∧its = [crvI Q V]) (first:=[]) rfl en_29 rfl (Nb rfl) (fun w1 hw hs=>(c_r_Get _ V w1 h).mono fun e w' ⟨Q,h1,h2,h3,h4⟩=>⟨_,_,⟨Q,rfl,rfl⟩,h1,Brings.nums h4 (by intro x hx; simp at hx; subst hx; exact h2) (by intro x hx; simp at hx; subst hx; rfl) (by intro x hx k hk; simp at hx; subst hx; exact .inl (h3 k hk))⟩) ?_))
  rintro _ _ ⟨Q,rfl,rfl⟩
  refine KA (KC rfl) (Nb rfl) ?_
  refine KA (Ka rfl rfl) (Nb rfl) ?_
  refine KA (Ka rfl rfl) (Nb rfl) ?_
  refine KI rfl (KS (KR (Ke zr_26) (Nb rfl) (fun b7=>?_)))
  refine KI rfl (KQ rfl rfl sz_26 (by repeat (first|exact KY|refine KW rfl ?_)) (by repeat (first|exact Sh _|apply St_)) (by rfl) ?_)
  refine KA (KF rfl) (Nb rfl) ?_
  refine KG ?_
  refine KD (KB ?_)
  refine LOps.det (KL rfl (by repeat (first|exact Mh _|apply Mt)) (by exact KO Try.underlying26 rfl sz_26)) (Nb rfl) ?_
  refine KI rfl (KS (Kx (first:=[]) rfl en_31 rfl (Nb rfl) (fun w hw hs=>(c_r_GP Q V w (hw _ (by repeat (first|exact Mh _|apply Mt))) hok).mono fun e w' h=>Num2R.q (Old.one (x:=crvI Q V) (by repeat (first|exact Mh _|apply Mt)) rfl) hs h) ?_))
  rintro _ _ ⟨qga,qgb,rfl,rfl,hnga,hngb⟩
  refine KI rfl (KS (KP (first:=[]) rfl en_30 rfl (Nb rfl) (fun w hw=>c_r_OutP V qga qgb (V.G) w (hw _ (by repeat (first|exact Mh _|apply Mt))) (hw _ (by repeat (first|exact Mh _|apply Mt)))) ?_))
  refine KI rfl (KS (KR (Ke zr_35) (Nb rfl) (fun b9=>?_)))
  refine KI rfl (KQ rfl rfl sz_35 (by exact Kn _ _ _) (by repeat (first|exact Sh _|apply St_)) (by exact KV _ _ _) ?_)
  refine KG ?_
  refine KD (KB ?_)
  refine KA (KM (o':=0) Try.underlying26 rfl rfl rfl sz_3 (by decide)) (Nb rfl) ?_
  refine LOps.det (KL rfl (by repeat (first|exact Mh _|apply Mt)) (Kb Try.underlying3 rfl (by first|rfl|exact Ku _ _ _ (by omega)|exact Ks _ (by omega)|exact Kq _ (by omega)|exact dv_m _ _ _ (by omega)))) (Nb rfl) ?_
  refine LOps.det (KL rfl (by repeat (first|exact Mh _|apply Mt)) (by exact KO Try.underlying35 rfl sz_35)) (Nb rfl) ?_
  refine KA (KC rfl) (Nb rfl) ?_
  refine KI rfl (KS (KAb (first:=[]) rfl en_32 rfl (Nb rfl) (fun w hw=>bringsC (c_tabNew _ V (V.G) n w h2 hok.on hn0 hn) _) ?_))
  rintro _ _ ⟨bt0,br0,cap0,rest0,rfl,rfl⟩
  refine KA (KC rfl) (Nb rfl) ?_
  refine KA (Ka rfl rfl) (Nb rfl) ?_
  refine KA (Ka rfl rfl) (Nb rfl) ?_
  refine KA (KF rfl) (Nb rfl) ?_
  refine KA (KF rfl) (Nb rfl) ?_
  refine KG ?_
  refine KD (KB ?_)
  refine KA (KM (o':=0) Try.underlying26 rfl rfl rfl sz_3 (by decide)) (Nb rfl) ?_
  refine LOps.det (KL rfl (by repeat (first|exact Mh _|apply Mt)) (Kb Try.underlying3 rfl (by first|rfl|exact Ku _ _ _ (by omega)|exact Ks _ (by omega)|exact Kq _ (by omega)|exact dv_m _ _ _ (by omega)))) (Nb rfl) ?_
  refine LOps.det (KL rfl (by repeat (first|exact Mh _|apply Mt)) (by exact KO Try.underlying35 rfl sz_35)) (Nb rfl) ?_
  refine KI rfl (KS (KAb (first:=[]) rfl en_32 rfl (Nb rfl) (fun w hw=>bringsC (c_tabNew _ V (V.G) 1 w h2 hok.on (by omega) (by omega)) _) ?_))
  rintro _ _ ⟨bt1,br1,cap1,rest1,rfl,rfl⟩
  refine KA (KC rfl) (Nb rfl) ?_
  refine KA (Ka rfl rfl) (Nb rfl) ?_
  refine KA (Ka rfl rfl) (Nb rfl) ?_
  refine KA (KF rfl) (Nb rfl) ?_
  refine KA (KF rfl) (Nb rfl) ?_
  refine KG ?_
  refine KD ?_
  refine KD (KB ?_)
  refine KA (KC rfl) (Nb rfl) ?_
  refine KA (KT (Det.not rfl) (show _ = Value.bool false from rfl)) (Nb rfl) ?_
  refine KA (KC rfl) (Nb rfl) ?_
  refine KU rfl rfl (KC rfl) (Nb rfl) ?_
  refine KAS rfl rfl rfl (KS (KP (first:=[]) rfl en_33 rfl (Nb rfl) (fun w hw=>c_Num _ w) ?_))
  refine KU rfl rfl (KK (v:=.bool false) rfl rfl (br_f (br_neq (b:=0)) (by first|exact (fun e=>e rfl)|(simp; done)|omega))) (Nb rfl) ?_
  refine KA (KAC rfl rfl) (Nb rfl) ?_
  refine KG ?_
  refine Kd rfl ?_
  refine Kf ?_
  refine KD (KB ?_)
  refine KA (KC rfl) (Nb rfl) ?_
  refine KI rfl (KS (KP (first:=[]) rfl en_34 rfl (Nb rfl) (fun w hw=>c_tabPickN bt1 br1 cap1 rest1 V hok (mulE V V.G) 1 0 ((.inf:Pt V.p)) w (by decide) (by omega) (hw _ (by repeat (first|exact Mh _|apply Mt))) (hw _ (by repeat (first|exact Mh _|apply Mt))) (rfl)) ?_))
  refine KA (KC rfl) (Nb rfl) ?_
  refine KA (Ka rfl rfl) (Nb rfl) ?_
  refine KA (Ka rfl rfl) (Nb rfl) ?_
  refine KI rfl (KS (KR (Ke zr_35) (Nb rfl) (fun b14=>?_)))
  refine KI rfl (KQ rfl rfl sz_35 (by exact Kn _ _ _) (by repeat (first|exact Sh _|apply St_)) (by exact KV _ _ _) ?_)
  refine KA (KF rfl) (Nb rfl) ?_
  refine KG ?_
  refine KD (KB ?_)
  refine KA (KC rfl) (Nb rfl) ?_
  refine KI rfl (KS (KP (first:=[]) rfl en_34 rfl (Nb rfl) (fun w hw=>c_tabPick_bad none bt1 br1 cap1 1 1 w (hw _ (by repeat (first|exact Mh _|apply Mt))) (.inr (by decide))) ?_))
  refine KA (KC rfl) (Nb rfl) ?_
  refine KA (Ka rfl rfl) (Nb rfl) ?_
  refine KA (Ka rfl rfl) (Nb rfl) ?_
  refine KI rfl (KS (KR (Ke zr_35) (Nb rfl) (fun b16=>?_)))
  refine KI rfl (KQ rfl rfl sz_35 (by exact Kn _ _ _) (by repeat (first|exact Sh _|apply St_)) (by exact KV _ _ _) ?_)
  refine KA (KF rfl) (Nb rfl) ?_
  refine KG ?_
  refine KD ?_
  refine KD (KB ?_)
  refine KA (KC rfl) (Nb rfl) ?_
  refine KA (KK (v:=.bool false) rfl rfl (br_f (KAp (b:=1)) (by omega))) (Nb rfl) ?_
  refine KA (KC rfl) (Nb rfl) ?_
  refine KU rfl rfl (KC rfl) (Nb rfl) ?_
  refine KU rfl rfl (KK (v:=.bool false) rfl rfl (br_f (br_gtr (b:=16)) (by omega))) (Nb rfl) ?_
  refine KA (KAC rfl rfl) (Nb rfl) ?_
  refine KG ?_
  refine Kd rfl ?_
  refine Kf ?_
  refine KD (KB ?_)
  refine KA (KC rfl) (Nb rfl) ?_
  refine KA (KC rfl) (Nb rfl) ?_
  refine KI rfl (KS (KP (first:=[]) rfl en_34 rfl (Nb rfl) (fun w hw=>c_tabPick_bad none bt0 br0 cap0 n i w (hw _ (by repeat (first|exact Mh _|apply Mt))) hi) ?_))
  refine KA (KC rfl) (Nb rfl) ?_
  refine KA (Ka rfl rfl) (Nb rfl) ?_
  refine KA (Ka rfl rfl) (Nb rfl) ?_
  refine KI rfl (KS (KR (Ke zr_35) (Nb rfl) (fun b18=>?_)))
  refine KI rfl (KQ rfl rfl sz_35 (by exact Kn _ _ _) (by repeat (first|exact Sh _|apply St_)) (by exact KV _ _ _) ?_)
  refine KA (KF rfl) (Nb rfl) ?_
  refine KG ?_
  refine KD ?_
  rcases (show i<0∨(0≤i∧(n:Int)≤i) by omega) with g1|⟨g1,g2⟩
  ·
    refine KB ?_
    refine KA (KC rfl) (Nb rfl) ?_
    refine KI rfl (KS (KP (first:=[]) rfl en_33 rfl (Nb rfl) (fun w hw=>c_Num _ w) ?_))
    refine KA (KK (v:=.bool true) rfl rfl (br_t (KAc (b:=0)) (by first|rfl|assumption|omega|(simp; done)))) (Nb rfl) ?_
    refine KA (KC rfl) (Nb rfl) ?_
    refine KU rfl rfl (KC rfl) (Nb rfl) ?_
    refine KAS rfl rfl rfl (KS (KP (first:=[]) rfl en_35 rfl (Nb rfl) (fun w hw=>c_tabSize bt0 br0 n cap0 w (hw _ (by repeat (first|exact Mh _|apply Mt)))) ?_))
    refine KU rfl rfl (KC rfl) (Nb rfl) ?_
    refine KU rfl rfl (KK (v:=.bool true) rfl rfl (br_t KAc (rfl))) (Nb rfl) ?_
    refine KA (Kp rfl rfl) (Nb rfl) ?_
    refine KA (KC rfl) (Nb rfl) ?_
    refine KAi rfl rfl (KL rfl (by repeat (first|exact Mh _|apply Mt)) (by exact KO Try.underlying35 rfl sz_35)) (Nb rfl) ?_
    refine KU rfl rfl (KT (KAQ pl_35 zr_35 rfl fill_ptInf) rfl) (Nb rfl) ?_
    refine KU rfl rfl (KT (Det.eqa (by kernel_rfl) (fun w=>eq_ptP_t hok (P:=(.inf:Pt V.p)) (Q:=(.inf:Pt V.p)) (rfl) 10000 (by decide) w) rfl rfl) (show _ = Value.bool true by rfl)) (Nb rfl) ?_
    refine KA (Kp rfl rfl) (Nb rfl) ?_
    refine KA (KC rfl) (Nb rfl) ?_
    refine KU rfl rfl (KC rfl) (Nb rfl) ?_
    refine KAS rfl rfl rfl (KS (KP (first:=[]) rfl en_33 rfl (Nb rfl) (fun w hw=>c_Num _ w) ?_))
    refine KU rfl rfl (KK (v:=.bool true) rfl rfl (br_t (KAc (b:=1603)) (by first|rfl|assumption|omega|(simp; done)))) (Nb rfl) ?_
    refine KA (Kp rfl rfl) (Nb rfl) ?_
    refine KA (KC rfl) (Nb rfl) ?_
    refine KU rfl rfl (KC rfl) (Nb rfl) ?_
    refine KAS rfl rfl rfl (KS (KP (first:=[]) rfl en_33 rfl (Nb rfl) (fun w hw=>c_Num _ w) ?_))
    refine KU rfl rfl (KK (v:=.bool false) rfl rfl (br_f (KAc (b:=0)) (by decide))) (Nb rfl) ?_
    refine KU rfl rfl (KC rfl) (Nb rfl) ?_
    refine KU rfl rfl (KK (v:=.bool false) rfl rfl (by simp [KAP]; omega)) (Nb rfl) ?_
    refine KU rfl rfl (KC rfl) (Nb rfl) ?_
    refine Kv rfl rfl rfl (Nb rfl) ?_
    refine Kv rfl rfl rfl (Nb rfl) ?_
    refine Kv rfl rfl rfl (Nb rfl) ?_
    refine KU rfl rfl (KAC rfl rfl) (Nb rfl) ?_
    refine KU rfl rfl (KT (Det.eqb Try.underlying4 rfl rfl) (show _ = Value.bool true by simp)) (Nb rfl) ?_
    refine KA (Kp rfl rfl) (Nb rfl) ?_
    refine KA (KF rfl) (Nb rfl) ?_
    refine KG (KX ?_)
    refine ⟨[_],.cons rfl .nil,fun a w' hr=>⟨?_,hr.fr.below⟩⟩
    rfl
  ·
    refine KB ?_
    refine KA (KC rfl) (Nb rfl) ?_
    refine KI rfl (KS (KP (first:=[]) rfl en_33 rfl (Nb rfl) (fun w hw=>c_Num _ w) ?_))
    refine KA (KK (v:=.bool true) rfl rfl (br_t (KAc (b:=0)) (by first|rfl|assumption|omega|(simp; done)))) (Nb rfl) ?_
    refine KA (KC rfl) (Nb rfl) ?_
    refine KU rfl rfl (KC rfl) (Nb rfl) ?_
    refine KAS rfl rfl rfl (KS (KP (first:=[]) rfl en_35 rfl (Nb rfl) (fun w hw=>c_tabSize bt0 br0 n cap0 w (hw _ (by repeat (first|exact Mh _|apply Mt)))) ?_))
    refine KU rfl rfl (KC rfl) (Nb rfl) ?_
    refine KU rfl rfl (KK (v:=.bool true) rfl rfl (br_t KAc (rfl))) (Nb rfl) ?_
    refine KA (Kp rfl rfl) (Nb rfl) ?_
    refine KA (KC rfl) (Nb rfl) ?_
    refine KAi rfl rfl (KL rfl (by repeat (first|exact Mh _|apply Mt)) (by exact KO Try.underlying35 rfl sz_35)) (Nb rfl) ?_
    refine KU rfl rfl (KT (KAQ pl_35 zr_35 rfl fill_ptInf) rfl) (Nb rfl) ?_
    refine KU rfl rfl (KT (Det.eqa (by kernel_rfl) (fun w=>eq_ptP_t hok (P:=(.inf:Pt V.p)) (Q:=(.inf:Pt V.p)) (rfl) 10000 (by decide) w) rfl rfl) (show _ = Value.bool true by rfl)) (Nb rfl) ?_
    refine KA (Kp rfl rfl) (Nb rfl) ?_
    refine KA (KC rfl) (Nb rfl) ?_
    refine KU rfl rfl (KC rfl) (Nb rfl) ?_
    refine KAS rfl rfl rfl (KS (KP (first:=[]) rfl en_33 rfl (Nb rfl) (fun w hw=>c_Num _ w) ?_))
    refine KU rfl rfl (KK (v:=.bool true) rfl rfl (br_t (KAc (b:=1603)) (by first|rfl|assumption|omega|(simp; done)))) (Nb rfl) ?_
    refine KA (Kp rfl rfl) (Nb rfl) ?_
    refine KA (KC rfl) (Nb rfl) ?_
    refine KU rfl rfl (KC rfl) (Nb rfl) ?_
    refine KAS rfl rfl rfl (KS (KP (first:=[]) rfl en_33 rfl (Nb rfl) (fun w hw=>c_Num _ w) ?_))
    refine KU rfl rfl (KK (v:=.bool false) rfl rfl (br_f (KAc (b:=0)) (by decide))) (Nb rfl) ?_
    refine KU rfl rfl (KC rfl) (Nb rfl) ?_
    refine KU rfl rfl (KK (v:=.bool true) rfl rfl (by simp [KAP]; omega)) (Nb rfl) ?_
    refine KU rfl rfl (KC rfl) (Nb rfl) ?_
    refine KU rfl rfl (KC rfl) (Nb rfl) ?_
    refine KU rfl rfl (KC rfl) (Nb rfl) ?_
    refine KU rfl rfl (KK (v:=.bool false) rfl rfl (by simp [KAP]; omega)) (Nb rfl) ?_
    refine KU rfl rfl (Kp rfl rfl) (Nb rfl) ?_
    refine KU rfl rfl (KT (Det.eqb Try.underlying4 rfl rfl) (show _ = Value.bool true by simp)) (Nb rfl) ?_
    refine KA (Kp rfl rfl) (Nb rfl) ?_
    refine KA (KF rfl) (Nb rfl) ?_
    refine KG (KX ?_)
    refine ⟨[_],.cons rfl .nil,fun a w' hr=>⟨?_,hr.fr.below⟩⟩
    rfl
theorem c_TableSizes (id n i:Int) (w:World):Calls Try.prog 3 ([.int .i64 id,.int .i64 n,.int .i64 i]:List Value).toArray w (fun e w'=>e = .returned (.bool true)∧Below w.heap.size w w'):=by
  by_cases hn:n<1∨16<n
  · exact c_TableSizes_bad id n i w hn
  · obtain ⟨m,rfl⟩:∃ m:Nat,n = m:=⟨n.toNat,by omega⟩
    by_cases hi:i<0∨(m:Int)≤i
    · exact c_TableSizes_out id m i w (by omega) (by omega) hi
    · obtain ⟨j,rfl⟩:∃ j:Nat,i = j:=⟨i.toNat,by omega⟩
      exact c_TableSizes_in id m j w (by omega) (by omega) (by omega)
theorem c_TableNil_in (id n:Int) (i:Nat) (w:World) (hi:i<(1+lowI n 16)):Calls Try.prog 4 ([.int .i64 id,.int .i64 n,.int .i64 ((i:Nat):Int)]:List Value).toArray w (fun e w'=>e = .returned (.bool true)∧Below w.heap.size w w'):=by
  obtain ⟨V,h⟩:=cvI_idx id
  obtain ⟨hok,hid⟩:=cvI_ok h
  have h2:=cvI_id h
  obtain ⟨hb5,hb521,hba,hbb,hbx,hby,hbn,hbo,hbo2,hbb1,hbn1⟩:=hok.bounds
  have hsz:=hok.sz
  have hsp:=hsz.p
  have hsa:=hsz.a
  have hsb:=hsz.b
  have hp0:V.p≠0:=by omega
  have hpp:0<V.p:=by omega
  have hm17:∀ k,D.nw (k%V.p)≤17:=fun k=>Nat.le_trans (D.nw_mono (Nat.le_of_lt (Nat.mod_lt k hpp))) hsp
  have hpW:V.p<W9:=w9_521 hb521
  have hnW:V.n<W9:=w9_521 hbn
  have hxW:=Nat.lt_trans hbx hpW
  have hyW:=Nat.lt_trans hby hpW
  have hsn:=hsz.n
  have h17:∀ {A:Nat},A<V.p→D.nw A≤100000:=fun h=>Nat.le_trans (nw_521 (Nat.lt_trans h hb521)) (by decide)
  have hlw:=lowI_lt n (show 0<16 by decide)
  have hdi:D.nw i≤1000:=Nat.le_trans (D.nw_le (n:=2) (show i<2^(32*2) by omega)) (by decide)
  refine Ky (N:=117) (rs:=[.tmp 6]) [] Try.func4 rfl Try.ntmps4 Try.results4 (Nb rfl) trivial rfl ?_
  show LCode _ _ _ ⟨_,_⟩ _
  refine KD (KB ?_)
  refine KA (KF rfl) (Nb rfl) ?_
  refine KG ?_
  refine KD ?_
  refine KD (KB ?_)
  refine KI rfl (KS (KP (first:=[]) rfl en_28 rfl (Nb rfl) (fun w hw=>c_awake16 w) ?_))
  refine KA (KT (Det.not rfl) (show _ = Value.bool false from rfl)) (Nb rfl) ?_
  refine KG ?_
  refine Kd rfl ?_
  refine Kf ?_
  refine KD (KB ?_)
  refine KA (KC rfl) (Nb rfl) ?_
  refine KA (KT (Det.conv Try.underlying3 Try.underlying29 rfl) (uidx_eq _)) (Nb rfl) ?_
  refine KA (KK rfl rfl (br_rem64 (b:=15) (by omega))) (Nb rfl) ?_
  refine KA (Det.convi Try.underlying29 Try.underlying3 rfl (by omega)) (Nb rfl) ?_
  refine KA (KK rfl rfl (KAL (a:=1) (by omega))) (Nb rfl) ?_
  refine KI rfl (KS (Kx (Post:=fun v its=>∃ Q,v = .tuple #[.agg (crvL Q V).toArray,.bool true]∧its = [crvI Q V]) (first:=[]) rfl en_29 rfl (Nb rfl) (fun w1 hw hs=>(c_r_Get _ V w1 h).mono fun e w' ⟨Q,h1,h2,h3,h4⟩=>⟨_,_,⟨Q,rfl,rfl⟩,h1,Brings.nums h4 (by intro x hx; simp at hx; subst hx; exact h2) (by intro x hx; simp at hx; subst hx; rfl) (by intro x hx k hk; simp at hx; subst hx; exact .inl (h3 k hk))⟩) ?_))
  rintro _ _ ⟨Q,rfl,rfl⟩
  refine KA (KC rfl) (Nb rfl) ?_
  refine KA (Ka rfl rfl) (Nb rfl) ?_
  refine KA (Ka rfl rfl) (Nb rfl) ?_
  refine KI rfl (KS (KR (Ke zr_26) (Nb rfl) (fun b7=>?_)))
  refine KI rfl (KQ rfl rfl sz_26 (by repeat (first|exact KY|refine KW rfl ?_)) (by repeat (first|exact Sh _|apply St_)) (by rfl) ?_)
  refine KA (KF rfl) (Nb rfl) ?_
  refine KG ?_
  refine KD (KB ?_)
  refine KA (KC rfl) (Nb rfl) ?_
  refine KA (KK rfl rfl (br_and15 _)) (Nb rfl) ?_
  refine KA (KK rfl rfl (KAL (a:=1) (by omega))) (Nb rfl) ?_
  refine KA (KF rfl) (Nb rfl) ?_
  refine KG ?_
  refine KD ?_
  refine Kg [] (by kernel_rfl) ?_
  refine KE 0 rfl (by kernel_rfl) (Nb rfl) (KM (o':=0) Try.underlying26 rfl rfl rfl sz_3 (by decide)) ?_
  refine LAny.take 1 rfl (by kernel_rfl) (Nb rfl) (KL rfl (by repeat (first|exact Mh _|apply Mt)) (Kb Try.underlying3 rfl (by first|rfl|exact Ku _ _ _ (by omega)|exact Ks _ (by omega)|exact Kq _ (by omega)|exact dv_m _ _ _ (by omega)))) ?_
  refine LAny.take 2 rfl (by kernel_rfl) (Nb rfl) (KL rfl (by repeat (first|exact Mh _|apply Mt)) (by exact KO Try.underlying26 rfl sz_26)) ?_
  refine KE 5 rfl (by kernel_rfl) (Nb rfl) (KC rfl) ?_
  refine Kt 3 rfl rfl (by kernel_rfl) (Kx (first:=[]) rfl en_31 rfl (Nb rfl) (fun w hw hs=>(c_r_GP Q V w (hw _ (by repeat (first|exact Mh _|apply Mt))) hok).mono fun e w' h=>Num2R.q (Old.one (x:=crvI Q V) (by repeat (first|exact Mh _|apply Mt)) rfl) hs h) ?_)
  rintro _ _ ⟨qga,qgb,rfl,rfl,hnga,hngb⟩
  refine Kt 4 rfl rfl (by kernel_rfl) (KP (first:=[]) rfl en_30 rfl (Nb rfl) (fun w hw=>c_r_OutP V qga qgb (V.G) w (hw _ (by repeat (first|exact Mh _|apply Mt))) (hw _ (by repeat (first|exact Mh _|apply Mt)))) ?_)
  refine Kt 6 rfl rfl (by kernel_rfl) (KAb (first:=[]) rfl en_32 rfl (Nb rfl) (fun w hw=>bringsC (c_tabNew _ V (V.G) (1+lowI n 16) w h2 hok.on (Nat.le_add_right _ _) (by omega)) _) ?_)
  rintro _ _ ⟨bt0,br0,cap0,rest0,rfl,rfl⟩
  refine KE 7 rfl (by kernel_rfl) (Nb rfl) (KC rfl) ?_
  refine KE 8 rfl (by kernel_rfl) (Nb rfl) (Ka rfl rfl) ?_
  refine KE 9 rfl (by kernel_rfl) (Nb rfl) (Ka rfl rfl) ?_
  refine KE 10 rfl (by kernel_rfl) (Nb rfl) (KF rfl) ?_
  refine KE 11 rfl (by kernel_rfl) (Nb rfl) (KF rfl) ?_
  refine Ko (by kernel_rfl) ?_
  refine KD ?_
  refine KD (KB ?_)
  refine KA (KC rfl) (Nb rfl) ?_
  refine KA (KT (Det.not rfl) (show _ = Value.bool false from rfl)) (Nb rfl) ?_
  refine KA (KC rfl) (Nb rfl) ?_
  refine KU rfl rfl (KC rfl) (Nb rfl) ?_
  refine KAS rfl rfl rfl (KS (KP (first:=[]) rfl en_33 rfl (Nb rfl) (fun w hw=>c_Num _ w) ?_))
  refine KU rfl rfl (KK (v:=.bool false) rfl rfl (br_f (br_neq (b:=0)) (by first|exact (fun e=>e rfl)|(simp; done)|omega))) (Nb rfl) ?_
  refine KA (KAC rfl rfl) (Nb rfl) ?_
  refine KG ?_
  refine Kd rfl ?_
  refine Kf ?_
  refine KD (KB ?_)
  refine KI rfl (KS (KAb (first:=[]) rfl en_36 rfl (Nb rfl) (fun w hw=>bringsC (c_trNew w) _) ?_))
  rintro _ _ ⟨tb0,rfl,rfl⟩
  refine KA (KF rfl) (Nb rfl) ?_
  refine KG ?_
  refine KD (KB ?_)
  refine KA (KC rfl) (Nb rfl) ?_
  refine KA (KC rfl) (Nb rfl) ?_
  refine KA (KC rfl) (Nb rfl) ?_
  refine KI rfl (LStepW.callT (first:=[]) (b:=some tb0) (r:=none) (l:=[]) (l':=[]++List.range (1+lowI n 16)) rfl en_34 rfl (Nb rfl) (by repeat (first|exact Pick.head _|apply Pick.tail)) (fun w hw hn=>c_tabPick (some tb0) none ([]) bt0 br0 cap0 rest0 V hok (mulE V V.G) (1+lowI n 16) i hi (by omega) w (hw _ (by repeat (first|exact Mh _|apply Mt))) (hw _ (by repeat (first|exact Mh _|apply Mt))) (hw _ (by repeat (first|exact Mh _|apply Mt))) (hn _ (by repeat (first|exact Mh _|apply Mt))) (hn _ (by repeat (first|exact Mh _|apply Mt))) (by simp)) ?_)
  intro r1
  refine KA (KC rfl) (Nb rfl) ?_
  refine KA (Ka rfl rfl) (Nb rfl) ?_
  refine KA (Ka rfl rfl) (Nb rfl) ?_
  refine KI rfl (KS (KR (Ke zr_35) (Nb rfl) (fun b13=>?_)))
  refine KI rfl (KQ rfl rfl sz_35 (by exact Kn _ _ _) (by repeat (first|exact Sh _|apply St_)) (by exact KV _ _ _) ?_)
  refine KA (KF rfl) (Nb rfl) ?_
  refine KG ?_
  refine KD (KB ?_)
  refine KA (KC rfl) (Nb rfl) ?_
  refine KA (KC rfl) (Nb rfl) ?_
  refine KI rfl (KS (KP (first:=[]) rfl en_34 rfl (Nb rfl) (fun w hw=>c_tabPickN bt0 br0 cap0 rest0 V hok (mulE V V.G) (1+lowI n 16) i (pmul V.A V.G i) w hi (by omega) (hw _ (by repeat (first|exact Mh _|apply Mt))) (hw _ (by repeat (first|exact Mh _|apply Mt))) (rfl)) ?_))
  refine KA (KC rfl) (Nb rfl) ?_
  refine KA (Ka rfl rfl) (Nb rfl) ?_
  refine KA (Ka rfl rfl) (Nb rfl) ?_
  refine KI rfl (KS (KR (Ke zr_35) (Nb rfl) (fun b15=>?_)))
  refine KI rfl (KQ rfl rfl sz_35 (by exact Kn _ _ _) (by repeat (first|exact Sh _|apply St_)) (by exact KV _ _ _) ?_)
  refine KA (KF rfl) (Nb rfl) ?_
  refine KG ?_
  refine KD ?_
  refine KD (KB ?_)
  refine KA (KC rfl) (Nb rfl) ?_
  refine KA (KK (v:=.bool false) rfl rfl (br_f (KAp (b:=0)) (Nat.not_lt_zero _))) (Nb rfl) ?_
  refine KA (KC rfl) (Nb rfl) ?_
  refine KU rfl rfl (KC rfl) (Nb rfl) ?_
  refine KU rfl rfl (KC rfl) (Nb rfl) ?_
  refine KU rfl rfl (KK (v:=.bool false) rfl rfl (br_f br_geq (by omega))) (Nb rfl) ?_
  refine KA (KAC rfl rfl) (Nb rfl) ?_
  refine KG ?_
  refine Kd rfl ?_
  refine Kf ?_
  refine KD ?_
  refine Kg [] (by kernel_rfl) ?_
  refine KE 0 rfl (by kernel_rfl) (Nb rfl) (KC rfl) ?_
  refine Kt 1 rfl rfl (by kernel_rfl) (KP (first:=[]) rfl en_33 rfl (Nb rfl) (fun w hw=>c_Num _ w) ?_)
  refine KE 2 rfl (by kernel_rfl) (Nb rfl) (KK (v:=.bool true) rfl rfl (br_t (KAc (b:=0)) (by first|rfl|assumption|omega|(simp; done)))) ?_
  refine KE 3 rfl (by kernel_rfl) (Nb rfl) (KC rfl) ?_
  refine KAI 4 rfl rfl rfl (by kernel_rfl) (Nb rfl) (KC rfl) ?_
  refine LAny.oneG 5 rfl rfl rfl rfl (by kernel_rfl) (KP (first:=[]) rfl en_33 rfl (Nb rfl) (fun w hw=>c_Num _ w) ?_)
  refine KAI 6 rfl rfl rfl (by kernel_rfl) (Nb rfl) (KK (v:=.bool true) rfl rfl (br_t (KAc (b:=0)) (by first|rfl|assumption|omega|(simp; done)))) ?_
  refine KE 7 rfl (by kernel_rfl) (Nb rfl) (Kp rfl rfl) ?_
  refine KE 8 rfl (by kernel_rfl) (Nb rfl) (KC rfl) ?_
  refine KAq 9 rfl rfl rfl (by kernel_rfl) (Nb rfl) (KL rfl (by repeat (first|exact Mh _|apply Mt)) (by exact KO Try.underlying35 rfl sz_35)) ?_
  refine KAq 10 rfl rfl rfl (by kernel_rfl) (Nb rfl) (KL rfl (by repeat (first|exact Mh _|apply Mt)) (by exact KO Try.underlying35 rfl sz_35)) ?_
  refine KAI 11 rfl rfl rfl (by kernel_rfl) (Nb rfl) (KT (Det.eqa (by kernel_rfl) (fun w=>eq_ptP_t hok (P:=pmul V.A V.G i) (Q:=pmul V.A V.G i) (rfl) 10000 (by decide) w) rfl rfl) (show _ = Value.bool true by rfl)) ?_
  refine KE 12 rfl (by kernel_rfl) (Nb rfl) (Kp rfl rfl) ?_
  refine KE 13 rfl (by kernel_rfl) (Nb rfl) (KC rfl) ?_
  refine KAq 14 rfl rfl rfl (by kernel_rfl) (Nb rfl) (KL rfl (by repeat (first|exact Mh _|apply Mt)) (by exact KO Try.underlying35 rfl sz_35)) ?_
  refine KAq 15 rfl rfl rfl (by kernel_rfl) (Nb rfl) (KL rfl (by repeat (first|exact Mh _|apply Mt)) (by exact KO Try.underlying26 rfl sz_26)) ?_
  refine KAI 16 rfl rfl rfl (by kernel_rfl) (Nb rfl) (KC rfl) ?_
  refine KAq 18 rfl rfl rfl (by kernel_rfl) (Nb rfl) (KL rfl (by repeat (first|exact Mh _|apply Mt)) (by exact KO Try.underlying26 rfl sz_26)) ?_
  refine LAny.oneG 17 rfl rfl rfl rfl (by kernel_rfl) (Kx (first:=[]) rfl en_39 rfl (Nb rfl) (fun w hw hs=>(c_n_Small (i) w (by omega)).mono fun e w' h=>NumR.q (Old.nil _) hs h) ?_)
  rintro _ _ ⟨qs,rfl,rfl,hns⟩
  refine LAny.oneG 19 rfl rfl rfl rfl (by kernel_rfl) (Kx (first:=[]) rfl en_31 rfl (Nb rfl) (fun w hw hs=>(c_r_GP Q V w (hw _ (by repeat (first|exact Mh _|apply Mt))) hok).mono fun e w' h=>Num2R.q (Old.one (x:=crvI Q V) (by repeat (first|exact Mh _|apply Mt)) rfl) hs h) ?_)
  rintro _ _ ⟨qka,qkb,rfl,rfl,hnka,hnkb⟩
  refine LAny.oneG 20 rfl rfl rfl rfl (by kernel_rfl) (Kx (first:=[]) rfl en_38 rfl (Nb rfl) (fun w hw hs=>(c_r_Times Q V qs (i) qka qkb (V.G) (pmul V.A V.G i) w (hw _ (by repeat (first|exact Mh _|apply Mt))) hok (hw _ (by repeat (first|exact Mh _|apply Mt))) (by omega) (hw _ (by repeat (first|exact Mh _|apply Mt))) (hw _ (by repeat (first|exact Mh _|apply Mt))) (hok.on) (rfl)).mono fun e w' h=>Num2R.q (Old.pt (by repeat (first|exact Mh _|apply Mt)) (by repeat (first|exact Mh _|apply Mt)) (Old.nil _)) hs h) ?_)
  rintro _ _ ⟨qpa,qpb,rfl,rfl,hnpa,hnpb⟩
  refine LAny.oneG 21 rfl rfl rfl rfl (by kernel_rfl) (KP (first:=[]) rfl en_30 rfl (Nb rfl) (fun w hw=>c_r_OutP V qpa qpb (pmul V.A V.G i) w (hw _ (by repeat (first|exact Mh _|apply Mt))) (hw _ (by repeat (first|exact Mh _|apply Mt)))) ?_)
  refine KAI 22 rfl rfl rfl (by kernel_rfl) (Nb rfl) (KT (Det.eqa (by kernel_rfl) (fun w=>eq_ptP_t hok (P:=pmul V.A V.G i) (Q:=pmul V.A V.G i) (rfl) 10000 (by decide) w) rfl rfl) (show _ = Value.bool true by rfl)) ?_
  refine KE 23 rfl (by kernel_rfl) (Nb rfl) (Kp rfl rfl) ?_
  refine KE 24 rfl (by kernel_rfl) (Nb rfl) (KC rfl) ?_
  refine KAI 25 rfl rfl rfl (by kernel_rfl) (Nb rfl) (KC rfl) ?_
  refine KAI 27 rfl rfl rfl (by kernel_rfl) (Nb rfl) (KC rfl) ?_
  refine LAny.oneG 26 rfl rfl rfl rfl (by kernel_rfl) (KP (first:=[]) rfl en_37 rfl (Nb rfl) (fun w hw=>c_trLen tb0 r1 ([]++List.range (1+lowI n 16)) w (hw _ (by repeat (first|exact Mh _|apply Mt)))) ?_)
  refine KAI 28 rfl rfl rfl (by kernel_rfl) (Nb rfl) (KK (v:=.bool true) rfl rfl (br_t KAc (by simp))) ?_
  refine KE 29 rfl (by kernel_rfl) (Nb rfl) (Kp rfl rfl) ?_
  refine KE 30 rfl (by kernel_rfl) (Nb rfl) (KF rfl) ?_
  refine Ko (by kernel_rfl) ?_
  refine KX ?_
  refine ⟨[_],.cons rfl .nil,fun a w' hr=>⟨?_,hr.fr.below⟩⟩
  rfl
theorem c_TableNil_out (id n i:Int) (w:World) (hi:i<0∨(((1+lowI n 16):Nat):Int)≤i):Calls Try.prog 4 ([.int .i64 id,.int .i64 n,.int .i64 i]:List Value).toArray w (fun e w'=>e = .returned (.bool true)∧Below w.heap.size w w'):=by
  obtain ⟨V,h⟩:=cvI_idx id
  obtain ⟨hok,hid⟩:=cvI_ok h
  have h2:=cvI_id h
  obtain ⟨hb5,hb521,hba,hbb,hbx,hby,hbn,hbo,hbo2,hbb1,hbn1⟩:=hok.bounds
  have hsz:=hok.sz
  have hsp:=hsz.p
  have hsa:=hsz.a
  have hsb:=hsz.b
  have hp0:V.p≠0:=by omega
  have hpp:0<V.p:=by omega
  have hm17:∀ k,D.nw (k%V.p)≤17:=fun k=>Nat.le_trans (D.nw_mono (Nat.le_of_lt (Nat.mod_lt k hpp))) hsp
  have hpW:V.p<W9:=w9_521 hb521
  have hnW:V.n<W9:=w9_521 hbn
  have hxW:=Nat.lt_trans hbx hpW
  have hyW:=Nat.lt_trans hby hpW
  have hsn:=hsz.n
  have h17:∀ {A:Nat},A<V.p→D.nw A≤100000:=fun h=>Nat.le_trans (nw_521 (Nat.lt_trans h hb521)) (by decide)
  have hlw:=lowI_lt n (show 0<16 by decide)
  refine Ky (N:=117) (rs:=[.tmp 6]) [] Try.func4 rfl Try.ntmps4 Try.results4 (Nb rfl) trivial rfl ?_
  show LCode _ _ _ ⟨_,_⟩ _
  refine KD (KB ?_)
  refine KA (KF rfl) (Nb rfl) ?_
  refine KG ?_
  refine KD ?_
  refine KD (KB ?_)
  refine KI rfl (KS (KP (first:=[]) rfl en_28 rfl (Nb rfl) (fun w hw=>c_awake16 w) ?_))
  refine KA (KT (Det.not rfl) (show _ = Value.bool false from rfl)) (Nb rfl) ?_
  refine KG ?_
  refine Kd rfl ?_
  refine Kf ?_
  refine KD (KB ?_)
  refine KA (KC rfl) (Nb rfl) ?_
  refine KA (KT (Det.conv Try.underlying3 Try.underlying29 rfl) (uidx_eq _)) (Nb rfl) ?_
  refine KA (KK rfl rfl (br_rem64 (b:=15) (by omega))) (Nb rfl) ?_
  refine KA (Det.convi Try.underlying29 Try.underlying3 rfl (by omega)) (Nb rfl) ?_
  refine KA (KK rfl rfl (KAL (a:=1) (by omega))) (Nb rfl) ?_
  refine KI rfl (KS (Kx (Post:=fun v its=>∃ Q,v = .tuple #[.agg (crvL Q V).toArray,.bool true]∧its = [crvI Q V]) (first:=[]) rfl en_29 rfl (Nb rfl) (fun w1 hw hs=>(c_r_Get _ V w1 h).mono fun e w' ⟨Q,h1,h2,h3,h4⟩=>⟨_,_,⟨Q,rfl,rfl⟩,h1,Brings.nums h4 (by intro x hx; simp at hx; subst hx; exact h2) (by intro x hx; simp at hx; subst hx; rfl) (by intro x hx k hk; simp at hx; subst hx; exact .inl (h3 k hk))⟩) ?_))
  rintro _ _ ⟨Q,rfl,rfl⟩
  refine KA (KC rfl) (Nb rfl) ?_
  refine KA (Ka rfl rfl) (Nb rfl) ?_
  refine KA (Ka rfl rfl) (Nb rfl) ?_
  refine KI rfl (KS (KR (Ke zr_26) (Nb rfl) (fun b7=>?_)))
  refine KI rfl (KQ rfl rfl sz_26 (by repeat (first|exact KY|refine KW rfl ?_)) (by repeat (first|exact Sh _|apply St_)) (by rfl) ?_)
  refine KA (KF rfl) (Nb rfl) ?_
  refine KG ?_
  refine KD (KB ?_)
  refine KA (KC rfl) (Nb rfl) ?_
  refine KA (KK rfl rfl (br_and15 _)) (Nb rfl) ?_
  refine KA (KK rfl rfl (KAL (a:=1) (by omega))) (Nb rfl) ?_
  refine KA (KF rfl) (Nb rfl) ?_
  refine KG ?_
  refine KD ?_
  refine Kg [] (by kernel_rfl) ?_
  refine KE 0 rfl (by kernel_rfl) (Nb rfl) (KM (o':=0) Try.underlying26 rfl rfl rfl sz_3 (by decide)) ?_
  refine LAny.take 1 rfl (by kernel_rfl) (Nb rfl) (KL rfl (by repeat (first|exact Mh _|apply Mt)) (Kb Try.underlying3 rfl (by first|rfl|exact Ku _ _ _ (by omega)|exact Ks _ (by omega)|exact Kq _ (by omega)|exact dv_m _ _ _ (by omega)))) ?_
  refine LAny.take 2 rfl (by kernel_rfl) (Nb rfl) (KL rfl (by repeat (first|exact Mh _|apply Mt)) (by exact KO Try.underlying26 rfl sz_26)) ?_
  refine KE 5 rfl (by kernel_rfl) (Nb rfl) (KC rfl) ?_
  refine Kt 3 rfl rfl (by kernel_rfl) (Kx (first:=[]) rfl en_31 rfl (Nb rfl) (fun w hw hs=>(c_r_GP Q V w (hw _ (by repeat (first|exact Mh _|apply Mt))) hok).mono fun e w' h=>Num2R.q (Old.one (x:=crvI Q V) (by repeat (first|exact Mh _|apply Mt)) rfl) hs h) ?_)
  rintro _ _ ⟨qga,qgb,rfl,rfl,hnga,hngb⟩
  refine Kt 4 rfl rfl (by kernel_rfl) (KP (first:=[]) rfl en_30 rfl (Nb rfl) (fun w hw=>c_r_OutP V qga qgb (V.G) w (hw _ (by repeat (first|exact Mh _|apply Mt))) (hw _ (by repeat (first|exact Mh _|apply Mt)))) ?_)
  refine Kt 6 rfl rfl (by kernel_rfl) (KAb (first:=[]) rfl en_32 rfl (Nb rfl) (fun w hw=>bringsC (c_tabNew _ V (V.G) (1+lowI n 16) w h2 hok.on (Nat.le_add_right _ _) (by omega)) _) ?_)
  rintro _ _ ⟨bt0,br0,cap0,rest0,rfl,rfl⟩
  refine KE 7 rfl (by kernel_rfl) (Nb rfl) (KC rfl) ?_
  refine KE 8 rfl (by kernel_rfl) (Nb rfl) (Ka rfl rfl) ?_
  refine KE 9 rfl (by kernel_rfl) (Nb rfl) (Ka rfl rfl) ?_
  refine KE 10 rfl (by kernel_rfl) (Nb rfl) (KF rfl) ?_
  refine KE 11 rfl (by kernel_rfl) (Nb rfl) (KF rfl) ?_
  refine Ko (by kernel_rfl) ?_
  refine KD ?_
  refine KD (KB ?_)
  refine KA (KC rfl) (Nb rfl) ?_
  refine KA (KT (Det.not rfl) (show _ = Value.bool false from rfl)) (Nb rfl) ?_
  refine KA (KC rfl) (Nb rfl) ?_
  refine KU rfl rfl (KC rfl) (Nb rfl) ?_
  refine KAS rfl rfl rfl (KS (KP (first:=[]) rfl en_33 rfl (Nb rfl) (fun w hw=>c_Num _ w) ?_))
  refine KU rfl rfl (KK (v:=.bool false) rfl rfl (br_f (br_neq (b:=0)) (by first|exact (fun e=>e rfl)|(simp; done)|omega))) (Nb rfl) ?_
  refine KA (KAC rfl rfl) (Nb rfl) ?_
  refine KG ?_
  refine Kd rfl ?_
  refine Kf ?_
  refine KD (KB ?_)
  refine KI rfl (KS (KAb (first:=[]) rfl en_36 rfl (Nb rfl) (fun w hw=>bringsC (c_trNew w) _) ?_))
  rintro _ _ ⟨tb0,rfl,rfl⟩
  refine KA (KF rfl) (Nb rfl) ?_
  refine KG ?_
  refine KD (KB ?_)
  refine KA (KC rfl) (Nb rfl) ?_
  refine KA (KC rfl) (Nb rfl) ?_
  refine KA (KC rfl) (Nb rfl) ?_
  refine KI rfl (KS (KP (first:=[]) rfl en_34 rfl (Nb rfl) (fun w hw=>c_tabPick_bad (some tb0) bt0 br0 cap0 (1+lowI n 16) i w (hw _ (by repeat (first|exact Mh _|apply Mt))) hi) ?_))
  refine KA (KC rfl) (Nb rfl) ?_
  refine KA (Ka rfl rfl) (Nb rfl) ?_
  refine KA (Ka rfl rfl) (Nb rfl) ?_
  refine KI rfl (KS (KR (Ke zr_35) (Nb rfl) (fun b13=>?_)))
  refine KI rfl (KQ rfl rfl sz_35 (by exact Kn _ _ _) (by repeat (first|exact Sh _|apply St_)) (by exact KV _ _ _) ?_)
  refine KA (KF rfl) (Nb rfl) ?_
  refine KG ?_
  refine KD (KB ?_)
  refine KA (KC rfl) (Nb rfl) ?_
  refine KA (KC rfl) (Nb rfl) ?_
  refine KI rfl (KS (KP (first:=[]) rfl en_34 rfl (Nb rfl) (fun w hw=>c_tabPick_bad none bt0 br0 cap0 (1+lowI n 16) i w (hw _ (by repeat (first|exact Mh _|apply Mt))) hi) ?_))
  refine KA (KC rfl) (Nb rfl) ?_
  refine KA (Ka rfl rfl) (Nb rfl) ?_
  refine KA (Ka rfl rfl) (Nb rfl) ?_
  refine KI rfl (KS (KR (Ke zr_35) (Nb rfl) (fun b15=>?_)))
  refine KI rfl (KQ rfl rfl sz_35 (by exact Kn _ _ _) (by repeat (first|exact Sh _|apply St_)) (by exact KV _ _ _) ?_)
  refine KA (KF rfl) (Nb rfl) ?_
  refine KG ?_
  refine KD ?_
  refine KD ?_
  rcases (show i<0∨(0≤i∧(((1+lowI n 16):Nat):Int)≤i) by omega) with g1|⟨g1,g2⟩
  ·
    refine KB ?_
    refine KA (KC rfl) (Nb rfl) ?_
    refine KA (KK (v:=.bool true) rfl rfl (by simp [KAP]; omega)) (Nb rfl) ?_
    refine KA (KC rfl) (Nb rfl) ?_
    refine Kv rfl rfl rfl (Nb rfl) ?_
    refine Kv rfl rfl rfl (Nb rfl) ?_
    refine Kv rfl rfl rfl (Nb rfl) ?_
    refine KA (Kp rfl rfl) (Nb rfl) ?_
    refine KG ?_
    refine Kw rfl ?_
    refine KD (KB ?_)
    refine KA (KC rfl) (Nb rfl) ?_
    refine KI rfl (KS (KP (first:=[]) rfl en_33 rfl (Nb rfl) (fun w hw=>c_Num _ w) ?_))
    refine KA (KK (v:=.bool true) rfl rfl (br_t (KAc (b:=1603)) (by first|rfl|assumption|omega|(simp; done)))) (Nb rfl) ?_
    refine KA (KC rfl) (Nb rfl) ?_
    refine KU rfl rfl (KC rfl) (Nb rfl) ?_
    refine KAS rfl rfl rfl (KS (KP (first:=[]) rfl en_33 rfl (Nb rfl) (fun w hw=>c_Num _ w) ?_))
    refine KU rfl rfl (KK (v:=.bool true) rfl rfl (br_t (KAc (b:=1603)) (by first|rfl|assumption|omega|(simp; done)))) (Nb rfl) ?_
    refine KA (Kp rfl rfl) (Nb rfl) ?_
    refine KA (KC rfl) (Nb rfl) ?_
    refine KU rfl rfl (KC rfl) (Nb rfl) ?_
    refine KAS rfl rfl rfl (KS (KP (first:=[]) rfl en_37 rfl (Nb rfl) (fun w hw=>c_trLen tb0 none ([]) w (hw _ (by repeat (first|exact Mh _|apply Mt)))) ?_))
    refine KU rfl rfl (KK (v:=.bool true) rfl rfl (br_t (KAc (b:=0)) (by first|rfl|assumption|omega|(simp; done)))) (Nb rfl) ?_
    refine KA (Kp rfl rfl) (Nb rfl) ?_
    refine KA (KC rfl) (Nb rfl) ?_
    refine KAi rfl rfl (KL rfl (by repeat (first|exact Mh _|apply Mt)) (by exact KO Try.underlying35 rfl sz_35)) (Nb rfl) ?_
    refine KAi rfl rfl (KL rfl (by repeat (first|exact Mh _|apply Mt)) (by exact KO Try.underlying35 rfl sz_35)) (Nb rfl) ?_
    refine KU rfl rfl (KT (Det.eqa (by kernel_rfl) (fun w=>eq_pt_t zero_w9 zero_w9 10000 (by decide) w) rfl rfl) (show _ = Value.bool true by rfl)) (Nb rfl) ?_
    refine KA (Kp rfl rfl) (Nb rfl) ?_
    refine KA (KF rfl) (Nb rfl) ?_
    refine KG (KX ?_)
    refine ⟨[_],.cons rfl .nil,fun a w' hr=>⟨?_,hr.fr.below⟩⟩
    rfl
  ·
    refine KB ?_
    refine KA (KC rfl) (Nb rfl) ?_
    refine KA (KK (v:=.bool false) rfl rfl (by simp [KAP]; omega)) (Nb rfl) ?_
    refine KA (KC rfl) (Nb rfl) ?_
    refine KU rfl rfl (KC rfl) (Nb rfl) ?_
    refine KU rfl rfl (KC rfl) (Nb rfl) ?_
    refine KU rfl rfl (KK (v:=.bool true) rfl rfl (by simp [KAP]; omega)) (Nb rfl) ?_
    refine KA (KAC rfl rfl) (Nb rfl) ?_
    refine KG ?_
    refine Kw rfl ?_
    refine KD (KB ?_)
    refine KA (KC rfl) (Nb rfl) ?_
    refine KI rfl (KS (KP (first:=[]) rfl en_33 rfl (Nb rfl) (fun w hw=>c_Num _ w) ?_))
    refine KA (KK (v:=.bool true) rfl rfl (br_t (KAc (b:=1603)) (by first|rfl|assumption|omega|(simp; done)))) (Nb rfl) ?_
    refine KA (KC rfl) (Nb rfl) ?_
    refine KU rfl rfl (KC rfl) (Nb rfl) ?_
    refine KAS rfl rfl rfl (KS (KP (first:=[]) rfl en_33 rfl (Nb rfl) (fun w hw=>c_Num _ w) ?_))
    refine KU rfl rfl (KK (v:=.bool true) rfl rfl (br_t (KAc (b:=1603)) (by first|rfl|assumption|omega|(simp; done)))) (Nb rfl) ?_
    refine KA (Kp rfl rfl) (Nb rfl) ?_
    refine KA (KC rfl) (Nb rfl) ?_
    refine KU rfl rfl (KC rfl) (Nb rfl) ?_
    refine KAS rfl rfl rfl (KS (KP (first:=[]) rfl en_37 rfl (Nb rfl) (fun w hw=>c_trLen tb0 none ([]) w (hw _ (by repeat (first|exact Mh _|apply Mt)))) ?_))
    refine KU rfl rfl (KK (v:=.bool true) rfl rfl (br_t (KAc (b:=0)) (by first|rfl|assumption|omega|(simp; done)))) (Nb rfl) ?_
    refine KA (Kp rfl rfl) (Nb rfl) ?_
    refine KA (KC rfl) (Nb rfl) ?_
    refine KAi rfl rfl (KL rfl (by repeat (first|exact Mh _|apply Mt)) (by exact KO Try.underlying35 rfl sz_35)) (Nb rfl) ?_
    refine KAi rfl rfl (KL rfl (by repeat (first|exact Mh _|apply Mt)) (by exact KO Try.underlying35 rfl sz_35)) (Nb rfl) ?_
    refine KU rfl rfl (KT (Det.eqa (by kernel_rfl) (fun w=>eq_pt_t zero_w9 zero_w9 10000 (by decide) w) rfl rfl) (show _ = Value.bool true by rfl)) (Nb rfl) ?_
    refine KA (Kp rfl rfl) (Nb rfl) ?_
    refine KA (KF rfl) (Nb rfl) ?_
    refine KG (KX ?_)
    refine ⟨[_],.cons rfl .nil,fun a w' hr=>⟨?_,hr.fr.below⟩⟩
    rfl
theorem c_TableNil (id n i:Int) (w:World):Calls Try.prog 4 ([.int .i64 id,.int .i64 n,.int .i64 i]:List Value).toArray w (fun e w'=>e = .returned (.bool true)∧Below w.heap.size w w'):=by
  by_cases hi:i<0∨((1+lowI n 16:Nat):Int)≤i
  · exact c_TableNil_out id n i w hi
  · obtain ⟨j,rfl⟩:∃ j:Nat,i = j:=⟨i.toNat,by omega⟩
    exact c_TableNil_in id n j w (by omega)
theorem c_TableSums (id:Int) (k:Nat) (i j:Int) (w:World) (hk:k<18446744073709551616):Calls Try.prog 16 ([.int .i64 id,.int .u64 ((k:Nat):Int),.int .i64 i,.int .i64 j]:List Value).toArray w (fun e w'=>e = .returned (.bool true)∧Below w.heap.size w w'):=by
  obtain ⟨V,h⟩:=cvI_idx id
  obtain ⟨hok,hid⟩:=cvI_ok h
  have h2:=cvI_id h
  obtain ⟨hb5,hb521,hba,hbb,hbx,hby,hbn,hbo,hbo2,hbb1,hbn1⟩:=hok.bounds
  have hsz:=hok.sz
  have hsp:=hsz.p
  have hsa:=hsz.a
  have hsb:=hsz.b
  have hp0:V.p≠0:=by omega
  have hpp:0<V.p:=by omega
  have hm17:∀ k,D.nw (k%V.p)≤17:=fun k=>Nat.le_trans (D.nw_mono (Nat.le_of_lt (Nat.mod_lt k hpp))) hsp
  have hpW:V.p<W9:=w9_521 hb521
  have hnW:V.n<W9:=w9_521 hbn
  have hxW:=Nat.lt_trans hbx hpW
  have hyW:=Nat.lt_trans hby hpW
  have hsn:=hsz.n
  have h17:∀ {A:Nat},A<V.p→D.nw A≤100000:=fun h=>Nat.le_trans (nw_521 (Nat.lt_trans h hb521)) (by decide)
  have hla:=lowI_lt i (show 0<8 by decide)
  have hlb:=lowI_lt j (show 0<8 by decide)
  have hdk:=nw_w9_dig (u64_w9 hk)
  have hPq:=hok.mul hok.on (k)
  obtain ⟨P,hPe⟩:∃ P,pmul V.A V.G (k) = P:=⟨_,rfl⟩
  have hPo:On V.A V.B P:=hPe ▸ hPq
  refine Ky (N:=124) (rs:=[.tmp 8]) [] Try.func16 rfl Try.ntmps16 Try.results16 (Nb rfl) trivial rfl ?_
  show LCode _ _ _ ⟨_,_⟩ _
  refine KD (KB ?_)
  refine KA (KF rfl) (Nb rfl) ?_
  refine KG ?_
  refine KD ?_
  refine KD (KB ?_)
  refine KI rfl (KS (KP (first:=[]) rfl en_28 rfl (Nb rfl) (fun w hw=>c_awake16 w) ?_))
  refine KA (KT (Det.not rfl) (show _ = Value.bool false from rfl)) (Nb rfl) ?_
  refine KG ?_
  refine Kd rfl ?_
  refine Kf ?_
  refine KD (KB ?_)
  refine KA (KC rfl) (Nb rfl) ?_
  refine KA (KT (Det.conv Try.underlying3 Try.underlying29 rfl) (uidx_eq _)) (Nb rfl) ?_
  refine KA (KK rfl rfl (br_rem64 (b:=15) (by omega))) (Nb rfl) ?_
  refine KA (Det.convi Try.underlying29 Try.underlying3 rfl (by omega)) (Nb rfl) ?_
  refine KA (KK rfl rfl (KAL (a:=1) (by omega))) (Nb rfl) ?_
  refine KI rfl (KS (Kx (Post:=fun v its=>∃ Q,v = .tuple #[.agg (crvL Q V).toArray,.bool true]∧its = [crvI Q V]) (first:=[]) rfl en_29 rfl (Nb rfl) (fun w1 hw hs=>(c_r_Get _ V w1 h).mono fun e w' ⟨Q,h1,h2,h3,h4⟩=>⟨_,_,⟨Q,rfl,rfl⟩,h1,Brings.nums h4 (by intro x hx; simp at hx; subst hx; exact h2) (by intro x hx; simp at hx; subst hx; rfl) (by intro x hx k hk; simp at hx; subst hx; exact .inl (h3 k hk))⟩) ?_))
  rintro _ _ ⟨Q,rfl,rfl⟩
  refine KA (KC rfl) (Nb rfl) ?_
  refine KA (Ka rfl rfl) (Nb rfl) ?_
  refine KA (Ka rfl rfl) (Nb rfl) ?_
  refine KI rfl (KS (KR (Ke zr_26) (Nb rfl) (fun b9=>?_)))
  refine KI rfl (KQ rfl rfl sz_26 (by repeat (first|exact KY|refine KW rfl ?_)) (by repeat (first|exact Sh _|apply St_)) (by rfl) ?_)
  refine KA (KF rfl) (Nb rfl) ?_
  refine KG ?_
  refine KD ?_
  refine Kg [9] (by kernel_rfl) ?_
  refine LAny.take 0 rfl (by kernel_rfl) (Nb rfl) (KL rfl (by repeat (first|exact Mh _|apply Mt)) (by exact KO Try.underlying26 rfl sz_26)) ?_
  refine KE 1 rfl (by kernel_rfl) (Nb rfl) (KC rfl) ?_
  refine LAny.take 4 rfl (by kernel_rfl) (Nb rfl) (KL rfl (by repeat (first|exact Mh _|apply Mt)) (by exact KO Try.underlying26 rfl sz_26)) ?_
  refine LAny.toP ?_
  refine KAk 8 rfl (.inl zr_35) (Nb rfl) rfl rfl rfl ?_
  refine KAO 2 rfl rfl rfl (Nb rfl) (by kernel_rfl) rfl (KAV (first:=[]) rfl en_47 rfl (fun w hw=>c_One k w hk)) ?_
  rintro _ _ ⟨rfl,rfl⟩
  refine KAO 3 rfl rfl rfl (Nb rfl) (by kernel_rfl) rfl (LExt.callZ (first:=[]) rfl en_46 rfl (fun w hw hs=>(c_n_From (k) (u64_w9 hk) w).mono fun e w' h=>NumR.q (Old.nil _) hs h)) ?_
  rintro _ _ ⟨qk,rfl,rfl,hnk⟩
  refine KAO 5 rfl rfl rfl (Nb rfl) (by kernel_rfl) rfl (LExt.callZ (first:=[]) rfl en_31 rfl (fun w hw hs=>(c_r_GP Q V w (hw _ (by repeat (first|exact Mh _|apply Mt))) hok).mono fun e w' h=>Num2R.q (Old.one (x:=crvI Q V) (by repeat (first|exact Mh _|apply Mt)) rfl) hs h)) ?_
  rintro _ _ ⟨qga,qgb,rfl,rfl,hnga,hngb⟩
  refine KAO 6 rfl rfl rfl (Nb rfl) (by kernel_rfl) rfl (LExt.callZ (first:=[]) rfl en_38 rfl (fun w hw hs=>(c_r_Times Q V qk (k) qga qgb (V.G) (P) w (hw _ (by repeat (first|exact Mh _|apply Mt))) hok (hw _ (by repeat (first|exact Mh _|apply Mt))) (by omega) (hw _ (by repeat (first|exact Mh _|apply Mt))) (hw _ (by repeat (first|exact Mh _|apply Mt))) (hok.on) (hPe)).mono fun e w' h=>Num2R.q (Old.pt (by repeat (first|exact Mh _|apply Mt)) (by repeat (first|exact Mh _|apply Mt)) (Old.nil _)) hs h)) ?_
  rintro _ _ ⟨qpa,qpb,rfl,rfl,hnpa,hnpb⟩
  refine KAO 7 rfl rfl rfl (Nb rfl) (by kernel_rfl) rfl (KAV (first:=[]) rfl en_30 rfl (fun w hw=>c_r_OutP V qpa qpb (P) w (hw _ (by repeat (first|exact Mh _|apply Mt))) (hw _ (by repeat (first|exact Mh _|apply Mt))))) ?_
  rintro _ _ ⟨rfl,rfl⟩
  refine LAnyP.mat (by kernel_rfl) (fun b11=>?_)
  refine LAnyP.toAny ?_
  refine Kr 9 rfl rfl (by kernel_rfl) (by kernel_rfl) (KQ rfl rfl sz_35 (by exact Kn _ _ _) (by repeat (first|exact Sh _|apply St_)) (by exact KV _ _ _) ?_)
  refine Ko (by kernel_rfl) ?_
  refine KD (KB ?_)
  refine KA (KM (o':=0) Try.underlying26 rfl rfl rfl sz_3 (by decide)) (Nb rfl) ?_
  refine LOps.det (KL rfl (by repeat (first|exact Mh _|apply Mt)) (Kb Try.underlying3 rfl (by first|rfl|exact Ku _ _ _ (by omega)|exact Ks _ (by omega)|exact Kq _ (by omega)|exact dv_m _ _ _ (by omega)))) (Nb rfl) ?_
  refine LOps.det (KL rfl (by repeat (first|exact Mh _|apply Mt)) (by exact KO Try.underlying35 rfl sz_35)) (Nb rfl) ?_
  refine KI rfl (KS (KAb (first:=[]) rfl en_32 rfl (Nb rfl) (fun w hw=>bringsC (c_tabNew _ V (P) 16 w h2 hPo (by decide) (by decide)) _) ?_))
  rintro _ _ ⟨bt0,br0,cap0,rest0,rfl,rfl⟩
  refine KA (KC rfl) (Nb rfl) ?_
  refine KA (Ka rfl rfl) (Nb rfl) ?_
  refine KA (Ka rfl rfl) (Nb rfl) ?_
  refine KA (KF rfl) (Nb rfl) ?_
  refine KA (KF rfl) (Nb rfl) ?_
  refine KG ?_
  refine KD ?_
  refine KD (KB ?_)
  refine KA (KC rfl) (Nb rfl) ?_
  refine KA (KT (Det.not rfl) (show _ = Value.bool false from rfl)) (Nb rfl) ?_
  refine KA (KC rfl) (Nb rfl) ?_
  refine KU rfl rfl (KC rfl) (Nb rfl) ?_
  refine KAS rfl rfl rfl (KS (KP (first:=[]) rfl en_33 rfl (Nb rfl) (fun w hw=>c_Num _ w) ?_))
  refine KU rfl rfl (KK (v:=.bool false) rfl rfl (br_f (br_neq (b:=0)) (by first|exact (fun e=>e rfl)|(simp; done)|omega))) (Nb rfl) ?_
  refine KA (KAC rfl rfl) (Nb rfl) ?_
  refine KG ?_
  refine Kd rfl ?_
  refine Kf ?_
  refine KD (KB ?_)
  refine KA (KC rfl) (Nb rfl) ?_
  refine KA (KK rfl rfl (br_and7 _)) (Nb rfl) ?_
  refine KA (KC rfl) (Nb rfl) ?_
  refine KA (KK rfl rfl (br_and7 _)) (Nb rfl) ?_
  refine KA (KF rfl) (Nb rfl) ?_
  refine KA (KF rfl) (Nb rfl) ?_
  refine KG ?_
  refine KD (KB ?_)
  refine KA (KC rfl) (Nb rfl) ?_
  refine KA (KC rfl) (Nb rfl) ?_
  refine KI rfl (KS (KP (first:=[]) rfl en_34 rfl (Nb rfl) (fun w hw=>c_tabPickN bt0 br0 cap0 rest0 V hok (mulE V P) 16 (lowI i 8) (pmul V.A P (lowI i 8)) w (by omega) (by decide) (hw _ (by repeat (first|exact Mh _|apply Mt))) (hw _ (by repeat (first|exact Mh _|apply Mt))) (rfl)) ?_))
  refine KA (KC rfl) (Nb rfl) ?_
  refine KA (Ka rfl rfl) (Nb rfl) ?_
  refine KA (Ka rfl rfl) (Nb rfl) ?_
  refine KI rfl (KS (KR (Ke zr_35) (Nb rfl) (fun b16=>?_)))
  refine KI rfl (KQ rfl rfl sz_35 (by exact Kn _ _ _) (by repeat (first|exact Sh _|apply St_)) (by exact KV _ _ _) ?_)
  refine KA (KF rfl) (Nb rfl) ?_
  refine KG ?_
  refine KD (KB ?_)
  refine KA (KC rfl) (Nb rfl) ?_
  refine KA (KC rfl) (Nb rfl) ?_
  refine KI rfl (KS (KP (first:=[]) rfl en_34 rfl (Nb rfl) (fun w hw=>c_tabPickN bt0 br0 cap0 rest0 V hok (mulE V P) 16 (lowI j 8) (pmul V.A P (lowI j 8)) w (by omega) (by decide) (hw _ (by repeat (first|exact Mh _|apply Mt))) (hw _ (by repeat (first|exact Mh _|apply Mt))) (rfl)) ?_))
  refine KA (KC rfl) (Nb rfl) ?_
  refine KA (Ka rfl rfl) (Nb rfl) ?_
  refine KA (Ka rfl rfl) (Nb rfl) ?_
  refine KI rfl (KS (KR (Ke zr_35) (Nb rfl) (fun b18=>?_)))
  refine KI rfl (KQ rfl rfl sz_35 (by exact Kn _ _ _) (by repeat (first|exact Sh _|apply St_)) (by exact KV _ _ _) ?_)
  refine KA (KF rfl) (Nb rfl) ?_
  refine KG ?_
  refine KD (KB ?_)
  refine KA (KC rfl) (Nb rfl) ?_
  refine KA (KC rfl) (Nb rfl) ?_
  refine KA (KC rfl) (Nb rfl) ?_
  refine KA (KK rfl rfl (KAL (by omega))) (Nb rfl) ?_
  refine KI rfl (KS (KP (first:=[]) rfl en_34 rfl (Nb rfl) (fun w hw=>c_tabPickN bt0 br0 cap0 rest0 V hok (mulE V P) 16 (lowI i 8+lowI j 8) (pmul V.A P (lowI i 8+lowI j 8)) w (by omega) (by decide) (hw _ (by repeat (first|exact Mh _|apply Mt))) (hw _ (by repeat (first|exact Mh _|apply Mt))) (rfl)) ?_))
  refine KA (KC rfl) (Nb rfl) ?_
  refine KA (Ka rfl rfl) (Nb rfl) ?_
  refine KA (Ka rfl rfl) (Nb rfl) ?_
  refine KI rfl (KS (KR (Ke zr_35) (Nb rfl) (fun b20=>?_)))
  refine KI rfl (KQ rfl rfl sz_35 (by exact Kn _ _ _) (by repeat (first|exact Sh _|apply St_)) (by exact KV _ _ _) ?_)
  refine KA (KF rfl) (Nb rfl) ?_
  refine KG ?_
  refine KD (KB ?_)
  refine KA (KM (o':=0) Try.underlying26 rfl rfl rfl sz_3 (by decide)) (Nb rfl) ?_
  refine LOps.det (KL rfl (by repeat (first|exact Mh _|apply Mt)) (Kb Try.underlying3 rfl (by first|rfl|exact Ku _ _ _ (by omega)|exact Ks _ (by omega)|exact Kq _ (by omega)|exact dv_m _ _ _ (by omega)))) (Nb rfl) ?_
  refine LOps.det (KL rfl (by repeat (first|exact Mh _|apply Mt)) (by exact KO Try.underlying35 rfl sz_35)) (Nb rfl) ?_
  refine LOps.det (KL rfl (by repeat (first|exact Mh _|apply Mt)) (by exact KO Try.underlying35 rfl sz_35)) (Nb rfl) ?_
  refine KI rfl (KS (KP (first:=[]) rfl en_62 rfl (Nb rfl) (fun w hw=>c_affAdd _ V (pmul V.A P (lowI i 8)) (pmul V.A P (lowI j 8)) (padd V.A (pmul V.A P (lowI i 8)) (pmul V.A P (lowI j 8))) w h2 (hok.mul hPo _) (hok.mul hPo _) (rfl)) ?_))
  refine KA (KC rfl) (Nb rfl) ?_
  refine KA (Ka rfl rfl) (Nb rfl) ?_
  refine KA (Ka rfl rfl) (Nb rfl) ?_
  refine KI rfl (KS (KR (Ke zr_35) (Nb rfl) (fun b22=>?_)))
  refine KI rfl (KQ rfl rfl sz_35 (by exact Kn _ _ _) (by repeat (first|exact Sh _|apply St_)) (by exact KV _ _ _) ?_)
  refine KA (KF rfl) (Nb rfl) ?_
  refine KG ?_
  refine KD (KB ?_)
  refine KA (KC rfl) (Nb rfl) ?_
  refine KI rfl (KS (KP (first:=[]) rfl en_34 rfl (Nb rfl) (fun w hw=>c_tabPickN bt0 br0 cap0 rest0 V hok (mulE V P) 16 0 ((.inf:Pt V.p)) w (by decide) (by decide) (hw _ (by repeat (first|exact Mh _|apply Mt))) (hw _ (by repeat (first|exact Mh _|apply Mt))) (rfl)) ?_))
  refine KA (KC rfl) (Nb rfl) ?_
  refine KA (Ka rfl rfl) (Nb rfl) ?_
  refine KA (Ka rfl rfl) (Nb rfl) ?_
  refine KI rfl (KS (KR (Ke zr_35) (Nb rfl) (fun b24=>?_)))
  refine KI rfl (KQ rfl rfl sz_35 (by exact Kn _ _ _) (by repeat (first|exact Sh _|apply St_)) (by exact KV _ _ _) ?_)
  refine KA (KF rfl) (Nb rfl) ?_
  refine KG ?_
  refine KD (KB ?_)
  refine KA (KC rfl) (Nb rfl) ?_
  refine KI rfl (KS (KP (first:=[]) rfl en_33 rfl (Nb rfl) (fun w hw=>c_Num _ w) ?_))
  refine KA (KK (v:=.bool true) rfl rfl (br_t (KAc (b:=0)) (by first|rfl|assumption|omega|(simp; done)))) (Nb rfl) ?_
  refine KA (KC rfl) (Nb rfl) ?_
  refine KU rfl rfl (KC rfl) (Nb rfl) ?_
  refine KAS rfl rfl rfl (KS (KP (first:=[]) rfl en_33 rfl (Nb rfl) (fun w hw=>c_Num _ w) ?_))
  refine KU rfl rfl (KK (v:=.bool true) rfl rfl (br_t (KAc (b:=0)) (by first|rfl|assumption|omega|(simp; done)))) (Nb rfl) ?_
  refine KA (Kp rfl rfl) (Nb rfl) ?_
  refine KA (KC rfl) (Nb rfl) ?_
  refine KU rfl rfl (KC rfl) (Nb rfl) ?_
  refine KAS rfl rfl rfl (KS (KP (first:=[]) rfl en_33 rfl (Nb rfl) (fun w hw=>c_Num _ w) ?_))
  refine KU rfl rfl (KK (v:=.bool true) rfl rfl (br_t (KAc (b:=0)) (by first|rfl|assumption|omega|(simp; done)))) (Nb rfl) ?_
  refine KA (Kp rfl rfl) (Nb rfl) ?_
  refine KA (KC rfl) (Nb rfl) ?_
  refine KU rfl rfl (KC rfl) (Nb rfl) ?_
  refine KAS rfl rfl rfl (KS (KP (first:=[]) rfl en_33 rfl (Nb rfl) (fun w hw=>c_Num _ w) ?_))
  refine KU rfl rfl (KK (v:=.bool true) rfl rfl (br_t (KAc (b:=0)) (by first|rfl|assumption|omega|(simp; done)))) (Nb rfl) ?_
  refine KA (Kp rfl rfl) (Nb rfl) ?_
  refine KA (KC rfl) (Nb rfl) ?_
  refine KAi rfl rfl (KL rfl (by repeat (first|exact Mh _|apply Mt)) (by exact KO Try.underlying35 rfl sz_35)) (Nb rfl) ?_
  refine KAi rfl rfl (KL rfl (by repeat (first|exact Mh _|apply Mt)) (by exact KO Try.underlying35 rfl sz_35)) (Nb rfl) ?_
  refine KU rfl rfl (KT (Det.eqa (by kernel_rfl) (fun w=>eq_ptP_t hok (P:=padd V.A (pmul V.A P (lowI i 8)) (pmul V.A P (lowI j 8))) (Q:=pmul V.A P (lowI i 8+lowI j 8)) ((pmul_add hok.crv hPo _ _).symm) 10000 (by decide) w) rfl rfl) (show _ = Value.bool true by rfl)) (Nb rfl) ?_
  refine KA (Kp rfl rfl) (Nb rfl) ?_
  refine KA (KC rfl) (Nb rfl) ?_
  refine KAi rfl rfl (KL rfl (by repeat (first|exact Mh _|apply Mt)) (by exact KO Try.underlying35 rfl sz_35)) (Nb rfl) ?_
  refine KU rfl rfl (KT (KAQ pl_35 zr_35 rfl fill_ptInf) rfl) (Nb rfl) ?_
  refine KU rfl rfl (KT (Det.eqa (by kernel_rfl) (fun w=>eq_ptP_t hok (P:=(.inf:Pt V.p)) (Q:=(.inf:Pt V.p)) (rfl) 10000 (by decide) w) rfl rfl) (show _ = Value.bool true by rfl)) (Nb rfl) ?_
  refine KA (Kp rfl rfl) (Nb rfl) ?_
  refine KA (KF rfl) (Nb rfl) ?_
  refine KG (KX ?_)
  refine ⟨[_],.cons rfl .nil,fun a w' hr=>⟨?_,hr.fr.below⟩⟩
  rfl
end Go.Proofs.Ytlmiolnccgjjjaa
set_option maxRecDepth 100000
namespace Go.Proofs.Ytlmiolnccgjjjaa
open Go
def ioChars:List Char:=([104,97,114,110,101,115,115,32,51,100,97,51,56,97,97,97,101,50,102,56,55,53,98,101,100,56,56,57,99,51,57,97,102,97,100,99,99,98,102,50,102,97,48,49,100,55,56,97,101,50,48,102,97,99,53,57,102,57,56,48,52,102,53,99,98,98,56,100,52,97,97,98,32,99,117,116,32,97,116,32,99,117,114,118,101,116,47,99,117,114,118,101,116,108,97,119,49,54,46,84,97,98,108,101,83,105,122,101,115,32,99,117,114,118,101,116,47,99,117,114,118,101,116,108,97,119,49,54,46,84,97,98,108,101,78,105,108,32,99,117,114,118,101,116,47,99,117,114,118,101,116,108,97,119,50,49,46,83,101,99,49,115,32,99,117,114,118,101,116,47,99,117,114,118,101,116,108,97,119,50,49,46,83,101,99,49,66,97,99,107,32,99,117,114,118,101,116,47,99,117,114,118,101,116,108,97,119,50,49,46,83,101,99,49,84,105,110,121,32,99,117,114,118,101,116,47,99,117,114,118,101,116,108,97,119,50,49,46,83,101,99,49,66,111,116,104,32,99,117,114,118,101,116,47,99,117,114,118,101,116,108,97,119,50,49,46,83,101,99,49,76,101,110,103,116,104,115,32,99,117,114,118,101,116,47,99,117,114,118,101,116,108,97,119,50,49,46,83,101,99,49,87,104,111,108,101,32,99,117,114,118,101,116,47,99,117,114,118,101,116,108,97,119,50,49,46,83,101,99,49,71,114,101,97,116,32,99,117,114,118,101,116,47,99,117,114,118,101,116,108,97,119,49,54,46,84,97,98,108,101,115,32,99,117,114,118,101,116,47,99,117,114,118,101,116,108,97,119,49,57,46,66,97,115,101,115,32,99,117,114,118,101,116,47,99,117,114,118,101,116,108,97,119,49,57,46,66,97,115,101,78,105,108,32,99,117,114,118,101,116,47,99,117,114,118,101,116,108,97,119,49,54,46,84,97,98,108,101,66,108,105,110,100,32,99,117,114,118,101,116,47,99,117,114,118,101,116,108,97,119,49,54,46,84,97,98,108,101,83,117,109,115,32,99,117,114,118,101,116,47,99,117,114,118,101,116,108,97,119,49,56,46,77,117,108,116,115,32,99,117,114,118,101,116,47,99,117,114,118,101,116,108,97,119,49,56,46,77,117,108,116,69,110,100,115,32,99,117,114,118,101,116,47,99,117,114,118,101,116,108,97,119,49,56,46,77,117,108,116,84,119,105,99,101,32,99,117,114,118,101,116,47,99,117,114,118,101,116,108,97,119,49,56,46,77,117,108,116,84,105,110,121,32,99,117,114,118,101,116,47,99,117,114,118,101,116,108,97,119,49,57,46,66,97,115,101,84,117,114,110,115,32,99,117,114,118,101,116,47,99,117,114,118,101,116,108,97,119,49,56,46,77,117,108,116,66,108,105,110,100,32,99,117,114,118,101,116,47,99,117,114,118,101,116,108,97,119,49,57,46,66,97,115,101,83,116,101,112,115,32,99,117,114,118,101,116,47,99,117,114,118,101,116,108,97,119,49,57,46,66,97,115,101,66,108,105,110,100,32,99,117,114,118,101,116,47,99,117,114,118,101,116,108,97,119,49,56,46,77,117,108,116,65,100,100,115,32,99,117,114,118,101,116,47,99,117,114,118,101,116,108,97,119,50,48,46,68,117,97,108,65,108,111,110,101,32,99,117,114,118,101,116,47,99,117,114,118,101,116,108,97,119,50,53,46,69,99,100,104,65,103,114,101,101,115]:List Nat).map Char.ofNat
theorem io_lit:Try.prog.initOrder = String.ofList ioChars:=by kernel_rfl
theorem io_list:Try.prog.initOrder.toList = ioChars:=by rw [io_lit,String.toList_ofList]
def cutW:List Char:=([99,117,116]:List Nat).map Char.ofNat
def ioRest:List (List Char):=(wordsSigns ioChars).drop 3
theorem io_words:behindMainWord (wordsSigns ioChars) = cutW :: ioRest:=by kernel_rfl
theorem io_strip (r:List (List Char)):stripLifts liftWords (cutW :: r) = ([],cutW :: r):=by kernel_rfl
theorem no_later:Try.prog.laysLater = false:=by kernel_rfl
theorem no_reflect:Try.prog.bearsReflect = false:=by kernel_rfl
theorem door_fits:Try.prog.doorFits [] = true:=by kernel_rfl
theorem and2 {a b:Bool} (h:a = true) (k:b = true):(a && b) = true:=by rw [h,k]; rfl
theorem or_right {a b:Bool} (h:b = true):(a || b) = true:=by rw [h]; cases a <;> rfl
theorem cut_is : (cutW == "cut".toList) = true := by kernel_rfl
theorem cut_gc : (cutW == "gc".toList) = false := by kernel_rfl
theorem cut_spec : (cutW == "spec".toList) = false := by kernel_rfl
theorem cut_carried : (cutW == "carried".toList) = false := by kernel_rfl
theorem head_carried (r : List (List Char)) : ((cutW :: r).head? == some "carried".toList) = false := cut_carried
theorem enter_of (P:Program) {r:List (List Char)} (h:behindMainWord (wordsSigns P.initOrder.toList) = cutW :: r) (h1:P.laysLater = false) (h2:P.bearsReflect = false) (h3:P.doorFits [] = true):P.mayEnter = true:=by
  unfold Program.mayEnter
  rw [h]
  dsimp only
  refine or_right (and2 (and2 (and2 (and2 ?_ ?_) ?_) ?_) ?_)
  · rw [io_strip]; exact cut_is
  · rw [io_strip,h1]; rfl
  · rw [io_strip,h2]; rfl
  · rw [io_strip]; rfl
  · rw [io_strip]; exact h3
theorem lifts_of (P:Program) {r:List (List Char)} (h:behindMainWord (wordsSigns P.initOrder.toList) = cutW :: r):(false == P.liftsFinal) = true:=by
  have hl:P.headLifts = []:=by
    unfold Program.headLifts
    rw [h,io_strip]
    simp only [ite_self]
  unfold Program.liftsFinal
  rw [h,hl]
  dsimp only
  rw [head_carried,Bool.false_and]
  rfl
theorem make_of (P:Program) {r:List (List Char)} (h:behindMainWord (wordsSigns P.initOrder.toList) = cutW :: r):(P.make == some .cut) = true:=by
  have:P.make = some .cut:=by
    unfold Program.make
    rw [h]
    dsimp only
    rw [if_neg (by rw [cut_gc,cut_spec]; exact fun h=>by cases h),if_pos (by rw [cut_is]; rfl)]
  rw [this]; rfl
theorem io_all:behindMainWord (wordsSigns Try.prog.initOrder.toList) = cutW :: ioRest:=by rw [io_list,io_words]
theorem fact_enter:Try.prog.mayEnter = true:=enter_of _ io_all no_later no_reflect door_fits
theorem fact_lifts:(false == Try.prog.liftsFinal) = true:=lifts_of _ io_all
theorem fact_make:(Try.prog.make == some .cut) = true:=make_of _ io_all
theorem fact_laid:laidOutB Try.prog = true:=by kernel_rfl
theorem fact_maps:mapsRowed Try.prog = true:=by kernel_rfl
theorem fact_heard:Try.prog.stopsHeard = true:=by kernel_rfl
end Go.Proofs.Ytlmiolnccgjjjaa
set_option linter.unusedVariables false
set_option linter.unusedSimpArgs false
set_option maxRecDepth 20000
namespace Go.Proofs.Ytlmiolnccgjjjaa
open Go Go.RowKit
def evFp (q:TrRow):List Nat:=match q with
  | none=>[]
  | some r=>[r.1]
def evQ (q:TrRow) (l:List Nat) (w:World):Prop:=match q with
  | none=>l = []
  | some r=>w.heap[r.1]? = some (.cells (evsL l++r.2.2).toArray 83 (0,0))
def evI (q:TrRow) (l:List Nat):Item:=.own (evFp q) (evQ q l)
def evF (q:TrRow) (l:List Nat):Item:=.fact (evFp q) (evQ q l)
theorem evI_nil (w:World):(evI none []).holds w:=⟨fun k hk=>(by cases hk),fun _ _=>rfl⟩
theorem evI_of {b cap:Nat} {rest:List Value} {l:List Nat} {w:World} (h:w.heap[b]? = some (.cells (evsL l++rest).toArray 83 (0,0))):(evI (some (b,cap,rest)) l).holds w:=by
  refine ⟨fun k hk=>?_,fun w' ha=>(ha b (.head _)).trans h⟩
  obtain rfl:k = b:=by simpa [evFp] using hk
  exact lt_of_get h
theorem evI_P {q:TrRow} {l:List Nat} {w:World} (h:(evI q l).holds w):evQ q l w:=h.2 w (Agree.refl _ _)
theorem ev_at (l:List Nat) {i k:Nat} (h:l[i]? = some k):∃ post,evsL l = evsL (l.take i)++([.int .i64 ((2:Nat):Int),.int .i64 ((k:Nat):Int)]++post):=by
  induction l generalizing i with
  | nil=>simp at h
  | cons a l ih =>
    cases i with
    | zero =>
      obtain rfl:a = k:=by simpa using h
      exact ⟨evsL l,rfl⟩
    | succ i =>
      obtain ⟨post,hp⟩:=ih (i:=i) (by simpa using h)
      refine ⟨post,?_⟩
      show [Value.int .i64 ((2:Nat):Int),.int .i64 ((a:Nat):Int)]++evsL l = ([Value.int .i64 ((2:Nat):Int),.int .i64 ((a:Nat):Int)]++evsL (l.take i))++_
      rw [hp,List.append_assoc]
theorem evI_new {q:TrRow} {l:List Nat} {w w':World} (hb:Below w.heap.size w w') (h:(evI q l).holds w') (hn:∀ k,k∈evFp q→w.heap.size≤k):Brings w [] [evI q l] w' :=
  ⟨hb, fun x hx => (by obtain rfl : x = _ := by simpa using hx
                       exact h),fun x hx k hk=>.inl (by
    obtain rfl:x = _:=by simpa using hx
    exact hn k hk),fun x hx _ k hk=>(by
    obtain rfl:x = _:=by simpa using hx
    exact hn k hk),List.pairwise_singleton _ _⟩
theorem bringsC0 {P:Program} {f:FuncId} {a:Array Value} {w:World} {Q:Value→List Item→Prop} (h:Calls P f a w (fun e w'=>∃ v its,Q v its∧e = .returned v∧Brings w [] its w')) (H:List Item):Calls P f a w (fun e w'=>∃ v its,Q v its∧e = .returned v∧Brings w H its w') :=
  h.mono fun e w' ⟨v,its,h1,h2,h3⟩=>⟨v,its,h1,h2,h3.more (fun x hx=>by cases hx)⟩
theorem evsL_one:∀ l,AllOne (evsL l)
  | []=>fun c h=>by cases h
  | k :: l=>fun c h=>by
    have h':c = .int .i64 ((2:Nat):Int)∨c = .int .i64 ((k:Nat):Int)∨c∈evsL l:=by simpa [evsL] using h
    rcases h' with rfl|rfl|h'
    · rfl
    · rfl
    · exact evsL_one l c h'
theorem row_ev0:((Array.range (0*2)).map fun i=>(Value.agg ([.int .i64 ((0:Nat):Int),.int .i64 ((0:Nat):Int)]:List Value).toArray).cells[i%(Value.agg ([.int .i64 ((0:Nat):Int),.int .i64 ((0:Nat):Int)]:List Value).toArray).cells.size]!) = ([]:List Value).toArray:=by kernel_rfl
section
variable {P:Program} {C:Ctx} {d:Option Tmp} {ty:TypeId} {pos:String} {aft:Array Edge} {g:Option (Nat×Bool)} {st:St} {x y:Operand} {t e:TypeId}
theorem Det.indexSM {s i : Nat} {k : IntKind} {b o l c : Nat} (ht : P.underlying t = some (.slice e)) (he : szOf P e = some s) (hx : evT st.T x = some (.slice (some ⟨b, o, none⟩) l c)) (hy : evT st.T y = some (.int k (i : Int))) (h1 : i < l) :
    Slots P C ⟨d,.indexAddr t x y,ty,pos,aft,g⟩ st (.pointer (some ⟨b,o+i*s,none⟩)):=by
  have:=Det.indexSl (P:=P) (C:=C) (d:=d) (ty:=ty) (pos:=pos) (aft:=aft) (g:=g) (st:=st) ht he hx hy (by omega) (by omega)
  rwa [Int.toNat_natCast] at this
end
def evVal (k:Nat):Value:=.agg ([.int .i64 ((2:Nat):Int),.int .i64 ((k:Nat):Int)]:List Value).toArray
theorem ev_load {wr:Bool} {e:TypeId} {fz:Nat×Nat} (l:List Nat) {i k:Nat} (h:l[i]? = some k) (rest:List Value):LoadV Try.prog 83 ⟨wr,evsL l++rest,e,fz⟩ (0+i*2) (evVal k):=by
  obtain ⟨post,hp⟩:=ev_at l h
  have hi:i<l.length:=by
    rcases Nat.lt_or_ge i l.length with h'|h'
    · exact h'
    · rw [List.getElem?_eq_none h'] at h; cases h
  exact LoadV.mid (pre:=evsL (l.take i)) (cs:=[.int .i64 ((2:Nat):Int),.int .i64 ((k:Nat):Int)]) (post:=post++rest) Try.underlying83 rfl sz_83 (by show evsL l++rest = _; rw [hp]; simp only [List.append_assoc]) (by rw [evsL_length,List.length_take,Nat.min_eq_left (Nat.le_of_lt hi)]; omega) rfl
theorem eq_ev (x y:Nat):EqD 2 Try.prog 83 (evVal x) (evVal y) (decide (x = y)):=by
  have h:=EqD.struct (fs:=[_,_]) Try.underlying83 (by kernel_rfl) (EqFs.cons (by decide) (PartOf.one Try.underlying3 rfl (show ([.int .i64 ((2:Nat):Int),.int .i64 ((x:Nat):Int)]:List Value)[0]? = some _ from rfl)) (PartOf.one Try.underlying3 rfl (show ([.int .i64 ((2:Nat):Int),.int .i64 ((y:Nat):Int)]:List Value)[0]? = some _ from rfl)) (EqD.int Try.underlying3)
    (EqFs.cons (by decide) (PartOf.one Try.underlying3 rfl (show ([.int .i64 ((2:Nat):Int),.int .i64 ((x:Nat):Int)]:List Value)[1]? = some _ from rfl)) (PartOf.one Try.underlying3 rfl (show ([.int .i64 ((2:Nat):Int),.int .i64 ((y:Nat):Int)]:List Value)[1]? = some _ from rfl)) (EqD.int Try.underlying3) EqFs.nil))
  have e:((((2:Nat):Int) == ((2:Nat):Int)) && ((((x:Nat):Int) == ((y:Nat):Int)) && true)) = decide (x = y):=by
    rw [Bool.eq_iff_iff]; simp; omega
  rwa [e] at h
theorem eq_ev_t (x:Nat):EqD 2 Try.prog 83 (evVal x) (evVal x) true:=by
  have:=eq_ev x x
  rwa [decide_eq_true rfl] at this
theorem get_some {l:List Nat} {i:Nat} (h:i<l.length):∃ k,l[i]? = some k:=⟨l[i],List.getElem?_eq_getElem h⟩
theorem c_clone0  (w:World)  : Calls Try.prog 96 ([.slice none 0 0]:List Value).toArray w (fun e w'=>∃ v its,(fun v its=>∃ q,v = trSl q 0∧its = [evI q []]) v its∧e = .returned v∧Brings w [] its w'):=by
  refine Ky (N:=8) (rs:=[.tmp 2]) [] Try.func96 rfl Try.ntmps96 Try.results96 (Nb rfl) trivial rfl ?_
  show LCode _ _ _ ⟨_,_⟩ _
  refine KD (KB ?_)
  refine KA (KF rfl) (Nb rfl) ?_
  refine KG ?_
  refine KD ?_
  refine KD (KB ?_)
  refine KA (KC rfl) (Nb rfl) ?_
  refine KA (KT (Det.eqsl Try.underlying81 rfl rfl) (show _ = Value.bool true from rfl)) (Nb rfl) ?_
  refine KG ?_
  refine Kw rfl ?_
  refine KD (KB ?_)
  refine KA (KF rfl) (Nb rfl) ?_
  refine KG (KX ?_)
  exact ⟨[_],.cons rfl .nil,fun a w' hr=>⟨_,_,⟨none,rfl,rfl⟩,rfl,evI_new hr.fr.below (evI_nil _) (fun k hk=>by
    cases hk)⟩⟩
theorem c_clone1 (r cap:Nat) (rest:List Value) (l:List Nat) (w:World) (h1:(Item.blk r ⟨false,evsL l++rest,83,(0,0)⟩).holds w) (hl:l.length≤100000000):Calls Try.prog 96 ([.slice (some ⟨r,0,none⟩) l.length cap]:List Value).toArray w (fun e w'=>∃ v its,(fun v its=>∃ q,v = trSl q l.length∧its = [evI q l]) v its∧e = .returned v∧Brings w [] its w'):=by
  refine Ky (N:=8) (rs:=[.tmp 2]) [.blk r ⟨false,evsL l++rest,83,(0,0)⟩] Try.func96 rfl Try.ntmps96 Try.results96 (Nb rfl) ⟨h1,trivial⟩ rfl ?_
  show LCode _ _ _ ⟨_,_⟩ _
  refine KD (KB ?_)
  refine KA (KF rfl) (Nb rfl) ?_
  refine KG ?_
  refine KD ?_
  refine KD (KB ?_)
  refine KA (KC rfl) (Nb rfl) ?_
  refine KA (KT (Det.eqsl Try.underlying81 rfl rfl) (show _ = Value.bool false from rfl)) (Nb rfl) ?_
  refine KG ?_
  refine Kd rfl ?_
  refine Kf ?_
  refine KD (KB ?_)
  refine KI rfl (KS (KR (Makes.row (len:=0) (vs:=[]) (z0:=[]) (cs:=[]) Try.underlying81 inf_ev (by decide) row_ev0 rfl rfl (fun _=>rfl)) (Nb rfl) (fun b5=>?_)))
  refine KA (KC rfl) (Nb rfl) ?_
  refine KI rfl (LStepW.appendSM (s:=2) (n:=0) (cap:=0) (xs:=[]) (rest:=[]) (news:=evsL l) (more:=rest) rfl rfl Try.underlying81 inf_ev rfl (by repeat (first|exact Pick.head _|apply Pick.tail)) (by repeat (first|exact Mh _|apply Mt)) rfl rfl rfl (evsL_length l) (evsL_one l) (by omega) (by omega) (Nb rfl) ?_)
  intro b1 cap1 rest1 hc1
  refine KA (KF rfl) (Nb rfl) ?_
  refine KG (KX ?_)
  refine ⟨[_],.cons rfl .nil,fun a w' hr=>?_⟩
  have g:=hr.hp (.blk b1 ⟨true,([]++evsL l)++rest1,83,(0,0)⟩) (by repeat (first|exact Mh _|apply Mt))
  have n:=hr.new (b:=b1) (B:=⟨true,([]++evsL l)++rest1,83,(0,0)⟩) (by repeat (first|exact Mh _|apply Mt)) rfl
  rw [List.nil_append] at g
  exact ⟨_,_,⟨some (b1,cap1,rest1),by rw [Nat.zero_add]; rfl,rfl⟩,rfl,evI_new hr.fr.below (evI_of g) (fun k hk=>by
    obtain rfl:k = b1:=by simpa [evFp] using hk
    exact n)⟩
theorem c_clone (q:TrRow) (l:List Nat) (w:World) (h:(evI q l).holds w) (hl:l.length≤100000000):Calls Try.prog 96 ([trSl q l.length]:List Value).toArray w (fun e w'=>∃ v its,(fun v its=>∃ q,v = trSl q l.length∧its = [evI q l]) v its∧e = .returned v∧Brings w [] its w'):=by
  have hp:=evI_P h
  rcases q with _|⟨r,cap,rest⟩
  · obtain rfl:l = []:=hp
    exact c_clone0 w
  · exact c_clone1 r cap rest l w hp hl
theorem tr_ev {b:Nat} {r:TrRow} {l:List Nat} {w:World} (h:(trI (some b) r l).holds w):(evI r l).holds w:=by
  have hp:=trI_P h
  rcases r with _|⟨r,cap,rest⟩
  · obtain ⟨_,rfl⟩:=hp
    exact evI_nil w
  · exact evI_of hp.2.1
theorem tr_st {b:Nat} {r:TrRow} {l:List Nat} {w:World} (h:(trI (some b) r l).holds w):(Item.blk b ⟨false,[trSl r l.length],121,(0,0)⟩).holds w:=(trI_P h).1
theorem c_trEvents (b:Nat) (r:TrRow) (l:List Nat) (w:World) (h0:(trI (some b) r l).holds w) (hl:l.length≤100000000):Calls Try.prog 56 ([trV (some b)]:List Value).toArray w (fun e w'=>∃ v its,(fun v its=>∃ q,v = trSl q l.length∧its = [evI q l]) v its∧e = .returned v∧Brings w [] its w'):=by
  refine Ky (N:=10) (rs:=[.tmp 2]) [.blk b ⟨false,[trSl r l.length],121,(0,0)⟩,evF r l] Try.func56 rfl Try.ntmps56 Try.results56 (Nb rfl) ⟨tr_st h0,tr_ev h0,trivial⟩ rfl ?_
  show LCode _ _ _ ⟨_,_⟩ _
  refine KD (KB ?_)
  refine KA (KF rfl) (Nb rfl) ?_
  refine KG ?_
  refine KD ?_
  refine KD (KB ?_)
  refine KA (KC rfl) (Nb rfl) ?_
  refine KA (KT (Det.eqp Try.underlying49 rfl rfl) (show _ = Value.bool false from rfl)) (Nb rfl) ?_
  refine KG ?_
  refine Kd rfl ?_
  refine Kf ?_
  refine KD (KB ?_)
  refine KA (KC rfl) (Nb rfl) ?_
  refine KA (Kc rfl) (Nb rfl) ?_
  refine KA (KM (o':=0) Try.underlying121 rfl rfl rfl sz_81 (by decide)) (Nb rfl) ?_
  refine LOps.det (KL rfl (by repeat (first|exact Mh _|apply Mt)) (Kb Try.underlying81 rfl (by rfl))) (Nb rfl) ?_
  refine KI rfl (KS (KAb (first:=[]) rfl en_96 rfl (Nb rfl) (fun w hw=>bringsC0 (c_clone r l w (show (evF r l).holds w from hw _ (by repeat (first|exact Mh _|apply Mt))) hl) _) ?_))
  rintro _ _ ⟨q,rfl,rfl⟩
  refine KA (KF rfl) (Nb rfl) ?_
  refine KG (KX ?_)
  exact ⟨[_],.cons rfl .nil,fun a w' hr=>⟨_,_,⟨q,rfl,rfl⟩,rfl,evI_new hr.fr.below (hr.hp (evI q l) (by repeat (first|exact Mh _|apply Mt))) (fun k hk=>(hr.own (evI q l) (by repeat (first|exact Mh _|apply Mt)) rfl k hk).elim (fun h=>h) (fun h=>h.elim))⟩⟩
theorem c_equal1 (r1 c1 r2 c2:Nat) (t1 t2:List Value) (l:List Nat) (w:World) (h1:(Item.blk r1 ⟨false,evsL l++t1,83,(0,0)⟩).holds w) (h2:(Item.blk r2 ⟨false,evsL l++t2,83,(0,0)⟩).holds w) (hl:l.length≤100000000):Calls Try.prog 100 ([.slice (some ⟨r1,0,none⟩) l.length c1,.slice (some ⟨r2,0,none⟩) l.length c2]:List Value).toArray w (fun e w'=>e = .returned (.bool true)∧Below w.heap.size w w'):=by
  refine Ky (N:=26) (rs:=[.tmp 4]) [.blk r1 ⟨false,evsL l++t1,83,(0,0)⟩,.blk r2 ⟨false,evsL l++t2,83,(0,0)⟩] Try.func100 rfl Try.ntmps100 Try.results100 (Nb rfl) ⟨h1,h2,trivial⟩ rfl ?_
  show LCode _ _ _ ⟨_,_⟩ _
  refine KD (KB ?_)
  refine KA (KF rfl) (Nb rfl) ?_
  refine KG ?_
  refine KD ?_
  refine KD (KB ?_)
  refine KA (KC rfl) (Nb rfl) ?_
  refine KA (KAX Try.underlying81 rfl) (Nb rfl) ?_
  refine KA (KC rfl) (Nb rfl) ?_
  refine KA (KAX Try.underlying81 rfl) (Nb rfl) ?_
  refine KA (KK (v:=.bool false) rfl rfl (br_f br_neq (fun e=>e rfl))) (Nb rfl) ?_
  refine KG ?_
  refine Kd rfl ?_
  refine Kf ?_
  refine KD ?_
  refine KD (KB ?_)
  refine KA (KC rfl) (Nb rfl) ?_
  refine KA (KAX Try.underlying81 rfl) (Nb rfl) ?_
  refine KA (KC (v:=.int .i64 ((0:Nat):Int)) rfl) (Nb rfl) ?_
  refine KG ?_
  refine LCode.block ?_
  refine KAN (α:=Nat) (fun x=>x≤l.length) (fun x=>⟨[(0,.slice (some ⟨r1,0,none⟩) l.length c1),(1,.slice (some ⟨r2,0,none⟩) l.length c2),(13,.int .i64 ((x:Nat):Int)),(12,.int .i64 ((l.length:Nat):Int))],[.blk r1 ⟨false,evsL l++t1,83,(0,0)⟩,.blk r2 ⟨false,evsL l++t2,83,(0,0)⟩]⟩) (fun x=>l.length-x) (0) (Nat.zero_le _) (KAG ⟨rfl,rfl,rfl,rfl,trivial⟩ (by repeat (first|exact Sel.nil _|refine Sel.cons (by repeat (first|exact Ph _|apply Pt_)) ?_))) ?_
  intro x hx
  refine KD (KB ?_)
  refine KA (KK rfl rfl (KAp)) (Nb rfl) ?_
  refine KG ?_
  refine KD ?_
  first|refine Kh rfl (fun h14=>?_) (fun h14=>?_)|refine Kj rfl (fun h14=>?_) (fun h14=>?_)
  ·
    have h14:x<l.length:=h14
    obtain ⟨k,hk⟩:=get_some h14
    refine Kf ?_
    refine KD ?_
    refine LCode.block ?_
    refine KD (KB ?_)
    refine KA (KC rfl) (Nb rfl) ?_
    refine KA (KF rfl) (Nb rfl) ?_
    refine KG ?_
    refine KD ?_
    refine Kg [] (by kernel_rfl) ?_
    refine KE 0 rfl (by kernel_rfl) (Nb rfl) (KC rfl) ?_
    refine KE 1 rfl (by kernel_rfl) (Nb rfl) (KC rfl) ?_
    refine KE 2 rfl (by kernel_rfl) (Nb rfl) (Det.indexSM Try.underlying81 sz_83 rfl rfl h14) ?_
    refine LAny.take 3 rfl (by kernel_rfl) (Nb rfl) (KL rfl (by repeat (first|exact Mh _|apply Mt)) (by exact ev_load l hk _)) ?_
    refine KE 4 rfl (by kernel_rfl) (Nb rfl) (KC rfl) ?_
    refine KE 5 rfl (by kernel_rfl) (Nb rfl) (KC rfl) ?_
    refine KE 6 rfl (by kernel_rfl) (Nb rfl) (Det.indexSM Try.underlying81 sz_83 rfl rfl h14) ?_
    refine LAny.take 7 rfl (by kernel_rfl) (Nb rfl) (KL rfl (by repeat (first|exact Mh _|apply Mt)) (by exact ev_load l hk _)) ?_
    refine KE 8 rfl (by kernel_rfl) (Nb rfl) (KT (Det.nea (by kernel_rfl) (fun w=>eq_ev_t k 10000 (by decide) w) rfl rfl) (show _ = Value.bool false by rfl)) ?_
    refine Ko (by kernel_rfl) ?_
    refine Kd rfl ?_
    refine Kf ?_
    refine KB ?_
    refine KA (KK rfl rfl (KAL (b:=1) (by omega))) (Nb rfl) ?_
    refine KA (KC rfl) (Nb rfl) ?_
    refine KG ?_
    exact ⟨x+1,by omega,by omega,KAG ⟨rfl,rfl,rfl,rfl,trivial⟩ (by repeat (first|exact Sel.nil _|refine Sel.cons (by repeat (first|exact Ph _|apply Pt_)) ?_))⟩
  ·
    have h14:¬ x<l.length:=h14
    refine KAH ?_
    refine KD (KB ?_)
    refine KA (KF rfl) (Nb rfl) ?_
    refine KG (KX ?_)
    exact ⟨[_],.cons rfl .nil,fun a w' hr=>⟨rfl,hr.fr.below⟩⟩
theorem c_equal0 (c1 c2:Nat) (p1 p2:Option Addr) (w:World)  : Calls Try.prog 100 ([.slice p1 0 c1,.slice p2 0 c2]:List Value).toArray w (fun e w'=>e = .returned (.bool true)∧Below w.heap.size w w'):=by
  refine Ky (N:=26) (rs:=[.tmp 4]) [] Try.func100 rfl Try.ntmps100 Try.results100 (Nb rfl) trivial rfl ?_
  show LCode _ _ _ ⟨_,_⟩ _
  refine KD (KB ?_)
  refine KA (KF rfl) (Nb rfl) ?_
  refine KG ?_
  refine KD ?_
  refine KD (KB ?_)
  refine KA (KC rfl) (Nb rfl) ?_
  refine KA (KAX Try.underlying81 rfl) (Nb rfl) ?_
  refine KA (KC rfl) (Nb rfl) ?_
  refine KA (KAX Try.underlying81 rfl) (Nb rfl) ?_
  refine KA (KK (v:=.bool false) rfl rfl (br_f br_neq (fun e=>e rfl))) (Nb rfl) ?_
  refine KG ?_
  refine Kd rfl ?_
  refine Kf ?_
  refine KD ?_
  refine KD (KB ?_)
  refine KA (KC rfl) (Nb rfl) ?_
  refine KA (KAX Try.underlying81 rfl) (Nb rfl) ?_
  refine KA (KC (v:=.int .i64 ((0:Nat):Int)) rfl) (Nb rfl) ?_
  refine KG ?_
  refine LCode.block ?_
  refine KAN (α:=Nat) (fun x=>x≤0) (fun x=>⟨[(0,.slice p1 0 c1),(1,.slice p2 0 c2),(13,.int .i64 ((x:Nat):Int)),(12,.int .i64 ((0:Nat):Int))],[]⟩) (fun x=>0-x) (0) (Nat.zero_le _) (KAG ⟨rfl,rfl,rfl,rfl,trivial⟩ (by repeat (first|exact Sel.nil _|refine Sel.cons (by repeat (first|exact Ph _|apply Pt_)) ?_))) ?_
  intro x hx
  refine KD (KB ?_)
  refine KA (KK (v:=.bool false) rfl rfl (br_f KAp (by omega))) (Nb rfl) ?_
  refine KG ?_
  refine KD ?_
  refine Kd rfl ?_
  refine KAH ?_
  refine KD (KB ?_)
  refine KA (KF rfl) (Nb rfl) ?_
  refine KG (KX ?_)
  exact ⟨[_],.cons rfl .nil,fun a w' hr=>⟨rfl,hr.fr.below⟩⟩
theorem c_equal (q1 q2:TrRow) (l:List Nat) (w:World) (h1:(evI q1 l).holds w) (h2:(evI q2 l).holds w) (hl:l.length≤100000000):Calls Try.prog 100 ([trSl q1 l.length,trSl q2 l.length]:List Value).toArray w (fun e w'=>e = .returned (.bool true)∧Below w.heap.size w w'):=by
  have g1:=evI_P h1
  have g2:=evI_P h2
  rcases q1 with _|⟨r1,k1,t1⟩
  · obtain rfl:l = []:=g1
    rcases q2 with _|⟨r2,k2,t2⟩
    · exact c_equal0 0 0 none none w
    · exact c_equal0 0 k2 none (some ⟨r2,0,none⟩) w
  · rcases q2 with _|⟨r2,k2,t2⟩
    · obtain rfl:l = []:=g2
      exact c_equal0 k1 0 (some ⟨r1,0,none⟩) none w
    · exact c_equal1 r1 k1 r2 k2 t1 t2 l w g1 g2 hl
end Go.Proofs.Ytlmiolnccgjjjaa
set_option linter.unusedVariables false
set_option linter.unusedSimpArgs false
set_option maxRecDepth 20000
namespace Go.Proofs.Ytlmiolnccgjjjaa
open Go Go.RowKit
open Grp
theorem c_trSame (q1 q2:TrRow) (l:List Nat) (w:World) (h1:(evI q1 l).holds w) (h2:(evI q2 l).holds w) (hl:l.length≤100000000):Calls Try.prog 61 ([trSl q1 l.length,trSl q2 l.length]:List Value).toArray w (fun e w'=>e = .returned (.bool true)∧Below w.heap.size w w'):=by
  refine Ky (N:=8) (rs:=[.tmp 4]) [evF q1 l,evF q2 l] Try.func61 rfl Try.ntmps61 Try.results61 (Nb rfl) ⟨h1,h2,trivial⟩ rfl ?_
  show LCode _ _ _ ⟨_,_⟩ _
  refine KD (KB ?_)
  refine KA (KF rfl) (Nb rfl) ?_
  refine KG ?_
  refine KD (KB ?_)
  refine KA (KC rfl) (Nb rfl) ?_
  refine KA (KC rfl) (Nb rfl) ?_
  refine KI rfl (KS (KP (first:=[]) rfl en_100 rfl (Nb rfl) (fun w hw=>c_equal q1 q2 l w (show (evF q1 l).holds w from hw _ (by repeat (first|exact Mh _|apply Mt))) (show (evF q2 l).holds w from hw _ (by repeat (first|exact Mh _|apply Mt))) hl) ?_))
  refine KA (KF rfl) (Nb rfl) ?_
  refine KG (KX ?_)
  refine ⟨[_],.cons rfl .nil,fun a w' hr=>⟨?_,hr.fr.below⟩⟩
  rfl
theorem c_TableBlind (id n i j:Int) (w:World)  : Calls Try.prog 15 ([.int .i64 id,.int .i64 n,.int .i64 i,.int .i64 j]:List Value).toArray w (fun e w'=>e = .returned (.bool true)∧Below w.heap.size w w'):=by
  obtain ⟨V,h⟩:=cvI_idx id
  obtain ⟨hok,hid⟩:=cvI_ok h
  have h2:=cvI_id h
  obtain ⟨hb5,hb521,hba,hbb,hbx,hby,hbn,hbo,hbo2,hbb1,hbn1⟩:=hok.bounds
  have hsz:=hok.sz
  have hsp:=hsz.p
  have hsa:=hsz.a
  have hsb:=hsz.b
  have hp0:V.p≠0:=by omega
  have hpp:0<V.p:=by omega
  have hm17:∀ k,D.nw (k%V.p)≤17:=fun k=>Nat.le_trans (D.nw_mono (Nat.le_of_lt (Nat.mod_lt k hpp))) hsp
  have hpW:V.p<W9:=w9_521 hb521
  have hnW:V.n<W9:=w9_521 hbn
  have hxW:=Nat.lt_trans hbx hpW
  have hyW:=Nat.lt_trans hby hpW
  have hsn:=hsz.n
  have h17:∀ {A:Nat},A<V.p→D.nw A≤100000:=fun h=>Nat.le_trans (nw_521 (Nat.lt_trans h hb521)) (by decide)
  have hlw:=lowI_lt n (show 0<16 by decide)
  obtain ⟨N,hN⟩:∃ N,1+lowI n 16 = N:=⟨_,rfl⟩
  have hmi:=Nat.mod_lt (uidx i) (show 0<N by omega)
  have hmj:=Nat.mod_lt (uidx j) (show 0<N by omega)
  refine Ky (N:=98) (rs:=[.tmp 8]) [] Try.func15 rfl Try.ntmps15 Try.results15 (Nb rfl) trivial rfl ?_
  show LCode _ _ _ ⟨_,_⟩ _
  refine KD (KB ?_)
  refine KA (KF rfl) (Nb rfl) ?_
  refine KG ?_
  refine KD ?_
  refine KD (KB ?_)
  refine KI rfl (KS (KP (first:=[]) rfl en_28 rfl (Nb rfl) (fun w hw=>c_awake16 w) ?_))
  refine KA (KT (Det.not rfl) (show _ = Value.bool false from rfl)) (Nb rfl) ?_
  refine KG ?_
  refine Kd rfl ?_
  refine Kf ?_
  refine KD (KB ?_)
  refine KA (KC rfl) (Nb rfl) ?_
  refine KA (KT (Det.conv Try.underlying3 Try.underlying29 rfl) (uidx_eq _)) (Nb rfl) ?_
  refine KA (KK rfl rfl (br_rem64 (b:=15) (by omega))) (Nb rfl) ?_
  refine KA (Det.convi Try.underlying29 Try.underlying3 rfl (by omega)) (Nb rfl) ?_
  refine KA (KK rfl rfl (KAL (a:=1) (by omega))) (Nb rfl) ?_
  refine KI rfl (KS (Kx (Post:=fun v its=>∃ Q,v = .tuple #[.agg (crvL Q V).toArray,.bool true]∧its = [crvI Q V]) (first:=[]) rfl en_29 rfl (Nb rfl) (fun w1 hw hs=>(c_r_Get _ V w1 h).mono fun e w' ⟨Q,h1,h2,h3,h4⟩=>⟨_,_,⟨Q,rfl,rfl⟩,h1,Brings.nums h4 (by intro x hx; simp at hx; subst hx; exact h2) (by intro x hx; simp at hx; subst hx; rfl) (by intro x hx k hk; simp at hx; subst hx; exact .inl (h3 k hk))⟩) ?_))
  rintro _ _ ⟨Q,rfl,rfl⟩
  refine KA (KC rfl) (Nb rfl) ?_
  refine KA (Ka rfl rfl) (Nb rfl) ?_
  refine KA (Ka rfl rfl) (Nb rfl) ?_
  refine KI rfl (KS (KR (Ke zr_26) (Nb rfl) (fun b9=>?_)))
  refine KI rfl (KQ rfl rfl sz_26 (by repeat (first|exact KY|refine KW rfl ?_)) (by repeat (first|exact Sh _|apply St_)) (by rfl) ?_)
  refine KA (KF rfl) (Nb rfl) ?_
  refine KG ?_
  refine KD (KB ?_)
  refine KA (KC rfl) (Nb rfl) ?_
  refine KA (KK rfl rfl (br_and15 _)) (Nb rfl) ?_
  refine KA (KT (KK rfl rfl (KAL (a:=1) (by omega))) (vi (b:=N) hN)) (Nb rfl) ?_
  refine KA (KF rfl) (Nb rfl) ?_
  refine KG ?_
  refine KD ?_
  refine Kg [] (by kernel_rfl) ?_
  refine KE 0 rfl (by kernel_rfl) (Nb rfl) (KM (o':=0) Try.underlying26 rfl rfl rfl sz_3 (by decide)) ?_
  refine LAny.take 1 rfl (by kernel_rfl) (Nb rfl) (KL rfl (by repeat (first|exact Mh _|apply Mt)) (Kb Try.underlying3 rfl (by first|rfl|exact Ku _ _ _ (by omega)|exact Ks _ (by omega)|exact Kq _ (by omega)|exact dv_m _ _ _ (by omega)))) ?_
  refine LAny.take 2 rfl (by kernel_rfl) (Nb rfl) (KL rfl (by repeat (first|exact Mh _|apply Mt)) (by exact KO Try.underlying26 rfl sz_26)) ?_
  refine KE 5 rfl (by kernel_rfl) (Nb rfl) (KC rfl) ?_
  refine Kt 3 rfl rfl (by kernel_rfl) (Kx (first:=[]) rfl en_31 rfl (Nb rfl) (fun w hw hs=>(c_r_GP Q V w (hw _ (by repeat (first|exact Mh _|apply Mt))) hok).mono fun e w' h=>Num2R.q (Old.one (x:=crvI Q V) (by repeat (first|exact Mh _|apply Mt)) rfl) hs h) ?_)
  rintro _ _ ⟨qga,qgb,rfl,rfl,hnga,hngb⟩
  refine Kt 4 rfl rfl (by kernel_rfl) (KP (first:=[]) rfl en_30 rfl (Nb rfl) (fun w hw=>c_r_OutP V qga qgb (V.G) w (hw _ (by repeat (first|exact Mh _|apply Mt))) (hw _ (by repeat (first|exact Mh _|apply Mt)))) ?_)
  refine Kt 6 rfl rfl (by kernel_rfl) (KAb (first:=[]) rfl en_32 rfl (Nb rfl) (fun w hw=>bringsC (c_tabNew _ V (V.G) N w h2 hok.on (by omega) (by omega)) _) ?_)
  rintro _ _ ⟨bt0,br0,cap0,rest0,rfl,rfl⟩
  refine KE 7 rfl (by kernel_rfl) (Nb rfl) (KC rfl) ?_
  refine KE 8 rfl (by kernel_rfl) (Nb rfl) (Ka rfl rfl) ?_
  refine KE 9 rfl (by kernel_rfl) (Nb rfl) (Ka rfl rfl) ?_
  refine KE 10 rfl (by kernel_rfl) (Nb rfl) (KF rfl) ?_
  refine KE 11 rfl (by kernel_rfl) (Nb rfl) (KF rfl) ?_
  refine Ko (by kernel_rfl) ?_
  refine KD ?_
  refine KD (KB ?_)
  refine KA (KC rfl) (Nb rfl) ?_
  refine KA (KT (Det.not rfl) (show _ = Value.bool false from rfl)) (Nb rfl) ?_
  refine KA (KC rfl) (Nb rfl) ?_
  refine KU rfl rfl (KC rfl) (Nb rfl) ?_
  refine KAS rfl rfl rfl (KS (KP (first:=[]) rfl en_33 rfl (Nb rfl) (fun w hw=>c_Num _ w) ?_))
  refine KU rfl rfl (KK (v:=.bool false) rfl rfl (br_f (br_neq (b:=0)) (by first|exact (fun e=>e rfl)|(simp; done)|omega))) (Nb rfl) ?_
  refine KA (KAC rfl rfl) (Nb rfl) ?_
  refine KG ?_
  refine Kd rfl ?_
  refine Kf ?_
  refine KD (KB ?_)
  refine KI rfl (KS (KAb (first:=[]) rfl en_36 rfl (Nb rfl) (fun w hw=>bringsC (c_trNew w) _) ?_))
  rintro _ _ ⟨tba,rfl,rfl⟩
  refine KI rfl (KS (KAb (first:=[]) rfl en_36 rfl (Nb rfl) (fun w hw=>bringsC (c_trNew w) _) ?_))
  rintro _ _ ⟨tbb,rfl,rfl⟩
  refine KA (KF rfl) (Nb rfl) ?_
  refine KA (KF rfl) (Nb rfl) ?_
  refine KG ?_
  refine KD (KB ?_)
  refine KA (KC rfl) (Nb rfl) ?_
  refine KA (KC rfl) (Nb rfl) ?_
  refine KA (KC rfl) (Nb rfl) ?_
  refine KA (KT (Det.conv Try.underlying3 Try.underlying29 rfl) (uidx_eq _)) (Nb rfl) ?_
  refine KA (KC rfl) (Nb rfl) ?_
  refine KA (KAW Try.underlying3 Try.underlying29 rfl (by omega)) (Nb rfl) ?_
  refine KA (KK rfl rfl (br_rem64 (by omega))) (Nb rfl) ?_
  refine KA (Det.convi Try.underlying29 Try.underlying3 rfl (by omega)) (Nb rfl) ?_
  refine KI rfl (LStepW.callT (first:=[]) (b:=some tba) (r:=none) (l:=[]) (l':=[]++List.range N) rfl en_34 rfl (Nb rfl) (by repeat (first|exact Pick.head _|apply Pick.tail)) (fun w hw hn=>c_tabPick (some tba) none ([]) bt0 br0 cap0 rest0 V hok (mulE V V.G) N (uidx i%N) hmi (by omega) w (hw _ (by repeat (first|exact Mh _|apply Mt))) (hw _ (by repeat (first|exact Mh _|apply Mt))) (hw _ (by repeat (first|exact Mh _|apply Mt))) (hn _ (by repeat (first|exact Mh _|apply Mt))) (hn _ (by repeat (first|exact Mh _|apply Mt))) (by simp)) ?_)
  intro ra
  refine KA (KC rfl) (Nb rfl) ?_
  refine KA (Ka rfl rfl) (Nb rfl) ?_
  refine KA (Ka rfl rfl) (Nb rfl) ?_
  refine KI rfl (KS (KR (Ke zr_35) (Nb rfl) (fun b16=>?_)))
  refine KI rfl (KQ rfl rfl sz_35 (by exact Kn _ _ _) (by repeat (first|exact Sh _|apply St_)) (by exact KV _ _ _) ?_)
  refine KA (KF rfl) (Nb rfl) ?_
  refine KG ?_
  refine KD (KB ?_)
  refine KA (KC rfl) (Nb rfl) ?_
  refine KA (KC rfl) (Nb rfl) ?_
  refine KA (KC rfl) (Nb rfl) ?_
  refine KA (KT (Det.conv Try.underlying3 Try.underlying29 rfl) (uidx_eq _)) (Nb rfl) ?_
  refine KA (KC rfl) (Nb rfl) ?_
  refine KA (KAW Try.underlying3 Try.underlying29 rfl (by omega)) (Nb rfl) ?_
  refine KA (KK rfl rfl (br_rem64 (by omega))) (Nb rfl) ?_
  refine KA (Det.convi Try.underlying29 Try.underlying3 rfl (by omega)) (Nb rfl) ?_
  refine KI rfl (LStepW.callT (first:=[]) (b:=some tbb) (r:=none) (l:=[]) (l':=[]++List.range N) rfl en_34 rfl (Nb rfl) (by repeat (first|exact Pick.head _|apply Pick.tail)) (fun w hw hn=>c_tabPick (some tbb) none ([]) bt0 br0 cap0 rest0 V hok (mulE V V.G) N (uidx j%N) hmj (by omega) w (hw _ (by repeat (first|exact Mh _|apply Mt))) (hw _ (by repeat (first|exact Mh _|apply Mt))) (hw _ (by repeat (first|exact Mh _|apply Mt))) (hn _ (by repeat (first|exact Mh _|apply Mt))) (hn _ (by repeat (first|exact Mh _|apply Mt))) (by simp)) ?_)
  intro rb
  refine KA (KC rfl) (Nb rfl) ?_
  refine KA (Ka rfl rfl) (Nb rfl) ?_
  refine KA (Ka rfl rfl) (Nb rfl) ?_
  refine KI rfl (KS (KR (Ke zr_35) (Nb rfl) (fun b18=>?_)))
  refine KI rfl (KQ rfl rfl sz_35 (by exact Kn _ _ _) (by repeat (first|exact Sh _|apply St_)) (by exact KV _ _ _) ?_)
  refine KA (KF rfl) (Nb rfl) ?_
  refine KG ?_
  refine KD (KB ?_)
  refine KA (KC rfl) (Nb rfl) ?_
  refine KI rfl (KS (KP (first:=[]) rfl en_33 rfl (Nb rfl) (fun w hw=>c_Num _ w) ?_))
  refine KA (KK (v:=.bool true) rfl rfl (br_t (KAc (b:=0)) (by first|rfl|assumption|omega|(simp; done)))) (Nb rfl) ?_
  refine KA (KC rfl) (Nb rfl) ?_
  refine KU rfl rfl (KC rfl) (Nb rfl) ?_
  refine KAS rfl rfl rfl (KS (KP (first:=[]) rfl en_33 rfl (Nb rfl) (fun w hw=>c_Num _ w) ?_))
  refine KU rfl rfl (KK (v:=.bool true) rfl rfl (br_t (KAc (b:=0)) (by first|rfl|assumption|omega|(simp; done)))) (Nb rfl) ?_
  refine KA (Kp rfl rfl) (Nb rfl) ?_
  refine KA (KC rfl) (Nb rfl) ?_
  refine KU rfl rfl (KC rfl) (Nb rfl) ?_
  refine KAS rfl rfl rfl (KS (KAb (first:=[]) rfl en_56 rfl (Nb rfl) (fun w hw=>bringsC (c_trEvents tba ra ([]++List.range N) w (hw _ (by repeat (first|exact Mh _|apply Mt))) (by simp; omega)) _) ?_))
  rintro _ _ ⟨qa,rfl,rfl⟩
  refine KU rfl rfl (KC rfl) (Nb rfl) ?_
  refine KAS rfl rfl rfl (KS (KAb (first:=[]) rfl en_56 rfl (Nb rfl) (fun w hw=>bringsC (c_trEvents tbb rb ([]++List.range N) w (hw _ (by repeat (first|exact Mh _|apply Mt))) (by simp; omega)) _) ?_))
  rintro _ _ ⟨qb,rfl,rfl⟩
  refine KAS rfl rfl rfl (KS (KP (first:=[]) rfl en_61 rfl (Nb rfl) (fun w hw=>c_trSame qa qb ([]++List.range N) w (hw _ (by repeat (first|exact Mh _|apply Mt))) (hw _ (by repeat (first|exact Mh _|apply Mt))) (by simp; omega)) ?_))
  refine KA (Kp rfl rfl) (Nb rfl) ?_
  refine KA (KC rfl) (Nb rfl) ?_
  refine KU rfl rfl (KC rfl) (Nb rfl) ?_
  refine KAS rfl rfl rfl (KS (KP (first:=[]) rfl en_37 rfl (Nb rfl) (fun w hw=>c_trLen tba ra ([]++List.range N) w (hw _ (by repeat (first|exact Mh _|apply Mt)))) ?_))
  refine KU rfl rfl (KC rfl) (Nb rfl) ?_
  refine KU rfl rfl (KK (v:=.bool true) rfl rfl (br_t KAc (by simp))) (Nb rfl) ?_
  refine KA (Kp rfl rfl) (Nb rfl) ?_
  refine KA (KF rfl) (Nb rfl) ?_
  refine KG (KX ?_)
  refine ⟨[_],.cons rfl .nil,fun a w' hr=>⟨?_,hr.fr.below⟩⟩
  rfl
end Go.Proofs.Ytlmiolnccgjjjaa
