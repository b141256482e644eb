/- Part 5 of what the proof leans on: a symbolic execution of the model, walks of the program's functions, and the mathematics. No condition. -/
import Derived.WalkKit
import Derived.Orders
import Derived.Laws.StructEq
import Derived.WalkSpells
import Derived.OrdersHeld
import Derived.KernelRfl
import Derived.Laws.Externs
import Derived.Laws.Bits64
import Derived.Laws.MakeOwn
import Derived.Laws.BytesString
import Derived.Carry
import Derived.WideShapes
import GoSem.Claim
import Derived.Test.YtnpeokiboiclfaaGreatProg
import Derived.Laws.AppendOwn
import Derived.Deep.Upon
import Derived.Shelf.Strings.Repeat
import Derived.Ground.NamesProg
import Derived.Lib.Agree
import Derived.Lib.ConvBytes
import Derived.Laws.CopyRow
import Derived.Test.YtnpeokiboiclfaaGreatRows
import Derived.ProofKit
import Derived.OpenShut
import Derived.SizedLaws
import Derived.ChangeMaps5
import Derived.Test.YtnpeokiboiclfaaGreatM4
set_option linter.unusedVariables false
set_option linter.unusedSimpArgs false
set_option maxRecDepth 20000
namespace Go.Proofs.YtnpeokiboiclfaaGreat
open Go Go.RowKit
def p256:Hp:=⟨32,4294967296,4,64,6,11,25,2,13,22,7,18,3,17,19,10,[1116352408,1899447441,3049323471,3921009573,961987163,1508970993,2453635748,2870763221,3624381080,310598401,607225278,1426881987,1925078388,2162078206,2614888103,3248222580,3835390401,4022224774,264347078,604807628,770255983,1249150122,1555081692,1996064986,2554220882,2821834349,2952996808,3210313671,3336571891,3584528711,113926993,338241895,666307205,773529912,1294757372,1396182291,1695183700,1986661051,2177026350,2456956037,2730485921,2820302411,3259730800,3345764771,3516065817,3600352804,4094571909,275423344,430227734,506948616,659060556,883997877,958139571,1322822218,1537002063,1747873779,1955562222,2024104815,2227730452,2361852424,2428436474,2756734187,3204031479,3329325298],64⟩
def iv224:S8:=⟨3238371032,914150663,812702999,4144912697,4290775857,1750603025,1694076839,3204075428⟩
def iv256:S8:=⟨1779033703,3144134277,1013904242,2773480762,1359893119,2600822924,528734635,1541459225⟩
theorem c_rl32 (x k:Nat) (hk:0<k) (hk2:k<32) (w:World)  : Calls Tryz.prog 232 ([.int .u32 ((x:Nat):Int),.int .i64 (-(k:Int))]:List Value).toArray w (fun e w'=>e = .returned (.int .u32 ((p256.rot x k:Nat):Int))∧Below w.heap.size w w'):=by
  refine KX (N:=17) (rs:=[.tmp 4]) [] Tryz.func232 rfl Tryz.ntmps232 Tryz.results232 (Nb rfl) trivial rfl ?_
  refine KB (KA ?_);refine oP (KO (v:=.int .u32 ((0:Nat):Int)) rfl) ?_;refine KC (KB (KA (oM ?_)));refine oP (KK (Det.conv u3 u56 rfl) (show _ = .int .u64 ((18446744073709551616-k:Nat):Int) by rw [wrap_u64]; congr 1; omega)) ?_;refine oP (KK (KF rfl rfl (br_and64 (b:=31) om dc)) (show _ = .int .u64 ((32-k:Nat):Int) by rw [Nat.and_two_pow_sub_one_eq_mod _ 5]; congr 2; omega)) ?_;refine oA (KC (KB (KA (oM (oM ?_)))));refine oP (KF rfl rfl (br_shl32m om)) ?_;refine oM (oM ?_);refine oP (KK (KF rfl rfl (br_sub64 (a:=32) om)) (show _ = .int .u64 ((k:Nat):Int) by congr 2; omega)) ?_;refine oP (KF rfl rfl (br_shr32m om)) ?_;refine oP (KF rfl rfl (br_or32m)) ?_;refine oA (KC (KM ?_));refine ⟨[_],.cons rfl .nil,fun a w' hr=>⟨?_,hr.fr.below⟩⟩
  rfl
theorem c_rot256 (x k:Nat) (hk:0<k) (hk2:k<32) (w:World)  : Calls Tryz.prog 221 ([.int .u32 ((x:Nat):Int),.int .i64 ((k:Nat):Int)]:List Value).toArray w (fun e w'=>e = .returned (.int .u32 ((p256.rot x k:Nat):Int))∧Below w.heap.size w w'):=by
  refine KX (N:=9) (rs:=[.tmp 4]) [] Tryz.func221 rfl Tryz.ntmps221 Tryz.results221 (Nb rfl) trivial rfl ?_
  refine KB (KA ?_);refine oP (KO (v:=.int .u32 ((0:Nat):Int)) rfl) ?_;refine KC (KB (KA (oM (oM ?_))));refine oP (KK (Det.neg rfl) (show _ = Value.int .i64 (-(k:Int)) by rw [Int.zero_sub,wrap_i64 om om])) ?_;refine oS (cF rfl en_232 rfl (fun w hw=>c_rl32 _ _ om om w) ?_);refine oA (KC (KM ?_));refine ⟨[_],.cons rfl .nil,fun a w' hr=>⟨?_,hr.fr.below⟩⟩
  rfl
theorem c_cons256  (w:World)  : Calls Tryz.prog 195 ([]:List Value).toArray w (fun e w'=>e = .returned (.agg (vec .u32 64 (nthN p256.K)).toArray)∧Below w.heap.size w w'):=by
  refine KX (N:=2) (rs:=[.cell 0 299]) [] Tryz.func195 rfl Tryz.ntmps195 Tryz.results195 (Nb rfl) trivial rfl ?_
  refine KB (KA ?_);refine oS (mk (KL zr_299) (fun b0=>?_));refine KC (KB (KA ?_));refine oP (KK (Kd (cs:=vec .u32 64 (nthN p256.K)) pl_299 zr_299 rfl (by kernel_rfl)) rfl) ?_;refine LOps.step rfl (sA rfl rfl sz_299 mO (hl:=mL) (h:=?_));refine KC (KM ?_);refine ⟨[_],.cons ⟨_,_,_,rfl,mM,by exact KD u299 rfl sz_299⟩ .nil,fun a w' hr=>⟨?_,hr.fr.below⟩⟩
  rfl
theorem c_beg224  (w:World)  : Calls Tryz.prog 194 ([.int .i64 ((224:Nat):Int)]:List Value).toArray w (fun e w'=>e = .returned (.tuple #[.agg (vec .u32 8 (S8.at iv224)).toArray,.bool true])∧Below w.heap.size w w'):=by
  refine KX (N:=12) (rs:=[.cell 2 296,.tmp 3]) [] Tryz.func194 rfl Tryz.ntmps194 Tryz.results194 (Nb rfl) trivial rfl ?_
  refine KB (KA ?_);refine oS (mk (KL zr_296) (fun b2=>?_));refine oA (KC (KB (KB (KA (oM (KC (LCode.block (KB (KA ?_)))))))));refine oP (KF (v:=.bool true) rfl rfl (br_t (Kz (b:=224)) (rfl))) ?_;refine oA (KC ?_);refine KT rfl ?_;refine KB (KA ?_);refine oP (KK (Kd (cs:=vec .u32 8 (S8.at iv224)) pl_296 zr_296 rfl (by kernel_rfl)) rfl) ?_;refine LOps.step rfl (sA rfl rfl sz_296 mO (hl:=mL) (h:=?_));refine oA (KC (KM ?_));refine ⟨[_,_],.cons ⟨_,_,_,rfl,mM,by exact KD u296 rfl sz_296⟩ (.cons rfl .nil),fun a w' hr=>⟨?_,hr.fr.below⟩⟩
  rfl
theorem c_beg256  (w:World)  : Calls Tryz.prog 194 ([.int .i64 ((256:Nat):Int)]:List Value).toArray w (fun e w'=>e = .returned (.tuple #[.agg (vec .u32 8 (S8.at iv256)).toArray,.bool true])∧Below w.heap.size w w'):=by
  refine KX (N:=12) (rs:=[.cell 2 296,.tmp 3]) [] Tryz.func194 rfl Tryz.ntmps194 Tryz.results194 (Nb rfl) trivial rfl ?_
  refine KB (KA ?_);refine oS (mk (KL zr_296) (fun b2=>?_));refine oA (KC (KB (KB (KA (oM (KC (LCode.block (KB (KA ?_)))))))));refine oP (KF (v:=.bool false) rfl rfl (br_f (Kz (b:=224)) dc)) ?_;refine oA (KC ?_);refine KH rfl ?_;refine KB (KA ?_);refine oP (KF (v:=.bool true) rfl rfl (br_t (Kz (b:=256)) (rfl))) ?_;refine oA (KC ?_);refine KT rfl ?_;refine KB (KA ?_);refine oP (KK (Kd (cs:=vec .u32 8 (S8.at iv256)) pl_296 zr_296 rfl (by kernel_rfl)) rfl) ?_;refine LOps.step rfl (sA rfl rfl sz_296 mO (hl:=mL) (h:=?_));refine oA (KC (KM ?_));refine ⟨[_,_],.cons ⟨_,_,_,rfl,mM,by exact KD u296 rfl sz_296⟩ (.cons rfl .nil),fun a w' hr=>⟨?_,hr.fr.below⟩⟩
  rfl
theorem c_sched256 (f:Nat→Nat) (bb o sn sc:Nat) (cells:List Value) (fz:Nat×Nat) (hsn:sn = 64) (hc:∀ j,j<64→cells[j+o]? = some (.int .u8 (f j:Int))) (w:World) (hb:(Item.blk bb ⟨false,cells,5,fz⟩).holds w):Calls Tryz.prog 220 ([.slice (some ⟨bb,o,none⟩) sn sc]:List Value).toArray w (fun e w'=>e = .returned (.agg (vec .u32 64 (p256.wd f 64)).toArray)∧Below w.heap.size w w'):=by
  refine KX (N:=78) (rs:=[.cell 2 299]) [.blk bb ⟨false,cells,5,fz⟩] Tryz.func220 rfl Tryz.ntmps220 Tryz.results220 (Nb rfl) ⟨hb,trivial⟩ rfl ?_
  refine KB (KA ?_);refine oS (mk (KL zr_299) (fun b2=>?_));refine KC (KB (KA ?_));refine oS (mk (KL zr_299) (fun b3=>?_));refine KC (KB (KB (KA ?_)));refine oP (Ki (v:=.int .i64 ((0:Nat):Int)) rfl) ?_;refine KC (LCode.block ?_);refine Ke (α:=Nat) (fun x=>x≤16) (fun x=>⟨[(0,.slice (some ⟨bb,o,none⟩) sn sc),(2,.pointer (some ⟨b2,0,none⟩)),(3,.pointer (some ⟨b3,0,none⟩)),(11,.int .i64 ((x:Nat):Int))],[.blk bb ⟨false,cells,5,fz⟩,.blk b3 ⟨true,vec .u32 64 (p256.wb0 f x 0),299,(0,0)⟩,.blk b2 ⟨true,vec .u32 64 (fun _=>0),299,(0,0)⟩]⟩) (fun x=>16-x) (0) (Nat.zero_le _) (KAC (Sub.cells (b:=b3) (cs':=vec .u32 64 (p256.wb0 f 0 0)) (by repeat (first|exact Sh _|apply St_)) (Kr fun i _=>p256.wb0_start f i)) (Ka ⟨rfl,rfl,rfl,rfl,trivial⟩ mS)) ?_
  intro x hx
  refine KB (KA ?_);refine oP (KF rfl rfl (KAF (b:=16))) ?_;refine KC (KB ?_)
  first|refine KR rfl (fun h12=>?_) (fun h12=>?_)|refine KS rfl (fun h12=>?_) (fun h12=>?_)
  ·
   have h12:x<16:=h12
   refine KN (KB (LCode.block (KB (KA (oM (oA (KC (KB (KA ?_)))))))));refine oP (Ki (v:=.int .i64 ((0:Nat):Int)) rfl) ?_;refine KC (LCode.block ?_);refine Ke (α:=Nat) (fun y=>y≤4) (fun y=>⟨[(0,.slice (some ⟨bb,o,none⟩) sn sc),(2,.pointer (some ⟨b2,0,none⟩)),(3,.pointer (some ⟨b3,0,none⟩)),(11,.int .i64 ((x:Nat):Int)),(4,.int .i64 ((x:Nat):Int)),(14,.int .i64 ((y:Nat):Int))],[.blk bb ⟨false,cells,5,fz⟩,.blk b3 ⟨true,vec .u32 64 (p256.wb0 f x y),299,(0,0)⟩,.blk b2 ⟨true,vec .u32 64 (fun _=>0),299,(0,0)⟩]⟩) (fun y=>4-y) (0) (Nat.zero_le _) (Ka ⟨rfl,rfl,rfl,rfl,rfl,rfl,trivial⟩ mS) ?_
   intro y hy
   refine KB (KA ?_);refine oP (KF rfl rfl (KAF (b:=4))) ?_;refine KC (KB ?_)
   first|refine KR rfl (fun h15=>?_) (fun h15=>?_)|refine KS rfl (fun h15=>?_) (fun h15=>?_)
   ·
    have h15:y<4:=h15
    refine KN (KB (LCode.block (KB (KA (oM (oA (KC ?_)))))));refine rD [15] ?_;refine aM 0 ?_;refine aM 1 ?_;refine aP 2 rfl (KP u299 KAe rfl rfl om) ?_;refine aD 3 rfl (dL rfl (hv:=KJ u188 rfl (by first|rfl|exact KU _ _ _ om|exact KY _ om|exact Kb _ om|exact dv_m _ _ _ om))) ?_;refine aP 4 rfl (KF rfl rfl (br_shl32m (b:=8) dc)) ?_;refine aM 5 ?_;refine aM 6 ?_;refine aP 7 rfl (KF rfl rfl (br_mul (a:=4) om)) ?_;refine aM 8 ?_;refine aP 9 rfl (KF rfl rfl (Ko om)) ?_;refine aP 10 rfl (Det.indexS u70 sz_5 rfl rfl om) ?_;refine aD 11 rfl (dL rfl (hv:=KJ u5 rfl (by exact hc _ om))) ?_;refine aP 12 rfl (Det.conv32 u5 u188 rfl) ?_;refine aP 13 rfl (KF rfl rfl (br_or32m)) ?_;refine aP 14 rfl (KP u299 KAe rfl rfl om) ?_;refine aL 15 rfl (KZ rfl rfl rfl KAe (by repeat (first|exact Sh _|apply St_)) (by first|(simp only [KQ,KI,Kh,Ks]; omega)|(simp; done)|(simp; omega)) (by first|exact KAG _ _ _ _ _|exact KAM _ _ _ _ om|exact KAL _ _ _ _|rfl) (by simp) ?_)
    refine aE ?_;refine KA ?_;refine oP (KF rfl rfl (Ko (b:=1) om)) ?_;refine oM (KC ?_);refine ⟨y+1,by omega,by omega,KAC (Sub.cells (b:=b3) (cs':=vec .u32 64 (p256.wb0 f x (y+1))) (by repeat (first|exact Sh _|apply St_)) (Kr fun i _=>?_)) (Ka ⟨rfl,rfl,rfl,rfl,rfl,rfl,trivial⟩ mS)⟩
    exact (congrArg (fun z=>if i = x then z else p256.wb0 f x y i) (p256.beW_step f x y _ rfl)).trans (p256.wb0_next f x y i)
   have h15:¬ y<4:=h15
   obtain rfl:y = 4:=by omega
   refine Kc (KA ?_);refine oP (KF rfl rfl (Ko (b:=1) om)) ?_;refine oM (KC ?_);refine ⟨x+1,by omega,by omega,KAC (Sub.cells (b:=b3) (cs':=vec .u32 64 (p256.wb0 f (x+1) 0)) (by repeat (first|exact Sh _|apply St_)) (Kr fun i _=>p256.wb0_row f x i)) (Ka ⟨rfl,rfl,rfl,rfl,trivial⟩ mS)⟩
  have h12:¬ x<16:=h12
  obtain rfl:x = 16:=by omega
  refine Kc (KB (KB (KA ?_)));refine oP (KO (v:=.int .i64 ((16:Nat):Int)) rfl) ?_;refine KC (LCode.block ?_);refine Ke (α:=Nat) (fun x=>16≤x∧x≤64) (fun x=>⟨[(0,.slice (some ⟨bb,o,none⟩) sn sc),(2,.pointer (some ⟨b2,0,none⟩)),(3,.pointer (some ⟨b3,0,none⟩)),(6,.int .i64 ((x:Nat):Int))],[.blk bb ⟨false,cells,5,fz⟩,.blk b3 ⟨true,vec .u32 64 (p256.wd f x),299,(0,0)⟩,.blk b2 ⟨true,vec .u32 64 (fun _=>0),299,(0,0)⟩]⟩) (fun x=>64-x) (16) (⟨Nat.le_refl _,by decide⟩) (KAC (Sub.cells (b:=b3) (cs':=vec .u32 64 (p256.wd f 16)) (by repeat (first|exact Sh _|apply St_)) (Kr fun i _=>p256.wb0_end f i)) (Ka ⟨rfl,rfl,rfl,rfl,trivial⟩ mS)) ?_
  rintro x ⟨hx1,hx2⟩
  refine KB (KB (KA (oM ?_)));refine oP (KF rfl rfl (KAF (b:=64))) ?_;refine KC ?_
  first|refine KR rfl (fun h35=>?_) (fun h35=>?_)|refine KS rfl (fun h35=>?_) (fun h35=>?_)
  ·
   have h35:x<64:=h35
   refine KN (KB (LCode.block (KB ?_)));refine rD [] ?_;refine aM 0 ?_;refine aP 1 rfl (KF rfl rfl (KAb (b:=15) om om)) ?_;refine aP 2 rfl (KP u299 KAe rfl rfl om) ?_;refine aD 3 rfl (dL rfl (hv:=KJ u188 rfl (by first|rfl|exact KU _ _ _ om|exact KY _ om|exact Kb _ om|exact dv_m _ _ _ om))) ?_;refine aM 4 ?_;refine aP 5 rfl (KF rfl rfl (KAb (b:=2) om om)) ?_;refine aP 6 rfl (KP u299 KAe rfl rfl om) ?_;refine aD 7 rfl (dL rfl (hv:=KJ u188 rfl (by first|rfl|exact KU _ _ _ om|exact KY _ om|exact Kb _ om|exact dv_m _ _ _ om))) ?_;refine aA 8 ?_;refine aA 9 ?_;refine aE ?_;refine KB (KA (oM ?_));refine oS (cF rfl en_221 rfl (fun w hw=>c_rot256 _ _ dc dc w) ?_);refine oM ?_;refine oS (cF rfl en_221 rfl (fun w hw=>c_rot256 _ _ dc dc w) ?_);refine oP (KF rfl rfl (br_xor32m)) ?_;refine oM ?_;refine oP (KF rfl rfl (br_shr32m (b:=3) dc)) ?_;refine oP (KF rfl rfl (br_xor32m)) ?_
   refine oA (KC (KB (KA (oM ?_))));refine oS (cF rfl en_221 rfl (fun w hw=>c_rot256 _ _ dc dc w) ?_);refine oM ?_;refine oS (cF rfl en_221 rfl (fun w hw=>c_rot256 _ _ dc dc w) ?_);refine oP (KF rfl rfl (br_xor32m)) ?_;refine oM ?_;refine oP (KF rfl rfl (br_shr32m (b:=10) dc)) ?_;refine oP (KF rfl rfl (br_xor32m)) ?_;refine oA (KC ?_);refine rD [15] ?_;refine aM 0 ?_;refine aM 1 ?_;refine aP 2 rfl (KF rfl rfl (KAb (b:=16) om om)) ?_;refine aP 3 rfl (KP u299 KAe rfl rfl om) ?_;refine aD 4 rfl (dL rfl (hv:=KJ u188 rfl (by first|rfl|exact KU _ _ _ om|exact KY _ om|exact Kb _ om|exact dv_m _ _ _ om))) ?_;refine aM 5 ?_;refine aP 6 rfl (KF rfl rfl (br_add32m)) ?_;refine aM 7 ?_;refine aP 8 rfl (KF rfl rfl (KAb (b:=7) om om)) ?_;refine aP 9 rfl (KP u299 KAe rfl rfl om) ?_;refine aD 10 rfl (dL rfl (hv:=KJ u188 rfl (by first|rfl|exact KU _ _ _ om|exact KY _ om|exact Kb _ om|exact dv_m _ _ _ om))) ?_
   refine aP 11 rfl (KF rfl rfl (br_add32m)) ?_;refine aM 12 ?_;refine aP 13 rfl (KF rfl rfl (br_add32m)) ?_;refine aP 14 rfl (KP u299 KAe rfl rfl om) ?_;refine aL 15 rfl (KZ rfl rfl rfl KAe (by repeat (first|exact Sh _|apply St_)) (by first|(simp only [KQ,KI,Kh,Ks]; omega)|(simp; done)|(simp; omega)) (by first|exact KAG _ _ _ _ _|exact KAM _ _ _ _ om|exact KAL _ _ _ _|rfl) (by simp) ?_);refine aE ?_;refine KA (oM ?_);refine oP (KF rfl rfl (Ko (b:=1) om)) ?_;refine oA (KC ?_);refine ⟨x+1,by omega,by omega,KAC (Sub.cells (b:=b3) (cs':=vec .u32 64 (p256.wd f (x+1))) (by repeat (first|exact Sh _|apply St_)) (Kr fun i _=>?_)) (Ka ⟨rfl,rfl,rfl,rfl,trivial⟩ mS)⟩
   rw [p256.wd_lt (d:=16) f hx1 dc om,p256.wd_lt (d:=15) f hx1 dc om,p256.wd_lt (d:=7) f hx1 dc om,p256.wd_lt (d:=2) f hx1 dc om]
   exact p256.wd_next f hx1 i
  have h35:¬ x<64:=h35
  obtain rfl:x = 64:=by omega
  refine Kc (KB (KA ?_));refine oD (dL rfl (hv:=by exact KD u299 rfl sz_299)) ?_;refine LOps.step rfl (sA rfl rfl sz_299 mO (hl:=mL) (h:=?_));refine KC (KM ?_);refine ⟨[_],.cons ⟨_,_,_,rfl,mM,by exact KD u299 rfl sz_299⟩ .nil,fun a w' hr=>⟨?_,hr.fr.below⟩⟩
  rfl
def p512:Hp:=⟨64,18446744073709551616,8,80,14,18,41,28,34,39,1,8,7,19,61,6,[4794697086780616226,8158064640168781261,13096744586834688815,16840607885511220156,4131703408338449720,6480981068601479193,10538285296894168987,12329834152419229976,15566598209576043074,1334009975649890238,2608012711638119052,6128411473006802146,8268148722764581231,9286055187155687089,11230858885718282805,13951009754708518548,16472876342353939154,17275323862435702243,1135362057144423861,2597628984639134821,3308224258029322869,5365058923640841347,6679025012923562964,8573033837759648693,10970295158949994411,12119686244451234320,12683024718118986047,13788192230050041572,14330467153632333762,15395433587784984357,489312712824947311,1452737877330783856,2861767655752347644,3322285676063803686,5560940570517711597,5996557281743188959,7280758554555802590,8532644243296465576,9350256976987008742,10552545826968843579,11727347734174303076,12113106623233404929,14000437183269869457,14369950271660146224,15101387698204529176,15463397548674623760,17586052441742319658,1182934255886127544,1847814050463011016,2177327727835720531,2830643537854262169,3796741975233480872,4115178125766777443,5681478168544905931,6601373596472566643,7507060721942968483,8399075790359081724,8693463985226723168,9568029438360202098,10144078919501101548,10430055236837252648,11840083180663258601,13761210420658862357,14299343276471374635,14566680578165727644,15097957966210449927,16922976911328602910,17689382322260857208,500013540394364858,748580250866718886,1242879168328830382,1977374033974150939,2944078676154940804,3659926193048069267,4368137639120453308,4836135668995329356,5532061633213252278,6448918945643986474,6902733635092675308,7801388544844847127],128⟩
def iv384:S8:=⟨14680500436340154072,7105036623409894663,10473403895298186519,1526699215303891257,7436329637833083697,10282925794625328401,15784041429090275239,5167115440072839076⟩
def iv512:S8:=⟨7640891576956012808,13503953896175478587,4354685564936845355,11912009170470909681,5840696475078001361,11170449401992604703,2270897969802886507,6620516959819538809⟩
theorem c_rl64 (x k:Nat) (hk:0<k) (hk2:k<64) (w:World)  : Calls Tryz.prog 233 ([.int .u64 ((x:Nat):Int),.int .i64 (-(k:Int))]:List Value).toArray w (fun e w'=>e = .returned (.int .u64 ((p512.rot x k:Nat):Int))∧Below w.heap.size w w'):=by
  refine KX (N:=17) (rs:=[.tmp 4]) [] Tryz.func233 rfl Tryz.ntmps233 Tryz.results233 (Nb rfl) trivial rfl ?_
  refine KB (KA ?_);refine oP (KO (v:=.int .u64 ((0:Nat):Int)) rfl) ?_;refine KC (KB (KA (oM ?_)));refine oP (KK (Det.conv u3 u56 rfl) (show _ = .int .u64 ((18446744073709551616-k:Nat):Int) by rw [wrap_u64]; congr 1; omega)) ?_;refine oP (KK (KF rfl rfl (br_and64 (b:=63) om dc)) (show _ = .int .u64 ((64-k:Nat):Int) by rw [Nat.and_two_pow_sub_one_eq_mod _ 6]; congr 2; omega)) ?_;refine oA (KC (KB (KA (oM (oM ?_)))));refine oP (KF rfl rfl (br_shl64m om)) ?_;refine oM (oM ?_);refine oP (KK (KF rfl rfl (br_sub64 (a:=64) om)) (show _ = .int .u64 ((k:Nat):Int) by congr 2; omega)) ?_;refine oP (KF rfl rfl (br_shr64m om)) ?_;refine oP (KF rfl rfl (br_or64m)) ?_;refine oA (KC (KM ?_));refine ⟨[_],.cons rfl .nil,fun a w' hr=>⟨?_,hr.fr.below⟩⟩
  rfl
theorem c_rot512 (x k:Nat) (hk:0<k) (hk2:k<64) (w:World)  : Calls Tryz.prog 223 ([.int .u64 ((x:Nat):Int),.int .i64 ((k:Nat):Int)]:List Value).toArray w (fun e w'=>e = .returned (.int .u64 ((p512.rot x k:Nat):Int))∧Below w.heap.size w w'):=by
  refine KX (N:=9) (rs:=[.tmp 4]) [] Tryz.func223 rfl Tryz.ntmps223 Tryz.results223 (Nb rfl) trivial rfl ?_
  refine KB (KA ?_);refine oP (KO (v:=.int .u64 ((0:Nat):Int)) rfl) ?_;refine KC (KB (KA (oM (oM ?_))));refine oP (KK (Det.neg rfl) (show _ = Value.int .i64 (-(k:Int)) by rw [Int.zero_sub,wrap_i64 om om])) ?_;refine oS (cF rfl en_233 rfl (fun w hw=>c_rl64 _ _ om om w) ?_);refine oA (KC (KM ?_));refine ⟨[_],.cons rfl .nil,fun a w' hr=>⟨?_,hr.fr.below⟩⟩
  rfl
theorem c_cons512  (w:World)  : Calls Tryz.prog 201 ([]:List Value).toArray w (fun e w'=>e = .returned (.agg (vec .u64 80 (nthN p512.K)).toArray)∧Below w.heap.size w w'):=by
  refine KX (N:=2) (rs:=[.cell 0 308]) [] Tryz.func201 rfl Tryz.ntmps201 Tryz.results201 (Nb rfl) trivial rfl ?_
  refine KB (KA ?_);refine oS (mk (KL zr_308) (fun b0=>?_));refine KC (KB (KA ?_));refine oP (KK (Kd (cs:=vec .u64 80 (nthN p512.K)) pl_308 zr_308 rfl (by kernel_rfl)) rfl) ?_;refine LOps.step rfl (sA rfl rfl sz_308 mO (hl:=mL) (h:=?_));refine KC (KM ?_);refine ⟨[_],.cons ⟨_,_,_,rfl,mM,by exact KD u308 rfl sz_308⟩ .nil,fun a w' hr=>⟨?_,hr.fr.below⟩⟩
  rfl
theorem c_beg384  (w:World)  : Calls Tryz.prog 200 ([.int .i64 ((384:Nat):Int)]:List Value).toArray w (fun e w'=>e = .returned (.tuple #[.agg (vec .u64 8 (S8.at iv384)).toArray,.bool true])∧Below w.heap.size w w'):=by
  refine KX (N:=12) (rs:=[.cell 2 305,.tmp 3]) [] Tryz.func200 rfl Tryz.ntmps200 Tryz.results200 (Nb rfl) trivial rfl ?_
  refine KB (KA ?_);refine oS (mk (KL zr_305) (fun b2=>?_));refine oA (KC (KB (KB (KA (oM (KC (LCode.block (KB (KA ?_)))))))));refine oP (KF (v:=.bool true) rfl rfl (br_t (Kz (b:=384)) (rfl))) ?_;refine oA (KC ?_);refine KT rfl ?_;refine KB (KA ?_);refine oP (KK (Kd (cs:=vec .u64 8 (S8.at iv384)) pl_305 zr_305 rfl (by kernel_rfl)) rfl) ?_;refine LOps.step rfl (sA rfl rfl sz_305 mO (hl:=mL) (h:=?_));refine oA (KC (KM ?_));refine ⟨[_,_],.cons ⟨_,_,_,rfl,mM,by exact KD u305 rfl sz_305⟩ (.cons rfl .nil),fun a w' hr=>⟨?_,hr.fr.below⟩⟩
  rfl
theorem c_beg512  (w:World)  : Calls Tryz.prog 200 ([.int .i64 ((512:Nat):Int)]:List Value).toArray w (fun e w'=>e = .returned (.tuple #[.agg (vec .u64 8 (S8.at iv512)).toArray,.bool true])∧Below w.heap.size w w'):=by
  refine KX (N:=12) (rs:=[.cell 2 305,.tmp 3]) [] Tryz.func200 rfl Tryz.ntmps200 Tryz.results200 (Nb rfl) trivial rfl ?_
  refine KB (KA ?_);refine oS (mk (KL zr_305) (fun b2=>?_));refine oA (KC (KB (KB (KA (oM (KC (LCode.block (KB (KA ?_)))))))));refine oP (KF (v:=.bool false) rfl rfl (br_f (Kz (b:=384)) dc)) ?_;refine oA (KC ?_);refine KH rfl ?_;refine KB (KA ?_);refine oP (KF (v:=.bool true) rfl rfl (br_t (Kz (b:=512)) (rfl))) ?_;refine oA (KC ?_);refine KT rfl ?_;refine KB (KA ?_);refine oP (KK (Kd (cs:=vec .u64 8 (S8.at iv512)) pl_305 zr_305 rfl (by kernel_rfl)) rfl) ?_;refine LOps.step rfl (sA rfl rfl sz_305 mO (hl:=mL) (h:=?_));refine oA (KC (KM ?_));refine ⟨[_,_],.cons ⟨_,_,_,rfl,mM,by exact KD u305 rfl sz_305⟩ (.cons rfl .nil),fun a w' hr=>⟨?_,hr.fr.below⟩⟩
  rfl
theorem c_sched512 (f:Nat→Nat) (bb o sn sc:Nat) (cells:List Value) (fz:Nat×Nat) (hsn:sn = 128) (hc:∀ j,j<128→cells[j+o]? = some (.int .u8 (f j:Int))) (w:World) (hb:(Item.blk bb ⟨false,cells,5,fz⟩).holds w):Calls Tryz.prog 222 ([.slice (some ⟨bb,o,none⟩) sn sc]:List Value).toArray w (fun e w'=>e = .returned (.agg (vec .u64 80 (p512.wd f 80)).toArray)∧Below w.heap.size w w'):=by
  refine KX (N:=78) (rs:=[.cell 2 308]) [.blk bb ⟨false,cells,5,fz⟩] Tryz.func222 rfl Tryz.ntmps222 Tryz.results222 (Nb rfl) ⟨hb,trivial⟩ rfl ?_
  refine KB (KA ?_);refine oS (mk (KL zr_308) (fun b2=>?_));refine KC (KB (KA ?_));refine oS (mk (KL zr_308) (fun b3=>?_));refine KC (KB (KB (KA ?_)));refine oP (Ki (v:=.int .i64 ((0:Nat):Int)) rfl) ?_;refine KC (LCode.block ?_);refine Ke (α:=Nat) (fun x=>x≤16) (fun x=>⟨[(0,.slice (some ⟨bb,o,none⟩) sn sc),(2,.pointer (some ⟨b2,0,none⟩)),(3,.pointer (some ⟨b3,0,none⟩)),(11,.int .i64 ((x:Nat):Int))],[.blk bb ⟨false,cells,5,fz⟩,.blk b3 ⟨true,vec .u64 80 (p512.wb0 f x 0),308,(0,0)⟩,.blk b2 ⟨true,vec .u64 80 (fun _=>0),308,(0,0)⟩]⟩) (fun x=>16-x) (0) (Nat.zero_le _) (KAC (Sub.cells (b:=b3) (cs':=vec .u64 80 (p512.wb0 f 0 0)) (by repeat (first|exact Sh _|apply St_)) (Kr fun i _=>p512.wb0_start f i)) (Ka ⟨rfl,rfl,rfl,rfl,trivial⟩ mS)) ?_
  intro x hx
  refine KB (KA ?_);refine oP (KF rfl rfl (KAF (b:=16))) ?_;refine KC (KB ?_)
  first|refine KR rfl (fun h12=>?_) (fun h12=>?_)|refine KS rfl (fun h12=>?_) (fun h12=>?_)
  ·
   have h12:x<16:=h12
   refine KN (KB (LCode.block (KB (KA (oM (oA (KC (KB (KA ?_)))))))));refine oP (Ki (v:=.int .i64 ((0:Nat):Int)) rfl) ?_;refine KC (LCode.block ?_);refine Ke (α:=Nat) (fun y=>y≤8) (fun y=>⟨[(0,.slice (some ⟨bb,o,none⟩) sn sc),(2,.pointer (some ⟨b2,0,none⟩)),(3,.pointer (some ⟨b3,0,none⟩)),(11,.int .i64 ((x:Nat):Int)),(4,.int .i64 ((x:Nat):Int)),(14,.int .i64 ((y:Nat):Int))],[.blk bb ⟨false,cells,5,fz⟩,.blk b3 ⟨true,vec .u64 80 (p512.wb0 f x y),308,(0,0)⟩,.blk b2 ⟨true,vec .u64 80 (fun _=>0),308,(0,0)⟩]⟩) (fun y=>8-y) (0) (Nat.zero_le _) (Ka ⟨rfl,rfl,rfl,rfl,rfl,rfl,trivial⟩ mS) ?_
   intro y hy
   refine KB (KA ?_);refine oP (KF rfl rfl (KAF (b:=8))) ?_;refine KC (KB ?_)
   first|refine KR rfl (fun h15=>?_) (fun h15=>?_)|refine KS rfl (fun h15=>?_) (fun h15=>?_)
   ·
    have h15:y<8:=h15
    refine KN (KB (LCode.block (KB (KA (oM (oA (KC ?_)))))));refine rD [15] ?_;refine aM 0 ?_;refine aM 1 ?_;refine aP 2 rfl (KP u308 sz_30 rfl rfl om) ?_;refine aD 3 rfl (dL rfl (hv:=KJ u30 rfl (by first|rfl|exact KU _ _ _ om|exact KY _ om|exact Kb _ om|exact dv_m _ _ _ om))) ?_;refine aP 4 rfl (KF rfl rfl (br_shl64m (b:=8) dc)) ?_;refine aM 5 ?_;refine aM 6 ?_;refine aP 7 rfl (KF rfl rfl (br_mul (a:=8) om)) ?_;refine aM 8 ?_;refine aP 9 rfl (KF rfl rfl (Ko om)) ?_;refine aP 10 rfl (Det.indexS u70 sz_5 rfl rfl om) ?_;refine aD 11 rfl (dL rfl (hv:=KJ u5 rfl (by exact hc _ om))) ?_;refine aP 12 rfl (Det.conv64m u5 u30 rfl) ?_;refine aP 13 rfl (KF rfl rfl (br_or64m)) ?_;refine aP 14 rfl (KP u308 sz_30 rfl rfl om) ?_;refine aL 15 rfl (KZ rfl rfl rfl sz_30 (by repeat (first|exact Sh _|apply St_)) (by first|(simp only [KQ,KI,Kh,Ks]; omega)|(simp; done)|(simp; omega)) (by first|exact KAG _ _ _ _ _|exact KAM _ _ _ _ om|exact KAL _ _ _ _|rfl) (by simp) ?_)
    refine aE ?_;refine KA ?_;refine oP (KF rfl rfl (Ko (b:=1) om)) ?_;refine oM (KC ?_);refine ⟨y+1,by omega,by omega,KAC (Sub.cells (b:=b3) (cs':=vec .u64 80 (p512.wb0 f x (y+1))) (by repeat (first|exact Sh _|apply St_)) (Kr fun i _=>?_)) (Ka ⟨rfl,rfl,rfl,rfl,rfl,rfl,trivial⟩ mS)⟩
    exact (congrArg (fun z=>if i = x then z else p512.wb0 f x y i) (p512.beW_step f x y _ rfl)).trans (p512.wb0_next f x y i)
   have h15:¬ y<8:=h15
   obtain rfl:y = 8:=by omega
   refine Kc (KA ?_);refine oP (KF rfl rfl (Ko (b:=1) om)) ?_;refine oM (KC ?_);refine ⟨x+1,by omega,by omega,KAC (Sub.cells (b:=b3) (cs':=vec .u64 80 (p512.wb0 f (x+1) 0)) (by repeat (first|exact Sh _|apply St_)) (Kr fun i _=>p512.wb0_row f x i)) (Ka ⟨rfl,rfl,rfl,rfl,trivial⟩ mS)⟩
  have h12:¬ x<16:=h12
  obtain rfl:x = 16:=by omega
  refine Kc (KB (KB (KA ?_)));refine oP (KO (v:=.int .i64 ((16:Nat):Int)) rfl) ?_;refine KC (LCode.block ?_);refine Ke (α:=Nat) (fun x=>16≤x∧x≤80) (fun x=>⟨[(0,.slice (some ⟨bb,o,none⟩) sn sc),(2,.pointer (some ⟨b2,0,none⟩)),(3,.pointer (some ⟨b3,0,none⟩)),(6,.int .i64 ((x:Nat):Int))],[.blk bb ⟨false,cells,5,fz⟩,.blk b3 ⟨true,vec .u64 80 (p512.wd f x),308,(0,0)⟩,.blk b2 ⟨true,vec .u64 80 (fun _=>0),308,(0,0)⟩]⟩) (fun x=>80-x) (16) (⟨Nat.le_refl _,by decide⟩) (KAC (Sub.cells (b:=b3) (cs':=vec .u64 80 (p512.wd f 16)) (by repeat (first|exact Sh _|apply St_)) (Kr fun i _=>p512.wb0_end f i)) (Ka ⟨rfl,rfl,rfl,rfl,trivial⟩ mS)) ?_
  rintro x ⟨hx1,hx2⟩
  refine KB (KB (KA (oM ?_)));refine oP (KF rfl rfl (KAF (b:=80))) ?_;refine KC ?_
  first|refine KR rfl (fun h35=>?_) (fun h35=>?_)|refine KS rfl (fun h35=>?_) (fun h35=>?_)
  ·
   have h35:x<80:=h35
   refine KN (KB (LCode.block (KB ?_)));refine rD [] ?_;refine aM 0 ?_;refine aP 1 rfl (KF rfl rfl (KAb (b:=15) om om)) ?_;refine aP 2 rfl (KP u308 sz_30 rfl rfl om) ?_;refine aD 3 rfl (dL rfl (hv:=KJ u30 rfl (by first|rfl|exact KU _ _ _ om|exact KY _ om|exact Kb _ om|exact dv_m _ _ _ om))) ?_;refine aM 4 ?_;refine aP 5 rfl (KF rfl rfl (KAb (b:=2) om om)) ?_;refine aP 6 rfl (KP u308 sz_30 rfl rfl om) ?_;refine aD 7 rfl (dL rfl (hv:=KJ u30 rfl (by first|rfl|exact KU _ _ _ om|exact KY _ om|exact Kb _ om|exact dv_m _ _ _ om))) ?_;refine aA 8 ?_;refine aA 9 ?_;refine aE ?_;refine KB (KA (oM ?_));refine oS (cF rfl en_223 rfl (fun w hw=>c_rot512 _ _ dc dc w) ?_);refine oM ?_;refine oS (cF rfl en_223 rfl (fun w hw=>c_rot512 _ _ dc dc w) ?_);refine oP (KF rfl rfl (br_xor64m)) ?_;refine oM ?_;refine oP (KF rfl rfl (br_shr64m (b:=7) dc)) ?_;refine oP (KF rfl rfl (br_xor64m)) ?_
   refine oA (KC (KB (KA (oM ?_))));refine oS (cF rfl en_223 rfl (fun w hw=>c_rot512 _ _ dc dc w) ?_);refine oM ?_;refine oS (cF rfl en_223 rfl (fun w hw=>c_rot512 _ _ dc dc w) ?_);refine oP (KF rfl rfl (br_xor64m)) ?_;refine oM ?_;refine oP (KF rfl rfl (br_shr64m (b:=6) dc)) ?_;refine oP (KF rfl rfl (br_xor64m)) ?_;refine oA (KC ?_);refine rD [15] ?_;refine aM 0 ?_;refine aM 1 ?_;refine aP 2 rfl (KF rfl rfl (KAb (b:=16) om om)) ?_;refine aP 3 rfl (KP u308 sz_30 rfl rfl om) ?_;refine aD 4 rfl (dL rfl (hv:=KJ u30 rfl (by first|rfl|exact KU _ _ _ om|exact KY _ om|exact Kb _ om|exact dv_m _ _ _ om))) ?_;refine aM 5 ?_;refine aP 6 rfl (KF rfl rfl (br_add64m)) ?_;refine aM 7 ?_;refine aP 8 rfl (KF rfl rfl (KAb (b:=7) om om)) ?_;refine aP 9 rfl (KP u308 sz_30 rfl rfl om) ?_;refine aD 10 rfl (dL rfl (hv:=KJ u30 rfl (by first|rfl|exact KU _ _ _ om|exact KY _ om|exact Kb _ om|exact dv_m _ _ _ om))) ?_
   refine aP 11 rfl (KF rfl rfl (br_add64m)) ?_;refine aM 12 ?_;refine aP 13 rfl (KF rfl rfl (br_add64m)) ?_;refine aP 14 rfl (KP u308 sz_30 rfl rfl om) ?_;refine aL 15 rfl (KZ rfl rfl rfl sz_30 (by repeat (first|exact Sh _|apply St_)) (by first|(simp only [KQ,KI,Kh,Ks]; omega)|(simp; done)|(simp; omega)) (by first|exact KAG _ _ _ _ _|exact KAM _ _ _ _ om|exact KAL _ _ _ _|rfl) (by simp) ?_);refine aE ?_;refine KA (oM ?_);refine oP (KF rfl rfl (Ko (b:=1) om)) ?_;refine oA (KC ?_);refine ⟨x+1,by omega,by omega,KAC (Sub.cells (b:=b3) (cs':=vec .u64 80 (p512.wd f (x+1))) (by repeat (first|exact Sh _|apply St_)) (Kr fun i _=>?_)) (Ka ⟨rfl,rfl,rfl,rfl,trivial⟩ mS)⟩
   rw [p512.wd_lt (d:=16) f hx1 dc om,p512.wd_lt (d:=15) f hx1 dc om,p512.wd_lt (d:=7) f hx1 dc om,p512.wd_lt (d:=2) f hx1 dc om]
   exact p512.wd_next f hx1 i
  have h35:¬ x<80:=h35
  obtain rfl:x = 80:=by omega
  refine Kc (KB (KA ?_));refine oD (dL rfl (hv:=by exact KD u308 rfl sz_308)) ?_;refine LOps.step rfl (sA rfl rfl sz_308 mO (hl:=mL) (h:=?_));refine KC (KM ?_);refine ⟨[_],.cons ⟨_,_,_,rfl,mM,by exact KD u308 rfl sz_308⟩ .nil,fun a w' hr=>⟨?_,hr.fr.below⟩⟩
  rfl
theorem c_turn256 (f:Nat→Nat) (size n:Nat) (h:S8) (v:Value) (hb bb o sn sc:Nat) (cells:List Value) (fz:Nat×Nat) (hsn:sn = 64) (hc:∀ j,j<64→cells[j+o]? = some (.int .u8 (f j:Int))) (w:World) (hH:∀ x,x∈([.blk hb ⟨true,shL .u32 p256 size (h.at) v n,302,(0,0)⟩]++[.blk bb ⟨false,cells,5,fz⟩]:List Item)→x.holds w) (hd:([.blk hb ⟨true,shL .u32 p256 size (h.at) v n,302,(0,0)⟩]++[.blk bb ⟨false,cells,5,fz⟩]:List Item).Pairwise Apart)  : Calls Tryz.prog 199 ([.pointer (some ⟨hb,0,none⟩),.slice (some ⟨bb,o,none⟩) sn sc]:List Value).toArray w (fun e w'=>∃ (u:Value) (x':Item),(u = .tuple #[]∧x' = .blk hb ⟨true,shL .u32 p256 size ((p256.turn h f).at) v n,302,(0,0)⟩)∧e = .returned u∧Outcome w [.blk hb ⟨true,shL .u32 p256 size (h.at) v n,302,(0,0)⟩] [x'] w'):=by
  refine KAW [.blk hb ⟨true,shL .u32 p256 size (h.at) v n,302,(0,0)⟩,.blk bb ⟨false,cells,5,fz⟩] (N:=130) (rs:=[]) Tryz.func199 rfl Tryz.ntmps199 Tryz.results199 (Nb rfl) hH hd rfl rfl ?_
  refine KB (KA (oM ?_));refine oS (cF rfl en_220 rfl (fun w hw=>c_sched256 f bb o sn sc cells fz hsn hc w (show (Item.blk bb ⟨false,_,_,_⟩).holds w from hw _ mM)) ?_);refine oS (mk (KL zr_299) (fun b4=>?_));refine LOps.step rfl (sA rfl rfl sz_299 mO (hl:=mL) (h:=?_));refine KC (KB ?_)
  obtain ⟨W,hW⟩:∃ W,W = p256.wd f 64:=⟨_,rfl⟩
  rw [← hW]
  refine KA (oM ?_);refine oP (KG rfl) ?_;refine oP (KE (o':=1) u302 rfl rfl rfl sz_296 dc) ?_;refine oD (dL rfl (hv:=by exact LoadV.many u296 rfl sz_296 shL_hs (by rw [shL_length]; decide))) ?_;refine oS (mk (KL zr_296) (fun b5=>?_));refine LOps.step rfl (sA rfl rfl sz_296 mO (hl:=mL) (h:=?_));refine KC (KB (KB (KA ?_)));refine oP (Ki (v:=.int .i64 ((0:Nat):Int)) rfl) ?_;refine KC (LCode.block ?_);refine Ke (α:=Nat) (fun x=>x≤64) (fun x=>⟨[(0,.pointer (some ⟨hb,0,none⟩)),(4,.pointer (some ⟨b4,0,none⟩)),(5,.pointer (some ⟨b5,0,none⟩)),(19,.int .i64 ((x:Nat):Int))],[.blk hb ⟨true,shL .u32 p256 size (h.at) v n,302,(0,0)⟩,.blk b4 ⟨true,vec .u32 64 (W),299,(0,0)⟩,.blk b5 ⟨true,vec .u32 8 (S8.at (p256.rnds W h x)),296,(0,0)⟩]⟩) (fun x=>64-x) (0) (Nat.zero_le _) (Ka ⟨rfl,rfl,rfl,rfl,trivial⟩ mS) ?_
  intro x hx
  refine KB (KA ?_);refine oP (KF rfl rfl (KAF (b:=64))) ?_;refine KC (KB ?_)
  first|refine KR rfl (fun h20=>?_) (fun h20=>?_)|refine KS rfl (fun h20=>?_) (fun h20=>?_)
  ·
   have h20:x<64:=h20
   refine KN (KB (LCode.block (KB (KA (oM (oA (KC (KB ?_))))))));refine rD [] ?_;refine aP 0 rfl (KP (i:=4) u296 KAe rfl rfl om) ?_;refine aD 1 rfl (dL rfl (hv:=KJ u188 rfl (by exact KU _ _ _ om))) ?_;refine aP 3 rfl (KP (i:=4) u296 KAe rfl rfl om) ?_;refine aD 4 rfl (dL rfl (hv:=KJ u188 rfl (by exact KU _ _ _ om))) ?_;refine aP 7 rfl (KP (i:=4) u296 KAe rfl rfl om) ?_;refine aD 8 rfl (dL rfl (hv:=KJ u188 rfl (by exact KU _ _ _ om))) ?_;refine aO 2 rfl (cF rfl en_221 rfl (fun w hw=>c_rot256 _ _ dc dc w) ?_);refine aO 5 rfl (cF rfl en_221 rfl (fun w hw=>c_rot256 _ _ dc dc w) ?_);refine aP 6 rfl (KF rfl rfl (br_xor32m)) ?_;refine aO 9 rfl (cF rfl en_221 rfl (fun w hw=>c_rot256 _ _ dc dc w) ?_);refine aP 10 rfl (KF rfl rfl (br_xor32m)) ?_;refine aP 11 rfl (KK (KO rfl) (show _ = .int .u32 ((p256.sg (p256.rnds W h x).e p256.e1 p256.e2 p256.e3:Nat):Int) from rfl)) ?_
   refine aE ?_;refine KB (KA ?_);refine oP (KP (i:=4) u296 KAe rfl rfl om) ?_;refine oD (dL rfl (hv:=KJ u188 rfl (by exact KU _ _ _ om))) ?_;refine oP (KP (i:=5) u296 KAe rfl rfl om) ?_;refine oD (dL rfl (hv:=KJ u188 rfl (by exact KU _ _ _ om))) ?_;refine oP (KF rfl rfl (br_and32m)) ?_;refine oP (KP (i:=4) u296 KAe rfl rfl om) ?_;refine oD (dL rfl (hv:=KJ u188 rfl (by exact KU _ _ _ om))) ?_;refine oP (Det.cpl32 rfl) ?_;refine oP (KP (i:=6) u296 KAe rfl rfl om) ?_;refine oD (dL rfl (hv:=KJ u188 rfl (by exact KU _ _ _ om))) ?_;refine oP (KF rfl rfl (br_and32m)) ?_;refine oP (KF rfl rfl (br_xor32m)) ?_;refine oP (KK (KO rfl) (show _ = .int .u32 ((p256.ch (p256.rnds W h x).e (p256.rnds W h x).f (p256.rnds W h x).g:Nat):Int) from rfl)) ?_;refine KC (KB ?_);refine rD [] ?_;refine aP 0 rfl (KP (i:=7) u296 KAe rfl rfl om) ?_
   refine aD 1 rfl (dL rfl (hv:=KJ u188 rfl (by exact KU _ _ _ om))) ?_;refine aM 2 ?_;refine aP 3 rfl (KF rfl rfl (br_add32m)) ?_;refine aM 4 ?_;refine aP 5 rfl (KF rfl rfl (br_add32m)) ?_;refine aM 6 ?_;refine aM 7 ?_;refine aP 8 rfl (KG rfl) ?_;refine aP 9 rfl (KE (o':=9) u302 rfl rfl rfl sz_299 dc) ?_;refine aP 10 rfl (Det.indexA u299 KAe rfl rfl om) ?_;refine aD 11 rfl (dL rfl (hv:=KJ u188 rfl (by exact shL_k (show x<p256.R from h20)))) ?_;refine aP 12 rfl (KF rfl rfl (br_add32m)) ?_;refine aM 13 ?_;refine aP 14 rfl (KP u299 KAe rfl rfl om) ?_;refine aD 15 rfl (dL rfl (hv:=KJ u188 rfl (by exact KU _ _ _ h20))) ?_;refine aP 16 rfl (KF rfl rfl (br_add32m)) ?_;refine aP 17 rfl (KK (KO rfl) (show _ = .int .u32 ((p256.T1 (p256.rnds W h x) (nthN p256.K x) (W x):Nat):Int) from rfl)) ?_;refine aE ?_;refine KB ?_
   refine rD [] ?_;refine aP 0 rfl (KP (i:=0) u296 KAe rfl rfl om) ?_;refine aD 1 rfl (dL rfl (hv:=KJ u188 rfl (by exact KU _ _ _ om))) ?_;refine aP 3 rfl (KP (i:=0) u296 KAe rfl rfl om) ?_;refine aD 4 rfl (dL rfl (hv:=KJ u188 rfl (by exact KU _ _ _ om))) ?_;refine aP 7 rfl (KP (i:=0) u296 KAe rfl rfl om) ?_;refine aD 8 rfl (dL rfl (hv:=KJ u188 rfl (by exact KU _ _ _ om))) ?_;refine aO 2 rfl (cF rfl en_221 rfl (fun w hw=>c_rot256 _ _ dc dc w) ?_);refine aO 5 rfl (cF rfl en_221 rfl (fun w hw=>c_rot256 _ _ dc dc w) ?_);refine aP 6 rfl (KF rfl rfl (br_xor32m)) ?_;refine aO 9 rfl (cF rfl en_221 rfl (fun w hw=>c_rot256 _ _ dc dc w) ?_);refine aP 10 rfl (KF rfl rfl (br_xor32m)) ?_;refine aP 11 rfl (KK (KO rfl) (show _ = .int .u32 ((p256.sg (p256.rnds W h x).a p256.a1 p256.a2 p256.a3:Nat):Int) from rfl)) ?_;refine aE ?_
   refine KB (KA ?_);refine oP (KP (i:=0) u296 KAe rfl rfl om) ?_;refine oD (dL rfl (hv:=KJ u188 rfl (by exact KU _ _ _ om))) ?_;refine oP (KP (i:=1) u296 KAe rfl rfl om) ?_;refine oD (dL rfl (hv:=KJ u188 rfl (by exact KU _ _ _ om))) ?_;refine oP (KF rfl rfl (br_and32m)) ?_;refine oP (KP (i:=0) u296 KAe rfl rfl om) ?_;refine oD (dL rfl (hv:=KJ u188 rfl (by exact KU _ _ _ om))) ?_;refine oP (KP (i:=2) u296 KAe rfl rfl om) ?_;refine oD (dL rfl (hv:=KJ u188 rfl (by exact KU _ _ _ om))) ?_;refine oP (KF rfl rfl (br_and32m)) ?_;refine oP (KF rfl rfl (br_xor32m)) ?_;refine oP (KP (i:=1) u296 KAe rfl rfl om) ?_;refine oD (dL rfl (hv:=KJ u188 rfl (by exact KU _ _ _ om))) ?_;refine oP (KP (i:=2) u296 KAe rfl rfl om) ?_;refine oD (dL rfl (hv:=KJ u188 rfl (by exact KU _ _ _ om))) ?_
   refine oP (KF rfl rfl (br_and32m)) ?_;refine oP (KF rfl rfl (br_xor32m)) ?_;refine oP (KK (KO rfl) (show _ = .int .u32 ((p256.maj (p256.rnds W h x).a (p256.rnds W h x).b (p256.rnds W h x).c:Nat):Int) from rfl)) ?_;refine KC (KA (oM (oM ?_)));refine oP (KF rfl rfl (br_add32m)) ?_;refine oM ?_;refine oP (KF rfl rfl (br_add32m)) ?_;refine oP (KP (i:=0) u296 KAe rfl rfl om) ?_;refine oD (dL rfl (hv:=KJ u188 rfl (by exact KU _ _ _ om))) ?_;refine oP (KP (i:=1) u296 KAe rfl rfl om) ?_;refine oD (dL rfl (hv:=KJ u188 rfl (by exact KU _ _ _ om))) ?_;refine oP (KP (i:=2) u296 KAe rfl rfl om) ?_;refine oD (dL rfl (hv:=KJ u188 rfl (by exact KU _ _ _ om))) ?_;refine oP (KP (i:=3) u296 KAe rfl rfl om) ?_;refine oD (dL rfl (hv:=KJ u188 rfl (by exact KU _ _ _ om))) ?_;refine oM ?_;refine oP (KF rfl rfl (br_add32m)) ?_
   refine oP (KP (i:=4) u296 KAe rfl rfl om) ?_;refine oD (dL rfl (hv:=KJ u188 rfl (by exact KU _ _ _ om))) ?_;refine oP (KP (i:=5) u296 KAe rfl rfl om) ?_;refine oD (dL rfl (hv:=KJ u188 rfl (by exact KU _ _ _ om))) ?_;refine oP (KP (i:=6) u296 KAe rfl rfl om) ?_;refine oD (dL rfl (hv:=KJ u188 rfl (by exact KU _ _ _ om))) ?_;refine oP (KK (Kd pl_296 zr_296 rfl (fill8_32 _ _ _ _ _ _ _ _)) (show _ = Value.agg (vec .u32 8 (S8.at (p256.stp (p256.rnds W h x) (nthN p256.K x) (W x)))).toArray from rfl)) ?_;refine LOps.step rfl (sA rfl rfl sz_296 mO (hl:=mL) (h:=?_));refine KC (KA ?_);refine oP (KF rfl rfl (Ko (b:=1) om)) ?_;refine oM (KC ?_)
   exact ⟨x+1,by omega,by omega,KAC (Sub.cells (b:=b5) (cs':=vec .u32 8 (S8.at (p256.rnds W h (x+1)))) (by repeat (first|exact Sh _|apply St_)) rfl) (Ka ⟨rfl,rfl,rfl,rfl,trivial⟩ mS)⟩
  have h20:¬ x<64:=h20
  obtain rfl:x = 64:=by omega
  refine Kc (KB ?_)
  obtain ⟨s,hs⟩:∃ s,s = p256.rnds W h 64:=⟨_,rfl⟩
  rw [← hs]
  refine KA ?_;refine oP (Ki (v:=.int .i64 ((0:Nat):Int)) rfl) ?_;refine KC (LCode.block ?_);refine Ke (α:=Nat) (fun y=>y≤8) (fun y=>⟨[(0,.pointer (some ⟨hb,0,none⟩)),(5,.pointer (some ⟨b5,0,none⟩)),(113,.int .i64 ((y:Nat):Int))],[.blk hb ⟨true,shL .u32 p256 size (mixF y (p256.fin h s).at h.at) v n,302,(0,0)⟩,.blk b5 ⟨true,vec .u32 8 (S8.at s),296,(0,0)⟩]⟩) (fun y=>8-y) (0) (Nat.zero_le _) (KAC (Sub.cells (b:=hb) (cs':=shL .u32 p256 size (mixF 0 (p256.fin h s).at h.at) v n) (by repeat (first|exact Sh _|apply St_)) (shL_congr fun i _=>mixF_0 _ _ i)) (Ka ⟨rfl,rfl,rfl,trivial⟩ mS)) ?_
  intro y hy
  refine KB (KA ?_);refine oP (KF rfl rfl (KAF (b:=8))) ?_;refine KC (KB ?_)
  first|refine KR rfl (fun h114=>?_) (fun h114=>?_)|refine KS rfl (fun h114=>?_) (fun h114=>?_)
  ·
   have h114:y<8:=h114
   refine KN (KB (LCode.block (KB (KA (oM (oA (KC ?_)))))));refine rD [13] ?_;refine aM 0 ?_;refine aM 1 ?_;refine aP 2 rfl (KG rfl) ?_;refine aP 3 rfl (KE (o':=1) u302 rfl rfl rfl sz_296 dc) ?_;refine aP 4 rfl (Det.indexA u296 KAe rfl rfl om) ?_;refine aD 5 rfl (dL rfl (hv:=KJ u188 rfl (by exact shL_h h114))) ?_;refine aM 6 ?_;refine aP 7 rfl (KP u296 KAe rfl rfl om) ?_;refine aD 8 rfl (dL rfl (hv:=KJ u188 rfl (by exact KU _ _ _ om))) ?_;refine aP 9 rfl (KF rfl rfl (br_add32m)) ?_;refine aP 10 rfl (KG rfl) ?_;refine aP 11 rfl (KE (o':=1) u302 rfl rfl rfl sz_296 dc) ?_;refine aP 12 rfl (Det.indexA u296 KAe rfl rfl om) ?_;refine aL 13 rfl (KZ rfl rfl rfl KAe (by repeat (first|exact Sh _|apply St_)) (by rw [shL_length]; show _<75; omega) (shL_seth h114) (by simp) ?_);refine aE ?_;refine KA ?_;refine oP (KF rfl rfl (Ko (b:=1) om)) ?_
   refine oM (KC ?_)
   exact ⟨y+1,by omega,by omega,KAC (Sub.cells (b:=hb) (cs':=shL .u32 p256 size (mixF (y+1) (p256.fin h s).at h.at) v n) (by repeat (first|exact Sh _|apply St_)) (shL_congr fun i _=>p256.fin_next h s h114 i)) (Ka ⟨rfl,rfl,rfl,trivial⟩ mS)⟩
  have h114:¬ y<8:=h114
  obtain rfl:y = 8:=by omega
  refine Kc ?_;refine ⟨[],.nil,fun a w' hr=>⟨_,_,⟨rfl,rfl⟩,rfl,?_⟩⟩
  have e8:shL .u32 p256 size (mixF 8 (p256.fin h s).at h.at) v n = shL .u32 p256 size ((p256.turn h f).at) v n:=shL_congr fun i hi=>(by rw [mixF_8 _ _ hi,hs,hW]; rfl)
  rw [← e8]
  exact hr.out mS rfl
theorem c_blocks256 (size n:Nat) (h:S8) (v:Value) (hb:Nat) (r:BsRow) (l:List Nat) (w:World) (hH:∀ x,x∈([.blk hb ⟨true,shL .u32 p256 size (h.at) v n,302,(0,0)⟩]++[roI 5 r l]:List Item)→x.holds w) (hd:([.blk hb ⟨true,shL .u32 p256 size (h.at) v n,302,(0,0)⟩]++[roI 5 r l]:List Item).Pairwise Apart)  : Calls Tryz.prog 198 ([.func (.func 199) #[.pointer (some ⟨hb,0,none⟩)] #[],bsV r l.length]:List Value).toArray w (fun e w'=>∃ (u:Value) (x':Item),((∃ r',u = bsV r' (l.drop (64*(l.length/64))).length∧bsFp r' = bsFp r∧∀ w,(roI 5 r l).holds w→(roI 5 r' (l.drop (64*(l.length/64)))).holds w)∧x' = .blk hb ⟨true,shL .u32 p256 size ((p256.blks l (l.length/64) h).at) v n,302,(0,0)⟩)∧e = .returned u∧Outcome w [.blk hb ⟨true,shL .u32 p256 size (h.at) v n,302,(0,0)⟩] [x'] w'):=by
  refine KAW [.blk hb ⟨true,shL .u32 p256 size (h.at) v n,302,(0,0)⟩,roI 5 r l] (N:=15) (rs:=[.tmp 4]) Tryz.func198 rfl Tryz.ntmps198 Tryz.results198 (Nb rfl) hH hd rfl rfl ?_
  refine KB (KA (oA (KC (KB (LCode.block ?_)))));refine Ke (α:=Nat×BsRow) (fun x=>x.1≤l.length/64∧bsFp x.2 = bsFp r∧∀ w,(roI 5 r l).holds w→(roI 5 x.2 (l.drop (64*x.1))).holds w) (fun x=>⟨[(0,.func (.func 199) #[.pointer (some ⟨hb,0,none⟩)] #[]),(1,bsV x.2 (l.drop (64*x.1)).length)],[.blk hb ⟨true,shL .u32 p256 size ((p256.blks l x.1 h).at) v n,302,(0,0)⟩,roI 5 x.2 (l.drop (64*x.1))]⟩) (fun x=>l.length/64-x.1) ((0,r)) (⟨Nat.zero_le _,rfl,fun w h=>h⟩) (Ka ⟨rfl,rfl,trivial⟩ mS) ?_
  rintro ⟨q,r2⟩ ⟨hq,hfp,hpw⟩
  dsimp only at hq hfp hpw ⊢
  have hlen:(l.drop (64*q)).length = l.length-64*q:=List.length_drop
  refine KB (KB (KA (oM ?_)));refine oP (Det.len u70 rfl) ?_;refine oP (KF rfl rfl (br_geq (b:=64))) ?_;refine KC ?_
  first|refine KR rfl (fun h7=>?_) (fun h7=>?_)|refine KS rfl (fun h7=>?_) (fun h7=>?_)
  ·
   have h7:64≤l.length-64*q:=hlen ▸ h7
   have hk:64≤(l.drop (64*q)).length:=by omega
   refine LCode.know (x:=roI 5 r2 (l.drop (64*q))) mM (φ:=r2≠none) (fun w hw e=>?_) (fun hne=>?_)
   · subst e
     have:(l.drop (64*q)) = []:=roI_P hw
     rw [this] at hk
     exact absurd hk dc
   obtain ⟨⟨b2,pre,more,ex⟩,rfl⟩:∃ z,r2 = some z:=by cases r2 with|none=>exact absurd rfl hne|some z=>exact ⟨z,rfl⟩
   refine KN (KB (LCode.block (KA (oM (oM ?_)))));refine oP (Det.slH u70 sz_5 rfl rfl om (by simp only [bsM]; omega)) ?_;refine LOps.step rfl (Km (first:=[.pointer (some ⟨hb,0,none⟩)]) (caps:=[]) rfl en_199 rfl (Nb rfl) sR wK (fun w hH hd=>c_turn256 (fun j=>nthN (l.drop (64*q)) j) size n (p256.blks l q h) v hb b2 pre.length 64 _ _ (0,0) rfl (fun j hj=>bs_cell (Nat.lt_of_lt_of_le hj hk)) w hH hd) ?_)
   rintro _ _ ⟨rfl,rfl⟩
   refine KC (KA (oM ?_));refine oP (Det.slDrop (l:=(l.drop (64*q))) (k:=64) u70 sz_5 rfl rfl hk (by simp)) ?_;refine oA (KC ?_);refine ⟨(q+1,bsDrop (some (b2,pre,more,ex)) (l.drop (64*q)) 64),⟨by dsimp only; omega,by dsimp only; rw [bsDrop_fp]; exact hfp,fun w hw=>?_⟩,by dsimp only; omega,KAC (Sub.drop (k:=64) hk mP) ?_⟩
   · have:=bsDrop_ro hk w (hpw w hw)
     dsimp only
     rw [List.drop_drop] at this
     exact this
   · dsimp only
     rw [List.drop_drop]
     exact Ka ⟨rfl,rfl,trivial⟩ mS
  have h7:¬ 64≤l.length-64*q:=hlen ▸ h7
  obtain rfl:q = l.length/64:=by omega
  refine Kc (KB (KA (oM (oA (KC (KM ?_))))));refine ⟨[_],.cons rfl .nil,fun a w' hr=>⟨_,_,⟨⟨_,rfl,hfp,hpw⟩,rfl⟩,rfl,hr.out mS rfl⟩⟩
theorem c_shaNew224  (w:World) (hH:∀ x,x∈([]++[]:List Item)→x.holds w) (hd:([]++[]:List Item).Pairwise Apart)  : Calls Tryz.prog 170 ([.int .i64 ((224:Nat):Int)]:List Value).toArray w (fun e w'=>∃ (u:Value) (x':Item),(∃ b,u = .tuple #[.pointer (some ⟨b,0,none⟩),.int .i64 ((0:Nat):Int)]∧x' = .blk b ⟨true,shL .u32 p256 224 (S8.at iv224) (.slice none 0 0) (0),302,(0,0)⟩)∧e = .returned u∧Outcome w [] [x'] w'):=by
  refine KAW [] (N:=18) (rs:=[.tmp 2,.tmp 3]) Tryz.func170 rfl Tryz.ntmps170 Tryz.results170 (Nb rfl) hH hd rfl rfl ?_
  refine KB (KA (oA ?_));refine oP (KO (v:=.int .i64 ((0:Nat):Int)) rfl) ?_;refine KC (KB (KA (oM ?_)));refine oS (cF rfl en_194 rfl (fun w hw=>c_beg224 w) ?_);refine oM ?_;refine oP (Det.extract rfl rfl) ?_;refine oP (Det.extract rfl rfl) ?_;refine oS (mk (KL zr_296) (fun b4=>?_));refine LOps.step rfl (sA rfl rfl sz_296 mO (hl:=mL) (h:=?_));refine oA (KC (KB (KB (KA (oM ?_)))));refine oP (KK (KAK rfl) (show _ = Value.bool false from rfl)) ?_;refine KC ?_;refine KH rfl ?_;refine KN (KB ?_);refine rD [] ?_;refine aM 0 ?_;refine aD 1 rfl (dL rfl (hv:=by exact KD u296 rfl sz_296)) ?_;refine aO 2 rfl (cF rfl en_195 rfl (fun w hw=>c_cons256 w) ?_);refine aP 3 rfl (Kd pl_302 zr_302 rfl (fT (r':=([.int .i64 ((224:Nat):Int)]++(vec .u32 8 (S8.at iv224)++(vec .u32 64 (nthN p256.K)++([Value.slice none 0 0]++([Value.int .u64 ((0:Nat):Int)])))))) (fS (A:=([]:List Value)) (B:=([Value.int .i64 ((0:Nat):Int)])) (D:=(vec .u32 8 (fun _=>0)++(vec .u32 64 (fun _=>0)++([Value.slice none 0 0]++([Value.int .u64 ((0:Nat):Int)]))))) (cs:=[.int .i64 ((224:Nat):Int)]) (fS (A:=([.int .i64 ((224:Nat):Int)])) (B:=(vec .u32 8 (fun _=>0))) (D:=(vec .u32 64 (fun _=>0)++([Value.slice none 0 0]++([Value.int .u64 ((0:Nat):Int)])))) (cs:=vec .u32 8 (S8.at iv224)) (fS (A:=([.int .i64 ((224:Nat):Int)]++(vec .u32 8 (S8.at iv224)))) (B:=(vec .u32 64 (fun _=>0))) (D:=([Value.slice none 0 0]++([Value.int .u64 ((0:Nat):Int)]))) (cs:=vec .u32 64 (nthN p256.K)) rfl))))) ?_
  refine aO 4 rfl (mB (fun b17=>?_));refine aA 5 ?_;refine aP 6 rfl (KO (v:=.int .i64 ((0:Nat):Int)) rfl) ?_;refine aE ?_;refine KM ?_;refine ⟨[_,_],.cons rfl (.cons rfl .nil),fun a w' hr=>⟨_,_,⟨b17,rfl,rfl⟩,rfl,hr.out mS rfl⟩⟩
theorem c_shaNew256  (w:World) (hH:∀ x,x∈([]++[]:List Item)→x.holds w) (hd:([]++[]:List Item).Pairwise Apart)  : Calls Tryz.prog 170 ([.int .i64 ((256:Nat):Int)]:List Value).toArray w (fun e w'=>∃ (u:Value) (x':Item),(∃ b,u = .tuple #[.pointer (some ⟨b,0,none⟩),.int .i64 ((0:Nat):Int)]∧x' = .blk b ⟨true,shL .u32 p256 256 (S8.at iv256) (.slice none 0 0) (0),302,(0,0)⟩)∧e = .returned u∧Outcome w [] [x'] w'):=by
  refine KAW [] (N:=18) (rs:=[.tmp 2,.tmp 3]) Tryz.func170 rfl Tryz.ntmps170 Tryz.results170 (Nb rfl) hH hd rfl rfl ?_
  refine KB (KA (oA ?_));refine oP (KO (v:=.int .i64 ((0:Nat):Int)) rfl) ?_;refine KC (KB (KA (oM ?_)));refine oS (cF rfl en_194 rfl (fun w hw=>c_beg256 w) ?_);refine oM ?_;refine oP (Det.extract rfl rfl) ?_;refine oP (Det.extract rfl rfl) ?_;refine oS (mk (KL zr_296) (fun b4=>?_));refine LOps.step rfl (sA rfl rfl sz_296 mO (hl:=mL) (h:=?_));refine oA (KC (KB (KB (KA (oM ?_)))));refine oP (KK (KAK rfl) (show _ = Value.bool false from rfl)) ?_;refine KC ?_;refine KH rfl ?_;refine KN (KB ?_);refine rD [] ?_;refine aM 0 ?_;refine aD 1 rfl (dL rfl (hv:=by exact KD u296 rfl sz_296)) ?_;refine aO 2 rfl (cF rfl en_195 rfl (fun w hw=>c_cons256 w) ?_);refine aP 3 rfl (Kd pl_302 zr_302 rfl (fT (r':=([.int .i64 ((256:Nat):Int)]++(vec .u32 8 (S8.at iv256)++(vec .u32 64 (nthN p256.K)++([Value.slice none 0 0]++([Value.int .u64 ((0:Nat):Int)])))))) (fS (A:=([]:List Value)) (B:=([Value.int .i64 ((0:Nat):Int)])) (D:=(vec .u32 8 (fun _=>0)++(vec .u32 64 (fun _=>0)++([Value.slice none 0 0]++([Value.int .u64 ((0:Nat):Int)]))))) (cs:=[.int .i64 ((256:Nat):Int)]) (fS (A:=([.int .i64 ((256:Nat):Int)])) (B:=(vec .u32 8 (fun _=>0))) (D:=(vec .u32 64 (fun _=>0)++([Value.slice none 0 0]++([Value.int .u64 ((0:Nat):Int)])))) (cs:=vec .u32 8 (S8.at iv256)) (fS (A:=([.int .i64 ((256:Nat):Int)]++(vec .u32 8 (S8.at iv256)))) (B:=(vec .u32 64 (fun _=>0))) (D:=([Value.slice none 0 0]++([Value.int .u64 ((0:Nat):Int)]))) (cs:=vec .u32 64 (nthN p256.K)) rfl))))) ?_
  refine aO 4 rfl (mB (fun b17=>?_));refine aA 5 ?_;refine aP 6 rfl (KO (v:=.int .i64 ((0:Nat):Int)) rfl) ?_;refine aE ?_;refine KM ?_;refine ⟨[_,_],.cons rfl (.cons rfl .nil),fun a w' hr=>⟨_,_,⟨b17,rfl,rfl⟩,rfl,hr.out mS rfl⟩⟩
theorem c_shaWrite256 (size n:Nat) (h:S8) (rest:List Nat) (r:BsRow) (hb:Nat) (s:ByteArray) (hrl:rest.length≤64) (hs:s.size≤140737488351232) (w:World) (hH:∀ x,x∈([.blk hb ⟨true,shL .u32 p256 size (h.at) (bsV r rest.length) (n),302,(0,0)⟩,bsI 5 r rest]++[]:List Item)→x.holds w) (hd:([.blk hb ⟨true,shL .u32 p256 size (h.at) (bsV r rest.length) (n),302,(0,0)⟩,bsI 5 r rest]++[]:List Item).Pairwise Apart)  : Calls Tryz.prog 172 ([.pointer (some ⟨hb,0,none⟩),.string s]:List Value).toArray w (fun e w'=>∃ (u:Value) (x':Item) (y':Item),(∃ r',u = .int .i64 ((0:Nat):Int)∧x' = .blk hb ⟨true,shL .u32 p256 size ((p256.write (⟨h,rest,n⟩:ShS) (ofS s)).h.at) (bsV r' (p256.write (⟨h,rest,n⟩:ShS) (ofS s)).rest.length) ((p256.write (⟨h,rest,n⟩:ShS) (ofS s)).n),302,(0,0)⟩∧y' = bsI 5 r' (p256.write (⟨h,rest,n⟩:ShS) (ofS s)).rest)∧e = .returned u∧Outcome w [.blk hb ⟨true,shL .u32 p256 size (h.at) (bsV r rest.length) (n),302,(0,0)⟩,bsI 5 r rest] [x',y'] w'):=by
  have hl:(ofS s).length≤140737488351232:=by rw [ofS_length]; exact hs
  refine KAW [.blk hb ⟨true,shL .u32 p256 size (h.at) (bsV r rest.length) (n),302,(0,0)⟩,bsI 5 r rest] (N:=33) (rs:=[.tmp 4]) Tryz.func172 rfl Tryz.ntmps172 Tryz.results172 (Nb rfl) hH hd rfl rfl ?_
  refine KB (KA ?_);refine oP (KO (v:=.int .i64 ((0:Nat):Int)) rfl) ?_;refine KC (KB (KB (KA (oM ?_))));refine oP (KAN u255 rfl rfl) ?_;refine KC ?_;refine KH rfl ?_;refine KN (KB (KA (oM ?_)));refine oP (KG rfl) ?_;refine oP (KE (o':=74) u302 rfl rfl rfl sz_30 dc) ?_;refine oD (dL rfl (hv:=KJ u30 rfl (by exact shL_n))) ?_;refine oM ?_;refine oP (KK (KAZ u9 rfl) (show _ = .int .i64 (((ofS s).length:Nat):Int) by rw [ofS_length])) ?_;refine oP (Det.conv64 u3 u30 rfl (by first|omega|exact Nat.lt_trans (D.limb_lt _ _) dc)) ?_;refine oP (KF rfl rfl (KAX)) ?_;refine oP (KG rfl) ?_;refine oP (KE (o':=74) u302 rfl rfl rfl sz_30 dc) ?_;refine LOps.step rfl (KZ rfl rfl rfl sz_30 (by repeat (first|exact Sh _|apply St_)) (by rw [shL_length]; decide) (shL_setn) (by simp) ?_);refine KC (KB (KA (oM ?_)));refine oP (KG rfl) ?_
  refine oP (KE (o':=73) u302 rfl rfl rfl sz_70 dc) ?_;refine oD (dL rfl (hv:=KJ u70 rfl (by exact shL_r))) ?_;refine LOps.step rfl (LStepW.appendN0 (news:=rest) rfl rfl u70 inf_5 (fun w hw=>src_bs u70 (hw (bsI 5 r rest) mM)) om (Nb rfl) ?_)
  intro r1
  refine oM ?_;refine LOps.step rfl (KAO (news:=ofS s) rfl rfl u70 inf_5 mP (fun w hw=>src_str u9) om (Nb rfl) ?_)
  intro r2
  refine oA (KC (KB (KA (oM (oM ?_)))));refine oP (KAS rfl) ?_;refine oM ?_;refine LOps.step rfl (Km (first:=[]) (caps:=[]) rfl en_198 rfl (Nb rfl) sR wK (fun w hH hd=>c_blocks256 size _ h _ hb r2 (rest++ofS s) w hH hd) ?_)
  rintro _ _ ⟨⟨r3,rfl,hfp,hpw⟩,rfl⟩
  refine LOps.step rfl (LStepW.appendN0 (news:=((rest++ofS s).drop (64*((rest++ofS s).length/64)))) rfl rfl u70 inf_5 (fun w hw=>src_bs u70 (show (bsI 5 r3 ((rest++ofS s).drop (64*((rest++ofS s).length/64)))).holds w from hpw w (hw (bsI 5 r2 (rest++ofS s)) mM))) (by rw [List.length_drop,List.length_append]; omega) (Nb rfl) ?_)
  intro r4
  refine oP (KG rfl) ?_;refine oP (KE (o':=73) u302 rfl rfl rfl sz_70 dc) ?_;refine LOps.step rfl (KZ rfl rfl rfl sz_70 (by repeat (first|exact Sh _|apply St_)) (by rw [shL_length]; decide) (shL_setr) (by simp) ?_);refine KC (KB (KA ?_));refine oP (KO (v:=.int .i64 ((0:Nat):Int)) rfl) ?_;refine KC (KM ?_);refine ⟨[_],.cons rfl .nil,fun a w' hr=>⟨_,_,_,⟨r4,rfl,rfl,rfl⟩,rfl,hr.out mS rfl⟩⟩
theorem c_shaSum256 (size n:Nat) (h:S8) (rest:List Nat) (r:BsRow) (hb:Nat) (hrl:rest.length<64) (hsz:size/8≤32) (hsz2:size<1000) (w:World) (h1:(Item.blk hb ⟨false,shL .u32 p256 size (h.at) (bsV r rest.length) (n),302,(0,0)⟩).holds w) (h2:(roI 5 r rest).holds w):Calls Tryz.prog 173 ([.pointer (some ⟨hb,0,none⟩)]:List Value).toArray w (fun e w'=>e = .returned (.string (toS (p256.sum (⟨h,rest,n⟩:ShS) (size/8))))∧Below w.heap.size w w'):=by
  refine KX (N:=82) (rs:=[.tmp 2]) [.blk hb ⟨false,shL .u32 p256 size (h.at) (bsV r rest.length) (n),302,(0,0)⟩,roI 5 r rest] Tryz.func173 rfl Tryz.ntmps173 Tryz.results173 (Nb rfl) ⟨h1,h2,trivial⟩ rfl ?_
  refine KB (KA (oA (KC (KB (KB (KA (oM ?_)))))));refine oP (KAN u255 rfl rfl) ?_;refine KC ?_;refine KH rfl ?_;refine KN (KB (KA (oM ?_)));refine oP (KG rfl) ?_;refine oD (dL rfl (hv:=by exact KD u302 rfl (by rw [shL_length]; exact sz_302))) ?_;refine oS (mk (KL zr_302) (fun b3=>?_));refine LOps.step rfl (sA rfl rfl (by rw [shL_length]; exact sz_302) (shL_one rfl) (hl:=by rw [shL_length]; rfl) (h:=?_));refine KC (KB (KA (oM ?_)));refine oP (KG rfl) ?_;refine oP (KE (o':=73) u302 rfl rfl rfl sz_70 dc) ?_;refine oD (dL rfl (hv:=KJ u70 rfl (by exact shL_r))) ?_;refine LOps.step rfl (LStepW.appendN0 (news:=rest) rfl rfl u70 inf_5 (fun w hw=>src_bs u70 (show (bsI 5 r rest).holds w from hw (roI 5 r rest) mM)) om (Nb rfl) ?_)
  intro r19
  refine oS (mk (KAc u70 inf_5 rfl rfl rfl rfl dc rfl) (fun b20=>?_));refine LOps.step rfl (KAO (news:=[128]) rfl rfl u70 inf_5 mP (fun w hw=>src_blk (l:=[128]) u70 (hw (.blk b20 ⟨true,numL [128],5,(0,0)⟩) mM)) (by first|omega|(simp only [List.length_append,List.length_replicate,List.length_cons,List.length_nil,lenP_length,Hp.outP_length,Hp.wbP_length]; omega)|(have hw:i*p256.wb≤32:=Nat.mul_le_mul_right 4 (Nat.le_of_lt h58); simp only [List.length_append,Hp.outP_length,Hp.wbP_length,List.length_cons,List.length_nil]; omega)) (Nb rfl) ?_)
  intro r21
  rw [show (rest++[128]) = ((rest++[128])++List.replicate (0) 0) from (List.append_nil _).symm]
  refine oA (KC (KB (LCode.block ?_)));refine Ke (α:=Nat×BsRow) (fun x=>x.1≤p256.zs rest.length) (fun x=>⟨[(0,.pointer (some ⟨hb,0,none⟩)),(3,.pointer (some ⟨b3,0,none⟩)),(4,bsV x.2 ((rest++[128])++List.replicate (x.1) 0).length)],[.blk hb ⟨false,shL .u32 p256 size (h.at) (bsV r rest.length) (n),302,(0,0)⟩,roI 5 r rest,.blk b3 ⟨true,shL .u32 p256 size (h.at) (bsV r rest.length) (n),302,(0,0)⟩,bsI 5 x.2 ((rest++[128])++List.replicate (x.1) 0)]⟩) (fun x=>p256.zs rest.length-x.1) ((0,r21)) (Nat.zero_le _) (Ka ⟨rfl,rfl,rfl,trivial⟩ mS) ?_
  rintro ⟨j,rj⟩ hj
  dsimp only at hj ⊢
  have hz:p256.zs rest.length = (64+56-(rest.length+1)%64)%64:=rfl
  have hlen:((rest++[128])++List.replicate (j) 0).length = rest.length+1+j:=by simp only [List.length_append,List.length_replicate,List.length_cons,List.length_nil]
  refine KB (KB (KA (oM ?_)));refine oP (Det.len u70 rfl) ?_;refine oP (KF rfl rfl (br_rem (b:=64) om)) ?_;refine oP (KF rfl rfl (br_neq (b:=56))) ?_;refine KC ?_
  first|refine KR rfl (fun h25=>?_) (fun h25=>?_)|refine KS rfl (fun h25=>?_) (fun h25=>?_)
  ·
   have h25:j<p256.zs rest.length:=by
     rw [hlen] at h25
     omega
   refine KN (LCode.block (KA (oM ?_)));refine oS (mk (KAc u70 inf_5 rfl rfl rfl rfl dc rfl) (fun b27=>?_));refine LOps.step rfl (KAO (news:=[0]) rfl rfl u70 inf_5 mP (fun w hw=>src_blk (l:=[0]) u70 (hw (.blk b27 ⟨true,numL [0],5,(0,0)⟩) mM)) (by first|omega|(simp only [List.length_append,List.length_replicate,List.length_cons,List.length_nil,lenP_length,Hp.outP_length,Hp.wbP_length]; omega)|(have hw:i*p256.wb≤32:=Nat.mul_le_mul_right 4 (Nat.le_of_lt h58); simp only [List.length_append,Hp.outP_length,Hp.wbP_length,List.length_cons,List.length_nil]; omega)) (Nb rfl) ?_)
   intro rk
   rw [rep_succ]
   refine oA (KC ?_)
   exact ⟨(j+1,rk),by dsimp only; omega,by dsimp only; omega,Ka ⟨rfl,rfl,rfl,trivial⟩ mS⟩
  obtain rfl:j = p256.zs rest.length:=by
    rw [hlen] at h25
    omega
  refine Kc (KB (KB ?_))
  rw [show ((rest++[128])++List.replicate (p256.zs rest.length) 0) = (((rest++[128])++List.replicate (p256.zs rest.length) 0)++List.replicate (0) 0) from (List.append_nil _).symm]
  refine KA ?_;refine oP (Ki (v:=.int .i64 ((0:Nat):Int)) rfl) ?_;refine KC (LCode.block ?_);refine Ke (α:=Nat×BsRow) (fun x=>x.1≤0) (fun x=>⟨[(0,.pointer (some ⟨hb,0,none⟩)),(3,.pointer (some ⟨b3,0,none⟩)),(4,bsV x.2 (((rest++[128])++List.replicate (p256.zs rest.length) 0)++List.replicate (x.1) 0).length),(29,.int .i64 ((x.1:Nat):Int))],[.blk hb ⟨false,shL .u32 p256 size (h.at) (bsV r rest.length) (n),302,(0,0)⟩,roI 5 r rest,.blk b3 ⟨true,shL .u32 p256 size (h.at) (bsV r rest.length) (n),302,(0,0)⟩,bsI 5 x.2 (((rest++[128])++List.replicate (p256.zs rest.length) 0)++List.replicate (x.1) 0)]⟩) (fun x=>0-x.1) ((0,rj)) (Nat.zero_le _) (Ka ⟨rfl,rfl,rfl,rfl,trivial⟩ mS) ?_
  rintro ⟨j,rj⟩ hj
  dsimp only at hj ⊢
  refine KB (KA ?_);refine oP (KF rfl rfl (KAF (b:=0))) ?_;refine KC (KB ?_)
  first|refine KR rfl (fun h30=>?_) (fun h30=>?_)|refine KS rfl (fun h30=>?_) (fun h30=>?_)
  ·
   have h30:j<0:=h30
   refine KN (KB (LCode.block (KA (oM ?_))));refine oS (mk (KAc u70 inf_5 rfl rfl rfl rfl dc rfl) (fun b32=>?_));refine LOps.step rfl (KAO (news:=[0]) rfl rfl u70 inf_5 mP (fun w hw=>src_blk (l:=[0]) u70 (hw (.blk b32 ⟨true,numL [0],5,(0,0)⟩) mM)) (by first|omega|(simp only [List.length_append,List.length_replicate,List.length_cons,List.length_nil,lenP_length,Hp.outP_length,Hp.wbP_length]; omega)|(have hw:i*p256.wb≤32:=Nat.mul_le_mul_right 4 (Nat.le_of_lt h58); simp only [List.length_append,Hp.outP_length,Hp.wbP_length,List.length_cons,List.length_nil]; omega)) (Nb rfl) ?_)
   intro rk
   rw [rep_succ]
   refine oA (KC (KA ?_));refine oP (KF rfl rfl (Ko (b:=1) om)) ?_;refine oM (KC ?_)
   exact ⟨(j+1,rk),by dsimp only; omega,by dsimp only; omega,Ka ⟨rfl,rfl,rfl,rfl,trivial⟩ mS⟩
  have h30:¬ j<0:=h30
  obtain rfl:j = 0:=by omega
  refine Kc (KB (KB ?_))
  rw [show (((rest++[128])++List.replicate (p256.zs rest.length) 0)++List.replicate (0) 0) = ((((rest++[128])++List.replicate (p256.zs rest.length) 0)++List.replicate (0) 0)++lenP n (0)) from (List.append_nil _).symm]
  refine KA ?_;refine oP (Ki (v:=.int .i64 ((0:Nat):Int)) rfl) ?_;refine KC (LCode.block ?_);refine Ke (α:=Nat×BsRow) (fun x=>x.1≤8) (fun x=>⟨[(0,.pointer (some ⟨hb,0,none⟩)),(3,.pointer (some ⟨b3,0,none⟩)),(4,bsV x.2 ((((rest++[128])++List.replicate (p256.zs rest.length) 0)++List.replicate (0) 0)++lenP n (x.1)).length),(35,.int .i64 ((x.1:Nat):Int))],[.blk hb ⟨false,shL .u32 p256 size (h.at) (bsV r rest.length) (n),302,(0,0)⟩,roI 5 r rest,.blk b3 ⟨true,shL .u32 p256 size (h.at) (bsV r rest.length) (n),302,(0,0)⟩,bsI 5 x.2 ((((rest++[128])++List.replicate (p256.zs rest.length) 0)++List.replicate (0) 0)++lenP n (x.1))]⟩) (fun x=>8-x.1) ((0,rj)) (Nat.zero_le _) (Ka ⟨rfl,rfl,rfl,rfl,trivial⟩ mS) ?_
  rintro ⟨j,rj⟩ hj
  dsimp only at hj ⊢
  refine KB (KA ?_);refine oP (KF rfl rfl (KAF (b:=8))) ?_;refine KC (KB ?_)
  first|refine KR rfl (fun h36=>?_) (fun h36=>?_)|refine KS rfl (fun h36=>?_) (fun h36=>?_)
  ·
   have h36:j<8:=h36
   refine KN (KB (LCode.block (KB (KA (oM (oA (KC (KA (oM (oM ?_))))))))));refine oP (KG rfl) ?_;refine oP (KE (o':=74) u302 rfl rfl rfl sz_30 dc) ?_;refine oD (dL rfl (hv:=KJ u30 rfl (by exact shL_n))) ?_;refine oP (KF rfl rfl (br_shl64m (b:=3) dc)) ?_;refine oM ?_;refine oP (KF rfl rfl (br_mul (a:=8) om)) ?_;refine oP (KF rfl rfl (KAb (a:=56) om om)) ?_;refine oP (KF rfl rfl (br_shr64m om)) ?_;refine oP (Det.conv8 u30 u5 rfl) ?_;refine oS (mk (KAc u70 inf_5 rfl rfl rfl rfl dc rfl) (fun b49=>?_));refine LOps.step rfl (KAO (news:=[n*2^3%18446744073709551616/2^(56-8*j)%256]) rfl rfl u70 inf_5 mP (fun w hw=>src_blk (l:=[n*2^3%18446744073709551616/2^(56-8*j)%256]) u70 (hw (.blk b49 ⟨true,numL [n*2^3%18446744073709551616/2^(56-8*j)%256],5,(0,0)⟩) mM)) (by first|omega|(simp only [List.length_append,List.length_replicate,List.length_cons,List.length_nil,lenP_length,Hp.outP_length,Hp.wbP_length]; omega)|(have hw:i*p256.wb≤32:=Nat.mul_le_mul_right 4 (Nat.le_of_lt h58); simp only [List.length_append,Hp.outP_length,Hp.wbP_length,List.length_cons,List.length_nil]; omega)) (Nb rfl) ?_)
   intro rk
   rw [List.append_assoc,← lenP_succ]
   refine oA (KC (KA ?_));refine oP (KF rfl rfl (Ko (b:=1) om)) ?_;refine oM (KC ?_)
   exact ⟨(j+1,rk),by dsimp only; omega,by dsimp only; omega,Ka ⟨rfl,rfl,rfl,rfl,trivial⟩ mS⟩
  have h36:¬ j<8:=h36
  obtain rfl:j = 8:=by omega
  refine Kc (KB (KA ?_));refine oP (KAS rfl) ?_;refine oM ?_;refine LOps.step rfl (Km (first:=[]) (caps:=[]) rfl en_198 rfl (Nb rfl) sR wK (fun w hH hd=>c_blocks256 size _ h _ b3 rj ((((rest++[128])++List.replicate (p256.zs rest.length) 0)++List.replicate (0) 0)++lenP n (8)) w hH hd) ?_)
  rintro _ _ ⟨⟨r5,rfl,hfp,hpw⟩,rfl⟩
  obtain ⟨g,hg⟩:∃ g,g = (p256.blks ((((rest++[128])++List.replicate (p256.zs rest.length) 0)++List.replicate (0) 0)++lenP n (8)) (((((rest++[128])++List.replicate (p256.zs rest.length) 0)++List.replicate (0) 0)++lenP n (8)).length/64) h):=⟨_,rfl⟩
  rw [← hg]
  refine KC (KB (KA (oA (KC (KB (KB (KA ?_)))))));refine oP (KE (o':=1) u302 rfl rfl rfl sz_296 dc) ?_;refine oD (dL rfl (hv:=by exact LoadV.many u296 rfl sz_296 shL_hs (by rw [shL_length]; decide))) ?_;refine oP (Ki (v:=.int .i64 ((0:Nat):Int)) rfl) ?_;refine KC (LCode.block ?_);refine Ke (α:=Nat×BsRow) (fun x=>x.1≤8) (fun x=>⟨[(0,.pointer (some ⟨hb,0,none⟩)),(6,bsV x.2 (p256.outP g (x.1)).length),(56,.agg (vec .u32 8 (g.at)).toArray),(57,.int .i64 ((x.1:Nat):Int))],[.blk hb ⟨false,shL .u32 p256 size (h.at) (bsV r rest.length) (n),302,(0,0)⟩,roI 5 r rest,bsI 5 x.2 (p256.outP g (x.1))]⟩) (fun x=>8-x.1) ((0,none)) (Nat.zero_le _) (KAC (Sub.add (x:=bsI 5 none []) (bsI_nil 5) rfl) (Ka ⟨rfl,rfl,rfl,rfl,trivial⟩ mS)) ?_
  rintro ⟨i,ri⟩ hi
  dsimp only at hi ⊢
  refine KB (KA ?_);refine oP (KF rfl rfl (KAF (b:=8))) ?_;refine KC (KB ?_)
  first|refine KR rfl (fun h58=>?_) (fun h58=>?_)|refine KS rfl (fun h58=>?_) (fun h58=>?_)
  ·
   have h58:i<8:=h58
   refine KN (KB (LCode.block (KB (KA ?_))));refine oP (Det.indexAgg u296 u188 rfl KAe rfl rfl h58 (KU _ _ _ h58)) ?_;refine oA (KC (KB ?_))
   rw [show (p256.outP g (i)) = (p256.outP g (i))++(p256.wbP (g.at i) 0) from (List.append_nil _).symm]
   refine KA ?_;refine oP (Ki (v:=.int .i64 ((0:Nat):Int)) rfl) ?_;refine KC (LCode.block ?_);refine Ke (α:=Nat×BsRow) (fun x=>x.1≤4) (fun x=>⟨[(0,.pointer (some ⟨hb,0,none⟩)),(6,bsV x.2 ((p256.outP g (i))++(p256.wbP (g.at i) x.1)).length),(56,.agg (vec .u32 8 (g.at)).toArray),(57,.int .i64 ((i:Nat):Int)),(8,.int .u32 ((g.at i:Nat):Int)),(60,.int .i64 ((x.1:Nat):Int))],[.blk hb ⟨false,shL .u32 p256 size (h.at) (bsV r rest.length) (n),302,(0,0)⟩,roI 5 r rest,bsI 5 x.2 ((p256.outP g (i))++(p256.wbP (g.at i) x.1))]⟩) (fun x=>4-x.1) ((0,ri)) (Nat.zero_le _) (Ka ⟨rfl,rfl,rfl,rfl,rfl,rfl,trivial⟩ mS) ?_
   rintro ⟨j,rj⟩ hj
   dsimp only at hj ⊢
   refine KB (KA ?_);refine oP (KF rfl rfl (KAF (b:=4))) ?_;refine KC (KB ?_)
   first|refine KR rfl (fun h61=>?_) (fun h61=>?_)|refine KS rfl (fun h61=>?_) (fun h61=>?_)
   ·
    have h61:j<4:=h61
    refine KN (KB (LCode.block (KB (KA (oM (oA (KC (KA (oM (oM (oM ?_)))))))))));refine oP (KF rfl rfl (br_mul (a:=8) om)) ?_;refine oP (KF rfl rfl (KAb (a:=24) om om)) ?_;refine oP (KF rfl rfl (br_shr32m om)) ?_;refine oP (Det.conv8 u188 u5 rfl) ?_;refine oS (mk (KAc u70 inf_5 rfl rfl rfl rfl dc rfl) (fun b70=>?_));refine LOps.step rfl (KAO (news:=[g.at i/2^(p256.bits-8-8*j)%256]) rfl rfl u70 inf_5 mP (fun w hw=>src_blk (l:=[g.at i/2^(p256.bits-8-8*j)%256]) u70 (hw (.blk b70 ⟨true,numL [g.at i/2^(p256.bits-8-8*j)%256],5,(0,0)⟩) mM)) (by first|omega|(simp only [List.length_append,List.length_replicate,List.length_cons,List.length_nil,lenP_length,Hp.outP_length,Hp.wbP_length]; omega)|(have hw:i*p256.wb≤32:=Nat.mul_le_mul_right 4 (Nat.le_of_lt h58); simp only [List.length_append,Hp.outP_length,Hp.wbP_length,List.length_cons,List.length_nil]; omega)) (Nb rfl) ?_)
    intro rk
    rw [List.append_assoc,← p256.wbP_succ]
    refine oA (KC (KA ?_));refine oP (KF rfl rfl (Ko (b:=1) om)) ?_;refine oM (KC ?_)
    exact ⟨(j+1,rk),by dsimp only; omega,by dsimp only; omega,Ka ⟨rfl,rfl,rfl,rfl,rfl,rfl,trivial⟩ mS⟩
   have h61:¬ j<4:=h61
   obtain rfl:j = 4:=by omega
   refine Kc (KA ?_);refine oP (KF rfl rfl (Ko (b:=1) om)) ?_;refine oM (KC ?_)
   exact ⟨(i+1,rj),by dsimp only; omega,by dsimp only; omega,by
     dsimp only
     rw [p256.outP_succ]
     exact Ka ⟨rfl,rfl,rfl,rfl,trivial⟩ mS⟩
  have h58:¬ i<8:=h58
  obtain rfl:i = 8:=by omega
  refine Kc (KB (KA (oM (oM ?_))));refine oP (KG rfl) ?_;refine oP (KE (o':=0) u302 rfl rfl rfl sz_3 dc) ?_;refine oD (dL rfl (hv:=KJ u3 rfl (by first|rfl|exact KU _ _ _ om|exact KY _ om|exact Kb _ om|exact dv_m _ _ _ om))) ?_;refine oP (KF rfl rfl (br_quo (b:=8) om om)) ?_;refine oP (Det.slH u70 sz_5 rfl rfl om (by rw [p256.outP_length]; exact Int.ofNat_le.2 (Nat.le_trans hsz (Nat.le_add_right _ _)))) ?_;refine oD (Det.bsStr (l:=(p256.outP g (8))) (k:=size/8) u70 u5 u9 rfl mM (by rw [p256.outP_length]; exact hsz)) ?_;refine oA (KC (KM ?_));refine ⟨[_],.cons rfl .nil,fun a w' hr=>⟨?_,hr.fr.below⟩⟩
  rw [hg]
  rfl
theorem c_turn512 (f:Nat→Nat) (size n:Nat) (h:S8) (v:Value) (hb bb o sn sc:Nat) (cells:List Value) (fz:Nat×Nat) (hsn:sn = 128) (hc:∀ j,j<128→cells[j+o]? = some (.int .u8 (f j:Int))) (w:World) (hH:∀ x,x∈([.blk hb ⟨true,shL .u64 p512 size (h.at) v n,311,(0,0)⟩]++[.blk bb ⟨false,cells,5,fz⟩]:List Item)→x.holds w) (hd:([.blk hb ⟨true,shL .u64 p512 size (h.at) v n,311,(0,0)⟩]++[.blk bb ⟨false,cells,5,fz⟩]:List Item).Pairwise Apart)  : Calls Tryz.prog 205 ([.pointer (some ⟨hb,0,none⟩),.slice (some ⟨bb,o,none⟩) sn sc]:List Value).toArray w (fun e w'=>∃ (u:Value) (x':Item),(u = .tuple #[]∧x' = .blk hb ⟨true,shL .u64 p512 size ((p512.turn h f).at) v n,311,(0,0)⟩)∧e = .returned u∧Outcome w [.blk hb ⟨true,shL .u64 p512 size (h.at) v n,311,(0,0)⟩] [x'] w'):=by
  refine KAW [.blk hb ⟨true,shL .u64 p512 size (h.at) v n,311,(0,0)⟩,.blk bb ⟨false,cells,5,fz⟩] (N:=130) (rs:=[]) Tryz.func205 rfl Tryz.ntmps205 Tryz.results205 (Nb rfl) hH hd rfl rfl ?_
  refine KB (KA (oM ?_));refine oS (cF rfl en_222 rfl (fun w hw=>c_sched512 f bb o sn sc cells fz hsn hc w (show (Item.blk bb ⟨false,_,_,_⟩).holds w from hw _ mM)) ?_);refine oS (mk (KL zr_308) (fun b4=>?_));refine LOps.step rfl (sA rfl rfl sz_308 mO (hl:=mL) (h:=?_));refine KC (KB ?_)
  obtain ⟨W,hW⟩:∃ W,W = p512.wd f 80:=⟨_,rfl⟩
  rw [← hW]
  refine KA (oM ?_);refine oP (KG rfl) ?_;refine oP (KE (o':=1) u311 rfl rfl rfl sz_305 dc) ?_;refine oD (dL rfl (hv:=by exact LoadV.many u305 rfl sz_305 shL_hs (by rw [shL_length]; decide))) ?_;refine oS (mk (KL zr_305) (fun b5=>?_));refine LOps.step rfl (sA rfl rfl sz_305 mO (hl:=mL) (h:=?_));refine KC (KB (KB (KA ?_)));refine oP (Ki (v:=.int .i64 ((0:Nat):Int)) rfl) ?_;refine KC (LCode.block ?_);refine Ke (α:=Nat) (fun x=>x≤80) (fun x=>⟨[(0,.pointer (some ⟨hb,0,none⟩)),(4,.pointer (some ⟨b4,0,none⟩)),(5,.pointer (some ⟨b5,0,none⟩)),(19,.int .i64 ((x:Nat):Int))],[.blk hb ⟨true,shL .u64 p512 size (h.at) v n,311,(0,0)⟩,.blk b4 ⟨true,vec .u64 80 (W),308,(0,0)⟩,.blk b5 ⟨true,vec .u64 8 (S8.at (p512.rnds W h x)),305,(0,0)⟩]⟩) (fun x=>80-x) (0) (Nat.zero_le _) (Ka ⟨rfl,rfl,rfl,rfl,trivial⟩ mS) ?_
  intro x hx
  refine KB (KA ?_);refine oP (KF rfl rfl (KAF (b:=80))) ?_;refine KC (KB ?_)
  first|refine KR rfl (fun h20=>?_) (fun h20=>?_)|refine KS rfl (fun h20=>?_) (fun h20=>?_)
  ·
   have h20:x<80:=h20
   refine KN (KB (LCode.block (KB (KA (oM (oA (KC (KB ?_))))))));refine rD [] ?_;refine aP 0 rfl (KP (i:=4) u305 sz_30 rfl rfl om) ?_;refine aD 1 rfl (dL rfl (hv:=KJ u30 rfl (by exact KU _ _ _ om))) ?_;refine aP 3 rfl (KP (i:=4) u305 sz_30 rfl rfl om) ?_;refine aD 4 rfl (dL rfl (hv:=KJ u30 rfl (by exact KU _ _ _ om))) ?_;refine aP 7 rfl (KP (i:=4) u305 sz_30 rfl rfl om) ?_;refine aD 8 rfl (dL rfl (hv:=KJ u30 rfl (by exact KU _ _ _ om))) ?_;refine aO 2 rfl (cF rfl en_223 rfl (fun w hw=>c_rot512 _ _ dc dc w) ?_);refine aO 5 rfl (cF rfl en_223 rfl (fun w hw=>c_rot512 _ _ dc dc w) ?_);refine aP 6 rfl (KF rfl rfl (br_xor64m)) ?_;refine aO 9 rfl (cF rfl en_223 rfl (fun w hw=>c_rot512 _ _ dc dc w) ?_);refine aP 10 rfl (KF rfl rfl (br_xor64m)) ?_;refine aP 11 rfl (KK (KO rfl) (show _ = .int .u64 ((p512.sg (p512.rnds W h x).e p512.e1 p512.e2 p512.e3:Nat):Int) from rfl)) ?_
   refine aE ?_;refine KB (KA ?_);refine oP (KP (i:=4) u305 sz_30 rfl rfl om) ?_;refine oD (dL rfl (hv:=KJ u30 rfl (by exact KU _ _ _ om))) ?_;refine oP (KP (i:=5) u305 sz_30 rfl rfl om) ?_;refine oD (dL rfl (hv:=KJ u30 rfl (by exact KU _ _ _ om))) ?_;refine oP (KF rfl rfl (br_and64m)) ?_;refine oP (KP (i:=4) u305 sz_30 rfl rfl om) ?_;refine oD (dL rfl (hv:=KJ u30 rfl (by exact KU _ _ _ om))) ?_;refine oP (Det.cpl64 rfl) ?_;refine oP (KP (i:=6) u305 sz_30 rfl rfl om) ?_;refine oD (dL rfl (hv:=KJ u30 rfl (by exact KU _ _ _ om))) ?_;refine oP (KF rfl rfl (br_and64m)) ?_;refine oP (KF rfl rfl (br_xor64m)) ?_;refine oP (KK (KO rfl) (show _ = .int .u64 ((p512.ch (p512.rnds W h x).e (p512.rnds W h x).f (p512.rnds W h x).g:Nat):Int) from rfl)) ?_;refine KC (KB ?_);refine rD [] ?_;refine aP 0 rfl (KP (i:=7) u305 sz_30 rfl rfl om) ?_
   refine aD 1 rfl (dL rfl (hv:=KJ u30 rfl (by exact KU _ _ _ om))) ?_;refine aM 2 ?_;refine aP 3 rfl (KF rfl rfl (br_add64m)) ?_;refine aM 4 ?_;refine aP 5 rfl (KF rfl rfl (br_add64m)) ?_;refine aM 6 ?_;refine aM 7 ?_;refine aP 8 rfl (KG rfl) ?_;refine aP 9 rfl (KE (o':=9) u311 rfl rfl rfl sz_308 dc) ?_;refine aP 10 rfl (Det.indexA u308 sz_30 rfl rfl om) ?_;refine aD 11 rfl (dL rfl (hv:=KJ u30 rfl (by exact shL_k (show x<p512.R from h20)))) ?_;refine aP 12 rfl (KF rfl rfl (br_add64m)) ?_;refine aM 13 ?_;refine aP 14 rfl (KP u308 sz_30 rfl rfl om) ?_;refine aD 15 rfl (dL rfl (hv:=KJ u30 rfl (by exact KU _ _ _ h20))) ?_;refine aP 16 rfl (KF rfl rfl (br_add64m)) ?_;refine aP 17 rfl (KK (KO rfl) (show _ = .int .u64 ((p512.T1 (p512.rnds W h x) (nthN p512.K x) (W x):Nat):Int) from rfl)) ?_;refine aE ?_;refine KB ?_
   refine rD [] ?_;refine aP 0 rfl (KP (i:=0) u305 sz_30 rfl rfl om) ?_;refine aD 1 rfl (dL rfl (hv:=KJ u30 rfl (by exact KU _ _ _ om))) ?_;refine aP 3 rfl (KP (i:=0) u305 sz_30 rfl rfl om) ?_;refine aD 4 rfl (dL rfl (hv:=KJ u30 rfl (by exact KU _ _ _ om))) ?_;refine aP 7 rfl (KP (i:=0) u305 sz_30 rfl rfl om) ?_;refine aD 8 rfl (dL rfl (hv:=KJ u30 rfl (by exact KU _ _ _ om))) ?_;refine aO 2 rfl (cF rfl en_223 rfl (fun w hw=>c_rot512 _ _ dc dc w) ?_);refine aO 5 rfl (cF rfl en_223 rfl (fun w hw=>c_rot512 _ _ dc dc w) ?_);refine aP 6 rfl (KF rfl rfl (br_xor64m)) ?_;refine aO 9 rfl (cF rfl en_223 rfl (fun w hw=>c_rot512 _ _ dc dc w) ?_);refine aP 10 rfl (KF rfl rfl (br_xor64m)) ?_;refine aP 11 rfl (KK (KO rfl) (show _ = .int .u64 ((p512.sg (p512.rnds W h x).a p512.a1 p512.a2 p512.a3:Nat):Int) from rfl)) ?_;refine aE ?_
   refine KB (KA ?_);refine oP (KP (i:=0) u305 sz_30 rfl rfl om) ?_;refine oD (dL rfl (hv:=KJ u30 rfl (by exact KU _ _ _ om))) ?_;refine oP (KP (i:=1) u305 sz_30 rfl rfl om) ?_;refine oD (dL rfl (hv:=KJ u30 rfl (by exact KU _ _ _ om))) ?_;refine oP (KF rfl rfl (br_and64m)) ?_;refine oP (KP (i:=0) u305 sz_30 rfl rfl om) ?_;refine oD (dL rfl (hv:=KJ u30 rfl (by exact KU _ _ _ om))) ?_;refine oP (KP (i:=2) u305 sz_30 rfl rfl om) ?_;refine oD (dL rfl (hv:=KJ u30 rfl (by exact KU _ _ _ om))) ?_;refine oP (KF rfl rfl (br_and64m)) ?_;refine oP (KF rfl rfl (br_xor64m)) ?_;refine oP (KP (i:=1) u305 sz_30 rfl rfl om) ?_;refine oD (dL rfl (hv:=KJ u30 rfl (by exact KU _ _ _ om))) ?_;refine oP (KP (i:=2) u305 sz_30 rfl rfl om) ?_;refine oD (dL rfl (hv:=KJ u30 rfl (by exact KU _ _ _ om))) ?_
   refine oP (KF rfl rfl (br_and64m)) ?_;refine oP (KF rfl rfl (br_xor64m)) ?_;refine oP (KK (KO rfl) (show _ = .int .u64 ((p512.maj (p512.rnds W h x).a (p512.rnds W h x).b (p512.rnds W h x).c:Nat):Int) from rfl)) ?_;refine KC (KA (oM (oM ?_)));refine oP (KF rfl rfl (br_add64m)) ?_;refine oM ?_;refine oP (KF rfl rfl (br_add64m)) ?_;refine oP (KP (i:=0) u305 sz_30 rfl rfl om) ?_;refine oD (dL rfl (hv:=KJ u30 rfl (by exact KU _ _ _ om))) ?_;refine oP (KP (i:=1) u305 sz_30 rfl rfl om) ?_;refine oD (dL rfl (hv:=KJ u30 rfl (by exact KU _ _ _ om))) ?_;refine oP (KP (i:=2) u305 sz_30 rfl rfl om) ?_;refine oD (dL rfl (hv:=KJ u30 rfl (by exact KU _ _ _ om))) ?_;refine oP (KP (i:=3) u305 sz_30 rfl rfl om) ?_;refine oD (dL rfl (hv:=KJ u30 rfl (by exact KU _ _ _ om))) ?_;refine oM ?_;refine oP (KF rfl rfl (br_add64m)) ?_
   refine oP (KP (i:=4) u305 sz_30 rfl rfl om) ?_;refine oD (dL rfl (hv:=KJ u30 rfl (by exact KU _ _ _ om))) ?_;refine oP (KP (i:=5) u305 sz_30 rfl rfl om) ?_;refine oD (dL rfl (hv:=KJ u30 rfl (by exact KU _ _ _ om))) ?_;refine oP (KP (i:=6) u305 sz_30 rfl rfl om) ?_;refine oD (dL rfl (hv:=KJ u30 rfl (by exact KU _ _ _ om))) ?_;refine oP (KK (Kd pl_305 zr_305 rfl (fill8_64 _ _ _ _ _ _ _ _)) (show _ = Value.agg (vec .u64 8 (S8.at (p512.stp (p512.rnds W h x) (nthN p512.K x) (W x)))).toArray from rfl)) ?_;refine LOps.step rfl (sA rfl rfl sz_305 mO (hl:=mL) (h:=?_));refine KC (KA ?_);refine oP (KF rfl rfl (Ko (b:=1) om)) ?_;refine oM (KC ?_)
   exact ⟨x+1,by omega,by omega,KAC (Sub.cells (b:=b5) (cs':=vec .u64 8 (S8.at (p512.rnds W h (x+1)))) (by repeat (first|exact Sh _|apply St_)) rfl) (Ka ⟨rfl,rfl,rfl,rfl,trivial⟩ mS)⟩
  have h20:¬ x<80:=h20
  obtain rfl:x = 80:=by omega
  refine Kc (KB ?_)
  obtain ⟨s,hs⟩:∃ s,s = p512.rnds W h 80:=⟨_,rfl⟩
  rw [← hs]
  refine KA ?_;refine oP (Ki (v:=.int .i64 ((0:Nat):Int)) rfl) ?_;refine KC (LCode.block ?_);refine Ke (α:=Nat) (fun y=>y≤8) (fun y=>⟨[(0,.pointer (some ⟨hb,0,none⟩)),(5,.pointer (some ⟨b5,0,none⟩)),(113,.int .i64 ((y:Nat):Int))],[.blk hb ⟨true,shL .u64 p512 size (mixF y (p512.fin h s).at h.at) v n,311,(0,0)⟩,.blk b5 ⟨true,vec .u64 8 (S8.at s),305,(0,0)⟩]⟩) (fun y=>8-y) (0) (Nat.zero_le _) (KAC (Sub.cells (b:=hb) (cs':=shL .u64 p512 size (mixF 0 (p512.fin h s).at h.at) v n) (by repeat (first|exact Sh _|apply St_)) (shL_congr fun i _=>mixF_0 _ _ i)) (Ka ⟨rfl,rfl,rfl,trivial⟩ mS)) ?_
  intro y hy
  refine KB (KA ?_);refine oP (KF rfl rfl (KAF (b:=8))) ?_;refine KC (KB ?_)
  first|refine KR rfl (fun h114=>?_) (fun h114=>?_)|refine KS rfl (fun h114=>?_) (fun h114=>?_)
  ·
   have h114:y<8:=h114
   refine KN (KB (LCode.block (KB (KA (oM (oA (KC ?_)))))));refine rD [13] ?_;refine aM 0 ?_;refine aM 1 ?_;refine aP 2 rfl (KG rfl) ?_;refine aP 3 rfl (KE (o':=1) u311 rfl rfl rfl sz_305 dc) ?_;refine aP 4 rfl (Det.indexA u305 sz_30 rfl rfl om) ?_;refine aD 5 rfl (dL rfl (hv:=KJ u30 rfl (by exact shL_h h114))) ?_;refine aM 6 ?_;refine aP 7 rfl (KP u305 sz_30 rfl rfl om) ?_;refine aD 8 rfl (dL rfl (hv:=KJ u30 rfl (by exact KU _ _ _ om))) ?_;refine aP 9 rfl (KF rfl rfl (br_add64m)) ?_;refine aP 10 rfl (KG rfl) ?_;refine aP 11 rfl (KE (o':=1) u311 rfl rfl rfl sz_305 dc) ?_;refine aP 12 rfl (Det.indexA u305 sz_30 rfl rfl om) ?_;refine aL 13 rfl (KZ rfl rfl rfl sz_30 (by repeat (first|exact Sh _|apply St_)) (by rw [shL_length]; show _<91; omega) (shL_seth h114) (by simp) ?_);refine aE ?_;refine KA ?_
   refine oP (KF rfl rfl (Ko (b:=1) om)) ?_;refine oM (KC ?_)
   exact ⟨y+1,by omega,by omega,KAC (Sub.cells (b:=hb) (cs':=shL .u64 p512 size (mixF (y+1) (p512.fin h s).at h.at) v n) (by repeat (first|exact Sh _|apply St_)) (shL_congr fun i _=>p512.fin_next h s h114 i)) (Ka ⟨rfl,rfl,rfl,trivial⟩ mS)⟩
  have h114:¬ y<8:=h114
  obtain rfl:y = 8:=by omega
  refine Kc ?_;refine ⟨[],.nil,fun a w' hr=>⟨_,_,⟨rfl,rfl⟩,rfl,?_⟩⟩
  have e8:shL .u64 p512 size (mixF 8 (p512.fin h s).at h.at) v n = shL .u64 p512 size ((p512.turn h f).at) v n:=shL_congr fun i hi=>(by rw [mixF_8 _ _ hi,hs,hW]; rfl)
  rw [← e8]
  exact hr.out mS rfl
theorem c_blocks512 (size n:Nat) (h:S8) (v:Value) (hb:Nat) (r:BsRow) (l:List Nat) (w:World) (hH:∀ x,x∈([.blk hb ⟨true,shL .u64 p512 size (h.at) v n,311,(0,0)⟩]++[roI 5 r l]:List Item)→x.holds w) (hd:([.blk hb ⟨true,shL .u64 p512 size (h.at) v n,311,(0,0)⟩]++[roI 5 r l]:List Item).Pairwise Apart)  : Calls Tryz.prog 204 ([.func (.func 205) #[.pointer (some ⟨hb,0,none⟩)] #[],bsV r l.length]:List Value).toArray w (fun e w'=>∃ (u:Value) (x':Item),((∃ r',u = bsV r' (l.drop (128*(l.length/128))).length∧bsFp r' = bsFp r∧∀ w,(roI 5 r l).holds w→(roI 5 r' (l.drop (128*(l.length/128)))).holds w)∧x' = .blk hb ⟨true,shL .u64 p512 size ((p512.blks l (l.length/128) h).at) v n,311,(0,0)⟩)∧e = .returned u∧Outcome w [.blk hb ⟨true,shL .u64 p512 size (h.at) v n,311,(0,0)⟩] [x'] w'):=by
  refine KAW [.blk hb ⟨true,shL .u64 p512 size (h.at) v n,311,(0,0)⟩,roI 5 r l] (N:=15) (rs:=[.tmp 4]) Tryz.func204 rfl Tryz.ntmps204 Tryz.results204 (Nb rfl) hH hd rfl rfl ?_
  refine KB (KA (oA (KC (KB (LCode.block ?_)))));refine Ke (α:=Nat×BsRow) (fun x=>x.1≤l.length/128∧bsFp x.2 = bsFp r∧∀ w,(roI 5 r l).holds w→(roI 5 x.2 (l.drop (128*x.1))).holds w) (fun x=>⟨[(0,.func (.func 205) #[.pointer (some ⟨hb,0,none⟩)] #[]),(1,bsV x.2 (l.drop (128*x.1)).length)],[.blk hb ⟨true,shL .u64 p512 size ((p512.blks l x.1 h).at) v n,311,(0,0)⟩,roI 5 x.2 (l.drop (128*x.1))]⟩) (fun x=>l.length/128-x.1) ((0,r)) (⟨Nat.zero_le _,rfl,fun w h=>h⟩) (Ka ⟨rfl,rfl,trivial⟩ mS) ?_
  rintro ⟨q,r2⟩ ⟨hq,hfp,hpw⟩
  dsimp only at hq hfp hpw ⊢
  have hlen:(l.drop (128*q)).length = l.length-128*q:=List.length_drop
  refine KB (KB (KA (oM ?_)));refine oP (Det.len u70 rfl) ?_;refine oP (KF rfl rfl (br_geq (b:=128))) ?_;refine KC ?_
  first|refine KR rfl (fun h7=>?_) (fun h7=>?_)|refine KS rfl (fun h7=>?_) (fun h7=>?_)
  ·
   have h7:128≤l.length-128*q:=hlen ▸ h7
   have hk:128≤(l.drop (128*q)).length:=by omega
   refine LCode.know (x:=roI 5 r2 (l.drop (128*q))) mM (φ:=r2≠none) (fun w hw e=>?_) (fun hne=>?_)
   · subst e
     have:(l.drop (128*q)) = []:=roI_P hw
     rw [this] at hk
     exact absurd hk dc
   obtain ⟨⟨b2,pre,more,ex⟩,rfl⟩:∃ z,r2 = some z:=by cases r2 with|none=>exact absurd rfl hne|some z=>exact ⟨z,rfl⟩
   refine KN (KB (LCode.block (KA (oM (oM ?_)))));refine oP (Det.slH u70 sz_5 rfl rfl om (by simp only [bsM]; omega)) ?_;refine LOps.step rfl (Km (first:=[.pointer (some ⟨hb,0,none⟩)]) (caps:=[]) rfl en_205 rfl (Nb rfl) sR wK (fun w hH hd=>c_turn512 (fun j=>nthN (l.drop (128*q)) j) size n (p512.blks l q h) v hb b2 pre.length 128 _ _ (0,0) rfl (fun j hj=>bs_cell (Nat.lt_of_lt_of_le hj hk)) w hH hd) ?_)
   rintro _ _ ⟨rfl,rfl⟩
   refine KC (KA (oM ?_));refine oP (Det.slDrop (l:=(l.drop (128*q))) (k:=128) u70 sz_5 rfl rfl hk (by simp)) ?_;refine oA (KC ?_);refine ⟨(q+1,bsDrop (some (b2,pre,more,ex)) (l.drop (128*q)) 128),⟨by dsimp only; omega,by dsimp only; rw [bsDrop_fp]; exact hfp,fun w hw=>?_⟩,by dsimp only; omega,KAC (Sub.drop (k:=128) hk mP) ?_⟩
   · have:=bsDrop_ro hk w (hpw w hw)
     dsimp only
     rw [List.drop_drop] at this
     exact this
   · dsimp only
     rw [List.drop_drop]
     exact Ka ⟨rfl,rfl,trivial⟩ mS
  have h7:¬ 128≤l.length-128*q:=hlen ▸ h7
  obtain rfl:q = l.length/128:=by omega
  refine Kc (KB (KA (oM (oA (KC (KM ?_))))));refine ⟨[_],.cons rfl .nil,fun a w' hr=>⟨_,_,⟨⟨_,rfl,hfp,hpw⟩,rfl⟩,rfl,hr.out mS rfl⟩⟩
theorem c_shaNew384  (w:World) (hH:∀ x,x∈([]++[]:List Item)→x.holds w) (hd:([]++[]:List Item).Pairwise Apart)  : Calls Tryz.prog 174 ([.int .i64 ((384:Nat):Int)]:List Value).toArray w (fun e w'=>∃ (u:Value) (x':Item),(∃ b,u = .tuple #[.pointer (some ⟨b,0,none⟩),.int .i64 ((0:Nat):Int)]∧x' = .blk b ⟨true,shL .u64 p512 384 (S8.at iv384) (.slice none 0 0) (0),311,(0,0)⟩)∧e = .returned u∧Outcome w [] [x'] w'):=by
  refine KAW [] (N:=18) (rs:=[.tmp 2,.tmp 3]) Tryz.func174 rfl Tryz.ntmps174 Tryz.results174 (Nb rfl) hH hd rfl rfl ?_
  refine KB (KA (oA ?_));refine oP (KO (v:=.int .i64 ((0:Nat):Int)) rfl) ?_;refine KC (KB (KA (oM ?_)));refine oS (cF rfl en_200 rfl (fun w hw=>c_beg384 w) ?_);refine oM ?_;refine oP (Det.extract rfl rfl) ?_;refine oP (Det.extract rfl rfl) ?_;refine oS (mk (KL zr_305) (fun b4=>?_));refine LOps.step rfl (sA rfl rfl sz_305 mO (hl:=mL) (h:=?_));refine oA (KC (KB (KB (KA (oM ?_)))));refine oP (KK (KAK rfl) (show _ = Value.bool false from rfl)) ?_;refine KC ?_;refine KH rfl ?_;refine KN (KB ?_);refine rD [] ?_;refine aM 0 ?_;refine aD 1 rfl (dL rfl (hv:=by exact KD u305 rfl sz_305)) ?_;refine aO 2 rfl (cF rfl en_201 rfl (fun w hw=>c_cons512 w) ?_);refine aP 3 rfl (Kd pl_311 zr_311 rfl (fT (r':=([.int .i64 ((384:Nat):Int)]++(vec .u64 8 (S8.at iv384)++(vec .u64 80 (nthN p512.K)++([Value.slice none 0 0]++([Value.int .u64 ((0:Nat):Int)])))))) (fS (A:=([]:List Value)) (B:=([Value.int .i64 ((0:Nat):Int)])) (D:=(vec .u64 8 (fun _=>0)++(vec .u64 80 (fun _=>0)++([Value.slice none 0 0]++([Value.int .u64 ((0:Nat):Int)]))))) (cs:=[.int .i64 ((384:Nat):Int)]) (fS (A:=([.int .i64 ((384:Nat):Int)])) (B:=(vec .u64 8 (fun _=>0))) (D:=(vec .u64 80 (fun _=>0)++([Value.slice none 0 0]++([Value.int .u64 ((0:Nat):Int)])))) (cs:=vec .u64 8 (S8.at iv384)) (fS (A:=([.int .i64 ((384:Nat):Int)]++(vec .u64 8 (S8.at iv384)))) (B:=(vec .u64 80 (fun _=>0))) (D:=([Value.slice none 0 0]++([Value.int .u64 ((0:Nat):Int)]))) (cs:=vec .u64 80 (nthN p512.K)) rfl))))) ?_
  refine aO 4 rfl (mB (fun b17=>?_));refine aA 5 ?_;refine aP 6 rfl (KO (v:=.int .i64 ((0:Nat):Int)) rfl) ?_;refine aE ?_;refine KM ?_;refine ⟨[_,_],.cons rfl (.cons rfl .nil),fun a w' hr=>⟨_,_,⟨b17,rfl,rfl⟩,rfl,hr.out mS rfl⟩⟩
theorem c_shaNew512  (w:World) (hH:∀ x,x∈([]++[]:List Item)→x.holds w) (hd:([]++[]:List Item).Pairwise Apart)  : Calls Tryz.prog 174 ([.int .i64 ((512:Nat):Int)]:List Value).toArray w (fun e w'=>∃ (u:Value) (x':Item),(∃ b,u = .tuple #[.pointer (some ⟨b,0,none⟩),.int .i64 ((0:Nat):Int)]∧x' = .blk b ⟨true,shL .u64 p512 512 (S8.at iv512) (.slice none 0 0) (0),311,(0,0)⟩)∧e = .returned u∧Outcome w [] [x'] w'):=by
  refine KAW [] (N:=18) (rs:=[.tmp 2,.tmp 3]) Tryz.func174 rfl Tryz.ntmps174 Tryz.results174 (Nb rfl) hH hd rfl rfl ?_
  refine KB (KA (oA ?_));refine oP (KO (v:=.int .i64 ((0:Nat):Int)) rfl) ?_;refine KC (KB (KA (oM ?_)));refine oS (cF rfl en_200 rfl (fun w hw=>c_beg512 w) ?_);refine oM ?_;refine oP (Det.extract rfl rfl) ?_;refine oP (Det.extract rfl rfl) ?_;refine oS (mk (KL zr_305) (fun b4=>?_));refine LOps.step rfl (sA rfl rfl sz_305 mO (hl:=mL) (h:=?_));refine oA (KC (KB (KB (KA (oM ?_)))));refine oP (KK (KAK rfl) (show _ = Value.bool false from rfl)) ?_;refine KC ?_;refine KH rfl ?_;refine KN (KB ?_);refine rD [] ?_;refine aM 0 ?_;refine aD 1 rfl (dL rfl (hv:=by exact KD u305 rfl sz_305)) ?_;refine aO 2 rfl (cF rfl en_201 rfl (fun w hw=>c_cons512 w) ?_);refine aP 3 rfl (Kd pl_311 zr_311 rfl (fT (r':=([.int .i64 ((512:Nat):Int)]++(vec .u64 8 (S8.at iv512)++(vec .u64 80 (nthN p512.K)++([Value.slice none 0 0]++([Value.int .u64 ((0:Nat):Int)])))))) (fS (A:=([]:List Value)) (B:=([Value.int .i64 ((0:Nat):Int)])) (D:=(vec .u64 8 (fun _=>0)++(vec .u64 80 (fun _=>0)++([Value.slice none 0 0]++([Value.int .u64 ((0:Nat):Int)]))))) (cs:=[.int .i64 ((512:Nat):Int)]) (fS (A:=([.int .i64 ((512:Nat):Int)])) (B:=(vec .u64 8 (fun _=>0))) (D:=(vec .u64 80 (fun _=>0)++([Value.slice none 0 0]++([Value.int .u64 ((0:Nat):Int)])))) (cs:=vec .u64 8 (S8.at iv512)) (fS (A:=([.int .i64 ((512:Nat):Int)]++(vec .u64 8 (S8.at iv512)))) (B:=(vec .u64 80 (fun _=>0))) (D:=([Value.slice none 0 0]++([Value.int .u64 ((0:Nat):Int)]))) (cs:=vec .u64 80 (nthN p512.K)) rfl))))) ?_
  refine aO 4 rfl (mB (fun b17=>?_));refine aA 5 ?_;refine aP 6 rfl (KO (v:=.int .i64 ((0:Nat):Int)) rfl) ?_;refine aE ?_;refine KM ?_;refine ⟨[_,_],.cons rfl (.cons rfl .nil),fun a w' hr=>⟨_,_,⟨b17,rfl,rfl⟩,rfl,hr.out mS rfl⟩⟩
theorem c_shaWrite512 (size n:Nat) (h:S8) (rest:List Nat) (r:BsRow) (hb:Nat) (s:ByteArray) (hrl:rest.length≤128) (hs:s.size≤140737488351232) (w:World) (hH:∀ x,x∈([.blk hb ⟨true,shL .u64 p512 size (h.at) (bsV r rest.length) (n),311,(0,0)⟩,bsI 5 r rest]++[]:List Item)→x.holds w) (hd:([.blk hb ⟨true,shL .u64 p512 size (h.at) (bsV r rest.length) (n),311,(0,0)⟩,bsI 5 r rest]++[]:List Item).Pairwise Apart)  : Calls Tryz.prog 176 ([.pointer (some ⟨hb,0,none⟩),.string s]:List Value).toArray w (fun e w'=>∃ (u:Value) (x':Item) (y':Item),(∃ r',u = .int .i64 ((0:Nat):Int)∧x' = .blk hb ⟨true,shL .u64 p512 size ((p512.write (⟨h,rest,n⟩:ShS) (ofS s)).h.at) (bsV r' (p512.write (⟨h,rest,n⟩:ShS) (ofS s)).rest.length) ((p512.write (⟨h,rest,n⟩:ShS) (ofS s)).n),311,(0,0)⟩∧y' = bsI 5 r' (p512.write (⟨h,rest,n⟩:ShS) (ofS s)).rest)∧e = .returned u∧Outcome w [.blk hb ⟨true,shL .u64 p512 size (h.at) (bsV r rest.length) (n),311,(0,0)⟩,bsI 5 r rest] [x',y'] w'):=by
  have hl:(ofS s).length≤140737488351232:=by rw [ofS_length]; exact hs
  refine KAW [.blk hb ⟨true,shL .u64 p512 size (h.at) (bsV r rest.length) (n),311,(0,0)⟩,bsI 5 r rest] (N:=33) (rs:=[.tmp 4]) Tryz.func176 rfl Tryz.ntmps176 Tryz.results176 (Nb rfl) hH hd rfl rfl ?_
  refine KB (KA ?_);refine oP (KO (v:=.int .i64 ((0:Nat):Int)) rfl) ?_;refine KC (KB (KB (KA (oM ?_))));refine oP (KAN u262 rfl rfl) ?_;refine KC ?_;refine KH rfl ?_;refine KN (KB (KA (oM ?_)));refine oP (KG rfl) ?_;refine oP (KE (o':=90) u311 rfl rfl rfl sz_30 dc) ?_;refine oD (dL rfl (hv:=KJ u30 rfl (by exact shL_n))) ?_;refine oM ?_;refine oP (KK (KAZ u9 rfl) (show _ = .int .i64 (((ofS s).length:Nat):Int) by rw [ofS_length])) ?_;refine oP (Det.conv64 u3 u30 rfl (by first|omega|exact Nat.lt_trans (D.limb_lt _ _) dc)) ?_;refine oP (KF rfl rfl (KAX)) ?_;refine oP (KG rfl) ?_;refine oP (KE (o':=90) u311 rfl rfl rfl sz_30 dc) ?_;refine LOps.step rfl (KZ rfl rfl rfl sz_30 (by repeat (first|exact Sh _|apply St_)) (by rw [shL_length]; decide) (shL_setn) (by simp) ?_);refine KC (KB (KA (oM ?_)));refine oP (KG rfl) ?_
  refine oP (KE (o':=89) u311 rfl rfl rfl sz_70 dc) ?_;refine oD (dL rfl (hv:=KJ u70 rfl (by exact shL_r))) ?_;refine LOps.step rfl (LStepW.appendN0 (news:=rest) rfl rfl u70 inf_5 (fun w hw=>src_bs u70 (hw (bsI 5 r rest) mM)) om (Nb rfl) ?_)
  intro r1
  refine oM ?_;refine LOps.step rfl (KAO (news:=ofS s) rfl rfl u70 inf_5 mP (fun w hw=>src_str u9) om (Nb rfl) ?_)
  intro r2
  refine oA (KC (KB (KA (oM (oM ?_)))));refine oP (KAS rfl) ?_;refine oM ?_;refine LOps.step rfl (Km (first:=[]) (caps:=[]) rfl en_204 rfl (Nb rfl) sR wK (fun w hH hd=>c_blocks512 size _ h _ hb r2 (rest++ofS s) w hH hd) ?_)
  rintro _ _ ⟨⟨r3,rfl,hfp,hpw⟩,rfl⟩
  refine LOps.step rfl (LStepW.appendN0 (news:=((rest++ofS s).drop (128*((rest++ofS s).length/128)))) rfl rfl u70 inf_5 (fun w hw=>src_bs u70 (show (bsI 5 r3 ((rest++ofS s).drop (128*((rest++ofS s).length/128)))).holds w from hpw w (hw (bsI 5 r2 (rest++ofS s)) mM))) (by rw [List.length_drop,List.length_append]; omega) (Nb rfl) ?_)
  intro r4
  refine oP (KG rfl) ?_;refine oP (KE (o':=89) u311 rfl rfl rfl sz_70 dc) ?_;refine LOps.step rfl (KZ rfl rfl rfl sz_70 (by repeat (first|exact Sh _|apply St_)) (by rw [shL_length]; decide) (shL_setr) (by simp) ?_);refine KC (KB (KA ?_));refine oP (KO (v:=.int .i64 ((0:Nat):Int)) rfl) ?_;refine KC (KM ?_);refine ⟨[_],.cons rfl .nil,fun a w' hr=>⟨_,_,_,⟨r4,rfl,rfl,rfl⟩,rfl,hr.out mS rfl⟩⟩
theorem c_shaSum512 (size n:Nat) (h:S8) (rest:List Nat) (r:BsRow) (hb:Nat) (hrl:rest.length<128) (hsz:size/8≤64) (hsz2:size<1000) (w:World) (h1:(Item.blk hb ⟨false,shL .u64 p512 size (h.at) (bsV r rest.length) (n),311,(0,0)⟩).holds w) (h2:(roI 5 r rest).holds w):Calls Tryz.prog 177 ([.pointer (some ⟨hb,0,none⟩)]:List Value).toArray w (fun e w'=>e = .returned (.string (toS (p512.sum (⟨h,rest,n⟩:ShS) (size/8))))∧Below w.heap.size w w'):=by
  refine KX (N:=82) (rs:=[.tmp 2]) [.blk hb ⟨false,shL .u64 p512 size (h.at) (bsV r rest.length) (n),311,(0,0)⟩,roI 5 r rest] Tryz.func177 rfl Tryz.ntmps177 Tryz.results177 (Nb rfl) ⟨h1,h2,trivial⟩ rfl ?_
  refine KB (KA (oA (KC (KB (KB (KA (oM ?_)))))));refine oP (KAN u262 rfl rfl) ?_;refine KC ?_;refine KH rfl ?_;refine KN (KB (KA (oM ?_)));refine oP (KG rfl) ?_;refine oD (dL rfl (hv:=by exact KD u311 rfl (by rw [shL_length]; exact sz_311))) ?_;refine oS (mk (KL zr_311) (fun b3=>?_));refine LOps.step rfl (sA rfl rfl (by rw [shL_length]; exact sz_311) (shL_one rfl) (hl:=by rw [shL_length]; rfl) (h:=?_));refine KC (KB (KA (oM ?_)));refine oP (KG rfl) ?_;refine oP (KE (o':=89) u311 rfl rfl rfl sz_70 dc) ?_;refine oD (dL rfl (hv:=KJ u70 rfl (by exact shL_r))) ?_;refine LOps.step rfl (LStepW.appendN0 (news:=rest) rfl rfl u70 inf_5 (fun w hw=>src_bs u70 (show (bsI 5 r rest).holds w from hw (roI 5 r rest) mM)) om (Nb rfl) ?_)
  intro r19
  refine oS (mk (KAc u70 inf_5 rfl rfl rfl rfl dc rfl) (fun b20=>?_));refine LOps.step rfl (KAO (news:=[128]) rfl rfl u70 inf_5 mP (fun w hw=>src_blk (l:=[128]) u70 (hw (.blk b20 ⟨true,numL [128],5,(0,0)⟩) mM)) (by first|omega|(simp only [List.length_append,List.length_replicate,List.length_cons,List.length_nil,lenP_length,Hp.outP_length,Hp.wbP_length]; omega)|(have hw:i*p512.wb≤64:=Nat.mul_le_mul_right 8 (Nat.le_of_lt h58); simp only [List.length_append,Hp.outP_length,Hp.wbP_length,List.length_cons,List.length_nil]; omega)) (Nb rfl) ?_)
  intro r21
  rw [show (rest++[128]) = ((rest++[128])++List.replicate (0) 0) from (List.append_nil _).symm]
  refine oA (KC (KB (LCode.block ?_)));refine Ke (α:=Nat×BsRow) (fun x=>x.1≤p512.zs rest.length) (fun x=>⟨[(0,.pointer (some ⟨hb,0,none⟩)),(3,.pointer (some ⟨b3,0,none⟩)),(4,bsV x.2 ((rest++[128])++List.replicate (x.1) 0).length)],[.blk hb ⟨false,shL .u64 p512 size (h.at) (bsV r rest.length) (n),311,(0,0)⟩,roI 5 r rest,.blk b3 ⟨true,shL .u64 p512 size (h.at) (bsV r rest.length) (n),311,(0,0)⟩,bsI 5 x.2 ((rest++[128])++List.replicate (x.1) 0)]⟩) (fun x=>p512.zs rest.length-x.1) ((0,r21)) (Nat.zero_le _) (Ka ⟨rfl,rfl,rfl,trivial⟩ mS) ?_
  rintro ⟨j,rj⟩ hj
  dsimp only at hj ⊢
  have hz:p512.zs rest.length = (128+112-(rest.length+1)%128)%128:=rfl
  have hlen:((rest++[128])++List.replicate (j) 0).length = rest.length+1+j:=by simp only [List.length_append,List.length_replicate,List.length_cons,List.length_nil]
  refine KB (KB (KA (oM ?_)));refine oP (Det.len u70 rfl) ?_;refine oP (KF rfl rfl (br_rem (b:=128) om)) ?_;refine oP (KF rfl rfl (br_neq (b:=112))) ?_;refine KC ?_
  first|refine KR rfl (fun h25=>?_) (fun h25=>?_)|refine KS rfl (fun h25=>?_) (fun h25=>?_)
  ·
   have h25:j<p512.zs rest.length:=by
     rw [hlen] at h25
     omega
   refine KN (LCode.block (KA (oM ?_)));refine oS (mk (KAc u70 inf_5 rfl rfl rfl rfl dc rfl) (fun b27=>?_));refine LOps.step rfl (KAO (news:=[0]) rfl rfl u70 inf_5 mP (fun w hw=>src_blk (l:=[0]) u70 (hw (.blk b27 ⟨true,numL [0],5,(0,0)⟩) mM)) (by first|omega|(simp only [List.length_append,List.length_replicate,List.length_cons,List.length_nil,lenP_length,Hp.outP_length,Hp.wbP_length]; omega)|(have hw:i*p512.wb≤64:=Nat.mul_le_mul_right 8 (Nat.le_of_lt h58); simp only [List.length_append,Hp.outP_length,Hp.wbP_length,List.length_cons,List.length_nil]; omega)) (Nb rfl) ?_)
   intro rk
   rw [rep_succ]
   refine oA (KC ?_)
   exact ⟨(j+1,rk),by dsimp only; omega,by dsimp only; omega,Ka ⟨rfl,rfl,rfl,trivial⟩ mS⟩
  obtain rfl:j = p512.zs rest.length:=by
    rw [hlen] at h25
    omega
  refine Kc (KB (KB ?_))
  rw [show ((rest++[128])++List.replicate (p512.zs rest.length) 0) = (((rest++[128])++List.replicate (p512.zs rest.length) 0)++List.replicate (0) 0) from (List.append_nil _).symm]
  refine KA ?_;refine oP (Ki (v:=.int .i64 ((0:Nat):Int)) rfl) ?_;refine KC (LCode.block ?_);refine Ke (α:=Nat×BsRow) (fun x=>x.1≤8) (fun x=>⟨[(0,.pointer (some ⟨hb,0,none⟩)),(3,.pointer (some ⟨b3,0,none⟩)),(4,bsV x.2 (((rest++[128])++List.replicate (p512.zs rest.length) 0)++List.replicate (x.1) 0).length),(29,.int .i64 ((x.1:Nat):Int))],[.blk hb ⟨false,shL .u64 p512 size (h.at) (bsV r rest.length) (n),311,(0,0)⟩,roI 5 r rest,.blk b3 ⟨true,shL .u64 p512 size (h.at) (bsV r rest.length) (n),311,(0,0)⟩,bsI 5 x.2 (((rest++[128])++List.replicate (p512.zs rest.length) 0)++List.replicate (x.1) 0)]⟩) (fun x=>8-x.1) ((0,rj)) (Nat.zero_le _) (Ka ⟨rfl,rfl,rfl,rfl,trivial⟩ mS) ?_
  rintro ⟨j,rj⟩ hj
  dsimp only at hj ⊢
  refine KB (KA ?_);refine oP (KF rfl rfl (KAF (b:=8))) ?_;refine KC (KB ?_)
  first|refine KR rfl (fun h30=>?_) (fun h30=>?_)|refine KS rfl (fun h30=>?_) (fun h30=>?_)
  ·
   have h30:j<8:=h30
   refine KN (KB (LCode.block (KA (oM ?_))));refine oS (mk (KAc u70 inf_5 rfl rfl rfl rfl dc rfl) (fun b32=>?_));refine LOps.step rfl (KAO (news:=[0]) rfl rfl u70 inf_5 mP (fun w hw=>src_blk (l:=[0]) u70 (hw (.blk b32 ⟨true,numL [0],5,(0,0)⟩) mM)) (by first|omega|(simp only [List.length_append,List.length_replicate,List.length_cons,List.length_nil,lenP_length,Hp.outP_length,Hp.wbP_length]; omega)|(have hw:i*p512.wb≤64:=Nat.mul_le_mul_right 8 (Nat.le_of_lt h58); simp only [List.length_append,Hp.outP_length,Hp.wbP_length,List.length_cons,List.length_nil]; omega)) (Nb rfl) ?_)
   intro rk
   rw [rep_succ]
   refine oA (KC (KA ?_));refine oP (KF rfl rfl (Ko (b:=1) om)) ?_;refine oM (KC ?_)
   exact ⟨(j+1,rk),by dsimp only; omega,by dsimp only; omega,Ka ⟨rfl,rfl,rfl,rfl,trivial⟩ mS⟩
  have h30:¬ j<8:=h30
  obtain rfl:j = 8:=by omega
  refine Kc (KB (KB ?_))
  rw [show (((rest++[128])++List.replicate (p512.zs rest.length) 0)++List.replicate (8) 0) = ((((rest++[128])++List.replicate (p512.zs rest.length) 0)++List.replicate (8) 0)++lenP n (0)) from (List.append_nil _).symm]
  refine KA ?_;refine oP (Ki (v:=.int .i64 ((0:Nat):Int)) rfl) ?_;refine KC (LCode.block ?_);refine Ke (α:=Nat×BsRow) (fun x=>x.1≤8) (fun x=>⟨[(0,.pointer (some ⟨hb,0,none⟩)),(3,.pointer (some ⟨b3,0,none⟩)),(4,bsV x.2 ((((rest++[128])++List.replicate (p512.zs rest.length) 0)++List.replicate (8) 0)++lenP n (x.1)).length),(35,.int .i64 ((x.1:Nat):Int))],[.blk hb ⟨false,shL .u64 p512 size (h.at) (bsV r rest.length) (n),311,(0,0)⟩,roI 5 r rest,.blk b3 ⟨true,shL .u64 p512 size (h.at) (bsV r rest.length) (n),311,(0,0)⟩,bsI 5 x.2 ((((rest++[128])++List.replicate (p512.zs rest.length) 0)++List.replicate (8) 0)++lenP n (x.1))]⟩) (fun x=>8-x.1) ((0,rj)) (Nat.zero_le _) (Ka ⟨rfl,rfl,rfl,rfl,trivial⟩ mS) ?_
  rintro ⟨j,rj⟩ hj
  dsimp only at hj ⊢
  refine KB (KA ?_);refine oP (KF rfl rfl (KAF (b:=8))) ?_;refine KC (KB ?_)
  first|refine KR rfl (fun h36=>?_) (fun h36=>?_)|refine KS rfl (fun h36=>?_) (fun h36=>?_)
  ·
   have h36:j<8:=h36
   refine KN (KB (LCode.block (KB (KA (oM (oA (KC (KA (oM (oM ?_))))))))));refine oP (KG rfl) ?_;refine oP (KE (o':=90) u311 rfl rfl rfl sz_30 dc) ?_;refine oD (dL rfl (hv:=KJ u30 rfl (by exact shL_n))) ?_;refine oP (KF rfl rfl (br_shl64m (b:=3) dc)) ?_;refine oM ?_;refine oP (KF rfl rfl (br_mul (a:=8) om)) ?_;refine oP (KF rfl rfl (KAb (a:=56) om om)) ?_;refine oP (KF rfl rfl (br_shr64m om)) ?_;refine oP (Det.conv8 u30 u5 rfl) ?_;refine oS (mk (KAc u70 inf_5 rfl rfl rfl rfl dc rfl) (fun b49=>?_));refine LOps.step rfl (KAO (news:=[n*2^3%18446744073709551616/2^(56-8*j)%256]) rfl rfl u70 inf_5 mP (fun w hw=>src_blk (l:=[n*2^3%18446744073709551616/2^(56-8*j)%256]) u70 (hw (.blk b49 ⟨true,numL [n*2^3%18446744073709551616/2^(56-8*j)%256],5,(0,0)⟩) mM)) (by first|omega|(simp only [List.length_append,List.length_replicate,List.length_cons,List.length_nil,lenP_length,Hp.outP_length,Hp.wbP_length]; omega)|(have hw:i*p512.wb≤64:=Nat.mul_le_mul_right 8 (Nat.le_of_lt h58); simp only [List.length_append,Hp.outP_length,Hp.wbP_length,List.length_cons,List.length_nil]; omega)) (Nb rfl) ?_)
   intro rk
   rw [List.append_assoc,← lenP_succ]
   refine oA (KC (KA ?_));refine oP (KF rfl rfl (Ko (b:=1) om)) ?_;refine oM (KC ?_)
   exact ⟨(j+1,rk),by dsimp only; omega,by dsimp only; omega,Ka ⟨rfl,rfl,rfl,rfl,trivial⟩ mS⟩
  have h36:¬ j<8:=h36
  obtain rfl:j = 8:=by omega
  refine Kc (KB (KA ?_));refine oP (KAS rfl) ?_;refine oM ?_;refine LOps.step rfl (Km (first:=[]) (caps:=[]) rfl en_204 rfl (Nb rfl) sR wK (fun w hH hd=>c_blocks512 size _ h _ b3 rj ((((rest++[128])++List.replicate (p512.zs rest.length) 0)++List.replicate (8) 0)++lenP n (8)) w hH hd) ?_)
  rintro _ _ ⟨⟨r5,rfl,hfp,hpw⟩,rfl⟩
  obtain ⟨g,hg⟩:∃ g,g = (p512.blks ((((rest++[128])++List.replicate (p512.zs rest.length) 0)++List.replicate (8) 0)++lenP n (8)) (((((rest++[128])++List.replicate (p512.zs rest.length) 0)++List.replicate (8) 0)++lenP n (8)).length/128) h):=⟨_,rfl⟩
  rw [← hg]
  refine KC (KB (KA (oA (KC (KB (KB (KA ?_)))))));refine oP (KE (o':=1) u311 rfl rfl rfl sz_305 dc) ?_;refine oD (dL rfl (hv:=by exact LoadV.many u305 rfl sz_305 shL_hs (by rw [shL_length]; decide))) ?_;refine oP (Ki (v:=.int .i64 ((0:Nat):Int)) rfl) ?_;refine KC (LCode.block ?_);refine Ke (α:=Nat×BsRow) (fun x=>x.1≤8) (fun x=>⟨[(0,.pointer (some ⟨hb,0,none⟩)),(6,bsV x.2 (p512.outP g (x.1)).length),(56,.agg (vec .u64 8 (g.at)).toArray),(57,.int .i64 ((x.1:Nat):Int))],[.blk hb ⟨false,shL .u64 p512 size (h.at) (bsV r rest.length) (n),311,(0,0)⟩,roI 5 r rest,bsI 5 x.2 (p512.outP g (x.1))]⟩) (fun x=>8-x.1) ((0,none)) (Nat.zero_le _) (KAC (Sub.add (x:=bsI 5 none []) (bsI_nil 5) rfl) (Ka ⟨rfl,rfl,rfl,rfl,trivial⟩ mS)) ?_
  rintro ⟨i,ri⟩ hi
  dsimp only at hi ⊢
  refine KB (KA ?_);refine oP (KF rfl rfl (KAF (b:=8))) ?_;refine KC (KB ?_)
  first|refine KR rfl (fun h58=>?_) (fun h58=>?_)|refine KS rfl (fun h58=>?_) (fun h58=>?_)
  ·
   have h58:i<8:=h58
   refine KN (KB (LCode.block (KB (KA ?_))));refine oP (Det.indexAgg u305 u30 rfl sz_30 rfl rfl h58 (KU _ _ _ h58)) ?_;refine oA (KC (KB ?_))
   rw [show (p512.outP g (i)) = (p512.outP g (i))++(p512.wbP (g.at i) 0) from (List.append_nil _).symm]
   refine KA ?_;refine oP (Ki (v:=.int .i64 ((0:Nat):Int)) rfl) ?_;refine KC (LCode.block ?_);refine Ke (α:=Nat×BsRow) (fun x=>x.1≤8) (fun x=>⟨[(0,.pointer (some ⟨hb,0,none⟩)),(6,bsV x.2 ((p512.outP g (i))++(p512.wbP (g.at i) x.1)).length),(56,.agg (vec .u64 8 (g.at)).toArray),(57,.int .i64 ((i:Nat):Int)),(8,.int .u64 ((g.at i:Nat):Int)),(60,.int .i64 ((x.1:Nat):Int))],[.blk hb ⟨false,shL .u64 p512 size (h.at) (bsV r rest.length) (n),311,(0,0)⟩,roI 5 r rest,bsI 5 x.2 ((p512.outP g (i))++(p512.wbP (g.at i) x.1))]⟩) (fun x=>8-x.1) ((0,ri)) (Nat.zero_le _) (Ka ⟨rfl,rfl,rfl,rfl,rfl,rfl,trivial⟩ mS) ?_
   rintro ⟨j,rj⟩ hj
   dsimp only at hj ⊢
   refine KB (KA ?_);refine oP (KF rfl rfl (KAF (b:=8))) ?_;refine KC (KB ?_)
   first|refine KR rfl (fun h61=>?_) (fun h61=>?_)|refine KS rfl (fun h61=>?_) (fun h61=>?_)
   ·
    have h61:j<8:=h61
    refine KN (KB (LCode.block (KB (KA (oM (oA (KC (KA (oM (oM (oM ?_)))))))))));refine oP (KF rfl rfl (br_mul (a:=8) om)) ?_;refine oP (KF rfl rfl (KAb (a:=56) om om)) ?_;refine oP (KF rfl rfl (br_shr64m om)) ?_;refine oP (Det.conv8 u30 u5 rfl) ?_;refine oS (mk (KAc u70 inf_5 rfl rfl rfl rfl dc rfl) (fun b70=>?_));refine LOps.step rfl (KAO (news:=[g.at i/2^(p512.bits-8-8*j)%256]) rfl rfl u70 inf_5 mP (fun w hw=>src_blk (l:=[g.at i/2^(p512.bits-8-8*j)%256]) u70 (hw (.blk b70 ⟨true,numL [g.at i/2^(p512.bits-8-8*j)%256],5,(0,0)⟩) mM)) (by first|omega|(simp only [List.length_append,List.length_replicate,List.length_cons,List.length_nil,lenP_length,Hp.outP_length,Hp.wbP_length]; omega)|(have hw:i*p512.wb≤64:=Nat.mul_le_mul_right 8 (Nat.le_of_lt h58); simp only [List.length_append,Hp.outP_length,Hp.wbP_length,List.length_cons,List.length_nil]; omega)) (Nb rfl) ?_)
    intro rk
    rw [List.append_assoc,← p512.wbP_succ]
    refine oA (KC (KA ?_));refine oP (KF rfl rfl (Ko (b:=1) om)) ?_;refine oM (KC ?_)
    exact ⟨(j+1,rk),by dsimp only; omega,by dsimp only; omega,Ka ⟨rfl,rfl,rfl,rfl,rfl,rfl,trivial⟩ mS⟩
   have h61:¬ j<8:=h61
   obtain rfl:j = 8:=by omega
   refine Kc (KA ?_);refine oP (KF rfl rfl (Ko (b:=1) om)) ?_;refine oM (KC ?_)
   exact ⟨(i+1,rj),by dsimp only; omega,by dsimp only; omega,by
     dsimp only
     rw [p512.outP_succ]
     exact Ka ⟨rfl,rfl,rfl,rfl,trivial⟩ mS⟩
  have h58:¬ i<8:=h58
  obtain rfl:i = 8:=by omega
  refine Kc (KB (KA (oM (oM ?_))));refine oP (KG rfl) ?_;refine oP (KE (o':=0) u311 rfl rfl rfl sz_3 dc) ?_;refine oD (dL rfl (hv:=KJ u3 rfl (by first|rfl|exact KU _ _ _ om|exact KY _ om|exact Kb _ om|exact dv_m _ _ _ om))) ?_;refine oP (KF rfl rfl (br_quo (b:=8) om om)) ?_;refine oP (Det.slH u70 sz_5 rfl rfl om (by rw [p512.outP_length]; exact Int.ofNat_le.2 (Nat.le_trans hsz (Nat.le_add_right _ _)))) ?_;refine oD (Det.bsStr (l:=(p512.outP g (8))) (k:=size/8) u70 u5 u9 rfl mM (by rw [p512.outP_length]; exact hsz)) ?_;refine oA (KC (KM ?_));refine ⟨[_],.cons rfl .nil,fun a w' hr=>⟨?_,hr.fr.below⟩⟩
  rw [hg]
  rfl
end Go.Proofs.YtnpeokiboiclfaaGreat
set_option maxRecDepth 100000
namespace Go.Proofs
open Go.Shelf Go.RowKit
def Tryz.laysRepeat_ren:Go.Shelf.Ren:=⟨fun|105=>33|212=>69|99=>70|165=>71|166=>72|170=>73|169=>74|263=>122|264=>123|206=>124|240=>125|241=>126|276=>163|277=>164|n=>n,fun|9=>9|3=>3|4=>4|20=>20|0=>0|46=>56|109=>144|5=>5|72=>149|76=>153|51=>188|146=>189|53=>30|148=>191|70=>147|37=>70|75=>152|127=>193|164=>243|80=>155|n=>n,fun|n=>n⟩
theorem Tryz.laysRepeat:Go.Proofs.Lays.n105 Tryz.prog Tryz.laysRepeat_ren:={
  mixed:=by kernel_rfl
  f99:=Tryz.func70.trans (congrArg some (by kernel_rfl))
  f105:=Tryz.func33.trans (congrArg some (by kernel_rfl))
  f165:=Tryz.func71.trans (congrArg some (by kernel_rfl))
  f166:=Tryz.func72.trans (congrArg some (by kernel_rfl))
  f169:=Tryz.func74.trans (congrArg some (by kernel_rfl))
  f170:=Tryz.func73.trans (congrArg some (by kernel_rfl))
  f206:=Tryz.func124.trans (congrArg some (by kernel_rfl))
  f212:=Tryz.func69.trans (congrArg some (by kernel_rfl))
  f240:=Tryz.func125.trans (congrArg some (by kernel_rfl))
  f241:=Tryz.func126.trans (congrArg some (by kernel_rfl))
  f263:=Tryz.func122.trans (congrArg some (by kernel_rfl))
  f264:=Tryz.func123.trans (congrArg some (by kernel_rfl))
  f276:=Tryz.func163.trans (congrArg some (by kernel_rfl))
  f277:=Tryz.func164.trans (congrArg some (by kernel_rfl))
  t0:=Tryz.underlying0
  a0:=Tryz.isAgg0
  z0:=Tryz.sizeOf0
  v0:=Tryz.zeroValue0
  t3:=Tryz.underlying3
  a3:=Tryz.isAgg3
  z3:=Tryz.sizeOf3
  v3:=Tryz.zeroValue3
  t4:=Tryz.underlying4
  a4:=Tryz.isAgg4
  z4:=Tryz.sizeOf4
  v4:=Tryz.zeroValue4
  t5:=Tryz.underlying5
  a5:=Tryz.isAgg5
  z5:=Tryz.sizeOf5
  v5:=Tryz.zeroValue5
  t9:=Tryz.underlying9
  a9:=Tryz.isAgg9
  z9:=Tryz.sizeOf9
  v9:=Tryz.zeroValue9
  t20:=Tryz.underlying20
  a20:=Tryz.isAgg20
  z20:=Tryz.sizeOf20
  v20:=Tryz.zeroValue20
  t37:=Tryz.underlying70
  a37:=Tryz.isAgg70
  z37:=Tryz.sizeOf70
  v37:=Tryz.zeroValue70
  t46:=Tryz.underlying56
  a46:=Tryz.isAgg56
  z46:=Tryz.sizeOf56
  v46:=Tryz.zeroValue56
  t51:=Tryz.underlying188
  a51:=Tryz.isAgg188
  z51:=Tryz.sizeOf188
  v51:=Tryz.zeroValue188
  t53:=Tryz.underlying30
  a53:=Tryz.isAgg30
  z53:=Tryz.sizeOf30
  v53:=Tryz.zeroValue30
  t70:=Tryz.underlying147
  a70:=Tryz.isAgg147
  z70:=Tryz.sizeOf147
  v70:=Tryz.zeroValue147
  t72:=Tryz.underlying149
  a72:=Tryz.isAgg149
  z72:=Tryz.sizeOf149
  v72:=Tryz.zeroValue149
  t75:=Tryz.underlying152
  a75:=Tryz.isAgg152
  z75:=Tryz.sizeOf152
  v75:=Tryz.zeroValue152
  t76:=Tryz.underlying153
  a76:=Tryz.isAgg153
  z76:=Tryz.sizeOf153
  v76:=Tryz.zeroValue153
  t109:=Tryz.underlying144
  a109:=Tryz.isAgg144
  z109:=Tryz.sizeOf144
  v109:=Tryz.zeroValue144
  t127:=Tryz.underlying193
  a127:=Tryz.isAgg193
  z127:=Tryz.sizeOf193
  v127:=Tryz.zeroValue193
  t146:=Tryz.underlying189
  a146:=Tryz.isAgg189
  z146:=Tryz.sizeOf189
  v146:=Tryz.zeroValue189
  t148:=Tryz.underlying191
  a148:=Tryz.isAgg191
  z148:=Tryz.sizeOf191
  v148:=Tryz.zeroValue191
  t164:=Tryz.underlying243
  a164:=Tryz.isAgg243
  z164:=Tryz.sizeOf243
  v164:=Tryz.zeroValue243 }
theorem Tryz.extra:Builder.Extra Tryz.prog Tryz.laysRepeat_ren where
  sizeBuilder:=by kernel_rfl
  liesBuilder:=by kernel_rfl
  t5:=Tryz.laysRepeat.t5
  a5:=Tryz.laysRepeat.a5
  z5:=Tryz.laysRepeat.z5
  v5:=Tryz.laysRepeat.v5
  infoByte:=by kernel_rfl
  cellsByte:=by kernel_rfl
  sizeByte:=by kernel_rfl
  neB5:=by decide
end Go.Proofs
namespace Go.Proofs.YtnpeokiboiclfaaGreat
open Go Go.RowKit
theorem repeat_rep (x:UInt8) (n:Nat):Go.Lib.repeatL (ByteArray.mk #[x]).data.toList n = List.replicate n x:=by
  have:=Go.Lib.repeatL_replicate x 1 n
  simpa using this
end Go.Proofs.YtnpeokiboiclfaaGreat
set_option linter.unusedVariables false
set_option linter.unusedSimpArgs false
set_option maxRecDepth 20000
namespace Go.Proofs.YtnpeokiboiclfaaGreat
open Go Go.RowKit
theorem c_Repeat (x:UInt8) (n:Nat) (w:World) (hn:n≤140737488355328):Calls Tryz.prog 33 ([.string ⟨#[x]⟩,.int .i64 (n:Int)]:List Value).toArray w (fun e w'=>e = .returned (.string (toS (List.replicate n x.toNat)))∧Below w.heap.size w w'):=by
  have h:=Go.Proofs.Any.strings_Repeat Tryz.laysRepeat Tryz.extra ⟨#[x]⟩ n w om (by show 1*n≤_; omega)
  have e1:Tryz.laysRepeat_ren.f 105 = 33:=by kernel_rfl
  rw [e1] at h
  refine h.mono fun e w' ⟨he,hw⟩=>⟨?_,hw⟩
  rw [he,repeat_rep]
  unfold toS strOf
  rw [List.map_replicate,UInt8.ofNat_toNat]
def hbits:Nat→Nat
  | 1=>224
  | 2=>256
  | 3=>384
  | _=>512
def hsize:Nat→Nat
  | 1=>28
  | 2=>32
  | 3=>48
  | _=>64
def hblk:Nat→Nat
  | 1=>64
  | 2=>64
  | _=>128
def hiv:Nat→S8
  | 1=>iv224
  | 2=>iv256
  | 3=>iv384
  | _=>iv512
def hp:Nat→Hp
  | 1=>p256
  | 2=>p256
  | _=>p512
def hinit (k:Nat):ShS:=⟨hiv k,[],0⟩
def hsum (k:Nat) (s:ShS):List Nat:=(hp k).sum s (hbits k/8)
def hashL (k:Nat) (x:List Nat):List Nat:=hsum k ((hp k).write (hinit k) x)
theorem c_hof (k:Nat) (hk:k = 1∨k = 2∨k = 3∨k = 4) (w:World)  : Calls Tryz.prog 68 ([.int .i64 ((k:Nat):Int)]:List Value).toArray w (fun e w'=>e = .returned (.tuple #[.agg ([.int .i64 ((hbits k:Nat):Int),.int .i64 ((hsize k:Nat):Int),.int .i64 ((hblk k:Nat):Int)]:List Value).toArray,.bool true])∧Below w.heap.size w w'):=by
  refine KX (N:=18) (rs:=[.cell 2 140,.tmp 3]) [] Tryz.func68 rfl Tryz.ntmps68 Tryz.results68 (Nb rfl) trivial rfl ?_
  refine KB ?_
  rcases hk with rfl|rfl|rfl|rfl
  ·
   refine KA ?_;refine oS (mk (KL zr_140) (fun b2=>?_));refine oA (KC (KB (KB (KA (oM (KC (LCode.block (KB (KA ?_)))))))));refine oP (KF (v:=.bool true) rfl rfl (br_t (Kz (b:=1)) (rfl))) ?_;refine oA (KC ?_);refine KT rfl ?_;refine KB (KA ?_);refine oP (Kd pl_140 zr_140 rfl (fT (r':=([.int .i64 ((224:Nat):Int)]++([.int .i64 ((28:Nat):Int)]++([.int .i64 ((64:Nat):Int)])))) (fS (A:=([]:List Value)) (B:=([Value.int .i64 ((0:Nat):Int)])) (D:=([Value.int .i64 ((0:Nat):Int)]++([Value.int .i64 ((0:Nat):Int)]))) (cs:=[.int .i64 ((224:Nat):Int)]) (fS (A:=([.int .i64 ((224:Nat):Int)])) (B:=([Value.int .i64 ((0:Nat):Int)])) (D:=([Value.int .i64 ((0:Nat):Int)])) (cs:=[.int .i64 ((28:Nat):Int)]) (fS (A:=([.int .i64 ((224:Nat):Int)]++([.int .i64 ((28:Nat):Int)]))) (B:=([Value.int .i64 ((0:Nat):Int)])) (D:=([]:List Value)) (cs:=[.int .i64 ((64:Nat):Int)]) rfl))))) ?_;refine LOps.step rfl (sA rfl rfl sz_140 mO (hl:=mL) (h:=?_))
   refine oA (KC (KM ?_));refine ⟨[_,_],.cons ⟨_,_,_,rfl,mM,by exact KD u140 rfl sz_140⟩ (.cons rfl .nil),fun a w' hr=>⟨?_,hr.fr.below⟩⟩
   rfl
  ·
   refine KA ?_;refine oS (mk (KL zr_140) (fun b2=>?_));refine oA (KC (KB (KB (KA (oM (KC (LCode.block (KB (KA ?_)))))))));refine oP (KF (v:=.bool false) rfl rfl (br_f (Kz (b:=1)) dc)) ?_;refine oA (KC ?_);refine KH rfl ?_;refine KB (KA ?_);refine oP (KF (v:=.bool true) rfl rfl (br_t (Kz (b:=2)) (rfl))) ?_;refine oA (KC ?_);refine KT rfl ?_;refine KB (KA ?_);refine oP (Kd pl_140 zr_140 rfl (fT (r':=([.int .i64 ((256:Nat):Int)]++([.int .i64 ((32:Nat):Int)]++([.int .i64 ((64:Nat):Int)])))) (fS (A:=([]:List Value)) (B:=([Value.int .i64 ((0:Nat):Int)])) (D:=([Value.int .i64 ((0:Nat):Int)]++([Value.int .i64 ((0:Nat):Int)]))) (cs:=[.int .i64 ((256:Nat):Int)]) (fS (A:=([.int .i64 ((256:Nat):Int)])) (B:=([Value.int .i64 ((0:Nat):Int)])) (D:=([Value.int .i64 ((0:Nat):Int)])) (cs:=[.int .i64 ((32:Nat):Int)]) (fS (A:=([.int .i64 ((256:Nat):Int)]++([.int .i64 ((32:Nat):Int)]))) (B:=([Value.int .i64 ((0:Nat):Int)])) (D:=([]:List Value)) (cs:=[.int .i64 ((64:Nat):Int)]) rfl))))) ?_
   refine LOps.step rfl (sA rfl rfl sz_140 mO (hl:=mL) (h:=?_));refine oA (KC (KM ?_));refine ⟨[_,_],.cons ⟨_,_,_,rfl,mM,by exact KD u140 rfl sz_140⟩ (.cons rfl .nil),fun a w' hr=>⟨?_,hr.fr.below⟩⟩
   rfl
  ·
   refine KA ?_;refine oS (mk (KL zr_140) (fun b2=>?_));refine oA (KC (KB (KB (KA (oM (KC (LCode.block (KB (KA ?_)))))))));refine oP (KF (v:=.bool false) rfl rfl (br_f (Kz (b:=1)) dc)) ?_;refine oA (KC ?_);refine KH rfl ?_;refine KB (KA ?_);refine oP (KF (v:=.bool false) rfl rfl (br_f (Kz (b:=2)) dc)) ?_;refine oA (KC ?_);refine KH rfl ?_;refine KB (KA ?_);refine oP (KF (v:=.bool true) rfl rfl (br_t (Kz (b:=3)) (rfl))) ?_;refine oA (KC ?_);refine KT rfl ?_;refine KB (KA ?_);refine oP (Kd pl_140 zr_140 rfl (fT (r':=([.int .i64 ((384:Nat):Int)]++([.int .i64 ((48:Nat):Int)]++([.int .i64 ((128:Nat):Int)])))) (fS (A:=([]:List Value)) (B:=([Value.int .i64 ((0:Nat):Int)])) (D:=([Value.int .i64 ((0:Nat):Int)]++([Value.int .i64 ((0:Nat):Int)]))) (cs:=[.int .i64 ((384:Nat):Int)]) (fS (A:=([.int .i64 ((384:Nat):Int)])) (B:=([Value.int .i64 ((0:Nat):Int)])) (D:=([Value.int .i64 ((0:Nat):Int)])) (cs:=[.int .i64 ((48:Nat):Int)]) (fS (A:=([.int .i64 ((384:Nat):Int)]++([.int .i64 ((48:Nat):Int)]))) (B:=([Value.int .i64 ((0:Nat):Int)])) (D:=([]:List Value)) (cs:=[.int .i64 ((128:Nat):Int)]) rfl))))) ?_
   refine LOps.step rfl (sA rfl rfl sz_140 mO (hl:=mL) (h:=?_));refine oA (KC (KM ?_));refine ⟨[_,_],.cons ⟨_,_,_,rfl,mM,by exact KD u140 rfl sz_140⟩ (.cons rfl .nil),fun a w' hr=>⟨?_,hr.fr.below⟩⟩
   rfl
  refine KA ?_;refine oS (mk (KL zr_140) (fun b2=>?_));refine oA (KC (KB (KB (KA (oM (KC (LCode.block (KB (KA ?_)))))))));refine oP (KF (v:=.bool false) rfl rfl (br_f (Kz (b:=1)) dc)) ?_;refine oA (KC ?_);refine KH rfl ?_;refine KB (KA ?_);refine oP (KF (v:=.bool false) rfl rfl (br_f (Kz (b:=2)) dc)) ?_;refine oA (KC ?_);refine KH rfl ?_;refine KB (KA ?_);refine oP (KF (v:=.bool false) rfl rfl (br_f (Kz (b:=3)) dc)) ?_;refine oA (KC ?_);refine KH rfl ?_;refine KB (KA ?_);refine oP (KF (v:=.bool true) rfl rfl (br_t (Kz (b:=4)) (rfl))) ?_;refine oA (KC ?_);refine KT rfl ?_;refine KB (KA ?_);refine oP (Kd pl_140 zr_140 rfl (fT (r':=([.int .i64 ((512:Nat):Int)]++([.int .i64 ((64:Nat):Int)]++([.int .i64 ((128:Nat):Int)])))) (fS (A:=([]:List Value)) (B:=([Value.int .i64 ((0:Nat):Int)])) (D:=([Value.int .i64 ((0:Nat):Int)]++([Value.int .i64 ((0:Nat):Int)]))) (cs:=[.int .i64 ((512:Nat):Int)]) (fS (A:=([.int .i64 ((512:Nat):Int)])) (B:=([Value.int .i64 ((0:Nat):Int)])) (D:=([Value.int .i64 ((0:Nat):Int)])) (cs:=[.int .i64 ((64:Nat):Int)]) (fS (A:=([.int .i64 ((512:Nat):Int)]++([.int .i64 ((64:Nat):Int)]))) (B:=([Value.int .i64 ((0:Nat):Int)])) (D:=([]:List Value)) (cs:=[.int .i64 ((128:Nat):Int)]) rfl))))) ?_
  refine LOps.step rfl (sA rfl rfl sz_140 mO (hl:=mL) (h:=?_));refine oA (KC (KM ?_));refine ⟨[_,_],.cons ⟨_,_,_,rfl,mM,by exact KD u140 rfl sz_140⟩ (.cons rfl .nil),fun a w' hr=>⟨?_,hr.fr.below⟩⟩
  rfl
theorem c_hSize (k:Nat) (hk:k = 1∨k = 2∨k = 3∨k = 4) (w:World)  : Calls Tryz.prog 31 ([.int .i64 ((k:Nat):Int)]:List Value).toArray w (fun e w'=>e = .returned (.int .i64 ((hsize k:Nat):Int))∧Below w.heap.size w w'):=by
  refine KX (N:=12) (rs:=[.tmp 2]) [] Tryz.func31 rfl Tryz.ntmps31 Tryz.results31 (Nb rfl) trivial rfl ?_
  refine KB (KA ?_);refine oP (KO (v:=.int .i64 ((0:Nat):Int)) rfl) ?_;refine KC (KB (KA (oM ?_)));refine oS (cF rfl en_68 rfl (fun w hw=>c_hof k hk w) ?_);refine oM ?_;refine oP (Det.extract rfl rfl) ?_;refine oP (Det.extract rfl rfl) ?_;refine oS (mk (KL zr_140) (fun b3=>?_));refine LOps.step rfl (sA rfl rfl sz_140 mO (hl:=mL) (h:=?_));refine oA (KC (KB (KA ?_)));refine oP (KE (o':=1) u140 rfl rfl rfl sz_3 dc) ?_;refine oD (dL rfl (hv:=KJ u3 rfl (by first|rfl|exact KU _ _ _ om|exact KY _ om|exact Kb _ om|exact dv_m _ _ _ om))) ?_;refine oA (KC (KM ?_));refine ⟨[_],.cons rfl .nil,fun a w' hr=>⟨?_,hr.fr.below⟩⟩
  rfl
theorem c_hBlock (k:Nat) (hk:k = 1∨k = 2∨k = 3∨k = 4) (w:World)  : Calls Tryz.prog 192 ([.int .i64 ((k:Nat):Int)]:List Value).toArray w (fun e w'=>e = .returned (.int .i64 ((hblk k:Nat):Int))∧Below w.heap.size w w'):=by
  refine KX (N:=12) (rs:=[.tmp 2]) [] Tryz.func192 rfl Tryz.ntmps192 Tryz.results192 (Nb rfl) trivial rfl ?_
  refine KB (KA ?_);refine oP (KO (v:=.int .i64 ((0:Nat):Int)) rfl) ?_;refine KC (KB (KA (oM ?_)));refine oS (cF rfl en_68 rfl (fun w hw=>c_hof k hk w) ?_);refine oM ?_;refine oP (Det.extract rfl rfl) ?_;refine oP (Det.extract rfl rfl) ?_;refine oS (mk (KL zr_140) (fun b3=>?_));refine LOps.step rfl (sA rfl rfl sz_140 mO (hl:=mL) (h:=?_));refine oA (KC (KB (KA ?_)));refine oP (KE (o':=2) u140 rfl rfl rfl sz_3 dc) ?_;refine oD (dL rfl (hv:=KJ u3 rfl (by first|rfl|exact KU _ _ _ om|exact KY _ om|exact Kb _ om|exact dv_m _ _ _ om))) ?_;refine oA (KC (KM ?_));refine ⟨[_],.cons rfl .nil,fun a w' hr=>⟨?_,hr.fr.below⟩⟩
  rfl
theorem c_bind256 (b:Nat) (w:World) (hH:∀ x,x∈([]++[]:List Item)→x.holds w) (hd:([]++[]:List Item).Pairwise Apart)  : Calls Tryz.prog 171 ([.pointer (some ⟨b,0,none⟩),.func (.func 172) #[] #[],.func (.func 173) #[] #[]]:List Value).toArray w (fun e w'=>∃ (u:Value) (x':Item) (y':Item) (z':Item),(∃ hb wb sb,u = .tuple #[.func (.func 196) #[] #[.pointer (some ⟨wb,0,none⟩),.pointer (some ⟨hb,0,none⟩)],.func (.func 197) #[] #[.pointer (some ⟨sb,0,none⟩),.pointer (some ⟨hb,0,none⟩)]]∧x' = .blk hb ⟨true,[.pointer (some ⟨b,0,none⟩)],255,(0,0)⟩∧y' = .blk wb ⟨true,[.func (.func 172) #[] #[]],260,(0,0)⟩∧z' = .blk sb ⟨true,[.func (.func 173) #[] #[]],261,(0,0)⟩)∧e = .returned u∧Outcome w [] [x',y',z'] w'):=by
  refine KAW [] (N:=10) (rs:=[.tmp 6,.tmp 7]) Tryz.func171 rfl Tryz.ntmps171 Tryz.results171 (Nb rfl) hH hd rfl rfl ?_
  refine KB (KA ?_);refine oS (mk (Makes.box1 rfl rfl) (fun b3=>?_));refine oS (mk (Makes.box1 rfl rfl) (fun b4=>?_));refine oS (mk (Makes.box1 rfl rfl) (fun b5=>?_));refine oA (oA (KC (KB (KA ?_))));refine oP (Det.makeFuncC2 rfl rfl) ?_;refine oP (Det.makeFuncC2 rfl rfl) ?_;refine oA (oA (KC (KM ?_)));refine ⟨[_,_],.cons rfl (.cons rfl .nil),fun a w' hr=>⟨_,_,_,_,⟨b3,b4,b5,rfl,rfl,rfl,rfl⟩,rfl,hr.out mS rfl⟩⟩
theorem c_bw256 (size n:Nat) (h:S8) (rest:List Nat) (r:BsRow) (b wb hb:Nat) (s:ByteArray) (hrl:rest.length≤64) (hs:s.size≤140737488351232) (w:World) (hH:∀ x,x∈([.blk b ⟨true,shL .u32 p256 size (h.at) (bsV r rest.length) (n),302,(0,0)⟩,bsI 5 r rest]++[.blk wb ⟨false,[.func (.func 172) #[] #[]],260,(0,0)⟩,.blk hb ⟨false,[.pointer (some ⟨b,0,none⟩)],255,(0,0)⟩]:List Item)→x.holds w) (hd:([.blk b ⟨true,shL .u32 p256 size (h.at) (bsV r rest.length) (n),302,(0,0)⟩,bsI 5 r rest]++[.blk wb ⟨false,[.func (.func 172) #[] #[]],260,(0,0)⟩,.blk hb ⟨false,[.pointer (some ⟨b,0,none⟩)],255,(0,0)⟩]:List Item).Pairwise Apart)  : Calls Tryz.prog 196 ([.string s,.pointer (some ⟨wb,0,none⟩),.pointer (some ⟨hb,0,none⟩)]:List Value).toArray w (fun e w'=>∃ (u:Value) (x':Item) (y':Item),(∃ r',u = .int .i64 ((0:Nat):Int)∧x' = .blk b ⟨true,shL .u32 p256 size ((p256.write ⟨h,rest,n⟩ (ofS s)).h.at) (bsV r' (p256.write ⟨h,rest,n⟩ (ofS s)).rest.length) ((p256.write ⟨h,rest,n⟩ (ofS s)).n),302,(0,0)⟩∧y' = bsI 5 r' (p256.write ⟨h,rest,n⟩ (ofS s)).rest)∧e = .returned u∧Outcome w [.blk b ⟨true,shL .u32 p256 size (h.at) (bsV r rest.length) (n),302,(0,0)⟩,bsI 5 r rest] [x',y'] w'):=by
  refine KAW [.blk b ⟨true,shL .u32 p256 size (h.at) (bsV r rest.length) (n),302,(0,0)⟩,bsI 5 r rest,.blk wb ⟨false,[.func (.func 172) #[] #[]],260,(0,0)⟩,.blk hb ⟨false,[.pointer (some ⟨b,0,none⟩)],255,(0,0)⟩] (N:=9) (rs:=[.tmp 4]) Tryz.func196 rfl Tryz.ntmps196 Tryz.results196 (Nb rfl) hH hd rfl rfl ?_
  refine KB (KA ?_);refine oP (KO (v:=.int .i64 ((0:Nat):Int)) rfl) ?_;refine KC (KB (KA ?_));refine oD (dL rfl (hv:=KJ u260 rfl (by first|rfl|exact KU _ _ _ om|exact KY _ om|exact Kb _ om|exact dv_m _ _ _ om))) ?_;refine oD (dL rfl (hv:=KJ u255 rfl (by first|rfl|exact KU _ _ _ om|exact KY _ om|exact Kb _ om|exact dv_m _ _ _ om))) ?_;refine oM ?_;refine LOps.step rfl (LStepW.callM2 (first:=[]) (caps:=[]) rfl en_172 rfl (Nb rfl) sR wK (fun w hH hd=>c_shaWrite256 size n h rest r b s hrl hs w hH hd) ?_)
  rintro _ _ _ ⟨r2,rfl,rfl,rfl⟩
  refine oA (KC (KM ?_));refine ⟨[_],.cons rfl .nil,fun a w' hr=>⟨_,_,_,⟨r2,rfl,rfl,rfl⟩,rfl,hr.out mS rfl⟩⟩
theorem c_bs256 (size n:Nat) (h:S8) (rest:List Nat) (r:BsRow) (b sb hb:Nat) (hrl:rest.length<64) (hsz:size/8≤32) (hsz2:size<1000) (w:World) (h1:(Item.blk b ⟨false,shL .u32 p256 size (h.at) (bsV r rest.length) (n),302,(0,0)⟩).holds w) (h2:(roI 5 r rest).holds w) (h3:(Item.blk sb ⟨false,[.func (.func 173) #[] #[]],261,(0,0)⟩).holds w) (h4:(Item.blk hb ⟨false,[.pointer (some ⟨b,0,none⟩)],255,(0,0)⟩).holds w):Calls Tryz.prog 197 ([.pointer (some ⟨sb,0,none⟩),.pointer (some ⟨hb,0,none⟩)]:List Value).toArray w (fun e w'=>e = .returned (.string (toS (p256.sum ⟨h,rest,n⟩ (size/8))))∧Below w.heap.size w w'):=by
  refine KX (N:=6) (rs:=[.tmp 2]) [.blk b ⟨false,shL .u32 p256 size (h.at) (bsV r rest.length) (n),302,(0,0)⟩,roI 5 r rest,.blk sb ⟨false,[.func (.func 173) #[] #[]],261,(0,0)⟩,.blk hb ⟨false,[.pointer (some ⟨b,0,none⟩)],255,(0,0)⟩] Tryz.func197 rfl Tryz.ntmps197 Tryz.results197 (Nb rfl) ⟨h1,h2,h3,h4,trivial⟩ rfl ?_
  refine KB (KA (oA (KC (KB (KA ?_)))));refine oD (dL rfl (hv:=KJ u261 rfl (by first|rfl|exact KU _ _ _ om|exact KY _ om|exact Kb _ om|exact dv_m _ _ _ om))) ?_;refine oD (dL rfl (hv:=KJ u255 rfl (by first|rfl|exact KU _ _ _ om|exact KY _ om|exact Kb _ om|exact dv_m _ _ _ om))) ?_;refine oS (cF rfl en_173 rfl (fun w hw=>c_shaSum256 size n h rest r b hrl hsz hsz2 w (mC hw) (mC hw)) ?_);refine oA (KC (KM ?_));refine ⟨[_],.cons rfl .nil,fun a w' hr=>⟨?_,hr.fr.below⟩⟩
  rfl
def strX256 (m:Nat×Nat×Nat×Nat×Nat) (sz:Nat) (r:BsRow) (st:ShS):List Item:=[.blk m.1 ⟨true,[.func (.func 196) #[] #[.pointer (some ⟨m.2.1,0,none⟩),.pointer (some ⟨m.2.2.2.1,0,none⟩)],.func (.func 197) #[] #[.pointer (some ⟨m.2.2.1,0,none⟩),.pointer (some ⟨m.2.2.2.1,0,none⟩)]],254,(0,0)⟩,.blk m.2.1 ⟨true,[.func (.func 172) #[] #[]],260,(0,0)⟩,.blk m.2.2.1 ⟨true,[.func (.func 173) #[] #[]],261,(0,0)⟩,.blk m.2.2.2.1 ⟨true,[.pointer (some ⟨m.2.2.2.2,0,none⟩)],255,(0,0)⟩,.blk m.2.2.2.2 ⟨true,shL .u32 p256 sz (st.h.at) (bsV r st.rest.length) (st.n),302,(0,0)⟩,bsI 5 r st.rest]
def strI256 (m:Nat×Nat×Nat×Nat×Nat) (sz:Nat) (r:BsRow) (st:ShS):Item:=gpI (strX256 m sz r st)
def strR256 (m:Nat×Nat×Nat×Nat×Nat) (sz:Nat) (r:BsRow) (st:ShS):Item:=.fact (strI256 m sz r st).fp (fun w=>(∀ x,x∈strX256 m sz r st→x.holds w)∧(strX256 m sz r st).Pairwise Apart)
theorem c_stWrite256 (m:Nat×Nat×Nat×Nat×Nat) (sz:Nat) (r:BsRow) (s:ShS) (x:ByteArray) (hrl:s.rest.length≤64) (hs:x.size≤140737488351232) (w:World) (hH:∀ x,x∈([strI256 m sz r s]++[]:List Item)→x.holds w) (hd:([strI256 m sz r s]++[]:List Item).Pairwise Apart)  : Calls Tryz.prog 136 ([.pointer (some ⟨m.1,0,none⟩),.string x]:List Value).toArray w (fun e w'=>∃ (u:Value) (x':Item),(∃ r',u = .int .i64 ((0:Nat):Int)∧x' = strI256 m sz r' (p256.write s (ofS x)))∧e = .returned u∧Outcome w [strI256 m sz r s] [x'] w'):=by
  refine KAW [strI256 m sz r s] (N:=20) (rs:=[.tmp 4]) Tryz.func136 rfl Tryz.ntmps136 Tryz.results136 (Nb rfl) hH hd rfl rfl ?_
  refine KB ?_;refine LCode.opn (strX256 m sz r s) (L:=[.blk m.1 ⟨true,[.func (.func 196) #[] #[.pointer (some ⟨m.2.1,0,none⟩),.pointer (some ⟨m.2.2.2.1,0,none⟩)],.func (.func 197) #[] #[.pointer (some ⟨m.2.2.1,0,none⟩),.pointer (some ⟨m.2.2.2.1,0,none⟩)]],254,(0,0)⟩,.blk m.2.1 ⟨true,[.func (.func 172) #[] #[]],260,(0,0)⟩,.blk m.2.2.1 ⟨true,[.func (.func 173) #[] #[]],261,(0,0)⟩,.blk m.2.2.2.1 ⟨true,[.pointer (some ⟨m.2.2.2.2,0,none⟩)],255,(0,0)⟩,.blk m.2.2.2.2 ⟨true,shL .u32 p256 sz (s.h.at) (bsV r s.rest.length) (s.n),302,(0,0)⟩,bsI 5 r s.rest]) sR rfl rfl ?_;refine KA ?_;refine oP (KO (v:=.int .i64 ((0:Nat):Int)) rfl) ?_;refine KC (KB (KB (KA (oM ?_))));refine oP (KAN u207 rfl rfl) ?_;refine oM ?_;refine oGM ?_;refine oGP (KG rfl) ?_;refine oGP (KE (o':=0) u254 rfl rfl rfl sz_251 dc) ?_;refine KAA rfl rfl (dL rfl (hv:=KJ u251 rfl (by first|rfl|exact KU _ _ _ om|exact KY _ om|exact Kb _ om|exact dv_m _ _ _ om))) (Nb rfl) ?_
  refine oGP (Det.eqfn u251 rfl rfl) ?_;refine oP (KV rfl rfl) ?_;refine KC ?_;refine KH rfl ?_;refine KN (KB (KA (oM ?_)));refine oP (KG rfl) ?_;refine oP (KE (o':=0) u254 rfl rfl rfl sz_251 dc) ?_;refine oD (dL rfl (hv:=KJ u251 rfl (by first|rfl|exact KU _ _ _ om|exact KY _ om|exact Kb _ om|exact dv_m _ _ _ om))) ?_;refine oM ?_;refine LOps.step rfl (LStepW.callM2 (first:=[]) (caps:=[.pointer (some ⟨m.2.1,0,none⟩),.pointer (some ⟨m.2.2.2.1,0,none⟩)]) rfl en_196 rfl (Nb rfl) sR wK (fun w hH hd=>c_bw256 sz s.n s.h s.rest r m.2.2.2.2 m.2.1 m.2.2.2.1 x hrl hs w hH hd) ?_)
  rintro _ _ _ ⟨r2,rfl,rfl,rfl⟩
  refine LOps.cls (strX256 m sz r2 (p256.write s (ofS x))) sR rfl ?_;refine oA (KC (KM ?_));refine ⟨[_],.cons rfl .nil,fun a w' hr=>⟨_,_,⟨r2,rfl,rfl⟩,rfl,hr.out mS rfl⟩⟩
theorem c_stSum256 (m:Nat×Nat×Nat×Nat×Nat) (sz:Nat) (r:BsRow) (s:ShS) (hrl:s.rest.length<64) (hsz:sz/8≤32) (hsz2:sz<1000) (w:World) (hS:(strR256 m sz r s).holds w):Calls Tryz.prog 137 ([.pointer (some ⟨m.1,0,none⟩)]:List Value).toArray w (fun e w'=>e = .returned (.string (toS (p256.sum s (sz/8))))∧Below w.heap.size w w'):=by
  have hg:=(gpI_P (X:=strX256 m sz r s) hS).1
  have g1:=hg _ (List.Mem.head _)
  have g2:=hg _ (List.Mem.tail _ (List.Mem.head _))
  have g3:=hg _ (List.Mem.tail _ (List.Mem.tail _ (List.Mem.head _)))
  have g4:=hg _ (List.Mem.tail _ (List.Mem.tail _ (List.Mem.tail _ (List.Mem.head _))))
  have g5:=hg _ (List.Mem.tail _ (List.Mem.tail _ (List.Mem.tail _ (List.Mem.tail _ (List.Mem.head _)))))
  have g6:=hg _ (List.Mem.tail _ (List.Mem.tail _ (List.Mem.tail _ (List.Mem.tail _ (List.Mem.tail _ (List.Mem.head _))))))
  refine KX (N:=17) (rs:=[.tmp 2]) [.blk m.1 ⟨false,[.func (.func 196) #[] #[.pointer (some ⟨m.2.1,0,none⟩),.pointer (some ⟨m.2.2.2.1,0,none⟩)],.func (.func 197) #[] #[.pointer (some ⟨m.2.2.1,0,none⟩),.pointer (some ⟨m.2.2.2.1,0,none⟩)]],254,(0,0)⟩,.blk m.2.1 ⟨false,[.func (.func 172) #[] #[]],260,(0,0)⟩,.blk m.2.2.1 ⟨false,[.func (.func 173) #[] #[]],261,(0,0)⟩,.blk m.2.2.2.1 ⟨false,[.pointer (some ⟨m.2.2.2.2,0,none⟩)],255,(0,0)⟩,.blk m.2.2.2.2 ⟨false,shL .u32 p256 sz (s.h.at) (bsV r s.rest.length) (s.n),302,(0,0)⟩,roI 5 r s.rest] Tryz.func137 rfl Tryz.ntmps137 Tryz.results137 (Nb rfl) ⟨g1,g2,g3,g4,g5,g6,trivial⟩ rfl ?_
  refine KB (KA (oA (KC (KB (KB (KA (oM ?_)))))));refine oP (KAN u207 rfl rfl) ?_;refine oM ?_;refine oGM ?_;refine oGP (KG rfl) ?_;refine oGP (KE (o':=1) u254 rfl rfl rfl sz_252 dc) ?_;refine KAA rfl rfl (dL rfl (hv:=KJ u252 rfl (by first|rfl|exact KU _ _ _ om|exact KY _ om|exact Kb _ om|exact dv_m _ _ _ om))) (Nb rfl) ?_;refine oGP (Det.eqfn u252 rfl rfl) ?_;refine oP (KV rfl rfl) ?_;refine KC ?_;refine KH rfl ?_;refine KN (KB (KA (oM ?_)));refine oP (KG rfl) ?_;refine oP (KE (o':=1) u254 rfl rfl rfl sz_252 dc) ?_;refine oD (dL rfl (hv:=KJ u252 rfl (by first|rfl|exact KU _ _ _ om|exact KY _ om|exact Kb _ om|exact dv_m _ _ _ om))) ?_;refine oS (LStep.callC (caps:=[.pointer (some ⟨m.2.2.1,0,none⟩),.pointer (some ⟨m.2.2.2.1,0,none⟩)]) rfl en_197 rfl (Nb rfl) (fun w hw=>c_bs256 sz s.n s.h s.rest r m.2.2.2.2 m.2.2.1 m.2.2.2.1 hrl hsz hsz2 w (mC hw) (mC hw) (mC hw) (mC hw)) ?_)
  refine oA (KC (KM ?_));refine ⟨[_],.cons rfl .nil,fun a w' hr=>⟨?_,hr.fr.below⟩⟩
  rfl
theorem c_shaNewK256 (k:Nat) (hk:k = 1∨k = 2) (w:World) (hH:∀ x,x∈([]++[]:List Item)→x.holds w) (hd:([]++[]:List Item).Pairwise Apart):Calls Tryz.prog 170 ([.int .i64 ((hbits k:Nat):Int)]:List Value).toArray w (fun e w'=>∃ (u:Value) (x':Item),(∃ b,u = .tuple #[.pointer (some ⟨b,0,none⟩),.int .i64 ((0:Nat):Int)]∧x' = .blk b ⟨true,shL .u32 p256 (hbits k) (S8.at (hiv k)) (.slice none 0 0) (0),302,(0,0)⟩)∧e = .returned u∧Outcome w [] [x'] w'):=by
  rcases hk with rfl|rfl
  · exact c_shaNew224 w hH hd
  · exact c_shaNew256 w hH hd
theorem c_hNew256 (k:Nat) (hk:k = 1∨k = 2) (w:World) (hH:∀ x,x∈([]++[]:List Item)→x.holds w) (hd:([]++[]:List Item).Pairwise Apart)  : Calls Tryz.prog 135 ([.int .i64 ((k:Nat):Int)]:List Value).toArray w (fun e w'=>∃ (u:Value) (x':Item),(∃ m:Nat×Nat×Nat×Nat×Nat,u = .tuple #[.pointer (some ⟨m.1,0,none⟩),.int .i64 ((0:Nat):Int)]∧x' = strI256 m (hbits k) none (hinit k))∧e = .returned u∧Outcome w [] [x'] w'):=by
  refine KAW [] (N:=58) (rs:=[.tmp 2,.tmp 3]) Tryz.func135 rfl Tryz.ntmps135 Tryz.results135 (Nb rfl) hH hd rfl rfl ?_
  refine KB (KA (oA ?_));refine oP (KO (v:=.int .i64 ((0:Nat):Int)) rfl) ?_;refine KC (KB (KA (oM ?_)));refine oS (cF rfl en_68 rfl (fun w hw=>c_hof k om w) ?_);refine oM ?_;refine oP (Det.extract rfl rfl) ?_;refine oP (Det.extract rfl rfl) ?_;refine oS (mk (KL zr_140) (fun b4=>?_));refine LOps.step rfl (sA rfl rfl sz_140 mO (hl:=mL) (h:=?_));refine oA (KC (KB (KB (KA (oM ?_)))));refine oP (KK (KAK rfl) (show _ = Value.bool false from rfl)) ?_;refine KC ?_;refine KH rfl ?_;refine KN (KB (KA ?_));refine oP (Kd pl_254 zr_254 rfl rfl) ?_;refine oS (mB (fun b19=>?_));refine oA (KC (KB (KB (KA ?_))));refine oP (KE (o':=2) u140 rfl rfl rfl sz_3 dc) ?_;refine oD (dL rfl (hv:=KJ u3 rfl (by first|rfl|exact KU _ _ _ om|exact KY _ om|exact Kb _ om|exact dv_m _ _ _ om))) ?_;refine oP (KF (v:=.bool true) rfl rfl (br_t (Kz (b:=64)) (by rcases hk with rfl|rfl <;> rfl))) ?_;refine KC ?_
  refine KT rfl ?_;refine KB (KA ?_);refine oP (KE (o':=0) u140 rfl rfl rfl sz_3 dc) ?_;refine oD (dL rfl (hv:=KJ u3 rfl (by first|rfl|exact KU _ _ _ om|exact KY _ om|exact Kb _ om|exact dv_m _ _ _ om))) ?_;refine LOps.step rfl (Km (first:=[]) (caps:=[]) (X:=[]) (RO:=[]) rfl en_170 rfl (Nb rfl) sR wK (fun w hH hd=>c_shaNewK256 k hk w hH hd) ?_)
  rintro _ _ ⟨hb0,rfl,rfl⟩
  refine oM ?_;refine oP (Det.extract rfl rfl) ?_;refine oP (Det.extract rfl rfl) ?_;refine oA (oA (KC (KA (oM (oM (oM ?_))))));refine LOps.step rfl (LStepW.callM3 (first:=[]) (caps:=[]) (X:=[]) (RO:=[]) rfl en_171 rfl (Nb rfl) sR wK (fun w hH hd=>c_bind256 hb0 w hH hd) ?_)
  rintro _ _ _ _ ⟨hb1,wb1,sb1,rfl,rfl,rfl,rfl⟩
  refine oM ?_;refine oP (Det.extract rfl rfl) ?_;refine oP (Det.extract rfl rfl) ?_;refine oP (KG rfl) ?_;refine oP (KE (o':=0) u254 rfl rfl rfl sz_251 dc) ?_;refine LOps.step rfl (KZ rfl rfl rfl sz_251 (by repeat (first|exact Sh _|apply St_)) (by first|(simp only [KQ,KI,Kh,Ks]; omega)|(simp; done)|(simp; omega)) (by first|exact KAG _ _ _ _ _|exact KAM _ _ _ _ om|exact KAL _ _ _ _|rfl) (by simp) ?_);refine oP (KG rfl) ?_;refine oP (KE (o':=1) u254 rfl rfl rfl sz_252 dc) ?_;refine LOps.step rfl (KZ rfl rfl rfl sz_252 (by repeat (first|exact Sh _|apply St_)) (by first|(simp only [KQ,KI,Kh,Ks]; omega)|(simp; done)|(simp; omega)) (by first|exact KAG _ _ _ _ _|exact KAM _ _ _ _ om|exact KAL _ _ _ _|rfl) (by simp) ?_);refine KC (KB ?_);refine LCode.sub (Sub.add (x:=bsI 5 none []) (bsI_nil 5) rfl) ?_;refine LCode.cls (strX256 (b19,wb1,sb1,hb1,hb0) (hbits k) none (hinit k)) sR rfl ?_
  refine KA (oM (oA ?_));refine oP (KO (v:=.int .i64 ((0:Nat):Int)) rfl) ?_;refine KC (KM ?_);refine ⟨[_,_],.cons rfl (.cons rfl .nil),fun a w' hr=>⟨_,_,⟨(b19,wb1,sb1,hb1,hb0),rfl,rfl⟩,rfl,hr.out mS rfl⟩⟩
theorem c_hOf256 (k:Nat) (hk:k = 1∨k = 2) (s:ByteArray) (hs:s.size≤140737488351232) (w:World)  : Calls Tryz.prog 85 ([.int .i64 ((k:Nat):Int),.string s]:List Value).toArray w (fun e w'=>e = .returned (.tuple #[.string (toS (hashL k (ofS s))),.int .i64 ((0:Nat):Int)])∧Below w.heap.size w w'):=by
  have hpk:hp k = p256:=by rcases hk with rfl|rfl <;> rfl
  refine KX (N:=21) (rs:=[.tmp 4,.tmp 5]) [] Tryz.func85 rfl Tryz.ntmps85 Tryz.results85 (Nb rfl) trivial rfl ?_
  refine KB (KA (oA ?_));refine oP (KO (v:=.int .i64 ((0:Nat):Int)) rfl) ?_;refine KC (KB (KA (oM ?_)));refine LOps.step rfl (Km (first:=[]) (caps:=[]) (X:=[]) (RO:=[]) rfl en_135 rfl (Nb rfl) sR wK (fun w hH hd=>c_hNew256 k hk w hH hd) ?_)
  rintro _ _ ⟨m,rfl,rfl⟩
  refine oM ?_;refine oP (Det.extract rfl rfl) ?_;refine oP (Det.extract rfl rfl) ?_;refine oA (oA (KC (KB (KB (KA (oM ?_))))));refine oP (KF (v:=.bool false) rfl rfl (br_f (br_neq (b:=0)) dc)) ?_;refine KC ?_;refine KH rfl ?_;refine KN (KB (KA (oM (oM ?_))));refine LOps.step rfl (Km (first:=[]) (caps:=[]) rfl en_136 rfl (Nb rfl) sR wK (fun w hH hd=>c_stWrite256 m (hbits k) none (hinit k) s (Nat.zero_le _) hs w hH hd) ?_)
  rintro _ _ ⟨r1,rfl,rfl⟩
  refine KC (KB (KA (oM ?_)));refine oS (cF rfl en_137 rfl (fun w hw=>c_stSum256 m (hbits k) r1 (p256.write (hinit k) (ofS s)) (p256.write_rest _ _ dc) (by rcases hk with rfl|rfl <;> decide) (by rcases hk with rfl|rfl <;> decide) w (show (strR256 m (hbits k) r1 (p256.write (hinit k) (ofS s))).holds w from hw (strI256 m (hbits k) r1 (p256.write (hinit k) (ofS s))) mM)) ?_);refine oA ?_;refine oP (KO (v:=.int .i64 ((0:Nat):Int)) rfl) ?_;refine KC (KM ?_);refine ⟨[_,_],.cons rfl (.cons rfl .nil),fun a w' hr=>⟨?_,hr.fr.below⟩⟩
  unfold hashL hsum
  rw [hpk]
  rfl
theorem c_bind512 (b:Nat) (w:World) (hH:∀ x,x∈([]++[]:List Item)→x.holds w) (hd:([]++[]:List Item).Pairwise Apart)  : Calls Tryz.prog 175 ([.pointer (some ⟨b,0,none⟩),.func (.func 176) #[] #[],.func (.func 177) #[] #[]]:List Value).toArray w (fun e w'=>∃ (u:Value) (x':Item) (y':Item) (z':Item),(∃ hb wb sb,u = .tuple #[.func (.func 202) #[] #[.pointer (some ⟨wb,0,none⟩),.pointer (some ⟨hb,0,none⟩)],.func (.func 203) #[] #[.pointer (some ⟨sb,0,none⟩),.pointer (some ⟨hb,0,none⟩)]]∧x' = .blk hb ⟨true,[.pointer (some ⟨b,0,none⟩)],262,(0,0)⟩∧y' = .blk wb ⟨true,[.func (.func 176) #[] #[]],266,(0,0)⟩∧z' = .blk sb ⟨true,[.func (.func 177) #[] #[]],267,(0,0)⟩)∧e = .returned u∧Outcome w [] [x',y',z'] w'):=by
  refine KAW [] (N:=10) (rs:=[.tmp 6,.tmp 7]) Tryz.func175 rfl Tryz.ntmps175 Tryz.results175 (Nb rfl) hH hd rfl rfl ?_
  refine KB (KA ?_);refine oS (mk (Makes.box1 rfl rfl) (fun b3=>?_));refine oS (mk (Makes.box1 rfl rfl) (fun b4=>?_));refine oS (mk (Makes.box1 rfl rfl) (fun b5=>?_));refine oA (oA (KC (KB (KA ?_))));refine oP (Det.makeFuncC2 rfl rfl) ?_;refine oP (Det.makeFuncC2 rfl rfl) ?_;refine oA (oA (KC (KM ?_)));refine ⟨[_,_],.cons rfl (.cons rfl .nil),fun a w' hr=>⟨_,_,_,_,⟨b3,b4,b5,rfl,rfl,rfl,rfl⟩,rfl,hr.out mS rfl⟩⟩
theorem c_bw512 (size n:Nat) (h:S8) (rest:List Nat) (r:BsRow) (b wb hb:Nat) (s:ByteArray) (hrl:rest.length≤128) (hs:s.size≤140737488351232) (w:World) (hH:∀ x,x∈([.blk b ⟨true,shL .u64 p512 size (h.at) (bsV r rest.length) (n),311,(0,0)⟩,bsI 5 r rest]++[.blk wb ⟨false,[.func (.func 176) #[] #[]],266,(0,0)⟩,.blk hb ⟨false,[.pointer (some ⟨b,0,none⟩)],262,(0,0)⟩]:List Item)→x.holds w) (hd:([.blk b ⟨true,shL .u64 p512 size (h.at) (bsV r rest.length) (n),311,(0,0)⟩,bsI 5 r rest]++[.blk wb ⟨false,[.func (.func 176) #[] #[]],266,(0,0)⟩,.blk hb ⟨false,[.pointer (some ⟨b,0,none⟩)],262,(0,0)⟩]:List Item).Pairwise Apart)  : Calls Tryz.prog 202 ([.string s,.pointer (some ⟨wb,0,none⟩),.pointer (some ⟨hb,0,none⟩)]:List Value).toArray w (fun e w'=>∃ (u:Value) (x':Item) (y':Item),(∃ r',u = .int .i64 ((0:Nat):Int)∧x' = .blk b ⟨true,shL .u64 p512 size ((p512.write ⟨h,rest,n⟩ (ofS s)).h.at) (bsV r' (p512.write ⟨h,rest,n⟩ (ofS s)).rest.length) ((p512.write ⟨h,rest,n⟩ (ofS s)).n),311,(0,0)⟩∧y' = bsI 5 r' (p512.write ⟨h,rest,n⟩ (ofS s)).rest)∧e = .returned u∧Outcome w [.blk b ⟨true,shL .u64 p512 size (h.at) (bsV r rest.length) (n),311,(0,0)⟩,bsI 5 r rest] [x',y'] w'):=by
  refine KAW [.blk b ⟨true,shL .u64 p512 size (h.at) (bsV r rest.length) (n),311,(0,0)⟩,bsI 5 r rest,.blk wb ⟨false,[.func (.func 176) #[] #[]],266,(0,0)⟩,.blk hb ⟨false,[.pointer (some ⟨b,0,none⟩)],262,(0,0)⟩] (N:=9) (rs:=[.tmp 4]) Tryz.func202 rfl Tryz.ntmps202 Tryz.results202 (Nb rfl) hH hd rfl rfl ?_
  refine KB (KA ?_);refine oP (KO (v:=.int .i64 ((0:Nat):Int)) rfl) ?_;refine KC (KB (KA ?_));refine oD (dL rfl (hv:=KJ u266 rfl (by first|rfl|exact KU _ _ _ om|exact KY _ om|exact Kb _ om|exact dv_m _ _ _ om))) ?_;refine oD (dL rfl (hv:=KJ u262 rfl (by first|rfl|exact KU _ _ _ om|exact KY _ om|exact Kb _ om|exact dv_m _ _ _ om))) ?_;refine oM ?_;refine LOps.step rfl (LStepW.callM2 (first:=[]) (caps:=[]) rfl en_176 rfl (Nb rfl) sR wK (fun w hH hd=>c_shaWrite512 size n h rest r b s hrl hs w hH hd) ?_)
  rintro _ _ _ ⟨r2,rfl,rfl,rfl⟩
  refine oA (KC (KM ?_));refine ⟨[_],.cons rfl .nil,fun a w' hr=>⟨_,_,_,⟨r2,rfl,rfl,rfl⟩,rfl,hr.out mS rfl⟩⟩
theorem c_bs512 (size n:Nat) (h:S8) (rest:List Nat) (r:BsRow) (b sb hb:Nat) (hrl:rest.length<128) (hsz:size/8≤64) (hsz2:size<1000) (w:World) (h1:(Item.blk b ⟨false,shL .u64 p512 size (h.at) (bsV r rest.length) (n),311,(0,0)⟩).holds w) (h2:(roI 5 r rest).holds w) (h3:(Item.blk sb ⟨false,[.func (.func 177) #[] #[]],267,(0,0)⟩).holds w) (h4:(Item.blk hb ⟨false,[.pointer (some ⟨b,0,none⟩)],262,(0,0)⟩).holds w):Calls Tryz.prog 203 ([.pointer (some ⟨sb,0,none⟩),.pointer (some ⟨hb,0,none⟩)]:List Value).toArray w (fun e w'=>e = .returned (.string (toS (p512.sum ⟨h,rest,n⟩ (size/8))))∧Below w.heap.size w w'):=by
  refine KX (N:=6) (rs:=[.tmp 2]) [.blk b ⟨false,shL .u64 p512 size (h.at) (bsV r rest.length) (n),311,(0,0)⟩,roI 5 r rest,.blk sb ⟨false,[.func (.func 177) #[] #[]],267,(0,0)⟩,.blk hb ⟨false,[.pointer (some ⟨b,0,none⟩)],262,(0,0)⟩] Tryz.func203 rfl Tryz.ntmps203 Tryz.results203 (Nb rfl) ⟨h1,h2,h3,h4,trivial⟩ rfl ?_
  refine KB (KA (oA (KC (KB (KA ?_)))));refine oD (dL rfl (hv:=KJ u267 rfl (by first|rfl|exact KU _ _ _ om|exact KY _ om|exact Kb _ om|exact dv_m _ _ _ om))) ?_;refine oD (dL rfl (hv:=KJ u262 rfl (by first|rfl|exact KU _ _ _ om|exact KY _ om|exact Kb _ om|exact dv_m _ _ _ om))) ?_;refine oS (cF rfl en_177 rfl (fun w hw=>c_shaSum512 size n h rest r b hrl hsz hsz2 w (mC hw) (mC hw)) ?_);refine oA (KC (KM ?_));refine ⟨[_],.cons rfl .nil,fun a w' hr=>⟨?_,hr.fr.below⟩⟩
  rfl
def strX512 (m:Nat×Nat×Nat×Nat×Nat) (sz:Nat) (r:BsRow) (st:ShS):List Item:=[.blk m.1 ⟨true,[.func (.func 202) #[] #[.pointer (some ⟨m.2.1,0,none⟩),.pointer (some ⟨m.2.2.2.1,0,none⟩)],.func (.func 203) #[] #[.pointer (some ⟨m.2.2.1,0,none⟩),.pointer (some ⟨m.2.2.2.1,0,none⟩)]],254,(0,0)⟩,.blk m.2.1 ⟨true,[.func (.func 176) #[] #[]],266,(0,0)⟩,.blk m.2.2.1 ⟨true,[.func (.func 177) #[] #[]],267,(0,0)⟩,.blk m.2.2.2.1 ⟨true,[.pointer (some ⟨m.2.2.2.2,0,none⟩)],262,(0,0)⟩,.blk m.2.2.2.2 ⟨true,shL .u64 p512 sz (st.h.at) (bsV r st.rest.length) (st.n),311,(0,0)⟩,bsI 5 r st.rest]
def strI512 (m:Nat×Nat×Nat×Nat×Nat) (sz:Nat) (r:BsRow) (st:ShS):Item:=gpI (strX512 m sz r st)
def strR512 (m:Nat×Nat×Nat×Nat×Nat) (sz:Nat) (r:BsRow) (st:ShS):Item:=.fact (strI512 m sz r st).fp (fun w=>(∀ x,x∈strX512 m sz r st→x.holds w)∧(strX512 m sz r st).Pairwise Apart)
theorem c_stWrite512 (m:Nat×Nat×Nat×Nat×Nat) (sz:Nat) (r:BsRow) (s:ShS) (x:ByteArray) (hrl:s.rest.length≤128) (hs:x.size≤140737488351232) (w:World) (hH:∀ x,x∈([strI512 m sz r s]++[]:List Item)→x.holds w) (hd:([strI512 m sz r s]++[]:List Item).Pairwise Apart)  : Calls Tryz.prog 136 ([.pointer (some ⟨m.1,0,none⟩),.string x]:List Value).toArray w (fun e w'=>∃ (u:Value) (x':Item),(∃ r',u = .int .i64 ((0:Nat):Int)∧x' = strI512 m sz r' (p512.write s (ofS x)))∧e = .returned u∧Outcome w [strI512 m sz r s] [x'] w'):=by
  refine KAW [strI512 m sz r s] (N:=20) (rs:=[.tmp 4]) Tryz.func136 rfl Tryz.ntmps136 Tryz.results136 (Nb rfl) hH hd rfl rfl ?_
  refine KB ?_;refine LCode.opn (strX512 m sz r s) (L:=[.blk m.1 ⟨true,[.func (.func 202) #[] #[.pointer (some ⟨m.2.1,0,none⟩),.pointer (some ⟨m.2.2.2.1,0,none⟩)],.func (.func 203) #[] #[.pointer (some ⟨m.2.2.1,0,none⟩),.pointer (some ⟨m.2.2.2.1,0,none⟩)]],254,(0,0)⟩,.blk m.2.1 ⟨true,[.func (.func 176) #[] #[]],266,(0,0)⟩,.blk m.2.2.1 ⟨true,[.func (.func 177) #[] #[]],267,(0,0)⟩,.blk m.2.2.2.1 ⟨true,[.pointer (some ⟨m.2.2.2.2,0,none⟩)],262,(0,0)⟩,.blk m.2.2.2.2 ⟨true,shL .u64 p512 sz (s.h.at) (bsV r s.rest.length) (s.n),311,(0,0)⟩,bsI 5 r s.rest]) sR rfl rfl ?_;refine KA ?_;refine oP (KO (v:=.int .i64 ((0:Nat):Int)) rfl) ?_;refine KC (KB (KB (KA (oM ?_))));refine oP (KAN u207 rfl rfl) ?_;refine oM ?_;refine oGM ?_;refine oGP (KG rfl) ?_;refine oGP (KE (o':=0) u254 rfl rfl rfl sz_251 dc) ?_;refine KAA rfl rfl (dL rfl (hv:=KJ u251 rfl (by first|rfl|exact KU _ _ _ om|exact KY _ om|exact Kb _ om|exact dv_m _ _ _ om))) (Nb rfl) ?_
  refine oGP (Det.eqfn u251 rfl rfl) ?_;refine oP (KV rfl rfl) ?_;refine KC ?_;refine KH rfl ?_;refine KN (KB (KA (oM ?_)));refine oP (KG rfl) ?_;refine oP (KE (o':=0) u254 rfl rfl rfl sz_251 dc) ?_;refine oD (dL rfl (hv:=KJ u251 rfl (by first|rfl|exact KU _ _ _ om|exact KY _ om|exact Kb _ om|exact dv_m _ _ _ om))) ?_;refine oM ?_;refine LOps.step rfl (LStepW.callM2 (first:=[]) (caps:=[.pointer (some ⟨m.2.1,0,none⟩),.pointer (some ⟨m.2.2.2.1,0,none⟩)]) rfl en_202 rfl (Nb rfl) sR wK (fun w hH hd=>c_bw512 sz s.n s.h s.rest r m.2.2.2.2 m.2.1 m.2.2.2.1 x hrl hs w hH hd) ?_)
  rintro _ _ _ ⟨r2,rfl,rfl,rfl⟩
  refine LOps.cls (strX512 m sz r2 (p512.write s (ofS x))) sR rfl ?_;refine oA (KC (KM ?_));refine ⟨[_],.cons rfl .nil,fun a w' hr=>⟨_,_,⟨r2,rfl,rfl⟩,rfl,hr.out mS rfl⟩⟩
theorem c_stSum512 (m:Nat×Nat×Nat×Nat×Nat) (sz:Nat) (r:BsRow) (s:ShS) (hrl:s.rest.length<128) (hsz:sz/8≤64) (hsz2:sz<1000) (w:World) (hS:(strR512 m sz r s).holds w):Calls Tryz.prog 137 ([.pointer (some ⟨m.1,0,none⟩)]:List Value).toArray w (fun e w'=>e = .returned (.string (toS (p512.sum s (sz/8))))∧Below w.heap.size w w'):=by
  have hg:=(gpI_P (X:=strX512 m sz r s) hS).1
  have g1:=hg _ (List.Mem.head _)
  have g2:=hg _ (List.Mem.tail _ (List.Mem.head _))
  have g3:=hg _ (List.Mem.tail _ (List.Mem.tail _ (List.Mem.head _)))
  have g4:=hg _ (List.Mem.tail _ (List.Mem.tail _ (List.Mem.tail _ (List.Mem.head _))))
  have g5:=hg _ (List.Mem.tail _ (List.Mem.tail _ (List.Mem.tail _ (List.Mem.tail _ (List.Mem.head _)))))
  have g6:=hg _ (List.Mem.tail _ (List.Mem.tail _ (List.Mem.tail _ (List.Mem.tail _ (List.Mem.tail _ (List.Mem.head _))))))
  refine KX (N:=17) (rs:=[.tmp 2]) [.blk m.1 ⟨false,[.func (.func 202) #[] #[.pointer (some ⟨m.2.1,0,none⟩),.pointer (some ⟨m.2.2.2.1,0,none⟩)],.func (.func 203) #[] #[.pointer (some ⟨m.2.2.1,0,none⟩),.pointer (some ⟨m.2.2.2.1,0,none⟩)]],254,(0,0)⟩,.blk m.2.1 ⟨false,[.func (.func 176) #[] #[]],266,(0,0)⟩,.blk m.2.2.1 ⟨false,[.func (.func 177) #[] #[]],267,(0,0)⟩,.blk m.2.2.2.1 ⟨false,[.pointer (some ⟨m.2.2.2.2,0,none⟩)],262,(0,0)⟩,.blk m.2.2.2.2 ⟨false,shL .u64 p512 sz (s.h.at) (bsV r s.rest.length) (s.n),311,(0,0)⟩,roI 5 r s.rest] Tryz.func137 rfl Tryz.ntmps137 Tryz.results137 (Nb rfl) ⟨g1,g2,g3,g4,g5,g6,trivial⟩ rfl ?_
  refine KB (KA (oA (KC (KB (KB (KA (oM ?_)))))));refine oP (KAN u207 rfl rfl) ?_;refine oM ?_;refine oGM ?_;refine oGP (KG rfl) ?_;refine oGP (KE (o':=1) u254 rfl rfl rfl sz_252 dc) ?_;refine KAA rfl rfl (dL rfl (hv:=KJ u252 rfl (by first|rfl|exact KU _ _ _ om|exact KY _ om|exact Kb _ om|exact dv_m _ _ _ om))) (Nb rfl) ?_;refine oGP (Det.eqfn u252 rfl rfl) ?_;refine oP (KV rfl rfl) ?_;refine KC ?_;refine KH rfl ?_;refine KN (KB (KA (oM ?_)));refine oP (KG rfl) ?_;refine oP (KE (o':=1) u254 rfl rfl rfl sz_252 dc) ?_;refine oD (dL rfl (hv:=KJ u252 rfl (by first|rfl|exact KU _ _ _ om|exact KY _ om|exact Kb _ om|exact dv_m _ _ _ om))) ?_;refine oS (LStep.callC (caps:=[.pointer (some ⟨m.2.2.1,0,none⟩),.pointer (some ⟨m.2.2.2.1,0,none⟩)]) rfl en_203 rfl (Nb rfl) (fun w hw=>c_bs512 sz s.n s.h s.rest r m.2.2.2.2 m.2.2.1 m.2.2.2.1 hrl hsz hsz2 w (mC hw) (mC hw) (mC hw) (mC hw)) ?_)
  refine oA (KC (KM ?_));refine ⟨[_],.cons rfl .nil,fun a w' hr=>⟨?_,hr.fr.below⟩⟩
  rfl
theorem c_shaNewK512 (k:Nat) (hk:k = 3∨k = 4) (w:World) (hH:∀ x,x∈([]++[]:List Item)→x.holds w) (hd:([]++[]:List Item).Pairwise Apart):Calls Tryz.prog 174 ([.int .i64 ((hbits k:Nat):Int)]:List Value).toArray w (fun e w'=>∃ (u:Value) (x':Item),(∃ b,u = .tuple #[.pointer (some ⟨b,0,none⟩),.int .i64 ((0:Nat):Int)]∧x' = .blk b ⟨true,shL .u64 p512 (hbits k) (S8.at (hiv k)) (.slice none 0 0) (0),311,(0,0)⟩)∧e = .returned u∧Outcome w [] [x'] w'):=by
  rcases hk with rfl|rfl
  · exact c_shaNew384 w hH hd
  · exact c_shaNew512 w hH hd
theorem c_hNew512 (k:Nat) (hk:k = 3∨k = 4) (w:World) (hH:∀ x,x∈([]++[]:List Item)→x.holds w) (hd:([]++[]:List Item).Pairwise Apart)  : Calls Tryz.prog 135 ([.int .i64 ((k:Nat):Int)]:List Value).toArray w (fun e w'=>∃ (u:Value) (x':Item),(∃ m:Nat×Nat×Nat×Nat×Nat,u = .tuple #[.pointer (some ⟨m.1,0,none⟩),.int .i64 ((0:Nat):Int)]∧x' = strI512 m (hbits k) none (hinit k))∧e = .returned u∧Outcome w [] [x'] w'):=by
  refine KAW [] (N:=58) (rs:=[.tmp 2,.tmp 3]) Tryz.func135 rfl Tryz.ntmps135 Tryz.results135 (Nb rfl) hH hd rfl rfl ?_
  refine KB (KA (oA ?_));refine oP (KO (v:=.int .i64 ((0:Nat):Int)) rfl) ?_;refine KC (KB (KA (oM ?_)));refine oS (cF rfl en_68 rfl (fun w hw=>c_hof k om w) ?_);refine oM ?_;refine oP (Det.extract rfl rfl) ?_;refine oP (Det.extract rfl rfl) ?_;refine oS (mk (KL zr_140) (fun b4=>?_));refine LOps.step rfl (sA rfl rfl sz_140 mO (hl:=mL) (h:=?_));refine oA (KC (KB (KB (KA (oM ?_)))));refine oP (KK (KAK rfl) (show _ = Value.bool false from rfl)) ?_;refine KC ?_;refine KH rfl ?_;refine KN (KB (KA ?_));refine oP (Kd pl_254 zr_254 rfl rfl) ?_;refine oS (mB (fun b19=>?_));refine oA (KC (KB (KB (KA ?_))));refine oP (KE (o':=2) u140 rfl rfl rfl sz_3 dc) ?_;refine oD (dL rfl (hv:=KJ u3 rfl (by first|rfl|exact KU _ _ _ om|exact KY _ om|exact Kb _ om|exact dv_m _ _ _ om))) ?_;refine oP (KF (v:=.bool false) rfl rfl (br_f (Kz (b:=64)) (by rcases hk with rfl|rfl <;> decide))) ?_
  refine KC ?_;refine KH rfl ?_;refine KB (KA ?_);refine oP (KE (o':=0) u140 rfl rfl rfl sz_3 dc) ?_;refine oD (dL rfl (hv:=KJ u3 rfl (by first|rfl|exact KU _ _ _ om|exact KY _ om|exact Kb _ om|exact dv_m _ _ _ om))) ?_;refine LOps.step rfl (Km (first:=[]) (caps:=[]) (X:=[]) (RO:=[]) rfl en_174 rfl (Nb rfl) sR wK (fun w hH hd=>c_shaNewK512 k hk w hH hd) ?_)
  rintro _ _ ⟨hb0,rfl,rfl⟩
  refine oM ?_;refine oP (Det.extract rfl rfl) ?_;refine oP (Det.extract rfl rfl) ?_;refine oA (oA (KC (KA (oM (oM (oM ?_))))));refine LOps.step rfl (LStepW.callM3 (first:=[]) (caps:=[]) (X:=[]) (RO:=[]) rfl en_175 rfl (Nb rfl) sR wK (fun w hH hd=>c_bind512 hb0 w hH hd) ?_)
  rintro _ _ _ _ ⟨hb1,wb1,sb1,rfl,rfl,rfl,rfl⟩
  refine oM ?_;refine oP (Det.extract rfl rfl) ?_;refine oP (Det.extract rfl rfl) ?_;refine oP (KG rfl) ?_;refine oP (KE (o':=0) u254 rfl rfl rfl sz_251 dc) ?_;refine LOps.step rfl (KZ rfl rfl rfl sz_251 (by repeat (first|exact Sh _|apply St_)) (by first|(simp only [KQ,KI,Kh,Ks]; omega)|(simp; done)|(simp; omega)) (by first|exact KAG _ _ _ _ _|exact KAM _ _ _ _ om|exact KAL _ _ _ _|rfl) (by simp) ?_);refine oP (KG rfl) ?_;refine oP (KE (o':=1) u254 rfl rfl rfl sz_252 dc) ?_;refine LOps.step rfl (KZ rfl rfl rfl sz_252 (by repeat (first|exact Sh _|apply St_)) (by first|(simp only [KQ,KI,Kh,Ks]; omega)|(simp; done)|(simp; omega)) (by first|exact KAG _ _ _ _ _|exact KAM _ _ _ _ om|exact KAL _ _ _ _|rfl) (by simp) ?_);refine KC (KB ?_);refine LCode.sub (Sub.add (x:=bsI 5 none []) (bsI_nil 5) rfl) ?_;refine LCode.cls (strX512 (b19,wb1,sb1,hb1,hb0) (hbits k) none (hinit k)) sR rfl ?_
  refine KA (oM (oA ?_));refine oP (KO (v:=.int .i64 ((0:Nat):Int)) rfl) ?_;refine KC (KM ?_);refine ⟨[_,_],.cons rfl (.cons rfl .nil),fun a w' hr=>⟨_,_,⟨(b19,wb1,sb1,hb1,hb0),rfl,rfl⟩,rfl,hr.out mS rfl⟩⟩
theorem c_hOf512 (k:Nat) (hk:k = 3∨k = 4) (s:ByteArray) (hs:s.size≤140737488351232) (w:World)  : Calls Tryz.prog 85 ([.int .i64 ((k:Nat):Int),.string s]:List Value).toArray w (fun e w'=>e = .returned (.tuple #[.string (toS (hashL k (ofS s))),.int .i64 ((0:Nat):Int)])∧Below w.heap.size w w'):=by
  have hpk:hp k = p512:=by rcases hk with rfl|rfl <;> rfl
  refine KX (N:=21) (rs:=[.tmp 4,.tmp 5]) [] Tryz.func85 rfl Tryz.ntmps85 Tryz.results85 (Nb rfl) trivial rfl ?_
  refine KB (KA (oA ?_));refine oP (KO (v:=.int .i64 ((0:Nat):Int)) rfl) ?_;refine KC (KB (KA (oM ?_)));refine LOps.step rfl (Km (first:=[]) (caps:=[]) (X:=[]) (RO:=[]) rfl en_135 rfl (Nb rfl) sR wK (fun w hH hd=>c_hNew512 k hk w hH hd) ?_)
  rintro _ _ ⟨m,rfl,rfl⟩
  refine oM ?_;refine oP (Det.extract rfl rfl) ?_;refine oP (Det.extract rfl rfl) ?_;refine oA (oA (KC (KB (KB (KA (oM ?_))))));refine oP (KF (v:=.bool false) rfl rfl (br_f (br_neq (b:=0)) dc)) ?_;refine KC ?_;refine KH rfl ?_;refine KN (KB (KA (oM (oM ?_))));refine LOps.step rfl (Km (first:=[]) (caps:=[]) rfl en_136 rfl (Nb rfl) sR wK (fun w hH hd=>c_stWrite512 m (hbits k) none (hinit k) s (Nat.zero_le _) hs w hH hd) ?_)
  rintro _ _ ⟨r1,rfl,rfl⟩
  refine KC (KB (KA (oM ?_)));refine oS (cF rfl en_137 rfl (fun w hw=>c_stSum512 m (hbits k) r1 (p512.write (hinit k) (ofS s)) (p512.write_rest _ _ dc) (by rcases hk with rfl|rfl <;> decide) (by rcases hk with rfl|rfl <;> decide) w (show (strR512 m (hbits k) r1 (p512.write (hinit k) (ofS s))).holds w from hw (strI512 m (hbits k) r1 (p512.write (hinit k) (ofS s))) mM)) ?_);refine oA ?_;refine oP (KO (v:=.int .i64 ((0:Nat):Int)) rfl) ?_;refine KC (KM ?_);refine ⟨[_,_],.cons rfl (.cons rfl .nil),fun a w' hr=>⟨?_,hr.fr.below⟩⟩
  unfold hashL hsum
  rw [hpk]
  rfl
theorem c_hOf (k:Nat) (hk:k = 1∨k = 2∨k = 3∨k = 4) (s:ByteArray) (hs:s.size≤140737488351232) (w:World):Calls Tryz.prog 85 ([.int .i64 ((k:Nat):Int),.string s]:List Value).toArray w (fun e w'=>e = .returned (.tuple #[.string (toS (hashL k (ofS s))),.int .i64 ((0:Nat):Int)])∧Below w.heap.size w w'):=by
  rcases hk with hk|hk|hk|hk
  · exact c_hOf256 k (.inl hk) s hs w
  · exact c_hOf256 k (.inr hk) s hs w
  · exact c_hOf512 k (.inl hk) s hs w
  · exact c_hOf512 k (.inr hk) s hs w
end Go.Proofs.YtnpeokiboiclfaaGreat
set_option linter.unusedVariables false
set_option linter.unusedSimpArgs false
namespace Go.Proofs.YtnpeokiboiclfaaGreat
open Go Go.RowKit
def byF (s:ByteArray) (i:Nat):Nat:=(s.data.toList.getD i 0).toNat
theorem Rel.allocF {C : Ctx} {st : St} {a : Act} {w : World} (h : Rel C st a w) (cs : List Value) (e : TypeId) (fz : Nat × Nat) :
    Rel C ⟨st.T,.blk w.heap.size ⟨true,cs,e,fz⟩ :: st.H⟩ a (w.alloc (.cells cs.toArray e fz)):=by
  refine ⟨h.size,h.defers,h.tm,?_,?_,?_,?_⟩
  · intro x hx
    rcases List.mem_cons.1 hx with rfl|hx
    · exact heap_alloc_new _ _
    · exact holds_alloc (h.hp x hx) _
  · intro x hx hw k hk
    rcases List.mem_cons.1 hx with rfl|hx
    · simp [Item.fp] at hk; subst hk; exact .inl h.fr.size
    · exact h.own x hx hw k hk
  · refine List.pairwise_cons.2 ⟨fun y hy _ k hk hk'=>?_,h.dist⟩
    simp [Item.fp] at hk; subst hk
    exact Nat.lt_irrefl _ (Item.lt (h.hp y hy) _ hk')
  · exact ⟨h.fr.os,h.fr.tape,h.fr.output,by have:=h.fr.size; simp; omega,fun k hk hw=>(Below.heap_alloc _ _ _ (Nat.lt_of_lt_of_le hk h.fr.size)).trans (h.fr.block k hk hw)⟩
section
variable {P:Program} {C:Ctx} {ty:TypeId} {pos:String} {aft:Array Edge} {d:Nat} {K:St→Prop} {x:Operand} {t e sr:TypeId}
theorem LStepW.toBytes {T : List (Nat × Value)} {H : List Item} {s : ByteArray} {g : Option (Nat × Bool)} {u : TypeDesc} (hx : evT T x = some (.string s)) (hs : P.underlying sr = some u) (ht : P.underlying t = some (.slice e)) (he : P.underlying e = some (.int .u8)) (hd : d < C.N)
    (h:∀ b cap rest n,s.size+List.length rest = n→K ⟨(d,.slice (some ⟨b,0,none⟩) s.size cap) :: T,.blk b ⟨true,vec .u8 s.size (byF s)++rest,e,(n,n+1)⟩ :: H⟩):LStepW P C ⟨some d,.convert sr t x,ty,pos,aft,g⟩ ⟨T,H⟩ K:=by
  unfold LStepW
  intro a w hr Qr
  unfold Oper.wp
  have hrun:=Go.Lib.run_convert_string_bytes (P:=P) w sr t e s hs ht he
  have hl:(Go.Lib.bytesCells w e s).toList = vec .u8 s.size (byF s)++List.replicate (grownCap w s.size 0 e-s.size) (Value.int .u8 0):=by
    unfold Go.Lib.bytesCells vec byF
    rw [Array.toList_append,Array.toList_replicate]
    congr 1
    rw [Array.toList_map]
    apply List.ext_getElem
    · simp
    · intro i h1 h2
      simp at h1
      simp [List.getD,h1]
  have hw:Go.Lib.bytesWorld w e s = w.drew.alloc (.cells (Go.Lib.bytesCells w e s) e ((Go.Lib.bytesCells w e s).size,(Go.Lib.bytesCells w e s).size+1)):=by
    have hm:∀ (a:Array Obj) (x:Obj) (f:Obj→Obj),(a.push x).modify a.size f = a.push (f x):=by
      intro a x f
      apply Array.ext
      · simp
      · intro i h1 h2
        simp only [Array.getElem_modify,Array.getElem_push]
        by_cases h:a.size = i
        · subst h
          simp
        · have hi:i<a.size:=by simp at h1; omega
          simp [h,hi]
    unfold Go.Lib.bytesWorld World.freeze
    rw [if_neg (by decide)]
    show ({ w.drew.alloc (.cells (Go.Lib.bytesCells w e s) e) with heap:=(w.heap.push (.cells (Go.Lib.bytesCells w e s) e)).modify w.heap.size _ }:World) = _
    rw [hm]
    rfl
  have hex:(execOp a.eval ⟨some d,.convert sr t x,ty,pos,aft,g⟩).run P w = .ok (.value (.slice (some ⟨w.heap.size,0,none⟩) s.size (grownCap w s.size 0 e))) (Go.Lib.bytesWorld w e s):=by
    simp [execOp,hr.ev hx,hrun]
  rw [hex]
  have hK:=h w.heap.size (grownCap w s.size 0 e) (List.replicate (grownCap w s.size 0 e-s.size) (Value.int .u8 0)) (Go.Lib.bytesCells w e s).size (by
    rw [← Array.length_toList,hl,List.length_append,KQ])
  refine ⟨_,hK,?_⟩
  have hal:=hr.drew.allocF (vec .u8 s.size (byF s)++List.replicate (grownCap w s.size 0 e-s.size) (Value.int .u8 0)) e ((Go.Lib.bytesCells w e s).size,(Go.Lib.bytesCells w e s).size+1)
  have e1:(vec .u8 s.size (byF s)++List.replicate (grownCap w s.size 0 e-s.size) (Value.int .u8 0)).toArray = Go.Lib.bytesCells w e s:=by
    apply Array.ext'
    exact hl.symm
  rw [e1] at hal
  rw [hw]
  exact hal.put hd _
end
end Go.Proofs.YtnpeokiboiclfaaGreat
set_option linter.unusedVariables false
set_option linter.unusedSimpArgs false
set_option maxRecDepth 20000
namespace Go.Proofs.YtnpeokiboiclfaaGreat
open Go Go.RowKit
theorem hashL_length {k:Nat} (hk:k = 1∨k = 2∨k = 3∨k = 4) (x:List Nat):(hashL k x).length = hsize k:=by
  rcases hk with rfl|rfl|rfl|rfl <;> exact Hp.sum_length _ _ dc
def padL (l:List Nat) (x:Nat):List Nat:=l.map fun b=>xorM 256 b x
def padB (s:ByteArray) (x:Nat):ByteArray:=toS (padL (ofS s) x)
def keyA (k:Nat) (key:ByteArray):ByteArray:=if hblk k<key.size then toS (hashL k (ofS key)) else key
def keyB (k:Nat) (key:ByteArray):ByteArray:=keyA k key++toS (List.replicate (hblk k-(keyA k key).size) 0)
def macS (k:Nat) (key:ByteArray):ShS:=(hp k).write (hinit k) (ofS (padB (keyB k key) 54))
def hmacB (k:Nat) (key msg:ByteArray):ByteArray:=toS (hashL k (ofS (padB (keyB k key) 92++toS (hsum k ((hp k).write (macS k key) (ofS msg))))))
theorem padB_size (s:ByteArray) (x:Nat):(padB s x).size = s.size:=by unfold padB padL; rw [toS_size,List.length_map,ofS_length]
theorem hmacB_size {k:Nat} (hk:k = 1∨k = 2∨k = 3∨k = 4) (key msg:ByteArray):(hmacB k key msg).size = hsize k:=by unfold hmacB; rw [toS_size,hashL_length hk]
theorem keyA_size {k:Nat} (hk:k = 1∨k = 2∨k = 3∨k = 4) (key:ByteArray):(keyA k key).size≤hblk k:=by
  unfold keyA
  split
  · rw [toS_size,hashL_length hk]; rcases hk with rfl|rfl|rfl|rfl <;> decide
  · omega
theorem hblk_le (k:Nat):hblk k≤128:=by unfold hblk; split <;> decide
theorem keyB_size {k:Nat} (hk:k = 1∨k = 2∨k = 3∨k = 4) (key:ByteArray):(keyB k key).size = hblk k:=by
  have:=keyA_size hk key
  unfold keyB
  rw [ByteArray.size_append,toS_size,List.length_replicate]; omega
theorem byF_nth (s:ByteArray) (i:Nat):byF s i = (ofS s).getD i 0:=by
  unfold byF ofS
  simp only [List.getD,List.getElem?_map]
  cases s.data.toList[i]? <;> rfl
theorem pad_str (s:ByteArray) (x:Nat):strOf ((List.range s.size).map fun i=>UInt8.ofNat (if i<s.size then xorM 256 (byF s i) x else byF s i)) = padB s x:=by
  unfold padB padL toS
  congr 1
  rw [List.map_map]
  apply List.ext_getElem
  · simp [ofS_length]
  · intro i h1 h2
    simp at h1
    have h3:i<(ofS s).length:=by rw [ofS_length]; exact h1
    simp [h1,byF_nth,List.getD,h3]
theorem pad_next (s:ByteArray) (x y:Nat) {rest:List Value} (hy:y<s.size):(vec .u8 s.size (fun j=>if j<y then xorM 256 (byF s j) x else byF s j)++rest).set y (.int .u8 ((xorM 256 (byF s y) x:Nat):Int)) = vec .u8 s.size (fun j=>if j<(y+1) then xorM 256 (byF s j) x else byF s j)++rest:=by
  rw [set_front (by rw [KQ]; exact hy),KAG]
  congr 1
  apply Kr
  intro j _
  by_cases h1:j = y
  · rw [if_pos h1,if_pos om,h1]
  · rw [if_neg h1]
    by_cases h2:j<y
    · rw [if_pos h2,if_pos om]
    · rw [if_neg h2,if_neg om]
theorem pad_get (s:ByteArray) (x y:Nat) {rest:List Value} (hy:y<s.size):(vec .u8 s.size (fun j=>if j<y then xorM 256 (byF s j) x else byF s j)++rest)[y]? = some (.int .u8 ((byF s y:Nat):Int)):=by
  rw [List.getElem?_append_left (by rw [KQ]; exact hy),KU _ _ _ hy,if_neg (Nat.lt_irrefl y)]
theorem pad_start (s:ByteArray) (x:Nat) {rest:List Value}:vec .u8 s.size (byF s)++rest = vec .u8 s.size (fun j=>if j<0 then xorM 256 (byF s j) x else byF s j)++rest:=by
  congr 1
theorem pad_take (s:ByteArray) (x:Nat) {rest:List Value} (i:Nat):((vec .u8 s.size (fun j=>if j<i then xorM 256 (byF s j) x else byF s j)++rest).drop 0).take s.size = vec .u8 s.size (fun j=>if j<i then xorM 256 (byF s j) x else byF s j):=by
  rw [List.drop_zero,List.take_left' (KQ _ _ _)]
theorem c_pad (s:ByteArray) (x:Nat) (hs:s.size<1000000) (w:World)  : Calls Tryz.prog 193 ([.string s,.int .u8 ((x:Nat):Int)]:List Value).toArray w (fun e w'=>e = .returned (.string (padB s x))∧Below w.heap.size w w'):=by
  refine KX (N:=24) (rs:=[.tmp 4]) [] Tryz.func193 rfl Tryz.ntmps193 Tryz.results193 (Nb rfl) trivial rfl ?_
  refine KB (KA (oA (KC (KB (KA (oM ?_))))));refine LOps.step rfl (LStepW.toBytes rfl u9 u70 u5 (Nb rfl) ?_)
  intro b cap rest n hn
  rw [pad_start s x]
  refine oA (KC (KB (KB (KA (oM ?_)))));refine oP (Det.len u70 rfl) ?_;refine oP (Ki (v:=.int .i64 ((0:Nat):Int)) rfl) ?_;refine KC (LCode.block ?_);refine Ke (α:=Nat) (fun y=>y≤s.size) (fun y=>⟨[(1,.int .u8 ((x:Nat):Int)),(5,.slice (some ⟨b,0,none⟩) s.size cap),(10,.int .i64 ((s.size:Nat):Int)),(11,.int .i64 ((y:Nat):Int))],[.blk b ⟨true,vec .u8 s.size (fun j=>if j<y then xorM 256 (byF s j) x else byF s j)++rest,5,(n,n+1)⟩]⟩) (fun y=>s.size-y) (0) (Nat.zero_le _) (Ka ⟨rfl,rfl,rfl,rfl,trivial⟩ mS) ?_
  intro y hy
  refine KB (KA ?_);refine oP (KF rfl rfl (KAF)) ?_;refine KC (KB ?_)
  first|refine KR rfl (fun h12=>?_) (fun h12=>?_)|refine KS rfl (fun h12=>?_) (fun h12=>?_)
  ·
   have h12:y<s.size:=h12
   refine KN (KB (LCode.block (KB (KA (oM (oA (KC (KA (oM (oM ?_))))))))));refine oP (KAV u70 sz_5 rfl rfl om) ?_;refine oD (dL rfl (hv:=KJ u5 rfl (by exact pad_get s x y h12))) ?_;refine oM ?_;refine oP (KF rfl rfl (br_xor8m)) ?_;refine oP (KAV u70 sz_5 rfl rfl om) ?_;refine LOps.step rfl (KZ rfl rfl rfl sz_5 (by repeat (first|exact Sh _|apply St_)) (by rw [List.length_append,KQ]; omega) (pad_next s x y h12) (by dsimp only; omega) ?_);refine KC (KA ?_);refine oP (KF rfl rfl (Ko (b:=1) om)) ?_;refine oM (KC ?_)
   exact ⟨y+1,by omega,by omega,Ka ⟨rfl,rfl,rfl,rfl,trivial⟩ mS⟩
  have h12:¬ y<s.size:=h12
  obtain rfl:y = s.size:=by omega
  refine Kc (KB (KA (oM ?_)));refine oD (Det.bytesStr u70 u5 u9 rfl mM (pad_take s x _)) ?_;refine oA (KC (KM ?_));refine ⟨[_],.cons rfl .nil,fun a w' hr=>⟨?_,hr.fr.below⟩⟩
  rw [← pad_str]
  rfl
theorem c_mNew256 (k:Nat) (hk:k = 1∨k = 2) (key:ByteArray) (hkey:key.size≤140737488351232) (w:World) (hH:∀ x,x∈([]++[]:List Item)→x.holds w) (hd:([]++[]:List Item).Pairwise Apart)  : Calls Tryz.prog 165 ([.int .i64 ((k:Nat):Int),.string key]:List Value).toArray w (fun e w'=>∃ (u:Value) (x':Item) (y':Item),(∃ mb r,∃ m:Nat×Nat×Nat×Nat×Nat,u = .tuple #[.pointer (some ⟨mb,0,none⟩),.int .i64 ((0:Nat):Int)]∧x' = .blk mb ⟨true,[.int .i64 ((k:Nat):Int),.string (padB (keyB k key) 92),.pointer (some ⟨m.1,0,none⟩)],295,(0,0)⟩∧y' = strI256 m (hbits k) r (p256.write (hinit k) (ofS (padB (keyB k key) 54))))∧e = .returned u∧Outcome w [] [x',y'] w'):=by
  refine KAW [] (N:=45) (rs:=[.tmp 4,.tmp 5]) Tryz.func165 rfl Tryz.ntmps165 Tryz.results165 (Nb rfl) hH hd rfl rfl ?_
  refine KB (KA (oA ?_));refine oP (KO (v:=.int .i64 ((0:Nat):Int)) rfl) ?_;refine KC (KB (KA (oM ?_)));refine LOps.step rfl (Km (first:=[]) (caps:=[]) (X:=[]) (RO:=[]) rfl en_135 rfl (Nb rfl) sR wK (fun w hH hd=>c_hNew256 k hk w hH hd) ?_)
  rintro _ _ ⟨m,rfl,rfl⟩
  refine oM ?_;refine oP (Det.extract rfl rfl) ?_;refine oP (Det.extract rfl rfl) ?_;refine oA (oA (KC (KB (KB (KA (oM ?_))))));refine oP (KF (v:=.bool false) rfl rfl (br_f (br_neq (b:=0)) dc)) ?_;refine KC ?_;refine KH rfl ?_;refine KN (KB (KA (oM ?_)));refine oS (cF rfl en_192 rfl (fun w hw=>c_hBlock k om w) ?_);refine oA (KC ?_);refine LCode.cut (α:=ByteArray) (fun x=>x = keyA k key) (fun x=>⟨[(0,.int .i64 ((k:Nat):Int)),(1,.string x),(6,.pointer (some ⟨m.1,0,none⟩)),(8,.int .i64 ((hblk k:Nat):Int))],[strI256 m (hbits k) none (hinit k)]⟩) ?_ ?_
  ·
   refine KB (KA (oM ?_));refine oP (KAZ u9 rfl) ?_;refine oM ?_;refine oP (KF rfl rfl (br_gtr)) ?_;refine KC ?_
   first|refine KR rfl (fun h21=>?_) (fun h21=>?_)|refine KS rfl (fun h21=>?_) (fun h21=>?_)
   ·
    have h21:hblk k<key.size:=h21
    have hx:toS (hashL k (ofS key)) = keyA k key:=(if_pos h21).symm
    refine KA (oM (oM ?_));refine oS (cF rfl en_85 rfl (fun w hw=>c_hOf k om key hkey w) ?_);refine oM ?_;refine oP (Det.extract rfl rfl) ?_;refine oP (Det.extract rfl rfl) ?_;refine oA (KC ?_)
    exact ⟨_,hx,Ka ⟨rfl,rfl,rfl,rfl,trivial⟩ mS⟩
   have h21:¬ hblk k<key.size:=h21
   have hx:key = keyA k key:=(if_neg h21).symm
   refine KN ?_
   exact ⟨_,hx,Ka ⟨rfl,rfl,rfl,rfl,trivial⟩ mS⟩
  rintro x hx
  have hxs:x.size≤hblk k:=hx ▸ keyA_size om key
  have hb8:=hblk_le k
  refine KB (KA (oM (oM (oM ?_))));refine oP (KAZ u9 rfl) ?_;refine oP (KF rfl rfl (KAb om om)) ?_;refine oS (cF rfl en_33 rfl (fun w hw=>c_Repeat 0 _ w om) ?_);refine oP (Det.cat rfl rfl (by rw [toS_size,List.length_replicate]; omega)) ?_
  rw [show x++toS (List.replicate (hblk k-x.size) (UInt8.toNat 0)) = keyB k key by rw [hx]; rfl]
  refine oA (KC (KB (KA (oM (oM ?_)))));refine oS (cF rfl en_193 rfl (fun w hw=>c_pad _ _ (by rw [keyB_size om]; omega) w) ?_);refine LOps.step rfl (Km (first:=[]) (caps:=[]) rfl en_136 rfl (Nb rfl) sR wK (fun w hH hd=>c_stWrite256 m (hbits k) none (hinit k) (padB (keyB k key) 54) (Nat.zero_le _) (by rw [padB_size,keyB_size om]; omega) w hH hd) ?_)
  rintro _ _ ⟨r1,rfl,rfl⟩
  refine KC (KB (KA (oM (oM ?_))));refine oS (cF rfl en_193 rfl (fun w hw=>c_pad _ _ (by rw [keyB_size om]; omega) w) ?_);refine oM ?_;refine oP (Kd pl_295 zr_295 rfl (fT (r':=([.int .i64 ((k:Nat):Int)]++([Value.string (padB (keyB k key) 92)]++([Value.pointer (some ⟨m.1,0,none⟩)])))) (fS (A:=([]:List Value)) (B:=([Value.int .i64 ((0:Nat):Int)])) (D:=([Value.string ⟨#[]⟩]++([Value.pointer none]))) (cs:=[.int .i64 ((k:Nat):Int)]) (fS (A:=([.int .i64 ((k:Nat):Int)])) (B:=([Value.string ⟨#[]⟩])) (D:=([Value.pointer none])) (cs:=[Value.string (padB (keyB k key) 92)]) (fS (A:=([.int .i64 ((k:Nat):Int)]++([Value.string (padB (keyB k key) 92)]))) (B:=([Value.pointer none])) (D:=([]:List Value)) (cs:=[Value.pointer (some ⟨m.1,0,none⟩)]) rfl))))) ?_;refine oS (mB (fun b44=>?_));refine oA ?_;refine oP (KO (v:=.int .i64 ((0:Nat):Int)) rfl) ?_;refine KC (KM ?_);refine ⟨[_,_],.cons rfl (.cons rfl .nil),fun a w' hr=>⟨_,_,_,⟨b44,r1,m,rfl,rfl,rfl⟩,rfl,hr.out mS rfl⟩⟩
theorem c_mWrite256 (m:Nat×Nat×Nat×Nat×Nat) (k mb sz:Nat) (r:BsRow) (s:ShS) (key x:ByteArray) (hrl:s.rest.length≤64) (hs:x.size≤140737488351232) (w:World) (hH:∀ x,x∈([strI256 m sz r s]++[.blk mb ⟨false,[.int .i64 ((k:Nat):Int),.string (padB (keyB k key) 92),.pointer (some ⟨m.1,0,none⟩)],295,(0,0)⟩]:List Item)→x.holds w) (hd:([strI256 m sz r s]++[.blk mb ⟨false,[.int .i64 ((k:Nat):Int),.string (padB (keyB k key) 92),.pointer (some ⟨m.1,0,none⟩)],295,(0,0)⟩]:List Item).Pairwise Apart)  : Calls Tryz.prog 166 ([.pointer (some ⟨mb,0,none⟩),.string x]:List Value).toArray w (fun e w'=>∃ (u:Value) (x':Item),(∃ r',u = .int .i64 ((0:Nat):Int)∧x' = strI256 m sz r' (p256.write s (ofS x)))∧e = .returned u∧Outcome w [strI256 m sz r s] [x'] w'):=by
  refine KAW [strI256 m sz r s,.blk mb ⟨false,[.int .i64 ((k:Nat):Int),.string (padB (keyB k key) 92),.pointer (some ⟨m.1,0,none⟩)],295,(0,0)⟩] (N:=13) (rs:=[.tmp 4]) Tryz.func166 rfl Tryz.ntmps166 Tryz.results166 (Nb rfl) hH hd rfl rfl ?_
  refine KB (KA ?_);refine oP (KO (v:=.int .i64 ((0:Nat):Int)) rfl) ?_;refine KC (KB (KB (KA (oM ?_))));refine oP (KAN u246 rfl rfl) ?_;refine KC ?_;refine KH rfl ?_;refine KN (KB (KA (oM ?_)));refine oP (KG rfl) ?_;refine oP (KE (o':=2) u295 rfl rfl rfl sz_207 dc) ?_;refine oD (dL rfl (hv:=KJ u207 rfl (by first|rfl|exact KU _ _ _ om|exact KY _ om|exact Kb _ om|exact dv_m _ _ _ om))) ?_;refine oM ?_;refine LOps.step rfl (Km (first:=[]) (caps:=[]) rfl en_136 rfl (Nb rfl) sR wK (fun w hH hd=>c_stWrite256 m sz r s x hrl hs w hH hd) ?_)
  rintro _ _ ⟨r2,rfl,rfl⟩
  refine oA (KC (KM ?_));refine ⟨[_],.cons rfl .nil,fun a w' hr=>⟨_,_,⟨r2,rfl,rfl⟩,rfl,hr.out mS rfl⟩⟩
theorem c_mSum256 (m:Nat×Nat×Nat×Nat×Nat) (k:Nat) (hk:k = 1∨k = 2) (mb:Nat) (r:BsRow) (s:ShS) (key:ByteArray) (hrl:s.rest.length<64) (w:World) (h1:(Item.blk mb ⟨false,[.int .i64 ((k:Nat):Int),.string (padB (keyB k key) 92),.pointer (some ⟨m.1,0,none⟩)],295,(0,0)⟩).holds w) (hS:(strR256 m (hbits k) r s).holds w):Calls Tryz.prog 167 ([.pointer (some ⟨mb,0,none⟩)]:List Value).toArray w (fun e w'=>e = .returned (.string (toS (hashL k (ofS (padB (keyB k key) 92++(toS (p256.sum s (hbits k/8))))))))∧Below w.heap.size w w'):=by
  have hsz:(toS (p256.sum s (hbits k/8))).size = hsize k:=by rw [toS_size,Hp.sum_length _ _ (by rcases hk with rfl|rfl <;> decide)]; rcases hk with rfl|rfl <;> rfl
  have hb8:=hblk_le k
  have hs8:hsize k≤64:=by rcases hk with rfl|rfl <;> decide
  refine KX (N:=26) (rs:=[.tmp 2]) [.blk mb ⟨false,[.int .i64 ((k:Nat):Int),.string (padB (keyB k key) 92),.pointer (some ⟨m.1,0,none⟩)],295,(0,0)⟩,strR256 m (hbits k) r s] Tryz.func167 rfl Tryz.ntmps167 Tryz.results167 (Nb rfl) ⟨h1,hS,trivial⟩ rfl ?_
  refine KB (KA (oA (KC (KB (KB (KA (oM ?_)))))));refine oP (KAN u246 rfl rfl) ?_;refine KC ?_;refine KH rfl ?_;refine KN (KB ?_);refine rD [] ?_;refine aM 0 ?_;refine aP 1 rfl (KG rfl) ?_;refine aP 2 rfl (KE (o':=0) u295 rfl rfl rfl sz_3 dc) ?_;refine aD 3 rfl (dL rfl (hv:=KJ u3 rfl (by first|rfl|exact KU _ _ _ om|exact KY _ om|exact Kb _ om|exact dv_m _ _ _ om))) ?_;refine aM 4 ?_;refine aP 5 rfl (KG rfl) ?_;refine aP 6 rfl (KE (o':=1) u295 rfl rfl rfl sz_9 dc) ?_;refine aD 7 rfl (dL rfl (hv:=KJ u9 rfl (by first|rfl|exact KU _ _ _ om|exact KY _ om|exact Kb _ om|exact dv_m _ _ _ om))) ?_;refine aM 8 ?_;refine aP 9 rfl (KG rfl) ?_;refine aP 10 rfl (KE (o':=2) u295 rfl rfl rfl sz_207 dc) ?_;refine aD 11 rfl (dL rfl (hv:=KJ u207 rfl (by first|rfl|exact KU _ _ _ om|exact KY _ om|exact Kb _ om|exact dv_m _ _ _ om))) ?_
  refine aO 12 rfl (cF rfl en_137 rfl (fun w hw=>c_stSum256 m (hbits k) r s hrl (by rcases hk with rfl|rfl <;> decide) (by rcases hk with rfl|rfl <;> decide) w (mC hw)) ?_);refine aP 13 rfl (Det.cat rfl rfl (by rw [padB_size,keyB_size om,hsz]; omega)) ?_;refine aO 14 rfl (cF rfl en_85 rfl (fun w hw=>c_hOf k om _ (by rw [ByteArray.size_append,padB_size,keyB_size om,hsz]; omega) w) ?_);refine aM 15 ?_;refine aP 16 rfl (Det.extract rfl rfl) ?_;refine aP 17 rfl (Det.extract rfl rfl) ?_;refine aA 18 ?_;refine aA 19 ?_;refine aE ?_;refine KB (KA (oM (oA (KC (KM ?_)))));refine ⟨[_],.cons rfl .nil,fun a w' hr=>⟨?_,hr.fr.below⟩⟩
  rfl
theorem c_mOf256 (k:Nat) (hk:k = 1∨k = 2) (key x:ByteArray) (hkey:key.size≤140737488351232) (hx:x.size≤140737488351232) (w:World)  : Calls Tryz.prog 127 ([.int .i64 ((k:Nat):Int),.string key,.string x]:List Value).toArray w (fun e w'=>e = .returned (.tuple #[.string (hmacB k key x),.int .i64 ((0:Nat):Int)])∧Below w.heap.size w w'):=by
  have hpk:hp k = p256:=by rcases hk with rfl|rfl <;> rfl
  refine KX (N:=24) (rs:=[.tmp 6,.tmp 7]) [] Tryz.func127 rfl Tryz.ntmps127 Tryz.results127 (Nb rfl) trivial rfl ?_
  refine KB (KA (oA ?_));refine oP (KO (v:=.int .i64 ((0:Nat):Int)) rfl) ?_;refine KC (KB (KA (oM (oM ?_))));refine LOps.step rfl (LStepW.callM2 (first:=[]) (caps:=[]) (X:=[]) (RO:=[]) rfl en_165 rfl (Nb rfl) sR wK (fun w hH hd=>c_mNew256 k hk key hkey w hH hd) ?_)
  rintro _ _ _ ⟨mb,r1,m,rfl,rfl,rfl⟩
  refine oM ?_;refine oP (Det.extract rfl rfl) ?_;refine oP (Det.extract rfl rfl) ?_;refine oA (oA (KC (KB (KB (KA (oM ?_))))));refine oP (KF (v:=.bool false) rfl rfl (br_f (br_neq (b:=0)) dc)) ?_;refine KC ?_;refine KH rfl ?_;refine KN (KB (KA (oM (oM ?_))));refine LOps.step rfl (Km (first:=[]) (caps:=[]) rfl en_166 rfl (Nb rfl) sR wK (fun w hH hd=>c_mWrite256 m k mb (hbits k) r1 (p256.write (hinit k) (ofS (padB (keyB k key) 54))) key x (Nat.le_of_lt (p256.write_rest _ _ dc)) hx w hH hd) ?_)
  rintro _ _ ⟨r2,rfl,rfl⟩
  refine KC (KB (KA (oM ?_)));refine oS (cF rfl en_167 rfl (fun w hw=>c_mSum256 m k hk mb r2 (p256.write (p256.write (hinit k) (ofS (padB (keyB k key) 54))) (ofS x)) key (p256.write_rest _ _ dc) w (show (Item.blk mb ⟨false,_,_,_⟩).holds w from hw (.blk mb ⟨true,_,_,_⟩) mM) (show (strR256 m (hbits k) r2 (p256.write (p256.write (hinit k) (ofS (padB (keyB k key) 54))) (ofS x))).holds w from hw (strI256 m (hbits k) r2 (p256.write (p256.write (hinit k) (ofS (padB (keyB k key) 54))) (ofS x))) mM)) ?_);refine oA ?_;refine oP (KO (v:=.int .i64 ((0:Nat):Int)) rfl) ?_;refine KC (KM ?_);refine ⟨[_,_],.cons rfl (.cons rfl .nil),fun a w' hr=>⟨?_,hr.fr.below⟩⟩
  unfold hmacB hsum macS
  rw [hpk]
  rfl
theorem c_mNew512 (k:Nat) (hk:k = 3∨k = 4) (key:ByteArray) (hkey:key.size≤140737488351232) (w:World) (hH:∀ x,x∈([]++[]:List Item)→x.holds w) (hd:([]++[]:List Item).Pairwise Apart)  : Calls Tryz.prog 165 ([.int .i64 ((k:Nat):Int),.string key]:List Value).toArray w (fun e w'=>∃ (u:Value) (x':Item) (y':Item),(∃ mb r,∃ m:Nat×Nat×Nat×Nat×Nat,u = .tuple #[.pointer (some ⟨mb,0,none⟩),.int .i64 ((0:Nat):Int)]∧x' = .blk mb ⟨true,[.int .i64 ((k:Nat):Int),.string (padB (keyB k key) 92),.pointer (some ⟨m.1,0,none⟩)],295,(0,0)⟩∧y' = strI512 m (hbits k) r (p512.write (hinit k) (ofS (padB (keyB k key) 54))))∧e = .returned u∧Outcome w [] [x',y'] w'):=by
  refine KAW [] (N:=45) (rs:=[.tmp 4,.tmp 5]) Tryz.func165 rfl Tryz.ntmps165 Tryz.results165 (Nb rfl) hH hd rfl rfl ?_
  refine KB (KA (oA ?_));refine oP (KO (v:=.int .i64 ((0:Nat):Int)) rfl) ?_;refine KC (KB (KA (oM ?_)));refine LOps.step rfl (Km (first:=[]) (caps:=[]) (X:=[]) (RO:=[]) rfl en_135 rfl (Nb rfl) sR wK (fun w hH hd=>c_hNew512 k hk w hH hd) ?_)
  rintro _ _ ⟨m,rfl,rfl⟩
  refine oM ?_;refine oP (Det.extract rfl rfl) ?_;refine oP (Det.extract rfl rfl) ?_;refine oA (oA (KC (KB (KB (KA (oM ?_))))));refine oP (KF (v:=.bool false) rfl rfl (br_f (br_neq (b:=0)) dc)) ?_;refine KC ?_;refine KH rfl ?_;refine KN (KB (KA (oM ?_)));refine oS (cF rfl en_192 rfl (fun w hw=>c_hBlock k om w) ?_);refine oA (KC ?_);refine LCode.cut (α:=ByteArray) (fun x=>x = keyA k key) (fun x=>⟨[(0,.int .i64 ((k:Nat):Int)),(1,.string x),(6,.pointer (some ⟨m.1,0,none⟩)),(8,.int .i64 ((hblk k:Nat):Int))],[strI512 m (hbits k) none (hinit k)]⟩) ?_ ?_
  ·
   refine KB (KA (oM ?_));refine oP (KAZ u9 rfl) ?_;refine oM ?_;refine oP (KF rfl rfl (br_gtr)) ?_;refine KC ?_
   first|refine KR rfl (fun h21=>?_) (fun h21=>?_)|refine KS rfl (fun h21=>?_) (fun h21=>?_)
   ·
    have h21:hblk k<key.size:=h21
    have hx:toS (hashL k (ofS key)) = keyA k key:=(if_pos h21).symm
    refine KA (oM (oM ?_));refine oS (cF rfl en_85 rfl (fun w hw=>c_hOf k om key hkey w) ?_);refine oM ?_;refine oP (Det.extract rfl rfl) ?_;refine oP (Det.extract rfl rfl) ?_;refine oA (KC ?_)
    exact ⟨_,hx,Ka ⟨rfl,rfl,rfl,rfl,trivial⟩ mS⟩
   have h21:¬ hblk k<key.size:=h21
   have hx:key = keyA k key:=(if_neg h21).symm
   refine KN ?_
   exact ⟨_,hx,Ka ⟨rfl,rfl,rfl,rfl,trivial⟩ mS⟩
  rintro x hx
  have hxs:x.size≤hblk k:=hx ▸ keyA_size om key
  have hb8:=hblk_le k
  refine KB (KA (oM (oM (oM ?_))));refine oP (KAZ u9 rfl) ?_;refine oP (KF rfl rfl (KAb om om)) ?_;refine oS (cF rfl en_33 rfl (fun w hw=>c_Repeat 0 _ w om) ?_);refine oP (Det.cat rfl rfl (by rw [toS_size,List.length_replicate]; omega)) ?_
  rw [show x++toS (List.replicate (hblk k-x.size) (UInt8.toNat 0)) = keyB k key by rw [hx]; rfl]
  refine oA (KC (KB (KA (oM (oM ?_)))));refine oS (cF rfl en_193 rfl (fun w hw=>c_pad _ _ (by rw [keyB_size om]; omega) w) ?_);refine LOps.step rfl (Km (first:=[]) (caps:=[]) rfl en_136 rfl (Nb rfl) sR wK (fun w hH hd=>c_stWrite512 m (hbits k) none (hinit k) (padB (keyB k key) 54) (Nat.zero_le _) (by rw [padB_size,keyB_size om]; omega) w hH hd) ?_)
  rintro _ _ ⟨r1,rfl,rfl⟩
  refine KC (KB (KA (oM (oM ?_))));refine oS (cF rfl en_193 rfl (fun w hw=>c_pad _ _ (by rw [keyB_size om]; omega) w) ?_);refine oM ?_;refine oP (Kd pl_295 zr_295 rfl (fT (r':=([.int .i64 ((k:Nat):Int)]++([Value.string (padB (keyB k key) 92)]++([Value.pointer (some ⟨m.1,0,none⟩)])))) (fS (A:=([]:List Value)) (B:=([Value.int .i64 ((0:Nat):Int)])) (D:=([Value.string ⟨#[]⟩]++([Value.pointer none]))) (cs:=[.int .i64 ((k:Nat):Int)]) (fS (A:=([.int .i64 ((k:Nat):Int)])) (B:=([Value.string ⟨#[]⟩])) (D:=([Value.pointer none])) (cs:=[Value.string (padB (keyB k key) 92)]) (fS (A:=([.int .i64 ((k:Nat):Int)]++([Value.string (padB (keyB k key) 92)]))) (B:=([Value.pointer none])) (D:=([]:List Value)) (cs:=[Value.pointer (some ⟨m.1,0,none⟩)]) rfl))))) ?_;refine oS (mB (fun b44=>?_));refine oA ?_;refine oP (KO (v:=.int .i64 ((0:Nat):Int)) rfl) ?_;refine KC (KM ?_);refine ⟨[_,_],.cons rfl (.cons rfl .nil),fun a w' hr=>⟨_,_,_,⟨b44,r1,m,rfl,rfl,rfl⟩,rfl,hr.out mS rfl⟩⟩
theorem c_mWrite512 (m:Nat×Nat×Nat×Nat×Nat) (k mb sz:Nat) (r:BsRow) (s:ShS) (key x:ByteArray) (hrl:s.rest.length≤128) (hs:x.size≤140737488351232) (w:World) (hH:∀ x,x∈([strI512 m sz r s]++[.blk mb ⟨false,[.int .i64 ((k:Nat):Int),.string (padB (keyB k key) 92),.pointer (some ⟨m.1,0,none⟩)],295,(0,0)⟩]:List Item)→x.holds w) (hd:([strI512 m sz r s]++[.blk mb ⟨false,[.int .i64 ((k:Nat):Int),.string (padB (keyB k key) 92),.pointer (some ⟨m.1,0,none⟩)],295,(0,0)⟩]:List Item).Pairwise Apart)  : Calls Tryz.prog 166 ([.pointer (some ⟨mb,0,none⟩),.string x]:List Value).toArray w (fun e w'=>∃ (u:Value) (x':Item),(∃ r',u = .int .i64 ((0:Nat):Int)∧x' = strI512 m sz r' (p512.write s (ofS x)))∧e = .returned u∧Outcome w [strI512 m sz r s] [x'] w'):=by
  refine KAW [strI512 m sz r s,.blk mb ⟨false,[.int .i64 ((k:Nat):Int),.string (padB (keyB k key) 92),.pointer (some ⟨m.1,0,none⟩)],295,(0,0)⟩] (N:=13) (rs:=[.tmp 4]) Tryz.func166 rfl Tryz.ntmps166 Tryz.results166 (Nb rfl) hH hd rfl rfl ?_
  refine KB (KA ?_);refine oP (KO (v:=.int .i64 ((0:Nat):Int)) rfl) ?_;refine KC (KB (KB (KA (oM ?_))));refine oP (KAN u246 rfl rfl) ?_;refine KC ?_;refine KH rfl ?_;refine KN (KB (KA (oM ?_)));refine oP (KG rfl) ?_;refine oP (KE (o':=2) u295 rfl rfl rfl sz_207 dc) ?_;refine oD (dL rfl (hv:=KJ u207 rfl (by first|rfl|exact KU _ _ _ om|exact KY _ om|exact Kb _ om|exact dv_m _ _ _ om))) ?_;refine oM ?_;refine LOps.step rfl (Km (first:=[]) (caps:=[]) rfl en_136 rfl (Nb rfl) sR wK (fun w hH hd=>c_stWrite512 m sz r s x hrl hs w hH hd) ?_)
  rintro _ _ ⟨r2,rfl,rfl⟩
  refine oA (KC (KM ?_));refine ⟨[_],.cons rfl .nil,fun a w' hr=>⟨_,_,⟨r2,rfl,rfl⟩,rfl,hr.out mS rfl⟩⟩
theorem c_mSum512 (m:Nat×Nat×Nat×Nat×Nat) (k:Nat) (hk:k = 3∨k = 4) (mb:Nat) (r:BsRow) (s:ShS) (key:ByteArray) (hrl:s.rest.length<128) (w:World) (h1:(Item.blk mb ⟨false,[.int .i64 ((k:Nat):Int),.string (padB (keyB k key) 92),.pointer (some ⟨m.1,0,none⟩)],295,(0,0)⟩).holds w) (hS:(strR512 m (hbits k) r s).holds w):Calls Tryz.prog 167 ([.pointer (some ⟨mb,0,none⟩)]:List Value).toArray w (fun e w'=>e = .returned (.string (toS (hashL k (ofS (padB (keyB k key) 92++(toS (p512.sum s (hbits k/8))))))))∧Below w.heap.size w w'):=by
  have hsz:(toS (p512.sum s (hbits k/8))).size = hsize k:=by rw [toS_size,Hp.sum_length _ _ (by rcases hk with rfl|rfl <;> decide)]; rcases hk with rfl|rfl <;> rfl
  have hb8:=hblk_le k
  have hs8:hsize k≤64:=by rcases hk with rfl|rfl <;> decide
  refine KX (N:=26) (rs:=[.tmp 2]) [.blk mb ⟨false,[.int .i64 ((k:Nat):Int),.string (padB (keyB k key) 92),.pointer (some ⟨m.1,0,none⟩)],295,(0,0)⟩,strR512 m (hbits k) r s] Tryz.func167 rfl Tryz.ntmps167 Tryz.results167 (Nb rfl) ⟨h1,hS,trivial⟩ rfl ?_
  refine KB (KA (oA (KC (KB (KB (KA (oM ?_)))))));refine oP (KAN u246 rfl rfl) ?_;refine KC ?_;refine KH rfl ?_;refine KN (KB ?_);refine rD [] ?_;refine aM 0 ?_;refine aP 1 rfl (KG rfl) ?_;refine aP 2 rfl (KE (o':=0) u295 rfl rfl rfl sz_3 dc) ?_;refine aD 3 rfl (dL rfl (hv:=KJ u3 rfl (by first|rfl|exact KU _ _ _ om|exact KY _ om|exact Kb _ om|exact dv_m _ _ _ om))) ?_;refine aM 4 ?_;refine aP 5 rfl (KG rfl) ?_;refine aP 6 rfl (KE (o':=1) u295 rfl rfl rfl sz_9 dc) ?_;refine aD 7 rfl (dL rfl (hv:=KJ u9 rfl (by first|rfl|exact KU _ _ _ om|exact KY _ om|exact Kb _ om|exact dv_m _ _ _ om))) ?_;refine aM 8 ?_;refine aP 9 rfl (KG rfl) ?_;refine aP 10 rfl (KE (o':=2) u295 rfl rfl rfl sz_207 dc) ?_;refine aD 11 rfl (dL rfl (hv:=KJ u207 rfl (by first|rfl|exact KU _ _ _ om|exact KY _ om|exact Kb _ om|exact dv_m _ _ _ om))) ?_
  refine aO 12 rfl (cF rfl en_137 rfl (fun w hw=>c_stSum512 m (hbits k) r s hrl (by rcases hk with rfl|rfl <;> decide) (by rcases hk with rfl|rfl <;> decide) w (mC hw)) ?_);refine aP 13 rfl (Det.cat rfl rfl (by rw [padB_size,keyB_size om,hsz]; omega)) ?_;refine aO 14 rfl (cF rfl en_85 rfl (fun w hw=>c_hOf k om _ (by rw [ByteArray.size_append,padB_size,keyB_size om,hsz]; omega) w) ?_);refine aM 15 ?_;refine aP 16 rfl (Det.extract rfl rfl) ?_;refine aP 17 rfl (Det.extract rfl rfl) ?_;refine aA 18 ?_;refine aA 19 ?_;refine aE ?_;refine KB (KA (oM (oA (KC (KM ?_)))));refine ⟨[_],.cons rfl .nil,fun a w' hr=>⟨?_,hr.fr.below⟩⟩
  rfl
theorem c_mOf512 (k:Nat) (hk:k = 3∨k = 4) (key x:ByteArray) (hkey:key.size≤140737488351232) (hx:x.size≤140737488351232) (w:World)  : Calls Tryz.prog 127 ([.int .i64 ((k:Nat):Int),.string key,.string x]:List Value).toArray w (fun e w'=>e = .returned (.tuple #[.string (hmacB k key x),.int .i64 ((0:Nat):Int)])∧Below w.heap.size w w'):=by
  have hpk:hp k = p512:=by rcases hk with rfl|rfl <;> rfl
  refine KX (N:=24) (rs:=[.tmp 6,.tmp 7]) [] Tryz.func127 rfl Tryz.ntmps127 Tryz.results127 (Nb rfl) trivial rfl ?_
  refine KB (KA (oA ?_));refine oP (KO (v:=.int .i64 ((0:Nat):Int)) rfl) ?_;refine KC (KB (KA (oM (oM ?_))));refine LOps.step rfl (LStepW.callM2 (first:=[]) (caps:=[]) (X:=[]) (RO:=[]) rfl en_165 rfl (Nb rfl) sR wK (fun w hH hd=>c_mNew512 k hk key hkey w hH hd) ?_)
  rintro _ _ _ ⟨mb,r1,m,rfl,rfl,rfl⟩
  refine oM ?_;refine oP (Det.extract rfl rfl) ?_;refine oP (Det.extract rfl rfl) ?_;refine oA (oA (KC (KB (KB (KA (oM ?_))))));refine oP (KF (v:=.bool false) rfl rfl (br_f (br_neq (b:=0)) dc)) ?_;refine KC ?_;refine KH rfl ?_;refine KN (KB (KA (oM (oM ?_))));refine LOps.step rfl (Km (first:=[]) (caps:=[]) rfl en_166 rfl (Nb rfl) sR wK (fun w hH hd=>c_mWrite512 m k mb (hbits k) r1 (p512.write (hinit k) (ofS (padB (keyB k key) 54))) key x (Nat.le_of_lt (p512.write_rest _ _ dc)) hx w hH hd) ?_)
  rintro _ _ ⟨r2,rfl,rfl⟩
  refine KC (KB (KA (oM ?_)));refine oS (cF rfl en_167 rfl (fun w hw=>c_mSum512 m k hk mb r2 (p512.write (p512.write (hinit k) (ofS (padB (keyB k key) 54))) (ofS x)) key (p512.write_rest _ _ dc) w (show (Item.blk mb ⟨false,_,_,_⟩).holds w from hw (.blk mb ⟨true,_,_,_⟩) mM) (show (strR512 m (hbits k) r2 (p512.write (p512.write (hinit k) (ofS (padB (keyB k key) 54))) (ofS x))).holds w from hw (strI512 m (hbits k) r2 (p512.write (p512.write (hinit k) (ofS (padB (keyB k key) 54))) (ofS x))) mM)) ?_);refine oA ?_;refine oP (KO (v:=.int .i64 ((0:Nat):Int)) rfl) ?_;refine KC (KM ?_);refine ⟨[_,_],.cons rfl (.cons rfl .nil),fun a w' hr=>⟨?_,hr.fr.below⟩⟩
  unfold hmacB hsum macS
  rw [hpk]
  rfl
theorem c_mOf (k:Nat) (hk:k = 1∨k = 2∨k = 3∨k = 4) (key x:ByteArray) (hkey:key.size≤140737488351232) (hx:x.size≤140737488351232) (w:World):Calls Tryz.prog 127 ([.int .i64 ((k:Nat):Int),.string key,.string x]:List Value).toArray w (fun e w'=>e = .returned (.tuple #[.string (hmacB k key x),.int .i64 ((0:Nat):Int)])∧Below w.heap.size w w'):=by
  rcases hk with hk|hk|hk|hk
  · exact c_mOf256 k (.inl hk) key x hkey hx w
  · exact c_mOf256 k (.inr hk) key x hkey hx w
  · exact c_mOf512 k (.inl hk) key x hkey hx w
  · exact c_mOf512 k (.inr hk) key x hkey hx w
def gnL (k:Nat) (K V:ByteArray) (n:Nat):List Value:=[.int .i64 (k:Int),.string K,.string V,.int .i64 (n:Int)]
def updI (k:Nat) (s:ByteArray) (z:ByteArray×ByteArray):Nat→ByteArray×ByteArray
  | 0=>z
  | i+1 =>
    let K:=hmacB k (updI k s z i).1 ((updI k s z i).2++toS [i%256]++s)
    (K,hmacB k K (updI k s z i).2)
def upd (k:Nat) (s:ByteArray) (z:ByteArray×ByteArray):ByteArray×ByteArray:=updI k s z (if s.data.toList = [] then 1 else 2)
def genI (k:Nat) (K V:ByteArray):Nat→ByteArray×ByteArray
  | 0=>(V,⟨#[]⟩)
  | i+1=>(hmacB k K (genI k K V i).1,(genI k K V i).2++hmacB k K (genI k K V i).1)
def genQ (k size:Nat):Nat:=(size+hsize k-1)/hsize k
def genB (k:Nat) (K V:ByteArray) (size:Nat):ByteArray:=(genI k K V (genQ k size)).2.extract 0 size
def genS (k:Nat) (K V:ByteArray) (size:Nat):ByteArray×ByteArray:=upd k ⟨#[]⟩ (K,(genI k K V (genQ k size)).1)
theorem upd_cases {x:Nat} (h:x<2) (p:Prop):x = 0∨(x = 1∧p)∨(x = 1∧¬ p):=by
  rcases (show x = 0∨x = 1 by omega) with e|e
  · exact .inl e
  · by_cases hp:p
    · exact .inr (.inl ⟨e,hp⟩)
    · exact .inr (.inr ⟨e,hp⟩)
theorem hsize_le {k:Nat} (hk:k = 1∨k = 2∨k = 3∨k = 4):28≤hsize k∧hsize k≤64:=by rcases hk with rfl|rfl|rfl|rfl <;> decide
theorem updI_size {k:Nat} (hk:k = 1∨k = 2∨k = 3∨k = 4) (s:ByteArray) {z:ByteArray×ByteArray} (h1:z.1.size≤64) (h2:z.2.size≤64):∀ i,(updI k s z i).1.size≤64∧(updI k s z i).2.size≤64
  | 0=>⟨h1,h2⟩
  | i+1=>by
    have:=hsize_le hk
    show (hmacB _ _ _).size≤64∧(hmacB _ _ _).size≤64
    rw [hmacB_size hk,hmacB_size hk]; omega
theorem upd_size {k:Nat} (hk:k = 1∨k = 2∨k = 3∨k = 4) (s:ByteArray) {z:ByteArray×ByteArray} (h1:z.1.size≤64) (h2:z.2.size≤64):(upd k s z).1.size≤64∧(upd k s z).2.size≤64:=updI_size hk s h1 h2 _
theorem genI_size {k:Nat} (hk:k = 1∨k = 2∨k = 3∨k = 4) (K:ByteArray) {V:ByteArray} (h:V.size≤64):∀ i,(genI k K V i).1.size≤64∧(genI k K V i).2.size = i*hsize k
  | 0=>⟨h,by rw [Nat.zero_mul]; rfl⟩
  | i+1=>by
    have h1:=hsize_le hk
    have h2:=(genI_size hk K h i).2
    show (hmacB _ _ _).size≤64∧(_++hmacB _ _ _:ByteArray).size = _
    rw [ByteArray.size_append,hmacB_size hk,h2,Nat.succ_mul]; omega
theorem genQ_mul {k:Nat} (hk:k = 1∨k = 2∨k = 3∨k = 4) (size:Nat):size≤genQ k size*hsize k∧(0<genQ k size→(genQ k size-1)*hsize k<size):=by
  have hp:=(hsize_le hk).1
  unfold genQ
  have h1:=Nat.div_add_mod (size+hsize k-1) (hsize k)
  have h2:=Nat.mod_lt (size+hsize k-1) (show 0<hsize k by omega)
  rw [Nat.mul_comm] at h1
  generalize (size+hsize k-1)/hsize k = q at *
  refine ⟨by omega,fun hq=>?_⟩
  obtain ⟨p,rfl⟩:∃ p,q = p+1:=⟨q-1,by omega⟩
  rw [Nat.add_sub_cancel]
  rw [Nat.succ_mul] at h1
  omega
theorem genB_size {k:Nat} (hk:k = 1∨k = 2∨k = 3∨k = 4) (K:ByteArray) {V:ByteArray} (h:V.size≤64) (size:Nat):(genB k K V size).size = size:=by
  unfold genB
  rw [ByteArray.size_extract,(genI_size hk K h _).2]
  have:=(genQ_mul hk size).1
  omega
theorem genS_size {k:Nat} (hk:k = 1∨k = 2∨k = 3∨k = 4) (K:ByteArray) {V:ByteArray} (h1:K.size≤64) (h:V.size≤64) (size:Nat):(genS k K V size).1.size≤64∧(genS k K V size).2.size≤64:=upd_size hk _ h1 (genI_size hk K h _).1
theorem c_dmac (k:Nat) (hk:k = 1∨k = 2∨k = 3∨k = 4) (d n:Nat) (K V s:ByteArray) (hK:K.size≤64) (hs:s.size≤10000) (w:World) (h1:(Item.blk d ⟨false,gnL k K V (n),79,(0,0)⟩).holds w):Calls Tryz.prog 75 ([.pointer (some ⟨d,0,none⟩),.string s]:List Value).toArray w (fun e w'=>e = .returned (.string (hmacB k K s))∧Below w.heap.size w w'):=by
  refine KX (N:=21) (rs:=[.tmp 4]) [.blk d ⟨false,gnL k K V (n),79,(0,0)⟩] Tryz.func75 rfl Tryz.ntmps75 Tryz.results75 (Nb rfl) ⟨h1,trivial⟩ rfl ?_
  refine KB (KA (oA (KC (KB ?_))));refine rD [] ?_;refine aM 0 ?_;refine aP 1 rfl (KG rfl) ?_;refine aP 2 rfl (KE (o':=0) u79 rfl rfl rfl sz_3 dc) ?_;refine aD 3 rfl (dL rfl (hv:=KJ u3 rfl (by first|rfl|exact KU _ _ _ om|exact KY _ om|exact Kb _ om|exact dv_m _ _ _ om))) ?_;refine aM 4 ?_;refine aP 5 rfl (KG rfl) ?_;refine aP 6 rfl (KE (o':=1) u79 rfl rfl rfl sz_9 dc) ?_;refine aD 7 rfl (dL rfl (hv:=KJ u9 rfl (by first|rfl|exact KU _ _ _ om|exact KY _ om|exact Kb _ om|exact dv_m _ _ _ om))) ?_;refine aM 8 ?_;refine aO 9 rfl (cF rfl en_127 rfl (fun w hw=>c_mOf k hk K s om om w) ?_);refine aM 10 ?_;refine aP 11 rfl (Det.extract rfl rfl) ?_;refine aP 12 rfl (Det.extract rfl rfl) ?_;refine aA 13 ?_;refine aA 14 ?_;refine aE ?_;refine KB (KA (oM (oA (KC (KM ?_)))));refine ⟨[_],.cons rfl .nil,fun a w' hr=>⟨?_,hr.fr.below⟩⟩
  rfl
theorem c_dupd (k:Nat) (hk:k = 1∨k = 2∨k = 3∨k = 4) (d n:Nat) (K V s:ByteArray) (hK:K.size≤64) (hV:V.size≤64) (hs:s.size≤9000) (w:World) (hH:∀ x,x∈([.blk d ⟨true,gnL k K V (n),79,(0,0)⟩]++[]:List Item)→x.holds w) (hd:([.blk d ⟨true,gnL k K V (n),79,(0,0)⟩]++[]:List Item).Pairwise Apart)  : Calls Tryz.prog 34 ([.pointer (some ⟨d,0,none⟩),.string s]:List Value).toArray w (fun e w'=>∃ (u:Value) (x':Item),(u = .tuple #[]∧x' = .blk d ⟨true,gnL k (upd k s (K,V)).1 (upd k s (K,V)).2 (n),79,(0,0)⟩)∧e = .returned u∧Outcome w [.blk d ⟨true,gnL k K V (n),79,(0,0)⟩] [x'] w'):=by
  have hsz:=updI_size hk s (z:=(K,V)) hK hV
  have hs8:=hsize_le hk
  refine KAW [.blk d ⟨true,gnL k K V (n),79,(0,0)⟩] (N:=43) (rs:=[]) Tryz.func34 rfl Tryz.ntmps34 Tryz.results34 (Nb rfl) hH hd rfl rfl ?_
  refine KB (KA (oM ?_));refine oP (KAS rfl) ?_;refine oA (KC (KB (KA ?_)));refine oP (Ki (v:=.int .i64 ((0:Nat):Int)) rfl) ?_;refine KC (LCode.block ?_);refine Ke (α:=Nat) (fun x=>x≤2∧(s.data.toList = []→x≤1)) (fun x=>⟨[(0,.pointer (some ⟨d,0,none⟩)),(1,.string s),(4,.func (.func 75) #[.pointer (some ⟨d,0,none⟩)] #[]),(8,.int .i64 ((x:Nat):Int))],[.blk d ⟨true,gnL k (updI k s (K,V) x).1 (updI k s (K,V) x).2 (n),79,(0,0)⟩]⟩) (fun x=>2-x) (0) (⟨by decide,fun _=>by decide⟩) (Ka ⟨rfl,rfl,rfl,rfl,trivial⟩ mS) ?_
  rintro x ⟨hx,hx2⟩
  refine KB (KA ?_);refine oP (KF rfl rfl (KAF (b:=2))) ?_;refine KC (KB ?_)
  first|refine KR rfl (fun h9=>?_) (fun h9=>?_)|refine KS rfl (fun h9=>?_) (fun h9=>?_)
  ·
   have h9:x<2:=h9
   refine KN (KB (LCode.block (KB (KA (oM (oA (KC (KB (KB ?_)))))))))
   rcases upd_cases h9 (s.data.toList = []) with rfl|⟨rfl,he⟩|⟨rfl,hne⟩
   ·
    refine KA (oM ?_);refine oP (KF (v:=.bool false) rfl rfl (br_f (Kz (b:=1)) dc)) ?_;refine oM ?_;refine oK ?_;refine oK ?_;refine oP (KV rfl rfl) ?_;refine KC ?_;refine KH rfl ?_;refine KN (KB ?_);refine rD [16] ?_;refine aM 0 ?_;refine aM 1 ?_;refine aM 2 ?_;refine aP 3 rfl (KG rfl) ?_;refine aP 4 rfl (KE (o':=2) u79 rfl rfl rfl sz_9 dc) ?_;refine aD 5 rfl (dL rfl (hv:=KJ u9 rfl (by first|rfl|exact KU _ _ _ om|exact KY _ om|exact Kb _ om|exact dv_m _ _ _ om))) ?_;refine aM 6 ?_;refine aP 7 rfl (Det.conv8 u3 u5 rfl) ?_;refine aM 11 ?_;refine aO 8 rfl (mk (KAc u70 inf_5 rfl rfl rfl rfl dc rfl) (fun b25=>?_));refine aD 9 rfl (Det.cast (Det.bytesStr (f:=fun _=>0%256) u70 u5 u9 rfl mM rfl) (show _ = Value.string (toS [0%256]) from rfl)) ?_;refine aP 10 rfl (Det.cat rfl rfl (by rw [toS_size]; have:=(hsz 0).2; simp only [List.length_cons,List.length_nil]; omega)) ?_
    refine aP 12 rfl (Det.cat rfl rfl (by rw [ByteArray.size_append,toS_size]; have:=(hsz 0).2; simp only [List.length_cons,List.length_nil]; omega)) ?_;refine aO 13 rfl (Ky (first:=[_]) rfl en_75 rfl (Nb rfl) (fun w hw=>c_dmac k hk d n (updI k s (K,V) 0).1 (updI k s (K,V) 0).2 _ (hsz 0).1 (by have:=(hsz 0).2; first|omega|(simp only [ByteArray.size_append,toS_size,List.length_cons,List.length_nil]; omega)) w (show (Item.blk d ⟨false,gnL k (updI k s (K,V) 0).1 (updI k s (K,V) 0).2 (n),79,(0,0)⟩).holds w from hw (.blk d ⟨true,gnL k (updI k s (K,V) 0).1 (updI k s (K,V) 0).2 (n),79,(0,0)⟩) mM)) ?_);refine aP 14 rfl (KG rfl) ?_;refine aP 15 rfl (KE (o':=1) u79 rfl rfl rfl sz_9 dc) ?_;refine aL 16 rfl (KZ rfl rfl rfl sz_9 (by repeat (first|exact Sh _|apply St_)) (by show 1<4; decide) (show (gnL _ _ _ _).set 1 _ = gnL _ _ _ _ from rfl) (by simp) ?_);refine aE ?_;refine KA (oM (oM (oM ?_)))
    refine oP (KG rfl) ?_;refine oP (KE (o':=2) u79 rfl rfl rfl sz_9 dc) ?_;refine oD (dL rfl (hv:=KJ u9 rfl (by first|rfl|exact KU _ _ _ om|exact KY _ om|exact Kb _ om|exact dv_m _ _ _ om))) ?_;refine oS (Ky (first:=[_]) rfl en_75 rfl (Nb rfl) (fun w hw=>c_dmac k hk d n (hmacB k (updI k s (K,V) 0).1 ((updI k s (K,V) 0).2++toS [0%256]++s)) (updI k s (K,V) 0).2 _ (by rw [hmacB_size hk]; omega) (by have:=(hsz 0).2; first|omega|(simp only [ByteArray.size_append,toS_size,List.length_cons,List.length_nil]; omega)) w (show (Item.blk d ⟨false,gnL k (hmacB k (updI k s (K,V) 0).1 ((updI k s (K,V) 0).2++toS [0%256]++s)) (updI k s (K,V) 0).2 (n),79,(0,0)⟩).holds w from hw (.blk d ⟨true,gnL k (hmacB k (updI k s (K,V) 0).1 ((updI k s (K,V) 0).2++toS [0%256]++s)) (updI k s (K,V) 0).2 (n),79,(0,0)⟩) mM)) ?_);refine oP (KG rfl) ?_;refine oP (KE (o':=2) u79 rfl rfl rfl sz_9 dc) ?_
    refine LOps.step rfl (KZ rfl rfl rfl sz_9 (by repeat (first|exact Sh _|apply St_)) (by show 2<4; decide) (show (gnL _ _ _ _).set 2 _ = gnL _ _ _ _ from rfl) (by simp) ?_);refine KC (KA ?_);refine oP (KF rfl rfl (Ko (b:=1) om)) ?_;refine oM (KC ?_)
    exact ⟨1,⟨by decide,fun he=>Nat.le_refl _⟩,by decide,Ka ⟨rfl,rfl,rfl,rfl,trivial⟩ mS⟩
   ·
    refine KA (oM ?_);refine oP (KF (v:=.bool true) rfl rfl (br_t (Kz (b:=1)) (rfl))) ?_;refine oM ?_;refine oGM ?_;refine oGP (KK (Det.eqs rfl rfl) (congrArg Value.bool (eq_str_t (he)))) ?_;refine oP (Kj rfl rfl) ?_;refine KC ?_;refine KT rfl ?_;refine KM ?_
    have e1:upd k s (K,V) = (updI k s (K,V) 1):=by unfold upd; rw [if_pos he]
    rw [e1]
    refine ⟨[],.nil,fun a w' hr=>⟨_,_,⟨rfl,rfl⟩,rfl,hr.out mS rfl⟩⟩
   refine KA (oM ?_);refine oP (KF (v:=.bool true) rfl rfl (br_t (Kz (b:=1)) (rfl))) ?_;refine oM ?_;refine oGM ?_;refine oGP (KK (Det.eqs rfl rfl) (congrArg Value.bool (eq_str_f (hne)))) ?_;refine oP (Kj rfl rfl) ?_;refine KC ?_;refine KH rfl ?_;refine KN (KB ?_);refine rD [16] ?_;refine aM 0 ?_;refine aM 1 ?_;refine aM 2 ?_;refine aP 3 rfl (KG rfl) ?_;refine aP 4 rfl (KE (o':=2) u79 rfl rfl rfl sz_9 dc) ?_;refine aD 5 rfl (dL rfl (hv:=KJ u9 rfl (by first|rfl|exact KU _ _ _ om|exact KY _ om|exact Kb _ om|exact dv_m _ _ _ om))) ?_;refine aM 6 ?_;refine aP 7 rfl (Det.conv8 u3 u5 rfl) ?_;refine aM 11 ?_;refine aO 8 rfl (mk (KAc u70 inf_5 rfl rfl rfl rfl dc rfl) (fun b25=>?_));refine aD 9 rfl (Det.cast (Det.bytesStr (f:=fun _=>1%256) u70 u5 u9 rfl mM rfl) (show _ = Value.string (toS [1%256]) from rfl)) ?_
   refine aP 10 rfl (Det.cat rfl rfl (by rw [toS_size]; have:=(hsz 1).2; simp only [List.length_cons,List.length_nil]; omega)) ?_;refine aP 12 rfl (Det.cat rfl rfl (by rw [ByteArray.size_append,toS_size]; have:=(hsz 1).2; simp only [List.length_cons,List.length_nil]; omega)) ?_;refine aO 13 rfl (Ky (first:=[_]) rfl en_75 rfl (Nb rfl) (fun w hw=>c_dmac k hk d n (updI k s (K,V) 1).1 (updI k s (K,V) 1).2 _ (hsz 1).1 (by have:=(hsz 1).2; first|omega|(simp only [ByteArray.size_append,toS_size,List.length_cons,List.length_nil]; omega)) w (show (Item.blk d ⟨false,gnL k (updI k s (K,V) 1).1 (updI k s (K,V) 1).2 (n),79,(0,0)⟩).holds w from hw (.blk d ⟨true,gnL k (updI k s (K,V) 1).1 (updI k s (K,V) 1).2 (n),79,(0,0)⟩) mM)) ?_);refine aP 14 rfl (KG rfl) ?_;refine aP 15 rfl (KE (o':=1) u79 rfl rfl rfl sz_9 dc) ?_;refine aL 16 rfl (KZ rfl rfl rfl sz_9 (by repeat (first|exact Sh _|apply St_)) (by show 1<4; decide) (show (gnL _ _ _ _).set 1 _ = gnL _ _ _ _ from rfl) (by simp) ?_)
   refine aE ?_;refine KA (oM (oM (oM ?_)));refine oP (KG rfl) ?_;refine oP (KE (o':=2) u79 rfl rfl rfl sz_9 dc) ?_;refine oD (dL rfl (hv:=KJ u9 rfl (by first|rfl|exact KU _ _ _ om|exact KY _ om|exact Kb _ om|exact dv_m _ _ _ om))) ?_;refine oS (Ky (first:=[_]) rfl en_75 rfl (Nb rfl) (fun w hw=>c_dmac k hk d n (hmacB k (updI k s (K,V) 1).1 ((updI k s (K,V) 1).2++toS [1%256]++s)) (updI k s (K,V) 1).2 _ (by rw [hmacB_size hk]; omega) (by have:=(hsz 1).2; first|omega|(simp only [ByteArray.size_append,toS_size,List.length_cons,List.length_nil]; omega)) w (show (Item.blk d ⟨false,gnL k (hmacB k (updI k s (K,V) 1).1 ((updI k s (K,V) 1).2++toS [1%256]++s)) (updI k s (K,V) 1).2 (n),79,(0,0)⟩).holds w from hw (.blk d ⟨true,gnL k (hmacB k (updI k s (K,V) 1).1 ((updI k s (K,V) 1).2++toS [1%256]++s)) (updI k s (K,V) 1).2 (n),79,(0,0)⟩) mM)) ?_);refine oP (KG rfl) ?_;refine oP (KE (o':=2) u79 rfl rfl rfl sz_9 dc) ?_
   refine LOps.step rfl (KZ rfl rfl rfl sz_9 (by repeat (first|exact Sh _|apply St_)) (by show 2<4; decide) (show (gnL _ _ _ _).set 2 _ = gnL _ _ _ _ from rfl) (by simp) ?_);refine KC (KA ?_);refine oP (KF rfl rfl (Ko (b:=1) om)) ?_;refine oM (KC ?_)
   exact ⟨2,⟨by decide,fun he=>absurd he hne⟩,by decide,Ka ⟨rfl,rfl,rfl,rfl,trivial⟩ mS⟩
  have h9:¬ x<2:=h9
  obtain rfl:x = 2:=by omega
  have hne:¬ s.data.toList = []:=fun he=>by have:=hx2 he; omega
  refine Kc ?_
  have e1:upd k s (K,V) = (updI k s (K,V) 2):=by unfold upd; rw [if_neg hne]
  rw [e1]
  refine ⟨[],.nil,fun a w' hr=>⟨_,_,⟨rfl,rfl⟩,rfl,hr.out mS rfl⟩⟩
theorem c_dgen (k:Nat) (hk:k = 1∨k = 2∨k = 3∨k = 4) (d n:Nat) (K V:ByteArray) (hK:K.size≤64) (hV:V.size≤64) (size:Nat) (hsize1:size≤256) (hn:n≤64) (w:World) (hH:∀ x,x∈([.blk d ⟨true,gnL k K V (n),79,(0,0)⟩]++[]:List Item)→x.holds w) (hd:([.blk d ⟨true,gnL k K V (n),79,(0,0)⟩]++[]:List Item).Pairwise Apart)  : Calls Tryz.prog 36 ([.pointer (some ⟨d,0,none⟩),.int .i64 ((size:Nat):Int),.string ⟨#[]⟩]:List Value).toArray w (fun e w'=>∃ (u:Value) (x':Item),(u = .tuple #[.string (genB k K V size),.int .i64 ((0:Nat):Int)]∧x' = .blk d ⟨true,gnL k (genS k K V size).1 (genS k K V size).2 (n+1),79,(0,0)⟩)∧e = .returned u∧Outcome w [.blk d ⟨true,gnL k K V (n),79,(0,0)⟩] [x'] w'):=by
  have hg:=genI_size hk K hV
  have hs8:=hsize_le hk
  have hq:=genQ_mul hk size
  refine KAW [.blk d ⟨true,gnL k K V (n),79,(0,0)⟩] (N:=67) (rs:=[.tmp 6,.tmp 7]) Tryz.func36 rfl Tryz.ntmps36 Tryz.results36 (Nb rfl) hH hd rfl rfl ?_
  refine KB (KA (oA ?_));refine oP (KO (v:=.int .i64 ((0:Nat):Int)) rfl) ?_;refine KC (KB (LCode.block (KB (KA (oM ?_)))));refine oP (KAN u24 rfl rfl) ?_;refine oA (KC ?_);refine KH rfl ?_;refine KB (KA (oM ?_));refine oP (KF (v:=.bool false) rfl rfl (br_f (KAF (b:=0)) om)) ?_;refine oM ?_;refine oGM ?_;refine oGP (KF (v:=.bool false) rfl rfl (br_f (br_gtr (b:=256)) om)) ?_;refine oP (KV rfl rfl) ?_;refine oM ?_;refine oGM ?_;refine oGP (KAZ u9 rfl) ?_;refine oGP (KF (v:=.bool false) rfl rfl (br_f (br_gtr (b:=256)) dc)) ?_;refine oP (KV rfl rfl) ?_;refine oA (KC ?_);refine KH rfl ?_;refine KB (KA (oM ?_));refine oP (KG rfl) ?_;refine oP (KE (o':=3) u79 rfl rfl rfl sz_3 dc) ?_;refine oD (dL rfl (hv:=KJ u3 rfl (by first|rfl|exact KU _ _ _ om|exact KY _ om|exact Kb _ om|exact dv_m _ _ _ om))) ?_;refine oP (KF (v:=.bool false) rfl rfl (br_f (br_gtr (b:=64)) om)) ?_
  refine oA (KC ?_);refine KH rfl ?_;refine KN (KB (KB (KA (oM ?_))));refine oP (KK (Det.nes rfl rfl) (congrArg (fun b:Bool=>Value.bool (!b)) (eq_str_t (rfl)))) ?_;refine KC ?_;refine KH rfl ?_;refine KN (KB (KA (oA (KC (KB (LCode.block ?_))))));refine Ke (α:=Nat) (fun x=>x≤genQ k size) (fun x=>⟨[(0,.pointer (some ⟨d,0,none⟩)),(1,.int .i64 ((size:Nat):Int)),(2,.string ⟨#[]⟩),(8,.string (genI k K V x).2)],[.blk d ⟨true,gnL k K (genI k K V x).1 (n),79,(0,0)⟩]⟩) (fun x=>genQ k size-x) (0) (Nat.zero_le _) (Ka ⟨rfl,rfl,rfl,rfl,trivial⟩ mS) ?_
  intro x hx
  refine KB (KB (KA (oM ?_)));refine oP (KAZ u9 rfl) ?_;refine oM ?_;refine oP (KF rfl rfl (KAF)) ?_;refine KC ?_
  first|refine KR rfl (fun h38=>?_) (fun h38=>?_)|refine KS rfl (fun h38=>?_) (fun h38=>?_)
  ·
   have h38:(genI k K V x).2.size<size:=h38
   rw [(hg x).2] at h38
   have hxq:x+1≤genQ k size:=by
     rcases Nat.lt_or_ge x (genQ k size) with h|h
     · exact h
     · exact absurd (Nat.le_trans hq.1 (Nat.mul_le_mul_right _ h)) om
   refine KN (LCode.block (KB (KA (oM (oM (oM ?_))))));refine oP (KG rfl) ?_;refine oP (KE (o':=2) u79 rfl rfl rfl sz_9 dc) ?_;refine oD (dL rfl (hv:=KJ u9 rfl (by first|rfl|exact KU _ _ _ om|exact KY _ om|exact Kb _ om|exact dv_m _ _ _ om))) ?_;refine oS (cF rfl en_75 rfl (fun w hw=>c_dmac k hk d n K (genI k K V x).1 _ hK (by have:=(hg x).1; omega) w (show (Item.blk d ⟨false,gnL k K (genI k K V x).1 (n),79,(0,0)⟩).holds w from hw (.blk d ⟨true,gnL k K (genI k K V x).1 (n),79,(0,0)⟩) mM)) ?_);refine oP (KG rfl) ?_;refine oP (KE (o':=2) u79 rfl rfl rfl sz_9 dc) ?_;refine LOps.step rfl (KZ rfl rfl rfl sz_9 (by repeat (first|exact Sh _|apply St_)) (by show 2<4; decide) (show (gnL _ _ _ _).set 2 _ = gnL _ _ _ _ from rfl) (by simp) ?_);refine KC (KA (oM (oM ?_)));refine oP (KG rfl) ?_;refine oP (KE (o':=2) u79 rfl rfl rfl sz_9 dc) ?_;refine oD (dL rfl (hv:=KJ u9 rfl (by first|rfl|exact KU _ _ _ om|exact KY _ om|exact Kb _ om|exact dv_m _ _ _ om))) ?_
   refine oP (Det.cat rfl rfl (by have h1:=(hg x).2; rw [hmacB_size hk,h1]; omega)) ?_;refine oA (KC ?_)
   exact ⟨x+1,hxq,by omega,Ka ⟨rfl,rfl,rfl,rfl,trivial⟩ mS⟩
  have h38:¬ (genI k K V x).2.size<size:=h38
  rw [(hg x).2] at h38
  obtain rfl:x = genQ k size:=by
    rcases Nat.lt_or_ge x (genQ k size) with h|h
    · have h0:=hq.2 om
      have:=Nat.mul_le_mul_right (hsize k) (show x≤genQ k size-1 by omega)
      omega
    · omega
  refine Kc (KB (KA (oM (oM ?_))));refine LOps.step rfl (Km (first:=[]) (caps:=[]) rfl en_34 rfl (Nb rfl) sR wK (fun w hH hd=>c_dupd k hk d n K (genI k K V (genQ k size)).1 ⟨#[]⟩ hK (hg _).1 dc w hH hd) ?_)
  rintro _ _ ⟨rfl,rfl⟩
  refine KC (KB (KA (oM ?_)));refine oP (KG rfl) ?_;refine oP (KE (o':=3) u79 rfl rfl rfl sz_3 dc) ?_;refine oD (dL rfl (hv:=KJ u3 rfl (by first|rfl|exact KU _ _ _ om|exact KY _ om|exact Kb _ om|exact dv_m _ _ _ om))) ?_;refine oP (KF rfl rfl (Ko (b:=1) om)) ?_;refine oP (KG rfl) ?_;refine oP (KE (o':=3) u79 rfl rfl rfl sz_3 dc) ?_;refine LOps.step rfl (KZ rfl rfl rfl sz_3 (by repeat (first|exact Sh _|apply St_)) (by show 3<4; decide) (show (gnL _ _ _ _).set 3 _ = gnL _ _ _ _ from rfl) (by simp) ?_);refine KC (KB (KA (oM (oM ?_))));refine oP (Det.slStrH u9 rfl rfl om (by rw [(hg _).2]; exact Int.ofNat_le.2 hq.1)) ?_;refine oA ?_;refine oP (KO (v:=.int .i64 ((0:Nat):Int)) rfl) ?_;refine KC (KM ?_);refine ⟨[_,_],.cons rfl (.cons rfl .nil),fun a w' hr=>⟨_,_,⟨rfl,rfl⟩,rfl,hr.out mS rfl⟩⟩
theorem c_dgenX (k:Nat) (hk:k = 1∨k = 2∨k = 3∨k = 4) (d n:Nat) (K V:ByteArray) (size:Nat) (hsize1:size≤256) (hn:64<n) (w:World) (hH:∀ x,x∈([.blk d ⟨true,gnL k K V (n),79,(0,0)⟩]++[]:List Item)→x.holds w) (hd:([.blk d ⟨true,gnL k K V (n),79,(0,0)⟩]++[]:List Item).Pairwise Apart)  : Calls Tryz.prog 36 ([.pointer (some ⟨d,0,none⟩),.int .i64 ((size:Nat):Int),.string ⟨#[]⟩]:List Value).toArray w (fun e w'=>∃ (u:Value) (x':Item),(u = .tuple #[.string ⟨#[]⟩,.int .i64 ((1103:Nat):Int)]∧x' = .blk d ⟨true,gnL k K V (n),79,(0,0)⟩)∧e = .returned u∧Outcome w [.blk d ⟨true,gnL k K V (n),79,(0,0)⟩] [x'] w'):=by
  refine KAW [.blk d ⟨true,gnL k K V (n),79,(0,0)⟩] (N:=67) (rs:=[.tmp 6,.tmp 7]) Tryz.func36 rfl Tryz.ntmps36 Tryz.results36 (Nb rfl) hH hd rfl rfl ?_
  refine KB (KA (oA ?_));refine oP (KO (v:=.int .i64 ((0:Nat):Int)) rfl) ?_;refine KC (KB (LCode.block (KB (KA (oM ?_)))));refine oP (KAN u24 rfl rfl) ?_;refine oA (KC ?_);refine KH rfl ?_;refine KB (KA (oM ?_));refine oP (KF (v:=.bool false) rfl rfl (br_f (KAF (b:=0)) om)) ?_;refine oM ?_;refine oGM ?_;refine oGP (KF (v:=.bool false) rfl rfl (br_f (br_gtr (b:=256)) om)) ?_;refine oP (KV rfl rfl) ?_;refine oM ?_;refine oGM ?_;refine oGP (KAZ u9 rfl) ?_;refine oGP (KF (v:=.bool false) rfl rfl (br_f (br_gtr (b:=256)) dc)) ?_;refine oP (KV rfl rfl) ?_;refine oA (KC ?_);refine KH rfl ?_;refine KB (KA (oM ?_));refine oP (KG rfl) ?_;refine oP (KE (o':=3) u79 rfl rfl rfl sz_3 dc) ?_;refine oD (dL rfl (hv:=KJ u3 rfl (by first|rfl|exact KU _ _ _ om|exact KY _ om|exact Kb _ om|exact dv_m _ _ _ om))) ?_;refine oP (KF (v:=.bool true) rfl rfl (br_t (br_gtr (b:=64)) om)) ?_
  refine oA (KC ?_);refine KT rfl ?_;refine KB (KA (oA ?_));refine oP (KO (v:=.int .i64 ((1103:Nat):Int)) rfl) ?_;refine KC (KM ?_);refine ⟨[_,_],.cons rfl (.cons rfl .nil),fun a w' hr=>⟨_,_,⟨rfl,rfl⟩,rfl,hr.out mS rfl⟩⟩
theorem c_dmay (k:Nat) (hk:k = 1∨k = 2∨k = 3∨k = 4) (mb:Nat) (et s1 s2:ByteArray) (he1:hsize k/2≤et.size) (he2:et.size≤256) (h1:s1.size≤256) (h2:s2.size≤256) (w:World) (hm:(Item.blk mb ⟨false,[.string s1,.string s2],9,(0,0)⟩).holds w):Calls Tryz.prog 32 ([.int .i64 ((k:Nat):Int),.string et,.slice (some ⟨mb,0,none⟩) 2 2]:List Value).toArray w (fun e w'=>e = .returned (.int .i64 ((0:Nat):Int))∧Below w.heap.size w w'):=by
  have hs8:=hsize_le hk
  refine KX (N:=30) (rs:=[.tmp 6]) [.blk mb ⟨false,[.string s1,.string s2],9,(0,0)⟩] Tryz.func32 rfl Tryz.ntmps32 Tryz.results32 (Nb rfl) ⟨hm,trivial⟩ rfl ?_
  refine KB (KA ?_);refine oP (KO (v:=.int .i64 ((0:Nat):Int)) rfl) ?_;refine KC (KB (KB (KA (oM ?_))));refine oP (KAZ u9 rfl) ?_;refine oM ?_;refine oS (cF rfl en_31 rfl (fun w hw=>c_hSize k hk w) ?_);refine oP (KF rfl rfl (br_quo (b:=2) om om)) ?_;refine oP (KF (v:=.bool false) rfl rfl (br_f KAF om)) ?_;refine oM ?_;refine oGM ?_;refine oGP (KAZ u9 rfl) ?_;refine oGP (KF (v:=.bool false) rfl rfl (br_f (br_gtr (b:=256)) om)) ?_;refine oP (KV rfl rfl) ?_;refine KC ?_;refine KH rfl ?_;refine KN (KB (KB (KA (oM ?_))));refine oP (Det.len u143 rfl) ?_;refine oP (Ki (v:=.int .i64 ((0:Nat):Int)) rfl) ?_;refine KC (LCode.block ?_);refine Ke (α:=Nat) (fun x=>x≤2) (fun x=>⟨[(20,.slice (some ⟨mb,0,none⟩) 2 2),(21,.int .i64 ((2:Nat):Int)),(22,.int .i64 ((x:Nat):Int))],[.blk mb ⟨false,[.string s1,.string s2],9,(0,0)⟩]⟩) (fun x=>2-x) (0) (Nat.zero_le _) (Ka ⟨rfl,rfl,rfl,trivial⟩ mS) ?_
  intro x hx
  refine KB (KA ?_);refine oP (KF rfl rfl (KAF)) ?_;refine KC (KB ?_)
  first|refine KR rfl (fun h23=>?_) (fun h23=>?_)|refine KS rfl (fun h23=>?_) (fun h23=>?_)
  ·
   refine KN (KB (LCode.block (KB ?_)))
   obtain ⟨sv,hsv,sx⟩:∃ sv:ByteArray,sv.size≤256∧([.string s1,.string s2]:List Value)[x]? = some (.string sv):=by
     rcases (show x = 0∨x = 1 by omega) with rfl|rfl
     · exact ⟨s1,h1,rfl⟩
     · exact ⟨s2,h2,rfl⟩
   refine KA ?_;refine oP (KAV u143 sz_9 rfl rfl om) ?_;refine oD (dL rfl (hv:=KJ u9 rfl (by exact sx))) ?_;refine oA (KC (KB (KA (oM ?_))));refine oP (KAZ u9 rfl) ?_;refine oP (KF (v:=.bool false) rfl rfl (br_f (br_gtr (b:=256)) om)) ?_;refine KC ?_;refine KH rfl ?_;refine KN (KA ?_);refine oP (KF rfl rfl (Ko (b:=1) om)) ?_;refine oM (KC ?_)
   exact ⟨x+1,by omega,by omega,Ka ⟨rfl,rfl,rfl,trivial⟩ mS⟩
  refine Kc (KB (KA ?_));refine oP (KO (v:=.int .i64 ((0:Nat):Int)) rfl) ?_;refine KC (KM ?_);refine ⟨[_],.cons rfl .nil,fun a w' hr=>⟨?_,hr.fr.below⟩⟩
  rfl
theorem c_dNew (k:Nat) (hk:k = 1∨k = 2∨k = 3∨k = 4) (et s1 s2:ByteArray) (he1:hsize k/2≤et.size) (he2:et.size≤256) (h1:s1.size≤256) (h2:s2.size≤256) (w:World) (hH:∀ x,x∈([]++[]:List Item)→x.holds w) (hd:([]++[]:List Item).Pairwise Apart)  : Calls Tryz.prog 11 ([.int .i64 ((k:Nat):Int),.string et,.string s1,.string s2]:List Value).toArray w (fun e w'=>∃ (u:Value) (x':Item),(∃ d,u = .tuple #[.pointer (some ⟨d,0,none⟩),.int .i64 ((0:Nat):Int)]∧x' = .blk d ⟨true,gnL k (upd k (et++s1++s2) (toS (List.replicate (hsize k) 0),toS (List.replicate (hsize k) 1))).1 (upd k (et++s1++s2) (toS (List.replicate (hsize k) 0),toS (List.replicate (hsize k) 1))).2 (1),79,(0,0)⟩)∧e = .returned u∧Outcome w [] [x'] w'):=by
  have hs8:=hsize_le hk
  refine KAW [] (N:=41) (rs:=[.tmp 8,.tmp 9]) Tryz.func11 rfl Tryz.ntmps11 Tryz.results11 (Nb rfl) hH hd rfl rfl ?_
  refine KB (KA (oA ?_));refine oP (KO (v:=.int .i64 ((0:Nat):Int)) rfl) ?_;refine KC (KB (KA (oM ?_)));refine oS (cF rfl en_31 rfl (fun w hw=>c_hSize k hk w) ?_);refine oA (KC (KB (KB (KA (oM ?_)))));refine oP (KF (v:=.bool false) rfl rfl (br_f (Kz (b:=0)) om)) ?_;refine KC ?_;refine KH rfl ?_;refine KN (KB (KB (KA (oM (oM (oM (oM ?_)))))));refine oS (mk (KAc u143 inf_9 rfl rfl rfl rfl dc rfl) (fun b21=>?_));refine oS (cF rfl en_32 rfl (fun w hw=>c_dmay k hk b21 et s1 s2 he1 he2 h1 h2 w (show (Item.blk b21 ⟨false,[.string s1,.string s2],9,(0,0)⟩).holds w from hw (.blk b21 ⟨true,[.string s1,.string s2],9,(0,0)⟩) mM)) ?_);refine oA (KC (KB (KA (oM ?_))));refine oP (KF (v:=.bool false) rfl rfl (br_f (br_neq (b:=0)) dc)) ?_;refine KC ?_;refine KH rfl ?_;refine KN (KB (KA (oM (oM ?_))));refine oS (cF rfl en_33 rfl (fun w hw=>c_Repeat 0 _ w om) ?_);refine oM ?_;refine oS (cF rfl en_33 rfl (fun w hw=>c_Repeat 1 _ w om) ?_)
  refine oP (Kd pl_79 zr_79 rfl (fT (r':=([.int .i64 ((k:Nat):Int)]++([Value.string (toS (List.replicate (hsize k) (UInt8.toNat 0)))]++([Value.string (toS (List.replicate (hsize k) (UInt8.toNat 1)))]++([.int .i64 ((1:Nat):Int)]))))) (fS (A:=([]:List Value)) (B:=([Value.int .i64 ((0:Nat):Int)])) (D:=([Value.string ⟨#[]⟩]++([Value.string ⟨#[]⟩]++([Value.int .i64 ((0:Nat):Int)])))) (cs:=[.int .i64 ((k:Nat):Int)]) (fS (A:=([.int .i64 ((k:Nat):Int)])) (B:=([Value.string ⟨#[]⟩])) (D:=([Value.string ⟨#[]⟩]++([Value.int .i64 ((0:Nat):Int)]))) (cs:=[Value.string (toS (List.replicate (hsize k) (UInt8.toNat 0)))]) (fS (A:=([.int .i64 ((k:Nat):Int)]++([Value.string (toS (List.replicate (hsize k) (UInt8.toNat 0)))]))) (B:=([Value.string ⟨#[]⟩])) (D:=([Value.int .i64 ((0:Nat):Int)])) (cs:=[Value.string (toS (List.replicate (hsize k) (UInt8.toNat 1)))]) (fS (A:=([.int .i64 ((k:Nat):Int)]++([Value.string (toS (List.replicate (hsize k) (UInt8.toNat 0)))]++([Value.string (toS (List.replicate (hsize k) (UInt8.toNat 1)))])))) (B:=([Value.int .i64 ((0:Nat):Int)])) (D:=([]:List Value)) (cs:=[.int .i64 ((1:Nat):Int)]) rfl)))))) ?_
  refine oS (mB (fun b32=>?_));refine oA (KC (KB (KA (oM (oM (oM ?_))))));refine oP (Det.cat rfl rfl om) ?_;refine oM ?_;refine oP (Det.cat rfl rfl (by rw [ByteArray.size_append]; omega)) ?_;refine LOps.step rfl (Km (first:=[]) (caps:=[]) rfl en_34 rfl (Nb rfl) sR wK (fun w hH hd=>c_dupd k hk b32 1 _ _ _ (by rw [toS_size,List.length_replicate]; omega) (by rw [toS_size,List.length_replicate]; omega) (by simp only [ByteArray.size_append]; omega) w hH hd) ?_)
  rintro _ _ ⟨rfl,rfl⟩
  refine KC (KB (KA (oM (oA ?_))));refine oP (KO (v:=.int .i64 ((0:Nat):Int)) rfl) ?_;refine KC (KM ?_);refine ⟨[_,_],.cons rfl (.cons rfl .nil),fun a w' hr=>⟨_,_,⟨b32,rfl,rfl⟩,rfl,hr.out mS rfl⟩⟩
end Go.Proofs.YtnpeokiboiclfaaGreat
set_option linter.unusedVariables false
set_option linter.unusedSimpArgs false
namespace Go.Proofs.YtnpeokiboiclfaaGreat
open Go Go.RowKit
section
variable {P:Program} {C:Ctx} {ty:TypeId} {pos:String} {aft:Array Edge} {d:Nat} {K:St→Prop} {x y:Operand} {t t2 e:TypeId}
theorem LStepW.copy {T : List (Nat × Value)} {H H' : List Item} {q o dl dc sb so sl sc : Nat} {cs0 cs cs' : List Value} {te : TypeId} {Bs : Blk} {g : Option (Nat × Bool)} (hx : evT T x = some (.slice (some ⟨q, o, none⟩) dl dc)) (hy : evT T y = some (.slice (some ⟨sb, so, none⟩) sl sc)) (ht : P.underlying t = some (.slice e)) (he : szOf P e = some 1)
    (hs:SetAt q ⟨true,cs0,te,(0,0)⟩ ⟨true,cs',te,(0,0)⟩ H H') (hm:Item.blk sb Bs∈H) (hn:cs.length = Nat.min sl dl) (hsrc:∀ j v,cs[j]? = some v→Bs.cells[so+j]? = some v) (hfit:o+cs.length≤cs0.length) (h1:AllOne cs) (hc:KAa cs0 o cs = cs') (hd:d<C.N)
    (h:K ⟨(d,.int .i64 (cs.length:Int)) :: T,H'⟩):LStepW P C ⟨some d,.call { callee:=.builtin .copy,args:=#[x,y],argTypes:=#[t,t2] },ty,pos,aft,g⟩ ⟨T,H⟩ K:=by
  unfold LStepW
  intro a w hr Qr
  have hb:w.heap[q]? = some (.cells cs0.toArray te (0,0)):=hr.hp _ hs.mem
  have ha:w.heap[sb]? = some (.cells Bs.cells.toArray Bs.elem Bs.frz):=hr.hp _ hm
  have hrun:=run_copy_row (P:=P) w t t2 ty e q o dl dc ⟨sb,so,none⟩ sl sc cs0.toArray te cs ht he hb hn (fun j v hj=>by
    rw [cell_at ha,List.getElem?_toArray]; exact hsrc j v hj) (by simpa using hfit) (fun v hv=>one_cell' (h1 v hv))
  unfold Oper.wp
  have hex:(execOp a.eval ⟨some d,.call { callee:=.builtin .copy,args:=#[x,y],argTypes:=#[t,t2] },ty,pos,aft,g⟩).run P w = .ok (.value (goInt cs.length)) (w.setRow q (cs0.toArray.toList.take o++cs++cs0.toArray.toList.drop (o+cs.length)).toArray):=by
    have:#[x,y].map a.eval = #[.slice (some ⟨q,o,none⟩) dl dc,.slice (some ⟨sb,so,none⟩) sl sc]:=by simp [hr.ev hx,hr.ev hy]
    simp [execOp,resolve,this,invoke,builtin,hrun]
  rw [hex]
  have e1:cs0.toArray.toList.take o++cs++cs0.toArray.toList.drop (o+cs.length) = cs':=by rw [← hc]; rfl
  rw [e1]
  have hnew:(w.setRow q cs'.toArray).heap[q]? = some (.cells cs'.toArray te (0,0)):=setRow_heap w q _ _ te _ hb
  have hoth:∀ k,k≠q→(w.setRow q cs'.toArray).heap[k]? = w.heap[k]?:=fun k hk=>setRow_other w q k _ hk
  exact ⟨_,h,(hr.setBlk (B':=⟨true,cs',te,(0,0)⟩) hs rfl hnew hoth (by simp [World.setRow]) rfl rfl rfl).put hd _⟩
theorem Det.slArrL {dd : Option Tmp} {g : Option (Nat × Bool)} {st : St} {z : Operand} {n b o k m : Nat} {kk : IntKind} (ht : P.underlying t = some (.array n e)) (he : szOf P e = some m) (hx : evT st.T x = some (.pointer (some ⟨b, o, none⟩))) (hz : evT st.T z = some (.int kk (k : Int))) (h1 : k < n) :
    Slots P C ⟨dd,.slice t x (some z) none none,ty,pos,aft,g⟩ st (.slice (some ⟨b,o+k*m,none⟩) (n-k) (n-k)):=by
  unfold Slots
  intro a w hr
  have h0:(0:Int)≤(k:Int):=Int.natCast_nonneg k
  have h1':((k:Int)≤(n:Int)):=by omega
  have h2:¬ n = k:=by omega
  simp [execOp,hr _ _ hx,hr _ _ hz,Instr.sliceAt,run_underlying ht,Instr.sureAddr,Instr.sliceBounds,run_sliceBound,h0,h1',run_sizeOf he,Addr.add,h2]
end
abbrev WB:Nat:=18446744073709551616
theorem round_fin {X c n : Nat} (hV : X + c * 2 ^ (64 * n) < 2 ^ (64 * (n + 2))) (j : Nat) :
    (if j = n+1 then (limb (setl X n ((limb X n+c)%WB)) (n+1)+(limb X n+c)/WB)%WB else limb (setl X n ((limb X n+c)%WB)) j) = limb (X+c*2^(64*n)) j:=by
  have h1:=setl_eq X n ((limb X n+c)%WB)
  have hdm:=Nat.div_add_mod (limb X n+c) WB
  generalize hX1:setl X n ((limb X n+c)%WB) = X1 at *
  generalize hs:(limb X n+c)%WB = s at *
  generalize hq:(limb X n+c)/WB = q at *
  have hK:2^(64*(n+1)) = WB*2^(64*n):=by rw [show 64*(n+1) = 64+64*n by omega,Nat.pow_add]
  have hK2:2^(64*(n+2)) = WB*2^(64*(n+1)):=by rw [show 64*(n+2) = 64+64*(n+1) by omega,Nat.pow_add]
  generalize hKn:2^(64*n) = Kn at *
  have e1:X+c*Kn = X1+q*2^(64*(n+1)):=by
    rw [hK]
    have e2:(WB*q+s)*Kn = (limb X n+c)*Kn:=by rw [hdm]
    have e3:q*(WB*Kn) = WB*q*Kn:=by rw [← Nat.mul_assoc,Nat.mul_comm q WB]
    rw [Nat.add_mul,Nat.add_mul] at e2
    rw [e3]
    omega
  have hlt:limb X1 (n+1)+q<WB:=by
    rcases Nat.lt_or_ge (limb X1 (n+1)+q) WB with h|h
    · exact h
    · exfalso
      have h2:=limb_mul_le X1 (n+1)
      have h3:=Nat.mul_le_mul_right (2^(64*(n+1))) h
      rw [Nat.add_mul] at h3
      omega
  rw [e1,limb_addl X1 q (n+1) j hlt]
  by_cases h:j = n+1
  · rw [if_pos h,if_pos h,Nat.mod_eq_of_lt hlt]
  · rw [if_neg h,if_neg h]
def MtInv (m a b i T:Nat):Prop:=T<2*m∧∃ q,T*2^(64*i) = a%2^(64*i)*b+q*m
theorem MtInv.zero {m a b:Nat} (hm:0<m):MtInv m a b 0 0:=⟨by omega,0,by simp [Nat.mod_one]⟩
theorem mt_div {m less T:Nat} (hl:(less*m+1)%WB = 0):(T+T*less%WB*m)%WB = 0:=by
  have h1:(T+T*less%WB*m)%WB = (T*(less*m+1))%WB:=by
    rw [Nat.mul_add,Nat.mul_one,Nat.add_comm (T*(less*m)),Nat.add_mod,Nat.mod_mul_mod,← Nat.add_mod,Nat.mul_assoc]
  rw [h1,Nat.mul_mod,hl,Nat.mul_zero,Nat.zero_mod]
theorem mt_low {m less T b a:Nat} (hl:(less*m+1)%WB = 0):(T+a*b+limb (T+a*b) 0*less%WB*m)%WB = 0:=by
  have h:limb (T+a*b) 0 = (T+a*b)%WB:=by unfold limb; rw [Nat.mul_zero,Nat.pow_zero,Nat.div_one]
  rw [h,Nat.mod_mul_mod]
  exact mt_div hl
theorem mt_bound {m T b x q:Nat} (hT:T<2*m) (hb:b<m) (hx:x<WB) (hq:q<WB):T+x*b+q*m<2*m*WB:=by
  have h1:x*b≤(WB-1)*m:=Nat.mul_le_mul (by omega) (Nat.le_of_lt hb)
  have h2:q*m≤(WB-1)*m:=Nat.mul_le_mul_right _ (by omega)
  have h3:(WB-1)*m = WB*m-m:=by rw [Nat.sub_mul,Nat.one_mul]
  have h4:m≤WB*m:=Nat.le_mul_of_pos_left _ (by decide)
  have h5:2*m*WB = WB*m+WB*m:=by rw [Nat.mul_comm (2*m),← Nat.mul_assoc,Nat.mul_comm WB 2,Nat.mul_assoc]; omega
  omega
theorem MtInv.step {m less a b i T : Nat} (h : MtInv m a b i T) (hb : b < m) (hl : (less * m + 1) % WB = 0) :
    MtInv m a b (i+1) ((T+limb a i*b+limb (T+limb a i*b) 0*less%WB*m)/WB):=by
  obtain ⟨h1,q,h2⟩:=h
  have hlow:=mt_low (T:=T) (b:=b) (a:=limb a i) hl
  have hbd:=mt_bound (x:=limb a i) (q:=limb (T+limb a i*b) 0*less%WB) h1 hb (limb_lt a i) (Nat.mod_lt _ (by decide))
  generalize hq:limb (T+limb a i*b) 0*less%WB = q2 at *
  have hdm:=Nat.div_add_mod (T+limb a i*b+q2*m) WB
  rw [hlow,Nat.add_zero] at hdm
  generalize hT:(T+limb a i*b+q2*m)/WB = T2 at *
  refine ⟨?_,q+q2*2^(64*i),?_⟩
  · rcases Nat.lt_or_ge T2 (2*m) with h|h
    · exact h
    · exfalso
      have:=Nat.mul_le_mul_right WB h
      rw [Nat.mul_comm T2] at this
      omega
  · have hK:2^(64*(i+1)) = WB*2^(64*i):=by rw [show 64*(i+1) = 64+64*i by omega,Nat.pow_add]
    have e1:T2*2^(64*(i+1)) = (T+limb a i*b+q2*m)*2^(64*i):=by rw [hK,← Nat.mul_assoc,Nat.mul_comm T2,hdm]
    rw [e1,mod_succ_limb,Nat.add_mul,Nat.add_mul,h2,Nat.add_mul,Nat.add_mul]
    have e2:limb a i*b*2^(64*i) = limb a i*2^(64*i)*b:=by rw [Nat.mul_assoc,Nat.mul_comm b,← Nat.mul_assoc]
    have e3:q2*m*2^(64*i) = q2*2^(64*i)*m:=by rw [Nat.mul_assoc,Nat.mul_comm m,← Nat.mul_assoc]
    rw [e2,e3]
    have e4:2^(64*i)*limb a i*b = limb a i*2^(64*i)*b:=by rw [Nat.mul_comm (2^(64*i))]
    omega
theorem odd_cop {m k:Nat} (h:m%2 = 1):Nat.Coprime m (2^k):=by
  refine Nat.Coprime.pow_right k ?_
  have h2:=Nat.gcd_dvd_left m 2
  have h3:=Nat.gcd_dvd_right m 2
  show Nat.gcd m 2 = 1
  have h4:=Nat.le_of_dvd (by decide) h3
  rcases (show Nat.gcd m 2 = 0∨Nat.gcd m 2 = 1∨Nat.gcd m 2 = 2 by omega) with e|e|e
  · rw [e] at h3; obtain ⟨c,hc⟩:=h3; omega
  · exact e
  · rw [e] at h2; obtain ⟨c,hc⟩:=h2; omega
theorem MtInv.done {m a b n T r:Nat} (h:MtInv m a b n T) (ho:m%2 = 1) (ha:a<2^(64*n)) (hr:r<m) (he:r*2^(64*n)%m = a*b%m):T = r∨T = r+m:=by
  obtain ⟨h1,q,h2⟩:=h
  rw [Nat.mod_eq_of_lt ha] at h2
  have hc:=odd_cop (k:=64*n) ho
  generalize 2^(64*n) = K at *
  have e1:T*K%m = r*K%m:=by rw [h2,Nat.add_mul_mod_self_right,he]
  have key:∀ x y,x≤y→x*K%m = y*K%m→m ∣ y-x:=by
    intro x y hxy hm
    have h3:m ∣ y*K-x*K:=Nat.dvd_of_mod_eq_zero (Nat.sub_mod_eq_zero_of_mod_eq hm.symm)
    rw [← Nat.sub_mul] at h3
    exact hc.dvd_of_dvd_mul_right h3
  rcases Nat.le_total r T with h4|h4
  · obtain ⟨c,hc2⟩:=key r T h4 e1.symm
    have:c<2:=by
      rcases Nat.lt_or_ge c 2 with h5|h5
      · exact h5
      · have:=Nat.mul_le_mul_left m h5
        omega
    rcases (show c = 0∨c = 1 by omega) with rfl|rfl
    · left; omega
    · right; omega
  · obtain ⟨c,hc2⟩:=key T r h4 e1
    rcases Nat.eq_zero_or_pos c with rfl|h5
    · left; omega
    · have:=Nat.mul_le_mul_left m h5
      omega
theorem limb_cut {n D j:Nat}:limb (D%2^(64*n)) j = if j<n then limb D j else 0:=by
  by_cases h:j<n
  · rw [if_pos h]
    obtain ⟨k,rfl⟩:∃ k,n = j+1+k:=⟨n-(j+1),by omega⟩
    unfold limb
    have e:2^(64*(j+1+k)) = 2^(64*j)*(WB*2^(64*k)):=by rw [show 64*(j+1+k) = 64*j+(64+64*k) by omega,Nat.pow_add,Nat.pow_add]
    rw [e,Nat.mod_mul_right_div_self,Nat.mod_mul_right_mod]
  · rw [if_neg h]
    exact limb_high (Nat.mod_lt _ (pow64_pos n)) (by omega)
def mtN (m x:Nat):Nat:=x*((2+(WB-m*x%WB))%WB)%WB
theorem mtN_step {m x k:Nat} (h:m*x%2^k = 1) (hk:2*k≤64) (h0:0<k):m*mtN m x%2^(2*k) = 1:=by
  have hd:2^(2*k) ∣ WB:=⟨2^(64-2*k),by rw [← Nat.pow_add,show 2*k+(64-2*k) = 64 by omega]⟩
  have hK2:2^(2*k) = 2^k*2^k:=by rw [← Nat.pow_add,Nat.two_mul]
  have hK1:2≤2^k:=by
    have:=Nat.pow_le_pow_right (n:=2) (by decide) h0
    simpa using this
  have hdm:=Nat.div_add_mod (m*x) (2^k)
  have hdw:=Nat.div_add_mod (m*x) WB
  rw [h] at hdm
  have hlt:=Nat.mod_lt (m*x) (show 0<WB by decide)
  have e0:m*mtN m x%2^(2*k) = m*x*(2+(WB-m*x%WB))%2^(2*k):=by
    unfold mtN
    generalize 2+(WB-m*x%WB) = s
    rw [Nat.mul_mod,Nat.mod_mod_of_dvd _ hd,Nat.mul_mod x,Nat.mod_mod_of_dvd _ hd,← Nat.mul_mod x,← Nat.mul_mod m,Nat.mul_assoc]
  rw [e0]
  generalize hA:m*x = A at *
  generalize hr:A%WB = r at *
  generalize hc:A/WB = c at *
  generalize ht:A/2^k = u at *
  generalize hK:2^k = K at *
  have e1:A*(2+(WB-r))+K*K*(u*u) = 1+A*(c+1)*WB:=by
    have e2:(2+(WB-r))+A = 2+(c+1)*WB:=by
      rw [Nat.add_mul,Nat.one_mul,Nat.mul_comm c]; omega
    have e3:A*(2+(WB-r))+A*A = A*2+A*(c+1)*WB:=by rw [← Nat.mul_add,e2,Nat.mul_add,Nat.mul_assoc]
    have e4:A*A+1 = A*2+K*K*(u*u):=by
      rw [← hdm]
      simp only [Nat.add_mul,Nat.mul_add,Nat.one_mul,Nat.mul_one]
      have:K*u*(K*u) = K*K*(u*u):=by rw [Nat.mul_assoc,Nat.mul_left_comm u,← Nat.mul_assoc]
      omega
    omega
  have e5:(A*(2+(WB-r))+K*K*(u*u))%(K*K) = 1%(K*K):=by
    rw [e1]
    obtain ⟨z,hz⟩:=hd
    rw [hK2] at hz
    rw [hz,Nat.mul_left_comm,Nat.add_mul_mod_self_left]
  rw [Nat.add_mul_mod_self_left] at e5
  rw [hK2,e5]
  exact Nat.mod_eq_of_lt (Nat.lt_of_lt_of_le (by decide:1<2*2) (Nat.mul_le_mul hK1 hK1))
theorem mt_start {m:Nat} (h:m%2 = 1):m*m%2^3 = 1:=by
  rw [Nat.mul_mod]
  have:m%2^3<8:=Nat.mod_lt _ (by decide)
  have h2:m%2^3%2 = 1:=by rw [Nat.mod_mod_of_dvd _ (by decide)]; exact h
  generalize m%2^3 = z at *
  rcases (show z = 1∨z = 3∨z = 5∨z = 7 by omega) with rfl|rfl|rfl|rfl <;> rfl
def mtI (m:Nat):Nat→Nat
  | 0=>m
  | i+1=>mtN m (mtI m i)
theorem mt_weak {a k j:Nat} (h:a%2^k = 1) (hj:j≤k) (h0:0<j):a%2^j = 1:=by
  have hd:2^j ∣ 2^k:=Nat.pow_dvd_pow 2 hj
  have:=congrArg (·%2^j) h
  simp only [Nat.mod_mod_of_dvd _ hd] at this
  rw [this]
  have h2:=Nat.pow_le_pow_right (n:=2) (by decide) h0
  exact Nat.mod_eq_of_lt (Nat.lt_of_lt_of_le (by decide:1<2^1) h2)
theorem mtI_five {m:Nat} (h:m%2 = 1):m*mtI m 5%WB = 1:=by
  have h0:m*mtI m 0%2^3 = 1:=mt_start h
  have h1:m*mtI m 1%2^(2*3) = 1:=mtN_step h0 (by decide) (by decide)
  have h2:m*mtI m 2%2^(2*(2*3)) = 1:=mtN_step h1 (by decide) (by decide)
  have h3:m*mtI m 3%2^(2*(2*(2*3))) = 1:=mtN_step h2 (by decide) (by decide)
  have h4:m*mtI m 4%2^(2*(2*(2*(2*3)))) = 1:=mtN_step h3 (by decide) (by decide)
  exact mtN_step (k:=32) (mt_weak h4 (by decide) (by decide)) (by decide) (by decide)
theorem mtN_lt (m x:Nat):mtN m x<WB:=Nat.mod_lt _ (by decide)
def mtL0 (m:Nat):Nat:=(WB-mtI (limb m 0) 5)%WB
theorem limb_zero (m:Nat):limb m 0 = m%WB:=by unfold limb; rw [Nat.mul_zero,Nat.pow_zero,Nat.div_one]
theorem mtL0_spec {m:Nat} (h:m%2 = 1):(mtL0 m*m+1)%WB = 0:=by
  have h0:limb m 0%2 = 1:=by rw [limb_zero,Nat.mod_mod_of_dvd _ (by decide)]; exact h
  have h5:=mtI_five h0
  have hx:mtI (limb m 0) 5<WB:=mtN_lt _ _
  unfold mtL0
  generalize mtI (limb m 0) 5 = x at *
  rw [limb_zero,Nat.mod_mul_mod] at h5
  have e1:((WB-x)%WB*m+1)%WB = ((WB-x)*m+1)%WB:=by rw [Nat.add_mod,Nat.mod_mul_mod,← Nat.add_mod]
  rw [e1]
  have e2:(WB-x)*m+m*x = WB*m:=by rw [Nat.mul_comm m x,← Nat.add_mul]; congr 1; omega
  have hdm:=Nat.div_add_mod (m*x) WB
  rw [h5] at hdm
  have e3:(WB-x)*m+1+WB*(m*x/WB) = WB*m:=by omega
  have e4:((WB-x)*m+1+WB*(m*x/WB))%WB = 0:=by rw [e3,Nat.mul_mod_right]
  rwa [Nat.add_mul_mod_self_left] at e4
def mtL (m n less rr:Nat):List Value:=natL m++([.int .i64 (n:Int),.int .u64 (less:Int)]++natL rr)
theorem mtL_length (m n less rr:Nat):(mtL m n less rr).length = 20:=by simp [mtL,KI]
theorem mtL_m (m n less rr:Nat) {i:Nat} (h:i<9):(mtL m n less rr)[i]? = some (.int .u64 (limb m i:Int)):=by
  unfold mtL
  rw [List.getElem?_append_left (by rw [KI]; exact h),KY _ h]
theorem mtL_n (m n less rr:Nat):(mtL m n less rr)[9]? = some (.int .i64 (n:Int)):=by
  unfold mtL
  rw [List.getElem?_append_right (by rw [KI]; decide),KI]; rfl
theorem mtL_l (m n less rr:Nat):(mtL m n less rr)[10]? = some (.int .u64 (less:Int)):=by
  unfold mtL
  rw [List.getElem?_append_right (by rw [KI]; decide),KI]; rfl
theorem mtL_ms (m n less rr:Nat):((mtL m n less rr).drop 0).take 9 = natL m:=by
  unfold mtL
  rw [List.drop_zero,List.take_left' (KI _)]
theorem mtL_rr (m n less rr:Nat):((mtL m n less rr).drop 11).take 9 = natL rr:=by
  unfold mtL
  rw [← List.append_assoc,List.drop_left' (by simp [KI]),List.take_of_length_le (by rw [KI]; exact Nat.le_refl _)]
theorem Det.indexSK {P : Program} {C : Ctx} {st : St} {d : Option Tmp} {ty : TypeId} {pos : String} {aft : Array Edge} {g : Option (Nat × Bool)} {x y : Operand} {t e : TypeId} {s i : Nat} {k : IntKind} {b o l c : Nat} (ht : P.underlying t = some (.slice e)) (he : szOf P e = some s) (hx : evT st.T x = some (.slice (some ⟨b, o, none⟩) l c)) (hy : evT st.T y = some (.int k (i : Int))) (h1 : i < l) :
    Slots P C ⟨d,.indexAddr t x y,ty,pos,aft,g⟩ st (.pointer (some ⟨b,o+i*s,none⟩)):=by
  have:=Det.indexSl (P:=P) (C:=C) (d:=d) (ty:=ty) (pos:=pos) (aft:=aft) (g:=g) (st:=st) ht he hx hy (by omega) (by omega)
  rwa [Int.toNat_natCast] at this
def natsL (l:List Nat):List Value:=l.flatMap natL
theorem natsL_length (l:List Nat):(natsL l).length = l.length*9:=by
  induction l with
  | nil=>rfl
  | cons a l ih=>show (natL a++natsL l).length = _; rw [List.length_append,KI,ih,List.length_cons]; omega
theorem natsL_at:∀ (l:List Nat) (i:Nat),i<l.length→((natsL l).drop (0+i*9)).take 9 = natL (l.getD i 0)
  | [],i,h=>by cases h
  | a :: l,0,_=>by
    show ((natL a++natsL l).drop (0+0*9)).take 9 = natL a
    rw [Nat.zero_mul,Nat.add_zero,List.drop_zero,List.take_left' (KI a)]
  | a :: l,i+1,h=>by
    have:=natsL_at l i (by simpa using h)
    show ((natL a++natsL l).drop (0+(i+1)*9)).take 9 = natL (l.getD i 0)
    rw [show 0+(i+1)*9 = 9+(0+i*9) by omega,← List.drop_drop,List.drop_left' (KI a)]
    exact this
theorem rnd_parts {p x c : Nat} (hx : x < 18446744073709551616) (hc : c < 18446744073709551616) (h : p + x + c < 18446744073709551616 * 18446744073709551616) :
    (x+(p%18446744073709551616+c+0)%18446744073709551616+0)%18446744073709551616 = (p+x+c)%18446744073709551616∧((p/18446744073709551616+(p%18446744073709551616+c+0)/18446744073709551616)%18446744073709551616+(x+(p%18446744073709551616+c+0)%18446744073709551616+0)/18446744073709551616)%18446744073709551616 = (p+x+c)/18446744073709551616:=by
  have h1:=row_parts (p:=p) (x:=c) (c:=x) hc hx (by rw [Nat.add_right_comm]; exact h)
  have e:x+(p%18446744073709551616+c+0)%18446744073709551616+0 = (p%18446744073709551616+c+0)%18446744073709551616+x+0:=by omega
  have e2:p+x+c = p+c+x:=by omega
  have h2:(p+c+x)/18446744073709551616<18446744073709551616:=Nat.div_lt_of_lt_mul (by rw [← e2]; exact h)
  rw [e,e2]
  exact ⟨h1.1,h1.2⟩
theorem rnd_step {X c T B k a t : Nat} (h : X + c * 2 ^ (64 * k) = T + a * (B % 2 ^ (64 * k))) (ht : t = a * limb B k + limb X k + c) :
    setl X k (t%WB)+t/WB*2^(64*(k+1)) = T+a*(B%2^(64*(k+1))):=by
  have:=row_step (X:=X) (c:=c) (P:=T) (B:=B) (i:=0) (k:=k) (a:=a) (t:=t) (by rw [Nat.zero_add,Nat.mul_zero,Nat.pow_zero,Nat.mul_one]; exact h) rfl (by rw [Nat.zero_add]; exact ht)
  rw [Nat.zero_add,Nat.zero_add,Nat.mul_zero,Nat.pow_zero,Nat.mul_one] at this
  exact this
theorem limb_down (T j:Nat):limb (T/WB) j = limb T (j+1):=by
  unfold limb
  rw [Nat.div_div_eq_div_mul,show 64*(j+1) = 64+64*j by omega,Nat.pow_add]
theorem mt_room {m n V:Nat} (hm:m<2^(64*n)) (h:V<2*m*WB):V<2^(64*(n+2)):=by
  have hK:2^(64*(n+2)) = WB*WB*2^(64*n):=by rw [show 64*(n+2) = 64+64+64*n by omega,Nat.pow_add,Nat.pow_add]
  rw [hK]
  generalize 2^(64*n) = K at *
  have h1:2*m*WB≤WB*K*WB:=Nat.mul_le_mul_right _ (Nat.mul_le_mul (by decide) (Nat.le_of_lt hm))
  have h2:WB*K*WB = WB*WB*K:=by rw [Nat.mul_assoc,Nat.mul_comm K,← Nat.mul_assoc]
  omega
theorem pow_le_w9 {n:Nat} (h:n≤9):2^(64*n)≤W9:=by
  rw [Nat.pow_mul]
  exact Nat.pow_le_pow_right (n:=18446744073709551616) (by decide) h
theorem mt_end {m n T r : Nat} (hT : T = r ∨ T = r + m) (hr : r < m) (hm : m < 2 ^ (64 * n)) (hm9 : m < W9) (hn : n ≤ 9) :
    (¬ limb T n = 0∧dif (T%2^(64*n)) m%2^(64*n) = r)∨(limb T n = 0∧¬ T%2^(64*n)<m∧dif (T%2^(64*n)) m%2^(64*n) = r)∨(limb T n = 0∧T%2^(64*n)<m∧T%2^(64*n) = r):=by
  have hA9:T%2^(64*n)<W9:=Nat.lt_of_lt_of_le (Nat.mod_lt _ (pow64_pos n)) (pow_le_w9 hn)
  have hd:=dif_mod (T%2^(64*n)) m n hA9 hm9 hn
  rw [Nat.mod_mod] at hd
  have key:T = r+m→dif (T%2^(64*n)) m%2^(64*n) = r:=by
    intro h
    generalize dif (T%2^(64*n)) m = D at *
    rw [h,Nat.add_comm r] at hd
    generalize 2^(64*n) = K at *
    have h1:=Nat.div_add_mod (m+D) K
    have h2:=Nat.div_add_mod (m+r) K
    rw [hd] at h1
    have h3:(D+K*((m+r)/K))%K = (r+K*((m+D)/K))%K:=by congr 1; omega
    rw [Nat.add_mul_mod_self_left,Nat.add_mul_mod_self_left] at h3
    rw [h3,Nat.mod_eq_of_lt (by omega)]
  have hlT:T<2^(64*n)→limb T n = 0:=fun h=>limb_high h (Nat.le_refl _)
  rcases Nat.lt_or_ge T (2^(64*n)) with h|h
  · rw [Nat.mod_eq_of_lt h] at key ⊢
    rcases Nat.lt_or_ge T m with h2|h2
    · exact .inr (.inr ⟨hlT h,h2,by omega⟩)
    · exact .inr (.inl ⟨hlT h,by omega,key (by omega)⟩)
  · left
    refine ⟨?_,key (by omega)⟩
    unfold limb
    have h1:T/2^(64*n) = 1:=by
      have h2:T<2*2^(64*n):=by omega
      have h3:=(Nat.div_lt_iff_lt_mul (pow64_pos n)).2 h2
      have h4:=(Nat.le_div_iff_mul_le (pow64_pos n)).2 (show 1*2^(64*n)≤T by omega)
      omega
    rw [h1]; decide
structure MtOk (m n ls:Nat):Prop where
  odd:m%2 = 1
  three:3≤m
  lt9:m<W9
  ltn:m<2^(64*n)
  n9:n≤9
  less:(ls*m+1)%18446744073709551616 = 0
abbrev mtR (n:Nat):Nat:=2^(64*n)
theorem mt_to {m n a:Nat}:(a*mtR n%m)*mtR n%m = a*(mtR n*mtR n%m)%m:=by
  rw [Nat.mod_mul_mod,Nat.mul_mod_mod,Nat.mul_assoc]
theorem mt_mul {m n a b:Nat}:(a*b%m)*mtR n%m = (a*mtR n%m)*b%m:=by
  rw [Nat.mod_mul_mod,Nat.mod_mul_mod,Nat.mul_right_comm]
theorem copy_down {T n:Nat} (hn:n≤9) (h:T<2^(64*(n+2))) (j:Nat) (hj:j<11):(if j = 10 then 0 else if j<10 then limb T (j+1) else limb T 10) = limb (T/WB) j:=by
  rw [limb_down]
  by_cases h1:j = 10
  · rw [if_pos h1,h1]
    exact (limb_high h (by omega)).symm
  · rw [if_neg h1,if_pos (by omega)]
theorem splice_down (T:Nat):KAa (vec .u64 11 (limb T)) 0 (vec .u64 10 (fun j=>limb T (j+1))) = vec .u64 11 (fun j=>if j<10 then limb T (j+1) else limb T 10):=by
  unfold KAa
  rw [List.take_zero,List.nil_append,KQ,Nat.zero_add]
  generalize limb T = f
  rfl
theorem splice_up {T n:Nat} (hn:n≤9):KAa (vec .u64 9 (fun _=>0)) 0 (vec .u64 n (limb T)) = natL (T%2^(64*n)):=by
  unfold KAa
  rw [List.take_zero,List.nil_append,KQ,Nat.zero_add]
  apply List.ext_getElem
  · simp [KQ,KI]; omega
  · intro i h1 h2
    have hi:i<9:=by rw [KI] at h2; exact h2
    have e2:(natL (T%2^(64*n)))[i] = .int .u64 (limb (T%2^(64*n)) i:Int):=by
      have:=KY (T%2^(64*n)) hi
      rw [List.getElem?_eq_getElem h2] at this
      exact Option.some.inj this
    refine Eq.trans ?_ e2.symm
    rw [limb_cut]
    by_cases h:i<n
    · rw [if_pos h,List.getElem_append_left (by rw [KQ]; exact h)]
      simp [vec]
    · rw [if_neg h,List.getElem_append_right (by rw [KQ]; omega)]
      simp [vec]
theorem limb_up1 (r j:Nat):limb (r*WB) j = if j = 0 then 0 else limb r (j-1):=by
  by_cases h:j = 0
  · subst h; rw [if_pos rfl,limb_zero,Nat.mul_mod_left]
  · rw [if_neg h]
    obtain ⟨i,rfl⟩:∃ i,j = i+1:=⟨j-1,by omega⟩
    rw [← limb_down,Nat.mul_div_cancel _ (by decide)]; rfl
theorem wide_up {r:Nat} (hr:r<W9):KAa (vec .u64 18 (fun _=>0)) 1 (natL r) = wideL (r*WB):=by
  have e:wideL (r*WB) = vec .u64 1 (fun _=>0)++(natL r++vec .u64 8 (fun _=>0)):=by
    unfold wideL natL
    have h0:∀ j,10≤j→limb (r*WB) j = 0:=fun j hj=>by
      rw [limb_up1,if_neg (by omega)]
      exact limb_high (lt_w9_pow hr 9 rfl) (by omega)
    apply List.ext_getElem
    · simp [KQ]
    · intro i h1 h2
      have hi:i<18:=by simpa [KQ] using h1
      rcases Nat.lt_or_ge i 1 with h|h
      · rw [List.getElem_append_left (by rw [KQ]; exact h)]
        have:i = 0:=by omega
        subst this
        simp [vec,limb_up1]
      · rw [List.getElem_append_right (by rw [KQ]; exact h)]
        rcases Nat.lt_or_ge i 10 with h3|h3
        · rw [List.getElem_append_left (by simp [KQ]; omega)]
          simp only [vec,List.getElem_map,List.getElem_range,List.length_map,List.length_range]
          rw [limb_up1,if_neg (by omega)]
        · rw [List.getElem_append_right (by simp [KQ]; omega)]
          simp only [vec,List.getElem_map,List.getElem_range]
          rw [h0 i h3]
  have hl:=KI r
  rw [e]
  generalize natL r = z at *
  unfold KAa
  rw [hl]
  exact List.append_assoc (vec .u64 1 (fun _=>0)) z (vec .u64 8 (fun _=>0))
theorem two_app {a b:Value} (z:List Value):[a]++([b]++z) = [a,b]++z:=rfl
theorem mtL_build (m n:Nat):natL m++([Value.int .i64 (n:Int)]++([Value.int .u64 ((0:Nat):Int)]++vec .u64 9 (fun _=>0))) = mtL m n 0 0:=by
  have e:vec .u64 9 (fun _=>0) = natL 0:=vec_zeros 9
  rw [e]
  exact congrArg (natL m++·) (two_app (natL 0))
theorem mtI5_lt (m:Nat):mtI m 5<18446744073709551616:=mtN_lt m (mtI m 4)
theorem mtL0_neg (m:Nat):IntKind.u64.wrap (0-((mtI (limb m 0) 5:Nat):Int)) = ((mtL0 m:Nat):Int):=by
  have hx:=mtI5_lt (limb m 0)
  unfold mtL0
  generalize mtI (limb m 0) 5 = x at *
  rw [Int.zero_sub,wrap_u64]
  show _ = (((18446744073709551616-x)%18446744073709551616:Nat):Int)
  omega
theorem two_set {a b v:Value} (z:List Value):([a,b]++z).set 1 v = [a,v]++z:=rfl
theorem mtL_setl (m n less rr y:Nat):(mtL m n less rr).set 10 (.int .u64 (y:Int)) = mtL m n y rr:=by
  unfold mtL
  rw [List.set_append_right _ _ (by rw [KI]; decide),KI]
  exact congrArg (natL m++·) (two_set (natL rr))
theorem mtL_setr (m n less rr y:Nat):KAa (mtL m n less rr) 11 (natL y) = mtL m n less y :=
  splice_mid (A:=natL m++[.int .i64 (n:Int),.int .u64 (less:Int)]) (B:=natL rr) (D:=[]) (by simp [mtL]) (by simp [KI]) (by rw [KI,KI]) (by simp [mtL])
theorem mtR_step (m i:Nat):mtR i%m*WB%m = mtR (i+1)%m:=by
  have e:mtR i*WB = mtR (i+1):=by
    unfold mtR
    rw [show 64*(i+1) = 64*i+64 by omega,Nat.pow_add]
  rw [Nat.mod_mul_mod,e]
theorem mtOk_of {m:Nat} (ho:m%2 = 1) (h3:3≤m) (h9:m<W9):MtOk m (nw m) (mtL0 m):=⟨ho,h3,h9,lt_nw m,nw_w9 h9,mtL0_spec ho⟩
end Go.Proofs.YtnpeokiboiclfaaGreat
set_option linter.unusedVariables false
set_option linter.unusedSimpArgs false
set_option maxRecDepth 20000
namespace Go.Proofs.YtnpeokiboiclfaaGreat
open Go Go.RowKit
theorem c_round (m n ls rr a B T:Nat) (bx bt bb:Nat) (cb:List Value) (tb:TypeId) (fb:Nat×Nat) (hn:n≤9) (ha:a<18446744073709551616) (hB:B<2^(64*n)) (hV:T+a*B<2^(64*(n+2))) (hcb:∀ k,k<9→cb[k]? = some (.int .u64 (limb B k:Int))) (w:World) (hH:∀ x,x∈([.blk bt ⟨true,vec .u64 11 (limb T),279,(0,0)⟩]++[.blk bx ⟨false,mtL m n ls rr,201,(0,0)⟩,.blk bb ⟨false,cb,tb,fb⟩]:List Item)→x.holds w) (hd:([.blk bt ⟨true,vec .u64 11 (limb T),279,(0,0)⟩]++[.blk bx ⟨false,mtL m n ls rr,201,(0,0)⟩,.blk bb ⟨false,cb,tb,fb⟩]:List Item).Pairwise Apart)  : Calls Tryz.prog 186 ([.pointer (some ⟨bx,0,none⟩),.pointer (some ⟨bt,0,none⟩),.int .u64 ((a:Nat):Int),.pointer (some ⟨bb,0,none⟩)]:List Value).toArray w (fun e w'=>∃ (u:Value) (x':Item),(u = .tuple #[]∧x' = .blk bt ⟨true,vec .u64 11 (limb (T+a*B)),279,(0,0)⟩)∧e = .returned u∧Outcome w [.blk bt ⟨true,vec .u64 11 (limb T),279,(0,0)⟩] [x'] w'):=by
  refine KAW [.blk bt ⟨true,vec .u64 11 (limb T),279,(0,0)⟩,.blk bx ⟨false,mtL m n ls rr,201,(0,0)⟩,.blk bb ⟨false,cb,tb,fb⟩] (N:=92) (rs:=[]) Tryz.func186 rfl Tryz.ntmps186 Tryz.results186 (Nb rfl) hH hd rfl rfl ?_
  refine KB (KA ?_);refine oP (KO (v:=.int .u64 ((0:Nat):Int)) rfl) ?_;refine KC (KB (KB (KA (oM ?_))));refine oP (KG rfl) ?_;refine oP (KE (o':=9) u201 rfl rfl rfl sz_3 dc) ?_;refine oD (dL rfl (hv:=KJ u3 rfl (by exact mtL_n _ _ _ _))) ?_;refine oP (Ki (v:=.int .i64 ((0:Nat):Int)) rfl) ?_;refine KC (LCode.block ?_);refine Ke (α:=Nat×Nat×Nat) (fun x=>x.1≤n∧x.2.2<18446744073709551616∧x.2.1+x.2.2*2^(64*x.1) = T+a*(B%2^(64*x.1))) (fun x=>⟨[(0,.pointer (some ⟨bx,0,none⟩)),(1,.pointer (some ⟨bt,0,none⟩)),(2,.int .u64 ((a:Nat):Int)),(3,.pointer (some ⟨bb,0,none⟩)),(8,.int .u64 ((x.2.2:Nat):Int)),(17,.int .i64 ((n:Nat):Int)),(18,.int .i64 ((x.1:Nat):Int))],[.blk bt ⟨true,vec .u64 11 (limb x.2.1),279,(0,0)⟩,.blk bx ⟨false,mtL m n ls rr,201,(0,0)⟩,.blk bb ⟨false,cb,tb,fb⟩]⟩) (fun x=>n-x.1) ((0,T,0)) (⟨Nat.zero_le _,(show (0:Nat)<18446744073709551616 by decide),by simp [Nat.mod_one]⟩) (Ka ⟨rfl,rfl,rfl,rfl,rfl,rfl,rfl,trivial⟩ mS) ?_
  rintro ⟨k,X,c⟩ ⟨hx1,hx2,hx3⟩
  dsimp only at hx1 hx2 hx3 ⊢
  refine KB (KA ?_);refine oP (KF rfl rfl (KAF)) ?_;refine KC (KB ?_)
  first|refine KR rfl (fun h19=>?_) (fun h19=>?_)|refine KS rfl (fun h19=>?_) (fun h19=>?_)
  ·
   have h19:k<n:=h19
   have hk9:k<9:=by omega
   have hlb:=limb_lt B k
   refine KN (KB (LCode.block (KB (KA (oM (oA (KC (KB (KA (oM (oM (oM ?_))))))))))));refine oP (KG rfl) ?_;refine oP (KE (o':=0) u33 rfl rfl rfl sz_31 dc) ?_;refine oP (KP u31 sz_30 rfl rfl om) ?_;refine oD (dL rfl (hv:=KJ u30 rfl (by exact hcb _ hk9))) ?_;refine oS (cF rfl en_123 rfl (fun w hw=>c_Mul64 _ _ om om w) ?_);refine oM ?_;refine oP (Det.extract rfl rfl) ?_;refine oP (Det.extract rfl rfl) ?_;refine oA (oA (KC (KB (KA ?_))));refine oP (KO (v:=.int .u64 ((0:Nat):Int)) rfl) ?_;refine KC (KB (KA (oM (oM ?_))));refine oP (Det.add64 (c:=0) ex_145 rfl rfl rfl om) ?_;refine oM ?_;refine oP (Det.extract rfl rfl) ?_;refine oP (Det.extract rfl rfl) ?_;refine oA (oA (KC (KB (KA (oM (oM ?_))))));refine oP (KF rfl rfl (KAX)) ?_;refine oA (KC (KB ?_));refine rD [14] ?_;refine aM 0 ?_;refine aM 1 ?_;refine aM 2 ?_;refine aM 3 ?_;refine aP 4 rfl (KG rfl) ?_
   refine aP 5 rfl (KP u279 sz_30 rfl rfl om) ?_;refine aD 6 rfl (dL rfl (hv:=KJ u30 rfl (by exact KU _ _ _ om))) ?_;refine aM 7 ?_;refine aP 8 rfl (Det.add64 (c:=0) ex_145 rfl rfl rfl om) ?_;refine aM 9 ?_;refine aP 10 rfl (Det.extract rfl rfl) ?_;refine aP 11 rfl (Det.extract rfl rfl) ?_;refine aP 12 rfl (KG rfl) ?_;refine aP 13 rfl (KP u279 sz_30 rfl rfl om) ?_;refine aL 14 rfl (KZ rfl rfl rfl sz_30 (by repeat (first|exact Sh _|apply St_)) (by first|(simp only [KQ,KI,Kh,Ks]; omega)|(simp; done)|(simp; omega)) (by first|exact KAG _ _ _ _ _|exact KAM _ _ _ _ om|exact KAL _ _ _ _|rfl) (by simp) ?_);refine aA 15 ?_;refine aE ?_;refine KA (oM (oM ?_));refine oP (KF rfl rfl (KAX)) ?_;refine oA (KC (KA ?_));refine oP (KF rfl rfl (Ko (b:=1) om)) ?_;refine oM (KC ?_)
   have hw:=row_word ha (limb_lt B k) (limb_lt X k) hx2
   have hp:=rnd_parts (limb_lt X k) hx2 hw
   have hbd:(a*limb B k+limb X k+c)/18446744073709551616<18446744073709551616:=Nat.div_lt_of_lt_mul hw
   refine ⟨(k+1,setl X k ((a*limb B k+limb X k+c)%18446744073709551616),(a*limb B k+limb X k+c)/18446744073709551616),⟨by omega,hbd,rnd_step hx3 rfl⟩,by dsimp only; omega,KAC (Sub.cells (b:=bt) (cs':=vec .u64 11 (limb (setl X k ((a*limb B k+limb X k+c)%18446744073709551616)))) (by repeat (first|exact Sh _|apply St_)) ?_) (Ka ⟨rfl,rfl,rfl,rfl,congrArg some (vi hp.2),rfl,rfl,trivial⟩ mS)⟩
   rw [hp.1]
   exact vec_setl (Nat.mod_lt _ dc)
  have h19:¬ k<n:=h19
  obtain rfl:k = n:=by omega
  rw [Nat.mod_eq_of_lt hB] at hx3
  refine Kc (KB (KA ?_));refine oP (KO (v:=.int .u64 ((0:Nat):Int)) rfl) ?_;refine KC (KB ?_);refine rD [20] ?_;refine aM 0 ?_;refine aM 1 ?_;refine aP 2 rfl (KG rfl) ?_;refine aP 3 rfl (KE (o':=9) u201 rfl rfl rfl sz_3 dc) ?_;refine aD 4 rfl (dL rfl (hv:=KJ u3 rfl (by exact mtL_n _ _ _ _))) ?_;refine aM 5 ?_;refine aM 6 ?_;refine aP 7 rfl (KG rfl) ?_;refine aP 8 rfl (KE (o':=9) u201 rfl rfl rfl sz_3 dc) ?_;refine aD 9 rfl (dL rfl (hv:=KJ u3 rfl (by exact mtL_n _ _ _ _))) ?_;refine aP 10 rfl (KG rfl) ?_;refine aP 11 rfl (KP u279 sz_30 rfl rfl om) ?_;refine aD 12 rfl (dL rfl (hv:=KJ u30 rfl (by exact KU _ _ _ om))) ?_;refine aM 13 ?_;refine aP 14 rfl (Det.add64 (c:=0) ex_145 rfl rfl rfl om) ?_;refine aM 15 ?_;refine aP 16 rfl (Det.extract rfl rfl) ?_;refine aP 17 rfl (Det.extract rfl rfl) ?_;refine aP 18 rfl (KG rfl) ?_
  refine aP 19 rfl (KP u279 sz_30 rfl rfl om) ?_;refine aL 20 rfl (KZ rfl rfl rfl sz_30 (by repeat (first|exact Sh _|apply St_)) (by first|(simp only [KQ,KI,Kh,Ks]; omega)|(simp; done)|(simp; omega)) (by first|exact KAG _ _ _ _ _|exact KAM _ _ _ _ om|exact KAL _ _ _ _|rfl) (by simp) ?_);refine aA 21 ?_;refine aE ?_;refine LCode.sub (Sub.cells (b:=bt) (cs':=vec .u64 11 (limb (setl X k ((limb X k+c)%18446744073709551616)))) (by repeat (first|exact Sh _|apply St_)) (vec_setl (y:=(limb X k+c)%18446744073709551616) (Nat.mod_lt _ dc))) ?_;refine rD [13] ?_;refine aM 0 ?_;refine aM 1 ?_;refine aP 2 rfl (KG rfl) ?_;refine aP 3 rfl (KE (o':=9) u201 rfl rfl rfl sz_3 dc) ?_;refine aD 4 rfl (dL rfl (hv:=KJ u3 rfl (by exact mtL_n _ _ _ _))) ?_;refine aP 5 rfl (KF rfl rfl (Ko (b:=1) om)) ?_;refine aP 6 rfl (KG rfl) ?_;refine aP 7 rfl (KP u279 sz_30 rfl rfl om) ?_
  refine aD 8 rfl (dL rfl (hv:=KJ u30 rfl (by exact KU _ _ _ om))) ?_;refine aM 9 ?_;refine aP 10 rfl (KF rfl rfl (KAX)) ?_;refine aP 11 rfl (KG rfl) ?_;refine aP 12 rfl (KP u279 sz_30 rfl rfl om) ?_;refine aL 13 rfl (KZ rfl rfl rfl sz_30 (by repeat (first|exact Sh _|apply St_)) (by first|(simp only [KQ,KI,Kh,Ks]; omega)|(simp; done)|(simp; omega)) (by first|exact KAG _ _ _ _ _|exact KAM _ _ _ _ om|exact KAL _ _ _ _|rfl) (by simp) ?_);refine aE ?_;refine ⟨[],.nil,fun act w' hr=>⟨_,_,⟨rfl,rfl⟩,rfl,?_⟩⟩
  have e1:vec .u64 11 (limb (T+a*B)) = vec .u64 11 (fun j=>if j = k+1 then (limb (setl X k ((limb X k+c)%18446744073709551616)) (k+1)+(limb X k+c)/18446744073709551616)%18446744073709551616 else limb (setl X k ((limb X k+c)%18446744073709551616)) j):=Kr fun j _=>by
    rw [← hx3]
    exact (round_fin (hx3 ▸ hV) j).symm
  rw [e1]
  exact hr.out mS rfl
theorem down_at {T j:Nat} {v:Value} (h:(vec .u64 10 (fun j=>limb T (j+1)))[j]? = some v):(vec .u64 11 (limb T))[0+1*1+j]? = some v:=by
  have hj:j<10:=by
    rcases Nat.lt_or_ge j 10 with h'|h'
    · exact h'
    · rw [List.getElem?_eq_none (by rw [KQ]; exact h')] at h; cases h
  rw [KU _ _ _ hj] at h
  rw [show 0+1*1+j = j+1 by omega,KU _ _ _ om]
  exact h
theorem up_at {T n j:Nat} {v:Value} (hn:n≤9) (h:(vec .u64 n (limb T))[j]? = some v):(vec .u64 11 (limb T))[0+j]? = some v:=by
  have hj:j<n:=by
    rcases Nat.lt_or_ge j n with h'|h'
    · exact h'
    · rw [List.getElem?_eq_none (by rw [KQ]; exact h')] at h; cases h
  rw [KU _ _ _ hj] at h
  rw [Nat.zero_add,KU _ _ _ om]
  exact h
theorem cut_end {n D r:Nat} (hn:n≤9) (h:D%2^(64*n) = r):vec .u64 9 (fun j=>if n≤j∧j<9 then 0 else limb D j) = natL r:=by
  rw [← h]
  refine Kr fun j hj=>?_
  rw [limb_cut]
  by_cases h1:j<n
  · rw [if_pos h1,if_neg om]
  · rw [if_neg h1,if_pos om]
theorem c_Raw (m n ls rr:Nat) (hok:MtOk m n ls) (bx a b r:Nat) (ha:a<m) (hb:b<m) (hr:r<m) (he:r*mtR n%m = a*b%m) (w:World) (hX:(Item.blk bx ⟨false,mtL m n ls rr,201,(0,0)⟩).holds w):Calls Tryz.prog 144 ([.pointer (some ⟨bx,0,none⟩),natV a,natV b]:List Value).toArray w (fun e w'=>e = .returned (natV r)∧Below w.heap.size w w'):=by
  have hpos:0<m:=by have:=hok.three; omega
  refine KX (N:=86) (rs:=[.cell 6 33]) [.blk bx ⟨false,mtL m n ls rr,201,(0,0)⟩] Tryz.func144 rfl Tryz.ntmps144 Tryz.results144 (Nb rfl) ⟨hX,trivial⟩ rfl ?_
  refine KB (KA ?_);refine oS (mB (fun b4=>?_));refine oS (mB (fun b5=>?_));refine oS (mk (KL zr_33) (fun b6=>?_));refine KC (KB (KA ?_));refine oS (mk (KL zr_279) (fun b7=>?_));refine KC (KB (KB (KA (oM ?_))));refine oP (KG rfl) ?_;refine oP (KE (o':=9) u201 rfl rfl rfl sz_3 dc) ?_;refine oD (dL rfl (hv:=KJ u3 rfl (by exact mtL_n _ _ _ _))) ?_;refine oP (Ki (v:=.int .i64 ((0:Nat):Int)) rfl) ?_;refine KC (LCode.block ?_);refine Ke (α:=Nat×Nat) (fun x=>x.1≤n∧MtInv m a b x.1 x.2) (fun x=>⟨[(0,.pointer (some ⟨bx,0,none⟩)),(6,.pointer (some ⟨b6,0,none⟩)),(4,.pointer (some ⟨b4,0,none⟩)),(5,.pointer (some ⟨b5,0,none⟩)),(7,.pointer (some ⟨b7,0,none⟩)),(17,.int .i64 ((n:Nat):Int)),(18,.int .i64 ((x.1:Nat):Int))],[.blk bx ⟨false,mtL m n ls rr,201,(0,0)⟩,.blk b7 ⟨true,vec .u64 11 (limb x.2),279,(0,0)⟩,.blk b6 ⟨true,vec .u64 9 (fun _=>0),33,(0,0)⟩,.blk b5 ⟨true,natL b,33,(0,0)⟩,.blk b4 ⟨true,natL a,33,(0,0)⟩]⟩) (fun x=>n-x.1) ((0,0)) (⟨Nat.zero_le _,MtInv.zero hpos⟩) (KAC (Sub.cells (b:=b7) (cs':=vec .u64 11 (limb 0)) (by repeat (first|exact Sh _|apply St_)) (vec_zeros 11)) (Ka ⟨rfl,rfl,rfl,rfl,rfl,rfl,rfl,trivial⟩ mS)) ?_
  rintro ⟨i,T⟩ ⟨hi,hT⟩
  dsimp only at hi hT ⊢
  refine KB (KA ?_);refine oP (KF rfl rfl (KAF)) ?_;refine KC (KB ?_)
  first|refine KR rfl (fun h19=>?_) (fun h19=>?_)|refine KS rfl (fun h19=>?_) (fun h19=>?_)
  ·
   have h19:i<n:=h19
   have hi9:i<9:=by have:=hok.n9; omega
   have hbd:=mt_bound (x:=limb a i) (q:=(limb (T+limb a i*b) 0*ls%18446744073709551616)) hT.1 hb (limb_lt a i) (Nat.mod_lt _ dc)
   have hT2:=mt_room hok.ltn hbd
   have hT1:(T+limb a i*b)<2^(64*(n+2)):=Nat.lt_of_le_of_lt (Nat.le_add_right _ _) hT2
   refine KN (KB (LCode.block (KB (KA (oM (oA (KC (KB (KA (oM (oM ?_)))))))))));refine oP (KE (o':=0) u33 rfl rfl rfl sz_31 dc) ?_;refine oP (KP u31 sz_30 rfl rfl om) ?_;refine oD (dL rfl (hv:=KJ u30 rfl (by exact KY _ hi9))) ?_;refine LOps.step rfl (Km (first:=[]) (caps:=[]) (X:=[.blk b7 ⟨true,vec .u64 11 (limb T),279,(0,0)⟩]) rfl en_186 rfl (Nb rfl) sR wK (fun w hH hd=>c_round m n ls rr (limb a i) b T bx b7 b5 _ _ _ hok.n9 (limb_lt a i) (Nat.lt_trans hb hok.ltn) hT1 (fun k hk=>KY _ hk) w hH hd) ?_)
   rintro _ _ ⟨rfl,rfl⟩
   refine KC (KB ?_);refine rD [] ?_;refine aP 0 rfl (KP (i:=0) u279 sz_30 rfl rfl om) ?_;refine aD 1 rfl (dL rfl (hv:=KJ u30 rfl (by exact KU _ _ _ om))) ?_;refine aM 2 ?_;refine aP 3 rfl (KG rfl) ?_;refine aP 4 rfl (KE (o':=10) u201 rfl rfl rfl sz_30 dc) ?_;refine aD 5 rfl (dL rfl (hv:=KJ u30 rfl (by exact mtL_l _ _ _ _))) ?_;refine aP 6 rfl (KF rfl rfl (br_mul64)) ?_;refine aA 7 ?_;refine aE ?_;refine KB (KA (oM (oM (oM ?_))));refine oP (KG rfl) ?_;refine oP (KE (o':=0) u201 rfl rfl rfl sz_33 dc) ?_;refine LOps.step rfl (Km (first:=[]) (caps:=[]) (X:=[.blk b7 ⟨true,vec .u64 11 (limb (T+limb a i*b)),279,(0,0)⟩]) rfl en_186 rfl (Nb rfl) sR wK (fun w hH hd=>c_round m n ls rr (limb (T+limb a i*b) 0*ls%18446744073709551616) m (T+limb a i*b) bx b7 bx _ _ _ hok.n9 (Nat.mod_lt _ dc) hok.ltn hT2 (fun k hk=>mtL_m _ _ _ _ hk) w hH hd) ?_)
   rintro _ _ ⟨rfl,rfl⟩
   refine KC (KB ?_);refine rD [2] ?_;refine aP 0 rfl (Det.slArr u279 sz_30 rfl) ?_;refine aP 1 rfl (KK (Det.slArrL (k:=1) u279 sz_30 rfl rfl dc) rfl) ?_;refine aL 2 rfl (LStepW.copy (cs:=vec .u64 10 (fun j=>limb ((T+limb a i*b)+(limb (T+limb a i*b) 0*ls%18446744073709551616)*m) (j+1))) (cs':=vec .u64 11 (fun j=>if j<10 then limb ((T+limb a i*b)+(limb (T+limb a i*b) 0*ls%18446744073709551616)*m) (j+1) else limb ((T+limb a i*b)+(limb (T+limb a i*b) 0*ls%18446744073709551616)*m) 10)) rfl rfl u205 sz_30 (by repeat (first|exact Sh _|apply St_)) mM (by rw [KQ]; decide) (fun j v hj=>down_at hj) (by rw [KQ,KQ]; decide) (vec_one _ _ _) (splice_down _) (Nb rfl) ?_);refine aE ?_;refine KA ?_;refine oP (KP (i:=10) u279 sz_30 rfl rfl om) ?_;refine LOps.step rfl (KZ rfl rfl rfl sz_30 (by repeat (first|exact Sh _|apply St_)) (by rw [KQ]; decide) (KAG _ _ _ 10 0) (by simp) ?_)
   refine KC (KA ?_);refine oP (KF rfl rfl (Ko (b:=1) om)) ?_;refine oM (KC ?_)
   exact ⟨(i+1,((T+limb a i*b)+(limb (T+limb a i*b) 0*ls%18446744073709551616)*m)/WB),⟨by dsimp only; omega,hT.step hb hok.less⟩,by dsimp only; omega,KAC (Sub.cells (b:=b7) (cs':=vec .u64 11 (limb (((T+limb a i*b)+(limb (T+limb a i*b) 0*ls%18446744073709551616)*m)/WB))) (by repeat (first|exact Sh _|apply St_)) (Kr fun j hj=>copy_down hok.n9 hT2 j hj)) (Ka ⟨rfl,rfl,rfl,rfl,rfl,rfl,rfl,trivial⟩ mS)⟩
  have h19:¬ i<n:=h19
  obtain rfl:n = i:=by omega
  have hend:=mt_end (hT.done hok.odd (Nat.lt_trans ha hok.ltn) hr he) hr hok.ltn hok.lt9 hok.n9
  refine Kc (KB (KA ?_));refine oS (mk (KL zr_33) (fun b10=>?_));refine KC (KB ?_);refine rD [7] ?_;refine aP 0 rfl (KE (o':=0) u33 rfl rfl rfl sz_31 dc) ?_;refine aP 1 rfl (Det.slArr u31 sz_30 rfl) ?_;refine aM 2 ?_;refine aP 3 rfl (KG rfl) ?_;refine aP 4 rfl (KE (o':=9) u201 rfl rfl rfl sz_3 dc) ?_;refine aO 5 rfl (LStep.det (dL rfl (hv:=KJ u3 rfl (by exact mtL_n _ _ _ _))) (Nb rfl) ?_);refine aP 6 rfl (Det.slArrH u279 sz_30 rfl rfl om (by have:=hok.n9; omega)) ?_;refine aL 7 rfl (LStepW.copy (cs:=vec .u64 n (limb T)) (cs':=natL (T%2^(64*n))) rfl rfl u205 sz_30 (by repeat (first|exact Sh _|apply St_)) mM (by rw [KQ]; exact (Nat.min_eq_left hok.n9).symm) (fun j v hj=>up_at hok.n9 hj) (by rw [KQ,KQ]; have:=hok.n9; omega) (vec_one _ _ _) (splice_up hok.n9) (Nb rfl) ?_);refine aE ?_;refine KB (KB ?_);refine rD [10] ?_
  refine aD 0 rfl dNa ?_;refine aM 1 ?_;refine aP 2 rfl (KG rfl) ?_;refine aP 3 rfl (KE (o':=0) u201 rfl rfl rfl sz_33 dc) ?_;refine aD 4 rfl (dL rfl (hv:=by exact LoadV.many u33 rfl sz_33 (mtL_ms _ _ _ _) (by rw [mtL_length]; decide))) ?_;refine KAR ?_;refine Kp 9 rfl (.inl zr_33) (Nb rfl) rfl rfl rfl ?_;refine LAnyP.step 5 rfl rfl rfl (Nb rfl) (by kernel_rfl) rfl (Kg (first:=[]) rfl en_79 rfl (fun w hw=>c_nat_Sub _ m (Nat.lt_of_lt_of_le (Nat.mod_lt _ (pow64_pos n)) (pow_le_w9 hok.n9)) hok.lt9 w)) ?_
  rintro _ _ ⟨rfl,rfl⟩
  refine pM 6 ?_;refine pP 7 rfl (Det.extract rfl rfl) ?_;refine pP 8 rfl (Det.extract rfl rfl) ?_;refine pE (fun b11=>?_);refine Kw ?_;refine aL 10 rfl (sA rfl rfl sz_33 mO (hl:=mL) (h:=?_));refine aA 11 ?_;refine aE ?_;refine KB ?_
  rcases hend with ⟨h1,h2⟩|⟨h1,h2,h3⟩|⟨h1,h2,h3⟩
  ·
   refine KA (oM ?_);refine oP (KG rfl) ?_;refine oP (KE (o':=9) u201 rfl rfl rfl sz_3 dc) ?_;refine oD (dL rfl (hv:=KJ u3 rfl (by exact mtL_n _ _ _ _))) ?_;refine oP (KP u279 sz_30 rfl rfl (by have:=hok.n9; omega)) ?_;refine oD (dL rfl (hv:=KJ u30 rfl (by exact KU _ _ _ (by have:=hok.n9; omega)))) ?_;refine oP (KF (v:=.bool true) rfl rfl (br_t (br_neq (b:=0)) (h1))) ?_;refine oM ?_;refine oK ?_;refine oK ?_;refine oP (Kj rfl rfl) ?_;refine KC ?_;refine KT rfl ?_;refine KB (KB (KA (oM ?_)));refine oP (KG rfl) ?_;refine oP (KE (o':=9) u201 rfl rfl rfl sz_3 dc) ?_;refine oD (dL rfl (hv:=KJ u3 rfl (by exact mtL_n _ _ _ _))) ?_;refine oA (KC (LCode.block ?_));refine Ke (α:=Nat) (fun x=>n≤x∧x≤9) (fun x=>⟨[(0,.pointer (some ⟨bx,0,none⟩)),(6,.pointer (some ⟨b6,0,none⟩)),(11,.pointer (some ⟨b11,0,none⟩)),(13,.int .i64 ((x:Nat):Int))],[.blk bx ⟨false,mtL m n ls rr,201,(0,0)⟩,.blk b11 ⟨true,vec .u64 9 (fun j=>if n≤j∧j<x then 0 else limb (dif (T%2^(64*n)) m) j),33,(0,0)⟩,.blk b6 ⟨true,vec .u64 9 (fun _=>0),33,(0,0)⟩]⟩) (fun x=>9-x) (n) (⟨Nat.le_refl _,hok.n9⟩) (KAC (Sub.cells (b:=b11) (cs':=vec .u64 9 (fun j=>if n≤j∧j<n then 0 else limb (dif (T%2^(64*n)) m) j)) (by repeat (first|exact Sh _|apply St_)) (Kr fun j hj=>(if_neg om).symm)) (Ka ⟨rfl,rfl,rfl,rfl,trivial⟩ mS)) ?_
   rintro x ⟨hx1,hx2⟩
   refine KB (KB (KA (oM ?_)));refine oP (KF rfl rfl (KAF (b:=9))) ?_;refine KC ?_
   first|refine KR rfl (fun h78=>?_) (fun h78=>?_)|refine KS rfl (fun h78=>?_) (fun h78=>?_)
   ·
    have h78:x<9:=h78
    refine KN (KB (LCode.block (KA (oM ?_))));refine oP (KE (o':=0) u33 rfl rfl rfl sz_31 dc) ?_;refine oP (KP u31 sz_30 rfl rfl om) ?_;refine LOps.step rfl (KZ rfl rfl rfl sz_30 (by repeat (first|exact Sh _|apply St_)) (by first|(simp only [KQ,KI,Kh,Ks]; omega)|(simp; done)|(simp; omega)) (by first|exact KAG _ _ _ _ _|exact KAM _ _ _ _ om|exact KAL _ _ _ _|rfl) (by simp) ?_);refine KC (KA (oM ?_));refine oP (KF rfl rfl (Ko (b:=1) om)) ?_;refine oA (KC ?_)
    exact ⟨x+1,⟨by omega,by omega⟩,by omega,KAC (Sub.cells (b:=b11) (cs':=vec .u64 9 (fun j=>if n≤j∧j<(x+1) then 0 else limb (dif (T%2^(64*n)) m) j)) (by repeat (first|exact Sh _|apply St_)) (Kr fun j hj=>by
      by_cases h1:j = x
      · rw [if_pos h1,if_pos om]
      · rw [if_neg h1]
        by_cases h2:n≤j∧j<x
        · rw [if_pos h2,if_pos om]
        · rw [if_neg h2,if_neg om])) (Ka ⟨rfl,rfl,rfl,rfl,trivial⟩ mS)⟩
   have h78:¬ x<9:=h78
   obtain rfl:x = 9:=by omega
   refine Kc (KB ?_);refine LCode.sub (Sub.cells (b:=b11) (cs':=natL r) (by repeat (first|exact Sh _|apply St_)) (cut_end hok.n9 h2)) ?_;refine KA ?_;refine oD dNa ?_;refine LOps.step rfl (sA rfl rfl sz_33 mO (hl:=mL) (h:=?_));refine KC (KM ?_);refine ⟨[_],.cons ⟨_,_,_,rfl,mM,by exact KD u33 rfl sz_33⟩ .nil,fun a w' hr=>⟨?_,hr.fr.below⟩⟩
   rfl
  ·
   refine KA (oM ?_);refine oP (KG rfl) ?_;refine oP (KE (o':=9) u201 rfl rfl rfl sz_3 dc) ?_;refine oD (dL rfl (hv:=KJ u3 rfl (by exact mtL_n _ _ _ _))) ?_;refine oP (KP u279 sz_30 rfl rfl (by have:=hok.n9; omega)) ?_;refine oD (dL rfl (hv:=KJ u30 rfl (by exact KU _ _ _ (by have:=hok.n9; omega)))) ?_;refine oP (KF (v:=.bool false) rfl rfl (br_f (br_neq (b:=0)) (fun h=>h h1))) ?_;refine oM ?_;refine oGM ?_;refine oGP (KK (KAK rfl) (show _ = Value.bool true by rw [decide_eq_false h2]; rfl)) ?_;refine oP (KV rfl rfl) ?_;refine KC ?_;refine KT rfl ?_;refine KB (KB (KA (oM ?_)));refine oP (KG rfl) ?_;refine oP (KE (o':=9) u201 rfl rfl rfl sz_3 dc) ?_;refine oD (dL rfl (hv:=KJ u3 rfl (by exact mtL_n _ _ _ _))) ?_;refine oA (KC (LCode.block ?_));refine Ke (α:=Nat) (fun x=>n≤x∧x≤9) (fun x=>⟨[(0,.pointer (some ⟨bx,0,none⟩)),(6,.pointer (some ⟨b6,0,none⟩)),(11,.pointer (some ⟨b11,0,none⟩)),(13,.int .i64 ((x:Nat):Int))],[.blk bx ⟨false,mtL m n ls rr,201,(0,0)⟩,.blk b11 ⟨true,vec .u64 9 (fun j=>if n≤j∧j<x then 0 else limb (dif (T%2^(64*n)) m) j),33,(0,0)⟩,.blk b6 ⟨true,vec .u64 9 (fun _=>0),33,(0,0)⟩]⟩) (fun x=>9-x) (n) (⟨Nat.le_refl _,hok.n9⟩) (KAC (Sub.cells (b:=b11) (cs':=vec .u64 9 (fun j=>if n≤j∧j<n then 0 else limb (dif (T%2^(64*n)) m) j)) (by repeat (first|exact Sh _|apply St_)) (Kr fun j hj=>(if_neg om).symm)) (Ka ⟨rfl,rfl,rfl,rfl,trivial⟩ mS)) ?_
   rintro x ⟨hx1,hx2⟩
   refine KB (KB (KA (oM ?_)));refine oP (KF rfl rfl (KAF (b:=9))) ?_;refine KC ?_
   first|refine KR rfl (fun h78=>?_) (fun h78=>?_)|refine KS rfl (fun h78=>?_) (fun h78=>?_)
   ·
    have h78:x<9:=h78
    refine KN (KB (LCode.block (KA (oM ?_))));refine oP (KE (o':=0) u33 rfl rfl rfl sz_31 dc) ?_;refine oP (KP u31 sz_30 rfl rfl om) ?_;refine LOps.step rfl (KZ rfl rfl rfl sz_30 (by repeat (first|exact Sh _|apply St_)) (by first|(simp only [KQ,KI,Kh,Ks]; omega)|(simp; done)|(simp; omega)) (by first|exact KAG _ _ _ _ _|exact KAM _ _ _ _ om|exact KAL _ _ _ _|rfl) (by simp) ?_);refine KC (KA (oM ?_));refine oP (KF rfl rfl (Ko (b:=1) om)) ?_;refine oA (KC ?_)
    exact ⟨x+1,⟨by omega,by omega⟩,by omega,KAC (Sub.cells (b:=b11) (cs':=vec .u64 9 (fun j=>if n≤j∧j<(x+1) then 0 else limb (dif (T%2^(64*n)) m) j)) (by repeat (first|exact Sh _|apply St_)) (Kr fun j hj=>by
      by_cases h1:j = x
      · rw [if_pos h1,if_pos om]
      · rw [if_neg h1]
        by_cases h2:n≤j∧j<x
        · rw [if_pos h2,if_pos om]
        · rw [if_neg h2,if_neg om])) (Ka ⟨rfl,rfl,rfl,rfl,trivial⟩ mS)⟩
   have h78:¬ x<9:=h78
   obtain rfl:x = 9:=by omega
   refine Kc (KB ?_)
   have h2:=h3
   refine LCode.sub (Sub.cells (b:=b11) (cs':=natL r) (by repeat (first|exact Sh _|apply St_)) (cut_end hok.n9 h2)) ?_;refine KA ?_;refine oD dNa ?_;refine LOps.step rfl (sA rfl rfl sz_33 mO (hl:=mL) (h:=?_));refine KC (KM ?_);refine ⟨[_],.cons ⟨_,_,_,rfl,mM,by exact KD u33 rfl sz_33⟩ .nil,fun a w' hr=>⟨?_,hr.fr.below⟩⟩
   rfl
  refine KA (oM ?_);refine oP (KG rfl) ?_;refine oP (KE (o':=9) u201 rfl rfl rfl sz_3 dc) ?_;refine oD (dL rfl (hv:=KJ u3 rfl (by exact mtL_n _ _ _ _))) ?_;refine oP (KP u279 sz_30 rfl rfl (by have:=hok.n9; omega)) ?_;refine oD (dL rfl (hv:=KJ u30 rfl (by exact KU _ _ _ (by have:=hok.n9; omega)))) ?_;refine oP (KF (v:=.bool false) rfl rfl (br_f (br_neq (b:=0)) (fun h=>h h1))) ?_;refine oM ?_;refine oGM ?_;refine oGP (KK (KAK rfl) (show _ = Value.bool false by rw [decide_eq_true h2]; rfl)) ?_;refine oP (KV rfl rfl) ?_;refine KC ?_;refine KH rfl ?_;refine KN (KB ?_)
  rw [h3]
  refine KA ?_;refine oD dNa ?_;refine LOps.step rfl (sA rfl rfl sz_33 mO (hl:=mL) (h:=?_));refine KC (KM ?_);refine ⟨[_],.cons ⟨_,_,_,rfl,mM,by exact KD u33 rfl sz_33⟩ .nil,fun a w' hr=>⟨?_,hr.fr.below⟩⟩
  rfl
theorem c_may (m n ls rr:Nat) (bx bl:Nat) (l:List Nat) (hm:m<W9) (hl:∀ i,i<l.length→l.getD i 0<m) (hln:l.length<100) (w:World) (hX:(Item.blk bx ⟨false,mtL m n ls rr,201,(0,0)⟩).holds w) (hL:(Item.blk bl ⟨false,natsL l,33,(0,0)⟩).holds w):Calls Tryz.prog 143 ([.pointer (some ⟨bx,0,none⟩),.slice (some ⟨bl,0,none⟩) l.length l.length]:List Value).toArray w (fun e w'=>e = .returned (.int .i64 ((0:Nat):Int))∧Below w.heap.size w w'):=by
  refine KX (N:=23) (rs:=[.tmp 4]) [.blk bx ⟨false,mtL m n ls rr,201,(0,0)⟩,.blk bl ⟨false,natsL l,33,(0,0)⟩] Tryz.func143 rfl Tryz.ntmps143 Tryz.results143 (Nb rfl) ⟨hX,hL,trivial⟩ rfl ?_
  refine KB (KA ?_);refine oP (KO (v:=.int .i64 ((0:Nat):Int)) rfl) ?_;refine KC (KB (KB (KA (oM ?_))));refine oP (KAN u88 rfl rfl) ?_;refine KC ?_;refine KH rfl ?_;refine KN (KB (KB (KA (oM ?_))));refine oP (Det.len u278 rfl) ?_;refine oP (Ki (v:=.int .i64 ((0:Nat):Int)) rfl) ?_;refine KC (LCode.block ?_);refine Ke (α:=Nat) (fun x=>x≤l.length) (fun x=>⟨[(0,.pointer (some ⟨bx,0,none⟩)),(9,.slice (some ⟨bl,0,none⟩) l.length l.length),(10,.int .i64 ((l.length:Nat):Int)),(11,.int .i64 ((x:Nat):Int))],[.blk bx ⟨false,mtL m n ls rr,201,(0,0)⟩,.blk bl ⟨false,natsL l,33,(0,0)⟩]⟩) (fun x=>l.length-x) (0) (Nat.zero_le _) (Ka ⟨rfl,rfl,rfl,rfl,trivial⟩ mS) ?_
  intro x hx
  refine KB (KA ?_);refine oP (KF rfl rfl (KAF)) ?_;refine KC (KB ?_)
  first|refine KR rfl (fun h12=>?_) (fun h12=>?_)|refine KS rfl (fun h12=>?_) (fun h12=>?_)
  ·
   have h12:x<l.length:=h12
   have hlx:=hl x h12
   refine KN (KB (LCode.block (KB (KA ?_))));refine oP (Det.indexSK u278 sz_33 rfl rfl h12) ?_;refine oD (dL rfl (hv:=by exact LoadV.many u33 rfl sz_33 (natsL_at l x h12) (by rw [natsL_length]; omega))) ?_;refine oS (mk (KL zr_33) (fun b6=>?_));refine LOps.step rfl (sA rfl rfl sz_33 mO (hl:=mL) (h:=?_));refine KC (KB ?_);refine rD [] ?_;refine aD 0 rfl dNa ?_;refine aM 1 ?_;refine aP 2 rfl (KG rfl) ?_;refine aP 3 rfl (KE (o':=0) u201 rfl rfl rfl sz_33 dc) ?_;refine aD 4 rfl (dL rfl (hv:=by exact LoadV.many u33 rfl sz_33 (mtL_ms _ _ _ _) (by rw [mtL_length]; decide))) ?_;refine aO 5 rfl (cF rfl en_46 rfl (fun w hw=>c_nat_Cmp (l.getD x 0) m (Nat.lt_trans hlx hm) hm w) ?_);refine aP 6 rfl (KF (v:=.bool false) rfl rfl (by rw [show cmpI (l.getD x 0) m = -1 from if_pos hlx]; rfl)) ?_;refine aE ?_
   refine KH rfl ?_;refine KN (KA ?_);refine oP (KF rfl rfl (Ko (b:=1) om)) ?_;refine oM (KC ?_)
   exact ⟨x+1,by omega,by omega,Ka ⟨rfl,rfl,rfl,rfl,trivial⟩ mS⟩
  refine Kc (KB (KA ?_));refine oP (KO (v:=.int .i64 ((0:Nat):Int)) rfl) ?_;refine KC (KM ?_);refine ⟨[_],.cons rfl .nil,fun a w' hr=>⟨?_,hr.fr.below⟩⟩
  rfl
theorem inf_nat:infOf Tryz.prog 33 = some (.agg (vec .u64 9 (fun _=>0):List Value).toArray,9,72):=by kernel_rfl
theorem row_nat1:((Array.range (1*9)).map fun i=>(Value.agg (vec .u64 9 (fun _=>0):List Value).toArray).cells[i%(Value.agg (vec .u64 9 (fun _=>0):List Value).toArray).cells.size]!) = (vec .u64 9 (fun _=>0):List Value).toArray:=by kernel_rfl
theorem row_nat2:((Array.range (2*9)).map fun i=>(Value.agg (vec .u64 9 (fun _=>0):List Value).toArray).cells[i%(Value.agg (vec .u64 9 (fun _=>0):List Value).toArray).cells.size]!) = (vec .u64 9 (fun _=>0)++vec .u64 9 (fun _=>0):List Value).toArray:=by kernel_rfl
theorem fill_nat1 (X:Nat):fillL ((List.range 1).map fun i=>(i*9,9)) (vec .u64 9 (fun _=>0)) [(0,natV X)] = some (natsL [X]):=by
  refine (KAH (A:=[]) (B:=vec .u64 9 (fun _=>0)) (D:=[]) (cs:=natL X) rfl rfl (KI _) (by simp) rfl (by simp [KQ]) rfl).trans ?_
  simp [natsL]
theorem fill_nat2 (X Y:Nat):fillL ((List.range 2).map fun i=>(i*9,9)) (vec .u64 9 (fun _=>0)++vec .u64 9 (fun _=>0)) [(0,natV X),(1,natV Y)] = some (natsL [X,Y]):=by
  refine KAH (A:=[]) (B:=vec .u64 9 (fun _=>0)) (D:=vec .u64 9 (fun _=>0)) (cs:=natL X) rfl rfl (KI _) (by simp only [List.nil_append]) rfl (by simp [KQ]) ?_;refine (KAH (A:=natL X) (B:=vec .u64 9 (fun _=>0)) (D:=[]) (cs:=natL Y) rfl rfl (KI _) (by simp only [List.nil_append,List.append_nil]) (KI _) (by simp [KQ]) rfl).trans ?_
  simp [natsL]
theorem oneN_lt {m a:Nat} (h:a<m) (i:Nat) (hi:i < [a].length):[a].getD i 0<m:=by
  have:i = 0:=by simpa using hi
  subst this; exact h
theorem twoN_lt {m a b:Nat} (h:a<m) (k:b<m) (i:Nat) (hi:i < [a,b].length):[a,b].getD i 0<m:=by
  have h2:i<2:=by simpa using hi
  rcases (show i = 0∨i = 1 by omega) with rfl|rfl
  · exact h
  · exact k
theorem c_mTo (m n ls:Nat) (hok:MtOk m n ls) (bx a:Nat) (ha:a<m) (w:World) (hX:(Item.blk bx ⟨false,mtL m n ls (mtR n*mtR n%m),201,(0,0)⟩).holds w):Calls Tryz.prog 89 ([.pointer (some ⟨bx,0,none⟩),natV a]:List Value).toArray w (fun e w'=>e = .returned (.tuple #[natV (a*mtR n%m),.int .i64 ((0:Nat):Int)])∧Below w.heap.size w w'):=by
  have hpos:0<m:=by have:=hok.three; omega
  refine KX (N:=22) (rs:=[.cell 4 33,.tmp 5]) [.blk bx ⟨false,mtL m n ls (mtR n*mtR n%m),201,(0,0)⟩] Tryz.func89 rfl Tryz.ntmps89 Tryz.results89 (Nb rfl) ⟨hX,trivial⟩ rfl ?_
  refine KB (KA ?_);refine oS (mB (fun b3=>?_));refine oS (mk (KL zr_33) (fun b4=>?_));refine oP (KO (v:=.int .i64 ((0:Nat):Int)) rfl) ?_;refine KC (KB (KB (KA (oM ?_))));refine oD dNa ?_;refine oS (mk (Makes.row u278 inf_nat dc row_nat1 rfl (fill_nat1 a) (fun h=>by cases h)) (fun b9=>?_));refine oS (cF rfl en_143 rfl (fun w hw=>c_may m n ls (mtR n*mtR n%m) bx b9 [a] hok.lt9 (oneN_lt ha) (show 1<100 by decide) w (mC hw) (show (Item.blk b9 ⟨false,natsL [a],33,(0,0)⟩).holds w from hw (.blk b9 ⟨true,natsL [a],33,(0,0)⟩) mM)) ?_);refine oA (KC (KB (KA (oM ?_))));refine oP (KF (v:=.bool false) rfl rfl (br_f (br_neq (b:=0)) dc)) ?_;refine KC ?_;refine KH rfl ?_;refine KN (KB ?_);refine rD [7] ?_;refine aM 0 ?_;refine aD 1 rfl dNa ?_;refine aM 2 ?_;refine aP 3 rfl (KG rfl) ?_;refine aP 4 rfl (KE (o':=11) u201 rfl rfl rfl sz_33 dc) ?_
  refine aD 5 rfl (dL rfl (hv:=by exact LoadV.many u33 rfl sz_33 (mtL_rr _ _ _ _) (by rw [mtL_length]; decide))) ?_;refine aO 6 rfl (cF rfl en_144 rfl (fun w hw=>c_Raw m n ls (mtR n*mtR n%m) hok bx a (mtR n*mtR n%m) (a*mtR n%m) ha (Nat.mod_lt _ hpos) (Nat.mod_lt _ hpos) mt_to w (mC hw)) ?_);refine aL 7 rfl (sA rfl rfl sz_33 mO (hl:=mL) (h:=?_));refine aP 8 rfl (KO (v:=.int .i64 ((0:Nat):Int)) rfl) ?_;refine aE ?_;refine KM ?_;refine ⟨[_,_],.cons ⟨_,_,_,rfl,mM,by exact KD u33 rfl sz_33⟩ (.cons rfl .nil),fun a w' hr=>⟨?_,hr.fr.below⟩⟩
  rfl
theorem c_mtMul (m n ls:Nat) (hok:MtOk m n ls) (bx a b r:Nat) (ha:a<m) (hb:b<m) (hr:r<m) (he:r*mtR n%m = a*b%m) (w:World) (hX:(Item.blk bx ⟨false,mtL m n ls (mtR n*mtR n%m),201,(0,0)⟩).holds w):Calls Tryz.prog 90 ([.pointer (some ⟨bx,0,none⟩),natV a,natV b]:List Value).toArray w (fun e w'=>e = .returned (.tuple #[natV r,.int .i64 ((0:Nat):Int)])∧Below w.heap.size w w'):=by
  have hpos:0<m:=by have:=hok.three; omega
  refine KX (N:=22) (rs:=[.cell 6 33,.tmp 7]) [.blk bx ⟨false,mtL m n ls (mtR n*mtR n%m),201,(0,0)⟩] Tryz.func90 rfl Tryz.ntmps90 Tryz.results90 (Nb rfl) ⟨hX,trivial⟩ rfl ?_
  refine KB (KA ?_);refine oS (mB (fun b4=>?_));refine oS (mB (fun b5=>?_));refine oS (mk (KL zr_33) (fun b6=>?_));refine oP (KO (v:=.int .i64 ((0:Nat):Int)) rfl) ?_;refine KC (KB (KB (KA (oM ?_))));refine oD dNa ?_;refine oD dNa ?_;refine oS (mk (Makes.row u278 inf_nat dc row_nat2 rfl (fill_nat2 a b) (fun h=>by cases h)) (fun b12=>?_));refine oS (cF rfl en_143 rfl (fun w hw=>c_may m n ls (mtR n*mtR n%m) bx b12 [a,b] hok.lt9 (twoN_lt ha hb) (show 2<100 by decide) w (mC hw) (show (Item.blk b12 ⟨false,natsL [a,b],33,(0,0)⟩).holds w from hw (.blk b12 ⟨true,natsL [a,b],33,(0,0)⟩) mM)) ?_);refine oA (KC (KB (KA (oM ?_))));refine oP (KF (v:=.bool false) rfl rfl (br_f (br_neq (b:=0)) dc)) ?_;refine KC ?_;refine KH rfl ?_;refine KN (KB (KA (oM ?_)));refine oD dNa ?_
  refine oD dNa ?_;refine oS (cF rfl en_144 rfl (fun w hw=>c_Raw m n ls (mtR n*mtR n%m) hok bx a b r ha hb hr he w (mC hw)) ?_);refine LOps.step rfl (sA rfl rfl sz_33 mO (hl:=mL) (h:=?_));refine oP (KO (v:=.int .i64 ((0:Nat):Int)) rfl) ?_;refine KC (KM ?_);refine ⟨[_,_],.cons ⟨_,_,_,rfl,mM,by exact KD u33 rfl sz_33⟩ (.cons rfl .nil),fun a w' hr=>⟨?_,hr.fr.below⟩⟩
  rfl
theorem c_mFrom (m n ls:Nat) (hok:MtOk m n ls) (bx a r:Nat) (ha:a<m) (hr:r<m) (he:r*mtR n%m = a) (w:World) (hX:(Item.blk bx ⟨false,mtL m n ls (mtR n*mtR n%m),201,(0,0)⟩).holds w):Calls Tryz.prog 93 ([.pointer (some ⟨bx,0,none⟩),natV a]:List Value).toArray w (fun e w'=>e = .returned (.tuple #[natV r,.int .i64 ((0:Nat):Int)])∧Below w.heap.size w w'):=by
  have hpos:0<m:=by have:=hok.three; omega
  refine KX (N:=19) (rs:=[.cell 4 33,.tmp 5]) [.blk bx ⟨false,mtL m n ls (mtR n*mtR n%m),201,(0,0)⟩] Tryz.func93 rfl Tryz.ntmps93 Tryz.results93 (Nb rfl) ⟨hX,trivial⟩ rfl ?_
  refine KB (KA ?_);refine oS (mB (fun b3=>?_));refine oS (mk (KL zr_33) (fun b4=>?_));refine oP (KO (v:=.int .i64 ((0:Nat):Int)) rfl) ?_;refine KC (KB (KB (KA (oM ?_))));refine oD dNa ?_;refine oS (mk (Makes.row u278 inf_nat dc row_nat1 rfl (fill_nat1 a) (fun h=>by cases h)) (fun b9=>?_));refine oS (cF rfl en_143 rfl (fun w hw=>c_may m n ls (mtR n*mtR n%m) bx b9 [a] hok.lt9 (oneN_lt ha) (show 1<100 by decide) w (mC hw) (show (Item.blk b9 ⟨false,natsL [a],33,(0,0)⟩).holds w from hw (.blk b9 ⟨true,natsL [a],33,(0,0)⟩) mM)) ?_);refine oA (KC (KB (KA (oM ?_))));refine oP (KF (v:=.bool false) rfl rfl (br_f (br_neq (b:=0)) dc)) ?_;refine KC ?_;refine KH rfl ?_;refine KN (KB ?_);refine rD [4] ?_;refine aM 0 ?_;refine aD 1 rfl dNa ?_;refine aO 2 rfl (cF rfl en_80 rfl (fun w hw=>KAU 1 dc w) ?_)
  refine aO 3 rfl (cF rfl en_144 rfl (fun w hw=>c_Raw m n ls (mtR n*mtR n%m) hok bx a 1 r ha (by have:=hok.three; omega) hr (by rw [he,Nat.mul_one,Nat.mod_eq_of_lt ha]) w (mC hw)) ?_);refine aL 4 rfl (sA rfl rfl sz_33 mO (hl:=mL) (h:=?_));refine aP 5 rfl (KO (v:=.int .i64 ((0:Nat):Int)) rfl) ?_;refine aE ?_;refine KM ?_;refine ⟨[_,_],.cons ⟨_,_,_,rfl,mM,by exact KD u33 rfl sz_33⟩ (.cons rfl .nil),fun a w' hr=>⟨?_,hr.fr.below⟩⟩
  rfl
theorem c_mInvR (m n ls:Nat) (hok:MtOk m n ls) (bx a y:Nat) (ha:a<m) (hy:y<m) (he:a*y%m = 1) (w:World) (hX:(Item.blk bx ⟨false,mtL m n ls (mtR n*mtR n%m),201,(0,0)⟩).holds w):Calls Tryz.prog 92 ([.pointer (some ⟨bx,0,none⟩),natV a]:List Value).toArray w (fun e w'=>e = .returned (.tuple #[natV (y*mtR n%m*mtR n%m),.int .i64 ((0:Nat):Int)])∧Below w.heap.size w w'):=by
  have hpos:0<m:=by have:=hok.three; omega
  have hinv:∀ w:World,Calls Tryz.prog 146 ([natV a,natV m]:List Value).toArray w (fun e w'=>e = .returned (.tuple #[natV y,.int .i64 ((0:Nat):Int)])∧Below w.heap.size w w'):=by
    intro w
    have h:=c_Inverse a m om w (Nat.lt_trans ha hok.lt9) hok.lt9
    rw [invM_eq hy he,if_pos ⟨gcd_of_inv he,by have:=hok.three; omega⟩] at h
    exact h
  refine KX (N:=43) (rs:=[.cell 4 33,.tmp 5]) [.blk bx ⟨false,mtL m n ls (mtR n*mtR n%m),201,(0,0)⟩] Tryz.func92 rfl Tryz.ntmps92 Tryz.results92 (Nb rfl) ⟨hX,trivial⟩ rfl ?_
  refine KB (KA ?_);refine oS (mB (fun b3=>?_));refine oS (mk (KL zr_33) (fun b4=>?_));refine oP (KO (v:=.int .i64 ((0:Nat):Int)) rfl) ?_;refine KC (KB (KB (KA (oM ?_))));refine oD dNa ?_;refine oS (mk (Makes.row u278 inf_nat dc row_nat1 rfl (fill_nat1 a) (fun h=>by cases h)) (fun b11=>?_));refine oS (cF rfl en_143 rfl (fun w hw=>c_may m n ls (mtR n*mtR n%m) bx b11 [a] hok.lt9 (oneN_lt ha) (show 1<100 by decide) w (mC hw) (show (Item.blk b11 ⟨false,natsL [a],33,(0,0)⟩).holds w from hw (.blk b11 ⟨true,natsL [a],33,(0,0)⟩) mM)) ?_);refine oA (KC (KB (KA (oM ?_))));refine oP (KF (v:=.bool false) rfl rfl (br_f (br_neq (b:=0)) dc)) ?_;refine KC ?_;refine KH rfl ?_;refine KN (KB ?_);refine rD [10] ?_;refine aD 0 rfl dNa ?_;refine aM 1 ?_;refine aP 2 rfl (KG rfl) ?_;refine aP 3 rfl (KE (o':=0) u201 rfl rfl rfl sz_33 dc) ?_
  refine aD 4 rfl (dL rfl (hv:=by exact LoadV.many u33 rfl sz_33 (mtL_ms _ _ _ _) (by rw [mtL_length]; decide))) ?_;refine KAR ?_;refine Kp 9 rfl (.inl zr_33) (Nb rfl) rfl rfl rfl ?_;refine LAnyP.step 5 rfl rfl rfl (Nb rfl) (by kernel_rfl) rfl (Kg (first:=[]) rfl en_146 rfl (fun w hw=>hinv w)) ?_
  rintro _ _ ⟨rfl,rfl⟩
  refine pM 6 ?_;refine pP 7 rfl (Det.extract rfl rfl) ?_;refine pP 8 rfl (Det.extract rfl rfl) ?_;refine pE (fun b7=>?_);refine Kw ?_;refine aL 10 rfl (sA rfl rfl sz_33 mO (hl:=mL) (h:=?_));refine aA 11 ?_;refine aE ?_;refine KB (KB (KA (oM ?_)));refine oP (KF (v:=.bool false) rfl rfl (br_f (br_neq (b:=0)) dc)) ?_;refine KC ?_;refine KH rfl ?_;refine KN (KB ?_);refine rD [13] ?_;refine aM 0 ?_;refine aM 1 ?_;refine aD 2 rfl dNa ?_;refine aM 3 ?_;refine aP 4 rfl (KG rfl) ?_;refine aP 5 rfl (KE (o':=11) u201 rfl rfl rfl sz_33 dc) ?_;refine aD 6 rfl (dL rfl (hv:=by exact LoadV.many u33 rfl sz_33 (mtL_rr _ _ _ _) (by rw [mtL_length]; decide))) ?_;refine aM 8 ?_;refine aP 9 rfl (KG rfl) ?_;refine aP 10 rfl (KE (o':=11) u201 rfl rfl rfl sz_33 dc) ?_;refine aD 11 rfl (dL rfl (hv:=by exact LoadV.many u33 rfl sz_33 (mtL_rr _ _ _ _) (by rw [mtL_length]; decide))) ?_
  refine aO 7 rfl (cF rfl en_144 rfl (fun w hw=>c_Raw m n ls (mtR n*mtR n%m) hok bx y (mtR n*mtR n%m) (y*mtR n%m) hy (Nat.mod_lt _ hpos) (Nat.mod_lt _ hpos) mt_to w (mC hw)) ?_);refine aO 12 rfl (cF rfl en_144 rfl (fun w hw=>c_Raw m n ls (mtR n*mtR n%m) hok bx (y*mtR n%m) (mtR n*mtR n%m) (y*mtR n%m*mtR n%m) (Nat.mod_lt _ hpos) (Nat.mod_lt _ hpos) (Nat.mod_lt _ hpos) mt_to w (mC hw)) ?_);refine aL 13 rfl (sA rfl rfl sz_33 mO (hl:=mL) (h:=?_));refine aP 14 rfl (KO (v:=.int .i64 ((0:Nat):Int)) rfl) ?_;refine aE ?_;refine KM ?_;refine ⟨[_,_],.cons ⟨_,_,_,rfl,mM,by exact KD u33 rfl sz_33⟩ (.cons rfl .nil),fun a w' hr=>⟨?_,hr.fr.below⟩⟩
  rfl
theorem three9:3<W9:=Nat.lt_of_lt_of_le (by decide:3<18446744073709551616^1) (Nat.pow_le_pow_right dc dc)
theorem w18r {r:Nat} (hr:r<W9):r*WB<2^(64*18):=by
  rw [w18 (i:=18) rfl]
  exact mul_w18 hr (Nat.lt_of_lt_of_le (by decide:18446744073709551616<18446744073709551616^2) (Nat.pow_le_pow_right dc dc))
theorem c_Rest (m W bd:Nat) (hm0:m≠0) (hm:m<W9) (hW:W<2^(64*18)) (w:World) (hbd:(Item.blk bd ⟨false,dvL m,269,(0,0)⟩).holds w):Calls Tryz.prog 134 ([.agg [.pointer (some ⟨bd,0,none⟩)].toArray,wideV W]:List Value).toArray w (fun e w'=>e = .returned (natV (W%m))∧Below w.heap.size w w'):=by
  refine KX (N:=16) (rs:=[.cell 4 33]) [.blk bd ⟨false,dvL m,269,(0,0)⟩] Tryz.func134 rfl Tryz.ntmps134 Tryz.results134 (Nb rfl) ⟨hbd,trivial⟩ rfl ?_
  refine KB (KA ?_);refine oS (mB (fun b2=>?_));refine oS (mB (fun b3=>?_));refine oS (mk (KL zr_33) (fun b4=>?_));refine KC (KB ?_);refine rD [10,11] ?_;refine aP 0 rfl (KE (o':=0) u163 rfl rfl rfl sz_161 dc) ?_;refine aD 1 rfl (dL rfl (hv:=KJ u161 rfl (by first|rfl|exact KU _ _ _ om|exact KY _ om|exact Kb _ om|exact dv_m _ _ _ om))) ?_;refine aP 2 rfl (KE (o':=0) u204 rfl rfl rfl sz_202 dc) ?_;refine aP 3 rfl (Det.slArr u202 sz_30 rfl) ?_;refine KAR ?_;refine Kp 8 rfl (.inl zr_204) (Nb rfl) rfl rfl rfl ?_;refine Kp 9 rfl (.inl zr_33) (Nb rfl) rfl rfl rfl ?_;refine LAnyP.step 4 rfl rfl rfl (Nb rfl) (by kernel_rfl) rfl (Kg (first:=[]) rfl en_140 rfl (fun w hw=>c_divide m W bd b3 18 18 _ true hm0 w (mC hw) (mC hw) hm (Nat.le_refl _) dc hW)) ?_
  rintro _ _ ⟨rfl,rfl⟩
  refine pM 5 ?_;refine pP 6 rfl (Det.extract rfl rfl) ?_;refine pP 7 rfl (Det.extract rfl rfl) ?_;refine pE (fun b6=>?_);refine pE (fun b5=>?_);refine Kw ?_;refine aL 10 rfl (sA rfl rfl sz_204 mO (hl:=mL) (h:=?_));refine aL 11 rfl (sA rfl rfl sz_33 mO (hl:=mL) (h:=?_));refine aE ?_;refine KB (KA ?_);refine oD dNa ?_;refine LOps.step rfl (sA rfl rfl sz_33 mO (hl:=mL) (h:=?_));refine KC (KM ?_);refine ⟨[_],.cons ⟨_,_,_,rfl,mM,by exact KD u33 rfl sz_33⟩ .nil,fun a w' hr=>⟨?_,hr.fr.below⟩⟩
  rfl
theorem c_mtNew (m:Nat) (ho:m%2 = 1) (h3:3≤m) (h9:m<W9) (w:World) (hH:∀ x,x∈([]++[]:List Item)→x.holds w) (hd:([]++[]:List Item).Pairwise Apart)  : Calls Tryz.prog 84 ([natV m]:List Value).toArray w (fun e w'=>∃ (u:Value) (x':Item),(∃ b,u = .tuple #[.pointer (some ⟨b,0,none⟩),.int .i64 ((0:Nat):Int)]∧x' = .blk b ⟨true,mtL m (nw m) (mtL0 m) (mtR (nw m)*mtR (nw m)%m),201,(0,0)⟩)∧e = .returned u∧Outcome w [] [x'] w'):=by
  have hm0:m≠0:=by omega
  have hpos:0<m:=by omega
  have hn9:=nw_w9 h9
  have hbl:blen m≤576:=blen_w9e h9
  refine KAW [] (N:=75) (rs:=[.tmp 2,.tmp 3]) Tryz.func84 rfl Tryz.ntmps84 Tryz.results84 (Nb rfl) hH hd rfl rfl ?_
  refine KB (KA ?_);refine oS (mB (fun b1=>?_));refine oA ?_;refine oP (KO (v:=.int .i64 ((0:Nat):Int)) rfl) ?_;refine KC (KB (KB ?_));refine rD [] ?_;refine aP 0 rfl (KE (o':=0) u33 rfl rfl rfl sz_31 dc) ?_;refine aP 1 rfl (KP (i:=0) u31 sz_30 rfl rfl dc) ?_;refine aD 2 rfl (dL rfl (hv:=KJ u30 rfl (by exact KY _ dc))) ?_;refine aP 3 rfl (KF rfl rfl (br_and64 (b:=1) (limb_lt _ _) dc)) ?_;refine aP 4 rfl (KF (v:=.bool false) rfl rfl (br_f (Kz (b:=0)) (by rw [Nat.and_one_is_mod,limb_zero,Nat.mod_mod_of_dvd _ dc,ho]; decide))) ?_;refine aM 5 ?_;refine aGD 6 rfl dNa ?_;refine aGO 7 rfl (cF rfl en_80 rfl (fun w hw=>KAU 3 dc w) ?_);refine aGO 8 rfl (cF rfl en_46 rfl (fun w hw=>c_nat_Cmp m 3 h9 three9 w) ?_);refine aGP 9 rfl (KF (v:=.bool false) rfl rfl (by unfold cmpI; rw [if_neg om]; split <;> rfl)) ?_
  refine aP 10 rfl (KV rfl rfl) ?_;refine aE ?_;refine KH rfl ?_;refine KN (KB ?_);refine rD [] ?_;refine aD 0 rfl dNa ?_;refine aD 1 rfl dNa ?_;refine aO 2 rfl (cF rfl en_81 rfl (fun w hw=>c_nat_Bits m h9 w) ?_);refine aP 3 rfl (KF rfl rfl (Ko (b:=63) om)) ?_;refine aP 4 rfl (KK (KF rfl rfl (br_quo (b:=64) dc om)) (show _ = .int .i64 ((nw m:Nat):Int) from rfl)) ?_;refine aP 5 rfl (Kd pl_201 zr_201 rfl (fT (r':=(natL m++([.int .i64 ((nw m:Nat):Int)]++([Value.int .u64 ((0:Nat):Int)]++(vec .u64 9 (fun _=>0)))))) (fS (A:=([]:List Value)) (B:=(vec .u64 9 (fun _=>0))) (D:=([Value.int .i64 ((0:Nat):Int)]++([Value.int .u64 ((0:Nat):Int)]++(vec .u64 9 (fun _=>0))))) (cs:=natL m) (fS (A:=(natL m)) (B:=([Value.int .i64 ((0:Nat):Int)])) (D:=([Value.int .u64 ((0:Nat):Int)]++(vec .u64 9 (fun _=>0)))) (cs:=[.int .i64 ((nw m:Nat):Int)]) rfl)))) ?_
  refine aO 6 rfl (mB (fun b26=>?_));refine aA 7 ?_;refine aE ?_;refine KB (KA ?_);refine oP (KE (o':=0) u33 rfl rfl rfl sz_31 dc) ?_;refine oP (KP (i:=0) u31 sz_30 rfl rfl dc) ?_;refine oD (dL rfl (hv:=KJ u30 rfl (by exact KY _ dc))) ?_;refine oA (KC (KB (KB (KA ?_))));refine oP (Ki (v:=.int .i64 ((0:Nat):Int)) rfl) ?_;refine KC (LCode.block ?_);refine Ke (α:=Nat) (fun x=>x≤5) (fun x=>⟨[(1,.pointer (some ⟨b1,0,none⟩)),(4,.pointer (some ⟨b26,0,none⟩)),(5,.int .u64 ((mtI (limb m 0) x:Nat):Int)),(30,.int .i64 ((x:Nat):Int))],[.blk b26 ⟨true,mtL m (nw m) 0 0,201,(0,0)⟩,.blk b1 ⟨true,natL m,33,(0,0)⟩]⟩) (fun x=>5-x) (0) (Nat.zero_le _) (KAC (Sub.cells (b:=b26) (cs':=mtL m (nw m) 0 0) (by repeat (first|exact Sh _|apply St_)) (mtL_build _ _)) (Ka ⟨rfl,rfl,rfl,rfl,trivial⟩ mS)) ?_
  intro x hx
  have hml:=limb_lt m 0
  refine KB (KA ?_);refine oP (KF rfl rfl (KAF (b:=5))) ?_;refine KC (KB ?_)
  first|refine KR rfl (fun h31=>?_) (fun h31=>?_)|refine KS rfl (fun h31=>?_) (fun h31=>?_)
  ·
   have h31:x<5:=h31
   refine KN (KB (LCode.block (KA (oM ?_))));refine oP (KE (o':=0) u33 rfl rfl rfl sz_31 dc) ?_;refine oP (KP (i:=0) u31 sz_30 rfl rfl dc) ?_;refine oD (dL rfl (hv:=KJ u30 rfl (by exact KY _ dc))) ?_;refine oM ?_;refine oP (KF rfl rfl (br_mul64)) ?_;refine oP (KF rfl rfl (br_sub64 (a:=2) om)) ?_;refine oP (KF rfl rfl (br_mul64)) ?_;refine oA (KC (KA ?_));refine oP (KF rfl rfl (Ko (b:=1) om)) ?_;refine oM (KC ?_)
   exact ⟨x+1,by omega,by omega,Ka ⟨rfl,rfl,rfl,rfl,trivial⟩ mS⟩
  have h31:¬ x<5:=h31
  obtain rfl:x = 5:=by omega
  refine Kc (KB (KA (oM (oM ?_))));refine oP (KK (Det.neg rfl) (show _ = .int .u64 ((mtL0 m:Nat):Int) by rw [mtL0_neg])) ?_;refine oP (KG rfl) ?_;refine oP (KE (o':=10) u201 rfl rfl rfl sz_30 dc) ?_;refine LOps.step rfl (KZ rfl rfl rfl sz_30 (by repeat (first|exact Sh _|apply St_)) (by rw [mtL_length]; decide) (mtL_setl _ _ _ _ _) (by simp) ?_);refine KC (KB (KA ?_));refine oD dNa ?_;refine oS (LStep.call (Post:=fun v its=>∃ b,v = .agg [.pointer (some ⟨b,0,none⟩)].toArray∧its = [.blk b ⟨false,dvL m,269,(0,0)⟩]) (first:=[]) rfl en_129 rfl (Nb rfl) (fun w hw=>(c_By m hm0 h9 w).mono fun e w' ⟨b,h1,h2,h3,h4⟩=>⟨_,_,⟨b,rfl,rfl⟩,h1,Brings.blk1 h4 h2 h3⟩) ?_)
  rintro _ _ ⟨bd,rfl,rfl⟩
  refine oS (mk (KL zr_163) (fun b6=>?_));refine LOps.step rfl (sA rfl rfl sz_163 mO (hl:=mL) (h:=?_));refine KC (KB ?_);refine rD [5] ?_;refine aD 0 rfl (dL rfl (hv:=by exact KD u163 rfl sz_163)) ?_;refine KAR ?_;refine Kp 4 rfl (.inl zr_33) (Nb rfl) rfl rfl rfl ?_;refine LAnyP.step 1 rfl rfl rfl (Nb rfl) (by kernel_rfl) rfl (Kg (first:=[]) rfl en_80 rfl (fun w hw=>KAU 1 dc w)) ?_
  rintro _ _ ⟨rfl,rfl⟩
  refine LAnyP.step 2 rfl rfl rfl (Nb rfl) (by kernel_rfl) rfl (Kg (first:=[]) rfl en_80 rfl (fun w hw=>KAU 1 dc w)) ?_
  rintro _ _ ⟨rfl,rfl⟩
  refine LAnyP.step 3 rfl rfl rfl (Nb rfl) (by kernel_rfl) rfl (Kg (first:=[]) rfl en_133 rfl (fun w hw=>c_Mul m 1 1 bd hm0 h9 w (mC hw) one_w9 one_w9)) ?_
  rintro _ _ ⟨rfl,rfl⟩
  refine pE (fun b7=>?_);refine Kw ?_;refine aL 5 rfl (sA rfl rfl sz_33 mO (hl:=mL) (h:=?_));refine aE ?_;refine KB (KB (KA (oM ?_)));refine oP (KG rfl) ?_;refine oP (KE (o':=9) u201 rfl rfl rfl sz_3 dc) ?_;refine oD (dL rfl (hv:=KJ u3 rfl (by exact mtL_n _ _ _ _))) ?_;refine oP (Ki (v:=.int .i64 ((0:Nat):Int)) rfl) ?_;refine KC (LCode.block ?_);refine Ke (α:=Nat) (fun x=>x≤nw m) (fun x=>⟨[(1,.pointer (some ⟨b1,0,none⟩)),(4,.pointer (some ⟨b26,0,none⟩)),(6,.pointer (some ⟨b6,0,none⟩)),(7,.pointer (some ⟨b7,0,none⟩)),(55,.int .i64 ((nw m:Nat):Int)),(56,.int .i64 ((x:Nat):Int))],[.blk b7 ⟨true,natL (mtR x%m),33,(0,0)⟩,.blk b6 ⟨true,[.pointer (some ⟨bd,0,none⟩)],163,(0,0)⟩,.blk bd ⟨false,dvL m,269,(0,0)⟩,.blk b26 ⟨true,mtL m (nw m) (mtL0 m) 0,201,(0,0)⟩,.blk b1 ⟨true,natL m,33,(0,0)⟩]⟩) (fun x=>nw m-x) (0) (Nat.zero_le _) (Ka ⟨rfl,rfl,rfl,rfl,rfl,rfl,trivial⟩ mS) ?_
  intro x hx
  refine KB (KA ?_);refine oP (KF rfl rfl (KAF)) ?_;refine KC (KB ?_)
  first|refine KR rfl (fun h57=>?_) (fun h57=>?_)|refine KS rfl (fun h57=>?_) (fun h57=>?_)
  ·
   have h57:x<nw m:=h57
   refine KN (KB (LCode.block (KB (KA ?_))));refine oS (mk (KL zr_204) (fun b8=>?_));refine KC (KB ?_);refine rD [4] ?_;refine aP 0 rfl (KE (o':=0) u204 rfl rfl rfl sz_202 dc) ?_;refine aP 1 rfl (KK (Det.slArrL (k:=1) u202 sz_30 rfl rfl dc) rfl) ?_;refine aP 2 rfl (KE (o':=0) u33 rfl rfl rfl sz_31 dc) ?_;refine aP 3 rfl (Det.slArr u31 sz_30 rfl) ?_;refine aL 4 rfl (LStepW.copy (cs:=natL (mtR x%m)) (cs':=wideL ((mtR x%m)*WB)) rfl rfl u205 sz_30 (by repeat (first|exact Sh _|apply St_)) mM (by rw [KI]; decide) (fun j v hj=>by rw [Nat.zero_add]; exact hj) (by rw [KI,KQ]; decide) (KAB _) (wide_up (Nat.lt_trans (Nat.mod_lt _ hpos) h9)) (Nb rfl) ?_);refine aE ?_;refine KA ?_;refine oD (dL rfl (hv:=by exact KD u163 rfl sz_163)) ?_;refine oD (dL rfl (hv:=by exact KD u204 rfl sz_204)) ?_;refine oS (cF rfl en_134 rfl (fun w hw=>c_Rest m ((mtR x%m)*WB) bd hm0 h9 (w18r (Nat.lt_trans (Nat.mod_lt _ hpos) h9)) w (mC hw)) ?_)
   refine LOps.step rfl (sA rfl rfl sz_33 mO (hl:=mL) (h:=?_));refine KC (KA ?_);refine oP (KF rfl rfl (Ko (b:=1) om)) ?_;refine oM (KC ?_);refine ⟨x+1,by omega,by omega,?_⟩
   rw [mtR_step] 
   exact Ka ⟨rfl,rfl,rfl,rfl,rfl,rfl,trivial⟩ mS
  have h57:¬ x<nw m:=h57
  obtain rfl:x = nw m:=by omega
  refine Kc (KB (KA (oM ?_)));refine oD (dL rfl (hv:=by exact KD u163 rfl sz_163)) ?_;refine oD dNa ?_;refine oD dNa ?_;refine oS (cF rfl en_133 rfl (fun w hw=>c_Mul m (mtR (nw m)%m) (mtR (nw m)%m) bd hm0 h9 w (mC hw) (Nat.lt_trans (Nat.mod_lt _ hpos) h9) (Nat.lt_trans (Nat.mod_lt _ hpos) h9)) ?_);refine oP (KG rfl) ?_;refine oP (KE (o':=11) u201 rfl rfl rfl sz_33 dc) ?_;refine LOps.step rfl (Ku rfl rfl rfl sz_33 (KI _) (KAB _) (by repeat (first|exact Sh _|apply St_)) (by simp only [mtL_length]; decide) (mtL_setr _ _ _ _ _) (by simp) ?_);refine KC (KB (KA (oM (oA ?_))));refine oP (KO (v:=.int .i64 ((0:Nat):Int)) rfl) ?_;refine KC (KM ?_)
  rw [← Nat.mul_mod]
  refine ⟨[_,_],.cons rfl (.cons rfl .nil),fun a w' hr=>⟨_,_,⟨b26,rfl,rfl⟩,rfl,hr.out mS rfl⟩⟩
end Go.Proofs.YtnpeokiboiclfaaGreat
