/- Part 4 of what the proof leans on: a symbolic execution of the model, walks of the program's functions, and the mathematics. No condition. -/
import Derived.WalkKit
import Derived.Orders
import Derived.Laws.StructEq
import Derived.WalkSpells
import Derived.OrdersHeld
import Derived.KernelRfl
import Derived.Laws.Externs
import Derived.Laws.Bits64
import Derived.Laws.MakeOwn
import Derived.Laws.BytesString
import Derived.Carry
import Derived.WideShapes
import GoSem.Claim
import Derived.Test.YtlmiolnccgjjjaaGreatProg
import Derived.Laws.AppendOwn
import Derived.Test.YtlmiolnccgjjjaaGreatRows
import Derived.ProofKit
import Derived.OpenShut
import Derived.Test.YtlmiolnccgjjjaaGreatE83
set_option linter.unusedVariables false
set_option linter.unusedSimpArgs false
set_option maxRecDepth 20000
namespace Go.Proofs.YtlmiolnccgjjjaaGreat
open Go Go.RowKit
def hexD (b:Nat):Nat:=if 97≤b then b-87 else b-48
def hexOK (l:List UInt8):Bool:=l.all fun b=>(Nat.ble 48 b.toNat && Nat.ble b.toNat 57) || (Nat.ble 97 b.toNat && Nat.ble b.toNat 102)
def hexVal:List UInt8→Nat
  | []=>0
  | b :: l=>hexD b.toNat*16^l.length+hexVal l
theorem hexOK_get {l:List UInt8} (h:hexOK l = true) {x:Nat} (hx:x<l.length):(48≤(l.getD x 0).toNat∧(l.getD x 0).toNat≤57)∨(97≤(l.getD x 0).toNat∧(l.getD x 0).toNat≤102):=by
  have e:l.getD x 0 = l[x]:=by rw [List.getD_eq_getElem?_getD,List.getElem?_eq_getElem hx]; rfl
  have h1:=List.all_eq_true.1 h l[x] (List.getElem_mem hx)
  rw [e]
  simp only [Bool.or_eq_true,Bool.and_eq_true,Nat.ble_eq] at h1
  exact h1
theorem hexD_lt {l:List UInt8} (h:hexOK l = true) {x:Nat} (hx:x<l.length):hexD (l.getD x 0).toNat<2^4:=by
  have:=hexOK_get h hx
  unfold hexD
  split <;> omega
theorem hexVal_lt:∀ {l:List UInt8},hexOK l = true→hexVal l<16^l.length
  | [],_=>by simp [hexVal]
  | b :: l,h=>by
    have h1:=hexD_lt (l:=b :: l) h (x:=0) (by simp)
    have h2:hexOK l = true:=by
      simp only [hexOK,List.all_cons,Bool.and_eq_true] at h
      exact h.2
    have h3:=hexVal_lt h2
    simp only [List.getD_cons_zero] at h1
    have h4:=Nat.mul_le_mul_right (16^l.length) (show hexD b.toNat+1≤16 from h1)
    simp only [hexVal,List.length_cons,Nat.pow_succ]
    rw [Nat.add_mul] at h4
    omega
theorem hexVal_append:∀ l m:List UInt8,hexVal (l++m) = hexVal l*16^m.length+hexVal m
  | [],m=>by simp [hexVal]
  | b :: l,m=>by simp only [List.cons_append,hexVal,hexVal_append l m,List.length_append,Nat.pow_add,Nat.add_mul,Nat.mul_assoc]; omega
theorem hexOK_take {l:List UInt8} (h:hexOK l = true) (x:Nat):hexOK (l.take x) = true:=by
  simp only [hexOK,List.all_eq_true] at h ⊢
  exact fun b hb=>h b (List.mem_of_mem_take hb)
theorem hexOK_drop {l:List UInt8} (h:hexOK l = true) (x:Nat):hexOK (l.drop x) = true:=by
  simp only [hexOK,List.all_eq_true] at h ⊢
  exact fun b hb=>h b (List.mem_of_mem_drop hb)
theorem pow16 (i:Nat):16^i = 2^(4*i):=by rw [Nat.pow_mul]
def hexTop (l:List UInt8) (x:Nat):Nat:=hexVal (l.take x)*16^(l.length-x)
theorem hexTop_zero (l:List UInt8):hexTop l 0 = 0:=by simp [hexTop,hexVal]
theorem hexTop_all (l:List UInt8):hexTop l l.length = hexVal l:=by simp [hexTop]
theorem hexTop_succ {l:List UInt8} {x:Nat} (h:x<l.length):hexTop l (x+1) = hexTop l x+hexD (l.getD x 0).toNat*2^(4*(8*((l.length-1-x)/8)+(l.length-1-x)%8))∧hexTop l x%2^(4*(8*((l.length-1-x)/8)+(l.length-1-x)%8+1)) = 0:=by
  rw [show 8*((l.length-1-x)/8)+(l.length-1-x)%8 = l.length-1-x by omega,← pow16,← pow16,show l.length-1-x+1 = l.length-x by omega]
  unfold hexTop
  refine ⟨?_,Nat.mul_mod_left _ _⟩
  have e:l.getD x 0 = l[x]:=by rw [List.getD_eq_getElem?_getD,List.getElem?_eq_getElem h]; rfl
  rw [List.take_succ_eq_append_getElem h,hexVal_append,e,show l.length-(x+1) = l.length-1-x by omega,Nat.add_mul,Nat.mul_assoc]
  simp only [List.length_singleton,hexVal,List.length_nil,Nat.pow_zero,Nat.mul_one,Nat.add_zero,Nat.pow_one]
  congr 2
  rw [Nat.mul_comm 16,← Nat.pow_succ,show (l.length-1-x).succ = l.length-x by omega]
theorem hexTop_lt {l:List UInt8} (hok:hexOK l = true) (x:Nat) (h:x≤l.length):hexTop l x<2^(32*(l.length/8+1)):=by
  have h1:=hexVal_lt (hexOK_take hok x)
  rw [List.length_take,Nat.min_eq_left h] at h1
  have h2:hexTop l x<16^x*16^(l.length-x):=Nat.mul_lt_mul_of_pos_right h1 (Nat.pow_pos dc)
  rw [← Nat.pow_add,show x+(l.length-x) = l.length by omega,pow16] at h2
  exact Nat.lt_of_lt_of_le h2 (Nat.pow_le_pow_right dc om)
theorem br_sub8 {a b:Nat} (h:b≤a) (ha:a<256):Ku .sub .u8 a .u8 b = some (.int .u8 ((a-b:Nat):Int)):=by
  simp only [Ku,if_true,wrap_u8]
  congr 2
  omega
theorem br_add32 {a b:Nat} (h:a+b<4294967296):Ku .add .u32 a .u32 b = some (.int .u32 ((a+b:Nat):Int)):=by
  simp only [Ku,if_true,wrap_u32]
  congr 2
  omega
theorem c_r_digit (b:Nat) (w:World) (h48:48≤b) (hb:b<256):Calls Tryz.prog 50 ([.int .u8 ((b:Nat):Int)]:List Value).toArray w (fun e w'=>e = .returned (.int .u32 ((hexD b:Nat):Int))∧Below w.heap.size w w'):=by
  refine Ka (N:=12) (rs:=[.tmp 2]) [] Tryz.func50 rfl Tryz.ntmps50 Tryz.results50 (Nb rfl) trivial rfl ?_
  show LCode _ _ _ ⟨_,_⟩ _
  refine KB (KA ?_)
  refine oP (KR (v:=.int .u32 ((0:Nat):Int)) rfl) ?_
  refine KC ?_
  refine KB ?_
  refine KB (KA ?_)
  refine oM ?_
  refine oP (KD rfl rfl (br_geq (b:=97))) ?_
  refine KC ?_
  first|refine KN rfl (fun h4=>?_) (fun h4=>?_)|refine KQ rfl (fun h4=>?_) (fun h4=>?_)
  ·
    have h4:97≤b:=by have:=h4; omega
    refine KB (KA ?_)
    refine oM ?_
    refine oP (KD (v:=.int .u8 ((b-97:Nat):Int)) rfl rfl (br_sub8 (a:=b) (b:=97) h4 hb)) ?_
    refine oP (KAW Tryz.underlying5 Tryz.underlying57 rfl) ?_
    refine oP (KD (v:=.int .u32 (((b-97)%4294967296+10:Nat):Int)) rfl rfl (br_add32 (a:=(b-97)%4294967296) (b:=10) om)) ?_
    refine oA ?_
    refine KC (KI ?_)
    refine ⟨[_],.cons rfl .nil,fun a w' hr=>⟨?_,hr.fr.below⟩⟩
    unfold hexD
    rw [if_pos h4,Nat.mod_eq_of_lt om,show b-97+10 = b-87 by omega]
    rfl
  ·
    have h4:¬ 97≤b:=by have:=h4; omega
    refine KM ?_
    refine KB (KA ?_)
    refine oM ?_
    refine oP (KD (v:=.int .u8 ((b-48:Nat):Int)) rfl rfl (br_sub8 (a:=b) (b:=48) h48 hb)) ?_
    refine oP (KAW Tryz.underlying5 Tryz.underlying57 rfl) ?_
    refine oA ?_
    refine KC (KI ?_)
    refine ⟨[_],.cons rfl .nil,fun a w' hr=>⟨?_,hr.fr.below⟩⟩
    unfold hexD
    rw [if_neg h4,Nat.mod_eq_of_lt om]
    rfl
theorem c_r_Hex (s:ByteArray) (w:World) (hok:hexOK s.data.toList = true) (hs:s.size≤100000):Calls Tryz.prog 30 ([.string s]:List Value).toArray w (fun e w'=>NumR w ([]) (hexVal s.data.toList) (fun v=>v) e w'):=by
  have hbv:hexVal s.data.toList<2^(32*(s.size/8+1)):=by have:=hexTop_lt hok s.data.toList.length (Nat.le_refl _); rwa [hexTop_all] at this
  refine Ka (N:=42) (rs:=[.tmp 2]) [] Tryz.func30 rfl Tryz.ntmps30 Tryz.results30 (Nb rfl) trivial rfl ?_
  show LCode _ _ _ ⟨_,_⟩ _
  refine KB (KA ?_)
  refine oA ?_
  refine KC ?_
  refine KB (KA ?_)
  refine oM ?_
  refine oP (Det.lens Tryz.underlying9 rfl) ?_
  refine oP (KD rfl rfl (br_quo (b:=8) om om)) ?_
  refine oP (KD rfl rfl (Kn (b:=1) om)) ?_
  refine oS (mk (Makes.mkV Tryz.underlying28 inf_57 rfl rfl om om) (fun b10=>?_))
  refine oA ?_
  refine KC ?_
  refine KB ?_
  refine KB (KA ?_)
  refine oP (KR (v:=.int .i64 ((0:Nat):Int)) rfl) ?_
  refine KC ?_
  refine LCode.block ?_
  refine Kh (α:=Nat) (fun x=>x≤s.size) (fun x=>⟨[(0,.string s),(3,.slice (some ⟨b10,0,none⟩) (s.size/8+1) (s.size/8+1)),(4,.int .i64 ((x:Nat):Int))],[.blk b10 ⟨true,vec .u32 (s.size/8+1) (D.limb (hexTop s.data.toList (x))),57,(0,0)⟩]⟩) (fun x=>s.size-x) (0) (Nat.zero_le _) (Kw (Sub.cells (b:=b10) (cs':=vec .u32 (s.size/8+1) (D.limb (hexTop s.data.toList (0)))) (by repeat (first|exact Sh _|apply St_)) (Ks fun j hj=>by rw [hexTop_zero,D.limb_zero])) (Kd ⟨rfl,rfl,rfl,trivial⟩ mS)) ?_
  intro x hx
  refine KB ?_
  refine KB (KA ?_)
  refine oM ?_
  refine oM ?_
  refine oP (Det.lens Tryz.underlying9 rfl) ?_
  refine oP (KD rfl rfl (KAR)) ?_
  refine KC ?_
  first|refine KN rfl (fun h14=>?_) (fun h14=>?_)|refine KQ rfl (fun h14=>?_) (fun h14=>?_)
  ·
    have h14:x<s.size:=h14
    refine KM ?_
    refine KB ?_
    refine LCode.block ?_
    refine KB (KA ?_)
    refine oM ?_
    refine oP (Det.lens Tryz.underlying9 rfl) ?_
    refine oP (KD rfl rfl (KAV (b:=1) om om)) ?_
    refine oM ?_
    refine oP (KD rfl rfl (KAV om om)) ?_
    refine oA ?_
    refine KC ?_
    have hdg:=hexOK_get hok (x:=x) (by show x<s.size; exact h14)
    have hy:=hexD_lt hok (x:=x) (by show x<s.size; exact h14)
    have hsl:s.data.toList.length = s.size:=rfl
    have hbt:=hexTop_succ (l:=s.data.toList) (x:=x) (by rw [hsl]; exact h14)
    rw [hsl] at hbt
    have hlb:=D.limb_below (V:=hexTop s.data.toList (x)) (y:=hexD (s.data.toList.getD x 0).toNat) (s:=4) (w:=8) (i:=(s.size-1-x)/8) (k:=(s.size-1-x)%8) rfl (Nat.mod_lt _ dc) hbt.2 hy
    refine rD [18] ?_
    refine aM 0 ?_
    refine aM 1 ?_
    refine aP 2 rfl (KD rfl rfl (br_quo (b:=8) om om)) ?_
    refine aM 3 ?_
    refine aM 4 ?_
    refine aP 5 rfl (KD rfl rfl (br_quo (b:=8) om om)) ?_
    refine aP 6 rfl (Kc Tryz.underlying28 sz_57 rfl rfl om) ?_
    refine aD 7 rfl (dL rfl (hv:=KJ Tryz.underlying57 rfl (by exact KW _ _ _ (show (s.size-1-x)/8<s.size/8+1 by omega)))) ?_
    refine aM 8 ?_
    refine aM 9 ?_
    refine aP 10 rfl (KG (Ky Tryz.underlying9 rfl rfl om om) (vi (b:=(s.data.toList.getD x 0).toNat) (by rw [Int.toNat_natCast]))) ?_
    refine aM 12 ?_
    refine aP 13 rfl (KD rfl rfl (br_rem (b:=8) om)) ?_
    refine aP 14 rfl (KD rfl rfl (br_mul (b:=4) om)) ?_
    refine aO 11 rfl (cF rfl en_50 rfl (fun w hw=>c_r_digit _ w om om) ?_)
    refine aP 15 rfl (KD rfl rfl (br_shl32)) ?_
    refine aP 16 rfl (KD rfl rfl (br_or32 (D.limb_lt _ _) (Nat.mod_lt _ dc))) ?_
    refine aP 17 rfl (Kc Tryz.underlying28 sz_57 rfl rfl om) ?_
    refine aL 18 rfl (Kb rfl rfl rfl sz_57 (by repeat (first|exact Sh _|apply St_)) (by first|(simp only [KS,KH,KZ,Km]; omega)|(simp; done)|(simp; omega)) (by first|exact KAA _ _ _ _ _|exact KAF _ _ _ _ om|exact KAC _ _ _ _|rfl) (by simp) ?_)
    refine aE ?_
    refine KA ?_
    refine oM ?_
    refine oP (KD rfl rfl (Kn (b:=1) om)) ?_
    refine oA ?_
    refine KC ?_
    refine ⟨x+1,by omega,by omega,Kw (Sub.cells (b:=b10) (cs':=vec .u32 (s.size/8+1) (D.limb (hexTop s.data.toList (x+1)))) (by repeat (first|exact Sh _|apply St_)) (Ks fun j hj=>?_)) (Kd ⟨rfl,rfl,rfl,trivial⟩ mS)⟩
    rw [hbt.1,hlb.2 j,show (s.size-1-x)%8*4 = 4*((s.size-1-x)%8) by omega]
  ·
    have h14:¬ x<s.size:=h14
    refine Ke ?_
    refine KB ?_
    obtain rfl:x = s.size:=by omega
    refine LCode.sub (Sub.cells (b:=b10) (cs':=vec .u32 (s.size/8+1) (D.limb (hexVal s.data.toList))) (by repeat (first|exact Sh _|apply St_)) (by rw [show s.size = s.data.toList.length from rfl,hexTop_all])) ?_
    refine KA ?_
    refine oM ?_
    refine oS (cZ rfl en_51 rfl (fun w hw hs=>(c_n_Shr ⟨false,b10,s.size/8+1⟩ (hexVal s.data.toList) (s.size/8+1) 0 w (numI_blk0 (mC hw) (Nat.le_refl _) hbv) om dc).mono fun e w' h=>KAX (Old.nil _) hs h) ?_)
    rintro _ _ ⟨q41,rfl,rfl,hn41⟩
    refine oA ?_
    refine KC (KI ?_)
    refine ⟨[_],.cons rfl .nil,fun a w' hr=>?_⟩
    rw [Nat.pow_zero,Nat.div_one] at hn41 hr ⊢
    exact hr.numQ mM hn41
def cvI (id:Int):Option Cv:=if 0≤id then cvOf id.toNat else none
theorem cvI_none {id:Int} (h1:¬ id = 1) (h2:¬ id = 2) (h3:¬ id = 3) (h4:¬ id = 4) (h5:¬ id = 5) (h6:¬ id = 6) (h7:¬ id = 7) (h8:¬ id = 8) (h9:¬ id = 9) (h10:¬ id = 10) (h11:¬ id = 11) (h12:¬ id = 12) (h13:¬ id = 13) (h14:¬ id = 14) (h15:¬ id = 15):cvI id = none:=by
  unfold cvI
  split
  · exact cvOf_none om
  · rfl
def hexB (s:ByteArray) (n:Nat):Bool:=hexOK s.data.toList && Nat.beq (hexVal s.data.toList) n && Nat.ble s.data.toList.length 144
def rowB (V:Cv) (s0 s1 s2 s3 s4 s5:ByteArray):Bool:=hexB s0 V.p && (if s1.data.toList = [45] then Nat.beq (V.a+3) V.p else hexB s1 V.a) && hexB s2 V.b && hexB s3 V.n && hexB s4 V.x && hexB s5 V.y
theorem c_r_row (id:Int) (w:World)  : Calls Tryz.prog 29 ([.int .i64 id]:List Value).toArray w (fun e w'=>(∃ V,cvI id = some V∧∃ b s0 s1 s2 s3 s4 s5,e = .returned (.slice (some ⟨b,0,none⟩) 6 6)∧(Item.blk b ⟨false,[.string s0,.string s1,.string s2,.string s3,.string s4,.string s5],9,(0,0)⟩).holds w'∧w.heap.size≤b∧rowB V s0 s1 s2 s3 s4 s5 = true∧Below w.heap.size w w')∨(cvI id = none∧e = .returned (.slice none 0 0)∧Below w.heap.size w w')):=by
  refine Ka (N:=49) (rs:=[.tmp 2]) [] Tryz.func29 rfl Tryz.ntmps29 Tryz.results29 (Nb rfl) trivial rfl ?_
  show LCode _ _ _ ⟨_,_⟩ _
  refine KB (KA ?_)
  refine oA ?_
  refine KC ?_
  refine KB ?_
  refine KB (KA ?_)
  refine oM ?_
  refine KC ?_
  refine LCode.block ?_
  refine KB (KA ?_)
  refine oP (KD (v:=.bool (decide (id = 1))) rfl rfl KAQ) ?_
  refine oA ?_
  refine KC ?_
  first|refine KN rfl (fun hk1=>?_) (fun hk1=>?_)|refine KQ rfl (fun hk1=>?_) (fun hk1=>?_)
  ·
    refine KB (KA ?_)
    refine oS (mk (KAD Tryz.underlying69 inf_9 rfl rfl rfl rfl dc rfl) (fun b6=>?_))
    refine oA ?_
    refine KC (KI ?_)
    refine ⟨[_],.cons rfl .nil,fun a w' hr=>.inl ⟨cv1,by rw [hk1]; rfl,b6,_,_,_,_,_,_,rfl,(show (Item.blk b6 ⟨true,_,_,_⟩).holds w' from hr.hp _ mM),hr.new (B:=⟨true,_,_,_⟩) mM rfl,by kernel_rfl,hr.fr.below⟩⟩
  ·
    refine KB (KA ?_)
    refine oP (KD (v:=.bool (decide (id = 2))) rfl rfl KAQ) ?_
    refine oA ?_
    refine KC ?_
    first|refine KN rfl (fun hk2=>?_) (fun hk2=>?_)|refine KQ rfl (fun hk2=>?_) (fun hk2=>?_)
    ·
      refine KB (KA ?_)
      refine oS (mk (KAD Tryz.underlying69 inf_9 rfl rfl rfl rfl dc rfl) (fun b9=>?_))
      refine oA ?_
      refine KC (KI ?_)
      refine ⟨[_],.cons rfl .nil,fun a w' hr=>.inl ⟨cv2,by rw [hk2]; rfl,b9,_,_,_,_,_,_,rfl,(show (Item.blk b9 ⟨true,_,_,_⟩).holds w' from hr.hp _ mM),hr.new (B:=⟨true,_,_,_⟩) mM rfl,by kernel_rfl,hr.fr.below⟩⟩
    ·
      refine KB (KA ?_)
      refine oP (KD (v:=.bool (decide (id = 3))) rfl rfl KAQ) ?_
      refine oA ?_
      refine KC ?_
      first|refine KN rfl (fun hk3=>?_) (fun hk3=>?_)|refine KQ rfl (fun hk3=>?_) (fun hk3=>?_)
      ·
        refine KB (KA ?_)
        refine oS (mk (KAD Tryz.underlying69 inf_9 rfl rfl rfl rfl dc rfl) (fun b12=>?_))
        refine oA ?_
        refine KC (KI ?_)
        refine ⟨[_],.cons rfl .nil,fun a w' hr=>.inl ⟨cv3,by rw [hk3]; rfl,b12,_,_,_,_,_,_,rfl,(show (Item.blk b12 ⟨true,_,_,_⟩).holds w' from hr.hp _ mM),hr.new (B:=⟨true,_,_,_⟩) mM rfl,by kernel_rfl,hr.fr.below⟩⟩
      ·
        refine KB (KA ?_)
        refine oP (KD (v:=.bool (decide (id = 4))) rfl rfl KAQ) ?_
        refine oA ?_
        refine KC ?_
        first|refine KN rfl (fun hk4=>?_) (fun hk4=>?_)|refine KQ rfl (fun hk4=>?_) (fun hk4=>?_)
        ·
          refine KB (KA ?_)
          refine oS (mk (KAD Tryz.underlying69 inf_9 rfl rfl rfl rfl dc rfl) (fun b15=>?_))
          refine oA ?_
          refine KC (KI ?_)
          refine ⟨[_],.cons rfl .nil,fun a w' hr=>.inl ⟨cv4,by rw [hk4]; rfl,b15,_,_,_,_,_,_,rfl,(show (Item.blk b15 ⟨true,_,_,_⟩).holds w' from hr.hp _ mM),hr.new (B:=⟨true,_,_,_⟩) mM rfl,by kernel_rfl,hr.fr.below⟩⟩
        ·
          refine KB (KA ?_)
          refine oP (KD (v:=.bool (decide (id = 5))) rfl rfl KAQ) ?_
          refine oA ?_
          refine KC ?_
          first|refine KN rfl (fun hk5=>?_) (fun hk5=>?_)|refine KQ rfl (fun hk5=>?_) (fun hk5=>?_)
          ·
            refine KB (KA ?_)
            refine oS (mk (KAD Tryz.underlying69 inf_9 rfl rfl rfl rfl dc rfl) (fun b18=>?_))
            refine oA ?_
            refine KC (KI ?_)
            refine ⟨[_],.cons rfl .nil,fun a w' hr=>.inl ⟨cv5,by rw [hk5]; rfl,b18,_,_,_,_,_,_,rfl,(show (Item.blk b18 ⟨true,_,_,_⟩).holds w' from hr.hp _ mM),hr.new (B:=⟨true,_,_,_⟩) mM rfl,by kernel_rfl,hr.fr.below⟩⟩
          ·
            refine KB (KA ?_)
            refine oP (KD (v:=.bool (decide (id = 6))) rfl rfl KAQ) ?_
            refine oA ?_
            refine KC ?_
            first|refine KN rfl (fun hk6=>?_) (fun hk6=>?_)|refine KQ rfl (fun hk6=>?_) (fun hk6=>?_)
            ·
              refine KB (KA ?_)
              refine oS (mk (KAD Tryz.underlying69 inf_9 rfl rfl rfl rfl dc rfl) (fun b21=>?_))
              refine oA ?_
              refine KC (KI ?_)
              refine ⟨[_],.cons rfl .nil,fun a w' hr=>.inl ⟨cv6,by rw [hk6]; rfl,b21,_,_,_,_,_,_,rfl,(show (Item.blk b21 ⟨true,_,_,_⟩).holds w' from hr.hp _ mM),hr.new (B:=⟨true,_,_,_⟩) mM rfl,by kernel_rfl,hr.fr.below⟩⟩
            ·
              refine KB (KA ?_)
              refine oP (KD (v:=.bool (decide (id = 7))) rfl rfl KAQ) ?_
              refine oA ?_
              refine KC ?_
              first|refine KN rfl (fun hk7=>?_) (fun hk7=>?_)|refine KQ rfl (fun hk7=>?_) (fun hk7=>?_)
              ·
                refine KB (KA ?_)
                refine oS (mk (KAD Tryz.underlying69 inf_9 rfl rfl rfl rfl dc rfl) (fun b24=>?_))
                refine oA ?_
                refine KC (KI ?_)
                refine ⟨[_],.cons rfl .nil,fun a w' hr=>.inl ⟨cv7,by rw [hk7]; rfl,b24,_,_,_,_,_,_,rfl,(show (Item.blk b24 ⟨true,_,_,_⟩).holds w' from hr.hp _ mM),hr.new (B:=⟨true,_,_,_⟩) mM rfl,by kernel_rfl,hr.fr.below⟩⟩
              ·
                refine KB (KA ?_)
                refine oP (KD (v:=.bool (decide (id = 8))) rfl rfl KAQ) ?_
                refine oA ?_
                refine KC ?_
                first|refine KN rfl (fun hk8=>?_) (fun hk8=>?_)|refine KQ rfl (fun hk8=>?_) (fun hk8=>?_)
                ·
                  refine KB (KA ?_)
                  refine oS (mk (KAD Tryz.underlying69 inf_9 rfl rfl rfl rfl dc rfl) (fun b27=>?_))
                  refine oA ?_
                  refine KC (KI ?_)
                  refine ⟨[_],.cons rfl .nil,fun a w' hr=>.inl ⟨cv8,by rw [hk8]; rfl,b27,_,_,_,_,_,_,rfl,(show (Item.blk b27 ⟨true,_,_,_⟩).holds w' from hr.hp _ mM),hr.new (B:=⟨true,_,_,_⟩) mM rfl,by kernel_rfl,hr.fr.below⟩⟩
                ·
                  refine KB (KA ?_)
                  refine oP (KD (v:=.bool (decide (id = 9))) rfl rfl KAQ) ?_
                  refine oA ?_
                  refine KC ?_
                  first|refine KN rfl (fun hk9=>?_) (fun hk9=>?_)|refine KQ rfl (fun hk9=>?_) (fun hk9=>?_)
                  ·
                    refine KB (KA ?_)
                    refine oS (mk (KAD Tryz.underlying69 inf_9 rfl rfl rfl rfl dc rfl) (fun b30=>?_))
                    refine oA ?_
                    refine KC (KI ?_)
                    refine ⟨[_],.cons rfl .nil,fun a w' hr=>.inl ⟨cv9,by rw [hk9]; rfl,b30,_,_,_,_,_,_,rfl,(show (Item.blk b30 ⟨true,_,_,_⟩).holds w' from hr.hp _ mM),hr.new (B:=⟨true,_,_,_⟩) mM rfl,by kernel_rfl,hr.fr.below⟩⟩
                  ·
                    refine KB (KA ?_)
                    refine oP (KD (v:=.bool (decide (id = 10))) rfl rfl KAQ) ?_
                    refine oA ?_
                    refine KC ?_
                    first|refine KN rfl (fun hk10=>?_) (fun hk10=>?_)|refine KQ rfl (fun hk10=>?_) (fun hk10=>?_)
                    ·
                      refine KB (KA ?_)
                      refine oS (mk (KAD Tryz.underlying69 inf_9 rfl rfl rfl rfl dc rfl) (fun b33=>?_))
                      refine oA ?_
                      refine KC (KI ?_)
                      refine ⟨[_],.cons rfl .nil,fun a w' hr=>.inl ⟨cv10,by rw [hk10]; rfl,b33,_,_,_,_,_,_,rfl,(show (Item.blk b33 ⟨true,_,_,_⟩).holds w' from hr.hp _ mM),hr.new (B:=⟨true,_,_,_⟩) mM rfl,by kernel_rfl,hr.fr.below⟩⟩
                    ·
                      refine KB (KA ?_)
                      refine oP (KD (v:=.bool (decide (id = 11))) rfl rfl KAQ) ?_
                      refine oA ?_
                      refine KC ?_
                      first|refine KN rfl (fun hk11=>?_) (fun hk11=>?_)|refine KQ rfl (fun hk11=>?_) (fun hk11=>?_)
                      ·
                        refine KB (KA ?_)
                        refine oS (mk (KAD Tryz.underlying69 inf_9 rfl rfl rfl rfl dc rfl) (fun b36=>?_))
                        refine oA ?_
                        refine KC (KI ?_)
                        refine ⟨[_],.cons rfl .nil,fun a w' hr=>.inl ⟨cv11,by rw [hk11]; rfl,b36,_,_,_,_,_,_,rfl,(show (Item.blk b36 ⟨true,_,_,_⟩).holds w' from hr.hp _ mM),hr.new (B:=⟨true,_,_,_⟩) mM rfl,by kernel_rfl,hr.fr.below⟩⟩
                      ·
                        refine KB (KA ?_)
                        refine oP (KD (v:=.bool (decide (id = 12))) rfl rfl KAQ) ?_
                        refine oA ?_
                        refine KC ?_
                        first|refine KN rfl (fun hk12=>?_) (fun hk12=>?_)|refine KQ rfl (fun hk12=>?_) (fun hk12=>?_)
                        ·
                          refine KB (KA ?_)
                          refine oS (mk (KAD Tryz.underlying69 inf_9 rfl rfl rfl rfl dc rfl) (fun b39=>?_))
                          refine oA ?_
                          refine KC (KI ?_)
                          refine ⟨[_],.cons rfl .nil,fun a w' hr=>.inl ⟨cv12,by rw [hk12]; rfl,b39,_,_,_,_,_,_,rfl,(show (Item.blk b39 ⟨true,_,_,_⟩).holds w' from hr.hp _ mM),hr.new (B:=⟨true,_,_,_⟩) mM rfl,by kernel_rfl,hr.fr.below⟩⟩
                        ·
                          refine KB (KA ?_)
                          refine oP (KD (v:=.bool (decide (id = 13))) rfl rfl KAQ) ?_
                          refine oA ?_
                          refine KC ?_
                          first|refine KN rfl (fun hk13=>?_) (fun hk13=>?_)|refine KQ rfl (fun hk13=>?_) (fun hk13=>?_)
                          ·
                            refine KB (KA ?_)
                            refine oS (mk (KAD Tryz.underlying69 inf_9 rfl rfl rfl rfl dc rfl) (fun b42=>?_))
                            refine oA ?_
                            refine KC (KI ?_)
                            refine ⟨[_],.cons rfl .nil,fun a w' hr=>.inl ⟨cv13,by rw [hk13]; rfl,b42,_,_,_,_,_,_,rfl,(show (Item.blk b42 ⟨true,_,_,_⟩).holds w' from hr.hp _ mM),hr.new (B:=⟨true,_,_,_⟩) mM rfl,by kernel_rfl,hr.fr.below⟩⟩
                          ·
                            refine KB (KA ?_)
                            refine oP (KD (v:=.bool (decide (id = 14))) rfl rfl KAQ) ?_
                            refine oA ?_
                            refine KC ?_
                            first|refine KN rfl (fun hk14=>?_) (fun hk14=>?_)|refine KQ rfl (fun hk14=>?_) (fun hk14=>?_)
                            ·
                              refine KB (KA ?_)
                              refine oS (mk (KAD Tryz.underlying69 inf_9 rfl rfl rfl rfl dc rfl) (fun b45=>?_))
                              refine oA ?_
                              refine KC (KI ?_)
                              refine ⟨[_],.cons rfl .nil,fun a w' hr=>.inl ⟨cv14,by rw [hk14]; rfl,b45,_,_,_,_,_,_,rfl,(show (Item.blk b45 ⟨true,_,_,_⟩).holds w' from hr.hp _ mM),hr.new (B:=⟨true,_,_,_⟩) mM rfl,by kernel_rfl,hr.fr.below⟩⟩
                            ·
                              refine KB (KA ?_)
                              refine oP (KD (v:=.bool (decide (id = 15))) rfl rfl KAQ) ?_
                              refine oA ?_
                              refine KC ?_
                              first|refine KN rfl (fun hk15=>?_) (fun hk15=>?_)|refine KQ rfl (fun hk15=>?_) (fun hk15=>?_)
                              ·
                                refine KB (KA ?_)
                                refine oS (mk (KAD Tryz.underlying69 inf_9 rfl rfl rfl rfl dc rfl) (fun b48=>?_))
                                refine oA ?_
                                refine KC (KI ?_)
                                refine ⟨[_],.cons rfl .nil,fun a w' hr=>.inl ⟨cv15,by rw [hk15]; rfl,b48,_,_,_,_,_,_,rfl,(show (Item.blk b48 ⟨true,_,_,_⟩).holds w' from hr.hp _ mM),hr.new (B:=⟨true,_,_,_⟩) mM rfl,by kernel_rfl,hr.fr.below⟩⟩
                              ·
                                refine KM ?_
                                refine KB (KA ?_)
                                refine oA ?_
                                refine KC (KI ?_)
                                refine ⟨[_],.cons rfl .nil,fun a w' hr=>.inr ⟨cvI_none hk1 hk2 hk3 hk4 hk5 hk6 hk7 hk8 hk9 hk10 hk11 hk12 hk13 hk14 hk15,rfl,hr.fr.below⟩⟩
end Go.Proofs.YtlmiolnccgjjjaaGreat
set_option linter.unusedVariables false
set_option linter.unusedSimpArgs false
set_option maxRecDepth 20000
namespace Go.Proofs.YtlmiolnccgjjjaaGreat
open Go Go.RowKit
structure CQ where
  p:NV
  a:NV
  b:NV
  n:NV
  x:NV
  y:NV
def crvL (Q:CQ) (V:Cv):List Value:=[.int .i64 ((V.id:Nat):Int),numV Q.p V.p,numV Q.a V.a,numV Q.b V.b,numV Q.n V.n,numV Q.x V.x,numV Q.y V.y]
def crvI (Q:CQ) (V:Cv):Item:=grpI [(Q.p,V.p),(Q.a,V.a),(Q.b,V.b),(Q.n,V.n),(Q.x,V.x),(Q.y,V.y)]
section
variable {Q:CQ} {V:Cv} {w:World} (h:(crvI Q V).holds w)
include h
theorem crvI_p:(numT Q.p V.p).holds w:=grp_of h (.head _)
theorem crvI_a:(numT Q.a V.a).holds w:=grp_of h (.tail _ (.head _))
theorem crvI_b:(numT Q.b V.b).holds w:=grp_of h (.tail _ (.tail _ (.head _)))
theorem crvI_n:(numT Q.n V.n).holds w:=grp_of h (.tail _ (.tail _ (.tail _ (.head _))))
theorem crvI_x:(numT Q.x V.x).holds w:=grp_of h (.tail _ (.tail _ (.tail _ (.tail _ (.head _)))))
theorem crvI_y:(numT Q.y V.y).holds w:=grp_of h (.tail _ (.tail _ (.tail _ (.tail _ (.tail _ (.head _))))))
end
theorem crvI_mk {Q:CQ} {V:Cv} {w:World} (h1:(numT Q.p V.p).holds w) (h2:(numT Q.a V.a).holds w) (h3:(numT Q.b V.b).holds w) (h4:(numT Q.n V.n).holds w) (h5:(numT Q.x V.x).holds w) (h6:(numT Q.y V.y).holds w):(crvI Q V).holds w:=by
  refine grp_mk fun q A hm=>?_
  simp only [List.mem_cons,Prod.mk.injEq,List.not_mem_nil,or_false] at hm
  rcases hm with ⟨rfl,rfl⟩|⟨rfl,rfl⟩|⟨rfl,rfl⟩|⟨rfl,rfl⟩|⟨rfl,rfl⟩|⟨rfl,rfl⟩ <;> assumption
theorem crvI_fp {Q:CQ} {V:Cv} {lo:Nat} (h1:NFr lo [] Q.p (D.nw V.p)) (h2:NFr lo [] Q.a (D.nw V.a)) (h3:NFr lo [] Q.b (D.nw V.b)) (h4:NFr lo [] Q.n (D.nw V.n)) (h5:NFr lo [] Q.x (D.nw V.x)) (h6:NFr lo [] Q.y (D.nw V.y)):∀ k,k∈(crvI Q V).fp→lo≤k:=by
  intro k hk
  obtain ⟨e,he,hk⟩:=List.mem_flatMap.1 hk
  have key:∀ {q:NV} {n:Nat},NFr lo [] q n→k∈fpz q n→lo≤k:=fun hn hk=>(hn k hk).elim id (fun h=>by cases h)
  simp only [List.mem_cons,List.not_mem_nil,or_false] at he
  rcases he with rfl|rfl|rfl|rfl|rfl|rfl
  · exact key h1 hk
  · exact key h2 hk
  · exact key h3 hk
  · exact key h4 hk
  · exact key h5 hk
  · exact key h6 hk
theorem hexB_spec {s:ByteArray} {n:Nat} (h:hexB s n = true):hexOK s.data.toList = true∧hexVal s.data.toList = n∧s.size≤144:=by
  simp only [hexB,Bool.and_eq_true] at h
  exact ⟨h.1.1,Nat.eq_of_beq_eq_true h.1.2,Nb h.2⟩
theorem rowB_spec {V:Cv} {s0 s1 s2 s3 s4 s5:ByteArray} (h:rowB V s0 s1 s2 s3 s4 s5 = true):hexB s0 V.p = true∧((s1.data.toList = [45]∧V.a+3 = V.p)∨(s1.data.toList≠[45]∧hexB s1 V.a = true))∧hexB s2 V.b = true∧hexB s3 V.n = true∧hexB s4 V.x = true∧hexB s5 V.y = true:=by
  simp only [rowB,Bool.and_eq_true] at h
  obtain ⟨⟨⟨⟨⟨h0,h1⟩,h2⟩,h3⟩,h4⟩,h5⟩:=h
  refine ⟨h0,?_,h2,h3,h4,h5⟩
  split at h1
  · exact .inl ⟨by assumption,Nat.eq_of_beq_eq_true h1⟩
  · exact .inr ⟨by assumption,h1⟩
theorem Cv.Ok.bounds {V:Cv} (h:V.Ok):5≤V.p∧V.p<P521∧V.a<V.p∧V.b<V.p∧V.x<V.p∧V.y<V.p∧V.n<P521∧V.p%2 = 1∧V.n%2 = 1∧1≤V.b∧100≤V.n:=by
  have h:=h.cs
  simp only [Bool.and_eq_true] at h
  obtain ⟨⟨⟨⟨⟨⟨⟨⟨⟨⟨⟨⟨⟨h1,h2⟩,h3⟩,h4⟩,h5⟩,h6⟩,h7⟩,h8⟩,h9⟩,h10⟩,h11⟩,h12⟩,h13⟩,h14⟩:=h
  exact ⟨Nb h1,Nb h2,Nb h3,Nb h4,Nb h5,Nb h6,Nb h9,Nat.eq_of_beq_eq_true h10,Nat.eq_of_beq_eq_true h11,Nb h12,Nb h13⟩
theorem nw_521 {A:Nat} (h:A<P521):D.nw A≤17:=by
  obtain ⟨j,hj⟩:∃ j:Nat,j = 65:=⟨65,rfl⟩
  obtain ⟨k,hk⟩:∃ k:Nat,k = 17:=⟨17,rfl⟩
  rw [← p521 hj] at h
  rw [← hk]
  exact D.nw_le (Nat.lt_of_lt_of_le h (Nat.pow_le_pow_right dc om))
theorem KAJ {A:Nat} (h:A<P521):A<W9:=by
  obtain ⟨j,hj⟩:∃ j:Nat,j = 65:=⟨65,rfl⟩
  obtain ⟨k,hk⟩:∃ k:Nat,k = 9:=⟨9,rfl⟩
  rw [← p521 hj] at h
  rw [← w9 hk]
  exact Nat.lt_of_lt_of_le h (Nat.pow_le_pow_right dc om)
structure Cv.Sz (V:Cv):Prop where
  p:D.nw V.p≤17
  a:D.nw V.a≤17
  b:D.nw V.b≤17
  n:D.nw V.n≤17
  x:D.nw V.x≤17
  y:D.nw V.y≤17
theorem Cv.Ok.sz {V:Cv} (h:V.Ok):V.Sz:=by
  obtain ⟨h1,h2,h3,h4,h5,h6,h7,_⟩:=h.bounds
  exact ⟨nw_521 h2,nw_521 (Nat.lt_trans h3 h2),nw_521 (Nat.lt_trans h4 h2),nw_521 h7,nw_521 (Nat.lt_trans h5 h2),nw_521 (Nat.lt_trans h6 h2)⟩
theorem cvI_ok {id:Int} {V:Cv} (h:cvI id = some V):V.Ok∧((V.id:Nat):Int) = id:=by
  unfold cvI at h
  split at h
  · obtain ⟨h1,h2⟩:=cvOf_ok h
    exact ⟨h1,by omega⟩
  · cases h
theorem num1_blk {w:World} {b c k:Nat} {wr:Bool} {ty:TypeId} {fz:Nat×Nat} (h:(Item.blk b ⟨wr,[.int .u32 ((k:Nat):Int)],ty,fz⟩).holds w) (hk:k<4294967296) (h0:D.nw k = 1):(numT ⟨false,b,c⟩ k).holds w:=by
  refine numT_blk (n:=1) (wr:=wr) (ty:=ty) (fz:=fz) (?_) (by rw [Nat.mul_one]; exact hk)
  have e:vec .u32 1 (D.limb k) = [.int .u32 ((k:Nat):Int)]:=by
    have:D.limb k 0 = k:=by unfold D.limb; rw [Nat.mul_zero,Nat.pow_zero,Nat.div_one,Nat.mod_eq_of_lt hk]
    simp [vec,this]
  rw [e]; exact h
theorem c_r_row_some (id:Int) (V:Cv) (w:World) (h:cvI id = some V):Calls Tryz.prog 29 ([.int .i64 id]:List Value).toArray w (fun e w'=>∃ b s0 s1 s2 s3 s4 s5,e = .returned (.slice (some ⟨b,0,none⟩) 6 6)∧(Item.blk b ⟨false,[.string s0,.string s1,.string s2,.string s3,.string s4,.string s5],9,(0,0)⟩).holds w'∧w.heap.size≤b∧rowB V s0 s1 s2 s3 s4 s5 = true∧Below w.heap.size w w') :=
  (c_r_row id w).mono fun e w' h'=>by
    rcases h' with ⟨V',hV,h1⟩|⟨h1,_⟩
    · rw [h] at hV; cases hV; exact h1
    · rw [h] at h1; cases h1
theorem hexcall (s:ByteArray) (n:Nat) (w:World) (h:hexB s n = true):Calls Tryz.prog 30 ([.string s]:List Value).toArray w (fun e w'=>NumR w ([]) n (fun v=>v) e w'):=by
  obtain ⟨h1,h2,h3⟩:=hexB_spec h
  have:=c_r_Hex s w h1 om
  rwa [h2] at this
theorem c_r_Get (id:Int) (V:Cv) (w:World) (h:cvI id = some V):Calls Tryz.prog 9 ([.int .i64 id]:List Value).toArray w (fun e w'=>∃ Q,e = .returned (.tuple #[.agg (crvL Q V).toArray,.bool true])∧(crvI Q V).holds w'∧(∀ k,k∈(crvI Q V).fp→w.heap.size≤k)∧Below w.heap.size w w'):=by
  obtain ⟨hok,hid⟩:=cvI_ok h
  have hsz:=hok.sz
  have hszp:=hsz.p
  refine Ka (N:=48) (rs:=[.cell 2 30,.tmp 3]) [] Tryz.func9 rfl Tryz.ntmps9 Tryz.results9 (Nb rfl) trivial rfl ?_
  show LCode _ _ _ ⟨_,_⟩ _
  refine KB (KA ?_)
  refine oS (mk (KP zr_30) (fun b2=>?_))
  refine oA ?_
  refine KC ?_
  refine KB (KA ?_)
  refine oM ?_
  refine oS (KAL (Post:=fun v its=>∃ b s0 s1 s2 s3 s4 s5,v = .slice (some ⟨b,0,none⟩) 6 6∧its = [.blk b ⟨false,[.string s0,.string s1,.string s2,.string s3,.string s4,.string s5],9,(0,0)⟩]∧rowB V s0 s1 s2 s3 s4 s5 = true) (first:=[]) rfl en_29 rfl (Nb rfl) (fun w hw hs=>(c_r_row_some id V w h).mono fun e w' ⟨b,s0,s1,s2,s3,s4,s5,h1,h2,h3,h4,h5⟩=>⟨_,_,⟨b,s0,s1,s2,s3,s4,s5,rfl,rfl,h4⟩,h1,Brings.blk1 h5 h3 h2⟩) ?_)
  rintro _ _ ⟨b4,s0,s1,s2,s3,s4,s5,rfl,rfl,hrow⟩
  obtain ⟨hB0,hB1,hB2,hB3,hB4,hB5⟩:=rowB_spec hrow
  clear hrow
  refine oA ?_
  refine KC ?_
  refine KB ?_
  refine KB (KA ?_)
  refine oM ?_
  refine oP (KG (Det.eqsl Tryz.underlying69 rfl rfl) (show _ = Value.bool false from rfl)) ?_
  refine KC ?_
  refine KK rfl ?_
  refine KM ?_
  refine KB ?_
  refine rD [23] ?_
  refine aM 0 ?_
  refine aM 1 ?_
  refine aP 2 rfl (Kc (i:=0) Tryz.underlying69 sz_9 rfl rfl om) ?_
  refine aD 3 rfl (dL rfl (hv:=KJ Tryz.underlying9 rfl (by first|rfl|exact KW _ _ _ om|exact KV _ om|exact KT _ om|exact dv_m _ _ _ om))) ?_
  refine aM 5 ?_
  refine aP 6 rfl (Kc (i:=2) Tryz.underlying69 sz_9 rfl rfl om) ?_
  refine aD 7 rfl (dL rfl (hv:=KJ Tryz.underlying9 rfl (by first|rfl|exact KW _ _ _ om|exact KV _ om|exact KT _ om|exact dv_m _ _ _ om))) ?_
  refine aM 9 ?_
  refine aP 10 rfl (Kc (i:=3) Tryz.underlying69 sz_9 rfl rfl om) ?_
  refine aD 11 rfl (dL rfl (hv:=KJ Tryz.underlying9 rfl (by first|rfl|exact KW _ _ _ om|exact KV _ om|exact KT _ om|exact dv_m _ _ _ om))) ?_
  refine aM 13 ?_
  refine aP 14 rfl (Kc (i:=4) Tryz.underlying69 sz_9 rfl rfl om) ?_
  refine aD 15 rfl (dL rfl (hv:=KJ Tryz.underlying9 rfl (by first|rfl|exact KW _ _ _ om|exact KV _ om|exact KT _ om|exact dv_m _ _ _ om))) ?_
  refine aM 17 ?_
  refine aP 18 rfl (Kc (i:=5) Tryz.underlying69 sz_9 rfl rfl om) ?_
  refine aD 19 rfl (dL rfl (hv:=KJ Tryz.underlying9 rfl (by first|rfl|exact KW _ _ _ om|exact KV _ om|exact KT _ om|exact dv_m _ _ _ om))) ?_
  refine LAny.toP ?_
  refine Kx 22 rfl (.inl zr_30) (Nb rfl) rfl rfl rfl ?_
  refine Kl 4 rfl rfl rfl (Nb rfl) (by kernel_rfl) rfl (LExt.callZ (first:=[]) rfl en_30 rfl (fun w hw hs=>(hexcall s0 V.p w hB0).mono fun e w' h=>KAX (Old.nil _) hs h)) ?_
  rintro _ _ ⟨q15,rfl,rfl,hn15⟩
  refine Kl 8 rfl rfl rfl (Nb rfl) (by kernel_rfl) rfl (LExt.callZ (first:=[]) rfl en_30 rfl (fun w hw hs=>(hexcall s2 V.b w hB2).mono fun e w' h=>KAX (Old.nil _) hs h)) ?_
  rintro _ _ ⟨q19,rfl,rfl,hn19⟩
  refine Kl 12 rfl rfl rfl (Nb rfl) (by kernel_rfl) rfl (LExt.callZ (first:=[]) rfl en_30 rfl (fun w hw hs=>(hexcall s3 V.n w hB3).mono fun e w' h=>KAX (Old.nil _) hs h)) ?_
  rintro _ _ ⟨q23,rfl,rfl,hn23⟩
  refine Kl 16 rfl rfl rfl (Nb rfl) (by kernel_rfl) rfl (LExt.callZ (first:=[]) rfl en_30 rfl (fun w hw hs=>(hexcall s4 V.x w hB4).mono fun e w' h=>KAX (Old.nil _) hs h)) ?_
  rintro _ _ ⟨q27,rfl,rfl,hn27⟩
  refine Kl 20 rfl rfl rfl (Nb rfl) (by kernel_rfl) rfl (LExt.callZ (first:=[]) rfl en_30 rfl (fun w hw hs=>(hexcall s5 V.y w hB5).mono fun e w' h=>KAX (Old.nil _) hs h)) ?_
  rintro _ _ ⟨q31,rfl,rfl,hn31⟩
  refine pP 21 rfl (KG (Kp pl_30 zr_30 rfl rfl) (show _ = Value.agg ([.int .i64 id,numV q15 V.p,.slice none 0 0,numV q19 V.b,numV q23 V.n,numV q27 V.x,numV q31 V.y]).toArray from rfl)) ?_
  refine pE (fun b5=>?_)
  refine KAN ?_
  refine aL 23 rfl (sA rfl rfl sz_30 (by repeat (first|exact Ki|refine Kf rfl ?_)) (hl:=by rfl) (h:=?_))
  refine aE ?_
  refine KB ?_
  refine KB ?_
  rcases hB1 with ⟨hD,hVa⟩|⟨hD,hA⟩
  ·
    refine KA ?_
    refine oM ?_
    refine oP (Kc (i:=1) Tryz.underlying69 sz_9 rfl rfl om) ?_
    refine oD (dL rfl (hv:=KJ Tryz.underlying9 rfl (by first|rfl|exact KW _ _ _ om|exact KV _ om|exact KT _ om|exact dv_m _ _ _ om))) ?_
    refine oP (KG (Det.eqs rfl rfl) (congrArg Value.bool (eq_str_t hD))) ?_
    refine KC ?_
    refine KU rfl ?_
    refine KA ?_
    refine oP (KF (o':=1) Tryz.underlying30 rfl rfl rfl sz_28 dc) ?_
    refine oD (dL rfl (hv:=KJ Tryz.underlying28 rfl (by first|rfl|exact KW _ _ _ om|exact KV _ om|exact KT _ om|exact dv_m _ _ _ om))) ?_
    refine oS (mk (KAD Tryz.underlying28 inf_57 rfl rfl rfl rfl dc rfl) (fun b39=>?_))
    refine oS (cZ rfl en_16 rfl (fun w hw hs=>(c_n_Sub q15 ⟨false,b39,1⟩ V.p 3 w (mC hw) (num1_blk (mC hw) dc rfl) om om).mono fun e w' h=>KAX (Old.nil _) hs h) ?_)
    rintro _ _ ⟨q40,rfl,rfl,hn40⟩
    refine oP (KF (o':=2) Tryz.underlying30 rfl rfl rfl sz_28 dc) ?_
    refine KO rfl (Kb rfl rfl rfl sz_28 (by repeat (first|exact Sh _|apply St_)) (by simp) (by first|exact KAA _ _ _ _ _|exact KAF _ _ _ _ om|exact KAC _ _ _ _|rfl) (by simp) ?_)
    refine KC ?_
    refine KB (KA ?_)
    refine oD (dL rfl (hv:=by exact KE Tryz.underlying30 rfl sz_30)) ?_
    refine KO rfl (sA rfl rfl sz_30 (by repeat (first|exact Ki|refine Kf rfl ?_)) (hl:=by rfl) (h:=?_))
    refine oA ?_
    refine KC (KI ?_)
    refine ⟨[_,_],.cons ⟨_,_,_,rfl,mM,by exact KE Tryz.underlying30 rfl sz_30⟩ (.cons rfl .nil),fun a w' hr=>⟨⟨q15,q40,q19,q23,q27,q31⟩,?_,crvI_mk (hr.hp _ mM) (by have:=hr.hp (numT q40 (V.p-3)) mM; rwa [show V.p-3 = V.a by omega] at this) (hr.hp _ mM) (hr.hp _ mM) (hr.hp _ mM) (hr.hp _ mM),crvI_fp hn15 (by rwa [show V.p-3 = V.a by omega] at hn40) hn19 hn23 hn27 hn31,hr.fr.below⟩⟩
    rw [← hid,show V.p-3 = V.a by omega]; rfl
  ·
    refine KA ?_
    refine oM ?_
    refine oP (Kc (i:=1) Tryz.underlying69 sz_9 rfl rfl om) ?_
    refine oD (dL rfl (hv:=KJ Tryz.underlying9 rfl (by first|rfl|exact KW _ _ _ om|exact KV _ om|exact KT _ om|exact dv_m _ _ _ om))) ?_
    refine oP (KG (Det.eqs rfl rfl) (congrArg Value.bool (eq_str_f hD))) ?_
    refine KC ?_
    refine KK rfl ?_
    refine KA ?_
    refine oM ?_
    refine oP (Kc (i:=1) Tryz.underlying69 sz_9 rfl rfl om) ?_
    refine oD (dL rfl (hv:=KJ Tryz.underlying9 rfl (by first|rfl|exact KW _ _ _ om|exact KV _ om|exact KT _ om|exact dv_m _ _ _ om))) ?_
    refine oS (cZ rfl en_30 rfl (fun w hw hs=>(hexcall s1 V.a w hA).mono fun e w' h=>KAX (Old.nil _) hs h) ?_)
    rintro _ _ ⟨q45,rfl,rfl,hn45⟩
    refine oP (KF (o':=2) Tryz.underlying30 rfl rfl rfl sz_28 dc) ?_
    refine KO rfl (Kb rfl rfl rfl sz_28 (by repeat (first|exact Sh _|apply St_)) (by simp) (by first|exact KAA _ _ _ _ _|exact KAF _ _ _ _ om|exact KAC _ _ _ _|rfl) (by simp) ?_)
    refine KC ?_
    refine KB (KA ?_)
    refine oD (dL rfl (hv:=by exact KE Tryz.underlying30 rfl sz_30)) ?_
    refine KO rfl (sA rfl rfl sz_30 (by repeat (first|exact Ki|refine Kf rfl ?_)) (hl:=by rfl) (h:=?_))
    refine oA ?_
    refine KC (KI ?_)
    refine ⟨[_,_],.cons ⟨_,_,_,rfl,mM,by exact KE Tryz.underlying30 rfl sz_30⟩ (.cons rfl .nil),fun a w' hr=>⟨⟨q15,q45,q19,q23,q27,q31⟩,?_,crvI_mk (hr.hp _ mM) (hr.hp _ mM) (hr.hp _ mM) (hr.hp _ mM) (hr.hp _ mM) (hr.hp _ mM),crvI_fp hn15 hn45 hn19 hn23 hn27 hn31,hr.fr.below⟩⟩
    rw [← hid]; rfl
end Go.Proofs.YtlmiolnccgjjjaaGreat
set_option linter.unusedVariables false
set_option linter.unusedSimpArgs false
set_option maxRecDepth 20000
namespace Go.Proofs.YtlmiolnccgjjjaaGreat
open Go Go.RowKit
def nby (N:Nat):Nat:=(blen N+7)/8
theorem nby_le {A N:Nat} (h:A<N):¬ 8*nby N<blen A:=by
  have:blen A≤blen N:=blen_le (Nat.lt_trans h (lt_blen N))
  unfold nby; omega
theorem blen_nw (A:Nat):blen A≤32*D.nw A:=by unfold D.nw; omega
theorem c_n_BytesOK (q:NV) (A n:Nat) (w:World) (hq:(numT q A).holds w) (hA:D.nw A≤1000000) (hn:n≤72) (hf:¬ 8*n<blen A):Calls Tryz.prog 22 ([numV q A,.int .i64 ((n:Nat):Int)]:List Value).toArray w (fun e w'=>e = .returned (.tuple #[.string (strOf (beBytes n A)),.bool true])∧Below w.heap.size w w'):=by
  have h:=c_n_Bytes q A n w hq hA hn
  rwa [if_neg hf] at h
theorem c_nat_BytesOK (A n:Nat) (w:World) (hA:A<W9) (hn:n≤72) (hf:¬ 8*n<blen A):Calls Tryz.prog 43 ([natV A,.int .i64 ((n:Nat):Int)]:List Value).toArray w (fun e w'=>e = .returned (.tuple #[.string (strOf (beBytes n A)),.int .i64 ((0:Nat):Int)])∧Below w.heap.size w w'):=by
  have h:=c_nat_Bytes A n hA hn w
  rwa [if_neg hf] at h
theorem c_r_Size (Q:CQ) (V:Cv) (w:World) (hc:(crvI Q V).holds w) (hsz:V.Sz):Calls Tryz.prog 21 ([.agg (crvL Q V).toArray]:List Value).toArray w (fun e w'=>e = .returned (.int .i64 ((nby V.p:Nat):Int))∧Below w.heap.size w w'):=by
  have hsn:=hsz.p
  refine Ka (N:=8) (rs:=[.tmp 2]) [crvI Q V] Tryz.func21 rfl Tryz.ntmps21 Tryz.results21 (Nb rfl) ⟨hc,trivial⟩ rfl ?_
  show LCode _ _ _ ⟨_,_⟩ _
  refine KB (KA ?_)
  refine oS (mB (fun b1=>?_))
  refine oP (KR (v:=.int .i64 ((0:Nat):Int)) rfl) ?_
  refine KC ?_
  refine KB ?_
  have hbn:=blen_nw V.p
  refine KA ?_
  refine oP (KF (o':=1) Tryz.underlying30 rfl rfl rfl sz_28 dc) ?_
  refine oD (dL rfl (hv:=KJ Tryz.underlying28 rfl (by first|rfl|exact KW _ _ _ om|exact KV _ om|exact KT _ om|exact dv_m _ _ _ om))) ?_
  refine oS (cF rfl en_31 rfl (fun w hw=>c_n_Bits Q.p V.p w (crvI_p (mC hw)) om) ?_)
  refine oP (KD rfl rfl (Kn (b:=7) om)) ?_
  refine oP (KD rfl rfl (br_quo (b:=8) om om)) ?_
  refine oA ?_
  refine KC (KI ?_)
  refine ⟨[_],.cons rfl .nil,fun a w' hr=>⟨?_,hr.fr.below⟩⟩
  rfl
theorem str_size (n A:Nat):(strOf (beBytes n A)).size = n:=by
  show (beBytes n A).toArray.size = n
  rw [List.size_toArray,beBytes_length]
theorem ext_size (s:ByteArray) (i j:Nat) (hj:j≤s.size):(s.extract i j).size = j-i:=by
  simp [ByteArray.size_extract]; omega
end Go.Proofs.YtlmiolnccgjjjaaGreat
set_option linter.unusedVariables false
set_option linter.unusedSimpArgs false
set_option maxRecDepth 20000
namespace Go.Proofs.YtlmiolnccgjjjaaGreat
open Go Go.RowKit
theorem c_Inverse (a m:Nat) (hm0:m≠0) (w:World) (ha:a<W9) (hm:m<W9):Calls Tryz.prog 114 ([natV a,natV m]:List Value).toArray w (fun e w'=>e = .returned (.tuple #[natV (invM a m),.int .i64 ((if Nat.gcd a m = 1∧m≠1 then 0 else 401:Nat):Int)])∧Below w.heap.size w w'):=by
  refine Ka (N:=75) (rs:=[.cell 4 25,.tmp 5]) [] Tryz.func114 rfl Tryz.ntmps114 Tryz.results114 (Nb rfl) trivial rfl ?_
  show LCode _ _ _ ⟨_,_⟩ _
  refine KB (KA ?_)
  refine oS (mB (fun b2=>?_))
  refine oS (mB (fun b3=>?_))
  refine oS (mk (KP zr_25) (fun b4=>?_))
  refine oP (KR (v:=.int .i64 ((0:Nat):Int)) rfl) ?_
  refine KC ?_
  refine KB ?_
  refine KB (KA ?_)
  refine oS (cF rfl en_120 rfl (fun w hw=>c_zeroN m b3 _ hm0 w (mC hw) hm) ?_)
  refine KC ?_
  refine KK rfl ?_
  refine KM ?_
  refine KB (KA ?_)
  refine oD (dL rfl (hv:=by exact KE Tryz.underlying25 rfl sz_25)) ?_
  refine oD (dL rfl (hv:=by exact KE Tryz.underlying25 rfl sz_25)) ?_
  refine oS (cF rfl en_121 rfl (fun w hw=>c_Div a m hm0 w ha hm) ?_)
  refine oM ?_
  refine oP (Det.extract rfl rfl) ?_
  refine oP (Det.extract rfl rfl) ?_
  refine oP (Det.extract rfl rfl) ?_
  refine oS (mk (KP zr_25) (fun b6=>?_))
  refine oS (mk (KP zr_25) (fun b7=>?_))
  refine KO rfl (sA rfl rfl sz_25 mO (hl:=mL) (h:=?_))
  refine KO rfl (sA rfl rfl sz_25 mO (hl:=mL) (h:=?_))
  refine oA ?_
  refine KC ?_
  refine LCode.cut (α:=Nat×Nat) (fun _=>True) (fun x=>⟨[(2,.pointer (some ⟨b2,0,none⟩)),(3,.pointer (some ⟨b3,0,none⟩)),(4,.pointer (some ⟨b4,0,none⟩)),(9,.pointer (some ⟨x.1,0,none⟩)),(10,.pointer (some ⟨x.2,0,none⟩))],[.blk x.1 ⟨true,natL (m),25,(0,0)⟩,.blk x.2 ⟨true,natL (a%m),25,(0,0)⟩,.blk b4 ⟨true,vec .u64 9 (fun _=>0),25,(0,0)⟩,.blk b3 ⟨true,natL (m),25,(0,0)⟩,.blk b2 ⟨true,natL (a),25,(0,0)⟩]⟩) ?_ ?_
  ·
    refine rD [4,5] ?_
    refine aD 0 rfl (dL rfl (hv:=by exact KE Tryz.underlying25 rfl sz_25)) ?_
    refine LAny.threeX 1 2 3 rfl rfl rfl rfl rfl rfl (by kernel_rfl) (.inr (LStep.det (dL rfl (hv:=by exact KE Tryz.underlying25 rfl sz_25)) (Nb rfl) ?_)) (.inr (mk (KP zr_25) (fun b9=>?_))) (.inr (mk (KP zr_25) (fun b10=>?_)))
    ·
      refine LAny.twoX 2 3 rfl rfl rfl rfl (by kernel_rfl) (.inr (mk (KP zr_25) (fun b9=>?_))) (.inr (mk (KP zr_25) (fun b10=>?_)))
      ·
        refine aO 3 rfl (mk (KP zr_25) (fun b10=>?_))
        refine aL 4 rfl (sA rfl rfl sz_25 mO (hl:=mL) (h:=?_))
        refine aL 5 rfl (sA rfl rfl sz_25 mO (hl:=mL) (h:=?_))
        refine aE ?_
        exact ⟨(b9,b10),trivial,Kd ⟨rfl,rfl,rfl,rfl,rfl,trivial⟩ mS⟩
      ·
        refine aO 2 rfl (mk (KP zr_25) (fun b9=>?_))
        refine aL 4 rfl (sA rfl rfl sz_25 mO (hl:=mL) (h:=?_))
        refine aL 5 rfl (sA rfl rfl sz_25 mO (hl:=mL) (h:=?_))
        refine aE ?_
        exact ⟨(b9,b10),trivial,Kd ⟨rfl,rfl,rfl,rfl,rfl,trivial⟩ mS⟩
    ·
      refine LAny.twoX 1 3 rfl rfl rfl rfl (by kernel_rfl) (.inr (LStep.det (dL rfl (hv:=by exact KE Tryz.underlying25 rfl sz_25)) (Nb rfl) ?_)) (.inr (mk (KP zr_25) (fun b10=>?_)))
      ·
        refine aO 3 rfl (mk (KP zr_25) (fun b10=>?_))
        refine aL 4 rfl (sA rfl rfl sz_25 mO (hl:=mL) (h:=?_))
        refine aL 5 rfl (sA rfl rfl sz_25 mO (hl:=mL) (h:=?_))
        refine aE ?_
        exact ⟨(b9,b10),trivial,Kd ⟨rfl,rfl,rfl,rfl,rfl,trivial⟩ mS⟩
      ·
        refine LAny.twoX 1 4 rfl rfl rfl rfl (by kernel_rfl) (.inr (LStep.det (dL rfl (hv:=by exact KE Tryz.underlying25 rfl sz_25)) (Nb rfl) ?_)) (.inl ⟨rfl,sA rfl rfl sz_25 mO (hl:=mL) (h:=?_)⟩)
        ·
          refine aL 4 rfl (sA rfl rfl sz_25 mO (hl:=mL) (h:=?_))
          refine aL 5 rfl (sA rfl rfl sz_25 mO (hl:=mL) (h:=?_))
          refine aE ?_
          exact ⟨(b9,b10),trivial,Kd ⟨rfl,rfl,rfl,rfl,rfl,trivial⟩ mS⟩
        ·
          refine aD 1 rfl (dL rfl (hv:=by exact KE Tryz.underlying25 rfl sz_25)) ?_
          refine aL 5 rfl (sA rfl rfl sz_25 mO (hl:=mL) (h:=?_))
          refine aE ?_
          exact ⟨(b9,b10),trivial,Kd ⟨rfl,rfl,rfl,rfl,rfl,trivial⟩ mS⟩
    ·
      refine LAny.twoX 1 2 rfl rfl rfl rfl (by kernel_rfl) (.inr (LStep.det (dL rfl (hv:=by exact KE Tryz.underlying25 rfl sz_25)) (Nb rfl) ?_)) (.inr (mk (KP zr_25) (fun b9=>?_)))
      ·
        refine aO 2 rfl (mk (KP zr_25) (fun b9=>?_))
        refine aL 4 rfl (sA rfl rfl sz_25 mO (hl:=mL) (h:=?_))
        refine aL 5 rfl (sA rfl rfl sz_25 mO (hl:=mL) (h:=?_))
        refine aE ?_
        exact ⟨(b9,b10),trivial,Kd ⟨rfl,rfl,rfl,rfl,rfl,trivial⟩ mS⟩
      ·
        refine LAny.twoX 1 4 rfl rfl rfl rfl (by kernel_rfl) (.inr (LStep.det (dL rfl (hv:=by exact KE Tryz.underlying25 rfl sz_25)) (Nb rfl) ?_)) (.inl ⟨rfl,sA rfl rfl sz_25 mO (hl:=mL) (h:=?_)⟩)
        ·
          refine aL 4 rfl (sA rfl rfl sz_25 mO (hl:=mL) (h:=?_))
          refine aL 5 rfl (sA rfl rfl sz_25 mO (hl:=mL) (h:=?_))
          refine aE ?_
          exact ⟨(b9,b10),trivial,Kd ⟨rfl,rfl,rfl,rfl,rfl,trivial⟩ mS⟩
        ·
          refine aD 1 rfl (dL rfl (hv:=by exact KE Tryz.underlying25 rfl sz_25)) ?_
          refine aL 5 rfl (sA rfl rfl sz_25 mO (hl:=mL) (h:=?_))
          refine aE ?_
          exact ⟨(b9,b10),trivial,Kd ⟨rfl,rfl,rfl,rfl,rfl,trivial⟩ mS⟩
  ·
    rintro ⟨b9,b10⟩ _
    dsimp only
    refine KB (KA ?_)
    refine oP (KG (Kp pl_25 zr_25 rfl rfl) (show _ = natV 0 by unfold natV natL; rw [← vec_zeros 9])) ?_
    refine oS (cF rfl en_61 rfl (fun w hw=>c_nat_Small 1 dc w) ?_)
    refine oS (mk (KP zr_25) (fun b11=>?_))
    refine oS (mk (KP zr_25) (fun b12=>?_))
    refine KO rfl (sA rfl rfl sz_25 mO (hl:=mL) (h:=?_))
    refine KO rfl (sA rfl rfl sz_25 mO (hl:=mL) (h:=?_))
    refine KC ?_
    refine KB (KA ?_)
    refine oD (dL rfl (hv:=by exact KE Tryz.underlying25 rfl sz_25)) ?_
    refine oS (LStep.call (Post:=fun v its=>∃ b,v = .agg [.pointer (some ⟨b,0,none⟩)].toArray∧its = [.blk b ⟨false,dvL m,167,(0,0)⟩]) (first:=[]) rfl en_77 rfl (Nb rfl) (fun w hw=>(c_By m hm0 hm w).mono fun e w' ⟨b,h1,h2,h3,h4⟩=>⟨_,_,⟨b,rfl,rfl⟩,h1,Brings.blk1 h4 h2 h3⟩) ?_)
    rintro _ _ ⟨bd,rfl,rfl⟩
    refine oS (mk (KP zr_114) (fun b13=>?_))
    refine KO rfl (sA rfl rfl sz_114 mO (hl:=mL) (h:=?_))
    refine KC ?_
    refine KB ?_
    refine LCode.block ?_
    refine Kh (α:=Nat×Nat×Nat×Nat) (fun x=>x.1≤m∧x.2.1<m∧x.2.2.1<m∧(1<m→x.2.2.2<m)∧(m = 1→x.2.1 = 0)∧a*x.2.2.1%m = x.1%m∧a*x.2.2.2%m = x.2.1%m∧Nat.gcd x.1 x.2.1 = Nat.gcd m a) (fun x=>⟨[(2,.pointer (some ⟨b2,0,none⟩)),(3,.pointer (some ⟨b3,0,none⟩)),(4,.pointer (some ⟨b4,0,none⟩)),(9,.pointer (some ⟨b9,0,none⟩)),(10,.pointer (some ⟨b10,0,none⟩)),(11,.pointer (some ⟨b11,0,none⟩)),(12,.pointer (some ⟨b12,0,none⟩)),(13,.pointer (some ⟨b13,0,none⟩))],[.blk b9 ⟨true,natL (x.1),25,(0,0)⟩,.blk b10 ⟨true,natL (x.2.1),25,(0,0)⟩,.blk b11 ⟨true,natL (x.2.2.1),25,(0,0)⟩,.blk b12 ⟨true,natL (x.2.2.2),25,(0,0)⟩,.blk b13 ⟨true,[.pointer (some ⟨bd,0,none⟩)],114,(0,0)⟩,.blk b4 ⟨true,vec .u64 9 (fun _=>0),25,(0,0)⟩,.blk b3 ⟨true,natL (m),25,(0,0)⟩,.blk b2 ⟨true,natL (a),25,(0,0)⟩,.blk bd ⟨false,dvL m,167,(0,0)⟩]⟩) (fun x=>x.2.1) ((m,a%m,0,1)) (⟨Nat.le_refl _,Nat.mod_lt _ om,by dsimp only; omega,fun h=>h,fun h=>by subst h; exact Nat.mod_one _,by dsimp only; rw [Nat.mul_zero,Nat.zero_mod,Nat.mod_self],by dsimp only; rw [Nat.mul_one,Nat.mod_mod],by dsimp only; rw [Nat.gcd_comm m (a%m),← Nat.gcd_rec]⟩) (Kd ⟨rfl,rfl,rfl,rfl,rfl,rfl,rfl,rfl,trivial⟩ mS) ?_
    intro x ⟨hx1,hx2,hx3,hx6,hx9,hx5,hx7,hx8⟩
    refine KB ?_
    refine KB ?_
    rcases Nat.eq_zero_or_pos x.2.1 with h0|h0
    ·
      refine KA ?_
      refine oS (cF rfl en_120 rfl (fun w hw=>c_zero x.2.1 b10 _ w (mC hw) om) ?_)
      refine oP (KG (Det.not rfl) (show _ = Value.bool false by rw [decide_eq_true h0]; rfl)) ?_
      refine KC ?_
      have hg:Nat.gcd a m = x.1:=by rw [h0,Nat.gcd_zero_right] at hx8; rw [Nat.gcd_comm,hx8]
      refine KK rfl ?_
      refine Ke ?_
      refine KB ?_
      refine KB ?_
      rcases (show (x.1 = 1∧m≠1)∨(x.1 = 1∧m = 1)∨x.1≠1 by omega) with ⟨hd1,hd2⟩|⟨hd1,hd2⟩|hd1
      ·
        refine rD [] ?_
        refine aD 0 rfl (dL rfl (hv:=by exact KE Tryz.underlying25 rfl sz_25)) ?_
        refine aO 1 rfl (cF rfl en_61 rfl (fun w hw=>c_nat_Small 1 dc w) ?_)
        refine aP 2 rfl (KG (Det.nea (by kernel_rfl) (fun w=>eq_nat x.1 1 om one_w9 10000 dc w) rfl rfl) (show _ = Value.bool false by rw [decide_eq_true hd1]; rfl)) ?_
        refine aM 3 ?_
        refine aGD 4 rfl (dL rfl (hv:=by exact KE Tryz.underlying25 rfl sz_25)) ?_
        refine aGO 5 rfl (cF rfl en_61 rfl (fun w hw=>c_nat_Small 1 dc w) ?_)
        refine aGP 6 rfl (KG (Det.eqa (by kernel_rfl) (fun w=>eq_nat m 1 hm one_w9 10000 dc w) rfl rfl) (show _ = Value.bool false by rw [decide_eq_false hd2])) ?_
        refine aP 7 rfl (KY rfl rfl) ?_
        refine aE ?_
        refine KK rfl ?_
        refine KM ?_
        refine KB (KA ?_)
        refine oD (dL rfl (hv:=by exact KE Tryz.underlying25 rfl sz_25)) ?_
        refine KO rfl (sA rfl rfl sz_25 mO (hl:=mL) (h:=?_))
        refine oP (KR (v:=.int .i64 ((0:Nat):Int)) rfl) ?_
        refine KC (KI ?_)
        have hgd:Nat.gcd a m = 1∧m≠1:=⟨hg.trans hd1,hd2⟩
        have hia:invM a m = x.2.2.1:=invM_eq hx3 (by rw [hx5,hd1]; exact Nat.mod_eq_of_lt om)
        refine ⟨[_,_],.cons ⟨_,_,_,rfl,mM,by exact KE Tryz.underlying25 rfl sz_25⟩ (.cons rfl .nil),fun a' w' hr=>⟨?_,hr.fr.below⟩⟩
        rw [hia,if_pos hgd]
        rfl
      ·
        refine rD [] ?_
        refine aD 0 rfl (dL rfl (hv:=by exact KE Tryz.underlying25 rfl sz_25)) ?_
        refine aO 1 rfl (cF rfl en_61 rfl (fun w hw=>c_nat_Small 1 dc w) ?_)
        refine aP 2 rfl (KG (Det.nea (by kernel_rfl) (fun w=>eq_nat x.1 1 om one_w9 10000 dc w) rfl rfl) (show _ = Value.bool false by rw [decide_eq_true hd1]; rfl)) ?_
        refine aM 3 ?_
        refine aGD 4 rfl (dL rfl (hv:=by exact KE Tryz.underlying25 rfl sz_25)) ?_
        refine aGO 5 rfl (cF rfl en_61 rfl (fun w hw=>c_nat_Small 1 dc w) ?_)
        refine aGP 6 rfl (KG (Det.eqa (by kernel_rfl) (fun w=>eq_nat m 1 hm one_w9 10000 dc w) rfl rfl) (show _ = Value.bool true by rw [decide_eq_true hd2])) ?_
        refine aP 7 rfl (KY rfl rfl) ?_
        refine aE ?_
        refine KU rfl ?_
        refine KB (KA ?_)
        refine oP (Kp pl_25 zr_25 rfl rfl) ?_
        refine KO rfl (sA rfl rfl sz_25 mO (hl:=mL) (h:=?_))
        refine oP (KR (v:=.int .i64 ((401:Nat):Int)) rfl) ?_
        refine KC (KI ?_)
        have hng:¬ (Nat.gcd a m = 1∧m≠1):=by rw [hg]; exact fun h=>h.2 hd2
        refine ⟨[_,_],.cons ⟨_,_,_,rfl,mM,by exact KE Tryz.underlying25 rfl sz_25⟩ (.cons rfl .nil),fun a' w' hr=>⟨?_,hr.fr.below⟩⟩
        rw [invM_none hng,if_neg hng]
        refine congrArg (fun l:List Value=>Ending.returned (.tuple #[.agg l.toArray,_])) ?_
        exact vec_zeros 9
      ·
        refine rD [] ?_
        refine aD 0 rfl (dL rfl (hv:=by exact KE Tryz.underlying25 rfl sz_25)) ?_
        refine aO 1 rfl (cF rfl en_61 rfl (fun w hw=>c_nat_Small 1 dc w) ?_)
        refine aP 2 rfl (KG (Det.nea (by kernel_rfl) (fun w=>eq_nat x.1 1 om one_w9 10000 dc w) rfl rfl) (show _ = Value.bool true by rw [decide_eq_false hd1]; rfl)) ?_
        refine aM 3 ?_
        refine aK 4 ?_
        refine aK 5 ?_
        refine aK 6 ?_
        refine aP 7 rfl (Kj rfl rfl) ?_
        refine aE ?_
        refine KU rfl ?_
        refine KB (KA ?_)
        refine oP (Kp pl_25 zr_25 rfl rfl) ?_
        refine KO rfl (sA rfl rfl sz_25 mO (hl:=mL) (h:=?_))
        refine oP (KR (v:=.int .i64 ((401:Nat):Int)) rfl) ?_
        refine KC (KI ?_)
        have hng:¬ (Nat.gcd a m = 1∧m≠1):=by rw [hg]; exact fun h=>hd1 h.1
        refine ⟨[_,_],.cons ⟨_,_,_,rfl,mM,by exact KE Tryz.underlying25 rfl sz_25⟩ (.cons rfl .nil),fun a' w' hr=>⟨?_,hr.fr.below⟩⟩
        rw [invM_none hng,if_neg hng]
        refine congrArg (fun l:List Value=>Ending.returned (.tuple #[.agg l.toArray,_])) ?_
        exact vec_zeros 9
    ·
      refine KA ?_
      refine oS (cF rfl en_120 rfl (fun w hw=>c_zero x.2.1 b10 _ w (mC hw) om) ?_)
      refine oP (KG (Det.not rfl) (show _ = Value.bool true by rw [decide_eq_false om]; rfl)) ?_
      refine KC ?_
      have h0:x.2.1≠0:=by omega
      have hm1:1<m:=by
        rcases Nat.lt_or_ge 1 m with h|h
        · exact h
        · exact absurd (hx9 om) h0
      refine KU rfl ?_
      refine KM ?_
      refine LCode.block ?_
      refine KB (KA ?_)
      refine oD (dL rfl (hv:=by exact KE Tryz.underlying25 rfl sz_25)) ?_
      refine oD (dL rfl (hv:=by exact KE Tryz.underlying25 rfl sz_25)) ?_
      refine oS (cF rfl en_121 rfl (fun w hw=>c_Div x.1 x.2.1 h0 w om om) ?_)
      refine oM ?_
      refine oP (Det.extract rfl rfl) ?_
      refine oP (Det.extract rfl rfl) ?_
      refine oP (Det.extract rfl rfl) ?_
      refine oS (mk (KP zr_25) (fun b14=>?_))
      refine oS (mk (KP zr_25) (fun b15=>?_))
      refine KO rfl (sA rfl rfl sz_25 mO (hl:=mL) (h:=?_))
      refine KO rfl (sA rfl rfl sz_25 mO (hl:=mL) (h:=?_))
      refine oA ?_
      refine KC ?_
      refine LCode.cut (α:=Unit) (fun _=>True) (fun _=>⟨[(2,.pointer (some ⟨b2,0,none⟩)),(3,.pointer (some ⟨b3,0,none⟩)),(4,.pointer (some ⟨b4,0,none⟩)),(9,.pointer (some ⟨b9,0,none⟩)),(10,.pointer (some ⟨b10,0,none⟩)),(11,.pointer (some ⟨b11,0,none⟩)),(12,.pointer (some ⟨b12,0,none⟩)),(13,.pointer (some ⟨b13,0,none⟩)),(14,.pointer (some ⟨b14,0,none⟩))],[.blk b9 ⟨true,natL (x.2.1),25,(0,0)⟩,.blk b10 ⟨true,natL (x.1%x.2.1),25,(0,0)⟩,.blk b11 ⟨true,natL (x.2.2.1),25,(0,0)⟩,.blk b12 ⟨true,natL (x.2.2.2),25,(0,0)⟩,.blk b14 ⟨true,natL (x.1/x.2.1),25,(0,0)⟩,.blk b13 ⟨true,[.pointer (some ⟨bd,0,none⟩)],114,(0,0)⟩,.blk b4 ⟨true,vec .u64 9 (fun _=>0),25,(0,0)⟩,.blk b3 ⟨true,natL (m),25,(0,0)⟩,.blk b2 ⟨true,natL (a),25,(0,0)⟩,.blk bd ⟨false,dvL m,167,(0,0)⟩]⟩) ?_ ?_
      ·
        refine rD [2,3] ?_
        refine aD 0 rfl (dL rfl (hv:=by exact KE Tryz.underlying25 rfl sz_25)) ?_
        refine LAny.twoX 1 2 rfl rfl rfl rfl (by kernel_rfl) (.inr (LStep.det (dL rfl (hv:=by exact KE Tryz.underlying25 rfl sz_25)) (Nb rfl) ?_)) (.inl ⟨rfl,sA rfl rfl sz_25 mO (hl:=mL) (h:=?_)⟩)
        ·
          refine aL 2 rfl (sA rfl rfl sz_25 mO (hl:=mL) (h:=?_))
          refine aL 3 rfl (sA rfl rfl sz_25 mO (hl:=mL) (h:=?_))
          refine aE ?_
          exact ⟨(),trivial,Kd ⟨rfl,rfl,rfl,rfl,rfl,rfl,rfl,rfl,rfl,trivial⟩ mS⟩
        ·
          refine aD 1 rfl (dL rfl (hv:=by exact KE Tryz.underlying25 rfl sz_25)) ?_
          refine aL 3 rfl (sA rfl rfl sz_25 mO (hl:=mL) (h:=?_))
          refine aE ?_
          exact ⟨(),trivial,Kd ⟨rfl,rfl,rfl,rfl,rfl,rfl,rfl,rfl,rfl,trivial⟩ mS⟩
      ·
        rintro _ _
        refine KB (KA ?_)
        refine oD (dL rfl (hv:=by exact KE Tryz.underlying114 rfl sz_114)) ?_
        refine oD (dL rfl (hv:=by exact KE Tryz.underlying25 rfl sz_25)) ?_
        refine oD (dL rfl (hv:=by exact KE Tryz.underlying25 rfl sz_25)) ?_
        refine oS (cF rfl en_100 rfl (fun w hw=>c_Mul m (x.1/x.2.1) x.2.2.2 bd hm0 hm w (mC hw) (Nat.lt_of_le_of_lt (Nat.div_le_self _ _) om) (by have:=hx6 hm1; omega)) ?_)
        refine oS (mk (KP zr_25) (fun b17=>?_))
        refine KO rfl (sA rfl rfl sz_25 mO (hl:=mL) (h:=?_))
        refine KC ?_
        refine KB (KA ?_)
        refine oD (dL rfl (hv:=by exact KE Tryz.underlying25 rfl sz_25)) ?_
        refine oD (dL rfl (hv:=by exact KE Tryz.underlying25 rfl sz_25)) ?_
        refine oS (cF rfl en_60 rfl (fun w hw=>c_nat_Sub x.2.2.1 (x.1/x.2.1*x.2.2.2%m) om (mod_w9 hm0 hm) w) ?_)
        refine oM ?_
        refine oP (Det.extract rfl rfl) ?_
        refine oP (Det.extract rfl rfl) ?_
        refine oS (mk (KP zr_25) (fun b18=>?_))
        refine KO rfl (sA rfl rfl sz_25 mO (hl:=mL) (h:=?_))
        refine oA ?_
        refine KC ?_
        refine KB ?_
        refine KB (KA ?_)
        refine oM ?_
        refine KC ?_
        first|refine KN rfl (fun h56=>?_) (fun h56=>?_)|refine KQ rfl (fun h56=>?_) (fun h56=>?_)
        ·
          have h56:x.2.2.1<x.1/x.2.1*x.2.2.2%m:=h56
          refine KA ?_
          refine oD (dL rfl (hv:=by exact KE Tryz.underlying25 rfl sz_25)) ?_
          refine oD (dL rfl (hv:=by exact KE Tryz.underlying25 rfl sz_25)) ?_
          refine oS (cF rfl en_81 rfl (fun w hw=>c_nat_Add (dif x.2.2.1 (x.1/x.2.1*x.2.2.2%m)) m (dif_lt _ _) hm w) ?_)
          refine oM ?_
          refine oP (Det.extract rfl rfl) ?_
          refine oP (Det.extract rfl rfl) ?_
          refine KO rfl (sA rfl rfl sz_25 mO (hl:=mL) (h:=?_))
          refine KC ?_
          refine rD [2,3] ?_
          refine aD 0 rfl (dL rfl (hv:=by exact KE Tryz.underlying25 rfl sz_25)) ?_
          refine LAny.twoX 1 2 rfl rfl rfl rfl (by kernel_rfl) (.inr (LStep.det (dL rfl (hv:=by exact KE Tryz.underlying25 rfl sz_25)) (Nb rfl) ?_)) (.inl ⟨rfl,sA rfl rfl sz_25 mO (hl:=mL) (h:=?_)⟩)
          ·
            refine aL 2 rfl (sA rfl rfl sz_25 mO (hl:=mL) (h:=?_))
            refine aL 3 rfl (sA rfl rfl sz_25 mO (hl:=mL) (h:=?_))
            refine aE ?_
            refine ⟨(x.2.1,x.1%x.2.1,x.2.2.2,lessM x.2.2.1 (x.1/x.2.1*x.2.2.2%m) m),⟨by dsimp only; omega,by dsimp only; have:=Nat.mod_lt x.1 (show 0<x.2.1 by omega); omega,hx6 hm1,fun _=>lessM_lt hx3 (Nat.mod_lt _ om),fun h=>absurd h om,hx7,inv_step rfl hx3 om hx5 hx7,by show Nat.gcd x.2.1 (x.1%x.2.1) = _; rw [← hx8,Nat.gcd_comm x.2.1,← Nat.gcd_rec,Nat.gcd_comm]⟩,Nat.mod_lt _ om,Kw (Sub.cells (b:=b12) (cs':=natL (lessM x.2.2.1 (x.1/x.2.1*x.2.2.2%m) m)) (by repeat (first|exact Sh _|apply St_)) ?_) (Kd ⟨rfl,rfl,rfl,rfl,rfl,rfl,rfl,rfl,trivial⟩ mS)⟩
            rw [← less_word hx3 (Nat.mod_lt _ om) hm,if_pos h56]
          ·
            refine aD 1 rfl (dL rfl (hv:=by exact KE Tryz.underlying25 rfl sz_25)) ?_
            refine aL 3 rfl (sA rfl rfl sz_25 mO (hl:=mL) (h:=?_))
            refine aE ?_
            refine ⟨(x.2.1,x.1%x.2.1,x.2.2.2,lessM x.2.2.1 (x.1/x.2.1*x.2.2.2%m) m),⟨by dsimp only; omega,by dsimp only; have:=Nat.mod_lt x.1 (show 0<x.2.1 by omega); omega,hx6 hm1,fun _=>lessM_lt hx3 (Nat.mod_lt _ om),fun h=>absurd h om,hx7,inv_step rfl hx3 om hx5 hx7,by show Nat.gcd x.2.1 (x.1%x.2.1) = _; rw [← hx8,Nat.gcd_comm x.2.1,← Nat.gcd_rec,Nat.gcd_comm]⟩,Nat.mod_lt _ om,Kw (Sub.cells (b:=b12) (cs':=natL (lessM x.2.2.1 (x.1/x.2.1*x.2.2.2%m) m)) (by repeat (first|exact Sh _|apply St_)) ?_) (Kd ⟨rfl,rfl,rfl,rfl,rfl,rfl,rfl,rfl,trivial⟩ mS)⟩
            rw [← less_word hx3 (Nat.mod_lt _ om) hm,if_pos h56]
        ·
          have h56:¬ x.2.2.1<x.1/x.2.1*x.2.2.2%m:=h56
          refine KM ?_
          refine rD [2,3] ?_
          refine aD 0 rfl (dL rfl (hv:=by exact KE Tryz.underlying25 rfl sz_25)) ?_
          refine LAny.twoX 1 2 rfl rfl rfl rfl (by kernel_rfl) (.inr (LStep.det (dL rfl (hv:=by exact KE Tryz.underlying25 rfl sz_25)) (Nb rfl) ?_)) (.inl ⟨rfl,sA rfl rfl sz_25 mO (hl:=mL) (h:=?_)⟩)
          ·
            refine aL 2 rfl (sA rfl rfl sz_25 mO (hl:=mL) (h:=?_))
            refine aL 3 rfl (sA rfl rfl sz_25 mO (hl:=mL) (h:=?_))
            refine aE ?_
            refine ⟨(x.2.1,x.1%x.2.1,x.2.2.2,lessM x.2.2.1 (x.1/x.2.1*x.2.2.2%m) m),⟨by dsimp only; omega,by dsimp only; have:=Nat.mod_lt x.1 (show 0<x.2.1 by omega); omega,hx6 hm1,fun _=>lessM_lt hx3 (Nat.mod_lt _ om),fun h=>absurd h om,hx7,inv_step rfl hx3 om hx5 hx7,by show Nat.gcd x.2.1 (x.1%x.2.1) = _; rw [← hx8,Nat.gcd_comm x.2.1,← Nat.gcd_rec,Nat.gcd_comm]⟩,Nat.mod_lt _ om,Kw (Sub.cells (b:=b12) (cs':=natL (lessM x.2.2.1 (x.1/x.2.1*x.2.2.2%m) m)) (by repeat (first|exact Sh _|apply St_)) ?_) (Kd ⟨rfl,rfl,rfl,rfl,rfl,rfl,rfl,rfl,trivial⟩ mS)⟩
            rw [← less_word hx3 (Nat.mod_lt _ om) hm,if_neg h56]
          ·
            refine aD 1 rfl (dL rfl (hv:=by exact KE Tryz.underlying25 rfl sz_25)) ?_
            refine aL 3 rfl (sA rfl rfl sz_25 mO (hl:=mL) (h:=?_))
            refine aE ?_
            refine ⟨(x.2.1,x.1%x.2.1,x.2.2.2,lessM x.2.2.1 (x.1/x.2.1*x.2.2.2%m) m),⟨by dsimp only; omega,by dsimp only; have:=Nat.mod_lt x.1 (show 0<x.2.1 by omega); omega,hx6 hm1,fun _=>lessM_lt hx3 (Nat.mod_lt _ om),fun h=>absurd h om,hx7,inv_step rfl hx3 om hx5 hx7,by show Nat.gcd x.2.1 (x.1%x.2.1) = _; rw [← hx8,Nat.gcd_comm x.2.1,← Nat.gcd_rec,Nat.gcd_comm]⟩,Nat.mod_lt _ om,Kw (Sub.cells (b:=b12) (cs':=natL (lessM x.2.2.1 (x.1/x.2.1*x.2.2.2%m) m)) (by repeat (first|exact Sh _|apply St_)) ?_) (Kd ⟨rfl,rfl,rfl,rfl,rfl,rfl,rfl,rfl,trivial⟩ mS)⟩
            rw [← less_word hx3 (Nat.mod_lt _ om) hm,if_neg h56]
end Go.Proofs.YtlmiolnccgjjjaaGreat
set_option linter.unusedVariables false
set_option linter.unusedSimpArgs false
set_option maxRecDepth 20000
namespace Go.Proofs.YtlmiolnccgjjjaaGreat
open Go Go.RowKit
def fldL (p bd:Nat):List Value:=natL p++[.pointer (some ⟨bd,0,none⟩)]
theorem cmp_lt {A B:Nat}:Ku .lss .i64 (cmpI A B) .i64 0 = some (.bool (decide (A<B))):=by
  unfold cmpI
  by_cases h:A<B
  · rw [if_pos h,decide_eq_true h]; rfl
  · rw [if_neg h,decide_eq_false h]; split <;> rfl
theorem c_nat_AddS (A B:Nat) (w:World) (h:A+B<W9):Calls Tryz.prog 81 ([natV A,natV B]:List Value).toArray w (fun e w'=>e = .returned (.tuple #[natV (A+B),.bool false])∧Below w.heap.size w w'):=by
  have h1:=c_nat_Add A B om om w
  rwa [Nat.mod_eq_of_lt h,decide_eq_false om] at h1
theorem c_nat_SubS (A B:Nat) (w:World) (hA:A<W9) (h:B≤A):Calls Tryz.prog 60 ([natV A,natV B]:List Value).toArray w (fun e w'=>e = .returned (.tuple #[natV (A-B),.bool false])∧Below w.heap.size w w'):=by
  have h1:=c_nat_Sub A B hA om w
  have e:dif A B = A-B:=by
    unfold dif
    generalize W9 = M at *
    rw [show A+M-B = A-B+M by omega,Nat.add_mod_right,Nat.mod_eq_of_lt om]
  rwa [e,decide_eq_false om] at h1
theorem c_nat_SubU (A B:Nat) (w:World) (hB:B<W9) (h:A<B):Calls Tryz.prog 60 ([natV A,natV B]:List Value).toArray w (fun e w'=>e = .returned (.tuple #[natV (dif A B),.bool true])∧Below w.heap.size w w'):=by
  have h1:=c_nat_Sub A B om hB w
  rwa [decide_eq_true h] at h1
theorem dif_back {A B p:Nat} (hp:p<W9) (hB:B<p) (h:A<B):(dif A B+p)%W9 = A+p-B:=by
  unfold dif
  generalize W9 = M at *
  rw [Nat.mod_eq_of_lt (show A+M-B<M by omega),show A+M-B+p = A+p-B+M by omega,Nat.add_mod_right,Nat.mod_eq_of_lt om]
theorem w9_half {p:Nat} (h:p<P521):p+p<W9:=by
  obtain ⟨j,hj⟩:∃ j:Nat,j = 65:=⟨65,rfl⟩
  obtain ⟨k,hk⟩:∃ k:Nat,k = 9:=⟨9,rfl⟩
  rw [← p521 hj] at h
  rw [← w9 hk]
  have h2:2^(8*j+1+1)≤2^(64*k):=Nat.pow_le_pow_right dc om
  rw [Nat.pow_succ] at h2
  omega
theorem c_prime (id:Int) (w:World)  : Calls Tryz.prog 76 ([.int .i64 id]:List Value).toArray w (fun e w'=>(∃ V,cvI id = some V∧∃ s,e = .returned (.string s)∧(hexB s V.p && !s.data.toList.isEmpty) = true∧Below w.heap.size w w')∨(cvI id = none∧e = .returned (.string ⟨#[]⟩)∧Below w.heap.size w w')):=by
  refine Ka (N:=34) (rs:=[.tmp 2]) [] Tryz.func76 rfl Tryz.ntmps76 Tryz.results76 (Nb rfl) trivial rfl ?_
  show LCode _ _ _ ⟨_,_⟩ _
  refine KB (KA ?_)
  refine oA ?_
  refine KC ?_
  refine KB ?_
  refine KB (KA ?_)
  refine oM ?_
  refine KC ?_
  refine LCode.block ?_
  refine KB (KA ?_)
  refine oP (KD (v:=.bool (decide (id = 1))) rfl rfl KAQ) ?_
  refine oA ?_
  refine KC ?_
  first|refine KN rfl (fun hk1=>?_) (fun hk1=>?_)|refine KQ rfl (fun hk1=>?_) (fun hk1=>?_)
  ·
    refine KB (KA ?_)
    refine oA ?_
    refine KC (KI ?_)
    refine ⟨[_],.cons rfl .nil,fun a w' hr=>.inl ⟨cv1,by rw [hk1]; rfl,_,rfl,by kernel_rfl,hr.fr.below⟩⟩
  ·
    refine KB (KA ?_)
    refine oP (KD (v:=.bool (decide (id = 2))) rfl rfl KAQ) ?_
    refine oA ?_
    refine KC ?_
    first|refine KN rfl (fun hk2=>?_) (fun hk2=>?_)|refine KQ rfl (fun hk2=>?_) (fun hk2=>?_)
    ·
      refine KB (KA ?_)
      refine oA ?_
      refine KC (KI ?_)
      refine ⟨[_],.cons rfl .nil,fun a w' hr=>.inl ⟨cv2,by rw [hk2]; rfl,_,rfl,by kernel_rfl,hr.fr.below⟩⟩
    ·
      refine KB (KA ?_)
      refine oP (KD (v:=.bool (decide (id = 3))) rfl rfl KAQ) ?_
      refine oA ?_
      refine KC ?_
      first|refine KN rfl (fun hk3=>?_) (fun hk3=>?_)|refine KQ rfl (fun hk3=>?_) (fun hk3=>?_)
      ·
        refine KB (KA ?_)
        refine oA ?_
        refine KC (KI ?_)
        refine ⟨[_],.cons rfl .nil,fun a w' hr=>.inl ⟨cv3,by rw [hk3]; rfl,_,rfl,by kernel_rfl,hr.fr.below⟩⟩
      ·
        refine KB (KA ?_)
        refine oP (KD (v:=.bool (decide (id = 4))) rfl rfl KAQ) ?_
        refine oA ?_
        refine KC ?_
        first|refine KN rfl (fun hk4=>?_) (fun hk4=>?_)|refine KQ rfl (fun hk4=>?_) (fun hk4=>?_)
        ·
          refine KB (KA ?_)
          refine oA ?_
          refine KC (KI ?_)
          refine ⟨[_],.cons rfl .nil,fun a w' hr=>.inl ⟨cv4,by rw [hk4]; rfl,_,rfl,by kernel_rfl,hr.fr.below⟩⟩
        ·
          refine KB (KA ?_)
          refine oP (KD (v:=.bool (decide (id = 5))) rfl rfl KAQ) ?_
          refine oA ?_
          refine KC ?_
          first|refine KN rfl (fun hk5=>?_) (fun hk5=>?_)|refine KQ rfl (fun hk5=>?_) (fun hk5=>?_)
          ·
            refine KB (KA ?_)
            refine oA ?_
            refine KC (KI ?_)
            refine ⟨[_],.cons rfl .nil,fun a w' hr=>.inl ⟨cv5,by rw [hk5]; rfl,_,rfl,by kernel_rfl,hr.fr.below⟩⟩
          ·
            refine KB (KA ?_)
            refine oP (KD (v:=.bool (decide (id = 6))) rfl rfl KAQ) ?_
            refine oA ?_
            refine KC ?_
            first|refine KN rfl (fun hk6=>?_) (fun hk6=>?_)|refine KQ rfl (fun hk6=>?_) (fun hk6=>?_)
            ·
              refine KB (KA ?_)
              refine oA ?_
              refine KC (KI ?_)
              refine ⟨[_],.cons rfl .nil,fun a w' hr=>.inl ⟨cv6,by rw [hk6]; rfl,_,rfl,by kernel_rfl,hr.fr.below⟩⟩
            ·
              refine KB (KA ?_)
              refine oP (KD (v:=.bool (decide (id = 7))) rfl rfl KAQ) ?_
              refine oA ?_
              refine KC ?_
              first|refine KN rfl (fun hk7=>?_) (fun hk7=>?_)|refine KQ rfl (fun hk7=>?_) (fun hk7=>?_)
              ·
                refine KB (KA ?_)
                refine oA ?_
                refine KC (KI ?_)
                refine ⟨[_],.cons rfl .nil,fun a w' hr=>.inl ⟨cv7,by rw [hk7]; rfl,_,rfl,by kernel_rfl,hr.fr.below⟩⟩
              ·
                refine KB (KA ?_)
                refine oP (KD (v:=.bool (decide (id = 8))) rfl rfl KAQ) ?_
                refine oA ?_
                refine KC ?_
                first|refine KN rfl (fun hk8=>?_) (fun hk8=>?_)|refine KQ rfl (fun hk8=>?_) (fun hk8=>?_)
                ·
                  refine KB (KA ?_)
                  refine oA ?_
                  refine KC (KI ?_)
                  refine ⟨[_],.cons rfl .nil,fun a w' hr=>.inl ⟨cv8,by rw [hk8]; rfl,_,rfl,by kernel_rfl,hr.fr.below⟩⟩
                ·
                  refine KB (KA ?_)
                  refine oP (KD (v:=.bool (decide (id = 9))) rfl rfl KAQ) ?_
                  refine oA ?_
                  refine KC ?_
                  first|refine KN rfl (fun hk9=>?_) (fun hk9=>?_)|refine KQ rfl (fun hk9=>?_) (fun hk9=>?_)
                  ·
                    refine KB (KA ?_)
                    refine oA ?_
                    refine KC (KI ?_)
                    refine ⟨[_],.cons rfl .nil,fun a w' hr=>.inl ⟨cv9,by rw [hk9]; rfl,_,rfl,by kernel_rfl,hr.fr.below⟩⟩
                  ·
                    refine KB (KA ?_)
                    refine oP (KD (v:=.bool (decide (id = 10))) rfl rfl KAQ) ?_
                    refine oA ?_
                    refine KC ?_
                    first|refine KN rfl (fun hk10=>?_) (fun hk10=>?_)|refine KQ rfl (fun hk10=>?_) (fun hk10=>?_)
                    ·
                      refine KB (KA ?_)
                      refine oA ?_
                      refine KC (KI ?_)
                      refine ⟨[_],.cons rfl .nil,fun a w' hr=>.inl ⟨cv10,by rw [hk10]; rfl,_,rfl,by kernel_rfl,hr.fr.below⟩⟩
                    ·
                      refine KB (KA ?_)
                      refine oP (KD (v:=.bool (decide (id = 11))) rfl rfl KAQ) ?_
                      refine oA ?_
                      refine KC ?_
                      first|refine KN rfl (fun hk11=>?_) (fun hk11=>?_)|refine KQ rfl (fun hk11=>?_) (fun hk11=>?_)
                      ·
                        refine KB (KA ?_)
                        refine oA ?_
                        refine KC (KI ?_)
                        refine ⟨[_],.cons rfl .nil,fun a w' hr=>.inl ⟨cv11,by rw [hk11]; rfl,_,rfl,by kernel_rfl,hr.fr.below⟩⟩
                      ·
                        refine KB (KA ?_)
                        refine oP (KD (v:=.bool (decide (id = 12))) rfl rfl KAQ) ?_
                        refine oA ?_
                        refine KC ?_
                        first|refine KN rfl (fun hk12=>?_) (fun hk12=>?_)|refine KQ rfl (fun hk12=>?_) (fun hk12=>?_)
                        ·
                          refine KB (KA ?_)
                          refine oA ?_
                          refine KC (KI ?_)
                          refine ⟨[_],.cons rfl .nil,fun a w' hr=>.inl ⟨cv12,by rw [hk12]; rfl,_,rfl,by kernel_rfl,hr.fr.below⟩⟩
                        ·
                          refine KB (KA ?_)
                          refine oP (KD (v:=.bool (decide (id = 13))) rfl rfl KAQ) ?_
                          refine oA ?_
                          refine KC ?_
                          first|refine KN rfl (fun hk13=>?_) (fun hk13=>?_)|refine KQ rfl (fun hk13=>?_) (fun hk13=>?_)
                          ·
                            refine KB (KA ?_)
                            refine oA ?_
                            refine KC (KI ?_)
                            refine ⟨[_],.cons rfl .nil,fun a w' hr=>.inl ⟨cv13,by rw [hk13]; rfl,_,rfl,by kernel_rfl,hr.fr.below⟩⟩
                          ·
                            refine KB (KA ?_)
                            refine oP (KD (v:=.bool (decide (id = 14))) rfl rfl KAQ) ?_
                            refine oA ?_
                            refine KC ?_
                            first|refine KN rfl (fun hk14=>?_) (fun hk14=>?_)|refine KQ rfl (fun hk14=>?_) (fun hk14=>?_)
                            ·
                              refine KB (KA ?_)
                              refine oA ?_
                              refine KC (KI ?_)
                              refine ⟨[_],.cons rfl .nil,fun a w' hr=>.inl ⟨cv14,by rw [hk14]; rfl,_,rfl,by kernel_rfl,hr.fr.below⟩⟩
                            ·
                              refine KB (KA ?_)
                              refine oP (KD (v:=.bool (decide (id = 15))) rfl rfl KAQ) ?_
                              refine oA ?_
                              refine KC ?_
                              first|refine KN rfl (fun hk15=>?_) (fun hk15=>?_)|refine KQ rfl (fun hk15=>?_) (fun hk15=>?_)
                              ·
                                refine KB (KA ?_)
                                refine oA ?_
                                refine KC (KI ?_)
                                refine ⟨[_],.cons rfl .nil,fun a w' hr=>.inl ⟨cv15,by rw [hk15]; rfl,_,rfl,by kernel_rfl,hr.fr.below⟩⟩
                              ·
                                refine KM ?_
                                refine KB (KA ?_)
                                refine oA ?_
                                refine KC (KI ?_)
                                refine ⟨[_],.cons rfl .nil,fun a w' hr=>.inr ⟨cvI_none hk1 hk2 hk3 hk4 hk5 hk6 hk7 hk8 hk9 hk10 hk11 hk12 hk13 hk14 hk15,rfl,hr.fr.below⟩⟩
theorem c_prime_none (id:Int) (w:World) (h:cvI id = none):Calls Tryz.prog 76 ([.int .i64 id]:List Value).toArray w (fun e w'=>e = .returned (.string ⟨#[]⟩)∧Below w.heap.size w w') :=
  (c_prime id w).mono fun e w' h'=>by
    rcases h' with ⟨V,hV,_⟩|⟨_,h1,h2⟩
    · rw [h] at hV; cases hV
    · exact ⟨h1,h2⟩
theorem c_prime_some (id:Int) (V:Cv) (w:World) (h:cvI id = some V):Calls Tryz.prog 76 ([.int .i64 id]:List Value).toArray w (fun e w'=>∃ v,(∃ s,v = .string s∧hexB s V.p = true∧s.data.toList≠[])∧e = .returned v∧Below w.heap.size w w') :=
  (c_prime id w).mono fun e w' h'=>by
    rcases h' with ⟨V',hV,s,h1,h2,h3⟩|⟨h1,_⟩
    · rw [h] at hV; cases hV
      simp only [Bool.and_eq_true] at h2
      exact ⟨_,⟨s,rfl,h2.1,fun e=>by rw [e] at h2; cases h2.2⟩,h1,h3⟩
    · rw [h] at h1; cases h1
theorem hex_step {l:List UInt8} {x:Nat} (h:x<l.length):hexVal (l.drop (l.length-(x+1))) = hexD (l.getD (l.length-1-x) 0).toNat*16^x+hexVal (l.drop (l.length-x)):=by
  rw [drop_step h,hexVal,List.length_drop,show l.length-(l.length-x) = x by omega]
theorem hex_drop {l:List UInt8} (hok:hexOK l = true) (x:Nat) (h:x≤l.length):hexVal (l.drop (l.length-x))<16^x:=by
  have:=hexVal_lt (hexOK_drop hok (l.length-x))
  rwa [List.length_drop,show l.length-(l.length-x) = x by omega] at this
theorem c_f_Hex (s:ByteArray) (w:World) (hok:hexOK s.data.toList = true) (hs:s.size≤144):Calls Tryz.prog 59 ([.string s]:List Value).toArray w (fun e w'=>e = .returned (natV (hexVal s.data.toList))∧Below w.heap.size w w'):=by
  refine Ka (N:=47) (rs:=[.cell 2 25]) [] Tryz.func59 rfl Tryz.ntmps59 Tryz.results59 (Nb rfl) trivial rfl ?_
  show LCode _ _ _ ⟨_,_⟩ _
  refine KB (KA ?_)
  refine oS (mk (KP zr_25) (fun b2=>?_))
  refine KC ?_
  refine KB (KA ?_)
  refine oS (mk (KP zr_25) (fun b3=>?_))
  refine KC ?_
  refine KB ?_
  refine KB (KA ?_)
  refine oM ?_
  refine oP (Det.lens Tryz.underlying9 rfl) ?_
  refine oP (Kr (v:=.int .i64 ((0:Nat):Int)) rfl) ?_
  refine KC ?_
  refine LCode.block ?_
  refine Kh (α:=Nat) (fun x=>x≤s.size) (fun x=>⟨[(0,.string s),(2,.pointer (some ⟨b2,0,none⟩)),(3,.pointer (some ⟨b3,0,none⟩)),(8,.int .i64 ((s.size:Nat):Int)),(9,.int .i64 ((x:Nat):Int))],[.blk b3 ⟨true,natL (hexVal (s.data.toList.drop (s.size-(x)))),25,(0,0)⟩,.blk b2 ⟨true,vec .u64 9 (fun _=>0),25,(0,0)⟩]⟩) (fun x=>s.size-x) (0) (Nat.zero_le _) (Kw (Sub.cells (b:=b3) (cs':=natL (hexVal (s.data.toList.drop (s.size-(0))))) (by repeat (first|exact Sh _|apply St_)) (by rw [Nat.sub_zero,← size_list,List.drop_length]; exact vec_zeros 9)) (Kd ⟨rfl,rfl,rfl,rfl,rfl,trivial⟩ mS)) ?_
  intro x hx
  refine KB (KA ?_)
  refine oP (KD rfl rfl (KAR)) ?_
  refine KC ?_
  refine KB ?_
  first|refine KN rfl (fun h10=>?_) (fun h10=>?_)|refine KQ rfl (fun h10=>?_) (fun h10=>?_)
  ·
    have h10:x<s.size:=h10
    refine KM ?_
    refine KB ?_
    refine LCode.block ?_
    refine KB ?_
    have hdg:=hexOK_get hok (x:=s.size-1-x) (by show s.size-1-x<s.size; omega)
    refine KA ?_
    refine oM ?_
    refine oA ?_
    refine KC ?_
    refine KB (KA ?_)
    refine oM ?_
    refine oP (Det.lens Tryz.underlying9 rfl) ?_
    refine oP (KD rfl rfl (KAV (b:=1) om om)) ?_
    refine oM ?_
    refine oP (KD rfl rfl (KAV om om)) ?_
    refine oA ?_
    refine KC ?_
    refine KB (KA ?_)
    refine oM ?_
    refine oM ?_
    refine oP (KG (Ky Tryz.underlying9 rfl rfl om om) (vi (b:=(s.data.toList.getD (s.size-1-x) 0).toNat) (by rw [Int.toNat_natCast]))) ?_
    refine oP (KD (v:=.int .u8 (((s.data.toList.getD (s.size-1-x) 0).toNat-48:Nat):Int)) rfl rfl (br_sub8 (a:=(s.data.toList.getD (s.size-1-x) 0).toNat) (b:=48) om om)) ?_
    refine oP (Kz Tryz.underlying5 Tryz.underlying22 rfl (by first|omega|exact Nat.lt_trans (D.limb_lt _ _) dc)) ?_
    refine oA ?_
    refine KC ?_
    refine KB ?_
    refine KB (KA ?_)
    refine oM ?_
    refine oM ?_
    refine oP (KG (Ky Tryz.underlying9 rfl rfl om om) (vi (b:=(s.data.toList.getD (s.size-1-x) 0).toNat) (by rw [Int.toNat_natCast]))) ?_
    refine oP (KD rfl rfl (br_geq (b:=97))) ?_
    refine KC ?_
    first|refine KN rfl (fun h25=>?_) (fun h25=>?_)|refine KQ rfl (fun h25=>?_) (fun h25=>?_)
    ·
      have h25:97≤(s.data.toList.getD (s.size-1-x) 0).toNat:=by have:=h25; omega
      refine KA ?_
      refine oM ?_
      refine oM ?_
      refine oP (KG (Ky Tryz.underlying9 rfl rfl om om) (vi (b:=(s.data.toList.getD (s.size-1-x) 0).toNat) (by rw [Int.toNat_natCast]))) ?_
      refine oP (KD (v:=.int .u8 (((s.data.toList.getD (s.size-1-x) 0).toNat-97:Nat):Int)) rfl rfl (br_sub8 (a:=(s.data.toList.getD (s.size-1-x) 0).toNat) (b:=97) om om)) ?_
      refine oP (Kz Tryz.underlying5 Tryz.underlying22 rfl (by first|omega|exact Nat.lt_trans (D.limb_lt _ _) dc)) ?_
      refine oP (KD rfl rfl (KAK (b:=10))) ?_
      refine oA ?_
      refine KC ?_
      refine rD [13] ?_
      refine aM 0 ?_
      refine aP 1 rfl (KD rfl rfl (br_quo (b:=16) om om)) ?_
      refine aP 2 rfl (KF (o':=0) Tryz.underlying25 rfl rfl rfl sz_23 dc) ?_
      refine aP 3 rfl (Kg Tryz.underlying23 sz_22 rfl rfl om) ?_
      refine aD 4 rfl (dL rfl (hv:=KJ Tryz.underlying22 rfl (by exact KV _ (show x/16<9 by omega)))) ?_
      refine aM 5 ?_
      refine aM 6 ?_
      refine aP 7 rfl (KD rfl rfl (br_rem (b:=16) om)) ?_
      refine aP 8 rfl (KD rfl rfl (br_mul (a:=4) om)) ?_
      refine aP 9 rfl (KD rfl rfl (br_shl64)) ?_
      refine aP 10 rfl (KD rfl rfl (br_or64 (limb_lt _ _) (Nat.mod_lt _ dc))) ?_
      refine aP 11 rfl (KF (o':=0) Tryz.underlying25 rfl rfl rfl sz_23 dc) ?_
      refine aP 12 rfl (Kg Tryz.underlying23 sz_22 rfl rfl om) ?_
      refine aL 13 rfl (Kb rfl rfl rfl sz_22 (by repeat (first|exact Sh _|apply St_)) (by first|(simp only [KS,KH,KZ,Km]; omega)|(simp; done)|(simp; omega)) (by first|exact KAA _ _ _ _ _|exact KAF _ _ _ _ om|exact KAC _ _ _ _|rfl) (by simp) ?_)
      refine aE ?_
      refine KA ?_
      refine oP (KD rfl rfl (Kn (b:=1) om)) ?_
      refine oM ?_
      refine KC ?_
      have hb:=limb_piece64 (V:=hexVal (s.data.toList.drop (s.size-(x)))) (y:=hexD (s.data.toList.getD (s.size-1-x) 0).toNat) (s:=4) (w:=16) (i:=x/16) (k:=x%16) rfl (Nat.mod_lt _ dc) (by rw [show 16*(x/16)+x%16 = x by omega,← pow16]; exact hex_drop hok x hx) (hexD_lt hok (by show s.size-1-x<s.size; omega))
      refine ⟨x+1,by omega,by omega,Kw (Sub.cells (b:=b3) (cs':=natL (hexVal (s.data.toList.drop (s.size-(x+1))))) (by repeat (first|exact Sh _|apply St_)) ?_) (Kd ⟨rfl,rfl,rfl,rfl,rfl,trivial⟩ mS)⟩
      have hs:=hex_step (l:=s.data.toList) (x:=x) h10
      rw [size_list] at hs
      rw [hs]
      have e:16^x = 2^(4*(16*(x/16)+x%16)):=by rw [show 16*(x/16)+x%16 = x by omega,pow16]
      rw [e]
      refine Ks fun j _=>?_
      rw [hb.2 j]
      unfold hexD
      rw [if_pos h25,show ((s.data.toList.getD (s.size-1-x) 0).toNat-97+10)%18446744073709551616 = (s.data.toList.getD (s.size-1-x) 0).toNat-87 by omega]
    ·
      have h25:¬ 97≤(s.data.toList.getD (s.size-1-x) 0).toNat:=by have:=h25; omega
      refine KM ?_
      refine rD [13] ?_
      refine aM 0 ?_
      refine aP 1 rfl (KD rfl rfl (br_quo (b:=16) om om)) ?_
      refine aP 2 rfl (KF (o':=0) Tryz.underlying25 rfl rfl rfl sz_23 dc) ?_
      refine aP 3 rfl (Kg Tryz.underlying23 sz_22 rfl rfl om) ?_
      refine aD 4 rfl (dL rfl (hv:=KJ Tryz.underlying22 rfl (by exact KV _ (show x/16<9 by omega)))) ?_
      refine aM 5 ?_
      refine aM 6 ?_
      refine aP 7 rfl (KD rfl rfl (br_rem (b:=16) om)) ?_
      refine aP 8 rfl (KD rfl rfl (br_mul (a:=4) om)) ?_
      refine aP 9 rfl (KD rfl rfl (br_shl64)) ?_
      refine aP 10 rfl (KD rfl rfl (br_or64 (limb_lt _ _) (Nat.mod_lt _ dc))) ?_
      refine aP 11 rfl (KF (o':=0) Tryz.underlying25 rfl rfl rfl sz_23 dc) ?_
      refine aP 12 rfl (Kg Tryz.underlying23 sz_22 rfl rfl om) ?_
      refine aL 13 rfl (Kb rfl rfl rfl sz_22 (by repeat (first|exact Sh _|apply St_)) (by first|(simp only [KS,KH,KZ,Km]; omega)|(simp; done)|(simp; omega)) (by first|exact KAA _ _ _ _ _|exact KAF _ _ _ _ om|exact KAC _ _ _ _|rfl) (by simp) ?_)
      refine aE ?_
      refine KA ?_
      refine oP (KD rfl rfl (Kn (b:=1) om)) ?_
      refine oM ?_
      refine KC ?_
      have hb:=limb_piece64 (V:=hexVal (s.data.toList.drop (s.size-(x)))) (y:=hexD (s.data.toList.getD (s.size-1-x) 0).toNat) (s:=4) (w:=16) (i:=x/16) (k:=x%16) rfl (Nat.mod_lt _ dc) (by rw [show 16*(x/16)+x%16 = x by omega,← pow16]; exact hex_drop hok x hx) (hexD_lt hok (by show s.size-1-x<s.size; omega))
      refine ⟨x+1,by omega,by omega,Kw (Sub.cells (b:=b3) (cs':=natL (hexVal (s.data.toList.drop (s.size-(x+1))))) (by repeat (first|exact Sh _|apply St_)) ?_) (Kd ⟨rfl,rfl,rfl,rfl,rfl,trivial⟩ mS)⟩
      have hs:=hex_step (l:=s.data.toList) (x:=x) h10
      rw [size_list] at hs
      rw [hs]
      have e:16^x = 2^(4*(16*(x/16)+x%16)):=by rw [show 16*(x/16)+x%16 = x by omega,pow16]
      rw [e]
      refine Ks fun j _=>?_
      rw [hb.2 j]
      unfold hexD
      rw [if_neg h25]
  ·
    have h10:¬ x<s.size:=h10
    refine Ke ?_
    refine KB (KA ?_)
    refine oD (dL rfl (hv:=by exact KE Tryz.underlying25 rfl sz_25)) ?_
    refine KO rfl (sA rfl rfl sz_25 mO (hl:=mL) (h:=?_))
    refine KC (KI ?_)
    have hx9:x = s.size:=by omega
    subst hx9
    refine ⟨[_],.cons ⟨_,_,_,rfl,mM,by exact KE Tryz.underlying25 rfl sz_25⟩ .nil,fun a w' hr=>⟨?_,hr.fr.below⟩⟩
    rw [Nat.sub_self,List.drop_zero]
    rfl
theorem fhex (s:ByteArray) (n:Nat) (w:World) (h:hexB s n = true):Calls Tryz.prog 59 ([.string s]:List Value).toArray w (fun e w'=>e = .returned (natV n)∧Below w.heap.size w w'):=by
  obtain ⟨h1,h2,h3⟩:=hexB_spec h
  have:=c_f_Hex s w h1 h3
  rwa [h2] at this
theorem c_f_Of_none (id:Int) (w:World) (h:cvI id = none):Calls Tryz.prog 57 ([.int .i64 id]:List Value).toArray w (fun e w'=>e = .returned (.pointer none)∧Below w.heap.size w w'):=by
  refine Ka (N:=16) (rs:=[.tmp 2]) [] Tryz.func57 rfl Tryz.ntmps57 Tryz.results57 (Nb rfl) trivial rfl ?_
  show LCode _ _ _ ⟨_,_⟩ _
  refine KB (KA ?_)
  refine oA ?_
  refine KC ?_
  refine KB (KA ?_)
  refine oM ?_
  refine oS (cF rfl en_76 rfl (fun w hw=>c_prime_none id w h) ?_)
  refine oA ?_
  refine KC ?_
  refine KB ?_
  refine KB (KA ?_)
  refine oM ?_
  refine oP (KG (Det.eqs rfl rfl) (congrArg Value.bool (eq_str_t rfl))) ?_
  refine KC ?_
  refine KU rfl ?_
  refine KB (KA ?_)
  refine oA ?_
  refine KC (KI ?_)
  refine ⟨[_],.cons rfl .nil,fun a w' hr=>⟨?_,hr.fr.below⟩⟩
  rfl
theorem fill_fld (p bd:Nat):fillL [(0,9),(9,1)] (vec .u64 9 (fun _=>0)++[Value.pointer none]) [(0,natV p),(1,.agg [.pointer (some ⟨bd,0,none⟩)].toArray)] = some (fldL p bd):=by
  refine KAT (A:=[]) (B:=vec .u64 9 (fun _=>0)) (D:=[.pointer none]) (cs:=natL p) rfl rfl (KH _) rfl rfl (KS _ _ _) ?_
  refine (KAT (A:=natL p) (B:=[.pointer none]) (D:=[]) (cs:=[.pointer (some ⟨bd,0,none⟩)]) rfl rfl rfl (by simp) (KH _) rfl rfl).trans ?_
  simp [fldL]
theorem c_f_Of (id:Int) (V:Cv) (w:World) (h:cvI id = some V):Calls Tryz.prog 57 ([.int .i64 id]:List Value).toArray w (fun e w'=>∃ f bd,e = .returned (.pointer (some ⟨f,0,none⟩))∧(Item.blk f ⟨false,fldL V.p bd,116,(0,0)⟩).holds w'∧(Item.blk bd ⟨false,dvL V.p,167,(0,0)⟩).holds w'∧w.heap.size≤f∧w.heap.size≤bd∧Below w.heap.size w w'):=by
  obtain ⟨hok,hid⟩:=cvI_ok h
  refine Ka (N:=16) (rs:=[.tmp 2]) [] Tryz.func57 rfl Tryz.ntmps57 Tryz.results57 (Nb rfl) trivial rfl ?_
  show LCode _ _ _ ⟨_,_⟩ _
  refine KB (KA ?_)
  refine oA ?_
  refine KC ?_
  refine KB (KA ?_)
  refine oM ?_
  refine oS (LStep.callV (first:=[]) rfl en_76 rfl (Nb rfl) (fun w hw=>c_prime_some id V w h) ?_)
  rintro _ ⟨s,rfl,hB,hne⟩
  refine oA ?_
  refine KC ?_
  refine KB ?_
  refine KB (KA ?_)
  refine oM ?_
  refine oP (KG (Det.eqs rfl rfl) (congrArg Value.bool (eq_str_f hne))) ?_
  refine KC ?_
  refine KK rfl ?_
  refine KM ?_
  refine KB (KA ?_)
  refine oM ?_
  refine oS (cF rfl en_59 rfl (fun w hw=>fhex s V.p w hB) ?_)
  refine oS (mk (KP zr_25) (fun b4=>?_))
  refine KO rfl (sA rfl rfl sz_25 mO (hl:=mL) (h:=?_))
  refine KC ?_
  refine KB ?_
  have hbb:=hok.bounds
  have hpW:V.p<W9:=KAJ hbb.2.1
  have hp0:V.p≠0:=by omega
  refine rD [] ?_
  refine aD 0 rfl (dL rfl (hv:=by exact KE Tryz.underlying25 rfl sz_25)) ?_
  refine aD 1 rfl (dL rfl (hv:=by exact KE Tryz.underlying25 rfl sz_25)) ?_
  refine aO 2 rfl (KAL (Post:=fun v its=>∃ b,v = .agg [.pointer (some ⟨b,0,none⟩)].toArray∧its = [.blk b ⟨false,dvL V.p,167,(0,0)⟩]∧w.heap.size≤b) (first:=[]) rfl en_77 rfl (Nb rfl) (fun w1 hw hs=>(c_By V.p hp0 hpW w1).mono fun e w' ⟨b,h1,h2,h3,h4⟩=>⟨_,_,⟨b,rfl,rfl,Nat.le_trans hs h2⟩,h1,Brings.blk1 h4 h2 h3⟩) ?_)
  rintro _ _ ⟨bd,rfl,rfl,hnbd⟩
  refine aP 3 rfl (KG (Kp pl_116 zr_116 rfl (fill_fld _ _)) rfl) ?_
  refine aO 4 rfl (mB (fun b15=>?_))
  refine aA 5 ?_
  refine aE ?_
  refine KI ?_
  refine ⟨[_],.cons rfl .nil,fun a w' hr=>⟨b15,bd,rfl,(show (Item.blk b15 ⟨true,_,_,_⟩).holds w' from hr.hp _ mM),hr.hp _ mM,hr.new (B:=⟨true,_,_,_⟩) mM rfl,hnbd,hr.fr.below⟩⟩
theorem c_f_Has (V:Cv) (f bd A:Nat) (w:World) (hf:(Item.blk f ⟨false,fldL V.p bd,116,(0,0)⟩).holds w) (hA:A<W9) (hpW:V.p<W9):Calls Tryz.prog 82 ([.pointer (some ⟨f,0,none⟩),natV A]:List Value).toArray w (fun e w'=>e = .returned (.bool (decide (A<V.p)))∧Below w.heap.size w w'):=by
  refine Ka (N:=12) (rs:=[.tmp 4]) [.blk f ⟨false,fldL V.p bd,116,(0,0)⟩] Tryz.func82 rfl Tryz.ntmps82 Tryz.results82 (Nb rfl) ⟨hf,trivial⟩ rfl ?_
  show LCode _ _ _ ⟨_,_⟩ _
  refine KB (KA ?_)
  refine oS (mB (fun b3=>?_))
  refine oA ?_
  refine KC ?_
  refine KB ?_
  refine rD [] ?_
  refine aD 0 rfl (dL rfl (hv:=by exact KE Tryz.underlying25 rfl sz_25)) ?_
  refine aM 1 ?_
  refine aP 2 rfl (KL rfl) ?_
  refine aP 3 rfl (KF (o':=0) Tryz.underlying116 rfl rfl rfl sz_25 dc) ?_
  refine aD 4 rfl (dL rfl (hv:=by exact Kv Tryz.underlying25 rfl sz_25 rfl (KH _))) ?_
  refine aO 5 rfl (cF rfl en_68 rfl (fun w hw=>c_nat_Cmp A V.p hA hpW w) ?_)
  refine aP 6 rfl (KD rfl rfl (cmp_lt)) ?_
  refine aA 7 ?_
  refine aE ?_
  refine KI ?_
  refine ⟨[_],.cons rfl .nil,fun a w' hr=>⟨?_,hr.fr.below⟩⟩
  rfl
theorem c_f_Add (V:Cv) (f bd A B:Nat) (w:World) (hf:(Item.blk f ⟨false,fldL V.p bd,116,(0,0)⟩).holds w) (hp:V.p<P521) (hA:A<V.p) (hB:B<V.p):Calls Tryz.prog 63 ([.pointer (some ⟨f,0,none⟩),natV A,natV B]:List Value).toArray w (fun e w'=>e = .returned (natV ((A+B)%V.p))∧Below w.heap.size w w'):=by
  have hpp:=w9_half hp
  have hW:A+B<W9:=by omega
  refine Ka (N:=33) (rs:=[.cell 6 25]) [.blk f ⟨false,fldL V.p bd,116,(0,0)⟩] Tryz.func63 rfl Tryz.ntmps63 Tryz.results63 (Nb rfl) ⟨hf,trivial⟩ rfl ?_
  show LCode _ _ _ ⟨_,_⟩ _
  refine KB (KA ?_)
  refine oS (mB (fun b4=>?_))
  refine oS (mB (fun b5=>?_))
  refine oS (mk (KP zr_25) (fun b6=>?_))
  refine KC ?_
  refine KB (KA ?_)
  refine oD (dL rfl (hv:=by exact KE Tryz.underlying25 rfl sz_25)) ?_
  refine oD (dL rfl (hv:=by exact KE Tryz.underlying25 rfl sz_25)) ?_
  refine oS (cF rfl en_81 rfl (fun w hw=>c_nat_AddS A B w hW) ?_)
  refine oM ?_
  refine oP (Det.extract rfl rfl) ?_
  refine oP (Det.extract rfl rfl) ?_
  refine oS (mk (KP zr_25) (fun b7=>?_))
  refine KO rfl (sA rfl rfl sz_25 mO (hl:=mL) (h:=?_))
  refine oA ?_
  refine KC ?_
  refine KB ?_
  refine KB ?_
  rcases Nat.lt_or_ge (A+B) V.p with hl|hg
  ·
    refine rD [10] ?_
    refine aD 0 rfl (dL rfl (hv:=by exact KE Tryz.underlying25 rfl sz_25)) ?_
    refine aM 1 ?_
    refine aP 2 rfl (KL rfl) ?_
    refine aP 3 rfl (KF (o':=0) Tryz.underlying116 rfl rfl rfl sz_25 dc) ?_
    refine aD 4 rfl (dL rfl (hv:=by exact Kv Tryz.underlying25 rfl sz_25 rfl (KH _))) ?_
    refine LAny.toP ?_
    refine Kx 9 rfl (.inl zr_25) (Nb rfl) rfl rfl rfl ?_
    refine Kl 5 rfl rfl rfl (Nb rfl) (by kernel_rfl) rfl (Kq (first:=[]) rfl en_60 rfl (fun w hw=>c_nat_SubU (A+B) V.p w om hl)) ?_
    rintro _ _ ⟨rfl,rfl⟩
    refine pM 6 ?_
    refine pP 7 rfl (Det.extract rfl rfl) ?_
    refine pP 8 rfl (Det.extract rfl rfl) ?_
    refine pE (fun b9=>?_)
    refine KAN ?_
    refine aL 10 rfl (sA rfl rfl sz_25 mO (hl:=mL) (h:=?_))
    refine aA 11 ?_
    refine aE ?_
    refine KB (KA ?_)
    refine oM ?_
    refine oM ?_
    refine oGM ?_
    refine oGP (KG (Det.not rfl) (show _ = Value.bool false from rfl)) ?_
    refine oP (KY rfl rfl) ?_
    refine KC ?_
    refine KK rfl ?_
    refine KM ?_
    refine KB (KA ?_)
    refine oD (dL rfl (hv:=by exact KE Tryz.underlying25 rfl sz_25)) ?_
    refine KO rfl (sA rfl rfl sz_25 mO (hl:=mL) (h:=?_))
    refine KC (KI ?_)
    refine ⟨[_],.cons ⟨_,_,_,rfl,mM,by exact KE Tryz.underlying25 rfl sz_25⟩ .nil,fun a w' hr=>⟨?_,hr.fr.below⟩⟩
    rw [Nat.mod_eq_of_lt hl]
    rfl
  ·
    refine rD [10] ?_
    refine aD 0 rfl (dL rfl (hv:=by exact KE Tryz.underlying25 rfl sz_25)) ?_
    refine aM 1 ?_
    refine aP 2 rfl (KL rfl) ?_
    refine aP 3 rfl (KF (o':=0) Tryz.underlying116 rfl rfl rfl sz_25 dc) ?_
    refine aD 4 rfl (dL rfl (hv:=by exact Kv Tryz.underlying25 rfl sz_25 rfl (KH _))) ?_
    refine LAny.toP ?_
    refine Kx 9 rfl (.inl zr_25) (Nb rfl) rfl rfl rfl ?_
    refine Kl 5 rfl rfl rfl (Nb rfl) (by kernel_rfl) rfl (Kq (first:=[]) rfl en_60 rfl (fun w hw=>c_nat_SubS (A+B) V.p w hW hg)) ?_
    rintro _ _ ⟨rfl,rfl⟩
    refine pM 6 ?_
    refine pP 7 rfl (Det.extract rfl rfl) ?_
    refine pP 8 rfl (Det.extract rfl rfl) ?_
    refine pE (fun b9=>?_)
    refine KAN ?_
    refine aL 10 rfl (sA rfl rfl sz_25 mO (hl:=mL) (h:=?_))
    refine aA 11 ?_
    refine aE ?_
    refine KB (KA ?_)
    refine oM ?_
    refine oM ?_
    refine oGM ?_
    refine oGP (KG (Det.not rfl) (show _ = Value.bool true from rfl)) ?_
    refine oP (KY rfl rfl) ?_
    refine KC ?_
    refine KU rfl ?_
    refine KB (KA ?_)
    refine oD (dL rfl (hv:=by exact KE Tryz.underlying25 rfl sz_25)) ?_
    refine KO rfl (sA rfl rfl sz_25 mO (hl:=mL) (h:=?_))
    refine KC (KI ?_)
    refine ⟨[_],.cons ⟨_,_,_,rfl,mM,by exact KE Tryz.underlying25 rfl sz_25⟩ .nil,fun a w' hr=>⟨?_,hr.fr.below⟩⟩
    rw [Nat.mod_eq_sub_mod hg,Nat.mod_eq_of_lt om]
    rfl
theorem c_f_Sub (V:Cv) (f bd A B:Nat) (w:World) (hf:(Item.blk f ⟨false,fldL V.p bd,116,(0,0)⟩).holds w) (hp:V.p<P521) (hA:A<V.p) (hB:B<V.p):Calls Tryz.prog 86 ([.pointer (some ⟨f,0,none⟩),natV A,natV B]:List Value).toArray w (fun e w'=>e = .returned (natV ((A+V.p-B)%V.p))∧Below w.heap.size w w'):=by
  have hpp:=w9_half hp
  refine Ka (N:=26) (rs:=[.cell 6 25]) [.blk f ⟨false,fldL V.p bd,116,(0,0)⟩] Tryz.func86 rfl Tryz.ntmps86 Tryz.results86 (Nb rfl) ⟨hf,trivial⟩ rfl ?_
  show LCode _ _ _ ⟨_,_⟩ _
  refine KB (KA ?_)
  refine oS (mB (fun b4=>?_))
  refine oS (mB (fun b5=>?_))
  refine oS (mk (KP zr_25) (fun b6=>?_))
  refine KC ?_
  refine KB ?_
  rcases Nat.lt_or_ge A B with hl|hg
  ·
    refine KA ?_
    refine oD (dL rfl (hv:=by exact KE Tryz.underlying25 rfl sz_25)) ?_
    refine oD (dL rfl (hv:=by exact KE Tryz.underlying25 rfl sz_25)) ?_
    refine oS (cF rfl en_60 rfl (fun w hw=>c_nat_SubU A B w om hl) ?_)
    refine oM ?_
    refine oP (Det.extract rfl rfl) ?_
    refine oP (Det.extract rfl rfl) ?_
    refine oS (mk (KP zr_25) (fun b7=>?_))
    refine KO rfl (sA rfl rfl sz_25 mO (hl:=mL) (h:=?_))
    refine oA ?_
    refine KC ?_
    refine KB ?_
    refine KB (KA ?_)
    refine oM ?_
    refine KC ?_
    refine KU rfl ?_
    refine rD [9] ?_
    refine aD 0 rfl (dL rfl (hv:=by exact KE Tryz.underlying25 rfl sz_25)) ?_
    refine aM 1 ?_
    refine aP 2 rfl (KL rfl) ?_
    refine aP 3 rfl (KF (o':=0) Tryz.underlying116 rfl rfl rfl sz_25 dc) ?_
    refine aD 4 rfl (dL rfl (hv:=by exact Kv Tryz.underlying25 rfl sz_25 rfl (KH _))) ?_
    refine aO 5 rfl (cF rfl en_81 rfl (fun w hw=>c_nat_Add (dif A B) V.p (dif_lt _ _) om w) ?_)
    refine aM 6 ?_
    refine aP 7 rfl (Det.extract rfl rfl) ?_
    refine aP 8 rfl (Det.extract rfl rfl) ?_
    refine aL 9 rfl (sA rfl rfl sz_25 mO (hl:=mL) (h:=?_))
    refine aE ?_
    refine KB (KA ?_)
    refine oD (dL rfl (hv:=by exact KE Tryz.underlying25 rfl sz_25)) ?_
    refine KO rfl (sA rfl rfl sz_25 mO (hl:=mL) (h:=?_))
    refine KC (KI ?_)
    refine ⟨[_],.cons ⟨_,_,_,rfl,mM,by exact KE Tryz.underlying25 rfl sz_25⟩ .nil,fun a w' hr=>⟨?_,hr.fr.below⟩⟩
    rw [dif_back om hB hl,Nat.mod_eq_of_lt (show A+V.p-B<V.p by omega)]
    rfl
  ·
    refine KA ?_
    refine oD (dL rfl (hv:=by exact KE Tryz.underlying25 rfl sz_25)) ?_
    refine oD (dL rfl (hv:=by exact KE Tryz.underlying25 rfl sz_25)) ?_
    refine oS (cF rfl en_60 rfl (fun w hw=>c_nat_SubS A B w om hg) ?_)
    refine oM ?_
    refine oP (Det.extract rfl rfl) ?_
    refine oP (Det.extract rfl rfl) ?_
    refine oS (mk (KP zr_25) (fun b7=>?_))
    refine KO rfl (sA rfl rfl sz_25 mO (hl:=mL) (h:=?_))
    refine oA ?_
    refine KC ?_
    refine KB ?_
    refine KB (KA ?_)
    refine oM ?_
    refine KC ?_
    refine KK rfl ?_
    refine KM ?_
    refine KB (KA ?_)
    refine oD (dL rfl (hv:=by exact KE Tryz.underlying25 rfl sz_25)) ?_
    refine KO rfl (sA rfl rfl sz_25 mO (hl:=mL) (h:=?_))
    refine KC (KI ?_)
    refine ⟨[_],.cons ⟨_,_,_,rfl,mM,by exact KE Tryz.underlying25 rfl sz_25⟩ .nil,fun a w' hr=>⟨?_,hr.fr.below⟩⟩
    rw [show A+V.p-B = A-B+V.p by omega,Nat.add_mod_right,Nat.mod_eq_of_lt om]
    rfl
theorem c_f_Mul (V:Cv) (f bd A B:Nat) (w:World) (hf:(Item.blk f ⟨false,fldL V.p bd,116,(0,0)⟩).holds w) (hbd:(Item.blk bd ⟨false,dvL V.p,167,(0,0)⟩).holds w) (hp0:V.p≠0) (hpW:V.p<W9) (hA:A<W9) (hB:B<W9):Calls Tryz.prog 87 ([.pointer (some ⟨f,0,none⟩),natV A,natV B]:List Value).toArray w (fun e w'=>e = .returned (natV (A*B%V.p))∧Below w.heap.size w w'):=by
  refine Ka (N:=14) (rs:=[.cell 6 25]) [.blk f ⟨false,fldL V.p bd,116,(0,0)⟩,.blk bd ⟨false,dvL V.p,167,(0,0)⟩] Tryz.func87 rfl Tryz.ntmps87 Tryz.results87 (Nb rfl) ⟨hf,hbd,trivial⟩ rfl ?_
  show LCode _ _ _ ⟨_,_⟩ _
  refine KB (KA ?_)
  refine oS (mB (fun b4=>?_))
  refine oS (mB (fun b5=>?_))
  refine oS (mk (KP zr_25) (fun b6=>?_))
  refine KC ?_
  refine KB ?_
  refine rD [7] ?_
  refine aM 0 ?_
  refine aP 1 rfl (KL rfl) ?_
  refine aP 2 rfl (KF (o':=9) Tryz.underlying116 rfl rfl rfl sz_114 dc) ?_
  refine aD 3 rfl (dL rfl (hv:=by exact LoadV.last Tryz.underlying114 rfl sz_114 rfl (KH _) rfl)) ?_
  refine aD 4 rfl (dL rfl (hv:=by exact KE Tryz.underlying25 rfl sz_25)) ?_
  refine aD 5 rfl (dL rfl (hv:=by exact KE Tryz.underlying25 rfl sz_25)) ?_
  refine aO 6 rfl (cF rfl en_100 rfl (fun w hw=>c_Mul V.p A B bd hp0 hpW w (mC hw) hA hB) ?_)
  refine aL 7 rfl (sA rfl rfl sz_25 mO (hl:=mL) (h:=?_))
  refine aE ?_
  refine KI ?_
  refine ⟨[_],.cons ⟨_,_,_,rfl,mM,by exact KE Tryz.underlying25 rfl sz_25⟩ .nil,fun a w' hr=>⟨?_,hr.fr.below⟩⟩
  rfl
theorem c_f_Inv (V:Cv) (f bd A:Nat) (w:World) (hf:(Item.blk f ⟨false,fldL V.p bd,116,(0,0)⟩).holds w) (hp0:V.p≠0) (hpW:V.p<W9) (hA:A<W9):Calls Tryz.prog 106 ([.pointer (some ⟨f,0,none⟩),natV A]:List Value).toArray w (fun e w'=>e = .returned (natV (invM A V.p))∧Below w.heap.size w w'):=by
  refine Ka (N:=17) (rs:=[.cell 4 25]) [.blk f ⟨false,fldL V.p bd,116,(0,0)⟩] Tryz.func106 rfl Tryz.ntmps106 Tryz.results106 (Nb rfl) ⟨hf,trivial⟩ rfl ?_
  show LCode _ _ _ ⟨_,_⟩ _
  refine KB (KA ?_)
  refine oS (mB (fun b3=>?_))
  refine oS (mk (KP zr_25) (fun b4=>?_))
  refine KC ?_
  refine KB ?_
  refine rD [10] ?_
  refine aD 0 rfl (dL rfl (hv:=by exact KE Tryz.underlying25 rfl sz_25)) ?_
  refine aM 1 ?_
  refine aP 2 rfl (KL rfl) ?_
  refine aP 3 rfl (KF (o':=0) Tryz.underlying116 rfl rfl rfl sz_25 dc) ?_
  refine aD 4 rfl (dL rfl (hv:=by exact Kv Tryz.underlying25 rfl sz_25 rfl (KH _))) ?_
  refine LAny.toP ?_
  refine Kx 9 rfl (.inl zr_25) (Nb rfl) rfl rfl rfl ?_
  refine Kl 5 rfl rfl rfl (Nb rfl) (by kernel_rfl) rfl (Kq (first:=[]) rfl en_114 rfl (fun w hw=>c_Inverse A V.p hp0 w hA hpW)) ?_
  rintro _ _ ⟨rfl,rfl⟩
  refine pM 6 ?_
  refine pP 7 rfl (Det.extract rfl rfl) ?_
  refine pP 8 rfl (Det.extract rfl rfl) ?_
  refine pE (fun b5=>?_)
  refine KAN ?_
  refine aL 10 rfl (sA rfl rfl sz_25 mO (hl:=mL) (h:=?_))
  refine aA 11 ?_
  refine aE ?_
  refine KB (KA ?_)
  refine oD (dL rfl (hv:=by exact KE Tryz.underlying25 rfl sz_25)) ?_
  refine KO rfl (sA rfl rfl sz_25 mO (hl:=mL) (h:=?_))
  refine KC (KI ?_)
  refine ⟨[_],.cons ⟨_,_,_,rfl,mM,by exact KE Tryz.underlying25 rfl sz_25⟩ .nil,fun a w' hr=>⟨?_,hr.fr.below⟩⟩
  rfl
end Go.Proofs.YtlmiolnccgjjjaaGreat
set_option linter.unusedVariables false
set_option linter.unusedSimpArgs false
set_option maxRecDepth 20000
namespace Go.Proofs.YtlmiolnccgjjjaaGreat
open Go Go.RowKit
def cvC (id:Nat) (p:Nat) (a:Nat) (b:Nat) (n:Nat) (gx gy:Nat) (inf:Bool) (bits:Nat) (size:Nat) (leg:Bool) (F:Value) (t3:Nat):List Value:=[.int .i64 ((id:Nat):Int)]++(natL p++(natL a++(natL b++(natL n++(ptL gx gy inf++([.int .i64 ((bits:Nat):Int)]++([.int .i64 ((size:Nat):Int)]++([.bool leg]++([F]++(natL t3))))))))))
theorem cvC_at_id (id:Nat) (p:Nat) (a:Nat) (b:Nat) (n:Nat) (gx gy:Nat) (inf:Bool) (bits:Nat) (size:Nat) (leg:Bool) (F:Value) (t3:Nat):cvC id p a b n gx gy inf bits size leg F t3 = ([])++(([.int .i64 ((id:Nat):Int)])++(natL p++(natL a++(natL b++(natL n++(ptL gx gy inf++([.int .i64 ((bits:Nat):Int)]++([.int .i64 ((size:Nat):Int)]++([.bool leg]++([F]++(natL t3))))))))))):=by simp only [cvC,List.append_assoc,List.append_nil,List.nil_append]
theorem cvC_len_id  : ([]:List Value).length = 0:=by simp [KH,KX]
theorem cvC_set_id (id:Nat) (p:Nat) (a:Nat) (b:Nat) (n:Nat) (gx gy:Nat) (inf:Bool) (bits:Nat) (size:Nat) (leg:Bool) (F:Value) (t3:Nat) (id':Nat):splice (cvC id p a b n gx gy inf bits size leg F t3) 0 ([.int .i64 ((id':Nat):Int)]) = cvC id' p a b n gx gy inf bits size leg F t3:=splice_mid (cvC_at_id id p a b n gx gy inf bits size leg F t3) (cvC_len_id) (by simp [KH,KX]) (cvC_at_id id' p a b n gx gy inf bits size leg F t3)
theorem cvC_at_p (id:Nat) (p:Nat) (a:Nat) (b:Nat) (n:Nat) (gx gy:Nat) (inf:Bool) (bits:Nat) (size:Nat) (leg:Bool) (F:Value) (t3:Nat):cvC id p a b n gx gy inf bits size leg F t3 = ([.int .i64 ((id:Nat):Int)])++((natL p)++(natL a++(natL b++(natL n++(ptL gx gy inf++([.int .i64 ((bits:Nat):Int)]++([.int .i64 ((size:Nat):Int)]++([.bool leg]++([F]++(natL t3)))))))))):=by simp only [cvC,List.append_assoc,List.append_nil,List.nil_append]
theorem cvC_len_p (id:Nat):([.int .i64 ((id:Nat):Int)]:List Value).length = 1:=by simp [KH,KX]
theorem cvC_set_p (id:Nat) (p:Nat) (a:Nat) (b:Nat) (n:Nat) (gx gy:Nat) (inf:Bool) (bits:Nat) (size:Nat) (leg:Bool) (F:Value) (t3:Nat) (p':Nat):splice (cvC id p a b n gx gy inf bits size leg F t3) 1 (natL p') = cvC id p' a b n gx gy inf bits size leg F t3:=splice_mid (cvC_at_p id p a b n gx gy inf bits size leg F t3) (cvC_len_p id) (by simp [KH,KX]) (cvC_at_p id p' a b n gx gy inf bits size leg F t3)
theorem cvC_at_a (id:Nat) (p:Nat) (a:Nat) (b:Nat) (n:Nat) (gx gy:Nat) (inf:Bool) (bits:Nat) (size:Nat) (leg:Bool) (F:Value) (t3:Nat):cvC id p a b n gx gy inf bits size leg F t3 = ([.int .i64 ((id:Nat):Int)]++(natL p))++((natL a)++(natL b++(natL n++(ptL gx gy inf++([.int .i64 ((bits:Nat):Int)]++([.int .i64 ((size:Nat):Int)]++([.bool leg]++([F]++(natL t3))))))))):=by simp only [cvC,List.append_assoc,List.append_nil,List.nil_append]
theorem cvC_len_a (id:Nat) (p:Nat):([.int .i64 ((id:Nat):Int)]++(natL p):List Value).length = 10:=by simp [KH,KX]
theorem cvC_set_a (id:Nat) (p:Nat) (a:Nat) (b:Nat) (n:Nat) (gx gy:Nat) (inf:Bool) (bits:Nat) (size:Nat) (leg:Bool) (F:Value) (t3:Nat) (a':Nat):splice (cvC id p a b n gx gy inf bits size leg F t3) 10 (natL a') = cvC id p a' b n gx gy inf bits size leg F t3:=splice_mid (cvC_at_a id p a b n gx gy inf bits size leg F t3) (cvC_len_a id p) (by simp [KH,KX]) (cvC_at_a id p a' b n gx gy inf bits size leg F t3)
theorem cvC_at_b (id:Nat) (p:Nat) (a:Nat) (b:Nat) (n:Nat) (gx gy:Nat) (inf:Bool) (bits:Nat) (size:Nat) (leg:Bool) (F:Value) (t3:Nat):cvC id p a b n gx gy inf bits size leg F t3 = ([.int .i64 ((id:Nat):Int)]++(natL p++(natL a)))++((natL b)++(natL n++(ptL gx gy inf++([.int .i64 ((bits:Nat):Int)]++([.int .i64 ((size:Nat):Int)]++([.bool leg]++([F]++(natL t3)))))))):=by simp only [cvC,List.append_assoc,List.append_nil,List.nil_append]
theorem cvC_len_b (id:Nat) (p:Nat) (a:Nat):([.int .i64 ((id:Nat):Int)]++(natL p++(natL a)):List Value).length = 19:=by simp [KH,KX]
theorem cvC_set_b (id:Nat) (p:Nat) (a:Nat) (b:Nat) (n:Nat) (gx gy:Nat) (inf:Bool) (bits:Nat) (size:Nat) (leg:Bool) (F:Value) (t3:Nat) (b':Nat):splice (cvC id p a b n gx gy inf bits size leg F t3) 19 (natL b') = cvC id p a b' n gx gy inf bits size leg F t3:=splice_mid (cvC_at_b id p a b n gx gy inf bits size leg F t3) (cvC_len_b id p a) (by simp [KH,KX]) (cvC_at_b id p a b' n gx gy inf bits size leg F t3)
theorem cvC_at_n (id:Nat) (p:Nat) (a:Nat) (b:Nat) (n:Nat) (gx gy:Nat) (inf:Bool) (bits:Nat) (size:Nat) (leg:Bool) (F:Value) (t3:Nat):cvC id p a b n gx gy inf bits size leg F t3 = ([.int .i64 ((id:Nat):Int)]++(natL p++(natL a++(natL b))))++((natL n)++(ptL gx gy inf++([.int .i64 ((bits:Nat):Int)]++([.int .i64 ((size:Nat):Int)]++([.bool leg]++([F]++(natL t3))))))):=by simp only [cvC,List.append_assoc,List.append_nil,List.nil_append]
theorem cvC_len_n (id:Nat) (p:Nat) (a:Nat) (b:Nat):([.int .i64 ((id:Nat):Int)]++(natL p++(natL a++(natL b))):List Value).length = 28:=by simp [KH,KX]
theorem cvC_set_n (id:Nat) (p:Nat) (a:Nat) (b:Nat) (n:Nat) (gx gy:Nat) (inf:Bool) (bits:Nat) (size:Nat) (leg:Bool) (F:Value) (t3:Nat) (n':Nat):splice (cvC id p a b n gx gy inf bits size leg F t3) 28 (natL n') = cvC id p a b n' gx gy inf bits size leg F t3:=splice_mid (cvC_at_n id p a b n gx gy inf bits size leg F t3) (cvC_len_n id p a b) (by simp [KH,KX]) (cvC_at_n id p a b n' gx gy inf bits size leg F t3)
theorem cvC_at_g (id:Nat) (p:Nat) (a:Nat) (b:Nat) (n:Nat) (gx gy:Nat) (inf:Bool) (bits:Nat) (size:Nat) (leg:Bool) (F:Value) (t3:Nat):cvC id p a b n gx gy inf bits size leg F t3 = ([.int .i64 ((id:Nat):Int)]++(natL p++(natL a++(natL b++(natL n)))))++((ptL gx gy inf)++([.int .i64 ((bits:Nat):Int)]++([.int .i64 ((size:Nat):Int)]++([.bool leg]++([F]++(natL t3)))))):=by simp only [cvC,List.append_assoc,List.append_nil,List.nil_append]
theorem cvC_len_g (id:Nat) (p:Nat) (a:Nat) (b:Nat) (n:Nat):([.int .i64 ((id:Nat):Int)]++(natL p++(natL a++(natL b++(natL n)))):List Value).length = 37:=by simp [KH,KX]
theorem cvC_set_g (id:Nat) (p:Nat) (a:Nat) (b:Nat) (n:Nat) (gx gy:Nat) (inf:Bool) (bits:Nat) (size:Nat) (leg:Bool) (F:Value) (t3:Nat) (gx' gy':Nat) (inf':Bool):splice (cvC id p a b n gx gy inf bits size leg F t3) 37 (ptL gx' gy' inf') = cvC id p a b n gx' gy' inf' bits size leg F t3:=splice_mid (cvC_at_g id p a b n gx gy inf bits size leg F t3) (cvC_len_g id p a b n) (by simp [KH,KX]) (cvC_at_g id p a b n gx' gy' inf' bits size leg F t3)
theorem cvC_at_bits (id:Nat) (p:Nat) (a:Nat) (b:Nat) (n:Nat) (gx gy:Nat) (inf:Bool) (bits:Nat) (size:Nat) (leg:Bool) (F:Value) (t3:Nat):cvC id p a b n gx gy inf bits size leg F t3 = ([.int .i64 ((id:Nat):Int)]++(natL p++(natL a++(natL b++(natL n++(ptL gx gy inf))))))++(([.int .i64 ((bits:Nat):Int)])++([.int .i64 ((size:Nat):Int)]++([.bool leg]++([F]++(natL t3))))):=by simp only [cvC,List.append_assoc,List.append_nil,List.nil_append]
theorem cvC_len_bits (id:Nat) (p:Nat) (a:Nat) (b:Nat) (n:Nat) (gx gy:Nat) (inf:Bool):([.int .i64 ((id:Nat):Int)]++(natL p++(natL a++(natL b++(natL n++(ptL gx gy inf))))):List Value).length = 56:=by simp [KH,KX]
theorem cvC_set_bits (id:Nat) (p:Nat) (a:Nat) (b:Nat) (n:Nat) (gx gy:Nat) (inf:Bool) (bits:Nat) (size:Nat) (leg:Bool) (F:Value) (t3:Nat) (bits':Nat):splice (cvC id p a b n gx gy inf bits size leg F t3) 56 ([.int .i64 ((bits':Nat):Int)]) = cvC id p a b n gx gy inf bits' size leg F t3:=splice_mid (cvC_at_bits id p a b n gx gy inf bits size leg F t3) (cvC_len_bits id p a b n gx gy inf) (by simp [KH,KX]) (cvC_at_bits id p a b n gx gy inf bits' size leg F t3)
theorem cvC_at_size (id:Nat) (p:Nat) (a:Nat) (b:Nat) (n:Nat) (gx gy:Nat) (inf:Bool) (bits:Nat) (size:Nat) (leg:Bool) (F:Value) (t3:Nat):cvC id p a b n gx gy inf bits size leg F t3 = ([.int .i64 ((id:Nat):Int)]++(natL p++(natL a++(natL b++(natL n++(ptL gx gy inf++([.int .i64 ((bits:Nat):Int)])))))))++(([.int .i64 ((size:Nat):Int)])++([.bool leg]++([F]++(natL t3)))):=by simp only [cvC,List.append_assoc,List.append_nil,List.nil_append]
theorem cvC_len_size (id:Nat) (p:Nat) (a:Nat) (b:Nat) (n:Nat) (gx gy:Nat) (inf:Bool) (bits:Nat):([.int .i64 ((id:Nat):Int)]++(natL p++(natL a++(natL b++(natL n++(ptL gx gy inf++([.int .i64 ((bits:Nat):Int)])))))):List Value).length = 57:=by simp [KH,KX]
theorem cvC_set_size (id:Nat) (p:Nat) (a:Nat) (b:Nat) (n:Nat) (gx gy:Nat) (inf:Bool) (bits:Nat) (size:Nat) (leg:Bool) (F:Value) (t3:Nat) (size':Nat):splice (cvC id p a b n gx gy inf bits size leg F t3) 57 ([.int .i64 ((size':Nat):Int)]) = cvC id p a b n gx gy inf bits size' leg F t3:=splice_mid (cvC_at_size id p a b n gx gy inf bits size leg F t3) (cvC_len_size id p a b n gx gy inf bits) (by simp [KH,KX]) (cvC_at_size id p a b n gx gy inf bits size' leg F t3)
theorem cvC_at_leg (id:Nat) (p:Nat) (a:Nat) (b:Nat) (n:Nat) (gx gy:Nat) (inf:Bool) (bits:Nat) (size:Nat) (leg:Bool) (F:Value) (t3:Nat):cvC id p a b n gx gy inf bits size leg F t3 = ([.int .i64 ((id:Nat):Int)]++(natL p++(natL a++(natL b++(natL n++(ptL gx gy inf++([.int .i64 ((bits:Nat):Int)]++([.int .i64 ((size:Nat):Int)]))))))))++(([.bool leg])++([F]++(natL t3))):=by simp only [cvC,List.append_assoc,List.append_nil,List.nil_append]
theorem cvC_len_leg (id:Nat) (p:Nat) (a:Nat) (b:Nat) (n:Nat) (gx gy:Nat) (inf:Bool) (bits:Nat) (size:Nat):([.int .i64 ((id:Nat):Int)]++(natL p++(natL a++(natL b++(natL n++(ptL gx gy inf++([.int .i64 ((bits:Nat):Int)]++([.int .i64 ((size:Nat):Int)]))))))):List Value).length = 58:=by simp [KH,KX]
theorem cvC_set_leg (id:Nat) (p:Nat) (a:Nat) (b:Nat) (n:Nat) (gx gy:Nat) (inf:Bool) (bits:Nat) (size:Nat) (leg:Bool) (F:Value) (t3:Nat) (leg':Bool):splice (cvC id p a b n gx gy inf bits size leg F t3) 58 ([.bool leg']) = cvC id p a b n gx gy inf bits size leg' F t3:=splice_mid (cvC_at_leg id p a b n gx gy inf bits size leg F t3) (cvC_len_leg id p a b n gx gy inf bits size) (by simp [KH,KX]) (cvC_at_leg id p a b n gx gy inf bits size leg' F t3)
theorem cvC_at_F (id:Nat) (p:Nat) (a:Nat) (b:Nat) (n:Nat) (gx gy:Nat) (inf:Bool) (bits:Nat) (size:Nat) (leg:Bool) (F:Value) (t3:Nat):cvC id p a b n gx gy inf bits size leg F t3 = ([.int .i64 ((id:Nat):Int)]++(natL p++(natL a++(natL b++(natL n++(ptL gx gy inf++([.int .i64 ((bits:Nat):Int)]++([.int .i64 ((size:Nat):Int)]++([.bool leg])))))))))++(([F])++(natL t3)):=by simp only [cvC,List.append_assoc,List.append_nil,List.nil_append]
theorem cvC_len_F (id:Nat) (p:Nat) (a:Nat) (b:Nat) (n:Nat) (gx gy:Nat) (inf:Bool) (bits:Nat) (size:Nat) (leg:Bool):([.int .i64 ((id:Nat):Int)]++(natL p++(natL a++(natL b++(natL n++(ptL gx gy inf++([.int .i64 ((bits:Nat):Int)]++([.int .i64 ((size:Nat):Int)]++([.bool leg])))))))):List Value).length = 59:=by simp [KH,KX]
theorem cvC_at_t3 (id:Nat) (p:Nat) (a:Nat) (b:Nat) (n:Nat) (gx gy:Nat) (inf:Bool) (bits:Nat) (size:Nat) (leg:Bool) (F:Value) (t3:Nat):cvC id p a b n gx gy inf bits size leg F t3 = ([.int .i64 ((id:Nat):Int)]++(natL p++(natL a++(natL b++(natL n++(ptL gx gy inf++([.int .i64 ((bits:Nat):Int)]++([.int .i64 ((size:Nat):Int)]++([.bool leg]++([F]))))))))))++((natL t3)++([])):=by simp only [cvC,List.append_assoc,List.append_nil,List.nil_append]
theorem cvC_len_t3 (id:Nat) (p:Nat) (a:Nat) (b:Nat) (n:Nat) (gx gy:Nat) (inf:Bool) (bits:Nat) (size:Nat) (leg:Bool) (F:Value):([.int .i64 ((id:Nat):Int)]++(natL p++(natL a++(natL b++(natL n++(ptL gx gy inf++([.int .i64 ((bits:Nat):Int)]++([.int .i64 ((size:Nat):Int)]++([.bool leg]++([F]))))))))):List Value).length = 60:=by simp [KH,KX]
theorem cvC_set_t3 (id:Nat) (p:Nat) (a:Nat) (b:Nat) (n:Nat) (gx gy:Nat) (inf:Bool) (bits:Nat) (size:Nat) (leg:Bool) (F:Value) (t3:Nat) (t3':Nat):splice (cvC id p a b n gx gy inf bits size leg F t3) 60 (natL t3') = cvC id p a b n gx gy inf bits size leg F t3':=splice_mid (cvC_at_t3 id p a b n gx gy inf bits size leg F t3) (cvC_len_t3 id p a b n gx gy inf bits size leg F) (by simp [KH,KX]) (cvC_at_t3 id p a b n gx gy inf bits size leg F t3')
theorem KAS (id:Nat) (p:Nat) (a:Nat) (b:Nat) (n:Nat) (gx gy:Nat) (inf:Bool) (bits:Nat) (size:Nat) (leg:Bool) (F:Value) (t3:Nat):(cvC id p a b n gx gy inf bits size leg F t3).length = 69:=by simp [cvC,KH,KX]
theorem cvC_zero:([Value.int .i64 ((0:Nat):Int)]++(vec .u64 9 (fun _=>0)++(vec .u64 9 (fun _=>0)++(vec .u64 9 (fun _=>0)++(vec .u64 9 (fun _=>0)++(vec .u64 9 (fun _=>0)++(vec .u64 9 (fun _=>0)++([Value.bool false,Value.int .i64 ((0:Nat):Int),Value.int .i64 ((0:Nat):Int),Value.bool false,Value.pointer none]++(vec .u64 9 (fun _=>0))))))))):List Value) = cvC 0 0 0 0 0 0 0 false 0 0 false (.pointer none) 0:=by
  simp only [cvC,natL,ptL,vec_zeros 9,List.append_assoc,List.cons_append,List.nil_append]
theorem fillF (F:Value) (h1:F.cells = #[F]):fillL [(0,59),(59,1),(60,9)] ([Value.int .i64 ((0:Nat):Int)]++(vec .u64 9 (fun _=>0)++(vec .u64 9 (fun _=>0)++(vec .u64 9 (fun _=>0)++(vec .u64 9 (fun _=>0)++(vec .u64 9 (fun _=>0)++(vec .u64 9 (fun _=>0)++([Value.bool false,Value.int .i64 ((0:Nat):Int),Value.int .i64 ((0:Nat):Int),Value.bool false,Value.pointer none]++(vec .u64 9 (fun _=>0))))))))) ) [(1,F)] = some (cvC 0 0 0 0 0 0 0 false 0 0 false F 0):=by
  rw [cvC_zero]
  refine KAT (cs:=[F]) rfl (by rw [h1]) rfl (cvC_at_F _ _ _ _ _ _ _ _ _ _ _ _ _) (cvC_len_F _ _ _ _ _ _ _ _ _ _ _) rfl ?_
  unfold fillL
  rw [cvC_at_F]
theorem cvC_ld_a (id:Nat) (p:Nat) (a:Nat) (b:Nat) (n:Nat) (gx gy:Nat) (inf:Bool) (bits:Nat) (size:Nat) (leg:Bool) (F:Value) (t3:Nat) (wr:Bool) (e:TypeId) (fz:Nat×Nat):LoadV Tryz.prog 25 ⟨wr,cvC id p a b n gx gy inf bits size leg F t3,e,fz⟩ 10 (.agg (natL a).toArray):=LoadV.mid Tryz.underlying25 rfl sz_25 (cvC_at_a id p a b n gx gy inf bits size leg F t3) (cvC_len_a id p) (by simp [KH,KX])
theorem cvC_ld_b (id:Nat) (p:Nat) (a:Nat) (b:Nat) (n:Nat) (gx gy:Nat) (inf:Bool) (bits:Nat) (size:Nat) (leg:Bool) (F:Value) (t3:Nat) (wr:Bool) (e:TypeId) (fz:Nat×Nat):LoadV Tryz.prog 25 ⟨wr,cvC id p a b n gx gy inf bits size leg F t3,e,fz⟩ 19 (.agg (natL b).toArray):=LoadV.mid Tryz.underlying25 rfl sz_25 (cvC_at_b id p a b n gx gy inf bits size leg F t3) (cvC_len_b id p a) (by simp [KH,KX])
theorem cvC_ld_n (id:Nat) (p:Nat) (a:Nat) (b:Nat) (n:Nat) (gx gy:Nat) (inf:Bool) (bits:Nat) (size:Nat) (leg:Bool) (F:Value) (t3:Nat) (wr:Bool) (e:TypeId) (fz:Nat×Nat):LoadV Tryz.prog 25 ⟨wr,cvC id p a b n gx gy inf bits size leg F t3,e,fz⟩ 28 (.agg (natL n).toArray):=LoadV.mid Tryz.underlying25 rfl sz_25 (cvC_at_n id p a b n gx gy inf bits size leg F t3) (cvC_len_n id p a b) (by simp [KH,KX])
theorem cvC_gt_bits (id:Nat) (p:Nat) (a:Nat) (b:Nat) (n:Nat) (gx gy:Nat) (inf:Bool) (bits:Nat) (size:Nat) (leg:Bool) (F:Value) (t3:Nat):(cvC id p a b n gx gy inf bits size leg F t3)[56]? = some (.int .i64 ((bits:Nat):Int)):=get_mid (cvC_at_bits id p a b n gx gy inf bits size leg F t3) (cvC_len_bits id p a b n gx gy inf)
theorem cvC_gt_size (id:Nat) (p:Nat) (a:Nat) (b:Nat) (n:Nat) (gx gy:Nat) (inf:Bool) (bits:Nat) (size:Nat) (leg:Bool) (F:Value) (t3:Nat):(cvC id p a b n gx gy inf bits size leg F t3)[57]? = some (.int .i64 ((size:Nat):Int)):=get_mid (cvC_at_size id p a b n gx gy inf bits size leg F t3) (cvC_len_size id p a b n gx gy inf bits)
theorem cvC_gt_F (id:Nat) (p:Nat) (a:Nat) (b:Nat) (n:Nat) (gx gy:Nat) (inf:Bool) (bits:Nat) (size:Nat) (leg:Bool) (F:Value) (t3:Nat):(cvC id p a b n gx gy inf bits size leg F t3)[59]? = some (F):=get_mid (cvC_at_F id p a b n gx gy inf bits size leg F t3) (cvC_len_F id p a b n gx gy inf bits size leg)
theorem cvC_ld_t3 (id:Nat) (p:Nat) (a:Nat) (b:Nat) (n:Nat) (gx gy:Nat) (inf:Bool) (bits:Nat) (size:Nat) (leg:Bool) (F:Value) (t3:Nat) (wr:Bool) (e:TypeId) (fz:Nat×Nat):LoadV Tryz.prog 25 ⟨wr,cvC id p a b n gx gy inf bits size leg F t3,e,fz⟩ 60 (.agg (natL t3).toArray):=LoadV.mid Tryz.underlying25 rfl sz_25 (cvC_at_t3 id p a b n gx gy inf bits size leg F t3) (cvC_len_t3 id p a b n gx gy inf bits size leg F) (by simp [KH,KX])
def rowsB (V:Cv) (s0 s1 s2 s3 s4:ByteArray):Bool:=(if s0.data.toList = [45,51] then Nat.beq (V.a+3) V.p else hexB s0 V.a) && hexB s1 V.b && hexB s2 V.n && hexB s3 V.x && hexB s4 V.y
theorem rowsB_spec {V:Cv} {s0 s1 s2 s3 s4:ByteArray} (h:rowsB V s0 s1 s2 s3 s4 = true):((s0.data.toList = [45,51]∧V.a+3 = V.p)∨(s0.data.toList≠[45,51]∧hexB s0 V.a = true))∧hexB s1 V.b = true∧hexB s2 V.n = true∧hexB s3 V.x = true∧hexB s4 V.y = true:=by
  simp only [rowsB,Bool.and_eq_true] at h
  obtain ⟨⟨⟨⟨h1,h2⟩,h3⟩,h4⟩,h5⟩:=h
  refine ⟨?_,h2,h3,h4,h5⟩
  split at h1
  · exact .inl ⟨by assumption,Nat.eq_of_beq_eq_true h1⟩
  · exact .inr ⟨by assumption,h1⟩
theorem c_rows (id:Int) (w:World)  : Calls Tryz.prog 58 ([.int .i64 id]:List Value).toArray w (fun e w'=>(∃ V,cvI id = some V∧∃ v,(∃ s0 s1 s2 s3 s4,v = .agg [.string s0,.string s1,.string s2,.string s3,.string s4].toArray∧rowsB V s0 s1 s2 s3 s4 = true)∧e = .returned v∧Below w.heap.size w w')∨cvI id = none):=by
  refine Ka (N:=50) (rs:=[.cell 2 110]) [] Tryz.func58 rfl Tryz.ntmps58 Tryz.results58 (Nb rfl) trivial rfl ?_
  show LCode _ _ _ ⟨_,_⟩ _
  refine KB (KA ?_)
  refine oS (mk (KP zr_110) (fun b2=>?_))
  refine KC ?_
  refine KB ?_
  refine KB (KA ?_)
  refine oM ?_
  refine KC ?_
  refine LCode.block ?_
  refine KB (KA ?_)
  refine oP (KD (v:=.bool (decide (id = 1))) rfl rfl KAQ) ?_
  refine oA ?_
  refine KC ?_
  first|refine KN rfl (fun hk1=>?_) (fun hk1=>?_)|refine KQ rfl (fun hk1=>?_) (fun hk1=>?_)
  ·
    refine KB (KA ?_)
    refine oP (Det.buildN (n:=5) pl_110 zr_110 rfl rfl rfl rfl rfl) ?_
    refine KO rfl (sA rfl rfl sz_110 (by repeat (first|exact Ki|refine Kf rfl ?_)) (hl:=by rfl) (h:=?_))
    refine KC (KI ?_)
    refine ⟨[_],.cons ⟨_,_,_,rfl,mM,by exact KE Tryz.underlying110 rfl sz_110⟩ .nil,fun a w' hr=>?_⟩
    exact .inl ⟨cv1,by rw [hk1]; rfl,_,⟨_,_,_,_,_,rfl,by kernel_rfl⟩,rfl,hr.fr.below⟩
  ·
    refine KB (KA ?_)
    refine oP (KD (v:=.bool (decide (id = 2))) rfl rfl KAQ) ?_
    refine oA ?_
    refine KC ?_
    first|refine KN rfl (fun hk2=>?_) (fun hk2=>?_)|refine KQ rfl (fun hk2=>?_) (fun hk2=>?_)
    ·
      refine KB (KA ?_)
      refine oP (Det.buildN (n:=5) pl_110 zr_110 rfl rfl rfl rfl rfl) ?_
      refine KO rfl (sA rfl rfl sz_110 (by repeat (first|exact Ki|refine Kf rfl ?_)) (hl:=by rfl) (h:=?_))
      refine KC (KI ?_)
      refine ⟨[_],.cons ⟨_,_,_,rfl,mM,by exact KE Tryz.underlying110 rfl sz_110⟩ .nil,fun a w' hr=>?_⟩
      exact .inl ⟨cv2,by rw [hk2]; rfl,_,⟨_,_,_,_,_,rfl,by kernel_rfl⟩,rfl,hr.fr.below⟩
    ·
      refine KB (KA ?_)
      refine oP (KD (v:=.bool (decide (id = 3))) rfl rfl KAQ) ?_
      refine oA ?_
      refine KC ?_
      first|refine KN rfl (fun hk3=>?_) (fun hk3=>?_)|refine KQ rfl (fun hk3=>?_) (fun hk3=>?_)
      ·
        refine KB (KA ?_)
        refine oP (Det.buildN (n:=5) pl_110 zr_110 rfl rfl rfl rfl rfl) ?_
        refine KO rfl (sA rfl rfl sz_110 (by repeat (first|exact Ki|refine Kf rfl ?_)) (hl:=by rfl) (h:=?_))
        refine KC (KI ?_)
        refine ⟨[_],.cons ⟨_,_,_,rfl,mM,by exact KE Tryz.underlying110 rfl sz_110⟩ .nil,fun a w' hr=>?_⟩
        exact .inl ⟨cv3,by rw [hk3]; rfl,_,⟨_,_,_,_,_,rfl,by kernel_rfl⟩,rfl,hr.fr.below⟩
      ·
        refine KB (KA ?_)
        refine oP (KD (v:=.bool (decide (id = 4))) rfl rfl KAQ) ?_
        refine oA ?_
        refine KC ?_
        first|refine KN rfl (fun hk4=>?_) (fun hk4=>?_)|refine KQ rfl (fun hk4=>?_) (fun hk4=>?_)
        ·
          refine KB (KA ?_)
          refine oP (Det.buildN (n:=5) pl_110 zr_110 rfl rfl rfl rfl rfl) ?_
          refine KO rfl (sA rfl rfl sz_110 (by repeat (first|exact Ki|refine Kf rfl ?_)) (hl:=by rfl) (h:=?_))
          refine KC (KI ?_)
          refine ⟨[_],.cons ⟨_,_,_,rfl,mM,by exact KE Tryz.underlying110 rfl sz_110⟩ .nil,fun a w' hr=>?_⟩
          exact .inl ⟨cv4,by rw [hk4]; rfl,_,⟨_,_,_,_,_,rfl,by kernel_rfl⟩,rfl,hr.fr.below⟩
        ·
          refine KB (KA ?_)
          refine oP (KD (v:=.bool (decide (id = 5))) rfl rfl KAQ) ?_
          refine oA ?_
          refine KC ?_
          first|refine KN rfl (fun hk5=>?_) (fun hk5=>?_)|refine KQ rfl (fun hk5=>?_) (fun hk5=>?_)
          ·
            refine KB (KA ?_)
            refine oP (Det.buildN (n:=5) pl_110 zr_110 rfl rfl rfl rfl rfl) ?_
            refine KO rfl (sA rfl rfl sz_110 (by repeat (first|exact Ki|refine Kf rfl ?_)) (hl:=by rfl) (h:=?_))
            refine KC (KI ?_)
            refine ⟨[_],.cons ⟨_,_,_,rfl,mM,by exact KE Tryz.underlying110 rfl sz_110⟩ .nil,fun a w' hr=>?_⟩
            exact .inl ⟨cv5,by rw [hk5]; rfl,_,⟨_,_,_,_,_,rfl,by kernel_rfl⟩,rfl,hr.fr.below⟩
          ·
            refine KB (KA ?_)
            refine oP (KD (v:=.bool (decide (id = 6))) rfl rfl KAQ) ?_
            refine oA ?_
            refine KC ?_
            first|refine KN rfl (fun hk6=>?_) (fun hk6=>?_)|refine KQ rfl (fun hk6=>?_) (fun hk6=>?_)
            ·
              refine KB (KA ?_)
              refine oP (Det.buildN (n:=5) pl_110 zr_110 rfl rfl rfl rfl rfl) ?_
              refine KO rfl (sA rfl rfl sz_110 (by repeat (first|exact Ki|refine Kf rfl ?_)) (hl:=by rfl) (h:=?_))
              refine KC (KI ?_)
              refine ⟨[_],.cons ⟨_,_,_,rfl,mM,by exact KE Tryz.underlying110 rfl sz_110⟩ .nil,fun a w' hr=>?_⟩
              exact .inl ⟨cv6,by rw [hk6]; rfl,_,⟨_,_,_,_,_,rfl,by kernel_rfl⟩,rfl,hr.fr.below⟩
            ·
              refine KB (KA ?_)
              refine oP (KD (v:=.bool (decide (id = 7))) rfl rfl KAQ) ?_
              refine oA ?_
              refine KC ?_
              first|refine KN rfl (fun hk7=>?_) (fun hk7=>?_)|refine KQ rfl (fun hk7=>?_) (fun hk7=>?_)
              ·
                refine KB (KA ?_)
                refine oP (Det.buildN (n:=5) pl_110 zr_110 rfl rfl rfl rfl rfl) ?_
                refine KO rfl (sA rfl rfl sz_110 (by repeat (first|exact Ki|refine Kf rfl ?_)) (hl:=by rfl) (h:=?_))
                refine KC (KI ?_)
                refine ⟨[_],.cons ⟨_,_,_,rfl,mM,by exact KE Tryz.underlying110 rfl sz_110⟩ .nil,fun a w' hr=>?_⟩
                exact .inl ⟨cv7,by rw [hk7]; rfl,_,⟨_,_,_,_,_,rfl,by kernel_rfl⟩,rfl,hr.fr.below⟩
              ·
                refine KB (KA ?_)
                refine oP (KD (v:=.bool (decide (id = 8))) rfl rfl KAQ) ?_
                refine oA ?_
                refine KC ?_
                first|refine KN rfl (fun hk8=>?_) (fun hk8=>?_)|refine KQ rfl (fun hk8=>?_) (fun hk8=>?_)
                ·
                  refine KB (KA ?_)
                  refine oP (Det.buildN (n:=5) pl_110 zr_110 rfl rfl rfl rfl rfl) ?_
                  refine KO rfl (sA rfl rfl sz_110 (by repeat (first|exact Ki|refine Kf rfl ?_)) (hl:=by rfl) (h:=?_))
                  refine KC (KI ?_)
                  refine ⟨[_],.cons ⟨_,_,_,rfl,mM,by exact KE Tryz.underlying110 rfl sz_110⟩ .nil,fun a w' hr=>?_⟩
                  exact .inl ⟨cv8,by rw [hk8]; rfl,_,⟨_,_,_,_,_,rfl,by kernel_rfl⟩,rfl,hr.fr.below⟩
                ·
                  refine KB (KA ?_)
                  refine oP (KD (v:=.bool (decide (id = 9))) rfl rfl KAQ) ?_
                  refine oA ?_
                  refine KC ?_
                  first|refine KN rfl (fun hk9=>?_) (fun hk9=>?_)|refine KQ rfl (fun hk9=>?_) (fun hk9=>?_)
                  ·
                    refine KB (KA ?_)
                    refine oP (Det.buildN (n:=5) pl_110 zr_110 rfl rfl rfl rfl rfl) ?_
                    refine KO rfl (sA rfl rfl sz_110 (by repeat (first|exact Ki|refine Kf rfl ?_)) (hl:=by rfl) (h:=?_))
                    refine KC (KI ?_)
                    refine ⟨[_],.cons ⟨_,_,_,rfl,mM,by exact KE Tryz.underlying110 rfl sz_110⟩ .nil,fun a w' hr=>?_⟩
                    exact .inl ⟨cv9,by rw [hk9]; rfl,_,⟨_,_,_,_,_,rfl,by kernel_rfl⟩,rfl,hr.fr.below⟩
                  ·
                    refine KB (KA ?_)
                    refine oP (KD (v:=.bool (decide (id = 10))) rfl rfl KAQ) ?_
                    refine oA ?_
                    refine KC ?_
                    first|refine KN rfl (fun hk10=>?_) (fun hk10=>?_)|refine KQ rfl (fun hk10=>?_) (fun hk10=>?_)
                    ·
                      refine KB (KA ?_)
                      refine oP (Det.buildN (n:=5) pl_110 zr_110 rfl rfl rfl rfl rfl) ?_
                      refine KO rfl (sA rfl rfl sz_110 (by repeat (first|exact Ki|refine Kf rfl ?_)) (hl:=by rfl) (h:=?_))
                      refine KC (KI ?_)
                      refine ⟨[_],.cons ⟨_,_,_,rfl,mM,by exact KE Tryz.underlying110 rfl sz_110⟩ .nil,fun a w' hr=>?_⟩
                      exact .inl ⟨cv10,by rw [hk10]; rfl,_,⟨_,_,_,_,_,rfl,by kernel_rfl⟩,rfl,hr.fr.below⟩
                    ·
                      refine KB (KA ?_)
                      refine oP (KD (v:=.bool (decide (id = 11))) rfl rfl KAQ) ?_
                      refine oA ?_
                      refine KC ?_
                      first|refine KN rfl (fun hk11=>?_) (fun hk11=>?_)|refine KQ rfl (fun hk11=>?_) (fun hk11=>?_)
                      ·
                        refine KB (KA ?_)
                        refine oP (Det.buildN (n:=5) pl_110 zr_110 rfl rfl rfl rfl rfl) ?_
                        refine KO rfl (sA rfl rfl sz_110 (by repeat (first|exact Ki|refine Kf rfl ?_)) (hl:=by rfl) (h:=?_))
                        refine KC (KI ?_)
                        refine ⟨[_],.cons ⟨_,_,_,rfl,mM,by exact KE Tryz.underlying110 rfl sz_110⟩ .nil,fun a w' hr=>?_⟩
                        exact .inl ⟨cv11,by rw [hk11]; rfl,_,⟨_,_,_,_,_,rfl,by kernel_rfl⟩,rfl,hr.fr.below⟩
                      ·
                        refine KB (KA ?_)
                        refine oP (KD (v:=.bool (decide (id = 12))) rfl rfl KAQ) ?_
                        refine oA ?_
                        refine KC ?_
                        first|refine KN rfl (fun hk12=>?_) (fun hk12=>?_)|refine KQ rfl (fun hk12=>?_) (fun hk12=>?_)
                        ·
                          refine KB (KA ?_)
                          refine oP (Det.buildN (n:=5) pl_110 zr_110 rfl rfl rfl rfl rfl) ?_
                          refine KO rfl (sA rfl rfl sz_110 (by repeat (first|exact Ki|refine Kf rfl ?_)) (hl:=by rfl) (h:=?_))
                          refine KC (KI ?_)
                          refine ⟨[_],.cons ⟨_,_,_,rfl,mM,by exact KE Tryz.underlying110 rfl sz_110⟩ .nil,fun a w' hr=>?_⟩
                          exact .inl ⟨cv12,by rw [hk12]; rfl,_,⟨_,_,_,_,_,rfl,by kernel_rfl⟩,rfl,hr.fr.below⟩
                        ·
                          refine KB (KA ?_)
                          refine oP (KD (v:=.bool (decide (id = 13))) rfl rfl KAQ) ?_
                          refine oA ?_
                          refine KC ?_
                          first|refine KN rfl (fun hk13=>?_) (fun hk13=>?_)|refine KQ rfl (fun hk13=>?_) (fun hk13=>?_)
                          ·
                            refine KB (KA ?_)
                            refine oP (Det.buildN (n:=5) pl_110 zr_110 rfl rfl rfl rfl rfl) ?_
                            refine KO rfl (sA rfl rfl sz_110 (by repeat (first|exact Ki|refine Kf rfl ?_)) (hl:=by rfl) (h:=?_))
                            refine KC (KI ?_)
                            refine ⟨[_],.cons ⟨_,_,_,rfl,mM,by exact KE Tryz.underlying110 rfl sz_110⟩ .nil,fun a w' hr=>?_⟩
                            exact .inl ⟨cv13,by rw [hk13]; rfl,_,⟨_,_,_,_,_,rfl,by kernel_rfl⟩,rfl,hr.fr.below⟩
                          ·
                            refine KB (KA ?_)
                            refine oP (KD (v:=.bool (decide (id = 14))) rfl rfl KAQ) ?_
                            refine oA ?_
                            refine KC ?_
                            first|refine KN rfl (fun hk14=>?_) (fun hk14=>?_)|refine KQ rfl (fun hk14=>?_) (fun hk14=>?_)
                            ·
                              refine KB (KA ?_)
                              refine oP (Det.buildN (n:=5) pl_110 zr_110 rfl rfl rfl rfl rfl) ?_
                              refine KO rfl (sA rfl rfl sz_110 (by repeat (first|exact Ki|refine Kf rfl ?_)) (hl:=by rfl) (h:=?_))
                              refine KC (KI ?_)
                              refine ⟨[_],.cons ⟨_,_,_,rfl,mM,by exact KE Tryz.underlying110 rfl sz_110⟩ .nil,fun a w' hr=>?_⟩
                              exact .inl ⟨cv14,by rw [hk14]; rfl,_,⟨_,_,_,_,_,rfl,by kernel_rfl⟩,rfl,hr.fr.below⟩
                            ·
                              refine KB (KA ?_)
                              refine oP (KD (v:=.bool (decide (id = 15))) rfl rfl KAQ) ?_
                              refine oA ?_
                              refine KC ?_
                              first|refine KN rfl (fun hk15=>?_) (fun hk15=>?_)|refine KQ rfl (fun hk15=>?_) (fun hk15=>?_)
                              ·
                                refine KB (KA ?_)
                                refine oP (Det.buildN (n:=5) pl_110 zr_110 rfl rfl rfl rfl rfl) ?_
                                refine KO rfl (sA rfl rfl sz_110 (by repeat (first|exact Ki|refine Kf rfl ?_)) (hl:=by rfl) (h:=?_))
                                refine KC (KI ?_)
                                refine ⟨[_],.cons ⟨_,_,_,rfl,mM,by exact KE Tryz.underlying110 rfl sz_110⟩ .nil,fun a w' hr=>?_⟩
                                exact .inl ⟨cv15,by rw [hk15]; rfl,_,⟨_,_,_,_,_,rfl,by kernel_rfl⟩,rfl,hr.fr.below⟩
                              ·
                                refine KM ?_
                                refine KB (KA ?_)
                                refine oP (KG (Kp pl_110 zr_110 rfl rfl) (show _ = Value.agg [.string ⟨#[]⟩,.string ⟨#[]⟩,.string ⟨#[]⟩,.string ⟨#[]⟩,.string ⟨#[]⟩].toArray from rfl)) ?_
                                refine KO rfl (sA rfl rfl sz_110 (by repeat (first|exact Ki|refine Kf rfl ?_)) (hl:=by rfl) (h:=?_))
                                refine KC (KI ?_)
                                refine ⟨[_],.cons ⟨_,_,_,rfl,mM,by exact KE Tryz.underlying110 rfl sz_110⟩ .nil,fun a w' hr=>?_⟩
                                exact .inr (cvI_none hk1 hk2 hk3 hk4 hk5 hk6 hk7 hk8 hk9 hk10 hk11 hk12 hk13 hk14 hk15)
theorem c_rows_some (id:Int) (V:Cv) (w:World) (h:cvI id = some V):Calls Tryz.prog 58 ([.int .i64 id]:List Value).toArray w (fun e w'=>∃ v,(∃ s0 s1 s2 s3 s4,v = .agg [.string s0,.string s1,.string s2,.string s3,.string s4].toArray∧rowsB V s0 s1 s2 s3 s4 = true)∧e = .returned v∧Below w.heap.size w w') :=
  (c_rows id w).mono fun e w' h'=>by
    rcases h' with ⟨V',hV,h1⟩|h1
    · rw [h] at hV; cases hV; exact h1
    · rw [h] at h1; cases h1
end Go.Proofs.YtlmiolnccgjjjaaGreat
set_option linter.unusedVariables false
set_option linter.unusedSimpArgs false
set_option maxRecDepth 20000
namespace Go.Proofs.YtlmiolnccgjjjaaGreat
open Go Go.RowKit
theorem blen_w9 {A:Nat} (h:A<W9):blen A≤576:=by
  obtain ⟨k,hk⟩:∃ k:Nat,k = 9:=⟨9,rfl⟩
  have:=blen_le (lt_w9_pow h k hk)
  omega
def legB (V:Cv):Bool:=decide (V.id = 1∨V.id = 7)
def thr (V:Cv):Nat:=((V.b+V.b)%V.p+V.b)%V.p
def opL (V:Cv) (f:Nat):List Value:=cvC V.id V.p V.a V.b V.n V.x V.y false (blen V.n) (nby V.p) (legB V) (.pointer (some ⟨f,0,none⟩)) (thr V)
theorem fill_pt (X Y:Nat):fillL [(0,9),(9,9),(18,1)] (vec .u64 9 (fun _=>0)++(vec .u64 9 (fun _=>0)++[Value.bool false])) [(0,natV X),(1,natV Y)] = some (ptL X Y false):=by
  refine KAT (A:=[]) (B:=vec .u64 9 (fun _=>0)) (D:=vec .u64 9 (fun _=>0)++[Value.bool false]) (cs:=natL X) rfl rfl (KH _) rfl rfl (KS _ _ _) ?_
  refine (KAT (A:=natL X) (B:=vec .u64 9 (fun _=>0)) (D:=[Value.bool false]) (cs:=natL Y) rfl rfl (KH _) (by simp) (KH _) (KS _ _ _) rfl).trans ?_
  simp [ptL]
theorem c_Open_none (id:Int) (w:World) (h:cvI id = none):Calls Tryz.prog 39 ([.int .i64 id]:List Value).toArray w (fun e w'=>e = .returned (.pointer none)∧Below w.heap.size w w'):=by
  refine Ka (N:=130) (rs:=[.tmp 2]) [] Tryz.func39 rfl Tryz.ntmps39 Tryz.results39 (Nb rfl) trivial rfl ?_
  show LCode _ _ _ ⟨_,_⟩ _
  refine KB (KA ?_)
  refine oA ?_
  refine KC ?_
  refine KB (KA ?_)
  refine oM ?_
  refine oS (cF rfl en_57 rfl (fun w hw=>c_f_Of_none id w h) ?_)
  refine oA ?_
  refine KC ?_
  refine KB ?_
  refine KB (KA ?_)
  refine oM ?_
  refine oP (KG (Det.eqp Tryz.underlying90 rfl rfl) (show _ = Value.bool true from rfl)) ?_
  refine KC ?_
  refine KU rfl ?_
  refine KB (KA ?_)
  refine oA ?_
  refine KC (KI ?_)
  refine ⟨[_],.cons rfl .nil,fun a w' hr=>⟨?_,hr.fr.below⟩⟩
  rfl
theorem c_Open (id:Int) (V:Cv) (w:World) (h:cvI id = some V):Calls Tryz.prog 39 ([.int .i64 id]:List Value).toArray w (fun e w'=>∃ b f bd,e = .returned (.pointer (some ⟨b,0,none⟩))∧(Item.blk b ⟨false,opL V f,92,(0,0)⟩).holds w'∧(Item.blk f ⟨false,fldL V.p bd,116,(0,0)⟩).holds w'∧(Item.blk bd ⟨false,dvL V.p,167,(0,0)⟩).holds w'∧w.heap.size≤b∧w.heap.size≤f∧w.heap.size≤bd∧Below w.heap.size w w'):=by
  obtain ⟨hok,rfl⟩:=cvI_ok h
  refine Ka (N:=130) (rs:=[.tmp 2]) [] Tryz.func39 rfl Tryz.ntmps39 Tryz.results39 (Nb rfl) trivial rfl ?_
  show LCode _ _ _ ⟨_,_⟩ _
  refine KB (KA ?_)
  refine oA ?_
  refine KC ?_
  refine KB (KA ?_)
  refine oM ?_
  refine oS (KAL (Post:=fun v its=>∃ f bd,v = .pointer (some ⟨f,0,none⟩)∧its = [.blk f ⟨false,fldL V.p bd,116,(0,0)⟩,.blk bd ⟨false,dvL V.p,167,(0,0)⟩]∧w.heap.size≤f∧w.heap.size≤bd) (first:=[]) rfl en_57 rfl (Nb rfl) (fun w1 hw hs=>(c_f_Of _ V w1 h).mono fun e w' ⟨f,bd,h1,h2,h3,h4,h5,h6⟩=>⟨_,_,⟨f,bd,rfl,rfl,Nat.le_trans hs h4,Nat.le_trans hs h5⟩,h1,KAO h6 (by intro x hx; simp at hx; rcases hx with rfl|rfl; exact h2; exact h3) (by intro x hx; simp at hx; rcases hx with rfl|rfl <;> rfl) (by intro x hx k hk; simp at hx; rcases hx with rfl|rfl <;> simp [Item.fp] at hk <;> subst hk; exact .inl h4; exact .inl h5)⟩) ?_)
  rintro _ _ ⟨f,bd,rfl,rfl,hnf,hnbd⟩
  refine oA ?_
  refine KC ?_
  refine KB ?_
  refine KB (KA ?_)
  refine oM ?_
  refine oP (KG (Det.eqp Tryz.underlying90 rfl rfl) (show _ = Value.bool false from rfl)) ?_
  refine KC ?_
  refine KK rfl ?_
  refine KM ?_
  refine KB ?_
  have hbb:=hok.bounds
  have hpW:V.p<W9:=KAJ hbb.2.1
  have hnW:V.n<W9:=KAJ hbb.2.2.2.2.2.2.1
  have hbln:=blen_w9 hnW
  have hblp:=blen_w9 hpW
  refine KA ?_
  refine oM ?_
  refine oS (LStep.callV (first:=[]) rfl en_58 rfl (Nb rfl) (fun w hw=>c_rows_some _ V w h) ?_)
  rintro _ ⟨s0,s1,s2,s3,s4,rfl,hrow⟩
  obtain ⟨hA,hB,hN,hX,hY⟩:=rowsB_spec hrow
  clear hrow
  refine oS (mk (KP zr_110) (fun b4=>?_))
  refine KO rfl (sA rfl rfl sz_110 (by repeat (first|exact Ki|refine Kf rfl ?_)) (hl:=by rfl) (h:=?_))
  refine KC ?_
  refine KB (KA ?_)
  refine oM ?_
  refine oP (KG (Kp pl_92 zr_92 rfl (fillF (.pointer (some ⟨f,0,none⟩)) rfl)) rfl) ?_
  refine oS (mB (fun b14=>?_))
  refine oA ?_
  refine KC ?_
  refine LCode.cut (α:=Unit) (fun _=>True) (fun _=>⟨[(0,.int .i64 ((V.id:Nat):Int)),(3,.pointer (some ⟨f,0,none⟩)),(4,.pointer (some ⟨b4,0,none⟩)),(5,.pointer (some ⟨b14,0,none⟩))],[.blk b14 ⟨true,cvC V.id V.p 0 V.b V.n 0 0 false 0 0 false (.pointer (some ⟨f,0,none⟩)) 0,92,(0,0)⟩,.blk b4 ⟨true,[.string s0,.string s1,.string s2,.string s3,.string s4],110,(0,0)⟩,.blk f ⟨false,fldL V.p bd,116,(0,0)⟩,.blk bd ⟨false,dvL V.p,167,(0,0)⟩]⟩) ?_ ?_
  ·
    refine rD [18,22,26,30] ?_
    refine aM 0 ?_
    refine aM 1 ?_
    refine aM 2 ?_
    refine aM 3 ?_
    refine aM 4 ?_
    refine aM 5 ?_
    refine aP 6 rfl (KL rfl) ?_
    refine aP 7 rfl (KF (o':=0) Tryz.underlying116 rfl rfl rfl sz_25 dc) ?_
    refine aD 8 rfl (dL rfl (hv:=by exact Kv Tryz.underlying25 rfl sz_25 rfl (KH _))) ?_
    refine aP 9 rfl (KF (o':=1) Tryz.underlying110 rfl rfl rfl sz_9 dc) ?_
    refine aP 12 rfl (KF (o':=2) Tryz.underlying110 rfl rfl rfl sz_9 dc) ?_
    refine LAny.takeW [11,14,15,16,17,18,19,20,21,22,23,24,25,26,27,28,29,30] 10 rfl (by kernel_rfl) (Nb rfl) (dL rfl (hv:=KJ Tryz.underlying9 rfl (by first|rfl|exact KW _ _ _ om|exact KV _ om|exact KT _ om|exact dv_m _ _ _ om))) ?_
    refine LAny.takeW [14,15,16,17,18,19,20,21,22,23,24,25,26,27,28,29,30] 13 rfl (by kernel_rfl) (Nb rfl) (dL rfl (hv:=KJ Tryz.underlying9 rfl (by first|rfl|exact KW _ _ _ om|exact KV _ om|exact KT _ om|exact dv_m _ _ _ om))) ?_
    refine aO 11 rfl (cF rfl en_59 rfl (fun w hw=>fhex s1 V.b w hB) ?_)
    refine aO 14 rfl (cF rfl en_59 rfl (fun w hw=>fhex s2 V.n w hN) ?_)
    refine aP 15 rfl (KL rfl) ?_
    refine aP 16 rfl (KF (o':=0) Tryz.underlying92 rfl rfl rfl sz_89 dc) ?_
    refine aP 17 rfl (KF (o':=0) Tryz.underlying89 rfl rfl rfl sz_3 dc) ?_
    refine aL 18 rfl (Kt rfl rfl rfl sz_3 (by first|exact KH _|exact KX _ _ _|rfl) (by first|exact KAE _|exact KAB _ _ _|exact Kf rfl Ki) (by repeat (first|exact Sh _|apply St_)) (by simp only [KAS]; decide) (cvC_set_id _ _ _ _ _ _ _ _ _ _ _ _ _ _) (by simp) ?_)
    refine aP 19 rfl (KL rfl) ?_
    refine aP 20 rfl (KF (o':=0) Tryz.underlying92 rfl rfl rfl sz_89 dc) ?_
    refine aP 21 rfl (KF (o':=1) Tryz.underlying89 rfl rfl rfl sz_25 dc) ?_
    refine aL 22 rfl (Kt rfl rfl rfl sz_25 (by first|exact KH _|exact KX _ _ _|rfl) (by first|exact KAE _|exact KAB _ _ _|exact Kf rfl Ki) (by repeat (first|exact Sh _|apply St_)) (by simp only [KAS]; decide) (cvC_set_p _ _ _ _ _ _ _ _ _ _ _ _ _ _) (by simp) ?_)
    refine aP 23 rfl (KL rfl) ?_
    refine aP 24 rfl (KF (o':=0) Tryz.underlying92 rfl rfl rfl sz_89 dc) ?_
    refine aP 25 rfl (KF (o':=19) Tryz.underlying89 rfl rfl rfl sz_25 dc) ?_
    refine aL 26 rfl (Kt rfl rfl rfl sz_25 (by first|exact KH _|exact KX _ _ _|rfl) (by first|exact KAE _|exact KAB _ _ _|exact Kf rfl Ki) (by repeat (first|exact Sh _|apply St_)) (by simp only [KAS]; decide) (cvC_set_b _ _ _ _ _ _ _ _ _ _ _ _ _ _) (by simp) ?_)
    refine aP 27 rfl (KL rfl) ?_
    refine aP 28 rfl (KF (o':=0) Tryz.underlying92 rfl rfl rfl sz_89 dc) ?_
    refine aP 29 rfl (KF (o':=28) Tryz.underlying89 rfl rfl rfl sz_25 dc) ?_
    refine aL 30 rfl (Kt rfl rfl rfl sz_25 (by first|exact KH _|exact KX _ _ _|rfl) (by first|exact KAE _|exact KAB _ _ _|exact Kf rfl Ki) (by repeat (first|exact Sh _|apply St_)) (by simp only [KAS]; decide) (cvC_set_n _ _ _ _ _ _ _ _ _ _ _ _ _ _) (by simp) ?_)
    refine aE ?_
    exact ⟨(),trivial,Kd ⟨rfl,rfl,rfl,rfl,trivial⟩ mS⟩
  ·
    rintro _ _
    refine KB ?_
    refine KB ?_
    rcases hA with ⟨hA0,hVa⟩|⟨hA0,hA1⟩
    ·
      refine KA ?_
      refine oP (KF (o':=0) Tryz.underlying110 rfl rfl rfl sz_9 dc) ?_
      refine oD (dL rfl (hv:=KJ Tryz.underlying9 rfl (by first|rfl|exact KW _ _ _ om|exact KV _ om|exact KT _ om|exact dv_m _ _ _ om))) ?_
      refine oP (KG (Det.eqs rfl rfl) (congrArg Value.bool (eq_str_t hA0))) ?_
      refine KC ?_
      refine KU rfl ?_
      refine rD [13] ?_
      refine aM 0 ?_
      refine aM 1 ?_
      refine aP 2 rfl (KL rfl) ?_
      refine aP 3 rfl (KF (o':=0) Tryz.underlying116 rfl rfl rfl sz_25 dc) ?_
      refine aD 4 rfl (dL rfl (hv:=by exact Kv Tryz.underlying25 rfl sz_25 rfl (KH _))) ?_
      refine aO 5 rfl (cF rfl en_61 rfl (fun w hw=>c_nat_Small 3 dc w) ?_)
      refine aO 6 rfl (cF rfl en_60 rfl (fun w hw=>c_nat_SubS V.p 3 w om om) ?_)
      refine aM 7 ?_
      refine aP 8 rfl (Det.extract rfl rfl) ?_
      refine aP 9 rfl (Det.extract rfl rfl) ?_
      refine aP 10 rfl (KL rfl) ?_
      refine aP 11 rfl (KF (o':=0) Tryz.underlying92 rfl rfl rfl sz_89 dc) ?_
      refine aP 12 rfl (KF (o':=10) Tryz.underlying89 rfl rfl rfl sz_25 dc) ?_
      refine aL 13 rfl (Kt rfl rfl rfl sz_25 (by first|exact KH _|exact KX _ _ _|rfl) (by first|exact KAE _|exact KAB _ _ _|exact Kf rfl Ki) (by repeat (first|exact Sh _|apply St_)) (by simp only [KAS]; decide) (cvC_set_a _ _ _ _ _ _ _ _ _ _ _ _ _ _) (by simp) ?_)
      refine aE ?_
      refine KB ?_
      refine rD [11] ?_
      refine aM 0 ?_
      refine aP 1 rfl (KF (o':=3) Tryz.underlying110 rfl rfl rfl sz_9 dc) ?_
      refine aD 2 rfl (dL rfl (hv:=KJ Tryz.underlying9 rfl (by first|rfl|exact KW _ _ _ om|exact KV _ om|exact KT _ om|exact dv_m _ _ _ om))) ?_
      refine aP 4 rfl (KF (o':=4) Tryz.underlying110 rfl rfl rfl sz_9 dc) ?_
      refine aD 5 rfl (dL rfl (hv:=KJ Tryz.underlying9 rfl (by first|rfl|exact KW _ _ _ om|exact KV _ om|exact KT _ om|exact dv_m _ _ _ om))) ?_
      refine aO 3 rfl (cF rfl en_59 rfl (fun w hw=>fhex s3 V.x w hX) ?_)
      refine aO 6 rfl (cF rfl en_59 rfl (fun w hw=>fhex s4 V.y w hY) ?_)
      refine aP 7 rfl (KG (Kp pl_83 zr_83 rfl (fill_pt _ _)) rfl) ?_
      refine aP 8 rfl (KL rfl) ?_
      refine aP 9 rfl (KF (o':=0) Tryz.underlying92 rfl rfl rfl sz_89 dc) ?_
      refine aP 10 rfl (KF (o':=37) Tryz.underlying89 rfl rfl rfl sz_83 dc) ?_
      refine aL 11 rfl (Kt rfl rfl rfl sz_83 (by first|exact KH _|exact KX _ _ _|rfl) (by first|exact KAE _|exact KAB _ _ _|exact Kf rfl Ki) (by repeat (first|exact Sh _|apply St_)) (by simp only [KAS]; decide) (cvC_set_g _ _ _ _ _ _ _ _ _ _ _ _ _ _ _ _) (by simp) ?_)
      refine aE ?_
      refine KB ?_
      refine rD [18,22] ?_
      refine aM 0 ?_
      refine aM 1 ?_
      refine aM 2 ?_
      refine aP 3 rfl (KL rfl) ?_
      refine aP 4 rfl (KF (o':=0) Tryz.underlying92 rfl rfl rfl sz_89 dc) ?_
      refine aP 5 rfl (KF (o':=28) Tryz.underlying89 rfl rfl rfl sz_25 dc) ?_
      refine aD 6 rfl (dL rfl (hv:=by exact cvC_ld_n _ _ _ _ _ _ _ _ _ _ _ _ _ _ _ _)) ?_
      refine aM 8 ?_
      refine aP 9 rfl (KL rfl) ?_
      refine aP 10 rfl (KF (o':=0) Tryz.underlying116 rfl rfl rfl sz_25 dc) ?_
      refine aD 11 rfl (dL rfl (hv:=by exact Kv Tryz.underlying25 rfl sz_25 rfl (KH _))) ?_
      refine aO 7 rfl (cF rfl en_62 rfl (fun w hw=>c_nat_Bits V.n hnW w) ?_)
      refine aO 12 rfl (cF rfl en_62 rfl (fun w hw=>c_nat_Bits V.p hpW w) ?_)
      refine aP 13 rfl (KD rfl rfl (Kn (b:=7) om)) ?_
      refine aP 14 rfl (KD rfl rfl (br_quo (b:=8) om om)) ?_
      refine aP 15 rfl (KL rfl) ?_
      refine aP 16 rfl (KF (o':=0) Tryz.underlying92 rfl rfl rfl sz_89 dc) ?_
      refine aP 17 rfl (KF (o':=56) Tryz.underlying89 rfl rfl rfl sz_3 dc) ?_
      refine aL 18 rfl (Kt rfl rfl rfl sz_3 (by first|exact KH _|exact KX _ _ _|rfl) (by first|exact KAE _|exact KAB _ _ _|exact Kf rfl Ki) (by repeat (first|exact Sh _|apply St_)) (by simp only [KAS]; decide) (cvC_set_bits _ _ _ _ _ _ _ _ _ _ _ _ _ _) (by simp) ?_)
      refine aP 19 rfl (KL rfl) ?_
      refine aP 20 rfl (KF (o':=0) Tryz.underlying92 rfl rfl rfl sz_89 dc) ?_
      refine aP 21 rfl (KF (o':=57) Tryz.underlying89 rfl rfl rfl sz_3 dc) ?_
      refine aL 22 rfl (Kt rfl rfl rfl sz_3 (by first|exact KH _|exact KX _ _ _|rfl) (by first|exact KAE _|exact KAB _ _ _|exact Kf rfl Ki) (by repeat (first|exact Sh _|apply St_)) (by simp only [KAS]; decide) (cvC_set_size _ _ _ _ _ _ _ _ _ _ _ _ _ _) (by simp) ?_)
      refine aE ?_
      refine KB ?_
      by_cases hi1:((V.id:Nat):Int) = 1
      ·
        refine KA ?_
        refine oM ?_
        refine oM ?_
        refine oP (KD (v:=.bool true) rfl rfl (br_t KAQ hi1)) ?_
        refine oM ?_
        refine oK ?_
        refine oK ?_
        refine oP (Kj rfl rfl) ?_
        refine oP (KL rfl) ?_
        refine oP (KF (o':=0) Tryz.underlying92 rfl rfl rfl sz_89 dc) ?_
        refine oP (KF (o':=58) Tryz.underlying89 rfl rfl rfl sz_4 dc) ?_
        refine KO rfl (Kt rfl rfl rfl sz_4 (by first|exact KH _|exact KX _ _ _|rfl) (by first|exact KAE _|exact KAB _ _ _|exact Kf rfl Ki) (by repeat (first|exact Sh _|apply St_)) (by simp only [KAS]; decide) (cvC_set_leg _ _ _ _ _ _ _ _ _ _ _ _ _ _) (by simp) ?_)
        refine KC ?_
        refine KB ?_
        refine rD [22] ?_
        refine aM 0 ?_
        refine aM 1 ?_
        refine aM 2 ?_
        refine aM 3 ?_
        refine aP 4 rfl (KL rfl) ?_
        refine aP 5 rfl (KF (o':=0) Tryz.underlying92 rfl rfl rfl sz_89 dc) ?_
        refine aP 6 rfl (KF (o':=19) Tryz.underlying89 rfl rfl rfl sz_25 dc) ?_
        refine aD 7 rfl (dL rfl (hv:=by exact cvC_ld_b _ _ _ _ _ _ _ _ _ _ _ _ _ _ _ _)) ?_
        refine aM 8 ?_
        refine aP 9 rfl (KL rfl) ?_
        refine aP 10 rfl (KF (o':=0) Tryz.underlying92 rfl rfl rfl sz_89 dc) ?_
        refine aP 11 rfl (KF (o':=19) Tryz.underlying89 rfl rfl rfl sz_25 dc) ?_
        refine aD 12 rfl (dL rfl (hv:=by exact cvC_ld_b _ _ _ _ _ _ _ _ _ _ _ _ _ _ _ _)) ?_
        refine aM 14 ?_
        refine aP 15 rfl (KL rfl) ?_
        refine aP 16 rfl (KF (o':=0) Tryz.underlying92 rfl rfl rfl sz_89 dc) ?_
        refine aP 17 rfl (KF (o':=19) Tryz.underlying89 rfl rfl rfl sz_25 dc) ?_
        refine aD 18 rfl (dL rfl (hv:=by exact cvC_ld_b _ _ _ _ _ _ _ _ _ _ _ _ _ _ _ _)) ?_
        refine aO 13 rfl (cF rfl en_63 rfl (fun w hw=>c_f_Add V f bd V.b V.b w (mC hw) hbb.2.1 om om) ?_)
        refine aO 19 rfl (cF rfl en_63 rfl (fun w hw=>c_f_Add V f bd ((V.b+V.b)%V.p) V.b w (mC hw) hbb.2.1 (Nat.mod_lt _ om) om) ?_)
        refine aP 20 rfl (KL rfl) ?_
        refine aP 21 rfl (KF (o':=60) Tryz.underlying92 rfl rfl rfl sz_25 dc) ?_
        refine aL 22 rfl (Kt rfl rfl rfl sz_25 (by first|exact KH _|exact KX _ _ _|rfl) (by first|exact KAE _|exact KAB _ _ _|exact Kf rfl Ki) (by repeat (first|exact Sh _|apply St_)) (by simp only [KAS]; decide) (cvC_set_t3 _ _ _ _ _ _ _ _ _ _ _ _ _ _) (by simp) ?_)
        refine aE ?_
        refine KB (KA ?_)
        refine oM ?_
        refine oA ?_
        refine KC (KI ?_)
        refine ⟨[_],.cons rfl .nil,fun a w' hr=>⟨b14,f,bd,rfl,?_,hr.hp _ mM,hr.hp _ mM,hr.new (B:=⟨true,_,_,_⟩) mM rfl,hnf,hnbd,hr.fr.below⟩⟩
        have hcv:=hr.hp _ (show Item.blk b14 ⟨true,cvC V.id V.p (V.p-3) V.b V.n V.x V.y false (blen V.n) (nby V.p) true (.pointer (some ⟨f,0,none⟩)) (thr V),92,(0,0)⟩∈_ from mM)
        have hl:legB V = true:=by unfold legB; exact decide_eq_true om
        have ha:V.a = V.p-3:=by omega
        rw [← ha] at hcv
        unfold opL
        rw [hl]
        exact hcv
      ·
        refine KA ?_
        refine oM ?_
        refine oM ?_
        refine oP (KD (v:=.bool false) rfl rfl (br_f KAQ hi1)) ?_
        refine oM ?_
        refine oGM ?_
        refine oGP (KD (v:=.bool (decide (((V.id:Nat):Int) = 7))) rfl rfl KAQ) ?_
        refine oP (KY rfl rfl) ?_
        refine oP (KL rfl) ?_
        refine oP (KF (o':=0) Tryz.underlying92 rfl rfl rfl sz_89 dc) ?_
        refine oP (KF (o':=58) Tryz.underlying89 rfl rfl rfl sz_4 dc) ?_
        refine KO rfl (Kt rfl rfl rfl sz_4 (by first|exact KH _|exact KX _ _ _|rfl) (by first|exact KAE _|exact KAB _ _ _|exact Kf rfl Ki) (by repeat (first|exact Sh _|apply St_)) (by simp only [KAS]; decide) (cvC_set_leg _ _ _ _ _ _ _ _ _ _ _ _ _ _) (by simp) ?_)
        refine KC ?_
        refine KB ?_
        refine rD [22] ?_
        refine aM 0 ?_
        refine aM 1 ?_
        refine aM 2 ?_
        refine aM 3 ?_
        refine aP 4 rfl (KL rfl) ?_
        refine aP 5 rfl (KF (o':=0) Tryz.underlying92 rfl rfl rfl sz_89 dc) ?_
        refine aP 6 rfl (KF (o':=19) Tryz.underlying89 rfl rfl rfl sz_25 dc) ?_
        refine aD 7 rfl (dL rfl (hv:=by exact cvC_ld_b _ _ _ _ _ _ _ _ _ _ _ _ _ _ _ _)) ?_
        refine aM 8 ?_
        refine aP 9 rfl (KL rfl) ?_
        refine aP 10 rfl (KF (o':=0) Tryz.underlying92 rfl rfl rfl sz_89 dc) ?_
        refine aP 11 rfl (KF (o':=19) Tryz.underlying89 rfl rfl rfl sz_25 dc) ?_
        refine aD 12 rfl (dL rfl (hv:=by exact cvC_ld_b _ _ _ _ _ _ _ _ _ _ _ _ _ _ _ _)) ?_
        refine aM 14 ?_
        refine aP 15 rfl (KL rfl) ?_
        refine aP 16 rfl (KF (o':=0) Tryz.underlying92 rfl rfl rfl sz_89 dc) ?_
        refine aP 17 rfl (KF (o':=19) Tryz.underlying89 rfl rfl rfl sz_25 dc) ?_
        refine aD 18 rfl (dL rfl (hv:=by exact cvC_ld_b _ _ _ _ _ _ _ _ _ _ _ _ _ _ _ _)) ?_
        refine aO 13 rfl (cF rfl en_63 rfl (fun w hw=>c_f_Add V f bd V.b V.b w (mC hw) hbb.2.1 om om) ?_)
        refine aO 19 rfl (cF rfl en_63 rfl (fun w hw=>c_f_Add V f bd ((V.b+V.b)%V.p) V.b w (mC hw) hbb.2.1 (Nat.mod_lt _ om) om) ?_)
        refine aP 20 rfl (KL rfl) ?_
        refine aP 21 rfl (KF (o':=60) Tryz.underlying92 rfl rfl rfl sz_25 dc) ?_
        refine aL 22 rfl (Kt rfl rfl rfl sz_25 (by first|exact KH _|exact KX _ _ _|rfl) (by first|exact KAE _|exact KAB _ _ _|exact Kf rfl Ki) (by repeat (first|exact Sh _|apply St_)) (by simp only [KAS]; decide) (cvC_set_t3 _ _ _ _ _ _ _ _ _ _ _ _ _ _) (by simp) ?_)
        refine aE ?_
        refine KB (KA ?_)
        refine oM ?_
        refine oA ?_
        refine KC (KI ?_)
        refine ⟨[_],.cons rfl .nil,fun a w' hr=>⟨b14,f,bd,rfl,?_,hr.hp _ mM,hr.hp _ mM,hr.new (B:=⟨true,_,_,_⟩) mM rfl,hnf,hnbd,hr.fr.below⟩⟩
        have hcv:=hr.hp _ (show Item.blk b14 ⟨true,cvC V.id V.p (V.p-3) V.b V.n V.x V.y false (blen V.n) (nby V.p) (decide (((V.id:Nat):Int) = 7)) (.pointer (some ⟨f,0,none⟩)) (thr V),92,(0,0)⟩∈_ from mM)
        have hl:legB V = (decide (((V.id:Nat):Int) = 7)):=by unfold legB; by_cases h7:V.id = 7 <;> simp [h7]; omega
        have ha:V.a = V.p-3:=by omega
        rw [← ha] at hcv
        unfold opL
        rw [hl]
        exact hcv
    ·
      refine KA ?_
      refine oP (KF (o':=0) Tryz.underlying110 rfl rfl rfl sz_9 dc) ?_
      refine oD (dL rfl (hv:=KJ Tryz.underlying9 rfl (by first|rfl|exact KW _ _ _ om|exact KV _ om|exact KT _ om|exact dv_m _ _ _ om))) ?_
      refine oP (KG (Det.eqs rfl rfl) (congrArg Value.bool (eq_str_f hA0))) ?_
      refine KC ?_
      refine KK rfl ?_
      refine KA ?_
      refine oM ?_
      refine oP (KF (o':=0) Tryz.underlying110 rfl rfl rfl sz_9 dc) ?_
      refine oD (dL rfl (hv:=KJ Tryz.underlying9 rfl (by first|rfl|exact KW _ _ _ om|exact KV _ om|exact KT _ om|exact dv_m _ _ _ om))) ?_
      refine oS (cF rfl en_59 rfl (fun w hw=>fhex s0 V.a w hA1) ?_)
      refine oP (KL rfl) ?_
      refine oP (KF (o':=0) Tryz.underlying92 rfl rfl rfl sz_89 dc) ?_
      refine oP (KF (o':=10) Tryz.underlying89 rfl rfl rfl sz_25 dc) ?_
      refine KO rfl (Kt rfl rfl rfl sz_25 (by first|exact KH _|exact KX _ _ _|rfl) (by first|exact KAE _|exact KAB _ _ _|exact Kf rfl Ki) (by repeat (first|exact Sh _|apply St_)) (by simp only [KAS]; decide) (cvC_set_a _ _ _ _ _ _ _ _ _ _ _ _ _ _) (by simp) ?_)
      refine KC ?_
      refine KB ?_
      refine rD [11] ?_
      refine aM 0 ?_
      refine aP 1 rfl (KF (o':=3) Tryz.underlying110 rfl rfl rfl sz_9 dc) ?_
      refine aD 2 rfl (dL rfl (hv:=KJ Tryz.underlying9 rfl (by first|rfl|exact KW _ _ _ om|exact KV _ om|exact KT _ om|exact dv_m _ _ _ om))) ?_
      refine aP 4 rfl (KF (o':=4) Tryz.underlying110 rfl rfl rfl sz_9 dc) ?_
      refine aD 5 rfl (dL rfl (hv:=KJ Tryz.underlying9 rfl (by first|rfl|exact KW _ _ _ om|exact KV _ om|exact KT _ om|exact dv_m _ _ _ om))) ?_
      refine aO 3 rfl (cF rfl en_59 rfl (fun w hw=>fhex s3 V.x w hX) ?_)
      refine aO 6 rfl (cF rfl en_59 rfl (fun w hw=>fhex s4 V.y w hY) ?_)
      refine aP 7 rfl (KG (Kp pl_83 zr_83 rfl (fill_pt _ _)) rfl) ?_
      refine aP 8 rfl (KL rfl) ?_
      refine aP 9 rfl (KF (o':=0) Tryz.underlying92 rfl rfl rfl sz_89 dc) ?_
      refine aP 10 rfl (KF (o':=37) Tryz.underlying89 rfl rfl rfl sz_83 dc) ?_
      refine aL 11 rfl (Kt rfl rfl rfl sz_83 (by first|exact KH _|exact KX _ _ _|rfl) (by first|exact KAE _|exact KAB _ _ _|exact Kf rfl Ki) (by repeat (first|exact Sh _|apply St_)) (by simp only [KAS]; decide) (cvC_set_g _ _ _ _ _ _ _ _ _ _ _ _ _ _ _ _) (by simp) ?_)
      refine aE ?_
      refine KB ?_
      refine rD [18,22] ?_
      refine aM 0 ?_
      refine aM 1 ?_
      refine aM 2 ?_
      refine aP 3 rfl (KL rfl) ?_
      refine aP 4 rfl (KF (o':=0) Tryz.underlying92 rfl rfl rfl sz_89 dc) ?_
      refine aP 5 rfl (KF (o':=28) Tryz.underlying89 rfl rfl rfl sz_25 dc) ?_
      refine aD 6 rfl (dL rfl (hv:=by exact cvC_ld_n _ _ _ _ _ _ _ _ _ _ _ _ _ _ _ _)) ?_
      refine aM 8 ?_
      refine aP 9 rfl (KL rfl) ?_
      refine aP 10 rfl (KF (o':=0) Tryz.underlying116 rfl rfl rfl sz_25 dc) ?_
      refine aD 11 rfl (dL rfl (hv:=by exact Kv Tryz.underlying25 rfl sz_25 rfl (KH _))) ?_
      refine aO 7 rfl (cF rfl en_62 rfl (fun w hw=>c_nat_Bits V.n hnW w) ?_)
      refine aO 12 rfl (cF rfl en_62 rfl (fun w hw=>c_nat_Bits V.p hpW w) ?_)
      refine aP 13 rfl (KD rfl rfl (Kn (b:=7) om)) ?_
      refine aP 14 rfl (KD rfl rfl (br_quo (b:=8) om om)) ?_
      refine aP 15 rfl (KL rfl) ?_
      refine aP 16 rfl (KF (o':=0) Tryz.underlying92 rfl rfl rfl sz_89 dc) ?_
      refine aP 17 rfl (KF (o':=56) Tryz.underlying89 rfl rfl rfl sz_3 dc) ?_
      refine aL 18 rfl (Kt rfl rfl rfl sz_3 (by first|exact KH _|exact KX _ _ _|rfl) (by first|exact KAE _|exact KAB _ _ _|exact Kf rfl Ki) (by repeat (first|exact Sh _|apply St_)) (by simp only [KAS]; decide) (cvC_set_bits _ _ _ _ _ _ _ _ _ _ _ _ _ _) (by simp) ?_)
      refine aP 19 rfl (KL rfl) ?_
      refine aP 20 rfl (KF (o':=0) Tryz.underlying92 rfl rfl rfl sz_89 dc) ?_
      refine aP 21 rfl (KF (o':=57) Tryz.underlying89 rfl rfl rfl sz_3 dc) ?_
      refine aL 22 rfl (Kt rfl rfl rfl sz_3 (by first|exact KH _|exact KX _ _ _|rfl) (by first|exact KAE _|exact KAB _ _ _|exact Kf rfl Ki) (by repeat (first|exact Sh _|apply St_)) (by simp only [KAS]; decide) (cvC_set_size _ _ _ _ _ _ _ _ _ _ _ _ _ _) (by simp) ?_)
      refine aE ?_
      refine KB ?_
      by_cases hi1:((V.id:Nat):Int) = 1
      ·
        refine KA ?_
        refine oM ?_
        refine oM ?_
        refine oP (KD (v:=.bool true) rfl rfl (br_t KAQ hi1)) ?_
        refine oM ?_
        refine oK ?_
        refine oK ?_
        refine oP (Kj rfl rfl) ?_
        refine oP (KL rfl) ?_
        refine oP (KF (o':=0) Tryz.underlying92 rfl rfl rfl sz_89 dc) ?_
        refine oP (KF (o':=58) Tryz.underlying89 rfl rfl rfl sz_4 dc) ?_
        refine KO rfl (Kt rfl rfl rfl sz_4 (by first|exact KH _|exact KX _ _ _|rfl) (by first|exact KAE _|exact KAB _ _ _|exact Kf rfl Ki) (by repeat (first|exact Sh _|apply St_)) (by simp only [KAS]; decide) (cvC_set_leg _ _ _ _ _ _ _ _ _ _ _ _ _ _) (by simp) ?_)
        refine KC ?_
        refine KB ?_
        refine rD [22] ?_
        refine aM 0 ?_
        refine aM 1 ?_
        refine aM 2 ?_
        refine aM 3 ?_
        refine aP 4 rfl (KL rfl) ?_
        refine aP 5 rfl (KF (o':=0) Tryz.underlying92 rfl rfl rfl sz_89 dc) ?_
        refine aP 6 rfl (KF (o':=19) Tryz.underlying89 rfl rfl rfl sz_25 dc) ?_
        refine aD 7 rfl (dL rfl (hv:=by exact cvC_ld_b _ _ _ _ _ _ _ _ _ _ _ _ _ _ _ _)) ?_
        refine aM 8 ?_
        refine aP 9 rfl (KL rfl) ?_
        refine aP 10 rfl (KF (o':=0) Tryz.underlying92 rfl rfl rfl sz_89 dc) ?_
        refine aP 11 rfl (KF (o':=19) Tryz.underlying89 rfl rfl rfl sz_25 dc) ?_
        refine aD 12 rfl (dL rfl (hv:=by exact cvC_ld_b _ _ _ _ _ _ _ _ _ _ _ _ _ _ _ _)) ?_
        refine aM 14 ?_
        refine aP 15 rfl (KL rfl) ?_
        refine aP 16 rfl (KF (o':=0) Tryz.underlying92 rfl rfl rfl sz_89 dc) ?_
        refine aP 17 rfl (KF (o':=19) Tryz.underlying89 rfl rfl rfl sz_25 dc) ?_
        refine aD 18 rfl (dL rfl (hv:=by exact cvC_ld_b _ _ _ _ _ _ _ _ _ _ _ _ _ _ _ _)) ?_
        refine aO 13 rfl (cF rfl en_63 rfl (fun w hw=>c_f_Add V f bd V.b V.b w (mC hw) hbb.2.1 om om) ?_)
        refine aO 19 rfl (cF rfl en_63 rfl (fun w hw=>c_f_Add V f bd ((V.b+V.b)%V.p) V.b w (mC hw) hbb.2.1 (Nat.mod_lt _ om) om) ?_)
        refine aP 20 rfl (KL rfl) ?_
        refine aP 21 rfl (KF (o':=60) Tryz.underlying92 rfl rfl rfl sz_25 dc) ?_
        refine aL 22 rfl (Kt rfl rfl rfl sz_25 (by first|exact KH _|exact KX _ _ _|rfl) (by first|exact KAE _|exact KAB _ _ _|exact Kf rfl Ki) (by repeat (first|exact Sh _|apply St_)) (by simp only [KAS]; decide) (cvC_set_t3 _ _ _ _ _ _ _ _ _ _ _ _ _ _) (by simp) ?_)
        refine aE ?_
        refine KB (KA ?_)
        refine oM ?_
        refine oA ?_
        refine KC (KI ?_)
        refine ⟨[_],.cons rfl .nil,fun a w' hr=>⟨b14,f,bd,rfl,?_,hr.hp _ mM,hr.hp _ mM,hr.new (B:=⟨true,_,_,_⟩) mM rfl,hnf,hnbd,hr.fr.below⟩⟩
        have hcv:=hr.hp _ (show Item.blk b14 ⟨true,cvC V.id V.p V.a V.b V.n V.x V.y false (blen V.n) (nby V.p) true (.pointer (some ⟨f,0,none⟩)) (thr V),92,(0,0)⟩∈_ from mM)
        have hl:legB V = true:=by unfold legB; exact decide_eq_true om
        unfold opL
        rw [hl]
        exact hcv
      ·
        refine KA ?_
        refine oM ?_
        refine oM ?_
        refine oP (KD (v:=.bool false) rfl rfl (br_f KAQ hi1)) ?_
        refine oM ?_
        refine oGM ?_
        refine oGP (KD (v:=.bool (decide (((V.id:Nat):Int) = 7))) rfl rfl KAQ) ?_
        refine oP (KY rfl rfl) ?_
        refine oP (KL rfl) ?_
        refine oP (KF (o':=0) Tryz.underlying92 rfl rfl rfl sz_89 dc) ?_
        refine oP (KF (o':=58) Tryz.underlying89 rfl rfl rfl sz_4 dc) ?_
        refine KO rfl (Kt rfl rfl rfl sz_4 (by first|exact KH _|exact KX _ _ _|rfl) (by first|exact KAE _|exact KAB _ _ _|exact Kf rfl Ki) (by repeat (first|exact Sh _|apply St_)) (by simp only [KAS]; decide) (cvC_set_leg _ _ _ _ _ _ _ _ _ _ _ _ _ _) (by simp) ?_)
        refine KC ?_
        refine KB ?_
        refine rD [22] ?_
        refine aM 0 ?_
        refine aM 1 ?_
        refine aM 2 ?_
        refine aM 3 ?_
        refine aP 4 rfl (KL rfl) ?_
        refine aP 5 rfl (KF (o':=0) Tryz.underlying92 rfl rfl rfl sz_89 dc) ?_
        refine aP 6 rfl (KF (o':=19) Tryz.underlying89 rfl rfl rfl sz_25 dc) ?_
        refine aD 7 rfl (dL rfl (hv:=by exact cvC_ld_b _ _ _ _ _ _ _ _ _ _ _ _ _ _ _ _)) ?_
        refine aM 8 ?_
        refine aP 9 rfl (KL rfl) ?_
        refine aP 10 rfl (KF (o':=0) Tryz.underlying92 rfl rfl rfl sz_89 dc) ?_
        refine aP 11 rfl (KF (o':=19) Tryz.underlying89 rfl rfl rfl sz_25 dc) ?_
        refine aD 12 rfl (dL rfl (hv:=by exact cvC_ld_b _ _ _ _ _ _ _ _ _ _ _ _ _ _ _ _)) ?_
        refine aM 14 ?_
        refine aP 15 rfl (KL rfl) ?_
        refine aP 16 rfl (KF (o':=0) Tryz.underlying92 rfl rfl rfl sz_89 dc) ?_
        refine aP 17 rfl (KF (o':=19) Tryz.underlying89 rfl rfl rfl sz_25 dc) ?_
        refine aD 18 rfl (dL rfl (hv:=by exact cvC_ld_b _ _ _ _ _ _ _ _ _ _ _ _ _ _ _ _)) ?_
        refine aO 13 rfl (cF rfl en_63 rfl (fun w hw=>c_f_Add V f bd V.b V.b w (mC hw) hbb.2.1 om om) ?_)
        refine aO 19 rfl (cF rfl en_63 rfl (fun w hw=>c_f_Add V f bd ((V.b+V.b)%V.p) V.b w (mC hw) hbb.2.1 (Nat.mod_lt _ om) om) ?_)
        refine aP 20 rfl (KL rfl) ?_
        refine aP 21 rfl (KF (o':=60) Tryz.underlying92 rfl rfl rfl sz_25 dc) ?_
        refine aL 22 rfl (Kt rfl rfl rfl sz_25 (by first|exact KH _|exact KX _ _ _|rfl) (by first|exact KAE _|exact KAB _ _ _|exact Kf rfl Ki) (by repeat (first|exact Sh _|apply St_)) (by simp only [KAS]; decide) (cvC_set_t3 _ _ _ _ _ _ _ _ _ _ _ _ _ _) (by simp) ?_)
        refine aE ?_
        refine KB (KA ?_)
        refine oM ?_
        refine oA ?_
        refine KC (KI ?_)
        refine ⟨[_],.cons rfl .nil,fun a w' hr=>⟨b14,f,bd,rfl,?_,hr.hp _ mM,hr.hp _ mM,hr.new (B:=⟨true,_,_,_⟩) mM rfl,hnf,hnbd,hr.fr.below⟩⟩
        have hcv:=hr.hp _ (show Item.blk b14 ⟨true,cvC V.id V.p V.a V.b V.n V.x V.y false (blen V.n) (nby V.p) (decide (((V.id:Nat):Int) = 7)) (.pointer (some ⟨f,0,none⟩)) (thr V),92,(0,0)⟩∈_ from mM)
        have hl:legB V = (decide (((V.id:Nat):Int) = 7)):=by unfold legB; by_cases h7:V.id = 7 <;> simp [h7]; omega
        unfold opL
        rw [hl]
        exact hcv
end Go.Proofs.YtlmiolnccgjjjaaGreat
set_option linter.unusedVariables false
set_option linter.unusedSimpArgs false
set_option maxRecDepth 20000
namespace Go.Proofs.YtlmiolnccgjjjaaGreat
open Go Go.RowKit
theorem c_nat_OfOK (s:ByteArray) (w:World) (h:s.size≤72):Calls Tryz.prog 65 ([.string s]:List Value).toArray w (fun e w'=>e = .returned (.tuple #[natV (beVal s.data.toList),.int .i64 ((0:Nat):Int)])∧Below w.heap.size w w'):=by
  have h1:=c_nat_Of s om w
  rwa [if_neg om] at h1
end Go.Proofs.YtlmiolnccgjjjaaGreat
set_option linter.unusedVariables false
set_option linter.unusedSimpArgs false
set_option maxRecDepth 20000
namespace Go.Proofs.YtlmiolnccgjjjaaGreat
open Go Go.RowKit
theorem c_Num (x:Int) (w:World)  : Calls Tryz.prog 20 ([.int .i64 x]:List Value).toArray w (fun e w'=>e = .returned (.int .i64 x)∧Below w.heap.size w w'):=by
  refine Ka (N:=4) (rs:=[.tmp 2]) [] Tryz.func20 rfl Tryz.ntmps20 Tryz.results20 (Nb rfl) trivial rfl ?_
  show LCode _ _ _ ⟨_,_⟩ _
  refine KB (KA ?_)
  refine oP (KR (v:=.int .i64 ((0:Nat):Int)) rfl) ?_
  refine KC ?_
  refine KB (KA ?_)
  refine oM ?_
  refine oA ?_
  refine KC (KI ?_)
  refine ⟨[_],.cons rfl .nil,fun a w' hr=>⟨?_,hr.fr.below⟩⟩
  rfl
theorem one_cells9 {x:Nat} (hx:x<18446744073709551616):vec .u64 9 (fun j=>if j = 0 then x else 0) = natL x:=Ks fun i _=>by rw [limb_small hx]
theorem c_One (x:Nat) (w:World) (hx:x<18446744073709551616):Calls Tryz.prog 12 ([.int .u64 ((x:Nat):Int)]:List Value).toArray w (fun e w'=>e = .returned (natV x)∧Below w.heap.size w w'):=by
  refine Ka (N:=8) (rs:=[.cell 2 25]) [] Tryz.func12 rfl Tryz.ntmps12 Tryz.results12 (Nb rfl) trivial rfl ?_
  show LCode _ _ _ ⟨_,_⟩ _
  refine KB (KA ?_)
  refine oS (mk (KP zr_25) (fun b2=>?_))
  refine KC ?_
  refine KB (KA ?_)
  refine oS (mk (KP zr_25) (fun b3=>?_))
  refine KC ?_
  refine KB (KA ?_)
  refine oM ?_
  refine oP (KF (o':=0) Tryz.underlying25 rfl rfl rfl sz_23 dc) ?_
  refine oP (Kg (i:=0) Tryz.underlying23 sz_22 rfl rfl dc) ?_
  refine KO rfl (Kb rfl rfl rfl sz_22 (by repeat (first|exact Sh _|apply St_)) (by first|(simp only [KS,KH,KZ,Km]; omega)|(simp; done)|(simp; omega)) (by first|exact KAA _ _ _ _ _|exact KAF _ _ _ _ om|exact KAC _ _ _ _|rfl) (by simp) ?_)
  refine KC ?_
  refine KB ?_
  refine LCode.sub (Sub.cells (b:=b3) (cs':=natL x) (by repeat (first|exact Sh _|apply St_)) (one_cells9 hx)) ?_
  refine KA ?_
  refine oD (dL rfl (hv:=by exact KE Tryz.underlying25 rfl sz_25)) ?_
  refine KO rfl (sA rfl rfl sz_25 mO (hl:=mL) (h:=?_))
  refine KC (KI ?_)
  refine ⟨[_],.cons ⟨_,_,_,rfl,mM,by exact KE Tryz.underlying25 rfl sz_25⟩ .nil,fun a w' hr=>⟨?_,hr.fr.below⟩⟩
  rfl
theorem zero_w9:0<W9:=w9_pos
theorem cv13_is:cvI 13 = some cv13:=rfl
theorem ext_data (s:ByteArray) (i j:Nat):(s.extract i j).data.toList = (s.data.toList.take j).drop i:=by
  rw [ByteArray.data_extract,Array.toList_extract]
  simp only [List.extract_eq_take_drop,List.take_drop]
  by_cases h:i≤j
  · rw [show i+(j-i) = j by omega]
  · rw [List.drop_of_length_le (by simp; omega),List.drop_of_length_le (by simp; omega)]
end Go.Proofs.YtlmiolnccgjjjaaGreat
set_option linter.unusedVariables false
set_option linter.unusedSimpArgs false
set_option maxRecDepth 20000
namespace Go.Proofs.YtlmiolnccgjjjaaGreat
open Go Go.RowKit
open Grp
theorem pt_ld1 (X Y:Nat) (i:Bool) (wr:Bool) (e:TypeId) (fz:Nat×Nat):LoadV Tryz.prog 25 ⟨wr,ptL X Y i,e,fz⟩ 9 (natV Y):=LoadV.mid Tryz.underlying25 rfl sz_25 (show ptL X Y i = natL X++(natL Y++[.bool i]) from rfl) (KH _) (KH _)
theorem pj_ld2 (X Y Z:Nat) (wr:Bool) (e:TypeId) (fz:Nat×Nat):LoadV Tryz.prog 25 ⟨wr,pjL X Y Z,e,fz⟩ 18 (natV Z):=LoadV.last Tryz.underlying25 rfl sz_25 (show pjL X Y Z = (natL X++natL Y)++natL Z by simp [pjL]) (by simp [KH]) (KH _)
theorem pt_gt (X Y:Nat) (i:Bool):(ptL X Y i)[18]? = some (.bool i):=get_mid (A:=natL X++natL Y) (D:=[]) (by simp [ptL]) (by simp [KH])
theorem eq_pt (X Y:Nat) (i:Bool) (X' Y':Nat) (i':Bool) (hX:X<W9) (hY:Y<W9) (hX':X' < W9) (hY':Y' < W9):EqD 4 Tryz.prog 83 (ptV X Y i) (ptV X' Y' i') (decide (X = X') && (decide (Y = Y') && ((i == i') && true))):=by
  have d1:∀ A B i,((ptL A B i).drop 0).take 9 = natL A:=fun A B i=>by
    rw [List.drop_zero]; unfold ptL; rw [List.take_left' (KH A)]
  have d2:∀ A B i,((ptL A B i).drop 9).take 9 = natL B:=fun A B i=>by
    unfold ptL; rw [List.drop_left' (KH A),List.take_left' (KH B)]
  exact EqD.struct (fs:=[_,_,_]) Tryz.underlying83 (by kernel_rfl) (EqFs.cons dc (PartOf.agg Tryz.underlying25 rfl sz_25 (d1 X Y i)) (PartOf.agg Tryz.underlying25 rfl sz_25 (d1 X' Y' i')) (eq_nat X X' hX hX')
    (EqFs.cons dc (PartOf.agg Tryz.underlying25 rfl sz_25 (d2 X Y i)) (PartOf.agg Tryz.underlying25 rfl sz_25 (d2 X' Y' i')) (eq_nat Y Y' hY hY')
    (EqFs.cons dc (PartOf.one Tryz.underlying4 rfl (pt_gt X Y i)) (PartOf.one Tryz.underlying4 rfl (pt_gt X' Y' i')) ((EqD.bool Tryz.underlying4).mono dc) EqFs.nil)))
theorem pt_w9 {V:Cv} (hok:V.Ok) (P:Grp.Pt V.p):xv P<W9∧yv P<W9:=⟨KAJ (Nat.lt_trans (xv_lt P) hok.bounds.2.1),KAJ (Nat.lt_trans (yv_lt P) hok.bounds.2.1)⟩
def ptP {p:Nat} (P:Grp.Pt p):Value:=ptV (xv P) (yv P) (iv P)
theorem fill_ptInf:fillL [(0,9),(9,9),(18,1)] (vec .u64 9 (fun _=>0)++(vec .u64 9 (fun _=>0)++[Value.bool false])) [(2,.bool true)] = some (ptL 0 0 true):=by
  refine (KAT (A:=vec .u64 9 (fun _=>0)++vec .u64 9 (fun _=>0)) (B:=[Value.bool false]) (D:=[]) (cs:=[Value.bool true]) rfl rfl rfl (by simp) (by simp [KS]) rfl rfl).trans ?_
  simp [ptL,natL,vec_zeros 9]
theorem pt_zero:Value.agg (vec .u64 9 (fun _=>0)++(vec .u64 9 (fun _=>0)++[Value.bool false]):List Value).toArray = ptV 0 0 false:=by
  unfold ptV ptL natL; rw [vec_zeros 9]
section
variable (V:Cv) (hok:V.Ok) (f bd:Nat)
include hok
theorem c_F_Add (X Y:Fin V.p) (w:World) (hf:(Item.blk f ⟨false,fldL V.p bd,116,(0,0)⟩).holds w):Calls Tryz.prog 63 ([.pointer (some ⟨f,0,none⟩),natV X.val,natV Y.val]:List Value).toArray w (fun e w'=>e = .returned (natV (X+Y).val)∧Below w.heap.size w w'):=by
  have:=c_f_Add V f bd X.val Y.val w hf hok.bounds.2.1 X.isLt Y.isLt
  rwa [← Fin.val_add] at this
theorem c_F_Sub (X Y:Fin V.p) (w:World) (hf:(Item.blk f ⟨false,fldL V.p bd,116,(0,0)⟩).holds w):Calls Tryz.prog 86 ([.pointer (some ⟨f,0,none⟩),natV X.val,natV Y.val]:List Value).toArray w (fun e w'=>e = .returned (natV (X-Y).val)∧Below w.heap.size w w'):=by
  have:=c_f_Sub V f bd X.val Y.val w hf hok.bounds.2.1 X.isLt Y.isLt
  rwa [← fin_subv] at this
theorem c_F_Mul (X Y:Fin V.p) (w:World) (hf:(Item.blk f ⟨false,fldL V.p bd,116,(0,0)⟩).holds w) (hbd:(Item.blk bd ⟨false,dvL V.p,167,(0,0)⟩).holds w):Calls Tryz.prog 87 ([.pointer (some ⟨f,0,none⟩),natV X.val,natV Y.val]:List Value).toArray w (fun e w'=>e = .returned (natV (X*Y).val)∧Below w.heap.size w w'):=by
  have hb:=hok.bounds
  have hpW:=KAJ hb.2.1
  have:=c_f_Mul V f bd X.val Y.val w hf hbd om hpW (Nat.lt_trans X.isLt hpW) (Nat.lt_trans Y.isLt hpW)
  rwa [← Fin.val_mul] at this
theorem c_F_Inv (X:Fin V.p) (w:World) (hf:(Item.blk f ⟨false,fldL V.p bd,116,(0,0)⟩).holds w):Calls Tryz.prog 106 ([.pointer (some ⟨f,0,none⟩),natV X.val]:List Value).toArray w (fun e w'=>e = .returned (natV (finv X).val)∧Below w.heap.size w w'):=by
  have hb:=hok.bounds
  have hpW:=KAJ hb.2.1
  have:=c_f_Inv V f bd X.val w hf om hpW (Nat.lt_trans X.isLt hpW)
  rwa [← finv_val] at this
end
theorem a_val {V:Cv} (hok:V.Ok):natV V.a = natV V.A.val:=by rw [hok.A_val hok.bounds.2.2.1]
theorem b_val {V:Cv} (hok:V.Ok):natV V.b = natV V.B.val:=by rw [hok.B_val hok.bounds.2.2.2.1]
theorem t_val {V:Cv} (hok:V.Ok):natV (thr V) = natV (V.B+V.B+V.B).val:=by
  rw [Fin.val_add,Fin.val_add,hok.B_val hok.bounds.2.2.2.1]; rfl
end Go.Proofs.YtlmiolnccgjjjaaGreat
set_option linter.unusedVariables false
set_option linter.unusedSimpArgs false
set_option maxRecDepth 20000
namespace Go.Proofs.YtlmiolnccgjjjaaGreat
open Go Go.RowKit
def rpL (u v:Value) (i:Bool):List Value:=[u,v,.bool i]
def rpV (u v:Value) (i:Bool):Value:=.agg (rpL u v i).toArray
theorem NFr.in {lo:Nat} {old:List Nat} {q:NV} {n:Nat} (h:∀ k,k∈fpz q n→k∈old):NFr lo old q n:=fun k hk=>.inr (h k hk)
theorem NFr.le {lo:Nat} {old old':List Nat} {q:NV} {n:Nat} (h:NFr lo old q n) (hs:∀ k,k∈old→k∈old'):NFr lo old' q n:=fun k hk=>(h k hk).imp id (hs k)
theorem crv_in {Q:CQ} {V:Cv} {q:NV} {A:Nat} (h:(q,A)∈[(Q.p,V.p),(Q.a,V.a),(Q.b,V.b),(Q.n,V.n),(Q.x,V.x),(Q.y,V.y)]) (lo:Nat):NFr lo (crvI Q V).fp q (D.nw A):=fun k hk=>.inr (grp_fp (l:=[(Q.p,V.p),(Q.a,V.a),(Q.b,V.b),(Q.n,V.n),(Q.x,V.x),(Q.y,V.y)]) h k hk)
theorem c_r_G (Q:CQ) (V:Cv) (w:World) (hc:(crvI Q V).holds w):Calls Tryz.prog 13 ([.agg (crvL Q V).toArray]:List Value).toArray w (fun e w'=>Num2R w (crvI Q V).fp V.x V.y (fun u v=>rpV u v false) e w'):=by
  refine Ka (N:=8) (rs:=[.cell 2 35]) [crvI Q V] Tryz.func13 rfl Tryz.ntmps13 Tryz.results13 (Nb rfl) ⟨hc,trivial⟩ rfl ?_
  show LCode _ _ _ ⟨_,_⟩ _
  refine KB (KA ?_)
  refine oS (mB (fun b1=>?_))
  refine oS (mk (KP zr_35) (fun b2=>?_))
  refine KC ?_
  refine KB (KA ?_)
  refine oP (KF (o':=5) Tryz.underlying30 rfl rfl rfl sz_28 dc) ?_
  refine oD (dL rfl (hv:=KJ Tryz.underlying28 rfl (by first|rfl|exact KW _ _ _ om|exact KV _ om|exact KT _ om|exact dv_m _ _ _ om))) ?_
  refine oP (KF (o':=6) Tryz.underlying30 rfl rfl rfl sz_28 dc) ?_
  refine oD (dL rfl (hv:=KJ Tryz.underlying28 rfl (by first|rfl|exact KW _ _ _ om|exact KV _ om|exact KT _ om|exact dv_m _ _ _ om))) ?_
  refine oP (KG (Kp pl_35 zr_35 rfl rfl) (show _ = rpV (numV Q.x V.x) (numV Q.y V.y) (false) from rfl)) ?_
  refine KO rfl (sA rfl rfl sz_35 (by repeat (first|exact Ki|refine Kf rfl ?_)) (hl:=by rfl) (h:=?_))
  refine KC (KI ?_)
  refine ⟨[_],.cons ⟨_,_,_,rfl,mM,by exact KE Tryz.underlying35 rfl sz_35⟩ .nil,fun a w' hr=>⟨Q.x,Q.y,rfl,crvI_x (hr.hp _ mM),crv_in mM _,crvI_y (hr.hp _ mM),crv_in mM _,hr.fr.below⟩⟩
theorem c_r_right (Q:CQ) (V:Cv) (q:NV) (X:Nat) (w:World) (hc:(crvI Q V).holds w) (hok:V.Ok) (hq:(numT q X).holds w) (hX:X<V.p):Calls Tryz.prog 47 ([.agg (crvL Q V).toArray,numV q X]:List Value).toArray w (fun e w'=>NumR w ([]) (rightN V.p V.a V.b X) (fun v=>v) e w'):=by
  obtain ⟨hb5,hb521,hba,hbb,hbx,hby,hbn,hbo,hbo2,hbb1,hbn1⟩:=hok.bounds
  have hsz:=hok.sz
  have hsp:=hsz.p
  have hsa:=hsz.a
  have hsb:=hsz.b
  have hp0:V.p≠0:=by omega
  have hpp:0<V.p:=by omega
  have hm17:∀ k,D.nw (k%V.p)≤17:=fun k=>Nat.le_trans (D.nw_mono (Nat.le_of_lt (Nat.mod_lt k hpp))) hsp
  refine Ka (N:=28) (rs:=[.tmp 4]) [crvI Q V,numT q X] Tryz.func47 rfl Tryz.ntmps47 Tryz.results47 (Nb rfl) ⟨hc,hq,trivial⟩ rfl ?_
  show LCode _ _ _ ⟨_,_⟩ _
  refine KB (KA ?_)
  refine oS (mB (fun b2=>?_))
  refine oA ?_
  refine KC ?_
  refine KB ?_
  have hx17:D.nw X≤17:=nw_521 (Nat.lt_trans hX hb521)
  have e1:=hm17 (X*X)
  have e2:=hm17 (X*X%V.p+V.a)
  have e3:=hm17 ((X*X%V.p+V.a)%V.p*X)
  refine KA ?_
  refine oM ?_
  refine oM ?_
  refine oP (KF (o':=1) Tryz.underlying30 rfl rfl rfl sz_28 dc) ?_
  refine oD (dL rfl (hv:=KJ Tryz.underlying28 rfl (by first|rfl|exact KW _ _ _ om|exact KV _ om|exact KT _ om|exact dv_m _ _ _ om))) ?_
  refine oS (cZ rfl en_52 rfl (fun w hw hs=>(c_n_MulMod q q Q.p (X) (X) V.p hp0 w (mC hw) (mC hw) (crvI_p (mC hw)) om om).mono fun e w' h=>KAX (Old.nil _) hs h) ?_)
  rintro _ _ ⟨q1,rfl,rfl,hn1⟩
  refine oA ?_
  refine KC ?_
  refine KB ?_
  refine rD [] ?_
  refine aM 0 ?_
  refine aP 1 rfl (KF (o':=2) Tryz.underlying30 rfl rfl rfl sz_28 dc) ?_
  refine aD 2 rfl (dL rfl (hv:=KJ Tryz.underlying28 rfl (by first|rfl|exact KW _ _ _ om|exact KV _ om|exact KT _ om|exact dv_m _ _ _ om))) ?_
  refine aP 3 rfl (KF (o':=1) Tryz.underlying30 rfl rfl rfl sz_28 dc) ?_
  refine aD 4 rfl (dL rfl (hv:=KJ Tryz.underlying28 rfl (by first|rfl|exact KW _ _ _ om|exact KV _ om|exact KT _ om|exact dv_m _ _ _ om))) ?_
  refine aM 6 ?_
  refine aP 7 rfl (KF (o':=1) Tryz.underlying30 rfl rfl rfl sz_28 dc) ?_
  refine aD 8 rfl (dL rfl (hv:=KJ Tryz.underlying28 rfl (by first|rfl|exact KW _ _ _ om|exact KV _ om|exact KT _ om|exact dv_m _ _ _ om))) ?_
  refine aO 5 rfl (cZ rfl en_53 rfl (fun w hw hs=>(c_n_AddMod q1 Q.a Q.p (X*X%V.p) V.a V.p w (mC hw) (crvI_a (mC hw)) (crvI_p (mC hw)) om om (Nat.mod_lt _ hpp) hba).mono fun e w' h=>KAX (Old.nil _) hs h) ?_)
  rintro _ _ ⟨q2,rfl,rfl,hn2⟩
  refine aO 9 rfl (cZ rfl en_52 rfl (fun w hw hs=>(c_n_MulMod q2 q Q.p ((X*X%V.p+V.a)%V.p) (X) V.p hp0 w (mC hw) (mC hw) (crvI_p (mC hw)) om om).mono fun e w' h=>KAX (Old.nil _) hs h) ?_)
  rintro _ _ ⟨q3,rfl,rfl,hn3⟩
  refine aA 10 ?_
  refine aE ?_
  refine KB (KA ?_)
  refine oM ?_
  refine oP (KF (o':=3) Tryz.underlying30 rfl rfl rfl sz_28 dc) ?_
  refine oD (dL rfl (hv:=KJ Tryz.underlying28 rfl (by first|rfl|exact KW _ _ _ om|exact KV _ om|exact KT _ om|exact dv_m _ _ _ om))) ?_
  refine oP (KF (o':=1) Tryz.underlying30 rfl rfl rfl sz_28 dc) ?_
  refine oD (dL rfl (hv:=KJ Tryz.underlying28 rfl (by first|rfl|exact KW _ _ _ om|exact KV _ om|exact KT _ om|exact dv_m _ _ _ om))) ?_
  refine oS (cZ rfl en_53 rfl (fun w hw hs=>(c_n_AddMod q3 Q.b Q.p ((X*X%V.p+V.a)%V.p*X%V.p) V.b V.p w (mC hw) (crvI_b (mC hw)) (crvI_p (mC hw)) om om (Nat.mod_lt _ hpp) hbb).mono fun e w' h=>KAX (Old.nil _) hs h) ?_)
  rintro _ _ ⟨q4,rfl,rfl,hn4⟩
  refine oA ?_
  refine KC (KI ?_)
  refine ⟨[_],.cons rfl .nil,fun a w' hr=>hr.numQ mM hn4⟩
theorem on_x {p a b X Y:Nat} (h:¬ X<p):onB p a b X Y false = false:=by
  unfold onB; rw [if_neg dc,decide_eq_false h,Bool.false_and]
theorem on_yy {p a b X Y:Nat} (h:¬ Y<p):onB p a b X Y false = false:=by
  unfold onB; rw [if_neg dc,decide_eq_false h,Bool.false_and,Bool.and_false]
theorem on_eq {p a b X Y:Nat} (h:X<p) (h2:Y<p):onB p a b X Y false = decide (Y*Y%p = rightN p a b X):=by
  unfold onB; rw [if_neg dc,decide_eq_true h,decide_eq_true h2,Bool.true_and,Bool.true_and]
theorem on_inf {p a b X Y:Nat}:onB p a b X Y true = (decide (X = 0) && decide (Y = 0)):=if_pos rfl
theorem c_r_On (Q:CQ) (V:Cv) (q r:NV) (X Y:Nat) (i:Bool) (w:World) (hc:(crvI Q V).holds w) (hok:V.Ok) (hq:(numT q X).holds w) (hr:(numT r Y).holds w) (hX:D.nw X≤1000) (hY:D.nw Y≤1000):Calls Tryz.prog 38 ([.agg (crvL Q V).toArray,rpV (numV q (X)) (numV r (Y)) (i)]:List Value).toArray w (fun e w'=>e = .returned (.bool (onB V.p V.a V.b X Y i))∧Below w.heap.size w w'):=by
  obtain ⟨hb5,hb521,hba,hbb,hbx,hby,hbn,hbo,hbo2,hbb1,hbn1⟩:=hok.bounds
  have hsz:=hok.sz
  have hsp:=hsz.p
  have hsa:=hsz.a
  have hsb:=hsz.b
  have hp0:V.p≠0:=by omega
  have hpp:0<V.p:=by omega
  have hm17:∀ k,D.nw (k%V.p)≤17:=fun k=>Nat.le_trans (D.nw_mono (Nat.le_of_lt (Nat.mod_lt k hpp))) hsp
  refine Ka (N:=44) (rs:=[.tmp 4]) [crvI Q V,numT q X,numT r Y] Tryz.func38 rfl Tryz.ntmps38 Tryz.results38 (Nb rfl) ⟨hc,hq,hr,trivial⟩ rfl ?_
  show LCode _ _ _ ⟨_,_⟩ _
  refine KB (KA ?_)
  refine oS (mB (fun b2=>?_))
  refine oS (mB (fun b3=>?_))
  refine oA ?_
  refine KC ?_
  refine KB ?_
  refine KB ?_
  cases i
  ·
    refine KA ?_
    refine oP (KF (o':=2) Tryz.underlying35 rfl rfl rfl sz_4 dc) ?_
    refine oD (dL rfl (hv:=KJ Tryz.underlying4 rfl (by first|rfl|exact KW _ _ _ om|exact KV _ om|exact KT _ om|exact dv_m _ _ _ om))) ?_
    refine KC ?_
    refine KK rfl ?_
    refine KM ?_
    refine KB ?_
    refine KB ?_
    rcases (show (¬ X<V.p)∨(X<V.p∧¬ Y<V.p)∨(X<V.p∧Y<V.p) by omega) with h1|⟨h1,h2⟩|⟨h1,h2⟩
    ·
      refine KA ?_
      refine oP (KF (o':=0) Tryz.underlying35 rfl rfl rfl sz_28 dc) ?_
      refine oD (dL rfl (hv:=KJ Tryz.underlying28 rfl (by first|rfl|exact KW _ _ _ om|exact KV _ om|exact KT _ om|exact dv_m _ _ _ om))) ?_
      refine oP (KF (o':=1) Tryz.underlying30 rfl rfl rfl sz_28 dc) ?_
      refine oD (dL rfl (hv:=KJ Tryz.underlying28 rfl (by first|rfl|exact KW _ _ _ om|exact KV _ om|exact KT _ om|exact dv_m _ _ _ om))) ?_
      refine oS (cF rfl en_45 rfl (fun w hw=>c_n_Cmp q Q.p X V.p w (mC hw) (crvI_p (mC hw)) om) ?_)
      refine oP (KD (v:=.bool true) rfl rfl (br_t cmp_geq (Nat.le_of_not_lt h1))) ?_
      refine oM ?_
      refine oK ?_
      refine oK ?_
      refine oK ?_
      refine oK ?_
      refine oK ?_
      refine oK ?_
      refine oP (Kj rfl rfl) ?_
      refine KC ?_
      refine KU rfl ?_
      refine KB (KA ?_)
      refine oA ?_
      refine KC (KI ?_)
      refine ⟨[_],.cons rfl .nil,fun a w' hr=>⟨?_,hr.fr.below⟩⟩
      rw [on_x h1]
      rfl
    ·
      refine KA ?_
      refine oP (KF (o':=0) Tryz.underlying35 rfl rfl rfl sz_28 dc) ?_
      refine oD (dL rfl (hv:=KJ Tryz.underlying28 rfl (by first|rfl|exact KW _ _ _ om|exact KV _ om|exact KT _ om|exact dv_m _ _ _ om))) ?_
      refine oP (KF (o':=1) Tryz.underlying30 rfl rfl rfl sz_28 dc) ?_
      refine oD (dL rfl (hv:=KJ Tryz.underlying28 rfl (by first|rfl|exact KW _ _ _ om|exact KV _ om|exact KT _ om|exact dv_m _ _ _ om))) ?_
      refine oS (cF rfl en_45 rfl (fun w hw=>c_n_Cmp q Q.p X V.p w (mC hw) (crvI_p (mC hw)) om) ?_)
      refine oP (KD (v:=.bool false) rfl rfl (br_f cmp_geq (Nat.not_le_of_gt h1))) ?_
      refine oM ?_
      refine oGP (KF (o':=1) Tryz.underlying35 rfl rfl rfl sz_28 dc) ?_
      refine KAM rfl rfl (dL rfl (hv:=KJ Tryz.underlying28 rfl (by first|rfl|exact KW _ _ _ om|exact KV _ om|exact KT _ om|exact dv_m _ _ _ om))) (Nb rfl) ?_
      refine oGP (KF (o':=1) Tryz.underlying30 rfl rfl rfl sz_28 dc) ?_
      refine KAM rfl rfl (dL rfl (hv:=KJ Tryz.underlying28 rfl (by first|rfl|exact KW _ _ _ om|exact KV _ om|exact KT _ om|exact dv_m _ _ _ om))) (Nb rfl) ?_
      refine oGS (cF rfl en_45 rfl (fun w hw=>c_n_Cmp r Q.p Y V.p w (mC hw) (crvI_p (mC hw)) om) ?_)
      refine oGP (KD (v:=.bool true) rfl rfl (br_t cmp_geq (Nat.le_of_not_lt h2))) ?_
      refine oP (KY rfl rfl) ?_
      refine KC ?_
      refine KU rfl ?_
      refine KB (KA ?_)
      refine oA ?_
      refine KC (KI ?_)
      refine ⟨[_],.cons rfl .nil,fun a w' hr=>⟨?_,hr.fr.below⟩⟩
      rw [on_yy h2]
      rfl
    ·
      refine KA ?_
      refine oP (KF (o':=0) Tryz.underlying35 rfl rfl rfl sz_28 dc) ?_
      refine oD (dL rfl (hv:=KJ Tryz.underlying28 rfl (by first|rfl|exact KW _ _ _ om|exact KV _ om|exact KT _ om|exact dv_m _ _ _ om))) ?_
      refine oP (KF (o':=1) Tryz.underlying30 rfl rfl rfl sz_28 dc) ?_
      refine oD (dL rfl (hv:=KJ Tryz.underlying28 rfl (by first|rfl|exact KW _ _ _ om|exact KV _ om|exact KT _ om|exact dv_m _ _ _ om))) ?_
      refine oS (cF rfl en_45 rfl (fun w hw=>c_n_Cmp q Q.p X V.p w (mC hw) (crvI_p (mC hw)) om) ?_)
      refine oP (KD (v:=.bool false) rfl rfl (br_f cmp_geq (Nat.not_le_of_gt h1))) ?_
      refine oM ?_
      refine oGP (KF (o':=1) Tryz.underlying35 rfl rfl rfl sz_28 dc) ?_
      refine KAM rfl rfl (dL rfl (hv:=KJ Tryz.underlying28 rfl (by first|rfl|exact KW _ _ _ om|exact KV _ om|exact KT _ om|exact dv_m _ _ _ om))) (Nb rfl) ?_
      refine oGP (KF (o':=1) Tryz.underlying30 rfl rfl rfl sz_28 dc) ?_
      refine KAM rfl rfl (dL rfl (hv:=KJ Tryz.underlying28 rfl (by first|rfl|exact KW _ _ _ om|exact KV _ om|exact KT _ om|exact dv_m _ _ _ om))) (Nb rfl) ?_
      refine oGS (cF rfl en_45 rfl (fun w hw=>c_n_Cmp r Q.p Y V.p w (mC hw) (crvI_p (mC hw)) om) ?_)
      refine oGP (KD (v:=.bool false) rfl rfl (br_f cmp_geq (Nat.not_le_of_gt h2))) ?_
      refine oP (KY rfl rfl) ?_
      refine KC ?_
      refine KK rfl ?_
      refine KM ?_
      refine KB ?_
      have hy17:D.nw Y≤17:=nw_521 (Nat.lt_trans h2 hb521)
      refine rD [] ?_
      refine aP 0 rfl (KF (o':=1) Tryz.underlying35 rfl rfl rfl sz_28 dc) ?_
      refine aD 1 rfl (dL rfl (hv:=KJ Tryz.underlying28 rfl (by first|rfl|exact KW _ _ _ om|exact KV _ om|exact KT _ om|exact dv_m _ _ _ om))) ?_
      refine aP 2 rfl (KF (o':=1) Tryz.underlying35 rfl rfl rfl sz_28 dc) ?_
      refine aD 3 rfl (dL rfl (hv:=KJ Tryz.underlying28 rfl (by first|rfl|exact KW _ _ _ om|exact KV _ om|exact KT _ om|exact dv_m _ _ _ om))) ?_
      refine aP 4 rfl (KF (o':=1) Tryz.underlying30 rfl rfl rfl sz_28 dc) ?_
      refine aD 5 rfl (dL rfl (hv:=KJ Tryz.underlying28 rfl (by first|rfl|exact KW _ _ _ om|exact KV _ om|exact KT _ om|exact dv_m _ _ _ om))) ?_
      refine aD 7 rfl (dL rfl (hv:=by exact KE Tryz.underlying30 rfl sz_30)) ?_
      refine aP 8 rfl (KF (o':=0) Tryz.underlying35 rfl rfl rfl sz_28 dc) ?_
      refine aD 9 rfl (dL rfl (hv:=KJ Tryz.underlying28 rfl (by first|rfl|exact KW _ _ _ om|exact KV _ om|exact KT _ om|exact dv_m _ _ _ om))) ?_
      refine aO 6 rfl (cZ rfl en_52 rfl (fun w hw hs=>(c_n_MulMod r r Q.p (Y) (Y) V.p hp0 w (mC hw) (mC hw) (crvI_p (mC hw)) om om).mono fun e w' h=>KAX (Old.nil _) hs h) ?_)
      rintro _ _ ⟨q1,rfl,rfl,hn1⟩
      refine aO 10 rfl (cZ rfl en_47 rfl (fun w hw hs=>(c_r_right Q V q X w (mC hw) hok (mC hw) h1).mono fun e w' h=>KAX (Old.nil _) hs h) ?_)
      rintro _ _ ⟨q2,rfl,rfl,hn2⟩
      refine aO 11 rfl (cF rfl en_45 rfl (fun w hw=>c_n_Cmp q1 q2 (Y*Y%V.p) (rightN V.p V.a V.b X) w (mC hw) (mC hw) (by have:=hm17 (Y*Y); omega)) ?_)
      refine aP 12 rfl (KD rfl rfl cmp_eql) ?_
      refine aA 13 ?_
      refine aE ?_
      refine KI ?_
      refine ⟨[_],.cons rfl .nil,fun a w' hr=>⟨?_,hr.fr.below⟩⟩
      rw [on_eq h1 h2]
      rfl
  ·
    refine KA ?_
    refine oP (KF (o':=2) Tryz.underlying35 rfl rfl rfl sz_4 dc) ?_
    refine oD (dL rfl (hv:=KJ Tryz.underlying4 rfl (by first|rfl|exact KW _ _ _ om|exact KV _ om|exact KT _ om|exact dv_m _ _ _ om))) ?_
    refine KC ?_
    refine KU rfl ?_
    refine KB ?_
    by_cases hX0:X = 0
    ·
      refine KA ?_
      refine oP (KF (o':=0) Tryz.underlying35 rfl rfl rfl sz_28 dc) ?_
      refine oD (dL rfl (hv:=KJ Tryz.underlying28 rfl (by first|rfl|exact KW _ _ _ om|exact KV _ om|exact KT _ om|exact dv_m _ _ _ om))) ?_
      refine oP (KAH Tryz.underlying28 rfl) ?_
      refine oP (KD (v:=.bool true) rfl rfl (br_t (KAP (b:=0)) (nw_eq_zero.2 hX0))) ?_
      refine oM ?_
      refine oGP (KF (o':=1) Tryz.underlying35 rfl rfl rfl sz_28 dc) ?_
      refine KAM rfl rfl (dL rfl (hv:=KJ Tryz.underlying28 rfl (by first|rfl|exact KW _ _ _ om|exact KV _ om|exact KT _ om|exact dv_m _ _ _ om))) (Nb rfl) ?_
      refine oGP (KAH Tryz.underlying28 rfl) ?_
      refine oGP (KD rfl rfl (KAP (b:=0))) ?_
      refine oP (Kj rfl rfl) ?_
      refine oA ?_
      refine KC (KI ?_)
      refine ⟨[_],.cons rfl .nil,fun a w' hr=>⟨?_,hr.fr.below⟩⟩
      rw [on_inf,decide_eq_true hX0,Bool.true_and,show decide (Y = 0) = decide (D.nw Y = 0) from decide_eq_decide.2 nw_eq_zero.symm]
      rfl
    ·
      refine KA ?_
      refine oP (KF (o':=0) Tryz.underlying35 rfl rfl rfl sz_28 dc) ?_
      refine oD (dL rfl (hv:=KJ Tryz.underlying28 rfl (by first|rfl|exact KW _ _ _ om|exact KV _ om|exact KT _ om|exact dv_m _ _ _ om))) ?_
      refine oP (KAH Tryz.underlying28 rfl) ?_
      refine oP (KD (v:=.bool false) rfl rfl (br_f (KAP (b:=0)) (fun e=>hX0 (nw_eq_zero.1 e)))) ?_
      refine oM ?_
      refine oK ?_
      refine oK ?_
      refine oK ?_
      refine oK ?_
      refine oP (KY rfl rfl) ?_
      refine oA ?_
      refine KC (KI ?_)
      refine ⟨[_],.cons rfl .nil,fun a w' hr=>⟨?_,hr.fr.below⟩⟩
      rw [on_inf,decide_eq_false hX0,Bool.false_and]
      rfl
end Go.Proofs.YtlmiolnccgjjjaaGreat
set_option linter.unusedVariables false
set_option linter.unusedSimpArgs false
set_option maxRecDepth 20000
namespace Go.Proofs.YtlmiolnccgjjjaaGreat
open Go Go.RowKit
open Grp
def PlusQ (V:Cv) (R:Pt V.p) (x1 y1 x2 o u:Nat):Prop:=(o<V.p∧u<V.p∧u≠0)∧xv R = lineX V.p (o*invM u V.p%V.p) x1 x2∧yv R = lineY V.p (o*invM u V.p%V.p) x1 y1 (lineX V.p (o*invM u V.p%V.p) x1 x2)∧iv R = false
theorem plus_chord {V:Cv} (hok:V.Ok) {x1 y1 x2 y2:Fin V.p} (h1:On V.A V.B (.aff x1 y1)) (h2:On V.A V.B (.aff x2 y2)) (hne:x1.val≠x2.val):PlusQ V (padd V.A (.aff x1 y1) (.aff x2 y2)) x1.val y1.val x2.val (chordO V.p y1.val y2.val) (chordU V.p x1.val x2.val):=by
  have h:=add_chord (a:=V.A) (b:=V.B) (x1:=x1.val) (y1:=y1.val) (x2:=x2.val) (y2:=y2.val) hok.prime hok.fld x1.isLt y1.isLt x2.isLt y2.isLt (by rw [c_of_val,c_of_val]; exact h1) (by rw [c_of_val,c_of_val]; exact h2) hne
  rw [c_of_val,c_of_val,c_of_val,c_of_val] at h
  rw [h]
  have hx:=lineX_lt (L:=chordO V.p y1.val y2.val*invM (chordU V.p x1.val x2.val) V.p%V.p) x1.isLt x2.isLt
  refine ⟨⟨lessM_lt y2.isLt y1.isLt,lessM_lt x2.isLt x1.isLt,?_⟩,val_c hx,val_c (lineY_lt y1.isLt),rfl⟩
  have:=x1.isLt
  have:=x2.isLt
  unfold chordU lessM
  split <;> omega
theorem plus_tang {V:Cv} (hok:V.Ok) {x y:Fin V.p} (h1:On V.A V.B (.aff x y)):PlusQ V (padd V.A (.aff x y) (.aff x y)) x.val y.val x.val (tangO V.p V.a x.val) (tangU V.p y.val):=by
  have hy:y≠0:=hok.good.y_ne h1
  have h:=add_tang (b:=V.B) (a:=V.a) (x1:=x.val) (y1:=y.val) hok.prime hok.fld x.isLt y.isLt (by rw [c_of_val,c_of_val]; exact h1) (by rw [c_of_val]; exact hy)
  rw [c_of_val,c_of_val] at h
  rw [h]
  have hx:=lineX_lt (L:=tangO V.p V.a x.val*invM (tangU V.p y.val) V.p%V.p) x.isLt x.isLt
  refine ⟨⟨Nat.mod_lt _ pos_p,Nat.mod_lt _ pos_p,fun e=>hy (hok.fld.two _ ?_)⟩,val_c hx,val_c (lineY_lt y.isLt),rfl⟩
  exact Fin.ext (by rw [Fin.val_add]; exact e)
theorem plus_opp {V:Cv} (hok:V.Ok) {x1 y1 x2 y2:Fin V.p} (h1:On V.A V.B (.aff x1 y1)) (h2:On V.A V.B (.aff x2 y2)) (hx:x1.val = x2.val) (hy:y1.val≠y2.val):padd V.A (.aff x1 y1) (.aff x2 y2) = .inf :=
  add_opp hok.fld h1 h2 (Fin.ext hx) (fin_ne hy)
theorem y_pos {V:Cv} (hok:V.Ok) {x y:Fin V.p} (h1:On V.A V.B (.aff x y)):y.val≠0:=fun e=>hok.good.y_ne h1 (Fin.ext e)
theorem gcd_under {V:Cv} (hok:V.Ok) {u:Nat} (h:u<V.p) (h0:u≠0):Nat.gcd u V.p = 1:=hok.prime.cop fun hd=>h0 (Nat.eq_zero_of_dvd_of_lt hd h)
def fp2 {p:Nat} (q r:NV) (P:Pt p) (l:List Nat):List Nat:=fpz q (D.nw (xv P))++(fpz r (D.nw (yv P))++l)
theorem Old.pt {H:List Item} {p:Nat} {q r:NV} {P:Pt p} {l:List Nat} (h1:numT q (xv P)∈H) (h2:numT r (yv P)∈H) (h:Old H l):Old H (fp2 q r P l):=.cons (x:=numT q (xv P)) h1 rfl (.cons (x:=numT r (yv P)) h2 rfl h)
theorem fp2_q {p:Nat} {q r:NV} {P:Pt p} {l:List Nat} (lo:Nat):NFr lo (fp2 q r P l) q (D.nw (xv P)):=fun k hk=>.inr (List.mem_append.2 (.inl hk))
theorem fp2_r {p:Nat} {q r:NV} {P:Pt p} {l:List Nat} (lo:Nat):NFr lo (fp2 q r P l) r (D.nw (yv P)):=fun k hk=>.inr (List.mem_append.2 (.inr (List.mem_append.2 (.inl hk))))
theorem fp2_t {p:Nat} {q r:NV} {P:Pt p} {l:List Nat} {lo:Nat} {u:NV} {n:Nat} (h:NFr lo l u n):NFr lo (fp2 q r P l) u n:=fun k hk=>(h k hk).imp id fun h=>List.mem_append.2 (.inr (List.mem_append.2 (.inr h)))
theorem NFr.two {p:Nat} {q1 r1 q2 r2 u:NV} {P P2:Pt p} {lo n:Nat} {old:List Nat} (h:NFr lo (fp2 q1 r1 P (fp2 q2 r2 P2 [])) u n) (h1:NFr lo old q1 (D.nw (xv P))) (h2:NFr lo old r1 (D.nw (yv P))) (h3:NFr lo old q2 (D.nw (xv P2))) (h4:NFr lo old r2 (D.nw (yv P2))):NFr lo old u n:=fun k hk=>by
  rcases h k hk with h|h
  · exact .inl h
  · rcases List.mem_append.1 h with h|h
    · exact h1 k h
    · rcases List.mem_append.1 h with h|h
      · exact h2 k h
      · rcases List.mem_append.1 h with h|h
        · exact h3 k h
        · rcases List.mem_append.1 h with h|h
          · exact h4 k h
          · cases h
theorem rp_nil:rpL (.slice none 0 0) (.slice none 0 0) true = rpL (numV ⟨true,0,0⟩ 0) (numV ⟨true,0,0⟩ 0) true:=by
  rw [← Option.some.inj numV_nil]
theorem c_r_Plus (Q:CQ) (V:Cv) (q1 r1 q2 r2:NV) (P P2 R:Grp.Pt V.p) (w:World) (hc:(crvI Q V).holds w) (hok:V.Ok) (h1q:(numT q1 (xv P)).holds w) (h1r:(numT r1 (yv P)).holds w) (h2q:(numT q2 (xv P2)).holds w) (h2r:(numT r2 (yv P2)).holds w) (hP:On V.A V.B P) (hP2:On V.A V.B P2) (hR:padd V.A P P2 = R):Calls Tryz.prog 32 ([.agg (crvL Q V).toArray,rpV (numV q1 (xv P)) (numV r1 (yv P)) (iv P),rpV (numV q2 (xv P2)) (numV r2 (yv P2)) (iv P2)]:List Value).toArray w (fun e w'=>Num2R w (fp2 q1 r1 P (fp2 q2 r2 P2 [])) (xv R) (yv R) (fun u v=>rpV u v (iv R)) e w'):=by
  obtain ⟨hb5,hb521,hba,hbb,hbx,hby,hbn,hbo,hbo2,hbb1,hbn1⟩:=hok.bounds
  have hsz:=hok.sz
  have hsp:=hsz.p
  have hsa:=hsz.a
  have hsb:=hsz.b
  have hp0:V.p≠0:=by omega
  have hpp:0<V.p:=by omega
  have hm17:∀ k,D.nw (k%V.p)≤17:=fun k=>Nat.le_trans (D.nw_mono (Nat.le_of_lt (Nat.mod_lt k hpp))) hsp
  have h17:∀ {A:Nat},A<V.p→D.nw A≤100000:=fun h=>Nat.le_trans (nw_521 (Nat.lt_trans h hb521)) dc
  refine Ka (N:=127) (rs:=[.cell 6 35]) [crvI Q V,numT q1 (xv P),numT r1 (yv P),numT q2 (xv P2),numT r2 (yv P2)] Tryz.func32 rfl Tryz.ntmps32 Tryz.results32 (Nb rfl) ⟨hc,h1q,h1r,h2q,h2r,trivial⟩ rfl ?_
  show LCode _ _ _ ⟨_,_⟩ _
  refine KB (KA ?_)
  refine oS (mB (fun b3=>?_))
  refine oS (mB (fun b4=>?_))
  refine oS (mB (fun b5=>?_))
  refine oS (mk (KP zr_35) (fun b6=>?_))
  refine KC ?_
  refine KB ?_
  refine KB ?_
  rcases P with _|⟨x1,y1⟩
  ·
    have eR:P2 = R:=(hok.inf_add hP2).symm.trans hR
    subst eR
    refine KA ?_
    refine oP (KF (o':=2) Tryz.underlying35 rfl rfl rfl sz_4 dc) ?_
    refine oD (dL rfl (hv:=KJ Tryz.underlying4 rfl (by first|rfl|exact KW _ _ _ om|exact KV _ om|exact KT _ om|exact dv_m _ _ _ om))) ?_
    refine KC ?_
    refine KU rfl ?_
    refine KB (KA ?_)
    refine oD (dL rfl (hv:=by exact KE Tryz.underlying35 rfl sz_35)) ?_
    refine KO rfl (sA rfl rfl sz_35 (by repeat (first|exact Ki|refine Kf rfl ?_)) (hl:=by rfl) (h:=?_))
    refine KC (KI ?_)
    refine ⟨[_],.cons ⟨_,_,_,rfl,mM,by exact KE Tryz.underlying35 rfl sz_35⟩ .nil,fun a w' hr=>hr.num2Q mM (fp2_t (fp2_q _)) mM (fp2_t (fp2_r _))⟩
  ·
    refine KA ?_
    refine oP (KF (o':=2) Tryz.underlying35 rfl rfl rfl sz_4 dc) ?_
    refine oD (dL rfl (hv:=KJ Tryz.underlying4 rfl (by first|rfl|exact KW _ _ _ om|exact KV _ om|exact KT _ om|exact dv_m _ _ _ om))) ?_
    refine KC ?_
    refine KK rfl ?_
    refine KM ?_
    refine KB ?_
    refine KB ?_
    rcases P2 with _|⟨x2,y2⟩
    ·
      have eR:Pt.aff x1 y1 = R:=(hok.add_inf hP).symm.trans hR
      subst eR
      refine KA ?_
      refine oP (KF (o':=2) Tryz.underlying35 rfl rfl rfl sz_4 dc) ?_
      refine oD (dL rfl (hv:=KJ Tryz.underlying4 rfl (by first|rfl|exact KW _ _ _ om|exact KV _ om|exact KT _ om|exact dv_m _ _ _ om))) ?_
      refine KC ?_
      refine KU rfl ?_
      refine KB (KA ?_)
      refine oD (dL rfl (hv:=by exact KE Tryz.underlying35 rfl sz_35)) ?_
      refine KO rfl (sA rfl rfl sz_35 (by repeat (first|exact Ki|refine Kf rfl ?_)) (hl:=by rfl) (h:=?_))
      refine KC (KI ?_)
      refine ⟨[_],.cons ⟨_,_,_,rfl,mM,by exact KE Tryz.underlying35 rfl sz_35⟩ .nil,fun a w' hr=>hr.num2Q mM (fp2_q _) mM (fp2_r _)⟩
    ·
      have hy0:=y_pos hok hP
      refine KA ?_
      refine oP (KF (o':=2) Tryz.underlying35 rfl rfl rfl sz_4 dc) ?_
      refine oD (dL rfl (hv:=KJ Tryz.underlying4 rfl (by first|rfl|exact KW _ _ _ om|exact KV _ om|exact KT _ om|exact dv_m _ _ _ om))) ?_
      refine KC ?_
      refine KK rfl ?_
      refine KM ?_
      refine KB (KA ?_)
      refine oA ?_
      refine oA ?_
      refine KC ?_
      refine LCode.cut (α:=Nat×Nat×NV×NV) (fun x=>PlusQ V R x1.val y1.val x2.val x.1 x.2.1) (fun x=>⟨[(3,.pointer (some ⟨b3,0,none⟩)),(4,.pointer (some ⟨b4,0,none⟩)),(5,.pointer (some ⟨b5,0,none⟩)),(6,.pointer (some ⟨b6,0,none⟩)),(7,numV x.2.2.1 x.1),(8,numV x.2.2.2 x.2.1)],[.blk b6 ⟨true,[.slice none 0 0,.slice none 0 0,.bool false],35,(0,0)⟩,.blk b5 ⟨true,rpL (numV q2 x2.val) (numV r2 y2.val) false,35,(0,0)⟩,.blk b4 ⟨true,rpL (numV q1 x1.val) (numV r1 y1.val) false,35,(0,0)⟩,.blk b3 ⟨true,crvL Q V,30,(0,0)⟩,numT x.2.2.1 x.1,numT x.2.2.2 x.2.1,crvI Q V,numT q1 x1.val,numT r1 y1.val,numT q2 x2.val,numT r2 y2.val]⟩) ?_ ?_
      ·
        refine KB (KA ?_)
        refine oP (KF (o':=0) Tryz.underlying35 rfl rfl rfl sz_28 dc) ?_
        refine oD (dL rfl (hv:=KJ Tryz.underlying28 rfl (by first|rfl|exact KW _ _ _ om|exact KV _ om|exact KT _ om|exact dv_m _ _ _ om))) ?_
        refine oP (KF (o':=0) Tryz.underlying35 rfl rfl rfl sz_28 dc) ?_
        refine oD (dL rfl (hv:=KJ Tryz.underlying28 rfl (by first|rfl|exact KW _ _ _ om|exact KV _ om|exact KT _ om|exact dv_m _ _ _ om))) ?_
        refine oS (cF rfl en_45 rfl (fun w hw=>c_n_Cmp q1 q2 x1.val x2.val w (mC hw) (mC hw) (Nat.le_trans (h17 x1.isLt) dc)) ?_)
        refine oP (KD rfl rfl cmp_eql) ?_
        refine KC ?_
        first|refine KN rfl (fun hx=>?_) (fun hx=>?_)|refine KQ rfl (fun hx=>?_) (fun hx=>?_)
        ·
          have hx:x1.val = x2.val:=hx
          refine KB ?_
          refine KB ?_
          by_cases hy:y1.val = y2.val
          ·
            refine KA ?_
            refine oP (KF (o':=1) Tryz.underlying35 rfl rfl rfl sz_28 dc) ?_
            refine oD (dL rfl (hv:=KJ Tryz.underlying28 rfl (by first|rfl|exact KW _ _ _ om|exact KV _ om|exact KT _ om|exact dv_m _ _ _ om))) ?_
            refine oP (KF (o':=1) Tryz.underlying35 rfl rfl rfl sz_28 dc) ?_
            refine oD (dL rfl (hv:=KJ Tryz.underlying28 rfl (by first|rfl|exact KW _ _ _ om|exact KV _ om|exact KT _ om|exact dv_m _ _ _ om))) ?_
            refine oS (cF rfl en_45 rfl (fun w hw=>c_n_Cmp r1 r2 y1.val y2.val w (mC hw) (mC hw) (Nat.le_trans (h17 y1.isLt) dc)) ?_)
            refine oP (KD (v:=.bool false) rfl rfl (br_f cmp_neq (fun e=>e hy))) ?_
            refine oM ?_
            refine oGP (KF (o':=1) Tryz.underlying35 rfl rfl rfl sz_28 dc) ?_
            refine KAM rfl rfl (dL rfl (hv:=KJ Tryz.underlying28 rfl (by first|rfl|exact KW _ _ _ om|exact KV _ om|exact KT _ om|exact dv_m _ _ _ om))) (Nb rfl) ?_
            refine oGP (KAH Tryz.underlying28 rfl) ?_
            refine oGP (KD (v:=.bool false) rfl rfl (br_f (KAP (b:=0)) (fun e=>hy0 (nw_eq_zero.1 e)))) ?_
            refine oP (KY rfl rfl) ?_
            refine KC ?_
            refine KK rfl ?_
            refine KM ?_
            refine KB ?_
            have ex:x1 = x2:=Fin.ext hx
            have ey:y1 = y2:=Fin.ext hy
            subst ex ey
            refine KA ?_
            refine oP (KF (o':=0) Tryz.underlying35 rfl rfl rfl sz_28 dc) ?_
            refine oD (dL rfl (hv:=KJ Tryz.underlying28 rfl (by first|rfl|exact KW _ _ _ om|exact KV _ om|exact KT _ om|exact dv_m _ _ _ om))) ?_
            refine oP (KF (o':=0) Tryz.underlying35 rfl rfl rfl sz_28 dc) ?_
            refine oD (dL rfl (hv:=KJ Tryz.underlying28 rfl (by first|rfl|exact KW _ _ _ om|exact KV _ om|exact KT _ om|exact dv_m _ _ _ om))) ?_
            refine oP (KF (o':=1) Tryz.underlying30 rfl rfl rfl sz_28 dc) ?_
            refine oD (dL rfl (hv:=KJ Tryz.underlying28 rfl (by first|rfl|exact KW _ _ _ om|exact KV _ om|exact KT _ om|exact dv_m _ _ _ om))) ?_
            refine oS (cZ rfl en_52 rfl (fun w hw hs=>(c_n_MulMod q1 q1 Q.p (x1.val) (x1.val) V.p hp0 w (mC hw) (mC hw) (crvI_p (mC hw)) (h17 x1.isLt) (h17 x1.isLt)).mono fun e w' h=>KAX (Old.nil _) hs h) ?_)
            rintro _ _ ⟨qt1,rfl,rfl,hnt1⟩
            refine oA ?_
            refine KC ?_
            refine KB ?_
            refine rD [] ?_
            refine aM 0 ?_
            refine aM 1 ?_
            refine aM 2 ?_
            refine aP 3 rfl (KF (o':=1) Tryz.underlying30 rfl rfl rfl sz_28 dc) ?_
            refine aD 4 rfl (dL rfl (hv:=KJ Tryz.underlying28 rfl (by first|rfl|exact KW _ _ _ om|exact KV _ om|exact KT _ om|exact dv_m _ _ _ om))) ?_
            refine aP 6 rfl (KF (o':=1) Tryz.underlying30 rfl rfl rfl sz_28 dc) ?_
            refine aD 7 rfl (dL rfl (hv:=KJ Tryz.underlying28 rfl (by first|rfl|exact KW _ _ _ om|exact KV _ om|exact KT _ om|exact dv_m _ _ _ om))) ?_
            refine aP 9 rfl (KF (o':=2) Tryz.underlying30 rfl rfl rfl sz_28 dc) ?_
            refine aD 10 rfl (dL rfl (hv:=KJ Tryz.underlying28 rfl (by first|rfl|exact KW _ _ _ om|exact KV _ om|exact KT _ om|exact dv_m _ _ _ om))) ?_
            refine aP 11 rfl (KF (o':=1) Tryz.underlying30 rfl rfl rfl sz_28 dc) ?_
            refine aD 12 rfl (dL rfl (hv:=KJ Tryz.underlying28 rfl (by first|rfl|exact KW _ _ _ om|exact KV _ om|exact KT _ om|exact dv_m _ _ _ om))) ?_
            refine aO 5 rfl (cZ rfl en_53 rfl (fun w hw hs=>(c_n_AddMod qt1 qt1 Q.p (x1.val*x1.val%V.p) (x1.val*x1.val%V.p) V.p w (mC hw) (mC hw) (crvI_p (mC hw)) (h17 (Nat.mod_lt _ hpp)) (h17 (Nat.mod_lt _ hpp)) (Nat.mod_lt _ hpp) (Nat.mod_lt _ hpp)).mono fun e w' h=>KAX (Old.nil _) hs h) ?_)
            rintro _ _ ⟨qt2,rfl,rfl,hnt2⟩
            refine aO 8 rfl (cZ rfl en_53 rfl (fun w hw hs=>(c_n_AddMod qt1 qt2 Q.p (x1.val*x1.val%V.p) ((x1.val*x1.val%V.p+x1.val*x1.val%V.p)%V.p) V.p w (mC hw) (mC hw) (crvI_p (mC hw)) (h17 (Nat.mod_lt _ hpp)) (h17 (Nat.mod_lt _ hpp)) (Nat.mod_lt _ hpp) (Nat.mod_lt _ hpp)).mono fun e w' h=>KAX (Old.nil _) hs h) ?_)
            rintro _ _ ⟨qt3,rfl,rfl,hnt3⟩
            refine aO 13 rfl (cZ rfl en_53 rfl (fun w hw hs=>(c_n_AddMod qt3 Q.a Q.p ((x1.val*x1.val%V.p+(x1.val*x1.val%V.p+x1.val*x1.val%V.p)%V.p)%V.p) (V.a) V.p w (mC hw) (crvI_a (mC hw)) (crvI_p (mC hw)) (h17 (Nat.mod_lt _ hpp)) (h17 hba) (Nat.mod_lt _ hpp) hba).mono fun e w' h=>KAX (Old.nil _) hs h) ?_)
            rintro _ _ ⟨qt4,rfl,rfl,hnt4⟩
            refine aA 14 ?_
            refine aE ?_
            refine KA ?_
            refine oP (KF (o':=1) Tryz.underlying35 rfl rfl rfl sz_28 dc) ?_
            refine oD (dL rfl (hv:=KJ Tryz.underlying28 rfl (by first|rfl|exact KW _ _ _ om|exact KV _ om|exact KT _ om|exact dv_m _ _ _ om))) ?_
            refine oP (KF (o':=1) Tryz.underlying35 rfl rfl rfl sz_28 dc) ?_
            refine oD (dL rfl (hv:=KJ Tryz.underlying28 rfl (by first|rfl|exact KW _ _ _ om|exact KV _ om|exact KT _ om|exact dv_m _ _ _ om))) ?_
            refine oP (KF (o':=1) Tryz.underlying30 rfl rfl rfl sz_28 dc) ?_
            refine oD (dL rfl (hv:=KJ Tryz.underlying28 rfl (by first|rfl|exact KW _ _ _ om|exact KV _ om|exact KT _ om|exact dv_m _ _ _ om))) ?_
            refine oS (cZ rfl en_53 rfl (fun w hw hs=>(c_n_AddMod r1 r1 Q.p (y1.val) (y1.val) V.p w (mC hw) (mC hw) (crvI_p (mC hw)) (h17 y1.isLt) (h17 y1.isLt) y1.isLt y1.isLt).mono fun e w' h=>KAX (Old.nil _) hs h) ?_)
            rintro _ _ ⟨qt5,rfl,rfl,hnt5⟩
            refine oA ?_
            refine KC ?_
            exact ⟨(tangO V.p V.a x1.val,tangU V.p y1.val,qt4,qt5),hR ▸ plus_tang hok hP,Kd ⟨rfl,rfl,rfl,rfl,rfl,rfl,trivial⟩ mS⟩
          ·
            refine KA ?_
            refine oP (KF (o':=1) Tryz.underlying35 rfl rfl rfl sz_28 dc) ?_
            refine oD (dL rfl (hv:=KJ Tryz.underlying28 rfl (by first|rfl|exact KW _ _ _ om|exact KV _ om|exact KT _ om|exact dv_m _ _ _ om))) ?_
            refine oP (KF (o':=1) Tryz.underlying35 rfl rfl rfl sz_28 dc) ?_
            refine oD (dL rfl (hv:=KJ Tryz.underlying28 rfl (by first|rfl|exact KW _ _ _ om|exact KV _ om|exact KT _ om|exact dv_m _ _ _ om))) ?_
            refine oS (cF rfl en_45 rfl (fun w hw=>c_n_Cmp r1 r2 y1.val y2.val w (mC hw) (mC hw) (Nat.le_trans (h17 y1.isLt) dc)) ?_)
            refine oP (KD (v:=.bool true) rfl rfl (br_t cmp_neq (hy))) ?_
            refine oM ?_
            refine oK ?_
            refine oK ?_
            refine oK ?_
            refine oK ?_
            refine oP (Kj rfl rfl) ?_
            refine KC ?_
            refine KU rfl ?_
            refine KB ?_
            have eR:Pt.inf = R:=(plus_opp hok hP hP2 hx hy).symm.trans hR
            subst eR
            refine KA ?_
            refine oP (KG (Kp pl_35 zr_35 rfl rfl) (show _ = rpV (.slice none 0 0) (.slice none 0 0) (true) from rfl)) ?_
            refine KO rfl (sA rfl rfl sz_35 (by repeat (first|exact Ki|refine Kf rfl ?_)) (hl:=by rfl) (h:=?_))
            refine KC (KI ?_)
            refine ⟨[_],.cons ⟨_,_,_,rfl,mM,by exact KE Tryz.underlying35 rfl sz_35⟩ .nil,fun a w' hr=>⟨⟨true,0,0⟩,⟨true,0,0⟩,congrArg (fun l:List Value=>Ending.returned (.agg l.toArray)) rp_nil,numT_zero_holds _,nfr_zero _ _,numT_zero_holds _,nfr_zero _ _,hr.fr.below⟩⟩
        ·
          have hx:x1.val≠x2.val:=hx
          refine KB (KA ?_)
          refine oP (KF (o':=1) Tryz.underlying35 rfl rfl rfl sz_28 dc) ?_
          refine oD (dL rfl (hv:=KJ Tryz.underlying28 rfl (by first|rfl|exact KW _ _ _ om|exact KV _ om|exact KT _ om|exact dv_m _ _ _ om))) ?_
          refine oP (KF (o':=1) Tryz.underlying35 rfl rfl rfl sz_28 dc) ?_
          refine oD (dL rfl (hv:=KJ Tryz.underlying28 rfl (by first|rfl|exact KW _ _ _ om|exact KV _ om|exact KT _ om|exact dv_m _ _ _ om))) ?_
          refine oP (KF (o':=1) Tryz.underlying30 rfl rfl rfl sz_28 dc) ?_
          refine oD (dL rfl (hv:=KJ Tryz.underlying28 rfl (by first|rfl|exact KW _ _ _ om|exact KV _ om|exact KT _ om|exact dv_m _ _ _ om))) ?_
          refine oS (cZ rfl en_54 rfl (fun w hw hs=>(c_n_SubMod r2 r1 Q.p (y2.val) (y1.val) V.p w (mC hw) (mC hw) (crvI_p (mC hw)) (h17 y2.isLt) om y1.isLt).mono fun e w' h=>KAX (Old.nil _) hs h) ?_)
          rintro _ _ ⟨qc1,rfl,rfl,hnc1⟩
          refine oA ?_
          refine KC ?_
          refine KA ?_
          refine oP (KF (o':=0) Tryz.underlying35 rfl rfl rfl sz_28 dc) ?_
          refine oD (dL rfl (hv:=KJ Tryz.underlying28 rfl (by first|rfl|exact KW _ _ _ om|exact KV _ om|exact KT _ om|exact dv_m _ _ _ om))) ?_
          refine oP (KF (o':=0) Tryz.underlying35 rfl rfl rfl sz_28 dc) ?_
          refine oD (dL rfl (hv:=KJ Tryz.underlying28 rfl (by first|rfl|exact KW _ _ _ om|exact KV _ om|exact KT _ om|exact dv_m _ _ _ om))) ?_
          refine oP (KF (o':=1) Tryz.underlying30 rfl rfl rfl sz_28 dc) ?_
          refine oD (dL rfl (hv:=KJ Tryz.underlying28 rfl (by first|rfl|exact KW _ _ _ om|exact KV _ om|exact KT _ om|exact dv_m _ _ _ om))) ?_
          refine oS (cZ rfl en_54 rfl (fun w hw hs=>(c_n_SubMod q2 q1 Q.p (x2.val) (x1.val) V.p w (mC hw) (mC hw) (crvI_p (mC hw)) (h17 x2.isLt) om x1.isLt).mono fun e w' h=>KAX (Old.nil _) hs h) ?_)
          rintro _ _ ⟨qc2,rfl,rfl,hnc2⟩
          refine oA ?_
          refine KC ?_
          exact ⟨(chordO V.p y1.val y2.val,chordU V.p x1.val x2.val,qc1,qc2),hR ▸ plus_chord hok hP hP2 hx,Kd ⟨rfl,rfl,rfl,rfl,rfl,rfl,trivial⟩ mS⟩
      ·
        rintro x ⟨⟨ho,hu,hu0⟩,hx1,hx2,hx3⟩
        have hin:=invM_lt (a:=x.2.1) hpp
        refine KB (KA ?_)
        refine oM ?_
        refine oP (KF (o':=1) Tryz.underlying30 rfl rfl rfl sz_28 dc) ?_
        refine oD (dL rfl (hv:=KJ Tryz.underlying28 rfl (by first|rfl|exact KW _ _ _ om|exact KV _ om|exact KT _ om|exact dv_m _ _ _ om))) ?_
        refine oS (cZ rfl en_55 rfl (fun w hw hs=>(c_n_Inverse x.2.2.2 Q.p x.2.1 V.p w (mC hw) (crvI_p (mC hw)) (Nat.le_trans (h17 hu) dc) om om (gcd_under hok hu hu0)).mono fun e w' h=>KAX (Old.nil _) hs h) ?_)
        rintro _ _ ⟨qi,rfl,rfl,hni⟩
        refine oM ?_
        refine oP (Det.extract rfl rfl) ?_
        refine oP (Det.extract rfl rfl) ?_
        refine oA ?_
        refine oA ?_
        refine KC ?_
        refine KB (KA ?_)
        refine oM ?_
        refine oM ?_
        refine oP (KF (o':=1) Tryz.underlying30 rfl rfl rfl sz_28 dc) ?_
        refine oD (dL rfl (hv:=KJ Tryz.underlying28 rfl (by first|rfl|exact KW _ _ _ om|exact KV _ om|exact KT _ om|exact dv_m _ _ _ om))) ?_
        refine oS (cZ rfl en_52 rfl (fun w hw hs=>(c_n_MulMod x.2.2.1 qi Q.p (x.1) (invM x.2.1 V.p) V.p hp0 w (mC hw) (mC hw) (crvI_p (mC hw)) (h17 ho) (h17 hin)).mono fun e w' h=>KAX (Old.nil _) hs h) ?_)
        rintro _ _ ⟨ql,rfl,rfl,hnl⟩
        refine oA ?_
        refine KC ?_
        refine KB ?_
        have hL:x.1*invM x.2.1 V.p%V.p<V.p:=Nat.mod_lt _ hpp
        generalize x.1*invM x.2.1 V.p%V.p = L at *
        refine rD [] ?_
        refine aM 0 ?_
        refine aM 1 ?_
        refine aP 2 rfl (KF (o':=1) Tryz.underlying30 rfl rfl rfl sz_28 dc) ?_
        refine aD 3 rfl (dL rfl (hv:=KJ Tryz.underlying28 rfl (by first|rfl|exact KW _ _ _ om|exact KV _ om|exact KT _ om|exact dv_m _ _ _ om))) ?_
        refine aP 5 rfl (KF (o':=0) Tryz.underlying35 rfl rfl rfl sz_28 dc) ?_
        refine aD 6 rfl (dL rfl (hv:=KJ Tryz.underlying28 rfl (by first|rfl|exact KW _ _ _ om|exact KV _ om|exact KT _ om|exact dv_m _ _ _ om))) ?_
        refine aP 7 rfl (KF (o':=1) Tryz.underlying30 rfl rfl rfl sz_28 dc) ?_
        refine aD 8 rfl (dL rfl (hv:=KJ Tryz.underlying28 rfl (by first|rfl|exact KW _ _ _ om|exact KV _ om|exact KT _ om|exact dv_m _ _ _ om))) ?_
        refine aP 10 rfl (KF (o':=0) Tryz.underlying35 rfl rfl rfl sz_28 dc) ?_
        refine aD 11 rfl (dL rfl (hv:=KJ Tryz.underlying28 rfl (by first|rfl|exact KW _ _ _ om|exact KV _ om|exact KT _ om|exact dv_m _ _ _ om))) ?_
        refine aP 12 rfl (KF (o':=1) Tryz.underlying30 rfl rfl rfl sz_28 dc) ?_
        refine aD 13 rfl (dL rfl (hv:=KJ Tryz.underlying28 rfl (by first|rfl|exact KW _ _ _ om|exact KV _ om|exact KT _ om|exact dv_m _ _ _ om))) ?_
        refine aO 4 rfl (cZ rfl en_52 rfl (fun w hw hs=>(c_n_MulMod ql ql Q.p (L) (L) V.p hp0 w (mC hw) (mC hw) (crvI_p (mC hw)) (h17 hL) (h17 hL)).mono fun e w' h=>KAX (Old.nil _) hs h) ?_)
        rintro _ _ ⟨qll,rfl,rfl,hnll⟩
        refine aO 9 rfl (cZ rfl en_54 rfl (fun w hw hs=>(c_n_SubMod qll q1 Q.p (L*L%V.p) (x1.val) V.p w (mC hw) (mC hw) (crvI_p (mC hw)) (h17 (Nat.mod_lt _ hpp)) om x1.isLt).mono fun e w' h=>KAX (Old.nil _) hs h) ?_)
        rintro _ _ ⟨qlx,rfl,rfl,hnlx⟩
        refine aO 14 rfl (cZ rfl en_54 rfl (fun w hw hs=>(c_n_SubMod qlx q2 Q.p (lessM (L*L%V.p) x1.val V.p) (x2.val) V.p w (mC hw) (mC hw) (crvI_p (mC hw)) (h17 (lessM_lt (Nat.mod_lt _ hpp) x1.isLt)) om x2.isLt).mono fun e w' h=>KAX (Old.nil _) hs h) ?_)
        rintro _ _ ⟨qx,rfl,rfl,hnx⟩
        refine aA 15 ?_
        refine aE ?_
        refine KB ?_
        refine rD [] ?_
        refine aM 0 ?_
        refine aP 1 rfl (KF (o':=0) Tryz.underlying35 rfl rfl rfl sz_28 dc) ?_
        refine aD 2 rfl (dL rfl (hv:=KJ Tryz.underlying28 rfl (by first|rfl|exact KW _ _ _ om|exact KV _ om|exact KT _ om|exact dv_m _ _ _ om))) ?_
        refine aM 3 ?_
        refine aP 4 rfl (KF (o':=1) Tryz.underlying30 rfl rfl rfl sz_28 dc) ?_
        refine aD 5 rfl (dL rfl (hv:=KJ Tryz.underlying28 rfl (by first|rfl|exact KW _ _ _ om|exact KV _ om|exact KT _ om|exact dv_m _ _ _ om))) ?_
        refine aP 7 rfl (KF (o':=1) Tryz.underlying30 rfl rfl rfl sz_28 dc) ?_
        refine aD 8 rfl (dL rfl (hv:=KJ Tryz.underlying28 rfl (by first|rfl|exact KW _ _ _ om|exact KV _ om|exact KT _ om|exact dv_m _ _ _ om))) ?_
        refine aP 10 rfl (KF (o':=1) Tryz.underlying35 rfl rfl rfl sz_28 dc) ?_
        refine aD 11 rfl (dL rfl (hv:=KJ Tryz.underlying28 rfl (by first|rfl|exact KW _ _ _ om|exact KV _ om|exact KT _ om|exact dv_m _ _ _ om))) ?_
        refine aP 12 rfl (KF (o':=1) Tryz.underlying30 rfl rfl rfl sz_28 dc) ?_
        refine aD 13 rfl (dL rfl (hv:=KJ Tryz.underlying28 rfl (by first|rfl|exact KW _ _ _ om|exact KV _ om|exact KT _ om|exact dv_m _ _ _ om))) ?_
        refine aO 6 rfl (cZ rfl en_54 rfl (fun w hw hs=>(c_n_SubMod q1 qx Q.p (x1.val) (lineX V.p L x1.val x2.val) V.p w (mC hw) (mC hw) (crvI_p (mC hw)) (h17 x1.isLt) om (lineX_lt x1.isLt x2.isLt)).mono fun e w' h=>KAX (Old.nil _) hs h) ?_)
        rintro _ _ ⟨qd,rfl,rfl,hnd⟩
        refine aO 9 rfl (cZ rfl en_52 rfl (fun w hw hs=>(c_n_MulMod ql qd Q.p (L) (lessM x1.val (lineX V.p L x1.val x2.val) V.p) V.p hp0 w (mC hw) (mC hw) (crvI_p (mC hw)) (h17 hL) (h17 (lessM_lt x1.isLt (lineX_lt x1.isLt x2.isLt)))).mono fun e w' h=>KAX (Old.nil _) hs h) ?_)
        rintro _ _ ⟨qm,rfl,rfl,hnm⟩
        refine aO 14 rfl (cZ rfl en_54 rfl (fun w hw hs=>(c_n_SubMod qm r1 Q.p (L*lessM x1.val (lineX V.p L x1.val x2.val) V.p%V.p) (y1.val) V.p w (mC hw) (mC hw) (crvI_p (mC hw)) (h17 (Nat.mod_lt _ hpp)) om y1.isLt).mono fun e w' h=>KAX (Old.nil _) hs h) ?_)
        rintro _ _ ⟨qy,rfl,rfl,hny⟩
        refine aA 15 ?_
        refine aE ?_
        refine KB (KA ?_)
        refine oM ?_
        refine oM ?_
        refine oP (KG (Kp pl_35 zr_35 rfl rfl) (show _ = rpV (numV qx (lineX V.p L x1.val x2.val)) (numV qy (lineY V.p L x1.val y1.val (lineX V.p L x1.val x2.val))) (false) from rfl)) ?_
        refine KO rfl (sA rfl rfl sz_35 (by repeat (first|exact Ki|refine Kf rfl ?_)) (hl:=by rfl) (h:=?_))
        refine KC (KI ?_)
        refine ⟨[_],.cons ⟨_,_,_,rfl,mM,by exact KE Tryz.underlying35 rfl sz_35⟩ .nil,fun a w' hr=>?_⟩
        show Num2R w _ (xv R) (yv R) (fun u v=>rpV u v (iv R)) _ _
        rw [hx1,hx2,hx3]
        exact hr.num2Q (q:=qx) (r:=qy) mM hnx.any mM hny.any
end Go.Proofs.YtlmiolnccgjjjaaGreat
set_option linter.unusedVariables false
set_option linter.unusedSimpArgs false
set_option maxRecDepth 20000
namespace Go.Proofs.YtlmiolnccgjjjaaGreat
open Go Go.RowKit
theorem c_Right (V:Cv) (b f bd:Nat) (hok:V.Ok) (X:Fin V.p) (w:World) (hb:(Item.blk b ⟨false,opL V f,92,(0,0)⟩).holds w) (hf:(Item.blk f ⟨false,fldL V.p bd,116,(0,0)⟩).holds w) (hbd:(Item.blk bd ⟨false,dvL V.p,167,(0,0)⟩).holds w):Calls Tryz.prog 84 ([.pointer (some ⟨b,0,none⟩),natV X.val]:List Value).toArray w (fun e w'=>e = .returned (natV ((X*X+V.A)*X+V.B).val)∧Below w.heap.size w w'):=by
  have hbb:=hok.bounds
  have hpW:V.p<W9:=KAJ hbb.2.1
  refine Ka (N:=31) (rs:=[.cell 4 25]) [.blk b ⟨false,opL V f,92,(0,0)⟩,.blk f ⟨false,fldL V.p bd,116,(0,0)⟩,.blk bd ⟨false,dvL V.p,167,(0,0)⟩] Tryz.func84 rfl Tryz.ntmps84 Tryz.results84 (Nb rfl) ⟨hb,hf,hbd,trivial⟩ rfl ?_
  show LCode _ _ _ ⟨_,_⟩ _
  refine KB (KA ?_)
  refine oS (mB (fun b3=>?_))
  refine oS (mk (KP zr_25) (fun b4=>?_))
  refine KC ?_
  refine KB (KA ?_)
  refine oM ?_
  refine oP (KL rfl) ?_
  refine oP (KF (o':=59) Tryz.underlying92 rfl rfl rfl sz_90 dc) ?_
  refine oD (dL rfl (hv:=KJ Tryz.underlying90 rfl (by exact cvC_gt_F _ _ _ _ _ _ _ _ _ _ _ _ _))) ?_
  refine oA ?_
  refine KC ?_
  refine KB ?_
  refine rD [21] ?_
  refine aM 0 ?_
  refine aM 1 ?_
  refine aM 2 ?_
  refine aM 3 ?_
  refine aD 4 rfl (dL rfl (hv:=by exact KE Tryz.underlying25 rfl sz_25)) ?_
  refine aD 5 rfl (dL rfl (hv:=by exact KE Tryz.underlying25 rfl sz_25)) ?_
  refine aM 7 ?_
  refine aP 8 rfl (KL rfl) ?_
  refine aP 9 rfl (KF (o':=0) Tryz.underlying92 rfl rfl rfl sz_89 dc) ?_
  refine aP 10 rfl (KF (o':=10) Tryz.underlying89 rfl rfl rfl sz_25 dc) ?_
  refine aD 11 rfl (Det.cast (dL rfl (hv:=by exact cvC_ld_a _ _ _ _ _ _ _ _ _ _ _ _ _ _ _ _)) (a_val hok)) ?_
  refine aD 13 rfl (dL rfl (hv:=by exact KE Tryz.underlying25 rfl sz_25)) ?_
  refine aM 15 ?_
  refine aP 16 rfl (KL rfl) ?_
  refine aP 17 rfl (KF (o':=0) Tryz.underlying92 rfl rfl rfl sz_89 dc) ?_
  refine aP 18 rfl (KF (o':=19) Tryz.underlying89 rfl rfl rfl sz_25 dc) ?_
  refine aD 19 rfl (Det.cast (dL rfl (hv:=by exact cvC_ld_b _ _ _ _ _ _ _ _ _ _ _ _ _ _ _ _)) (b_val hok)) ?_
  refine aO 6 rfl (cF rfl en_87 rfl (fun w hw=>c_F_Mul V hok f bd _ _ w (mC hw) (mC hw)) ?_)
  refine aO 12 rfl (cF rfl en_63 rfl (fun w hw=>c_F_Add V hok f bd _ _ w (mC hw)) ?_)
  refine aO 14 rfl (cF rfl en_87 rfl (fun w hw=>c_F_Mul V hok f bd _ _ w (mC hw) (mC hw)) ?_)
  refine aO 20 rfl (cF rfl en_63 rfl (fun w hw=>c_F_Add V hok f bd _ _ w (mC hw)) ?_)
  refine aL 21 rfl (sA rfl rfl sz_25 mO (hl:=mL) (h:=?_))
  refine aE ?_
  refine KI ?_
  refine ⟨[_],.cons ⟨_,_,_,rfl,mM,by exact KE Tryz.underlying25 rfl sz_25⟩ .nil,fun a w' hr=>⟨?_,hr.fr.below⟩⟩
  rfl
theorem c_HasT (V:Cv) (f bd A:Nat) (w:World) (hf:(Item.blk f ⟨false,fldL V.p bd,116,(0,0)⟩).holds w) (hA:A<W9) (hpW:V.p<W9) (h:A<V.p):Calls Tryz.prog 82 ([.pointer (some ⟨f,0,none⟩),natV A]:List Value).toArray w (fun e w'=>e = .returned (.bool true)∧Below w.heap.size w w'):=by
  have:=c_f_Has V f bd A w hf hA hpW
  rwa [decide_eq_true h] at this
theorem c_HasF (V:Cv) (f bd A:Nat) (w:World) (hf:(Item.blk f ⟨false,fldL V.p bd,116,(0,0)⟩).holds w) (hA:A<W9) (hpW:V.p<W9) (h:¬ A<V.p):Calls Tryz.prog 82 ([.pointer (some ⟨f,0,none⟩),natV A]:List Value).toArray w (fun e w'=>e = .returned (.bool false)∧Below w.heap.size w w'):=by
  have:=c_f_Has V f bd A w hf hA hpW
  rwa [decide_eq_false h] at this
theorem right_val {V:Cv} (hok:V.Ok) (x:Fin V.p):rightN V.p V.a V.b x.val = ((x*x+V.A)*x+V.B).val:=by
  unfold rightN
  rw [Fin.val_add,Fin.val_mul,Fin.val_add,Fin.val_mul,hok.A_val hok.bounds.2.2.1,hok.B_val hok.bounds.2.2.2.1]
theorem on_x' {p a b X Y:Nat} (h:¬ X<p):onB p a b X Y false = false:=by
  unfold onB; rw [if_neg dc,decide_eq_false h,Bool.false_and]
theorem on_yy' {p a b X Y:Nat} (h:¬ Y<p):onB p a b X Y false = false:=by
  unfold onB; rw [if_neg dc,decide_eq_false h,Bool.false_and,Bool.and_false]
theorem on_fin {V:Cv} (hok:V.Ok) (x y:Fin V.p):onB V.p V.a V.b x.val y.val false = decide ((y*y).val = ((x*x+V.A)*x+V.B).val):=by
  unfold onB
  rw [if_neg dc,decide_eq_true x.isLt,decide_eq_true y.isLt,Bool.true_and,Bool.true_and,right_val hok,Fin.val_mul]
theorem on_inf' {p a b X Y:Nat}:onB p a b X Y true = (decide (X = 0) && decide (Y = 0)):=if_pos rfl
theorem c_cOn (V:Cv) (b f bd:Nat) (hok:V.Ok) (X Y:Nat) (i:Bool) (w:World) (hb:(Item.blk b ⟨false,opL V f,92,(0,0)⟩).holds w) (hf:(Item.blk f ⟨false,fldL V.p bd,116,(0,0)⟩).holds w) (hbd:(Item.blk bd ⟨false,dvL V.p,167,(0,0)⟩).holds w) (hX:X<W9) (hY:Y<W9):Calls Tryz.prog 67 ([.pointer (some ⟨b,0,none⟩),ptV X Y i]:List Value).toArray w (fun e w'=>e = .returned (.bool (onB V.p V.a V.b X Y i))∧Below w.heap.size w w'):=by
  have hbb:=hok.bounds
  have hpW:V.p<W9:=KAJ hbb.2.1
  refine Ka (N:=42) (rs:=[.tmp 4]) [.blk b ⟨false,opL V f,92,(0,0)⟩,.blk f ⟨false,fldL V.p bd,116,(0,0)⟩,.blk bd ⟨false,dvL V.p,167,(0,0)⟩] Tryz.func67 rfl Tryz.ntmps67 Tryz.results67 (Nb rfl) ⟨hb,hf,hbd,trivial⟩ rfl ?_
  show LCode _ _ _ ⟨_,_⟩ _
  refine KB (KA ?_)
  refine oS (mB (fun b3=>?_))
  refine oA ?_
  refine KC ?_
  refine KB ?_
  refine KB ?_
  cases i
  ·
    refine KA ?_
    refine oP (KF (o':=18) Tryz.underlying83 rfl rfl rfl sz_4 dc) ?_
    refine oD (dL rfl (hv:=KJ Tryz.underlying4 rfl (by exact pt_gt _ _ _))) ?_
    refine KC ?_
    refine KK rfl ?_
    refine KM ?_
    refine KB ?_
    rcases (show (¬ X<V.p)∨(X<V.p∧¬ Y<V.p)∨(X<V.p∧Y<V.p) by omega) with h1|⟨h1,h2⟩|⟨h1,h2⟩
    ·
      refine rD [] ?_
      refine aM 0 ?_
      refine aP 1 rfl (KL rfl) ?_
      refine aP 2 rfl (KF (o':=59) Tryz.underlying92 rfl rfl rfl sz_90 dc) ?_
      refine aD 3 rfl (dL rfl (hv:=KJ Tryz.underlying90 rfl (by exact cvC_gt_F _ _ _ _ _ _ _ _ _ _ _ _ _))) ?_
      refine aP 4 rfl (KF (o':=0) Tryz.underlying83 rfl rfl rfl sz_25 dc) ?_
      refine aD 5 rfl (dL rfl (hv:=by exact Kv Tryz.underlying25 rfl sz_25 rfl (KH _))) ?_
      refine aO 6 rfl (cF rfl en_82 rfl (fun w hw=>c_HasF V f bd X w (mC hw) hX hpW h1) ?_)
      refine aM 7 ?_
      refine aK 8 ?_
      refine aK 9 ?_
      refine aK 10 ?_
      refine aK 11 ?_
      refine aK 12 ?_
      refine aK 13 ?_
      refine aK 14 ?_
      refine aP 15 rfl (KY rfl rfl) ?_
      refine aM 16 ?_
      refine aK 17 ?_
      refine aK 18 ?_
      refine aK 19 ?_
      refine aK 20 ?_
      refine aK 21 ?_
      refine aK 22 ?_
      refine aK 23 ?_
      refine aK 24 ?_
      refine aK 25 ?_
      refine aK 26 ?_
      refine aK 27 ?_
      refine aK 28 ?_
      refine aK 29 ?_
      refine aK 30 ?_
      refine aP 31 rfl (KY rfl rfl) ?_
      refine aA 32 ?_
      refine aE ?_
      refine KI ?_
      refine ⟨[_],.cons rfl .nil,fun a w' hr=>⟨?_,hr.fr.below⟩⟩
      rw [on_x' h1]
      rfl
    ·
      refine rD [] ?_
      refine aM 0 ?_
      refine aP 1 rfl (KL rfl) ?_
      refine aP 2 rfl (KF (o':=59) Tryz.underlying92 rfl rfl rfl sz_90 dc) ?_
      refine aD 3 rfl (dL rfl (hv:=KJ Tryz.underlying90 rfl (by exact cvC_gt_F _ _ _ _ _ _ _ _ _ _ _ _ _))) ?_
      refine aP 4 rfl (KF (o':=0) Tryz.underlying83 rfl rfl rfl sz_25 dc) ?_
      refine aD 5 rfl (dL rfl (hv:=by exact Kv Tryz.underlying25 rfl sz_25 rfl (KH _))) ?_
      refine aO 6 rfl (cF rfl en_82 rfl (fun w hw=>c_HasT V f bd X w (mC hw) hX hpW h1) ?_)
      refine aM 7 ?_
      refine aGM 8 ?_
      refine aGP 9 rfl (KL rfl) ?_
      refine aGP 10 rfl (KF (o':=59) Tryz.underlying92 rfl rfl rfl sz_90 dc) ?_
      refine aGD 11 rfl (dL rfl (hv:=KJ Tryz.underlying90 rfl (by exact cvC_gt_F _ _ _ _ _ _ _ _ _ _ _ _ _))) ?_
      refine aGP 12 rfl (KF (o':=9) Tryz.underlying83 rfl rfl rfl sz_25 dc) ?_
      refine aGD 13 rfl (dL rfl (hv:=by exact pt_ld1 _ _ _ _ _ _)) ?_
      refine aGO 14 rfl (cF rfl en_82 rfl (fun w hw=>c_HasF V f bd Y w (mC hw) hY hpW h2) ?_)
      refine aP 15 rfl (Kj rfl rfl) ?_
      refine aM 16 ?_
      refine aK 17 ?_
      refine aK 18 ?_
      refine aK 19 ?_
      refine aK 20 ?_
      refine aK 21 ?_
      refine aK 22 ?_
      refine aK 23 ?_
      refine aK 24 ?_
      refine aK 25 ?_
      refine aK 26 ?_
      refine aK 27 ?_
      refine aK 28 ?_
      refine aK 29 ?_
      refine aK 30 ?_
      refine aP 31 rfl (KY rfl rfl) ?_
      refine aA 32 ?_
      refine aE ?_
      refine KI ?_
      refine ⟨[_],.cons rfl .nil,fun a w' hr=>⟨?_,hr.fr.below⟩⟩
      rw [on_yy' h2]
      rfl
    ·
      obtain ⟨x,rfl⟩:∃ x:Fin V.p,x.val = X:=⟨⟨X,h1⟩,rfl⟩
      obtain ⟨y,rfl⟩:∃ y:Fin V.p,y.val = Y:=⟨⟨Y,h2⟩,rfl⟩
      refine rD [] ?_
      refine aM 0 ?_
      refine aP 1 rfl (KL rfl) ?_
      refine aP 2 rfl (KF (o':=59) Tryz.underlying92 rfl rfl rfl sz_90 dc) ?_
      refine aD 3 rfl (dL rfl (hv:=KJ Tryz.underlying90 rfl (by exact cvC_gt_F _ _ _ _ _ _ _ _ _ _ _ _ _))) ?_
      refine aP 4 rfl (KF (o':=0) Tryz.underlying83 rfl rfl rfl sz_25 dc) ?_
      refine aD 5 rfl (dL rfl (hv:=by exact Kv Tryz.underlying25 rfl sz_25 rfl (KH _))) ?_
      refine aO 6 rfl (cF rfl en_82 rfl (fun w hw=>c_HasT V f bd x.val w (mC hw) (Nat.lt_trans x.isLt hpW) hpW x.isLt) ?_)
      refine aM 7 ?_
      refine aGM 8 ?_
      refine aGP 9 rfl (KL rfl) ?_
      refine aGP 10 rfl (KF (o':=59) Tryz.underlying92 rfl rfl rfl sz_90 dc) ?_
      refine aGD 11 rfl (dL rfl (hv:=KJ Tryz.underlying90 rfl (by exact cvC_gt_F _ _ _ _ _ _ _ _ _ _ _ _ _))) ?_
      refine aGP 12 rfl (KF (o':=9) Tryz.underlying83 rfl rfl rfl sz_25 dc) ?_
      refine aGD 13 rfl (dL rfl (hv:=by exact pt_ld1 _ _ _ _ _ _)) ?_
      refine aGO 14 rfl (cF rfl en_82 rfl (fun w hw=>c_HasT V f bd y.val w (mC hw) (Nat.lt_trans y.isLt hpW) hpW y.isLt) ?_)
      refine aP 15 rfl (Kj rfl rfl) ?_
      refine aM 16 ?_
      refine aGM 17 ?_
      refine aGP 18 rfl (KL rfl) ?_
      refine aGP 19 rfl (KF (o':=59) Tryz.underlying92 rfl rfl rfl sz_90 dc) ?_
      refine aGD 20 rfl (dL rfl (hv:=KJ Tryz.underlying90 rfl (by exact cvC_gt_F _ _ _ _ _ _ _ _ _ _ _ _ _))) ?_
      refine aGP 21 rfl (KF (o':=9) Tryz.underlying83 rfl rfl rfl sz_25 dc) ?_
      refine aGD 22 rfl (dL rfl (hv:=by exact pt_ld1 _ _ _ _ _ _)) ?_
      refine aGP 23 rfl (KF (o':=9) Tryz.underlying83 rfl rfl rfl sz_25 dc) ?_
      refine aGD 24 rfl (dL rfl (hv:=by exact pt_ld1 _ _ _ _ _ _)) ?_
      refine aGM 26 ?_
      refine aGP 27 rfl (KF (o':=0) Tryz.underlying83 rfl rfl rfl sz_25 dc) ?_
      refine aGD 28 rfl (dL rfl (hv:=by exact Kv Tryz.underlying25 rfl sz_25 rfl (KH _))) ?_
      refine aGO 25 rfl (cF rfl en_87 rfl (fun w hw=>c_F_Mul V hok f bd _ _ w (mC hw) (mC hw)) ?_)
      refine aGO 29 rfl (cF rfl en_84 rfl (fun w hw=>c_Right V b f bd hok _ w (mC hw) (mC hw) (mC hw)) ?_)
      refine aGP 30 rfl (Det.eqa (by kernel_rfl) (fun w=>eq_nat (y*y).val ((x*x+V.A)*x+V.B).val (Nat.lt_trans (y*y).isLt hpW) (Nat.lt_trans ((x*x+V.A)*x+V.B).isLt hpW) 10000 dc w) rfl rfl) ?_
      refine aP 31 rfl (Kj rfl rfl) ?_
      refine aA 32 ?_
      refine aE ?_
      refine KI ?_
      refine ⟨[_],.cons rfl .nil,fun a w' hr=>⟨?_,hr.fr.below⟩⟩
      rw [on_fin hok]
      rfl
  ·
    refine KA ?_
    refine oP (KF (o':=18) Tryz.underlying83 rfl rfl rfl sz_4 dc) ?_
    refine oD (dL rfl (hv:=KJ Tryz.underlying4 rfl (by exact pt_gt _ _ _))) ?_
    refine KC ?_
    refine KU rfl ?_
    refine KB (KA ?_)
    refine oD (dL rfl (hv:=by exact KE Tryz.underlying83 rfl sz_83)) ?_
    refine oP (KG (Kp pl_83 zr_83 rfl fill_ptInf) rfl) ?_
    refine oP (Det.eqa (by kernel_rfl) (fun w=>eq_pt X Y true 0 0 true hX hY zero_w9 zero_w9 10000 dc w) rfl rfl) ?_
    refine oA ?_
    refine KC (KI ?_)
    refine ⟨[_],.cons rfl .nil,fun a w' hr=>⟨?_,hr.fr.below⟩⟩
    rw [on_inf',show (decide (X = 0) && decide (Y = 0)) = (decide (X = 0) && (decide (Y = 0) && ((true == true) && true))) by simp]
    rfl
end Go.Proofs.YtlmiolnccgjjjaaGreat
set_option linter.unusedVariables false
set_option linter.unusedSimpArgs false
set_option maxRecDepth 20000
namespace Go.Proofs.YtlmiolnccgjjjaaGreat
open Go Go.RowKit
open Grp
def pjF {p:Nat} (T:Fin p×Fin p×Fin p):Value:=pjV T.1.val T.2.1.val T.2.2.val
def pjFL {p:Nat} (T:Fin p×Fin p×Fin p):List Value:=pjL T.1.val T.2.1.val T.2.2.val
theorem fill_pj (X Y Z:Nat):fillL [(0,9),(9,9),(18,9)] (vec .u64 9 (fun _=>0)++(vec .u64 9 (fun _=>0)++vec .u64 9 (fun _=>0))) [(0,natV X),(1,natV Y),(2,natV Z)] = some (pjL X Y Z):=by
  refine KAT (A:=[]) (B:=vec .u64 9 (fun _=>0)) (D:=vec .u64 9 (fun _=>0)++vec .u64 9 (fun _=>0)) (cs:=natL X) rfl rfl (KH _) rfl rfl (KS _ _ _) ?_
  refine KAT (A:=natL X) (B:=vec .u64 9 (fun _=>0)) (D:=vec .u64 9 (fun _=>0)) (cs:=natL Y) rfl rfl (KH _) (by simp) (KH _) (KS _ _ _) ?_
  refine (KAT (A:=natL X++natL Y) (B:=vec .u64 9 (fun _=>0)) (D:=[]) (cs:=natL Z) rfl rfl (KH _) (by simp) (by simp [KH]) (KS _ _ _) rfl).trans ?_
  simp [pjL]
theorem fill_pjN (Y:Nat):fillL [(0,9),(9,9),(18,9)] (vec .u64 9 (fun _=>0)++(vec .u64 9 (fun _=>0)++vec .u64 9 (fun _=>0))) [(1,natV Y)] = some (pjL 0 Y 0):=by
  refine (KAT (A:=vec .u64 9 (fun _=>0)) (B:=vec .u64 9 (fun _=>0)) (D:=vec .u64 9 (fun _=>0)) (cs:=natL Y) rfl rfl (KH _) rfl (KS _ _ _) (KS _ _ _) rfl).trans ?_
  simp [pjL,natL,vec_zeros 9]
theorem c_None  (w:World)  : Calls Tryz.prog 89 ([]:List Value).toArray w (fun e w'=>e = .returned (pjV 0 1 0)∧Below w.heap.size w w'):=by
  refine Ka (N:=3) (rs:=[.cell 0 148]) [] Tryz.func89 rfl Tryz.ntmps89 Tryz.results89 (Nb rfl) trivial rfl ?_
  show LCode _ _ _ ⟨_,_⟩ _
  refine KB (KA ?_)
  refine oS (mk (KP zr_148) (fun b0=>?_))
  refine KC ?_
  refine KB (KA ?_)
  refine oS (cF rfl en_61 rfl (fun w hw=>c_nat_Small 1 dc w) ?_)
  refine oP (KG (Kp pl_148 zr_148 rfl (fill_pjN 1)) rfl) ?_
  refine KO rfl (sA rfl rfl sz_148 mO (hl:=mL) (h:=?_))
  refine KC (KI ?_)
  refine ⟨[_],.cons ⟨_,_,_,rfl,mM,by exact KE Tryz.underlying148 rfl sz_148⟩ .nil,fun a w' hr=>⟨?_,hr.fr.below⟩⟩
  rfl
theorem c_NoneF {V:Cv} (hok:V.Ok) (w:World):Calls Tryz.prog 89 ([]:List Value).toArray w (fun e w'=>e = .returned (pjF (tripF (.inf:Pt V.p)))∧Below w.heap.size w w'):=by
  have h:=c_None w
  have e:pjF (tripF (.inf:Pt V.p)) = pjV 0 1 0:=by
    unfold pjF tripF
    rw [fin_one (show 1<V.p from hok.prime.1)]
    rfl
  rwa [e]
theorem c_Triple (V:Cv) (hok:V.Ok) (P:Pt V.p) (w:World)  : Calls Tryz.prog 92 ([ptP P]:List Value).toArray w (fun e w'=>e = .returned (pjF (tripF P))∧Below w.heap.size w w'):=by
  refine Ka (N:=12) (rs:=[.cell 2 148]) [] Tryz.func92 rfl Tryz.ntmps92 Tryz.results92 (Nb rfl) trivial rfl ?_
  show LCode _ _ _ ⟨_,_⟩ _
  refine KB (KA ?_)
  refine oS (mB (fun b1=>?_))
  refine oS (mk (KP zr_148) (fun b2=>?_))
  refine KC ?_
  refine KB ?_
  refine KB ?_
  rcases P with _|⟨x,y⟩
  ·
    refine KA ?_
    refine oP (KF (o':=18) Tryz.underlying83 rfl rfl rfl sz_4 dc) ?_
    refine oD (dL rfl (hv:=KJ Tryz.underlying4 rfl (by exact pt_gt _ _ _))) ?_
    refine KC ?_
    refine KU rfl ?_
    refine KB (KA ?_)
    refine oS (cF rfl en_89 rfl (fun w hw=>c_NoneF hok w) ?_)
    refine KO rfl (sA rfl rfl sz_148 mO (hl:=mL) (h:=?_))
    refine KC (KI ?_)
    refine ⟨[_],.cons ⟨_,_,_,rfl,mM,by exact KE Tryz.underlying148 rfl sz_148⟩ .nil,fun a w' hr=>⟨?_,hr.fr.below⟩⟩
    rfl
  ·
    refine KA ?_
    refine oP (KF (o':=18) Tryz.underlying83 rfl rfl rfl sz_4 dc) ?_
    refine oD (dL rfl (hv:=KJ Tryz.underlying4 rfl (by exact pt_gt _ _ _))) ?_
    refine KC ?_
    refine KK rfl ?_
    refine KM ?_
    refine KB ?_
    refine rD [6] ?_
    refine aP 0 rfl (KF (o':=0) Tryz.underlying83 rfl rfl rfl sz_25 dc) ?_
    refine aD 1 rfl (dL rfl (hv:=by exact Kv Tryz.underlying25 rfl sz_25 rfl (KH _))) ?_
    refine aP 2 rfl (KF (o':=9) Tryz.underlying83 rfl rfl rfl sz_25 dc) ?_
    refine aD 3 rfl (dL rfl (hv:=by exact pt_ld1 _ _ _ _ _ _)) ?_
    refine aO 4 rfl (cF rfl en_61 rfl (fun w hw=>c_nat_Small 1 dc w) ?_)
    refine aP 5 rfl (KG (Kp pl_148 zr_148 rfl (fill_pj _ _ _)) rfl) ?_
    refine aL 6 rfl (sA rfl rfl sz_148 mO (hl:=mL) (h:=?_))
    refine aE ?_
    refine KI ?_
    refine ⟨[_],.cons ⟨_,_,_,rfl,mM,by exact KE Tryz.underlying148 rfl sz_148⟩ .nil,fun a w' hr=>⟨?_,hr.fr.below⟩⟩
    show _ = Ending.returned (pjV x.val y.val (1:Fin V.p).val)
    rw [fin_one (show 1<V.p from hok.prime.1)]
    rfl
theorem c_Plain (V:Cv) (b f bd:Nat) (hok:V.Ok) (X Y Z:Fin V.p) (w:World) (hb:(Item.blk b ⟨false,opL V f,92,(0,0)⟩).holds w) (hf:(Item.blk f ⟨false,fldL V.p bd,116,(0,0)⟩).holds w) (hbd:(Item.blk bd ⟨false,dvL V.p,167,(0,0)⟩).holds w):Calls Tryz.prog 93 ([.pointer (some ⟨b,0,none⟩),pjV X.val Y.val Z.val]:List Value).toArray w (fun e w'=>e = .returned (ptP (plainP X Y Z))∧Below w.heap.size w w'):=by
  have hbb:=hok.bounds
  have hpW:V.p<W9:=KAJ hbb.2.1
  refine Ka (N:=35) (rs:=[.cell 4 83]) [.blk b ⟨false,opL V f,92,(0,0)⟩,.blk f ⟨false,fldL V.p bd,116,(0,0)⟩,.blk bd ⟨false,dvL V.p,167,(0,0)⟩] Tryz.func93 rfl Tryz.ntmps93 Tryz.results93 (Nb rfl) ⟨hb,hf,hbd,trivial⟩ rfl ?_
  show LCode _ _ _ ⟨_,_⟩ _
  refine KB (KA ?_)
  refine oS (mB (fun b3=>?_))
  refine oS (mk (KP zr_83) (fun b4=>?_))
  refine KC ?_
  refine KB ?_
  refine KB ?_
  by_cases hz:Z = 0
  ·
    refine KA ?_
    refine oP (KF (o':=18) Tryz.underlying148 rfl rfl rfl sz_25 dc) ?_
    refine oD (dL rfl (hv:=by exact pj_ld2 _ _ _ _ _ _)) ?_
    refine oP (KG (Kp pl_25 zr_25 rfl rfl) (show _ = natV 0 by unfold natV natL; rw [← vec_zeros 9])) ?_
    refine oP (KG (Det.eqa (by kernel_rfl) (fun w=>eq_nat Z.val 0 (Nat.lt_trans Z.isLt hpW) zero_w9 10000 dc w) rfl rfl) (show _ = Value.bool true by rw [decide_eq_true (by rw [hz]; rfl)])) ?_
    refine KC ?_
    refine KU rfl ?_
    refine KB (KA ?_)
    refine oP (KG (Kp pl_83 zr_83 rfl fill_ptInf) rfl) ?_
    refine KO rfl (sA rfl rfl sz_83 mO (hl:=mL) (h:=?_))
    refine KC (KI ?_)
    refine ⟨[_],.cons ⟨_,_,_,rfl,mM,by exact KE Tryz.underlying83 rfl sz_83⟩ .nil,fun a w' hr=>⟨?_,hr.fr.below⟩⟩
    rw [hz,plain_inf]
    rfl
  ·
    refine KA ?_
    refine oP (KF (o':=18) Tryz.underlying148 rfl rfl rfl sz_25 dc) ?_
    refine oD (dL rfl (hv:=by exact pj_ld2 _ _ _ _ _ _)) ?_
    refine oP (KG (Kp pl_25 zr_25 rfl rfl) (show _ = natV 0 by unfold natV natL; rw [← vec_zeros 9])) ?_
    refine oP (KG (Det.eqa (by kernel_rfl) (fun w=>eq_nat Z.val 0 (Nat.lt_trans Z.isLt hpW) zero_w9 10000 dc w) rfl rfl) (show _ = Value.bool false by rw [decide_eq_false (show ¬ Z.val = 0 from fun e=>hz (Fin.ext e))])) ?_
    refine KC ?_
    refine KK rfl ?_
    refine KM ?_
    refine KB ?_
    refine rD [8] ?_
    refine aM 0 ?_
    refine aP 1 rfl (KL rfl) ?_
    refine aP 2 rfl (KF (o':=59) Tryz.underlying92 rfl rfl rfl sz_90 dc) ?_
    refine aD 3 rfl (dL rfl (hv:=KJ Tryz.underlying90 rfl (by exact cvC_gt_F _ _ _ _ _ _ _ _ _ _ _ _ _))) ?_
    refine aP 4 rfl (KF (o':=18) Tryz.underlying148 rfl rfl rfl sz_25 dc) ?_
    refine aD 5 rfl (dL rfl (hv:=by exact pj_ld2 _ _ _ _ _ _)) ?_
    refine LAny.toP ?_
    refine Kx 7 rfl (.inl zr_25) (Nb rfl) rfl rfl rfl ?_
    refine Kl 6 rfl rfl rfl (Nb rfl) (by kernel_rfl) rfl (Kq (first:=[]) rfl en_106 rfl (fun w hw=>c_F_Inv V hok f bd _ w (mC hw))) ?_
    rintro _ _ ⟨rfl,rfl⟩
    refine pE (fun b5=>?_)
    refine KAN ?_
    refine aL 8 rfl (sA rfl rfl sz_25 mO (hl:=mL) (h:=?_))
    refine aE ?_
    refine KB ?_
    refine rD [17] ?_
    refine aM 0 ?_
    refine aP 1 rfl (KL rfl) ?_
    refine aP 2 rfl (KF (o':=59) Tryz.underlying92 rfl rfl rfl sz_90 dc) ?_
    refine aD 3 rfl (dL rfl (hv:=KJ Tryz.underlying90 rfl (by exact cvC_gt_F _ _ _ _ _ _ _ _ _ _ _ _ _))) ?_
    refine aP 4 rfl (KF (o':=0) Tryz.underlying148 rfl rfl rfl sz_25 dc) ?_
    refine aD 5 rfl (dL rfl (hv:=by exact Kv Tryz.underlying25 rfl sz_25 rfl (KH _))) ?_
    refine aD 6 rfl (dL rfl (hv:=by exact KE Tryz.underlying25 rfl sz_25)) ?_
    refine aM 8 ?_
    refine aP 9 rfl (KL rfl) ?_
    refine aP 10 rfl (KF (o':=59) Tryz.underlying92 rfl rfl rfl sz_90 dc) ?_
    refine aD 11 rfl (dL rfl (hv:=KJ Tryz.underlying90 rfl (by exact cvC_gt_F _ _ _ _ _ _ _ _ _ _ _ _ _))) ?_
    refine aP 12 rfl (KF (o':=9) Tryz.underlying148 rfl rfl rfl sz_25 dc) ?_
    refine aD 13 rfl (dL rfl (hv:=by exact LoadV.mid Tryz.underlying25 rfl sz_25 rfl (KH _) (KH _))) ?_
    refine aD 14 rfl (dL rfl (hv:=by exact KE Tryz.underlying25 rfl sz_25)) ?_
    refine aO 7 rfl (cF rfl en_87 rfl (fun w hw=>c_F_Mul V hok f bd _ _ w (mC hw) (mC hw)) ?_)
    refine aO 15 rfl (cF rfl en_87 rfl (fun w hw=>c_F_Mul V hok f bd _ _ w (mC hw) (mC hw)) ?_)
    refine aP 16 rfl (KG (Kp pl_83 zr_83 rfl (fill_pt _ _)) rfl) ?_
    refine aL 17 rfl (sA rfl rfl sz_83 mO (hl:=mL) (h:=?_))
    refine aE ?_
    refine KI ?_
    refine ⟨[_],.cons ⟨_,_,_,rfl,mM,by exact KE Tryz.underlying83 rfl sz_83⟩ .nil,fun a w' hr=>⟨?_,hr.fr.below⟩⟩
    rw [plain_aff hz]
    rfl
theorem c_Sum (V:Cv) (b f bd:Nat) (hok:V.Ok) (X1 Y1 Z1 X2 Y2 Z2:Fin V.p) (w:World) (hb:(Item.blk b ⟨false,opL V f,92,(0,0)⟩).holds w) (hf:(Item.blk f ⟨false,fldL V.p bd,116,(0,0)⟩).holds w) (hbd:(Item.blk bd ⟨false,dvL V.p,167,(0,0)⟩).holds w):Calls Tryz.prog 90 ([.pointer (some ⟨b,0,none⟩),pjV X1.val Y1.val Z1.val,pjV X2.val Y2.val Z2.val]:List Value).toArray w (fun e w'=>e = .returned (pjF (sum3 V.A (V.B+V.B+V.B) X1 Y1 Z1 X2 Y2 Z2))∧Below w.heap.size w w'):=by
  have hbb:=hok.bounds
  have hpW:V.p<W9:=KAJ hbb.2.1
  refine Ka (N:=213) (rs:=[.cell 6 148]) [.blk b ⟨false,opL V f,92,(0,0)⟩,.blk f ⟨false,fldL V.p bd,116,(0,0)⟩,.blk bd ⟨false,dvL V.p,167,(0,0)⟩] Tryz.func90 rfl Tryz.ntmps90 Tryz.results90 (Nb rfl) ⟨hb,hf,hbd,trivial⟩ rfl ?_
  show LCode _ _ _ ⟨_,_⟩ _
  refine KB (KA ?_)
  refine oS (mB (fun b4=>?_))
  refine oS (mB (fun b5=>?_))
  refine oS (mk (KP zr_148) (fun b6=>?_))
  refine KC ?_
  refine KB ?_
  refine rD [] ?_
  refine aM 0 ?_
  refine aP 1 rfl (KL rfl) ?_
  refine aP 2 rfl (KF (o':=59) Tryz.underlying92 rfl rfl rfl sz_90 dc) ?_
  refine aD 3 rfl (dL rfl (hv:=KJ Tryz.underlying90 rfl (by exact cvC_gt_F _ _ _ _ _ _ _ _ _ _ _ _ _))) ?_
  refine aP 4 rfl (Det.makeFunc1 rfl) ?_
  refine aM 5 ?_
  refine aP 6 rfl (KL rfl) ?_
  refine aP 7 rfl (KF (o':=59) Tryz.underlying92 rfl rfl rfl sz_90 dc) ?_
  refine aD 8 rfl (dL rfl (hv:=KJ Tryz.underlying90 rfl (by exact cvC_gt_F _ _ _ _ _ _ _ _ _ _ _ _ _))) ?_
  refine aP 9 rfl (Det.makeFunc1 rfl) ?_
  refine aM 10 ?_
  refine aP 11 rfl (KL rfl) ?_
  refine aP 12 rfl (KF (o':=59) Tryz.underlying92 rfl rfl rfl sz_90 dc) ?_
  refine aD 13 rfl (dL rfl (hv:=KJ Tryz.underlying90 rfl (by exact cvC_gt_F _ _ _ _ _ _ _ _ _ _ _ _ _))) ?_
  refine aP 14 rfl (Det.makeFunc1 rfl) ?_
  refine aA 15 ?_
  refine aA 16 ?_
  refine aA 17 ?_
  refine aE ?_
  refine KB ?_
  refine rD [21,22,23] ?_
  refine aM 0 ?_
  refine aP 1 rfl (KF (o':=0) Tryz.underlying148 rfl rfl rfl sz_25 dc) ?_
  refine aD 2 rfl (dL rfl (hv:=by exact Kv Tryz.underlying25 rfl sz_25 rfl (KH _))) ?_
  refine aP 3 rfl (KF (o':=0) Tryz.underlying148 rfl rfl rfl sz_25 dc) ?_
  refine aD 4 rfl (dL rfl (hv:=by exact Kv Tryz.underlying25 rfl sz_25 rfl (KH _))) ?_
  refine aM 6 ?_
  refine aP 7 rfl (KF (o':=9) Tryz.underlying148 rfl rfl rfl sz_25 dc) ?_
  refine aP 9 rfl (KF (o':=9) Tryz.underlying148 rfl rfl rfl sz_25 dc) ?_
  refine aM 12 ?_
  refine aP 13 rfl (KF (o':=18) Tryz.underlying148 rfl rfl rfl sz_25 dc) ?_
  refine aP 15 rfl (KF (o':=18) Tryz.underlying148 rfl rfl rfl sz_25 dc) ?_
  refine LAny.takeW [11,17,21,22,23] 8 rfl (by kernel_rfl) (Nb rfl) (dL rfl (hv:=by exact LoadV.mid Tryz.underlying25 rfl sz_25 rfl (KH _) (KH _))) ?_
  refine LAny.takeW [11,17,21,22,23] 10 rfl (by kernel_rfl) (Nb rfl) (dL rfl (hv:=by exact LoadV.mid Tryz.underlying25 rfl sz_25 rfl (KH _) (KH _))) ?_
  refine LAny.takeW [17,21,22,23] 14 rfl (by kernel_rfl) (Nb rfl) (dL rfl (hv:=by exact pj_ld2 _ _ _ _ _ _)) ?_
  refine LAny.takeW [17,21,22,23] 16 rfl (by kernel_rfl) (Nb rfl) (dL rfl (hv:=by exact pj_ld2 _ _ _ _ _ _)) ?_
  refine LAny.toP ?_
  refine Kx 18 rfl (.inl zr_25) (Nb rfl) rfl rfl rfl ?_
  refine Kx 19 rfl (.inl zr_25) (Nb rfl) rfl rfl rfl ?_
  refine Kx 20 rfl (.inl zr_25) (Nb rfl) rfl rfl rfl ?_
  refine Kl 5 rfl rfl rfl (Nb rfl) (by kernel_rfl) rfl (Kq (first:=[_]) rfl en_87 rfl (fun w hw=>c_F_Mul V hok f bd _ _ w (mC hw) (mC hw))) ?_
  rintro _ _ ⟨rfl,rfl⟩
  refine Kl 11 rfl rfl rfl (Nb rfl) (by kernel_rfl) rfl (Kq (first:=[_]) rfl en_87 rfl (fun w hw=>c_F_Mul V hok f bd _ _ w (mC hw) (mC hw))) ?_
  rintro _ _ ⟨rfl,rfl⟩
  refine Kl 17 rfl rfl rfl (Nb rfl) (by kernel_rfl) rfl (Kq (first:=[_]) rfl en_87 rfl (fun w hw=>c_F_Mul V hok f bd _ _ w (mC hw) (mC hw))) ?_
  rintro _ _ ⟨rfl,rfl⟩
  refine pE (fun b12=>?_)
  refine pE (fun b11=>?_)
  refine pE (fun b10=>?_)
  refine KAN ?_
  refine aL 21 rfl (sA rfl rfl sz_25 mO (hl:=mL) (h:=?_))
  refine aL 22 rfl (sA rfl rfl sz_25 mO (hl:=mL) (h:=?_))
  refine aL 23 rfl (sA rfl rfl sz_25 mO (hl:=mL) (h:=?_))
  refine aE ?_
  refine KB ?_
  refine rD [21] ?_
  refine aM 0 ?_
  refine aM 1 ?_
  refine aM 2 ?_
  refine aP 3 rfl (KF (o':=0) Tryz.underlying148 rfl rfl rfl sz_25 dc) ?_
  refine aD 4 rfl (dL rfl (hv:=by exact Kv Tryz.underlying25 rfl sz_25 rfl (KH _))) ?_
  refine aP 5 rfl (KF (o':=9) Tryz.underlying148 rfl rfl rfl sz_25 dc) ?_
  refine aD 6 rfl (dL rfl (hv:=by exact LoadV.mid Tryz.underlying25 rfl sz_25 rfl (KH _) (KH _))) ?_
  refine aM 8 ?_
  refine aP 9 rfl (KF (o':=0) Tryz.underlying148 rfl rfl rfl sz_25 dc) ?_
  refine aD 10 rfl (dL rfl (hv:=by exact Kv Tryz.underlying25 rfl sz_25 rfl (KH _))) ?_
  refine aP 11 rfl (KF (o':=9) Tryz.underlying148 rfl rfl rfl sz_25 dc) ?_
  refine aD 12 rfl (dL rfl (hv:=by exact LoadV.mid Tryz.underlying25 rfl sz_25 rfl (KH _) (KH _))) ?_
  refine aM 15 ?_
  refine aD 16 rfl (dL rfl (hv:=by exact KE Tryz.underlying25 rfl sz_25)) ?_
  refine aD 17 rfl (dL rfl (hv:=by exact KE Tryz.underlying25 rfl sz_25)) ?_
  refine LAny.toP ?_
  refine Kx 20 rfl (.inl zr_25) (Nb rfl) rfl rfl rfl ?_
  refine Kl 7 rfl rfl rfl (Nb rfl) (by kernel_rfl) rfl (Kq (first:=[_]) rfl en_63 rfl (fun w hw=>c_F_Add V hok f bd _ _ w (mC hw))) ?_
  rintro _ _ ⟨rfl,rfl⟩
  refine Kl 13 rfl rfl rfl (Nb rfl) (by kernel_rfl) rfl (Kq (first:=[_]) rfl en_63 rfl (fun w hw=>c_F_Add V hok f bd _ _ w (mC hw))) ?_
  rintro _ _ ⟨rfl,rfl⟩
  refine Kl 14 rfl rfl rfl (Nb rfl) (by kernel_rfl) rfl (Kq (first:=[_]) rfl en_87 rfl (fun w hw=>c_F_Mul V hok f bd _ _ w (mC hw) (mC hw))) ?_
  rintro _ _ ⟨rfl,rfl⟩
  refine Kl 18 rfl rfl rfl (Nb rfl) (by kernel_rfl) rfl (Kq (first:=[_]) rfl en_63 rfl (fun w hw=>c_F_Add V hok f bd _ _ w (mC hw))) ?_
  rintro _ _ ⟨rfl,rfl⟩
  refine Kl 19 rfl rfl rfl (Nb rfl) (by kernel_rfl) rfl (Kq (first:=[_]) rfl en_86 rfl (fun w hw=>c_F_Sub V hok f bd _ _ w (mC hw))) ?_
  rintro _ _ ⟨rfl,rfl⟩
  refine pE (fun b13=>?_)
  refine KAN ?_
  refine aL 21 rfl (sA rfl rfl sz_25 mO (hl:=mL) (h:=?_))
  refine aE ?_
  refine KB ?_
  refine rD [21] ?_
  refine aM 0 ?_
  refine aM 1 ?_
  refine aM 2 ?_
  refine aP 3 rfl (KF (o':=0) Tryz.underlying148 rfl rfl rfl sz_25 dc) ?_
  refine aD 4 rfl (dL rfl (hv:=by exact Kv Tryz.underlying25 rfl sz_25 rfl (KH _))) ?_
  refine aP 5 rfl (KF (o':=18) Tryz.underlying148 rfl rfl rfl sz_25 dc) ?_
  refine aD 6 rfl (dL rfl (hv:=by exact pj_ld2 _ _ _ _ _ _)) ?_
  refine aM 8 ?_
  refine aP 9 rfl (KF (o':=0) Tryz.underlying148 rfl rfl rfl sz_25 dc) ?_
  refine aD 10 rfl (dL rfl (hv:=by exact Kv Tryz.underlying25 rfl sz_25 rfl (KH _))) ?_
  refine aP 11 rfl (KF (o':=18) Tryz.underlying148 rfl rfl rfl sz_25 dc) ?_
  refine aD 12 rfl (dL rfl (hv:=by exact pj_ld2 _ _ _ _ _ _)) ?_
  refine aM 15 ?_
  refine aD 16 rfl (dL rfl (hv:=by exact KE Tryz.underlying25 rfl sz_25)) ?_
  refine aD 17 rfl (dL rfl (hv:=by exact KE Tryz.underlying25 rfl sz_25)) ?_
  refine LAny.toP ?_
  refine Kx 20 rfl (.inl zr_25) (Nb rfl) rfl rfl rfl ?_
  refine Kl 7 rfl rfl rfl (Nb rfl) (by kernel_rfl) rfl (Kq (first:=[_]) rfl en_63 rfl (fun w hw=>c_F_Add V hok f bd _ _ w (mC hw))) ?_
  rintro _ _ ⟨rfl,rfl⟩
  refine Kl 13 rfl rfl rfl (Nb rfl) (by kernel_rfl) rfl (Kq (first:=[_]) rfl en_63 rfl (fun w hw=>c_F_Add V hok f bd _ _ w (mC hw))) ?_
  rintro _ _ ⟨rfl,rfl⟩
  refine Kl 14 rfl rfl rfl (Nb rfl) (by kernel_rfl) rfl (Kq (first:=[_]) rfl en_87 rfl (fun w hw=>c_F_Mul V hok f bd _ _ w (mC hw) (mC hw))) ?_
  rintro _ _ ⟨rfl,rfl⟩
  refine Kl 18 rfl rfl rfl (Nb rfl) (by kernel_rfl) rfl (Kq (first:=[_]) rfl en_63 rfl (fun w hw=>c_F_Add V hok f bd _ _ w (mC hw))) ?_
  rintro _ _ ⟨rfl,rfl⟩
  refine Kl 19 rfl rfl rfl (Nb rfl) (by kernel_rfl) rfl (Kq (first:=[_]) rfl en_86 rfl (fun w hw=>c_F_Sub V hok f bd _ _ w (mC hw))) ?_
  rintro _ _ ⟨rfl,rfl⟩
  refine pE (fun b14=>?_)
  refine KAN ?_
  refine aL 21 rfl (sA rfl rfl sz_25 mO (hl:=mL) (h:=?_))
  refine aE ?_
  refine KB ?_
  refine rD [21] ?_
  refine aM 0 ?_
  refine aM 1 ?_
  refine aM 2 ?_
  refine aP 3 rfl (KF (o':=9) Tryz.underlying148 rfl rfl rfl sz_25 dc) ?_
  refine aD 4 rfl (dL rfl (hv:=by exact LoadV.mid Tryz.underlying25 rfl sz_25 rfl (KH _) (KH _))) ?_
  refine aP 5 rfl (KF (o':=18) Tryz.underlying148 rfl rfl rfl sz_25 dc) ?_
  refine aD 6 rfl (dL rfl (hv:=by exact pj_ld2 _ _ _ _ _ _)) ?_
  refine aM 8 ?_
  refine aP 9 rfl (KF (o':=9) Tryz.underlying148 rfl rfl rfl sz_25 dc) ?_
  refine aD 10 rfl (dL rfl (hv:=by exact LoadV.mid Tryz.underlying25 rfl sz_25 rfl (KH _) (KH _))) ?_
  refine aP 11 rfl (KF (o':=18) Tryz.underlying148 rfl rfl rfl sz_25 dc) ?_
  refine aD 12 rfl (dL rfl (hv:=by exact pj_ld2 _ _ _ _ _ _)) ?_
  refine aM 15 ?_
  refine aD 16 rfl (dL rfl (hv:=by exact KE Tryz.underlying25 rfl sz_25)) ?_
  refine aD 17 rfl (dL rfl (hv:=by exact KE Tryz.underlying25 rfl sz_25)) ?_
  refine LAny.toP ?_
  refine Kx 20 rfl (.inl zr_25) (Nb rfl) rfl rfl rfl ?_
  refine Kl 7 rfl rfl rfl (Nb rfl) (by kernel_rfl) rfl (Kq (first:=[_]) rfl en_63 rfl (fun w hw=>c_F_Add V hok f bd _ _ w (mC hw))) ?_
  rintro _ _ ⟨rfl,rfl⟩
  refine Kl 13 rfl rfl rfl (Nb rfl) (by kernel_rfl) rfl (Kq (first:=[_]) rfl en_63 rfl (fun w hw=>c_F_Add V hok f bd _ _ w (mC hw))) ?_
  rintro _ _ ⟨rfl,rfl⟩
  refine Kl 14 rfl rfl rfl (Nb rfl) (by kernel_rfl) rfl (Kq (first:=[_]) rfl en_87 rfl (fun w hw=>c_F_Mul V hok f bd _ _ w (mC hw) (mC hw))) ?_
  rintro _ _ ⟨rfl,rfl⟩
  refine Kl 18 rfl rfl rfl (Nb rfl) (by kernel_rfl) rfl (Kq (first:=[_]) rfl en_63 rfl (fun w hw=>c_F_Add V hok f bd _ _ w (mC hw))) ?_
  rintro _ _ ⟨rfl,rfl⟩
  refine Kl 19 rfl rfl rfl (Nb rfl) (by kernel_rfl) rfl (Kq (first:=[_]) rfl en_86 rfl (fun w hw=>c_F_Sub V hok f bd _ _ w (mC hw))) ?_
  rintro _ _ ⟨rfl,rfl⟩
  refine pE (fun b15=>?_)
  refine KAN ?_
  refine aL 21 rfl (sA rfl rfl sz_25 mO (hl:=mL) (h:=?_))
  refine aE ?_
  refine KB ?_
  refine rD [18] ?_
  refine aM 0 ?_
  refine aM 1 ?_
  refine aM 2 ?_
  refine aP 3 rfl (KL rfl) ?_
  refine aP 4 rfl (KF (o':=60) Tryz.underlying92 rfl rfl rfl sz_25 dc) ?_
  refine aD 5 rfl (Det.cast (dL rfl (hv:=by exact cvC_ld_t3 _ _ _ _ _ _ _ _ _ _ _ _ _ _ _ _)) (t_val hok)) ?_
  refine aD 6 rfl (dL rfl (hv:=by exact KE Tryz.underlying25 rfl sz_25)) ?_
  refine aM 8 ?_
  refine aM 9 ?_
  refine aP 10 rfl (KL rfl) ?_
  refine aP 11 rfl (KF (o':=0) Tryz.underlying92 rfl rfl rfl sz_89 dc) ?_
  refine aP 12 rfl (KF (o':=10) Tryz.underlying89 rfl rfl rfl sz_25 dc) ?_
  refine aD 13 rfl (Det.cast (dL rfl (hv:=by exact cvC_ld_a _ _ _ _ _ _ _ _ _ _ _ _ _ _ _ _)) (a_val hok)) ?_
  refine aD 14 rfl (dL rfl (hv:=by exact KE Tryz.underlying25 rfl sz_25)) ?_
  refine LAny.toP ?_
  refine Kx 17 rfl (.inl zr_25) (Nb rfl) rfl rfl rfl ?_
  refine Kl 7 rfl rfl rfl (Nb rfl) (by kernel_rfl) rfl (Kq (first:=[_]) rfl en_87 rfl (fun w hw=>c_F_Mul V hok f bd _ _ w (mC hw) (mC hw))) ?_
  rintro _ _ ⟨rfl,rfl⟩
  refine Kl 15 rfl rfl rfl (Nb rfl) (by kernel_rfl) rfl (Kq (first:=[_]) rfl en_87 rfl (fun w hw=>c_F_Mul V hok f bd _ _ w (mC hw) (mC hw))) ?_
  rintro _ _ ⟨rfl,rfl⟩
  refine Kl 16 rfl rfl rfl (Nb rfl) (by kernel_rfl) rfl (Kq (first:=[_]) rfl en_63 rfl (fun w hw=>c_F_Add V hok f bd _ _ w (mC hw))) ?_
  rintro _ _ ⟨rfl,rfl⟩
  refine pE (fun b16=>?_)
  refine KAN ?_
  refine aL 18 rfl (sA rfl rfl sz_25 mO (hl:=mL) (h:=?_))
  refine aE ?_
  refine KB (KA ?_)
  refine oM ?_
  refine oD (dL rfl (hv:=by exact KE Tryz.underlying25 rfl sz_25)) ?_
  refine oD (dL rfl (hv:=by exact KE Tryz.underlying25 rfl sz_25)) ?_
  refine oS (KAG (first:=[_]) rfl en_86 rfl (Nb rfl) (fun w hw=>c_F_Sub V hok f bd _ _ w (mC hw)) ?_)
  refine oS (mk (KP zr_25) (fun b17=>?_))
  refine KO rfl (sA rfl rfl sz_25 mO (hl:=mL) (h:=?_))
  refine KC ?_
  refine KB (KA ?_)
  refine oM ?_
  refine oD (dL rfl (hv:=by exact KE Tryz.underlying25 rfl sz_25)) ?_
  refine oD (dL rfl (hv:=by exact KE Tryz.underlying25 rfl sz_25)) ?_
  refine oS (KAG (first:=[_]) rfl en_63 rfl (Nb rfl) (fun w hw=>c_F_Add V hok f bd _ _ w (mC hw)) ?_)
  refine KO rfl (sA rfl rfl sz_25 mO (hl:=mL) (h:=?_))
  refine KC ?_
  refine KB (KA ?_)
  refine oM ?_
  refine oD (dL rfl (hv:=by exact KE Tryz.underlying25 rfl sz_25)) ?_
  refine oD (dL rfl (hv:=by exact KE Tryz.underlying25 rfl sz_25)) ?_
  refine oS (KAG (first:=[_]) rfl en_87 rfl (Nb rfl) (fun w hw=>c_F_Mul V hok f bd _ _ w (mC hw) (mC hw)) ?_)
  refine oS (mk (KP zr_25) (fun b18=>?_))
  refine KO rfl (sA rfl rfl sz_25 mO (hl:=mL) (h:=?_))
  refine KC ?_
  refine KB ?_
  refine rD [7] ?_
  refine aM 0 ?_
  refine aM 1 ?_
  refine aD 2 rfl (dL rfl (hv:=by exact KE Tryz.underlying25 rfl sz_25)) ?_
  refine aD 3 rfl (dL rfl (hv:=by exact KE Tryz.underlying25 rfl sz_25)) ?_
  refine aD 5 rfl (dL rfl (hv:=by exact KE Tryz.underlying25 rfl sz_25)) ?_
  refine aO 4 rfl (KAG (first:=[_]) rfl en_63 rfl (Nb rfl) (fun w hw=>c_F_Add V hok f bd _ _ w (mC hw)) ?_)
  refine aO 6 rfl (KAG (first:=[_]) rfl en_63 rfl (Nb rfl) (fun w hw=>c_F_Add V hok f bd _ _ w (mC hw)) ?_)
  refine aL 7 rfl (sA rfl rfl sz_25 mO (hl:=mL) (h:=?_))
  refine aE ?_
  refine KB ?_
  refine rD [8] ?_
  refine aM 0 ?_
  refine aM 1 ?_
  refine aP 2 rfl (KL rfl) ?_
  refine aP 3 rfl (KF (o':=0) Tryz.underlying92 rfl rfl rfl sz_89 dc) ?_
  refine aP 4 rfl (KF (o':=10) Tryz.underlying89 rfl rfl rfl sz_25 dc) ?_
  refine aD 5 rfl (Det.cast (dL rfl (hv:=by exact cvC_ld_a _ _ _ _ _ _ _ _ _ _ _ _ _ _ _ _)) (a_val hok)) ?_
  refine aD 6 rfl (dL rfl (hv:=by exact KE Tryz.underlying25 rfl sz_25)) ?_
  refine aO 7 rfl (KAG (first:=[_]) rfl en_87 rfl (Nb rfl) (fun w hw=>c_F_Mul V hok f bd _ _ w (mC hw) (mC hw)) ?_)
  refine aL 8 rfl (sA rfl rfl sz_25 mO (hl:=mL) (h:=?_))
  refine aE ?_
  refine KB ?_
  refine rD [7] ?_
  refine aM 0 ?_
  refine aM 1 ?_
  refine aP 2 rfl (KL rfl) ?_
  refine aP 3 rfl (KF (o':=60) Tryz.underlying92 rfl rfl rfl sz_25 dc) ?_
  refine aD 4 rfl (Det.cast (dL rfl (hv:=by exact cvC_ld_t3 _ _ _ _ _ _ _ _ _ _ _ _ _ _ _ _)) (t_val hok)) ?_
  refine aD 5 rfl (dL rfl (hv:=by exact KE Tryz.underlying25 rfl sz_25)) ?_
  refine aO 6 rfl (KAG (first:=[_]) rfl en_87 rfl (Nb rfl) (fun w hw=>c_F_Mul V hok f bd _ _ w (mC hw) (mC hw)) ?_)
  refine aL 7 rfl (sA rfl rfl sz_25 mO (hl:=mL) (h:=?_))
  refine aE ?_
  refine KB (KA ?_)
  refine oM ?_
  refine oD (dL rfl (hv:=by exact KE Tryz.underlying25 rfl sz_25)) ?_
  refine oD (dL rfl (hv:=by exact KE Tryz.underlying25 rfl sz_25)) ?_
  refine oS (KAG (first:=[_]) rfl en_63 rfl (Nb rfl) (fun w hw=>c_F_Add V hok f bd _ _ w (mC hw)) ?_)
  refine KO rfl (sA rfl rfl sz_25 mO (hl:=mL) (h:=?_))
  refine KC ?_
  refine KB ?_
  refine rD [11] ?_
  refine aM 0 ?_
  refine aM 1 ?_
  refine aP 2 rfl (KL rfl) ?_
  refine aP 3 rfl (KF (o':=0) Tryz.underlying92 rfl rfl rfl sz_89 dc) ?_
  refine aP 4 rfl (KF (o':=10) Tryz.underlying89 rfl rfl rfl sz_25 dc) ?_
  refine aD 5 rfl (Det.cast (dL rfl (hv:=by exact cvC_ld_a _ _ _ _ _ _ _ _ _ _ _ _ _ _ _ _)) (a_val hok)) ?_
  refine aM 6 ?_
  refine aD 7 rfl (dL rfl (hv:=by exact KE Tryz.underlying25 rfl sz_25)) ?_
  refine aD 8 rfl (dL rfl (hv:=by exact KE Tryz.underlying25 rfl sz_25)) ?_
  refine aO 9 rfl (KAG (first:=[_]) rfl en_86 rfl (Nb rfl) (fun w hw=>c_F_Sub V hok f bd _ _ w (mC hw)) ?_)
  refine aO 10 rfl (KAG (first:=[_]) rfl en_87 rfl (Nb rfl) (fun w hw=>c_F_Mul V hok f bd _ _ w (mC hw) (mC hw)) ?_)
  refine aL 11 rfl (sA rfl rfl sz_25 mO (hl:=mL) (h:=?_))
  refine aE ?_
  refine KB (KA ?_)
  refine oM ?_
  refine oD (dL rfl (hv:=by exact KE Tryz.underlying25 rfl sz_25)) ?_
  refine oD (dL rfl (hv:=by exact KE Tryz.underlying25 rfl sz_25)) ?_
  refine oS (KAG (first:=[_]) rfl en_63 rfl (Nb rfl) (fun w hw=>c_F_Add V hok f bd _ _ w (mC hw)) ?_)
  refine KO rfl (sA rfl rfl sz_25 mO (hl:=mL) (h:=?_))
  refine KC ?_
  refine KB ?_
  refine rD [7] ?_
  refine aM 0 ?_
  refine aD 1 rfl (dL rfl (hv:=by exact KE Tryz.underlying25 rfl sz_25)) ?_
  refine aM 2 ?_
  refine aD 3 rfl (dL rfl (hv:=by exact KE Tryz.underlying25 rfl sz_25)) ?_
  refine aD 4 rfl (dL rfl (hv:=by exact KE Tryz.underlying25 rfl sz_25)) ?_
  refine aO 5 rfl (KAG (first:=[_]) rfl en_87 rfl (Nb rfl) (fun w hw=>c_F_Mul V hok f bd _ _ w (mC hw) (mC hw)) ?_)
  refine aO 6 rfl (KAG (first:=[_]) rfl en_63 rfl (Nb rfl) (fun w hw=>c_F_Add V hok f bd _ _ w (mC hw)) ?_)
  refine aL 7 rfl (sA rfl rfl sz_25 mO (hl:=mL) (h:=?_))
  refine aE ?_
  refine KB ?_
  refine rD [10] ?_
  refine aM 0 ?_
  refine aM 1 ?_
  refine aD 2 rfl (dL rfl (hv:=by exact KE Tryz.underlying25 rfl sz_25)) ?_
  refine aD 3 rfl (dL rfl (hv:=by exact KE Tryz.underlying25 rfl sz_25)) ?_
  refine aM 5 ?_
  refine aD 6 rfl (dL rfl (hv:=by exact KE Tryz.underlying25 rfl sz_25)) ?_
  refine aD 7 rfl (dL rfl (hv:=by exact KE Tryz.underlying25 rfl sz_25)) ?_
  refine aO 4 rfl (KAG (first:=[_]) rfl en_87 rfl (Nb rfl) (fun w hw=>c_F_Mul V hok f bd _ _ w (mC hw) (mC hw)) ?_)
  refine aO 8 rfl (KAG (first:=[_]) rfl en_87 rfl (Nb rfl) (fun w hw=>c_F_Mul V hok f bd _ _ w (mC hw) (mC hw)) ?_)
  refine aO 9 rfl (KAG (first:=[_]) rfl en_86 rfl (Nb rfl) (fun w hw=>c_F_Sub V hok f bd _ _ w (mC hw)) ?_)
  refine aL 10 rfl (sA rfl rfl sz_25 mO (hl:=mL) (h:=?_))
  refine aE ?_
  refine KB ?_
  refine rD [10] ?_
  refine aM 0 ?_
  refine aM 1 ?_
  refine aD 2 rfl (dL rfl (hv:=by exact KE Tryz.underlying25 rfl sz_25)) ?_
  refine aD 3 rfl (dL rfl (hv:=by exact KE Tryz.underlying25 rfl sz_25)) ?_
  refine aM 5 ?_
  refine aD 6 rfl (dL rfl (hv:=by exact KE Tryz.underlying25 rfl sz_25)) ?_
  refine aD 7 rfl (dL rfl (hv:=by exact KE Tryz.underlying25 rfl sz_25)) ?_
  refine aO 4 rfl (KAG (first:=[_]) rfl en_87 rfl (Nb rfl) (fun w hw=>c_F_Mul V hok f bd _ _ w (mC hw) (mC hw)) ?_)
  refine aO 8 rfl (KAG (first:=[_]) rfl en_87 rfl (Nb rfl) (fun w hw=>c_F_Mul V hok f bd _ _ w (mC hw) (mC hw)) ?_)
  refine aO 9 rfl (KAG (first:=[_]) rfl en_63 rfl (Nb rfl) (fun w hw=>c_F_Add V hok f bd _ _ w (mC hw)) ?_)
  refine aL 10 rfl (sA rfl rfl sz_25 mO (hl:=mL) (h:=?_))
  refine aE ?_
  refine KB (KA ?_)
  refine oD (dL rfl (hv:=by exact KE Tryz.underlying25 rfl sz_25)) ?_
  refine oD (dL rfl (hv:=by exact KE Tryz.underlying25 rfl sz_25)) ?_
  refine oD (dL rfl (hv:=by exact KE Tryz.underlying25 rfl sz_25)) ?_
  refine oP (KG (Kp pl_148 zr_148 rfl (fill_pj _ _ _)) rfl) ?_
  refine KO rfl (sA rfl rfl sz_148 mO (hl:=mL) (h:=?_))
  refine KC (KI ?_)
  refine ⟨[_],.cons ⟨_,_,_,rfl,mM,by exact KE Tryz.underlying148 rfl sz_148⟩ .nil,fun a w' hr=>⟨?_,hr.fr.below⟩⟩
  rfl
end Go.Proofs.YtlmiolnccgjjjaaGreat
set_option linter.unusedVariables false
set_option linter.unusedSimpArgs false
set_option maxRecDepth 20000
namespace Go.Proofs.YtlmiolnccgjjjaaGreat
open Go Go.RowKit
open Grp
theorem pm_top (V:Cv) (P:Pt V.p) (K:Nat):pmul V.A P (K/2^blen K) = .inf:=by rw [Nat.div_eq_of_lt (lt_blen K)]; rfl
theorem pm_T {V:Cv} (hok:V.Ok) {P:Pt V.p} (hP:On V.A V.B P) {K y:Nat} (h:K/2^y%2 = 1):padd V.A (padd V.A (pmul V.A P (K/2^(y+1))) (pmul V.A P (K/2^(y+1)))) P = pmul V.A P (K/2^y):=by
  have:=pmul_bit hok.crv hP K y
  rwa [if_pos h] at this
theorem pm_F {V:Cv} (hok:V.Ok) {P:Pt V.p} (hP:On V.A V.B P) {K y:Nat} (h:¬ K/2^y%2 = 1):padd V.A (pmul V.A P (K/2^(y+1))) (pmul V.A P (K/2^(y+1))) = pmul V.A P (K/2^y):=by
  have:=pmul_bit hok.crv hP K y
  rwa [if_neg h] at this
theorem c_r_Times (Q:CQ) (V:Cv) (qk:NV) (K:Nat) (q r:NV) (P R:Pt V.p) (w:World) (hc:(crvI Q V).holds w) (hok:V.Ok) (hk:(numT qk K).holds w) (hK:D.nw K≤1000) (hq:(numT q (xv P)).holds w) (hr:(numT r (yv P)).holds w) (hP:On V.A V.B P) (hR:pmul V.A P K = R):Calls Tryz.prog 10 ([.agg (crvL Q V).toArray,numV qk K,rpV (numV q (xv P)) (numV r (yv P)) (iv P)]:List Value).toArray w (fun e w'=>Num2R w (fp2 q r P []) (xv R) (yv R) (fun u v=>rpV u v (iv R)) e w'):=by
  obtain ⟨hb5,hb521,hba,hbb,hbx,hby,hbn,hbo,hbo2,hbb1,hbn1⟩:=hok.bounds
  have hsz:=hok.sz
  have hsp:=hsz.p
  have hsa:=hsz.a
  have hsb:=hsz.b
  have hp0:V.p≠0:=by omega
  have hpp:0<V.p:=by omega
  have hm17:∀ k,D.nw (k%V.p)≤17:=fun k=>Nat.le_trans (D.nw_mono (Nat.le_of_lt (Nat.mod_lt k hpp))) hsp
  refine Ka (N:=30) (rs:=[.cell 6 35]) [crvI Q V,numT qk K,numT q (xv P),numT r (yv P)] Tryz.func10 rfl Tryz.ntmps10 Tryz.results10 (Nb rfl) ⟨hc,hk,hq,hr,trivial⟩ rfl ?_
  show LCode _ _ _ ⟨_,_⟩ _
  refine KB (KA ?_)
  refine oS (mB (fun b3=>?_))
  refine oS (mB (fun b5=>?_))
  refine oS (mk (KP zr_35) (fun b6=>?_))
  refine KC ?_
  refine KB (KA ?_)
  refine oP (KG (Kp pl_35 zr_35 rfl rfl) (show _ = rpV (.slice none 0 0) (.slice none 0 0) (true) from rfl)) ?_
  refine oS (mk (KP zr_35) (fun b7=>?_))
  refine KO rfl (sA rfl rfl sz_35 (by repeat (first|exact Ki|refine Kf rfl ?_)) (hl:=by rfl) (h:=?_))
  refine KC ?_
  refine KB ?_
  refine KB ?_
  have hbk:=blen_nw K
  refine LCode.zeroNum ?_
  refine LCode.zeroNum ?_
  refine KA ?_
  refine oM ?_
  refine oS (cF rfl en_31 rfl (fun w hw=>c_n_Bits qk K w (mC hw) om) ?_)
  refine oP (KD (v:=.int .i64 (((blen K:Nat):Int)-1)) rfl rfl (br_subI om om)) ?_
  refine oA ?_
  refine KC ?_
  refine LCode.block ?_
  refine Kh (α:=Nat×NV×NV) (fun x=>x.1≤blen K∧NFr w.heap.size (fp2 q r P []) x.2.1 (D.nw (xv (pmul V.A P (K/2^x.1))))∧NFr w.heap.size (fp2 q r P []) x.2.2 (D.nw (yv (pmul V.A P (K/2^x.1))))) (fun x=>⟨[(1,numV qk K),(3,.pointer (some ⟨b3,0,none⟩)),(5,.pointer (some ⟨b5,0,none⟩)),(6,.pointer (some ⟨b6,0,none⟩)),(7,.pointer (some ⟨b7,0,none⟩)),(8,.int .i64 (((x.1:Nat):Int)-1))],[.blk b7 ⟨true,rpL (numV x.2.1 (xv (pmul V.A P (K/2^x.1)))) (numV x.2.2 (yv (pmul V.A P (K/2^x.1)))) (iv (pmul V.A P (K/2^x.1))),35,(0,0)⟩,.blk b6 ⟨true,[.slice none 0 0,.slice none 0 0,.bool false],35,(0,0)⟩,.blk b5 ⟨true,rpL (numV q (xv P)) (numV r (yv P)) (iv P),35,(0,0)⟩,.blk b3 ⟨true,crvL Q V,30,(0,0)⟩,numT x.2.1 (xv (pmul V.A P (K/2^x.1))),numT x.2.2 (yv (pmul V.A P (K/2^x.1))),crvI Q V,numT qk K,numT q (xv P),numT r (yv P)]⟩) (fun x=>x.1) ((blen K,⟨true,0,0⟩,⟨true,0,0⟩)) (⟨Nat.le_refl _,by dsimp only; rw [pm_top]; exact nfr_zero _ _,by dsimp only; rw [pm_top]; exact nfr_zero _ _⟩) (by dsimp only; rw [pm_top]; exact Kw (Sub.cells (b:=b7) (cs':=rpL (numV ⟨true,0,0⟩ (xv (Pt.inf:Pt V.p))) (numV ⟨true,0,0⟩ (yv (Pt.inf:Pt V.p))) (iv (Pt.inf:Pt V.p))) (by repeat (first|exact Sh _|apply St_)) rp_nil) (Kd ⟨rfl,rfl,rfl,rfl,rfl,rfl,trivial⟩ mS)) ?_
  rintro x ⟨hx1,hx2,hx3⟩
  refine KB ?_
  refine KB ?_
  rcases Nat.eq_zero_or_pos x.1 with h0|h0
  ·
    refine KA ?_
    refine oM ?_
    refine oP (KD (v:=.bool false) rfl rfl (by rw [h0]; rfl)) ?_
    refine KC ?_
    refine KK rfl ?_
    refine Ke ?_
    refine KB ?_
    have eR:pmul V.A P (K/2^x.1) = R:=by rw [h0,Nat.pow_zero,Nat.div_one]; exact hR
    rw [eR] at hx2 hx3 ⊢
    refine KA ?_
    refine oD (dL rfl (hv:=by exact KE Tryz.underlying35 rfl sz_35)) ?_
    refine KO rfl (sA rfl rfl sz_35 (by repeat (first|exact Ki|refine Kf rfl ?_)) (hl:=by rfl) (h:=?_))
    refine KC (KI ?_)
    refine ⟨[_],.cons ⟨_,_,_,rfl,mM,by exact KE Tryz.underlying35 rfl sz_35⟩ .nil,fun a w' hr=>hr.num2Q mM hx2 mM hx3⟩
  ·
    obtain ⟨y,hy⟩:∃ y,x.1 = y+1:=⟨x.1-1,by omega⟩
    rw [hy] at hx2 hx3 ⊢
    refine KA ?_
    refine oM ?_
    refine oP (KD (v:=.bool true) rfl rfl (by simp [Ku] <;> omega)) ?_
    refine KC ?_
    refine KU rfl ?_
    refine KM ?_
    refine KB ?_
    refine LCode.block ?_
    refine KB (KA ?_)
    refine oD (dL rfl (hv:=by exact KE Tryz.underlying30 rfl sz_30)) ?_
    refine oD (dL rfl (hv:=by exact KE Tryz.underlying35 rfl sz_35)) ?_
    refine oD (dL rfl (hv:=by exact KE Tryz.underlying35 rfl sz_35)) ?_
    refine oS (cZ rfl en_32 rfl (fun w hw hs=>(c_r_Plus Q V x.2.1 x.2.2 x.2.1 x.2.2 (pmul V.A P (K/2^(y+1))) (pmul V.A P (K/2^(y+1))) (padd V.A (pmul V.A P (K/2^(y+1))) (pmul V.A P (K/2^(y+1)))) w (mC hw) hok (mC hw) (mC hw) (mC hw) (mC hw) (hok.mul hP _) (hok.mul hP _) rfl).mono fun e w' h=>Num2R.q (Old.pt mM mM (Old.pt mM mM (Old.nil _))) hs h) ?_)
    rintro _ _ ⟨qda,qdb,rfl,rfl,hnda,hndb⟩
    refine KO rfl (sA rfl rfl sz_35 (by repeat (first|exact Ki|refine Kf rfl ?_)) (hl:=by rfl) (h:=?_))
    refine KC ?_
    refine KB (KA ?_)
    refine oM ?_
    refine oP (Kr (v:=.int .i64 ((y:Nat):Int)) (by show some _ = some _; congr 2; omega)) ?_
    refine oS (cF rfl en_33 rfl (fun w hw=>c_n_Bit qk K (D.nw K) y w (mC hw) om) ?_)
    refine oP (KD rfl rfl (KAP (b:=1))) ?_
    refine KC ?_
    first|refine KN rfl (fun hbit=>?_) (fun hbit=>?_)|refine KQ rfl (fun hbit=>?_) (fun hbit=>?_)
    ·
      have hbit:K/2^y%2 = 1:=hbit
      refine KA ?_
      refine oD (dL rfl (hv:=by exact KE Tryz.underlying30 rfl sz_30)) ?_
      refine oD (dL rfl (hv:=by exact KE Tryz.underlying35 rfl sz_35)) ?_
      refine oD (dL rfl (hv:=by exact KE Tryz.underlying35 rfl sz_35)) ?_
      refine oS (cZ rfl en_32 rfl (fun w hw hs=>(c_r_Plus Q V qda qdb q r (padd V.A (pmul V.A P (K/2^(y+1))) (pmul V.A P (K/2^(y+1)))) P (pmul V.A P (K/2^y)) w (mC hw) hok (mC hw) (mC hw) (mC hw) (mC hw) (hok.sum (hok.mul hP _) (hok.mul hP _)) hP (pm_T hok hP hbit)).mono fun e w' h=>Num2R.q (Old.pt mM mM (Old.pt mM mM (Old.nil _))) hs h) ?_)
      rintro _ _ ⟨qea,qeb,rfl,rfl,hnea,hneb⟩
      refine KO rfl (sA rfl rfl sz_35 (by repeat (first|exact Ki|refine Kf rfl ?_)) (hl:=by rfl) (h:=?_))
      refine KC ?_
      refine KA ?_
      refine oP (Kr (v:=.int .i64 ((y:Nat):Int)) (by show some _ = some _; congr 2; omega)) ?_
      refine oP (KD (v:=.int .i64 (((y:Nat):Int)-1)) rfl rfl (br_subI om om)) ?_
      refine oA ?_
      refine KC ?_
      exact ⟨(y,qea,qeb),⟨by dsimp only; omega,NFr.two hnea (NFr.two hnda hx2 hx3 hx2 hx3) (NFr.two hndb hx2 hx3 hx2 hx3) (fp2_q _) (fp2_r _),NFr.two hneb (NFr.two hnda hx2 hx3 hx2 hx3) (NFr.two hndb hx2 hx3 hx2 hx3) (fp2_q _) (fp2_r _)⟩,by dsimp only; omega,Kd ⟨rfl,rfl,rfl,rfl,rfl,rfl,trivial⟩ mS⟩
    ·
      have hbit:¬ K/2^y%2 = 1:=hbit
      refine KM ?_
      refine KA ?_
      refine oP (Kr (v:=.int .i64 ((y:Nat):Int)) (by show some _ = some _; congr 2; omega)) ?_
      refine oP (KD (v:=.int .i64 (((y:Nat):Int)-1)) rfl rfl (br_subI om om)) ?_
      refine oA ?_
      refine KC ?_
      rw [pm_F hok hP hbit] at hnda hndb ⊢
      exact ⟨(y,qda,qdb),⟨by dsimp only; omega,NFr.two hnda hx2 hx3 hx2 hx3,NFr.two hndb hx2 hx3 hx2 hx3⟩,by dsimp only; omega,Kd ⟨rfl,rfl,rfl,rfl,rfl,rfl,trivial⟩ mS⟩
def sumT (V:Cv) (T U:Fin V.p×Fin V.p×Fin V.p):Fin V.p×Fin V.p×Fin V.p:=sum3 V.A (V.B+V.B+V.B) T.1 T.2.1 T.2.2 U.1 U.2.1 U.2.2
structure RepT (V:Cv) (T:Fin V.p×Fin V.p×Fin V.p) (P:Pt V.p):Prop where
  rep:Rep T.1 T.2.1 T.2.2 P
  on:On V.A V.B P
theorem RepT.sum {V:Cv} (hok:V.Ok) {T U:Fin V.p×Fin V.p×Fin V.p} {P R:Pt V.p} (h:RepT V T P) (k:RepT V U R):RepT V (sumT V T U) (padd V.A P R):=⟨hok.rep_sum h.rep k.rep h.on k.on,hok.sum h.on k.on⟩
theorem RepT.trip {V:Cv} (hok:V.Ok) {P:Pt V.p} (hP:On V.A V.B P):RepT V (tripF P) P:=⟨hok.rep_trip P,hP⟩
theorem c_SumT (V:Cv) (b f bd:Nat) (hok:V.Ok) (T U:Fin V.p×Fin V.p×Fin V.p) (w:World) (hb:(Item.blk b ⟨false,opL V f,92,(0,0)⟩).holds w) (hf:(Item.blk f ⟨false,fldL V.p bd,116,(0,0)⟩).holds w) (hbd:(Item.blk bd ⟨false,dvL V.p,167,(0,0)⟩).holds w):Calls Tryz.prog 90 ([.pointer (some ⟨b,0,none⟩),pjF T,pjF U]:List Value).toArray w (fun e w'=>e = .returned (pjF (sumT V T U))∧Below w.heap.size w w') :=
  c_Sum V b f bd hok T.1 T.2.1 T.2.2 U.1 U.2.1 U.2.2 w hb hf hbd
theorem c_PlainT (V:Cv) (b f bd:Nat) (hok:V.Ok) (T:Fin V.p×Fin V.p×Fin V.p) (P:Pt V.p) (w:World) (hb:(Item.blk b ⟨false,opL V f,92,(0,0)⟩).holds w) (hf:(Item.blk f ⟨false,fldL V.p bd,116,(0,0)⟩).holds w) (hbd:(Item.blk bd ⟨false,dvL V.p,167,(0,0)⟩).holds w) (h:RepT V T P):Calls Tryz.prog 93 ([.pointer (some ⟨b,0,none⟩),pjF T]:List Value).toArray w (fun e w'=>e = .returned (ptP P)∧Below w.heap.size w w'):=by
  have:=c_Plain V b f bd hok T.1 T.2.1 T.2.2 w hb hf hbd
  rwa [Rep.plain hok.prime h.rep] at this
end Go.Proofs.YtlmiolnccgjjjaaGreat
