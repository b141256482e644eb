/- Part 5 of what the proof leans on: a symbolic execution of the model, walks of the program's functions, and the mathematics. No condition. -/
import Derived.WalkKit
import Derived.Orders
import Derived.Laws.StructEq
import Derived.WalkSpells
import Derived.OrdersHeld
import Derived.KernelRfl
import Derived.Laws.Externs
import Derived.Laws.Bits64
import Derived.Laws.MakeOwn
import Derived.Laws.BytesString
import Derived.Carry
import Derived.WideShapes
import GoSem.Claim
import Derived.Test.YtnpeokiboiclfaaGreatProg
import Derived.Deep.Upon
import Derived.Shelf.Strings.Repeat
import Derived.Ground.NamesProg
import Derived.Lib.Agree
import Derived.Shelf.Strings.Builder1
import Derived.Laws.AppendOwn
import Derived.Lib.ConvBytes
import Derived.Laws.CopyRow
import Derived.MapKept
import Derived.Test.YtnpeokiboiclfaaGreatRows
import Derived.ProofKit
import Derived.OpenShut
import Derived.SizedLaws
import Derived.ChangeMaps5
import Derived.Test.YtnpeokiboiclfaaGreatY4
set_option linter.unusedVariables false
set_option linter.unusedSimpArgs false
set_option maxRecDepth 20000
namespace Go.Proofs.YtnpeokiboiclfaaGreat
open Go Go.RowKit
theorem KBe {k:Nat} (hk:k = 1∨k = 2∨k = 3∨k = 4) (x:List Nat):(hashL k x).length = hsize k:=by
  rcases hk with rfl|rfl|rfl|rfl <;> exact Hp.sum_length _ _ dc
def padL (l:List Nat) (x:Nat):List Nat:=l.map fun b=>xorM 256 b x
def padB (s:ByteArray) (x:Nat):ByteArray:=toS (padL (ofS s) x)
def keyA (k:Nat) (key:ByteArray):ByteArray:=if hblk k<key.size then toS (hashL k (ofS key)) else key
def keyB (k:Nat) (key:ByteArray):ByteArray:=keyA k key++toS (List.replicate (hblk k-(keyA k key).size) 0)
def macS (k:Nat) (key:ByteArray):ShS:=(hp k).write (hinit k) (ofS (padB (keyB k key) 54))
def hmacB (k:Nat) (key msg:ByteArray):ByteArray:=toS (hashL k (ofS (padB (keyB k key) 92++toS (hsum k ((hp k).write (macS k key) (ofS msg))))))
theorem KDZ (s:ByteArray) (x:Nat):(padB s x).size = s.size:=by unfold padB padL; rw [KAL,List.length_map,KBG]
theorem KCP {k:Nat} (hk:k = 1∨k = 2∨k = 3∨k = 4) (key msg:ByteArray):(hmacB k key msg).size = hsize k:=by unfold hmacB; rw [KAL,KBe hk]
theorem keyA_size {k:Nat} (hk:k = 1∨k = 2∨k = 3∨k = 4) (key:ByteArray):(keyA k key).size≤hblk k:=by
  unfold keyA
  split
  · rw [KAL,KBe hk]; rcases hk with rfl|rfl|rfl|rfl <;> decide
  · omega
theorem hblk_le (k:Nat):hblk k≤128:=by unfold hblk; split <;> decide
theorem KCG {k:Nat} (hk:k = 1∨k = 2∨k = 3∨k = 4) (key:ByteArray):(keyB k key).size = hblk k:=by
  have:=keyA_size hk key
  unfold keyB
  rw [ByteArray.size_append,KAL,List.length_replicate]; omega
theorem byF_nth (s:ByteArray) (i:Nat):byF s i = (ofS s).getD i 0:=by
  unfold byF ofS
  simp only [List.getD,List.getElem?_map]
  cases s.data.toList[i]? <;> rfl
theorem pad_str (s:ByteArray) (x:Nat):strOf ((List.range s.size).map fun i=>UInt8.ofNat (if i<s.size then xorM 256 (byF s i) x else byF s i)) = padB s x:=by
  unfold padB padL toS
  congr 1
  rw [List.map_map]
  apply List.ext_getElem
  · simp [KBG]
  · intro i h1 h2
    simp at h1
    have h3:i<(ofS s).length:=by rw [KBG]; exact h1
    simp [h1,byF_nth,List.getD,h3]
theorem pad_next (s:ByteArray) (x y:Nat) {rest:List Value} (hy:y<s.size):(vec .u8 s.size (fun j=>if j<y then xorM 256 (byF s j) x else byF s j)++rest).set y (.int .u8 ((xorM 256 (byF s y) x:Nat):Int)) = vec .u8 s.size (fun j=>if j<(y+1) then xorM 256 (byF s j) x else byF s j)++rest:=by
  rw [set_front (by rw [KU]; exact hy),vec_set]
  congr 1
  apply Kq
  intro j _
  by_cases h1:j = y
  · rw [if_pos h1,if_pos om,h1]
  · rw [if_neg h1]
    by_cases h2:j<y
    · rw [if_pos h2,if_pos om]
    · rw [if_neg h2,if_neg om]
theorem pad_get (s:ByteArray) (x y:Nat) {rest:List Value} (hy:y<s.size):(vec .u8 s.size (fun j=>if j<y then xorM 256 (byF s j) x else byF s j)++rest)[y]? = some (.int .u8 ((byF s y:Nat):Int)):=by
  rw [List.getElem?_append_left (by rw [KU]; exact hy),Ki _ _ _ hy,if_neg (Nat.lt_irrefl y)]
theorem pad_start (s:ByteArray) (x:Nat) {rest:List Value}:vec .u8 s.size (byF s)++rest = vec .u8 s.size (fun j=>if j<0 then xorM 256 (byF s j) x else byF s j)++rest:=by
  congr 1
theorem pad_take (s:ByteArray) (x:Nat) {rest:List Value} (i:Nat):((vec .u8 s.size (fun j=>if j<i then xorM 256 (byF s j) x else byF s j)++rest).drop 0).take s.size = vec .u8 s.size (fun j=>if j<i then xorM 256 (byF s j) x else byF s j):=by
  rw [List.drop_zero,List.take_left' (KU _ _ _)]
theorem c_pad (s:ByteArray) (x:Nat) (hs:s.size<1000000) (w:World)  : CF Tryz.prog 193 [.string s,.int .u8 ((x:Nat):Int)] w (.string (padB s x)):=by
  refine KV (N:=24) (rs:=[.tmp 4]) [] Tryz.func193 rfl Tryz.ntmps193 Tryz.results193 (Nb rfl) trivial rfl ?_
  refine KB (KA (oA (KC (KB (KA (oM ?_))))));refine LOps.step rfl (LStepW.toBytes rfl u9 u70 u5 (Nb rfl) ?_)
  intro b cap rest n hn
  rw [pad_start s x]
  refine oA (KC (KB (KB (KA (oM ?_)))));refine oP (KBc u70 rfl) (oP (Kf (v:=Iz 0) rfl) (KC (LCode.block (Kc (α:=Nat) (fun y=>y≤s.size) (fun y=>⟨[(1,.int .u8 ((x:Nat):Int)),(5,.slice (some ⟨b,0,none⟩) s.size cap),(10,Iz s.size),(11,Iz y)],[.blk b ⟨true,vec .u8 s.size (fun j=>if j<y then xorM 256 (byF s j) x else byF s j)++rest,5,(n,n+1)⟩]⟩) (fun y=>s.size-y) (0) (Nat.zero_le _) (Ka ⟨rfl,rfl,rfl,rfl,trivial⟩ mS) ?_))))
  intro y hy
  refine KB (KA (oP (KG rfl rfl (KAA)) (KC (KB ?_))))
  first|refine KQ rfl (fun h12=>?_) (fun h12=>?_)|refine KR rfl (fun h12=>?_) (fun h12=>?_)
  ·
   have h12:y<s.size:=h12
   refine KM (KB (LCode.block (KB (KA (oM (oA (KC (KA (oM (oM ?_))))))))));refine oP (KAF u70 sz_5 rfl rfl om) (oD (dL rfl (hv:=KI u5 rfl (by exact pad_get s x y h12))) ?_);refine oM ?_;refine oP (KG rfl rfl (br_xor8m)) (oP (KAF u70 sz_5 rfl rfl om) ?_);refine LOps.step rfl (KZ rfl rfl rfl sz_5 mT (by rw [List.length_append,KU]; omega) (pad_next s x y h12) (by dsimp only; omega) ?_);refine KC (KA (oP (KG rfl rfl (Kj (b:=1) om)) (oM (KC ?_))))
   exact ⟨y+1,by omega,by omega,Ka ⟨rfl,rfl,rfl,rfl,trivial⟩ mS⟩
  have h12:¬ y<s.size:=h12
  obtain rfl:y = s.size:=by omega
  refine Kb (KB (KA (oM ?_)));refine oD (KBS u70 u5 u9 rfl mM (pad_take s x _)) ?_;refine oA (KC (KN ?_));refine eN (.cons rfl .nil) ?_
  rw [← pad_str]
  rfl
theorem c_mNew256 (k:Nat) (hk:k = 1∨k = 2) (key:ByteArray) (hkey:key.size≤140737488351232) (w:World) (hH:∀ x,x∈([]++[]:List Item)→x.holds w) (hd:([]++[]:List Item).Pairwise Apart)  : Calls Tryz.prog 165 ([Iz k,.string key]:List Value).toArray w (fun e w'=>∃ (u:Value) (x':Item) (y':Item),(∃ mb r,∃ m:Nat×Nat×Nat×Nat×Nat,u = .tuple #[Pz mb,Iz 0]∧x' = .blk mb ⟨true,[Iz k,.string (padB (keyB k key) 92),Pz m.1],295,(0,0)⟩∧y' = KCE m (hbits k) r (p256.write (hinit k) (ofS (padB (keyB k key) 54))))∧e = .returned u∧Outcome w [] [x',y'] w'):=by
  refine KAO [] (N:=45) (rs:=[.tmp 4,.tmp 5]) Tryz.func165 rfl Tryz.ntmps165 Tryz.results165 (Nb rfl) hH hd rfl rfl ?_
  refine KB (KA (oA ?_));refine oP (KO (v:=Iz 0) rfl) (KC (KB (KA (oM ?_))));refine LOps.step rfl (Kg (first:=[]) (caps:=[]) (X:=[]) (RO:=[]) rfl en_135 rfl (Nb rfl) sR wK (fun w hH hd=>c_hNew256 k hk w hH hd) ?_)
  rintro _ _ ⟨m,rfl,rfl⟩
  refine oM ?_;refine oX ?_;refine oX ?_;refine oA (oA (KC (KB (KB (KA (oM ?_))))));refine oP (bF rfl rfl (KAn (b:=0)) dc) (KC (KH rfl (KM (KB (KA (oM ?_))))));refine oS (cF rfl en_192 rfl (fun w hw=>c_hBlock k om w) ?_);refine oA (KC ?_);refine KCr (α:=ByteArray) (fun x=>x = keyA k key) (fun x=>⟨[(0,Iz k),(1,.string x),(6,Pz m.1),(8,Iz (hblk k))],[KCE m (hbits k) none (hinit k)]⟩) ?_ ?_
  ·
   refine KB (KA (oM ?_));refine oP (KAQ u9 rfl) (oM ?_);refine oP (KG rfl rfl (KAb)) (KC ?_)
   first|refine KQ rfl (fun h21=>?_) (fun h21=>?_)|refine KR rfl (fun h21=>?_) (fun h21=>?_)
   ·
    have h21:hblk k<key.size:=h21
    have hx:toS (hashL k (ofS key)) = keyA k key:=(if_pos h21).symm
    refine KA (oM (oM ?_));refine oS (cF rfl en_85 rfl (fun w hw=>c_hOf k om key hkey w) ?_);refine oM ?_;refine oX ?_;refine oX ?_;refine oA (KC ?_)
    exact ⟨_,hx,Ka ⟨rfl,rfl,rfl,rfl,trivial⟩ mS⟩
   have h21:¬ hblk k<key.size:=h21
   have hx:key = keyA k key:=(if_neg h21).symm
   refine KM ?_
   exact ⟨_,hx,Ka ⟨rfl,rfl,rfl,rfl,trivial⟩ mS⟩
  rintro x hx
  have hxs:x.size≤hblk k:=hx ▸ keyA_size om key
  have hb8:=hblk_le k
  refine KB (KA (oM (oM (oM ?_))));refine oP (KAQ u9 rfl) (oP (KG rfl rfl (KAe om om)) (oS (cF rfl en_33 rfl (fun w hw=>c_Repeat 0 _ w om) ?_)));refine oP (KAh rfl rfl (by rw [KAL,List.length_replicate]; omega)) ?_
  rw [show x++toS (List.replicate (hblk k-x.size) (UInt8.toNat 0)) = keyB k key by rw [hx]; rfl]
  refine oA (KC (KB (KA (oM (oM ?_)))));refine oS (cF rfl en_193 rfl (fun w hw=>c_pad _ _ (by rw [KCG om]; omega) w) ?_);refine LOps.step rfl (Kg (first:=[]) (caps:=[]) rfl en_136 rfl (Nb rfl) sR wK (fun w hH hd=>c_stWrite256 m (hbits k) none (hinit k) (padB (keyB k key) 54) (Nat.zero_le _) (by rw [KDZ,KCG om]; omega) w hH hd) ?_)
  rintro _ _ ⟨r1,rfl,rfl⟩
  refine KC (KB (KA (oM (oM ?_))));refine oS (cF rfl en_193 rfl (fun w hw=>c_pad _ _ (by rw [KCG om]; omega) w) ?_);refine oM ?_;refine oP (KX pl_295 zr_295 rfl (fT (r':=([Iz k]++([Value.string (padB (keyB k key) 92)]++([Pz m.1])))) (fS (A:=([]:List Value)) (B:=([Iz 0])) (D:=([Value.string ⟨#[]⟩]++([Value.pointer none]))) (cs:=[Iz k]) (fS (A:=([Iz k])) (B:=([Value.string ⟨#[]⟩])) (D:=([Value.pointer none])) (cs:=[Value.string (padB (keyB k key) 92)]) (fS (A:=([Iz k]++([Value.string (padB (keyB k key) 92)]))) (B:=([Value.pointer none])) (D:=([]:List Value)) (cs:=[Pz m.1]) rfl))))) ?_;refine oS (mB (fun b44=>?_));refine oA ?_;refine oP (KO (v:=Iz 0) rfl) (KC (KN (⟨[_,_],.cons rfl (.cons rfl .nil),fun a w' hr=>⟨_,_,_,⟨b44,r1,m,rfl,rfl,rfl⟩,rfl,hr.out mS rfl⟩⟩)))
theorem c_mWrite256 (m:Nat×Nat×Nat×Nat×Nat) (k mb sz:Nat) (r:BsRow) (s:ShS) (key x:ByteArray) (hrl:s.rest.length≤64) (hs:x.size≤140737488351232) (w:World) (hH:∀ x,x∈([KCE m sz r s]++[.blk mb ⟨false,[Iz k,.string (padB (keyB k key) 92),Pz m.1],295,(0,0)⟩]:List Item)→x.holds w) (hd:([KCE m sz r s]++[.blk mb ⟨false,[Iz k,.string (padB (keyB k key) 92),Pz m.1],295,(0,0)⟩]:List Item).Pairwise Apart)  : Calls Tryz.prog 166 ([Pz mb,.string x]:List Value).toArray w (fun e w'=>∃ (u:Value) (x':Item),(∃ r',u = Iz 0∧x' = KCE m sz r' (p256.write s (ofS x)))∧e = .returned u∧Outcome w [KCE m sz r s] [x'] w'):=by
  refine KAO [KCE m sz r s,.blk mb ⟨false,[Iz k,.string (padB (keyB k key) 92),Pz m.1],295,(0,0)⟩] (N:=13) (rs:=[.tmp 4]) Tryz.func166 rfl Tryz.ntmps166 Tryz.results166 (Nb rfl) hH hd rfl rfl ?_
  refine KB (KA (oP (KO (v:=Iz 0) rfl) (KC (KB (KB (KA (oM ?_)))))));refine oP (KAI u246 rfl rfl) (KC (KH rfl (KM (KB (KA (oM ?_))))));refine oP (KF rfl) (oP (KE (o':=2) u295 rfl rfl rfl sz_207 dc) (oD (dL rfl (hv:=KI u207 rfl gL)) ?_));refine oM ?_;refine LOps.step rfl (Kg (first:=[]) (caps:=[]) rfl en_136 rfl (Nb rfl) sR wK (fun w hH hd=>c_stWrite256 m sz r s x hrl hs w hH hd) ?_)
  rintro _ _ ⟨r2,rfl,rfl⟩
  refine oA (KC (KN ?_));refine ⟨[_],.cons rfl .nil,fun a w' hr=>⟨_,_,⟨r2,rfl,rfl⟩,rfl,hr.out mS rfl⟩⟩
theorem c_mSum256 (m:Nat×Nat×Nat×Nat×Nat) (k:Nat) (hk:k = 1∨k = 2) (mb:Nat) (r:BsRow) (s:ShS) (key:ByteArray) (hrl:s.rest.length<64) (w:World) (h1:(Item.blk mb ⟨false,[Iz k,.string (padB (keyB k key) 92),Pz m.1],295,(0,0)⟩).holds w) (hS:(strR256 m (hbits k) r s).holds w):CF Tryz.prog 167 [Pz mb] w (.string (toS (hashL k (ofS (padB (keyB k key) 92++(toS (p256.sum s (hbits k/8)))))))):=by
  have hsz:(toS (p256.sum s (hbits k/8))).size = hsize k:=by rw [KAL,Hp.sum_length _ _ (by rcases hk with rfl|rfl <;> decide)]; rcases hk with rfl|rfl <;> rfl
  have hb8:=hblk_le k
  have hs8:hsize k≤64:=by rcases hk with rfl|rfl <;> decide
  refine KV (N:=26) (rs:=[.tmp 2]) [.blk mb ⟨false,[Iz k,.string (padB (keyB k key) 92),Pz m.1],295,(0,0)⟩,strR256 m (hbits k) r s] Tryz.func167 rfl Tryz.ntmps167 Tryz.results167 (Nb rfl) ⟨h1,hS,trivial⟩ rfl ?_
  refine KB (KA (oA (KC (KB (KB (KA (oM ?_)))))));refine oP (KAI u246 rfl rfl) (KC (KH rfl (KM (KB (rD [] (aM 0 ?_))))));refine aP 1 rfl (KF rfl) (aP 2 rfl (KE (o':=0) u295 rfl rfl rfl sz_3 dc) (aD 3 rfl (dL rfl (hv:=KI u3 rfl gL)) ?_));refine aM 4 ?_;refine aP 5 rfl (KF rfl) (aP 6 rfl (KE (o':=1) u295 rfl rfl rfl sz_9 dc) (aD 7 rfl (dL rfl (hv:=KI u9 rfl gL)) ?_));refine aM 8 ?_;refine aP 9 rfl (KF rfl) (aP 10 rfl (KE (o':=2) u295 rfl rfl rfl sz_207 dc) (aD 11 rfl (dL rfl (hv:=KI u207 rfl gL)) ?_));refine aO 12 rfl (cF rfl en_137 rfl (fun w hw=>c_stSum256 m (hbits k) r s hrl (by rcases hk with rfl|rfl <;> decide) (by rcases hk with rfl|rfl <;> decide) w (mC hw)) ?_);refine aP 13 rfl (KAh rfl rfl (by rw [KDZ,KCG om,hsz]; omega)) ?_;refine aO 14 rfl (cF rfl en_85 rfl (fun w hw=>c_hOf k om _ (by rw [ByteArray.size_append,KDZ,KCG om,hsz]; omega) w) ?_)
  refine aM 15 ?_;refine aP 16 rfl (Det.extract rfl rfl) (aP 17 rfl (Det.extract rfl rfl) (aA 18 ?_));refine aA 19 ?_;refine aE (KB (KA (oM (oA (KC (KN ?_))))));refine eN (.cons rfl .nil) ?_
  rfl
theorem c_mOf256 (k:Nat) (hk:k = 1∨k = 2) (key x:ByteArray) (hkey:key.size≤140737488351232) (hx:x.size≤140737488351232) (w:World)  : CF Tryz.prog 127 [Iz k,.string key,.string x] w (.tuple #[.string (hmacB k key x),Iz 0]):=by
  have hpk:hp k = p256:=by rcases hk with rfl|rfl <;> rfl
  refine KV (N:=24) (rs:=[.tmp 6,.tmp 7]) [] Tryz.func127 rfl Tryz.ntmps127 Tryz.results127 (Nb rfl) trivial rfl ?_
  refine KB (KA (oA ?_));refine oP (KO (v:=Iz 0) rfl) (KC (KB (KA (oM (oM ?_)))));refine LOps.step rfl (KAJ (first:=[]) (caps:=[]) (X:=[]) (RO:=[]) rfl en_165 rfl (Nb rfl) sR wK (fun w hH hd=>c_mNew256 k hk key hkey w hH hd) ?_)
  rintro _ _ _ ⟨mb,r1,m,rfl,rfl,rfl⟩
  refine oM ?_;refine oX ?_;refine oX ?_;refine oA (oA (KC (KB (KB (KA (oM ?_))))));refine oP (bF rfl rfl (KAn (b:=0)) dc) (KC (KH rfl (KM (KB (KA (oM (oM ?_)))))));refine LOps.step rfl (Kg (first:=[]) (caps:=[]) rfl en_166 rfl (Nb rfl) sR wK (fun w hH hd=>c_mWrite256 m k mb (hbits k) r1 (p256.write (hinit k) (ofS (padB (keyB k key) 54))) key x (Nat.le_of_lt (p256.write_rest _ _ dc)) hx w hH hd) ?_)
  rintro _ _ ⟨r2,rfl,rfl⟩
  refine KC (KB (KA (oM ?_)));refine oS (cF rfl en_167 rfl (fun w hw=>c_mSum256 m k hk mb r2 (p256.write (p256.write (hinit k) (ofS (padB (keyB k key) 54))) (ofS x)) key (p256.write_rest _ _ dc) w (show (Item.blk mb ⟨false,_,_,_⟩).holds w from hw (.blk mb ⟨true,_,_,_⟩) mM) (show (strR256 m (hbits k) r2 (p256.write (p256.write (hinit k) (ofS (padB (keyB k key) 54))) (ofS x))).holds w from hw (KCE m (hbits k) r2 (p256.write (p256.write (hinit k) (ofS (padB (keyB k key) 54))) (ofS x))) mM)) ?_);refine oA ?_;refine oP (KO (v:=Iz 0) rfl) (KC (KN (eN (.cons rfl (.cons rfl .nil)) ?_)))
  unfold hmacB hsum macS
  rw [hpk]
  rfl
theorem c_mNew512 (k:Nat) (hk:k = 3∨k = 4) (key:ByteArray) (hkey:key.size≤140737488351232) (w:World) (hH:∀ x,x∈([]++[]:List Item)→x.holds w) (hd:([]++[]:List Item).Pairwise Apart)  : Calls Tryz.prog 165 ([Iz k,.string key]:List Value).toArray w (fun e w'=>∃ (u:Value) (x':Item) (y':Item),(∃ mb r,∃ m:Nat×Nat×Nat×Nat×Nat,u = .tuple #[Pz mb,Iz 0]∧x' = .blk mb ⟨true,[Iz k,.string (padB (keyB k key) 92),Pz m.1],295,(0,0)⟩∧y' = KCD m (hbits k) r (p512.write (hinit k) (ofS (padB (keyB k key) 54))))∧e = .returned u∧Outcome w [] [x',y'] w'):=by
  refine KAO [] (N:=45) (rs:=[.tmp 4,.tmp 5]) Tryz.func165 rfl Tryz.ntmps165 Tryz.results165 (Nb rfl) hH hd rfl rfl ?_
  refine KB (KA (oA ?_));refine oP (KO (v:=Iz 0) rfl) (KC (KB (KA (oM ?_))));refine LOps.step rfl (Kg (first:=[]) (caps:=[]) (X:=[]) (RO:=[]) rfl en_135 rfl (Nb rfl) sR wK (fun w hH hd=>c_hNew512 k hk w hH hd) ?_)
  rintro _ _ ⟨m,rfl,rfl⟩
  refine oM ?_;refine oX ?_;refine oX ?_;refine oA (oA (KC (KB (KB (KA (oM ?_))))));refine oP (bF rfl rfl (KAn (b:=0)) dc) (KC (KH rfl (KM (KB (KA (oM ?_))))));refine oS (cF rfl en_192 rfl (fun w hw=>c_hBlock k om w) ?_);refine oA (KC ?_);refine KCr (α:=ByteArray) (fun x=>x = keyA k key) (fun x=>⟨[(0,Iz k),(1,.string x),(6,Pz m.1),(8,Iz (hblk k))],[KCD m (hbits k) none (hinit k)]⟩) ?_ ?_
  ·
   refine KB (KA (oM ?_));refine oP (KAQ u9 rfl) (oM ?_);refine oP (KG rfl rfl (KAb)) (KC ?_)
   first|refine KQ rfl (fun h21=>?_) (fun h21=>?_)|refine KR rfl (fun h21=>?_) (fun h21=>?_)
   ·
    have h21:hblk k<key.size:=h21
    have hx:toS (hashL k (ofS key)) = keyA k key:=(if_pos h21).symm
    refine KA (oM (oM ?_));refine oS (cF rfl en_85 rfl (fun w hw=>c_hOf k om key hkey w) ?_);refine oM ?_;refine oX ?_;refine oX ?_;refine oA (KC ?_)
    exact ⟨_,hx,Ka ⟨rfl,rfl,rfl,rfl,trivial⟩ mS⟩
   have h21:¬ hblk k<key.size:=h21
   have hx:key = keyA k key:=(if_neg h21).symm
   refine KM ?_
   exact ⟨_,hx,Ka ⟨rfl,rfl,rfl,rfl,trivial⟩ mS⟩
  rintro x hx
  have hxs:x.size≤hblk k:=hx ▸ keyA_size om key
  have hb8:=hblk_le k
  refine KB (KA (oM (oM (oM ?_))));refine oP (KAQ u9 rfl) (oP (KG rfl rfl (KAe om om)) (oS (cF rfl en_33 rfl (fun w hw=>c_Repeat 0 _ w om) ?_)));refine oP (KAh rfl rfl (by rw [KAL,List.length_replicate]; omega)) ?_
  rw [show x++toS (List.replicate (hblk k-x.size) (UInt8.toNat 0)) = keyB k key by rw [hx]; rfl]
  refine oA (KC (KB (KA (oM (oM ?_)))));refine oS (cF rfl en_193 rfl (fun w hw=>c_pad _ _ (by rw [KCG om]; omega) w) ?_);refine LOps.step rfl (Kg (first:=[]) (caps:=[]) rfl en_136 rfl (Nb rfl) sR wK (fun w hH hd=>c_stWrite512 m (hbits k) none (hinit k) (padB (keyB k key) 54) (Nat.zero_le _) (by rw [KDZ,KCG om]; omega) w hH hd) ?_)
  rintro _ _ ⟨r1,rfl,rfl⟩
  refine KC (KB (KA (oM (oM ?_))));refine oS (cF rfl en_193 rfl (fun w hw=>c_pad _ _ (by rw [KCG om]; omega) w) ?_);refine oM ?_;refine oP (KX pl_295 zr_295 rfl (fT (r':=([Iz k]++([Value.string (padB (keyB k key) 92)]++([Pz m.1])))) (fS (A:=([]:List Value)) (B:=([Iz 0])) (D:=([Value.string ⟨#[]⟩]++([Value.pointer none]))) (cs:=[Iz k]) (fS (A:=([Iz k])) (B:=([Value.string ⟨#[]⟩])) (D:=([Value.pointer none])) (cs:=[Value.string (padB (keyB k key) 92)]) (fS (A:=([Iz k]++([Value.string (padB (keyB k key) 92)]))) (B:=([Value.pointer none])) (D:=([]:List Value)) (cs:=[Pz m.1]) rfl))))) ?_;refine oS (mB (fun b44=>?_));refine oA ?_;refine oP (KO (v:=Iz 0) rfl) (KC (KN (⟨[_,_],.cons rfl (.cons rfl .nil),fun a w' hr=>⟨_,_,_,⟨b44,r1,m,rfl,rfl,rfl⟩,rfl,hr.out mS rfl⟩⟩)))
theorem c_mWrite512 (m:Nat×Nat×Nat×Nat×Nat) (k mb sz:Nat) (r:BsRow) (s:ShS) (key x:ByteArray) (hrl:s.rest.length≤128) (hs:x.size≤140737488351232) (w:World) (hH:∀ x,x∈([KCD m sz r s]++[.blk mb ⟨false,[Iz k,.string (padB (keyB k key) 92),Pz m.1],295,(0,0)⟩]:List Item)→x.holds w) (hd:([KCD m sz r s]++[.blk mb ⟨false,[Iz k,.string (padB (keyB k key) 92),Pz m.1],295,(0,0)⟩]:List Item).Pairwise Apart)  : Calls Tryz.prog 166 ([Pz mb,.string x]:List Value).toArray w (fun e w'=>∃ (u:Value) (x':Item),(∃ r',u = Iz 0∧x' = KCD m sz r' (p512.write s (ofS x)))∧e = .returned u∧Outcome w [KCD m sz r s] [x'] w'):=by
  refine KAO [KCD m sz r s,.blk mb ⟨false,[Iz k,.string (padB (keyB k key) 92),Pz m.1],295,(0,0)⟩] (N:=13) (rs:=[.tmp 4]) Tryz.func166 rfl Tryz.ntmps166 Tryz.results166 (Nb rfl) hH hd rfl rfl ?_
  refine KB (KA (oP (KO (v:=Iz 0) rfl) (KC (KB (KB (KA (oM ?_)))))));refine oP (KAI u246 rfl rfl) (KC (KH rfl (KM (KB (KA (oM ?_))))));refine oP (KF rfl) (oP (KE (o':=2) u295 rfl rfl rfl sz_207 dc) (oD (dL rfl (hv:=KI u207 rfl gL)) ?_));refine oM ?_;refine LOps.step rfl (Kg (first:=[]) (caps:=[]) rfl en_136 rfl (Nb rfl) sR wK (fun w hH hd=>c_stWrite512 m sz r s x hrl hs w hH hd) ?_)
  rintro _ _ ⟨r2,rfl,rfl⟩
  refine oA (KC (KN ?_));refine ⟨[_],.cons rfl .nil,fun a w' hr=>⟨_,_,⟨r2,rfl,rfl⟩,rfl,hr.out mS rfl⟩⟩
theorem c_mSum512 (m:Nat×Nat×Nat×Nat×Nat) (k:Nat) (hk:k = 3∨k = 4) (mb:Nat) (r:BsRow) (s:ShS) (key:ByteArray) (hrl:s.rest.length<128) (w:World) (h1:(Item.blk mb ⟨false,[Iz k,.string (padB (keyB k key) 92),Pz m.1],295,(0,0)⟩).holds w) (hS:(strR512 m (hbits k) r s).holds w):CF Tryz.prog 167 [Pz mb] w (.string (toS (hashL k (ofS (padB (keyB k key) 92++(toS (p512.sum s (hbits k/8)))))))):=by
  have hsz:(toS (p512.sum s (hbits k/8))).size = hsize k:=by rw [KAL,Hp.sum_length _ _ (by rcases hk with rfl|rfl <;> decide)]; rcases hk with rfl|rfl <;> rfl
  have hb8:=hblk_le k
  have hs8:hsize k≤64:=by rcases hk with rfl|rfl <;> decide
  refine KV (N:=26) (rs:=[.tmp 2]) [.blk mb ⟨false,[Iz k,.string (padB (keyB k key) 92),Pz m.1],295,(0,0)⟩,strR512 m (hbits k) r s] Tryz.func167 rfl Tryz.ntmps167 Tryz.results167 (Nb rfl) ⟨h1,hS,trivial⟩ rfl ?_
  refine KB (KA (oA (KC (KB (KB (KA (oM ?_)))))));refine oP (KAI u246 rfl rfl) (KC (KH rfl (KM (KB (rD [] (aM 0 ?_))))));refine aP 1 rfl (KF rfl) (aP 2 rfl (KE (o':=0) u295 rfl rfl rfl sz_3 dc) (aD 3 rfl (dL rfl (hv:=KI u3 rfl gL)) ?_));refine aM 4 ?_;refine aP 5 rfl (KF rfl) (aP 6 rfl (KE (o':=1) u295 rfl rfl rfl sz_9 dc) (aD 7 rfl (dL rfl (hv:=KI u9 rfl gL)) ?_));refine aM 8 ?_;refine aP 9 rfl (KF rfl) (aP 10 rfl (KE (o':=2) u295 rfl rfl rfl sz_207 dc) (aD 11 rfl (dL rfl (hv:=KI u207 rfl gL)) ?_));refine aO 12 rfl (cF rfl en_137 rfl (fun w hw=>c_stSum512 m (hbits k) r s hrl (by rcases hk with rfl|rfl <;> decide) (by rcases hk with rfl|rfl <;> decide) w (mC hw)) ?_);refine aP 13 rfl (KAh rfl rfl (by rw [KDZ,KCG om,hsz]; omega)) ?_;refine aO 14 rfl (cF rfl en_85 rfl (fun w hw=>c_hOf k om _ (by rw [ByteArray.size_append,KDZ,KCG om,hsz]; omega) w) ?_)
  refine aM 15 ?_;refine aP 16 rfl (Det.extract rfl rfl) (aP 17 rfl (Det.extract rfl rfl) (aA 18 ?_));refine aA 19 ?_;refine aE (KB (KA (oM (oA (KC (KN ?_))))));refine eN (.cons rfl .nil) ?_
  rfl
theorem c_mOf512 (k:Nat) (hk:k = 3∨k = 4) (key x:ByteArray) (hkey:key.size≤140737488351232) (hx:x.size≤140737488351232) (w:World)  : CF Tryz.prog 127 [Iz k,.string key,.string x] w (.tuple #[.string (hmacB k key x),Iz 0]):=by
  have hpk:hp k = p512:=by rcases hk with rfl|rfl <;> rfl
  refine KV (N:=24) (rs:=[.tmp 6,.tmp 7]) [] Tryz.func127 rfl Tryz.ntmps127 Tryz.results127 (Nb rfl) trivial rfl ?_
  refine KB (KA (oA ?_));refine oP (KO (v:=Iz 0) rfl) (KC (KB (KA (oM (oM ?_)))));refine LOps.step rfl (KAJ (first:=[]) (caps:=[]) (X:=[]) (RO:=[]) rfl en_165 rfl (Nb rfl) sR wK (fun w hH hd=>c_mNew512 k hk key hkey w hH hd) ?_)
  rintro _ _ _ ⟨mb,r1,m,rfl,rfl,rfl⟩
  refine oM ?_;refine oX ?_;refine oX ?_;refine oA (oA (KC (KB (KB (KA (oM ?_))))));refine oP (bF rfl rfl (KAn (b:=0)) dc) (KC (KH rfl (KM (KB (KA (oM (oM ?_)))))));refine LOps.step rfl (Kg (first:=[]) (caps:=[]) rfl en_166 rfl (Nb rfl) sR wK (fun w hH hd=>c_mWrite512 m k mb (hbits k) r1 (p512.write (hinit k) (ofS (padB (keyB k key) 54))) key x (Nat.le_of_lt (p512.write_rest _ _ dc)) hx w hH hd) ?_)
  rintro _ _ ⟨r2,rfl,rfl⟩
  refine KC (KB (KA (oM ?_)));refine oS (cF rfl en_167 rfl (fun w hw=>c_mSum512 m k hk mb r2 (p512.write (p512.write (hinit k) (ofS (padB (keyB k key) 54))) (ofS x)) key (p512.write_rest _ _ dc) w (show (Item.blk mb ⟨false,_,_,_⟩).holds w from hw (.blk mb ⟨true,_,_,_⟩) mM) (show (strR512 m (hbits k) r2 (p512.write (p512.write (hinit k) (ofS (padB (keyB k key) 54))) (ofS x))).holds w from hw (KCD m (hbits k) r2 (p512.write (p512.write (hinit k) (ofS (padB (keyB k key) 54))) (ofS x))) mM)) ?_);refine oA ?_;refine oP (KO (v:=Iz 0) rfl) (KC (KN (eN (.cons rfl (.cons rfl .nil)) ?_)))
  unfold hmacB hsum macS
  rw [hpk]
  rfl
theorem c_mOf (k:Nat) (hk:k = 1∨k = 2∨k = 3∨k = 4) (key x:ByteArray) (hkey:key.size≤140737488351232) (hx:x.size≤140737488351232) (w:World):CF Tryz.prog 127 [Iz k,.string key,.string x] w (.tuple #[.string (hmacB k key x),Iz 0]):=by
  rcases hk with hk|hk|hk|hk
  · exact c_mOf256 k (.inl hk) key x hkey hx w
  · exact c_mOf256 k (.inr hk) key x hkey hx w
  · exact c_mOf512 k (.inl hk) key x hkey hx w
  · exact c_mOf512 k (.inr hk) key x hkey hx w
def gnL (k:Nat) (K V:ByteArray) (n:Nat):List Value:=[.int .i64 (k:Int),.string K,.string V,.int .i64 (n:Int)]
def updI (k:Nat) (s:ByteArray) (z:ByteArray×ByteArray):Nat→ByteArray×ByteArray
  | 0=>z
  | i+1 =>
    let K:=hmacB k (updI k s z i).1 ((updI k s z i).2++toS [i%256]++s)
    (K,hmacB k K (updI k s z i).2)
def upd (k:Nat) (s:ByteArray) (z:ByteArray×ByteArray):ByteArray×ByteArray:=updI k s z (if s.data.toList = [] then 1 else 2)
def genI (k:Nat) (K V:ByteArray):Nat→ByteArray×ByteArray
  | 0=>(V,⟨#[]⟩)
  | i+1=>(hmacB k K (genI k K V i).1,(genI k K V i).2++hmacB k K (genI k K V i).1)
def genQ (k size:Nat):Nat:=(size+hsize k-1)/hsize k
def genB (k:Nat) (K V:ByteArray) (size:Nat):ByteArray:=(genI k K V (genQ k size)).2.extract 0 size
def genS (k:Nat) (K V:ByteArray) (size:Nat):ByteArray×ByteArray:=upd k ⟨#[]⟩ (K,(genI k K V (genQ k size)).1)
theorem upd_cases {x:Nat} (h:x<2) (p:Prop):x = 0∨(x = 1∧p)∨(x = 1∧¬ p):=by
  rcases (show x = 0∨x = 1 by omega) with e|e
  · exact .inl e
  · by_cases hp:p
    · exact .inr (.inl ⟨e,hp⟩)
    · exact .inr (.inr ⟨e,hp⟩)
theorem KCR {k:Nat} (hk:k = 1∨k = 2∨k = 3∨k = 4):28≤hsize k∧hsize k≤64:=by rcases hk with rfl|rfl|rfl|rfl <;> decide
theorem updI_size {k:Nat} (hk:k = 1∨k = 2∨k = 3∨k = 4) (s:ByteArray) {z:ByteArray×ByteArray} (h1:z.1.size≤64) (h2:z.2.size≤64):∀ i,(updI k s z i).1.size≤64∧(updI k s z i).2.size≤64
  | 0=>⟨h1,h2⟩
  | i+1=>by
    have:=KCR hk
    show (hmacB _ _ _).size≤64∧(hmacB _ _ _).size≤64
    rw [KCP hk,KCP hk]; omega
theorem upd_size {k:Nat} (hk:k = 1∨k = 2∨k = 3∨k = 4) (s:ByteArray) {z:ByteArray×ByteArray} (h1:z.1.size≤64) (h2:z.2.size≤64):(upd k s z).1.size≤64∧(upd k s z).2.size≤64:=updI_size hk s h1 h2 _
theorem genI_size {k:Nat} (hk:k = 1∨k = 2∨k = 3∨k = 4) (K:ByteArray) {V:ByteArray} (h:V.size≤64):∀ i,(genI k K V i).1.size≤64∧(genI k K V i).2.size = i*hsize k
  | 0=>⟨h,by rw [Nat.zero_mul]; rfl⟩
  | i+1=>by
    have h1:=KCR hk
    have h2:=(genI_size hk K h i).2
    show (hmacB _ _ _).size≤64∧(_++hmacB _ _ _:ByteArray).size = _
    rw [ByteArray.size_append,KCP hk,h2,Nat.succ_mul]; omega
theorem genQ_mul {k:Nat} (hk:k = 1∨k = 2∨k = 3∨k = 4) (size:Nat):size≤genQ k size*hsize k∧(0<genQ k size→(genQ k size-1)*hsize k<size):=by
  have hp:=(KCR hk).1
  unfold genQ
  have h1:=Nat.div_add_mod (size+hsize k-1) (hsize k)
  have h2:=Nat.mod_lt (size+hsize k-1) (show 0<hsize k by omega)
  rw [Nat.mul_comm] at h1
  generalize (size+hsize k-1)/hsize k = q at *
  refine ⟨by omega,fun hq=>?_⟩
  obtain ⟨p,rfl⟩:∃ p,q = p+1:=⟨q-1,by omega⟩
  rw [Nat.add_sub_cancel]
  rw [Nat.succ_mul] at h1
  omega
theorem genB_size {k:Nat} (hk:k = 1∨k = 2∨k = 3∨k = 4) (K:ByteArray) {V:ByteArray} (h:V.size≤64) (size:Nat):(genB k K V size).size = size:=by
  unfold genB
  rw [ByteArray.size_extract,(genI_size hk K h _).2]
  have:=(genQ_mul hk size).1
  omega
theorem KBi {k:Nat} (hk:k = 1∨k = 2∨k = 3∨k = 4) (K:ByteArray) {V:ByteArray} (h1:K.size≤64) (h:V.size≤64) (size:Nat):(genS k K V size).1.size≤64∧(genS k K V size).2.size≤64:=upd_size hk _ h1 (genI_size hk K h _).1
theorem c_dmac (k:Nat) (hk:k = 1∨k = 2∨k = 3∨k = 4) (d n:Nat) (K V s:ByteArray) (hK:K.size≤64) (hs:s.size≤10000) (w:World) (h1:(Item.blk d ⟨false,gnL k K V (n),79,(0,0)⟩).holds w):CF Tryz.prog 75 [Pz d,.string s] w (.string (hmacB k K s)):=by
  refine KV (N:=21) (rs:=[.tmp 4]) [.blk d ⟨false,gnL k K V (n),79,(0,0)⟩] Tryz.func75 rfl Tryz.ntmps75 Tryz.results75 (Nb rfl) ⟨h1,trivial⟩ rfl ?_
  refine KB (KA (oA (KC (KB (rD [] ?_)))));refine aM 0 ?_;refine aP 1 rfl (KF rfl) (aP 2 rfl (KE (o':=0) u79 rfl rfl rfl sz_3 dc) (aD 3 rfl (dL rfl (hv:=KI u3 rfl gL)) ?_));refine aM 4 ?_;refine aP 5 rfl (KF rfl) (aP 6 rfl (KE (o':=1) u79 rfl rfl rfl sz_9 dc) (aD 7 rfl (dL rfl (hv:=KI u9 rfl gL)) ?_));refine aM 8 ?_;refine aO 9 rfl (cF rfl en_127 rfl (fun w hw=>c_mOf k hk K s om om w) ?_);refine aM 10 ?_;refine aP 11 rfl (Det.extract rfl rfl) (aP 12 rfl (Det.extract rfl rfl) (aA 13 ?_));refine aA 14 ?_;refine aE (KB (KA (oM (oA (KC (KN ?_))))));refine eN (.cons rfl .nil) ?_
  rfl
theorem c_dupd (k:Nat) (hk:k = 1∨k = 2∨k = 3∨k = 4) (d n:Nat) (K V s:ByteArray) (hK:K.size≤64) (hV:V.size≤64) (hs:s.size≤9000) (w:World) (hH:∀ x,x∈([.blk d ⟨true,gnL k K V (n),79,(0,0)⟩]++[]:List Item)→x.holds w) (hd:([.blk d ⟨true,gnL k K V (n),79,(0,0)⟩]++[]:List Item).Pairwise Apart)  : Calls Tryz.prog 34 ([Pz d,.string s]:List Value).toArray w (fun e w'=>∃ (u:Value) (x':Item),(u = .tuple #[]∧x' = .blk d ⟨true,gnL k (upd k s (K,V)).1 (upd k s (K,V)).2 (n),79,(0,0)⟩)∧e = .returned u∧Outcome w [.blk d ⟨true,gnL k K V (n),79,(0,0)⟩] [x'] w'):=by
  have hsz:=updI_size hk s (z:=(K,V)) hK hV
  have hs8:=KCR hk
  refine KAO [.blk d ⟨true,gnL k K V (n),79,(0,0)⟩] (N:=43) (rs:=[]) Tryz.func34 rfl Tryz.ntmps34 Tryz.results34 (Nb rfl) hH hd rfl rfl ?_
  refine KB (KA (oM ?_));refine oP (Kw rfl) (oA (KC (KB (KA ?_))));refine oP (Kf (v:=Iz 0) rfl) (KC (LCode.block (Kc (α:=Nat) (fun x=>x≤2∧(s.data.toList = []→x≤1)) (fun x=>⟨[(0,Pz d),(1,.string s),(4,.func (.func 75) #[Pz d] #[]),(8,Iz x)],[.blk d ⟨true,gnL k (updI k s (K,V) x).1 (updI k s (K,V) x).2 (n),79,(0,0)⟩]⟩) (fun x=>2-x) (0) (⟨by decide,fun _=>by decide⟩) (Ka ⟨rfl,rfl,rfl,rfl,trivial⟩ mS) ?_)))
  rintro x ⟨hx,hx2⟩
  refine KB (KA (oP (KG rfl rfl (KAA (b:=2))) (KC (KB ?_))))
  first|refine KQ rfl (fun h9=>?_) (fun h9=>?_)|refine KR rfl (fun h9=>?_) (fun h9=>?_)
  ·
   have h9:x<2:=h9
   refine KM (KB (LCode.block (KB (KA (oM (oA (KC (KB (KB ?_)))))))))
   rcases upd_cases h9 (s.data.toList = []) with rfl|⟨rfl,he⟩|⟨rfl,hne⟩
   ·
    refine KA (oM ?_);refine oP (bF rfl rfl (Ku (b:=1)) dc) (oM ?_);refine oK (oK (oP (KT rfl rfl) (KC (KH rfl (KM (KB (rD [16] (aM 0 ?_))))))));refine aM 1 ?_;refine aM 2 ?_;refine aP 3 rfl (KF rfl) (aP 4 rfl (KE (o':=2) u79 rfl rfl rfl sz_9 dc) (aD 5 rfl (dL rfl (hv:=KI u9 rfl gL)) ?_));refine aM 6 ?_;refine aP 7 rfl (KAV u3 u5 rfl) (aM 11 ?_);refine aO 8 rfl (mk (KAP u70 inf_5 rfl rfl rfl rfl dc rfl) (fun b25=>?_));refine aD 9 rfl (KBL (KBS (f:=fun _=>0%256) u70 u5 u9 rfl mM rfl) (show _ = Value.string (toS [0%256]) from rfl)) ?_;refine aP 10 rfl (KAh rfl rfl (by rw [KAL]; have:=(hsz 0).2; simp only [List.length_cons,List.length_nil]; omega)) ?_;refine aP 12 rfl (KAh rfl rfl (by rw [ByteArray.size_append,KAL]; have:=(hsz 0).2; simp only [List.length_cons,List.length_nil]; omega)) ?_
    refine aO 13 rfl (Ky (first:=[_]) rfl en_75 rfl (Nb rfl) (fun w hw=>c_dmac k hk d n (updI k s (K,V) 0).1 (updI k s (K,V) 0).2 _ (hsz 0).1 (by have:=(hsz 0).2; first|omega|(simp only [ByteArray.size_append,KAL,List.length_cons,List.length_nil]; omega)) w (show (Item.blk d ⟨false,gnL k (updI k s (K,V) 0).1 (updI k s (K,V) 0).2 (n),79,(0,0)⟩).holds w from hw (.blk d ⟨true,gnL k (updI k s (K,V) 0).1 (updI k s (K,V) 0).2 (n),79,(0,0)⟩) mM)) ?_);refine aP 14 rfl (KF rfl) (aP 15 rfl (KE (o':=1) u79 rfl rfl rfl sz_9 dc) ?_);refine aL 16 rfl (KZ rfl rfl rfl sz_9 mT (by show 1<4; decide) (show (gnL _ _ _ _).set 1 _ = gnL _ _ _ _ from rfl) (by simp) ?_);refine aE (KA (oM (oM (oM ?_))));refine oP (KF rfl) (oP (KE (o':=2) u79 rfl rfl rfl sz_9 dc) (oD (dL rfl (hv:=KI u9 rfl gL)) ?_));refine oS (Ky (first:=[_]) rfl en_75 rfl (Nb rfl) (fun w hw=>c_dmac k hk d n (hmacB k (updI k s (K,V) 0).1 ((updI k s (K,V) 0).2++toS [0%256]++s)) (updI k s (K,V) 0).2 _ (by rw [KCP hk]; omega) (by have:=(hsz 0).2; first|omega|(simp only [ByteArray.size_append,KAL,List.length_cons,List.length_nil]; omega)) w (show (Item.blk d ⟨false,gnL k (hmacB k (updI k s (K,V) 0).1 ((updI k s (K,V) 0).2++toS [0%256]++s)) (updI k s (K,V) 0).2 (n),79,(0,0)⟩).holds w from hw (.blk d ⟨true,gnL k (hmacB k (updI k s (K,V) 0).1 ((updI k s (K,V) 0).2++toS [0%256]++s)) (updI k s (K,V) 0).2 (n),79,(0,0)⟩) mM)) ?_)
    refine oP (KF rfl) (oP (KE (o':=2) u79 rfl rfl rfl sz_9 dc) ?_);refine LOps.step rfl (KZ rfl rfl rfl sz_9 mT (by show 2<4; decide) (show (gnL _ _ _ _).set 2 _ = gnL _ _ _ _ from rfl) (by simp) ?_);refine KC (KA (oP (KG rfl rfl (Kj (b:=1) om)) (oM (KC ?_))))
    exact ⟨1,⟨by decide,fun he=>Nat.le_refl _⟩,by decide,Ka ⟨rfl,rfl,rfl,rfl,trivial⟩ mS⟩
   ·
    refine KA (oM ?_);refine oP (bT rfl rfl (Ku (b:=1)) (rfl)) (oM ?_);refine oGM ?_;refine oGP (KJ (KCU rfl rfl) (congrArg Value.bool (eq_str_t (he)))) (oP (Kd rfl rfl) (KC (KS rfl (KN ?_))))
    have e1:upd k s (K,V) = (updI k s (K,V) 1):=by unfold upd; rw [if_pos he]
    rw [e1]
    refine ⟨[],.nil,fun a w' hr=>⟨_,_,⟨rfl,rfl⟩,rfl,hr.out mS rfl⟩⟩
   refine KA (oM ?_);refine oP (bT rfl rfl (Ku (b:=1)) (rfl)) (oM ?_);refine oGM ?_;refine oGP (KJ (KCU rfl rfl) (congrArg Value.bool (eq_str_f (hne)))) (oP (Kd rfl rfl) (KC (KH rfl (KM (KB (rD [16] (aM 0 ?_)))))));refine aM 1 ?_;refine aM 2 ?_;refine aP 3 rfl (KF rfl) (aP 4 rfl (KE (o':=2) u79 rfl rfl rfl sz_9 dc) (aD 5 rfl (dL rfl (hv:=KI u9 rfl gL)) ?_));refine aM 6 ?_;refine aP 7 rfl (KAV u3 u5 rfl) (aM 11 ?_);refine aO 8 rfl (mk (KAP u70 inf_5 rfl rfl rfl rfl dc rfl) (fun b25=>?_));refine aD 9 rfl (KBL (KBS (f:=fun _=>1%256) u70 u5 u9 rfl mM rfl) (show _ = Value.string (toS [1%256]) from rfl)) ?_;refine aP 10 rfl (KAh rfl rfl (by rw [KAL]; have:=(hsz 1).2; simp only [List.length_cons,List.length_nil]; omega)) ?_;refine aP 12 rfl (KAh rfl rfl (by rw [ByteArray.size_append,KAL]; have:=(hsz 1).2; simp only [List.length_cons,List.length_nil]; omega)) ?_
   refine aO 13 rfl (Ky (first:=[_]) rfl en_75 rfl (Nb rfl) (fun w hw=>c_dmac k hk d n (updI k s (K,V) 1).1 (updI k s (K,V) 1).2 _ (hsz 1).1 (by have:=(hsz 1).2; first|omega|(simp only [ByteArray.size_append,KAL,List.length_cons,List.length_nil]; omega)) w (show (Item.blk d ⟨false,gnL k (updI k s (K,V) 1).1 (updI k s (K,V) 1).2 (n),79,(0,0)⟩).holds w from hw (.blk d ⟨true,gnL k (updI k s (K,V) 1).1 (updI k s (K,V) 1).2 (n),79,(0,0)⟩) mM)) ?_);refine aP 14 rfl (KF rfl) (aP 15 rfl (KE (o':=1) u79 rfl rfl rfl sz_9 dc) ?_);refine aL 16 rfl (KZ rfl rfl rfl sz_9 mT (by show 1<4; decide) (show (gnL _ _ _ _).set 1 _ = gnL _ _ _ _ from rfl) (by simp) ?_);refine aE (KA (oM (oM (oM ?_))));refine oP (KF rfl) (oP (KE (o':=2) u79 rfl rfl rfl sz_9 dc) (oD (dL rfl (hv:=KI u9 rfl gL)) ?_));refine oS (Ky (first:=[_]) rfl en_75 rfl (Nb rfl) (fun w hw=>c_dmac k hk d n (hmacB k (updI k s (K,V) 1).1 ((updI k s (K,V) 1).2++toS [1%256]++s)) (updI k s (K,V) 1).2 _ (by rw [KCP hk]; omega) (by have:=(hsz 1).2; first|omega|(simp only [ByteArray.size_append,KAL,List.length_cons,List.length_nil]; omega)) w (show (Item.blk d ⟨false,gnL k (hmacB k (updI k s (K,V) 1).1 ((updI k s (K,V) 1).2++toS [1%256]++s)) (updI k s (K,V) 1).2 (n),79,(0,0)⟩).holds w from hw (.blk d ⟨true,gnL k (hmacB k (updI k s (K,V) 1).1 ((updI k s (K,V) 1).2++toS [1%256]++s)) (updI k s (K,V) 1).2 (n),79,(0,0)⟩) mM)) ?_)
   refine oP (KF rfl) (oP (KE (o':=2) u79 rfl rfl rfl sz_9 dc) ?_);refine LOps.step rfl (KZ rfl rfl rfl sz_9 mT (by show 2<4; decide) (show (gnL _ _ _ _).set 2 _ = gnL _ _ _ _ from rfl) (by simp) ?_);refine KC (KA (oP (KG rfl rfl (Kj (b:=1) om)) (oM (KC ?_))))
   exact ⟨2,⟨by decide,fun he=>absurd he hne⟩,by decide,Ka ⟨rfl,rfl,rfl,rfl,trivial⟩ mS⟩
  have h9:¬ x<2:=h9
  obtain rfl:x = 2:=by omega
  have hne:¬ s.data.toList = []:=fun he=>by have:=hx2 he; omega
  refine Kb ?_
  have e1:upd k s (K,V) = (updI k s (K,V) 2):=by unfold upd; rw [if_neg hne]
  rw [e1]
  refine ⟨[],.nil,fun a w' hr=>⟨_,_,⟨rfl,rfl⟩,rfl,hr.out mS rfl⟩⟩
theorem c_dgen (k:Nat) (hk:k = 1∨k = 2∨k = 3∨k = 4) (d n:Nat) (K V:ByteArray) (hK:K.size≤64) (hV:V.size≤64) (size:Nat) (hsize1:size≤256) (hn:n≤64) (w:World) (hH:∀ x,x∈([.blk d ⟨true,gnL k K V (n),79,(0,0)⟩]++[]:List Item)→x.holds w) (hd:([.blk d ⟨true,gnL k K V (n),79,(0,0)⟩]++[]:List Item).Pairwise Apart)  : Calls Tryz.prog 36 ([Pz d,Iz size,.string ⟨#[]⟩]:List Value).toArray w (fun e w'=>∃ (u:Value) (x':Item),(u = .tuple #[.string (genB k K V size),Iz 0]∧x' = .blk d ⟨true,gnL k (genS k K V size).1 (genS k K V size).2 (n+1),79,(0,0)⟩)∧e = .returned u∧Outcome w [.blk d ⟨true,gnL k K V (n),79,(0,0)⟩] [x'] w'):=by
  have hg:=genI_size hk K hV
  have hs8:=KCR hk
  have hq:=genQ_mul hk size
  refine KAO [.blk d ⟨true,gnL k K V (n),79,(0,0)⟩] (N:=67) (rs:=[.tmp 6,.tmp 7]) Tryz.func36 rfl Tryz.ntmps36 Tryz.results36 (Nb rfl) hH hd rfl rfl ?_
  refine KB (KA (oA ?_));refine oP (KO (v:=Iz 0) rfl) (KC (KB (LCode.block (KB (KA (oM ?_))))));refine oP (KAI u24 rfl rfl) (oA (KC ?_));refine KH rfl (KB (KA (oM ?_)));refine oP (bF rfl rfl (KAA (b:=0)) om) (oM ?_);refine oGM ?_;refine oGP (bF rfl rfl (KAb (b:=256)) om) (oP (KT rfl rfl) (oM ?_));refine oGM ?_;refine oGP (KAQ u9 rfl) (oGP (bF rfl rfl (KAb (b:=256)) dc) (oP (KT rfl rfl) (oA (KC ?_))));refine KH rfl (KB (KA (oM ?_)));refine oP (KF rfl) (oP (KE (o':=3) u79 rfl rfl rfl sz_3 dc) (oD (dL rfl (hv:=KI u3 rfl gL)) ?_));refine oP (bF rfl rfl (KAb (b:=64)) om) (oA (KC ?_));refine KH rfl (KM (KB (KB (KA (oM ?_)))));refine oP (KJ (Det.nes rfl rfl) (congrArg (fun b:Bool=>Value.bool (!b)) (eq_str_t (rfl)))) ?_;refine KC (KH rfl (KM (KB (KA (oA (KC (KB (LCode.block ?_))))))));refine Kc (α:=Nat) (fun x=>x≤genQ k size) (fun x=>⟨[(0,Pz d),(1,Iz size),(2,.string ⟨#[]⟩),(8,.string (genI k K V x).2)],[.blk d ⟨true,gnL k K (genI k K V x).1 (n),79,(0,0)⟩]⟩) (fun x=>genQ k size-x) (0) (Nat.zero_le _) (Ka ⟨rfl,rfl,rfl,rfl,trivial⟩ mS) ?_
  intro x hx
  refine KB (KB (KA (oM ?_)));refine oP (KAQ u9 rfl) (oM ?_);refine oP (KG rfl rfl (KAA)) (KC ?_)
  first|refine KQ rfl (fun h38=>?_) (fun h38=>?_)|refine KR rfl (fun h38=>?_) (fun h38=>?_)
  ·
   have h38:(genI k K V x).2.size<size:=h38
   rw [(hg x).2] at h38
   have hxq:x+1≤genQ k size:=by
     rcases Nat.lt_or_ge x (genQ k size) with h|h
     · exact h
     · exact absurd (Nat.le_trans hq.1 (Nat.mul_le_mul_right _ h)) om
   refine KM (LCode.block (KB (KA (oM (oM (oM ?_))))));refine oP (KF rfl) (oP (KE (o':=2) u79 rfl rfl rfl sz_9 dc) (oD (dL rfl (hv:=KI u9 rfl gL)) ?_));refine oS (cF rfl en_75 rfl (fun w hw=>c_dmac k hk d n K (genI k K V x).1 _ hK (by have:=(hg x).1; omega) w (show (Item.blk d ⟨false,gnL k K (genI k K V x).1 (n),79,(0,0)⟩).holds w from hw (.blk d ⟨true,gnL k K (genI k K V x).1 (n),79,(0,0)⟩) mM)) ?_);refine oP (KF rfl) (oP (KE (o':=2) u79 rfl rfl rfl sz_9 dc) ?_);refine LOps.step rfl (KZ rfl rfl rfl sz_9 mT (by show 2<4; decide) (show (gnL _ _ _ _).set 2 _ = gnL _ _ _ _ from rfl) (by simp) ?_);refine KC (KA (oM (oM ?_)));refine oP (KF rfl) (oP (KE (o':=2) u79 rfl rfl rfl sz_9 dc) (oD (dL rfl (hv:=KI u9 rfl gL)) ?_));refine oP (KAh rfl rfl (by have h1:=(hg x).2; rw [KCP hk,h1]; omega)) ?_;refine oA (KC ?_)
   exact ⟨x+1,hxq,by omega,Ka ⟨rfl,rfl,rfl,rfl,trivial⟩ mS⟩
  have h38:¬ (genI k K V x).2.size<size:=h38
  rw [(hg x).2] at h38
  obtain rfl:x = genQ k size:=by
    rcases Nat.lt_or_ge x (genQ k size) with h|h
    · have h0:=hq.2 om
      have:=Nat.mul_le_mul_right (hsize k) (show x≤genQ k size-1 by omega)
      omega
    · omega
  refine Kb (KB (KA (oM (oM ?_))));refine LOps.step rfl (Kg (first:=[]) (caps:=[]) rfl en_34 rfl (Nb rfl) sR wK (fun w hH hd=>c_dupd k hk d n K (genI k K V (genQ k size)).1 ⟨#[]⟩ hK (hg _).1 dc w hH hd) ?_)
  rintro _ _ ⟨rfl,rfl⟩
  refine KC (KB (KA (oM ?_)));refine oP (KF rfl) (oP (KE (o':=3) u79 rfl rfl rfl sz_3 dc) (oD (dL rfl (hv:=KI u3 rfl gL)) ?_));refine oP (KG rfl rfl (Kj (b:=1) om)) (oP (KF rfl) (oP (KE (o':=3) u79 rfl rfl rfl sz_3 dc) ?_));refine LOps.step rfl (KZ rfl rfl rfl sz_3 mT (by show 3<4; decide) (show (gnL _ _ _ _).set 3 _ = gnL _ _ _ _ from rfl) (by simp) ?_);refine KC (KB (KA (oM (oM ?_))));refine oP (KDB u9 rfl rfl om (by rw [(hg _).2]; exact Int.ofNat_le.2 hq.1)) ?_;refine oA ?_;refine oP (KO (v:=Iz 0) rfl) (KC (KN (⟨[_,_],.cons rfl (.cons rfl .nil),fun a w' hr=>⟨_,_,⟨rfl,rfl⟩,rfl,hr.out mS rfl⟩⟩)))
theorem c_dgenX (k:Nat) (hk:k = 1∨k = 2∨k = 3∨k = 4) (d n:Nat) (K V:ByteArray) (size:Nat) (hsize1:size≤256) (hn:64<n) (w:World) (hH:∀ x,x∈([.blk d ⟨true,gnL k K V (n),79,(0,0)⟩]++[]:List Item)→x.holds w) (hd:([.blk d ⟨true,gnL k K V (n),79,(0,0)⟩]++[]:List Item).Pairwise Apart)  : Calls Tryz.prog 36 ([Pz d,Iz size,.string ⟨#[]⟩]:List Value).toArray w (fun e w'=>∃ (u:Value) (x':Item),(u = .tuple #[.string ⟨#[]⟩,Iz 1103]∧x' = .blk d ⟨true,gnL k K V (n),79,(0,0)⟩)∧e = .returned u∧Outcome w [.blk d ⟨true,gnL k K V (n),79,(0,0)⟩] [x'] w'):=by
  refine KAO [.blk d ⟨true,gnL k K V (n),79,(0,0)⟩] (N:=67) (rs:=[.tmp 6,.tmp 7]) Tryz.func36 rfl Tryz.ntmps36 Tryz.results36 (Nb rfl) hH hd rfl rfl ?_
  refine KB (KA (oA ?_));refine oP (KO (v:=Iz 0) rfl) (KC (KB (LCode.block (KB (KA (oM ?_))))));refine oP (KAI u24 rfl rfl) (oA (KC ?_));refine KH rfl (KB (KA (oM ?_)));refine oP (bF rfl rfl (KAA (b:=0)) om) (oM ?_);refine oGM ?_;refine oGP (bF rfl rfl (KAb (b:=256)) om) (oP (KT rfl rfl) (oM ?_));refine oGM ?_;refine oGP (KAQ u9 rfl) (oGP (bF rfl rfl (KAb (b:=256)) dc) (oP (KT rfl rfl) (oA (KC ?_))));refine KH rfl (KB (KA (oM ?_)));refine oP (KF rfl) (oP (KE (o':=3) u79 rfl rfl rfl sz_3 dc) (oD (dL rfl (hv:=KI u3 rfl gL)) ?_));refine oP (bT rfl rfl (KAb (b:=64)) om) (oA (KC ?_));refine KS rfl (KB (KA (oA ?_)));refine oP (KO (v:=Iz 1103) rfl) (KC (KN (⟨[_,_],.cons rfl (.cons rfl .nil),fun a w' hr=>⟨_,_,⟨rfl,rfl⟩,rfl,hr.out mS rfl⟩⟩)))
theorem c_dmay (k:Nat) (hk:k = 1∨k = 2∨k = 3∨k = 4) (mb:Nat) (et s1 s2:ByteArray) (he1:hsize k/2≤et.size) (he2:et.size≤256) (h1:s1.size≤256) (h2:s2.size≤256) (w:World) (hm:(Item.blk mb ⟨false,[.string s1,.string s2],9,(0,0)⟩).holds w):CF Tryz.prog 32 [Iz k,.string et,.slice (some ⟨mb,0,none⟩) 2 2] w (Iz 0):=by
  have hs8:=KCR hk
  refine KV (N:=30) (rs:=[.tmp 6]) [.blk mb ⟨false,[.string s1,.string s2],9,(0,0)⟩] Tryz.func32 rfl Tryz.ntmps32 Tryz.results32 (Nb rfl) ⟨hm,trivial⟩ rfl ?_
  refine KB (KA (oP (KO (v:=Iz 0) rfl) (KC (KB (KB (KA (oM ?_)))))));refine oP (KAQ u9 rfl) (oM ?_);refine oS (cF rfl en_31 rfl (fun w hw=>c_hSize k hk w) ?_);refine oP (KG rfl rfl (KDI (b:=2) om om)) (oP (bF rfl rfl KAA om) (oM ?_));refine oGM ?_;refine oGP (KAQ u9 rfl) (oGP (bF rfl rfl (KAb (b:=256)) om) (oP (KT rfl rfl) (KC (KH rfl (KM (KB (KB (KA (oM ?_)))))))));refine oP (KBc u143 rfl) (oP (Kf (v:=Iz 0) rfl) (KC (LCode.block (Kc (α:=Nat) (fun x=>x≤2) (fun x=>⟨[(20,.slice (some ⟨mb,0,none⟩) 2 2),(21,Iz 2),(22,Iz x)],[.blk mb ⟨false,[.string s1,.string s2],9,(0,0)⟩]⟩) (fun x=>2-x) (0) (Nat.zero_le _) (Ka ⟨rfl,rfl,rfl,trivial⟩ mS) ?_))))
  intro x hx
  refine KB (KA (oP (KG rfl rfl (KAA)) (KC (KB ?_))))
  first|refine KQ rfl (fun h23=>?_) (fun h23=>?_)|refine KR rfl (fun h23=>?_) (fun h23=>?_)
  ·
   refine KM (KB (LCode.block (KB ?_)))
   obtain ⟨sv,hsv,sx⟩:∃ sv:ByteArray,sv.size≤256∧([.string s1,.string s2]:List Value)[x]? = some (.string sv):=by
     rcases (show x = 0∨x = 1 by omega) with rfl|rfl
     · exact ⟨s1,h1,rfl⟩
     · exact ⟨s2,h2,rfl⟩
   refine KA (oP (KAF u143 sz_9 rfl rfl om) (oD (dL rfl (hv:=KI u9 rfl (by exact sx))) ?_));refine oA (KC (KB (KA (oM ?_))));refine oP (KAQ u9 rfl) (oP (bF rfl rfl (KAb (b:=256)) om) (KC (KH rfl (KM (KA (oP (KG rfl rfl (Kj (b:=1) om)) (oM (KC ?_))))))))
   exact ⟨x+1,by omega,by omega,Ka ⟨rfl,rfl,rfl,trivial⟩ mS⟩
  refine Kb (KB (KA (oP (KO (v:=Iz 0) rfl) (KC (KN (eN (.cons rfl .nil) ?_))))))
  rfl
theorem c_dNew (k:Nat) (hk:k = 1∨k = 2∨k = 3∨k = 4) (et s1 s2:ByteArray) (he1:hsize k/2≤et.size) (he2:et.size≤256) (h1:s1.size≤256) (h2:s2.size≤256) (w:World) (hH:∀ x,x∈([]++[]:List Item)→x.holds w) (hd:([]++[]:List Item).Pairwise Apart)  : Calls Tryz.prog 11 ([Iz k,.string et,.string s1,.string s2]:List Value).toArray w (fun e w'=>∃ (u:Value) (x':Item),(∃ d,u = .tuple #[Pz d,Iz 0]∧x' = .blk d ⟨true,gnL k (upd k (et++s1++s2) (toS (List.replicate (hsize k) 0),toS (List.replicate (hsize k) 1))).1 (upd k (et++s1++s2) (toS (List.replicate (hsize k) 0),toS (List.replicate (hsize k) 1))).2 (1),79,(0,0)⟩)∧e = .returned u∧Outcome w [] [x'] w'):=by
  have hs8:=KCR hk
  refine KAO [] (N:=41) (rs:=[.tmp 8,.tmp 9]) Tryz.func11 rfl Tryz.ntmps11 Tryz.results11 (Nb rfl) hH hd rfl rfl ?_
  refine KB (KA (oA ?_));refine oP (KO (v:=Iz 0) rfl) (KC (KB (KA (oM ?_))));refine oS (cF rfl en_31 rfl (fun w hw=>c_hSize k hk w) ?_);refine oA (KC (KB (KB (KA (oM ?_)))));refine oP (bF rfl rfl (Ku (b:=0)) om) (KC (KH rfl (KM (KB (KB (KA (oM (oM (oM (oM ?_))))))))));refine oS (mk (KAP u143 inf_9 rfl rfl rfl rfl dc rfl) (fun b21=>?_));refine oS (cF rfl en_32 rfl (fun w hw=>c_dmay k hk b21 et s1 s2 he1 he2 h1 h2 w (show (Item.blk b21 ⟨false,[.string s1,.string s2],9,(0,0)⟩).holds w from hw (.blk b21 ⟨true,[.string s1,.string s2],9,(0,0)⟩) mM)) ?_);refine oA (KC (KB (KA (oM ?_))));refine oP (bF rfl rfl (KAn (b:=0)) dc) (KC (KH rfl (KM (KB (KA (oM (oM ?_)))))));refine oS (cF rfl en_33 rfl (fun w hw=>c_Repeat 0 _ w om) ?_);refine oM ?_;refine oS (cF rfl en_33 rfl (fun w hw=>c_Repeat 1 _ w om) ?_);refine oP (KX pl_79 zr_79 rfl (fT (r':=([Iz k]++([Value.string (toS (List.replicate (hsize k) (UInt8.toNat 0)))]++([Value.string (toS (List.replicate (hsize k) (UInt8.toNat 1)))]++([Iz 1]))))) (fS (A:=([]:List Value)) (B:=([Iz 0])) (D:=([Value.string ⟨#[]⟩]++([Value.string ⟨#[]⟩]++([Iz 0])))) (cs:=[Iz k]) (fS (A:=([Iz k])) (B:=([Value.string ⟨#[]⟩])) (D:=([Value.string ⟨#[]⟩]++([Iz 0]))) (cs:=[Value.string (toS (List.replicate (hsize k) (UInt8.toNat 0)))]) (fS (A:=([Iz k]++([Value.string (toS (List.replicate (hsize k) (UInt8.toNat 0)))]))) (B:=([Value.string ⟨#[]⟩])) (D:=([Iz 0])) (cs:=[Value.string (toS (List.replicate (hsize k) (UInt8.toNat 1)))]) (fS (A:=([Iz k]++([Value.string (toS (List.replicate (hsize k) (UInt8.toNat 0)))]++([Value.string (toS (List.replicate (hsize k) (UInt8.toNat 1)))])))) (B:=([Iz 0])) (D:=([]:List Value)) (cs:=[Iz 1]) rfl)))))) ?_
  refine oS (mB (fun b32=>?_));refine oA (KC (KB (KA (oM (oM (oM ?_))))));refine oP (KAh rfl rfl om) (oM ?_);refine oP (KAh rfl rfl (by rw [ByteArray.size_append]; omega)) ?_;refine LOps.step rfl (Kg (first:=[]) (caps:=[]) rfl en_34 rfl (Nb rfl) sR wK (fun w hH hd=>c_dupd k hk b32 1 _ _ _ (by rw [KAL,List.length_replicate]; omega) (by rw [KAL,List.length_replicate]; omega) (by simp only [ByteArray.size_append]; omega) w hH hd) ?_)
  rintro _ _ ⟨rfl,rfl⟩
  refine KC (KB (KA (oM (oA ?_))));refine oP (KO (v:=Iz 0) rfl) (KC (KN (⟨[_,_],.cons rfl (.cons rfl .nil),fun a w' hr=>⟨_,_,⟨b32,rfl,rfl⟩,rfl,hr.out mS rfl⟩⟩)))
end Go.Proofs.YtnpeokiboiclfaaGreat
set_option linter.unusedVariables false
set_option linter.unusedSimpArgs false
namespace Go.Proofs.YtnpeokiboiclfaaGreat
open Go Go.RowKit
section
variable {P:Program} {C:Ctx} {ty:TypeId} {pos:String} {aft:Array Edge} {d:Nat} {K:St→Prop} {x y:Operand} {t t2 e:TypeId}
theorem LStepW.copy {T : List (Nat × Value)} {H H' : List Item} {q o dl dc sb so sl sc : Nat} {cs0 cs cs' : List Value} {te : TypeId} {Bs : Blk} {g : Option (Nat × Bool)} (hx : evT T x = some (.slice (some ⟨q, o, none⟩) dl dc)) (hy : evT T y = some (.slice (some ⟨sb, so, none⟩) sl sc)) (ht : P.underlying t = some (.slice e)) (he : szOf P e = some 1)
    (hs:SetAt q ⟨true,cs0,te,(0,0)⟩ ⟨true,cs',te,(0,0)⟩ H H') (hm:Item.blk sb Bs∈H) (hn:cs.length = Nat.min sl dl) (hsrc:∀ j v,cs[j]? = some v→Bs.cells[so+j]? = some v) (hfit:o+cs.length≤cs0.length) (h1:KBT cs) (hc:KAZ cs0 o cs = cs') (hd:d<C.N)
    (h:K ⟨(d,.int .i64 (cs.length:Int)) :: T,H'⟩):KAX P C ⟨some d,.call { callee:=.builtin .copy,args:=#[x,y],argTypes:=#[t,t2] },ty,pos,aft,g⟩ ⟨T,H⟩ K:=by
  unfold KAX
  intro a w hr Qr
  have hb:w.heap[q]? = some (.cells cs0.toArray te (0,0)):=hr.hp _ hs.mem
  have ha:w.heap[sb]? = some (.cells Bs.cells.toArray Bs.elem Bs.frz):=hr.hp _ hm
  have hrun:=run_copy_row (P:=P) w t t2 ty e q o dl dc ⟨sb,so,none⟩ sl sc cs0.toArray te cs ht he hb hn (fun j v hj=>by
    rw [cell_at ha,List.getElem?_toArray]; exact hsrc j v hj) (by simpa using hfit) (fun v hv=>one_cell' (h1 v hv))
  unfold Oper.wp
  have hex:(execOp a.eval ⟨some d,.call { callee:=.builtin .copy,args:=#[x,y],argTypes:=#[t,t2] },ty,pos,aft,g⟩).run P w = .ok (.value (goInt cs.length)) (w.setRow q (cs0.toArray.toList.take o++cs++cs0.toArray.toList.drop (o+cs.length)).toArray):=by
    have:#[x,y].map a.eval = #[.slice (some ⟨q,o,none⟩) dl dc,.slice (some ⟨sb,so,none⟩) sl sc]:=by simp [hr.ev hx,hr.ev hy]
    simp [execOp,resolve,this,invoke,builtin,hrun]
  rw [hex]
  have e1:cs0.toArray.toList.take o++cs++cs0.toArray.toList.drop (o+cs.length) = cs':=by rw [← hc]; rfl
  rw [e1]
  have hnew:(w.setRow q cs'.toArray).heap[q]? = some (.cells cs'.toArray te (0,0)):=setRow_heap w q _ _ te _ hb
  have hoth:∀ k,k≠q→(w.setRow q cs'.toArray).heap[k]? = w.heap[k]?:=fun k hk=>setRow_other w q k _ hk
  exact ⟨_,h,(hr.setBlk (B':=⟨true,cs',te,(0,0)⟩) hs rfl hnew hoth (by simp [World.setRow]) rfl rfl rfl).put hd _⟩
theorem Det.slArrL {dd : Option Tmp} {g : Option (Nat × Bool)} {st : St} {z : Operand} {n b o k m : Nat} {kk : IntKind} (ht : P.underlying t = some (.array n e)) (he : szOf P e = some m) (hx : evT st.T x = some (.pointer (some ⟨b, o, none⟩))) (hz : evT st.T z = some (.int kk (k : Int))) (h1 : k < n) :
    Slots P C ⟨dd,.slice t x (some z) none none,ty,pos,aft,g⟩ st (.slice (some ⟨b,o+k*m,none⟩) (n-k) (n-k)):=by
  unfold Slots
  intro a w hr
  have h0:(0:Int)≤(k:Int):=Int.natCast_nonneg k
  have h1':((k:Int)≤(n:Int)):=by omega
  have h2:¬ n = k:=by omega
  simp [execOp,hr _ _ hx,hr _ _ hz,Instr.sliceAt,run_underlying ht,Instr.sureAddr,Instr.sliceBounds,run_sliceBound,h0,h1',KBA he,Addr.add,h2]
end
abbrev WB:Nat:=18446744073709551616
theorem round_fin {X c n : Nat} (hV : X + c * 2 ^ (64 * n) < 2 ^ (64 * (n + 2))) (j : Nat) :
    (if j = n+1 then (limb (setl X n ((limb X n+c)%WB)) (n+1)+(limb X n+c)/WB)%WB else limb (setl X n ((limb X n+c)%WB)) j) = limb (X+c*2^(64*n)) j:=by
  have h1:=setl_eq X n ((limb X n+c)%WB)
  have hdm:=Nat.div_add_mod (limb X n+c) WB
  generalize hX1:setl X n ((limb X n+c)%WB) = X1 at *
  generalize hs:(limb X n+c)%WB = s at *
  generalize hq:(limb X n+c)/WB = q at *
  have hK:2^(64*(n+1)) = WB*2^(64*n):=by rw [show 64*(n+1) = 64+64*n by omega,Nat.pow_add]
  have hK2:2^(64*(n+2)) = WB*2^(64*(n+1)):=by rw [show 64*(n+2) = 64+64*(n+1) by omega,Nat.pow_add]
  generalize hKn:2^(64*n) = Kn at *
  have e1:X+c*Kn = X1+q*2^(64*(n+1)):=by
    rw [hK]
    have e2:(WB*q+s)*Kn = (limb X n+c)*Kn:=by rw [hdm]
    have e3:q*(WB*Kn) = WB*q*Kn:=by rw [← Nat.mul_assoc,Nat.mul_comm q WB]
    rw [Nat.add_mul,Nat.add_mul] at e2
    rw [e3]
    omega
  have hlt:limb X1 (n+1)+q<WB:=by
    rcases Nat.lt_or_ge (limb X1 (n+1)+q) WB with h|h
    · exact h
    · exfalso
      have h2:=limb_mul_le X1 (n+1)
      have h3:=Nat.mul_le_mul_right (2^(64*(n+1))) h
      rw [Nat.add_mul] at h3
      omega
  rw [e1,limb_addl X1 q (n+1) j hlt]
  by_cases h:j = n+1
  · rw [if_pos h,if_pos h,Nat.mod_eq_of_lt hlt]
  · rw [if_neg h,if_neg h]
def MtInv (m a b i T:Nat):Prop:=T<2*m∧∃ q,T*2^(64*i) = a%2^(64*i)*b+q*m
theorem MtInv.zero {m a b:Nat} (hm:0<m):MtInv m a b 0 0:=⟨by omega,0,by simp [Nat.mod_one]⟩
theorem mt_div {m less T:Nat} (hl:(less*m+1)%WB = 0):(T+T*less%WB*m)%WB = 0:=by
  have h1:(T+T*less%WB*m)%WB = (T*(less*m+1))%WB:=by
    rw [Nat.mul_add,Nat.mul_one,Nat.add_comm (T*(less*m)),Nat.add_mod,Nat.mod_mul_mod,← Nat.add_mod,Nat.mul_assoc]
  rw [h1,Nat.mul_mod,hl,Nat.mul_zero,Nat.zero_mod]
theorem mt_low {m less T b a:Nat} (hl:(less*m+1)%WB = 0):(T+a*b+limb (T+a*b) 0*less%WB*m)%WB = 0:=by
  have h:limb (T+a*b) 0 = (T+a*b)%WB:=by unfold limb; rw [Nat.mul_zero,Nat.pow_zero,Nat.div_one]
  rw [h,Nat.mod_mul_mod]
  exact mt_div hl
theorem mt_bound {m T b x q:Nat} (hT:T<2*m) (hb:b<m) (hx:x<WB) (hq:q<WB):T+x*b+q*m<2*m*WB:=by
  have h1:x*b≤(WB-1)*m:=Nat.mul_le_mul (by omega) (Nat.le_of_lt hb)
  have h2:q*m≤(WB-1)*m:=Nat.mul_le_mul_right _ (by omega)
  have h3:(WB-1)*m = WB*m-m:=by rw [Nat.sub_mul,Nat.one_mul]
  have h4:m≤WB*m:=Nat.le_mul_of_pos_left _ (by decide)
  have h5:2*m*WB = WB*m+WB*m:=by rw [Nat.mul_comm (2*m),← Nat.mul_assoc,Nat.mul_comm WB 2,Nat.mul_assoc]; omega
  omega
theorem MtInv.step {m less a b i T : Nat} (h : MtInv m a b i T) (hb : b < m) (hl : (less * m + 1) % WB = 0) :
    MtInv m a b (i+1) ((T+limb a i*b+limb (T+limb a i*b) 0*less%WB*m)/WB):=by
  obtain ⟨h1,q,h2⟩:=h
  have hlow:=mt_low (T:=T) (b:=b) (a:=limb a i) hl
  have hbd:=mt_bound (x:=limb a i) (q:=limb (T+limb a i*b) 0*less%WB) h1 hb (limb_lt a i) (Nat.mod_lt _ (by decide))
  generalize hq:limb (T+limb a i*b) 0*less%WB = q2 at *
  have hdm:=Nat.div_add_mod (T+limb a i*b+q2*m) WB
  rw [hlow,Nat.add_zero] at hdm
  generalize hT:(T+limb a i*b+q2*m)/WB = T2 at *
  refine ⟨?_,q+q2*2^(64*i),?_⟩
  · rcases Nat.lt_or_ge T2 (2*m) with h|h
    · exact h
    · exfalso
      have:=Nat.mul_le_mul_right WB h
      rw [Nat.mul_comm T2] at this
      omega
  · have hK:2^(64*(i+1)) = WB*2^(64*i):=by rw [show 64*(i+1) = 64+64*i by omega,Nat.pow_add]
    have e1:T2*2^(64*(i+1)) = (T+limb a i*b+q2*m)*2^(64*i):=by rw [hK,← Nat.mul_assoc,Nat.mul_comm T2,hdm]
    rw [e1,mod_succ_limb,Nat.add_mul,Nat.add_mul,h2,Nat.add_mul,Nat.add_mul]
    have e2:limb a i*b*2^(64*i) = limb a i*2^(64*i)*b:=by rw [Nat.mul_assoc,Nat.mul_comm b,← Nat.mul_assoc]
    have e3:q2*m*2^(64*i) = q2*2^(64*i)*m:=by rw [Nat.mul_assoc,Nat.mul_comm m,← Nat.mul_assoc]
    rw [e2,e3]
    have e4:2^(64*i)*limb a i*b = limb a i*2^(64*i)*b:=by rw [Nat.mul_comm (2^(64*i))]
    omega
theorem odd_cop {m k:Nat} (h:m%2 = 1):Nat.Coprime m (2^k):=by
  refine Nat.Coprime.pow_right k ?_
  have h2:=Nat.gcd_dvd_left m 2
  have h3:=Nat.gcd_dvd_right m 2
  show Nat.gcd m 2 = 1
  have h4:=Nat.le_of_dvd (by decide) h3
  rcases (show Nat.gcd m 2 = 0∨Nat.gcd m 2 = 1∨Nat.gcd m 2 = 2 by omega) with e|e|e
  · rw [e] at h3; obtain ⟨c,hc⟩:=h3; omega
  · exact e
  · rw [e] at h2; obtain ⟨c,hc⟩:=h2; omega
theorem MtInv.done {m a b n T r:Nat} (h:MtInv m a b n T) (ho:m%2 = 1) (ha:a<2^(64*n)) (hr:r<m) (he:r*2^(64*n)%m = a*b%m):T = r∨T = r+m:=by
  obtain ⟨h1,q,h2⟩:=h
  rw [Nat.mod_eq_of_lt ha] at h2
  have hc:=odd_cop (k:=64*n) ho
  generalize 2^(64*n) = K at *
  have e1:T*K%m = r*K%m:=by rw [h2,Nat.add_mul_mod_self_right,he]
  have key:∀ x y,x≤y→x*K%m = y*K%m→m ∣ y-x:=by
    intro x y hxy hm
    have h3:m ∣ y*K-x*K:=Nat.dvd_of_mod_eq_zero (Nat.sub_mod_eq_zero_of_mod_eq hm.symm)
    rw [← Nat.sub_mul] at h3
    exact hc.dvd_of_dvd_mul_right h3
  rcases Nat.le_total r T with h4|h4
  · obtain ⟨c,hc2⟩:=key r T h4 e1.symm
    have:c<2:=by
      rcases Nat.lt_or_ge c 2 with h5|h5
      · exact h5
      · have:=Nat.mul_le_mul_left m h5
        omega
    rcases (show c = 0∨c = 1 by omega) with rfl|rfl
    · left; omega
    · right; omega
  · obtain ⟨c,hc2⟩:=key T r h4 e1
    rcases Nat.eq_zero_or_pos c with rfl|h5
    · left; omega
    · have:=Nat.mul_le_mul_left m h5
      omega
theorem limb_cut {n D j:Nat}:limb (D%2^(64*n)) j = if j<n then limb D j else 0:=by
  by_cases h:j<n
  · rw [if_pos h]
    obtain ⟨k,rfl⟩:∃ k,n = j+1+k:=⟨n-(j+1),by omega⟩
    unfold limb
    have e:2^(64*(j+1+k)) = 2^(64*j)*(WB*2^(64*k)):=by rw [show 64*(j+1+k) = 64*j+(64+64*k) by omega,Nat.pow_add,Nat.pow_add]
    rw [e,Nat.mod_mul_right_div_self,Nat.mod_mul_right_mod]
  · rw [if_neg h]
    exact limb_high (Nat.mod_lt _ (pow64_pos n)) (by omega)
def mtN (m x:Nat):Nat:=x*((2+(WB-m*x%WB))%WB)%WB
theorem mtN_step {m x k:Nat} (h:m*x%2^k = 1) (hk:2*k≤64) (h0:0<k):m*mtN m x%2^(2*k) = 1:=by
  have hd:2^(2*k) ∣ WB:=⟨2^(64-2*k),by rw [← Nat.pow_add,show 2*k+(64-2*k) = 64 by omega]⟩
  have hK2:2^(2*k) = 2^k*2^k:=by rw [← Nat.pow_add,Nat.two_mul]
  have hK1:2≤2^k:=by
    have:=Nat.pow_le_pow_right (n:=2) (by decide) h0
    simpa using this
  have hdm:=Nat.div_add_mod (m*x) (2^k)
  have hdw:=Nat.div_add_mod (m*x) WB
  rw [h] at hdm
  have hlt:=Nat.mod_lt (m*x) (show 0<WB by decide)
  have e0:m*mtN m x%2^(2*k) = m*x*(2+(WB-m*x%WB))%2^(2*k):=by
    unfold mtN
    generalize 2+(WB-m*x%WB) = s
    rw [Nat.mul_mod,Nat.mod_mod_of_dvd _ hd,Nat.mul_mod x,Nat.mod_mod_of_dvd _ hd,← Nat.mul_mod x,← Nat.mul_mod m,Nat.mul_assoc]
  rw [e0]
  generalize hA:m*x = A at *
  generalize hr:A%WB = r at *
  generalize hc:A/WB = c at *
  generalize ht:A/2^k = u at *
  generalize hK:2^k = K at *
  have e1:A*(2+(WB-r))+K*K*(u*u) = 1+A*(c+1)*WB:=by
    have e2:(2+(WB-r))+A = 2+(c+1)*WB:=by
      rw [Nat.add_mul,Nat.one_mul,Nat.mul_comm c]; omega
    have e3:A*(2+(WB-r))+A*A = A*2+A*(c+1)*WB:=by rw [← Nat.mul_add,e2,Nat.mul_add,Nat.mul_assoc]
    have e4:A*A+1 = A*2+K*K*(u*u):=by
      rw [← hdm]
      simp only [Nat.add_mul,Nat.mul_add,Nat.one_mul,Nat.mul_one]
      have:K*u*(K*u) = K*K*(u*u):=by rw [Nat.mul_assoc,Nat.mul_left_comm u,← Nat.mul_assoc]
      omega
    omega
  have e5:(A*(2+(WB-r))+K*K*(u*u))%(K*K) = 1%(K*K):=by
    rw [e1]
    obtain ⟨z,hz⟩:=hd
    rw [hK2] at hz
    rw [hz,Nat.mul_left_comm,Nat.add_mul_mod_self_left]
  rw [Nat.add_mul_mod_self_left] at e5
  rw [hK2,e5]
  exact Nat.mod_eq_of_lt (Nat.lt_of_lt_of_le (by decide:1<2*2) (Nat.mul_le_mul hK1 hK1))
theorem mt_start {m:Nat} (h:m%2 = 1):m*m%2^3 = 1:=by
  rw [Nat.mul_mod]
  have:m%2^3<8:=Nat.mod_lt _ (by decide)
  have h2:m%2^3%2 = 1:=by rw [Nat.mod_mod_of_dvd _ (by decide)]; exact h
  generalize m%2^3 = z at *
  rcases (show z = 1∨z = 3∨z = 5∨z = 7 by omega) with rfl|rfl|rfl|rfl <;> rfl
def mtI (m:Nat):Nat→Nat
  | 0=>m
  | i+1=>mtN m (mtI m i)
theorem mt_weak {a k j:Nat} (h:a%2^k = 1) (hj:j≤k) (h0:0<j):a%2^j = 1:=by
  have hd:2^j ∣ 2^k:=Nat.pow_dvd_pow 2 hj
  have:=congrArg (·%2^j) h
  simp only [Nat.mod_mod_of_dvd _ hd] at this
  rw [this]
  have h2:=Nat.pow_le_pow_right (n:=2) (by decide) h0
  exact Nat.mod_eq_of_lt (Nat.lt_of_lt_of_le (by decide:1<2^1) h2)
theorem mtI_five {m:Nat} (h:m%2 = 1):m*mtI m 5%WB = 1:=by
  have h0:m*mtI m 0%2^3 = 1:=mt_start h
  have h1:m*mtI m 1%2^(2*3) = 1:=mtN_step h0 (by decide) (by decide)
  have h2:m*mtI m 2%2^(2*(2*3)) = 1:=mtN_step h1 (by decide) (by decide)
  have h3:m*mtI m 3%2^(2*(2*(2*3))) = 1:=mtN_step h2 (by decide) (by decide)
  have h4:m*mtI m 4%2^(2*(2*(2*(2*3)))) = 1:=mtN_step h3 (by decide) (by decide)
  exact mtN_step (k:=32) (mt_weak h4 (by decide) (by decide)) (by decide) (by decide)
theorem mtN_lt (m x:Nat):mtN m x<WB:=Nat.mod_lt _ (by decide)
def mtL0 (m:Nat):Nat:=(WB-mtI (limb m 0) 5)%WB
theorem limb_zero (m:Nat):limb m 0 = m%WB:=by unfold limb; rw [Nat.mul_zero,Nat.pow_zero,Nat.div_one]
theorem mtL0_spec {m:Nat} (h:m%2 = 1):(mtL0 m*m+1)%WB = 0:=by
  have h0:limb m 0%2 = 1:=by rw [limb_zero,Nat.mod_mod_of_dvd _ (by decide)]; exact h
  have h5:=mtI_five h0
  have hx:mtI (limb m 0) 5<WB:=mtN_lt _ _
  unfold mtL0
  generalize mtI (limb m 0) 5 = x at *
  rw [limb_zero,Nat.mod_mul_mod] at h5
  have e1:((WB-x)%WB*m+1)%WB = ((WB-x)*m+1)%WB:=by rw [Nat.add_mod,Nat.mod_mul_mod,← Nat.add_mod]
  rw [e1]
  have e2:(WB-x)*m+m*x = WB*m:=by rw [Nat.mul_comm m x,← Nat.add_mul]; congr 1; omega
  have hdm:=Nat.div_add_mod (m*x) WB
  rw [h5] at hdm
  have e3:(WB-x)*m+1+WB*(m*x/WB) = WB*m:=by omega
  have e4:((WB-x)*m+1+WB*(m*x/WB))%WB = 0:=by rw [e3,Nat.mul_mod_right]
  rwa [Nat.add_mul_mod_self_left] at e4
def mtL (m n less rr:Nat):List Value:=natL m++([.int .i64 (n:Int),.int .u64 (less:Int)]++natL rr)
theorem KCO (m n less rr:Nat):(mtL m n less rr).length = 20:=by simp [mtL,KL]
theorem mtL_m (m n less rr:Nat) {i:Nat} (h:i<9):(mtL m n less rr)[i]? = some (.int .u64 (limb m i:Int)):=by
  unfold mtL
  rw [List.getElem?_append_left (by rw [KL]; exact h),KAY _ h]
theorem mtL_n (m n less rr:Nat):(mtL m n less rr)[9]? = some (.int .i64 (n:Int)):=by
  unfold mtL
  rw [List.getElem?_append_right (by rw [KL]; decide),KL]; rfl
theorem mtL_l (m n less rr:Nat):(mtL m n less rr)[10]? = some (.int .u64 (less:Int)):=by
  unfold mtL
  rw [List.getElem?_append_right (by rw [KL]; decide),KL]; rfl
theorem mtL_ms (m n less rr:Nat):((mtL m n less rr).drop 0).take 9 = natL m:=by
  unfold mtL
  rw [List.drop_zero,List.take_left' (KL _)]
theorem mtL_rr (m n less rr:Nat):((mtL m n less rr).drop 11).take 9 = natL rr:=by
  unfold mtL
  rw [← List.append_assoc,List.drop_left' (by simp [KL]),List.take_of_length_le (by rw [KL]; exact Nat.le_refl _)]
theorem Det.indexSK {P : Program} {C : Ctx} {st : St} {d : Option Tmp} {ty : TypeId} {pos : String} {aft : Array Edge} {g : Option (Nat × Bool)} {x y : Operand} {t e : TypeId} {s i : Nat} {k : IntKind} {b o l c : Nat} (ht : P.underlying t = some (.slice e)) (he : szOf P e = some s) (hx : evT st.T x = some (.slice (some ⟨b, o, none⟩) l c)) (hy : evT st.T y = some (.int k (i : Int))) (h1 : i < l) :
    Slots P C ⟨d,.indexAddr t x y,ty,pos,aft,g⟩ st (.pointer (some ⟨b,o+i*s,none⟩)):=by
  have:=KDL (P:=P) (C:=C) (d:=d) (ty:=ty) (pos:=pos) (aft:=aft) (g:=g) (st:=st) ht he hx hy (by omega) (by omega)
  rwa [Int.toNat_natCast] at this
def natsL (l:List Nat):List Value:=l.flatMap natL
theorem natsL_length (l:List Nat):(natsL l).length = l.length*9:=by
  induction l with
  | nil=>rfl
  | cons a l ih=>show (natL a++natsL l).length = _; rw [List.length_append,KL,ih,List.length_cons]; omega
theorem natsL_at:∀ (l:List Nat) (i:Nat),i<l.length→((natsL l).drop (0+i*9)).take 9 = natL (l.getD i 0)
  | [],i,h=>by cases h
  | a :: l,0,_=>by
    show ((natL a++natsL l).drop (0+0*9)).take 9 = natL a
    rw [Nat.zero_mul,Nat.add_zero,List.drop_zero,List.take_left' (KL a)]
  | a :: l,i+1,h=>by
    have:=natsL_at l i (by simpa using h)
    show ((natL a++natsL l).drop (0+(i+1)*9)).take 9 = natL (l.getD i 0)
    rw [show 0+(i+1)*9 = 9+(0+i*9) by omega,← List.drop_drop,List.drop_left' (KL a)]
    exact this
theorem rnd_parts {p x c : Nat} (hx : x < 18446744073709551616) (hc : c < 18446744073709551616) (h : p + x + c < 18446744073709551616 * 18446744073709551616) :
    (x+(p%18446744073709551616+c+0)%18446744073709551616+0)%18446744073709551616 = (p+x+c)%18446744073709551616∧((p/18446744073709551616+(p%18446744073709551616+c+0)/18446744073709551616)%18446744073709551616+(x+(p%18446744073709551616+c+0)%18446744073709551616+0)/18446744073709551616)%18446744073709551616 = (p+x+c)/18446744073709551616:=by
  have h1:=row_parts (p:=p) (x:=c) (c:=x) hc hx (by rw [Nat.add_right_comm]; exact h)
  have e:x+(p%18446744073709551616+c+0)%18446744073709551616+0 = (p%18446744073709551616+c+0)%18446744073709551616+x+0:=by omega
  have e2:p+x+c = p+c+x:=by omega
  have h2:(p+c+x)/18446744073709551616<18446744073709551616:=Nat.div_lt_of_lt_mul (by rw [← e2]; exact h)
  rw [e,e2]
  exact ⟨h1.1,h1.2⟩
theorem rnd_step {X c T B k a t : Nat} (h : X + c * 2 ^ (64 * k) = T + a * (B % 2 ^ (64 * k))) (ht : t = a * limb B k + limb X k + c) :
    setl X k (t%WB)+t/WB*2^(64*(k+1)) = T+a*(B%2^(64*(k+1))):=by
  have:=row_step (X:=X) (c:=c) (P:=T) (B:=B) (i:=0) (k:=k) (a:=a) (t:=t) (by rw [Nat.zero_add,Nat.mul_zero,Nat.pow_zero,Nat.mul_one]; exact h) rfl (by rw [Nat.zero_add]; exact ht)
  rw [Nat.zero_add,Nat.zero_add,Nat.mul_zero,Nat.pow_zero,Nat.mul_one] at this
  exact this
theorem limb_down (T j:Nat):limb (T/WB) j = limb T (j+1):=by
  unfold limb
  rw [Nat.div_div_eq_div_mul,show 64*(j+1) = 64+64*j by omega,Nat.pow_add]
theorem mt_room {m n V:Nat} (hm:m<2^(64*n)) (h:V<2*m*WB):V<2^(64*(n+2)):=by
  have hK:2^(64*(n+2)) = WB*WB*2^(64*n):=by rw [show 64*(n+2) = 64+64+64*n by omega,Nat.pow_add,Nat.pow_add]
  rw [hK]
  generalize 2^(64*n) = K at *
  have h1:2*m*WB≤WB*K*WB:=Nat.mul_le_mul_right _ (Nat.mul_le_mul (by decide) (Nat.le_of_lt hm))
  have h2:WB*K*WB = WB*WB*K:=by rw [Nat.mul_assoc,Nat.mul_comm K,← Nat.mul_assoc]
  omega
theorem pow_le_w9 {n:Nat} (h:n≤9):2^(64*n)≤W9:=by
  rw [Nat.pow_mul]
  exact Nat.pow_le_pow_right (n:=18446744073709551616) (by decide) h
theorem mt_end {m n T r : Nat} (hT : T = r ∨ T = r + m) (hr : r < m) (hm : m < 2 ^ (64 * n)) (hm9 : m < W9) (hn : n ≤ 9) :
    (¬ limb T n = 0∧dif (T%2^(64*n)) m%2^(64*n) = r)∨(limb T n = 0∧¬ T%2^(64*n)<m∧dif (T%2^(64*n)) m%2^(64*n) = r)∨(limb T n = 0∧T%2^(64*n)<m∧T%2^(64*n) = r):=by
  have hA9:T%2^(64*n)<W9:=Nat.lt_of_lt_of_le (Nat.mod_lt _ (pow64_pos n)) (pow_le_w9 hn)
  have hd:=dif_mod (T%2^(64*n)) m n hA9 hm9 hn
  rw [Nat.mod_mod] at hd
  have key:T = r+m→dif (T%2^(64*n)) m%2^(64*n) = r:=by
    intro h
    generalize dif (T%2^(64*n)) m = D at *
    rw [h,Nat.add_comm r] at hd
    generalize 2^(64*n) = K at *
    have h1:=Nat.div_add_mod (m+D) K
    have h2:=Nat.div_add_mod (m+r) K
    rw [hd] at h1
    have h3:(D+K*((m+r)/K))%K = (r+K*((m+D)/K))%K:=by congr 1; omega
    rw [Nat.add_mul_mod_self_left,Nat.add_mul_mod_self_left] at h3
    rw [h3,Nat.mod_eq_of_lt (by omega)]
  have hlT:T<2^(64*n)→limb T n = 0:=fun h=>limb_high h (Nat.le_refl _)
  rcases Nat.lt_or_ge T (2^(64*n)) with h|h
  · rw [Nat.mod_eq_of_lt h] at key ⊢
    rcases Nat.lt_or_ge T m with h2|h2
    · exact .inr (.inr ⟨hlT h,h2,by omega⟩)
    · exact .inr (.inl ⟨hlT h,by omega,key (by omega)⟩)
  · left
    refine ⟨?_,key (by omega)⟩
    unfold limb
    have h1:T/2^(64*n) = 1:=by
      have h2:T<2*2^(64*n):=by omega
      have h3:=(Nat.div_lt_iff_lt_mul (pow64_pos n)).2 h2
      have h4:=(Nat.le_div_iff_mul_le (pow64_pos n)).2 (show 1*2^(64*n)≤T by omega)
      omega
    rw [h1]; decide
structure MtOk (m n ls:Nat):Prop where
  odd:m%2 = 1
  three:3≤m
  lt9:m<W9
  ltn:m<2^(64*n)
  n9:n≤9
  less:(ls*m+1)%18446744073709551616 = 0
abbrev mtR (n:Nat):Nat:=2^(64*n)
theorem mt_to {m n a:Nat}:(a*mtR n%m)*mtR n%m = a*(mtR n*mtR n%m)%m:=by
  rw [Nat.mod_mul_mod,Nat.mul_mod_mod,Nat.mul_assoc]
theorem mt_mul {m n a b:Nat}:(a*b%m)*mtR n%m = (a*mtR n%m)*b%m:=by
  rw [Nat.mod_mul_mod,Nat.mod_mul_mod,Nat.mul_right_comm]
theorem copy_down {T n:Nat} (hn:n≤9) (h:T<2^(64*(n+2))) (j:Nat) (hj:j<11):(if j = 10 then 0 else if j<10 then limb T (j+1) else limb T 10) = limb (T/WB) j:=by
  rw [limb_down]
  by_cases h1:j = 10
  · rw [if_pos h1,h1]
    exact (limb_high h (by omega)).symm
  · rw [if_neg h1,if_pos (by omega)]
theorem splice_down (T:Nat):KAZ (vec .u64 11 (limb T)) 0 (vec .u64 10 (fun j=>limb T (j+1))) = vec .u64 11 (fun j=>if j<10 then limb T (j+1) else limb T 10):=by
  unfold KAZ
  rw [List.take_zero,List.nil_append,KU,Nat.zero_add]
  generalize limb T = f
  rfl
theorem splice_up {T n:Nat} (hn:n≤9):KAZ (vec .u64 9 (fun _=>0)) 0 (vec .u64 n (limb T)) = natL (T%2^(64*n)):=by
  unfold KAZ
  rw [List.take_zero,List.nil_append,KU,Nat.zero_add]
  apply List.ext_getElem
  · simp [KU,KL]; omega
  · intro i h1 h2
    have hi:i<9:=by rw [KL] at h2; exact h2
    have e2:(natL (T%2^(64*n)))[i] = .int .u64 (limb (T%2^(64*n)) i:Int):=by
      have:=KAY (T%2^(64*n)) hi
      rw [List.getElem?_eq_getElem h2] at this
      exact Option.some.inj this
    refine Eq.trans ?_ e2.symm
    rw [limb_cut]
    by_cases h:i<n
    · rw [if_pos h,List.getElem_append_left (by rw [KU]; exact h)]
      simp [vec]
    · rw [if_neg h,List.getElem_append_right (by rw [KU]; omega)]
      simp [vec]
theorem limb_up1 (r j:Nat):limb (r*WB) j = if j = 0 then 0 else limb r (j-1):=by
  by_cases h:j = 0
  · subst h; rw [if_pos rfl,limb_zero,Nat.mul_mod_left]
  · rw [if_neg h]
    obtain ⟨i,rfl⟩:∃ i,j = i+1:=⟨j-1,by omega⟩
    rw [← limb_down,Nat.mul_div_cancel _ (by decide)]; rfl
theorem wide_up {r:Nat} (hr:r<W9):KAZ (vec .u64 18 (fun _=>0)) 1 (natL r) = wideL (r*WB):=by
  have e:wideL (r*WB) = vec .u64 1 (fun _=>0)++(natL r++vec .u64 8 (fun _=>0)):=by
    unfold wideL natL
    have h0:∀ j,10≤j→limb (r*WB) j = 0:=fun j hj=>by
      rw [limb_up1,if_neg (by omega)]
      exact limb_high (KBQ hr 9 rfl) (by omega)
    apply List.ext_getElem
    · simp [KU]
    · intro i h1 h2
      have hi:i<18:=by simpa [KU] using h1
      rcases Nat.lt_or_ge i 1 with h|h
      · rw [List.getElem_append_left (by rw [KU]; exact h)]
        have:i = 0:=by omega
        subst this
        simp [vec,limb_up1]
      · rw [List.getElem_append_right (by rw [KU]; exact h)]
        rcases Nat.lt_or_ge i 10 with h3|h3
        · rw [List.getElem_append_left (by simp [KU]; omega)]
          simp only [vec,List.getElem_map,List.getElem_range,List.length_map,List.length_range]
          rw [limb_up1,if_neg (by omega)]
        · rw [List.getElem_append_right (by simp [KU]; omega)]
          simp only [vec,List.getElem_map,List.getElem_range]
          rw [h0 i h3]
  have hl:=KL r
  rw [e]
  generalize natL r = z at *
  unfold KAZ
  rw [hl]
  exact List.append_assoc (vec .u64 1 (fun _=>0)) z (vec .u64 8 (fun _=>0))
theorem two_app {a b:Value} (z:List Value):[a]++([b]++z) = [a,b]++z:=rfl
theorem mtL_build (m n:Nat):natL m++([Value.int .i64 (n:Int)]++([Value.int .u64 ((0:Nat):Int)]++vec .u64 9 (fun _=>0))) = mtL m n 0 0:=by
  have e:vec .u64 9 (fun _=>0) = natL 0:=vec_zeros 9
  rw [e]
  exact congrArg (natL m++·) (two_app (natL 0))
theorem mtI5_lt (m:Nat):mtI m 5<18446744073709551616:=mtN_lt m (mtI m 4)
theorem mtL0_neg (m:Nat):IntKind.u64.wrap (0-((mtI (limb m 0) 5:Nat):Int)) = ((mtL0 m:Nat):Int):=by
  have hx:=mtI5_lt (limb m 0)
  unfold mtL0
  generalize mtI (limb m 0) 5 = x at *
  rw [Int.zero_sub,wrap_u64]
  show _ = (((18446744073709551616-x)%18446744073709551616:Nat):Int)
  omega
theorem two_set {a b v:Value} (z:List Value):([a,b]++z).set 1 v = [a,v]++z:=rfl
theorem mtL_setl (m n less rr y:Nat):(mtL m n less rr).set 10 (.int .u64 (y:Int)) = mtL m n y rr:=by
  unfold mtL
  rw [List.set_append_right _ _ (by rw [KL]; decide),KL]
  exact congrArg (natL m++·) (two_set (natL rr))
theorem mtL_setr (m n less rr y:Nat):KAZ (mtL m n less rr) 11 (natL y) = mtL m n less y :=
  KAf (A:=natL m++[.int .i64 (n:Int),.int .u64 (less:Int)]) (B:=natL rr) (D:=[]) (by simp [mtL]) (by simp [KL]) (by rw [KL,KL]) (by simp [mtL])
theorem mtR_step (m i:Nat):mtR i%m*WB%m = mtR (i+1)%m:=by
  have e:mtR i*WB = mtR (i+1):=by
    unfold mtR
    rw [show 64*(i+1) = 64*i+64 by omega,Nat.pow_add]
  rw [Nat.mod_mul_mod,e]
theorem mtOk_of {m:Nat} (ho:m%2 = 1) (h3:3≤m) (h9:m<W9):MtOk m (nw m) (mtL0 m):=⟨ho,h3,h9,lt_nw m,nw_w9 h9,mtL0_spec ho⟩
end Go.Proofs.YtnpeokiboiclfaaGreat
set_option linter.unusedVariables false
set_option linter.unusedSimpArgs false
set_option maxRecDepth 20000
namespace Go.Proofs.YtnpeokiboiclfaaGreat
open Go Go.RowKit
theorem c_round (m n ls rr a B T:Nat) (bx bt bb:Nat) (cb:List Value) (tb:TypeId) (fb:Nat×Nat) (hn:n≤9) (ha:a<18446744073709551616) (hB:B<2^(64*n)) (hV:T+a*B<2^(64*(n+2))) (hcb:∀ k,k<9→cb[k]? = some (.int .u64 (limb B k:Int))) (w:World) (hH:∀ x,x∈([.blk bt ⟨true,vec .u64 11 (limb T),279,(0,0)⟩]++[.blk bx ⟨false,mtL m n ls rr,201,(0,0)⟩,.blk bb ⟨false,cb,tb,fb⟩]:List Item)→x.holds w) (hd:([.blk bt ⟨true,vec .u64 11 (limb T),279,(0,0)⟩]++[.blk bx ⟨false,mtL m n ls rr,201,(0,0)⟩,.blk bb ⟨false,cb,tb,fb⟩]:List Item).Pairwise Apart)  : Calls Tryz.prog 186 ([Pz bx,Pz bt,.int .u64 ((a:Nat):Int),Pz bb]:List Value).toArray w (fun e w'=>∃ (u:Value) (x':Item),(u = .tuple #[]∧x' = .blk bt ⟨true,vec .u64 11 (limb (T+a*B)),279,(0,0)⟩)∧e = .returned u∧Outcome w [.blk bt ⟨true,vec .u64 11 (limb T),279,(0,0)⟩] [x'] w'):=by
  refine KAO [.blk bt ⟨true,vec .u64 11 (limb T),279,(0,0)⟩,.blk bx ⟨false,mtL m n ls rr,201,(0,0)⟩,.blk bb ⟨false,cb,tb,fb⟩] (N:=92) (rs:=[]) Tryz.func186 rfl Tryz.ntmps186 Tryz.results186 (Nb rfl) hH hd rfl rfl ?_
  refine KB (KA (oP (KO (v:=.int .u64 ((0:Nat):Int)) rfl) (KC (KB (KB (KA (oM ?_)))))));refine oP (KF rfl) (oP (KE (o':=9) u201 rfl rfl rfl sz_3 dc) (oD (dL rfl (hv:=KI u3 rfl (by exact mtL_n _ _ _ _))) ?_));refine oP (Kf (v:=Iz 0) rfl) (KC (LCode.block (Kc (α:=Nat×Nat×Nat) (fun x=>x.1≤n∧x.2.2<18446744073709551616∧x.2.1+x.2.2*2^(64*x.1) = T+a*(B%2^(64*x.1))) (fun x=>⟨[(0,Pz bx),(1,Pz bt),(2,.int .u64 ((a:Nat):Int)),(3,Pz bb),(8,.int .u64 ((x.2.2:Nat):Int)),(17,Iz n),(18,Iz x.1)],[.blk bt ⟨true,vec .u64 11 (limb x.2.1),279,(0,0)⟩,.blk bx ⟨false,mtL m n ls rr,201,(0,0)⟩,.blk bb ⟨false,cb,tb,fb⟩]⟩) (fun x=>n-x.1) ((0,T,0)) (⟨Nat.zero_le _,(show (0:Nat)<18446744073709551616 by decide),by simp [Nat.mod_one]⟩) (Ka ⟨rfl,rfl,rfl,rfl,rfl,rfl,rfl,trivial⟩ mS) ?_)))
  rintro ⟨k,X,c⟩ ⟨hx1,hx2,hx3⟩
  dsimp only at hx1 hx2 hx3 ⊢
  refine KB (KA (oP (KG rfl rfl (KAA)) (KC (KB ?_))))
  first|refine KQ rfl (fun h19=>?_) (fun h19=>?_)|refine KR rfl (fun h19=>?_) (fun h19=>?_)
  ·
   have h19:k<n:=h19
   have hk9:k<9:=by omega
   have hlb:=limb_lt B k
   refine KM (KB (LCode.block (KB (KA (oM (oA (KC (KB (KA (oM (oM (oM ?_))))))))))));refine oP (KF rfl) (oP (KE (o':=0) u33 rfl rfl rfl sz_31 dc) (oP (KP u31 sz_30 rfl rfl om) (oD (dL rfl (hv:=KI u30 rfl (by exact hcb _ hk9))) ?_)));refine oS (cF rfl en_123 rfl (fun w hw=>c_Mul64 _ _ om om w) ?_);refine oM ?_;refine oX ?_;refine oX ?_;refine oA (oA (KC (KB (KA ?_))));refine oP (KO (v:=.int .u64 ((0:Nat):Int)) rfl) (KC (KB (KA (oM (oM ?_)))));refine oP (KCV (c:=0) ex_145 rfl rfl rfl om) (oM ?_);refine oX ?_;refine oX ?_;refine oA (oA (KC (KB (KA (oM (oM ?_))))));refine oP (KG rfl rfl (KAc)) (oA (KC (KB (rD [14] ?_))));refine aM 0 ?_;refine aM 1 ?_;refine aM 2 ?_;refine aM 3 ?_;refine aP 4 rfl (KF rfl) (aP 5 rfl (KP u279 sz_30 rfl rfl om) (aD 6 rfl (dL rfl (hv:=KI u30 rfl (by exact Ki _ _ _ om))) ?_));refine aM 7 ?_;refine aP 8 rfl (KCV (c:=0) ex_145 rfl rfl rfl om) (aM 9 ?_)
   refine aP 10 rfl (Det.extract rfl rfl) (aP 11 rfl (Det.extract rfl rfl) (aP 12 rfl (KF rfl) (aP 13 rfl (KP u279 sz_30 rfl rfl om) (aL 14 rfl (KZ rfl rfl rfl sz_30 mT lT sT (by simp) ?_)))));refine aA 15 ?_;refine aE (KA (oM (oM ?_)));refine oP (KG rfl rfl (KAc)) (oA (KC (KA ?_)));refine oP (KG rfl rfl (Kj (b:=1) om)) (oM (KC ?_))
   have hw:=row_word ha (limb_lt B k) (limb_lt X k) hx2
   have hp:=rnd_parts (limb_lt X k) hx2 hw
   have hbd:(a*limb B k+limb X k+c)/18446744073709551616<18446744073709551616:=Nat.div_lt_of_lt_mul hw
   refine ⟨(k+1,setl X k ((a*limb B k+limb X k+c)%18446744073709551616),(a*limb B k+limb X k+c)/18446744073709551616),⟨by omega,hbd,rnd_step hx3 rfl⟩,by dsimp only; omega,KAD (Sub.cells (b:=bt) (cs':=vec .u64 11 (limb (setl X k ((a*limb B k+limb X k+c)%18446744073709551616)))) mT ?_) (Ka ⟨rfl,rfl,rfl,rfl,congrArg some (vi hp.2),rfl,rfl,trivial⟩ mS)⟩
   rw [hp.1]
   exact vec_setl (Nat.mod_lt _ dc)
  have h19:¬ k<n:=h19
  obtain rfl:k = n:=by omega
  rw [Nat.mod_eq_of_lt hB] at hx3
  refine Kb (KB (KA (oP (KO (v:=.int .u64 ((0:Nat):Int)) rfl) (KC (KB (rD [20] (aM 0 ?_)))))));refine aM 1 ?_;refine aP 2 rfl (KF rfl) (aP 3 rfl (KE (o':=9) u201 rfl rfl rfl sz_3 dc) (aD 4 rfl (dL rfl (hv:=KI u3 rfl (by exact mtL_n _ _ _ _))) ?_));refine aM 5 ?_;refine aM 6 ?_;refine aP 7 rfl (KF rfl) (aP 8 rfl (KE (o':=9) u201 rfl rfl rfl sz_3 dc) (aD 9 rfl (dL rfl (hv:=KI u3 rfl (by exact mtL_n _ _ _ _))) ?_));refine aP 10 rfl (KF rfl) (aP 11 rfl (KP u279 sz_30 rfl rfl om) (aD 12 rfl (dL rfl (hv:=KI u30 rfl (by exact Ki _ _ _ om))) ?_));refine aM 13 ?_;refine aP 14 rfl (KCV (c:=0) ex_145 rfl rfl rfl om) (aM 15 ?_);refine aP 16 rfl (Det.extract rfl rfl) (aP 17 rfl (Det.extract rfl rfl) (aP 18 rfl (KF rfl) (aP 19 rfl (KP u279 sz_30 rfl rfl om) (aL 20 rfl (KZ rfl rfl rfl sz_30 mT lT sT (by simp) ?_)))))
  refine aA 21 ?_;refine aE (LCode.sub (Sub.cells (b:=bt) (cs':=vec .u64 11 (limb (setl X k ((limb X k+c)%18446744073709551616)))) mT (vec_setl (y:=(limb X k+c)%18446744073709551616) (Nat.mod_lt _ dc))) ?_);refine rD [13] (aM 0 ?_);refine aM 1 ?_;refine aP 2 rfl (KF rfl) (aP 3 rfl (KE (o':=9) u201 rfl rfl rfl sz_3 dc) (aD 4 rfl (dL rfl (hv:=KI u3 rfl (by exact mtL_n _ _ _ _))) ?_));refine aP 5 rfl (KG rfl rfl (Kj (b:=1) om)) (aP 6 rfl (KF rfl) (aP 7 rfl (KP u279 sz_30 rfl rfl om) (aD 8 rfl (dL rfl (hv:=KI u30 rfl (by exact Ki _ _ _ om))) ?_)));refine aM 9 ?_;refine aP 10 rfl (KG rfl rfl (KAc)) (aP 11 rfl (KF rfl) (aP 12 rfl (KP u279 sz_30 rfl rfl om) (aL 13 rfl (KZ rfl rfl rfl sz_30 mT lT sT (by simp) ?_))));refine aE (⟨[],.nil,fun act w' hr=>⟨_,_,⟨rfl,rfl⟩,rfl,?_⟩⟩)
  have e1:vec .u64 11 (limb (T+a*B)) = vec .u64 11 (fun j=>if j = k+1 then (limb (setl X k ((limb X k+c)%18446744073709551616)) (k+1)+(limb X k+c)/18446744073709551616)%18446744073709551616 else limb (setl X k ((limb X k+c)%18446744073709551616)) j):=Kq fun j _=>by
    rw [← hx3]
    exact (round_fin (hx3 ▸ hV) j).symm
  rw [e1]
  exact hr.out mS rfl
theorem down_at {T j:Nat} {v:Value} (h:(vec .u64 10 (fun j=>limb T (j+1)))[j]? = some v):(vec .u64 11 (limb T))[0+1*1+j]? = some v:=by
  have hj:j<10:=by
    rcases Nat.lt_or_ge j 10 with h'|h'
    · exact h'
    · rw [List.getElem?_eq_none (by rw [KU]; exact h')] at h; cases h
  rw [Ki _ _ _ hj] at h
  rw [show 0+1*1+j = j+1 by omega,Ki _ _ _ om]
  exact h
theorem up_at {T n j:Nat} {v:Value} (hn:n≤9) (h:(vec .u64 n (limb T))[j]? = some v):(vec .u64 11 (limb T))[0+j]? = some v:=by
  have hj:j<n:=by
    rcases Nat.lt_or_ge j n with h'|h'
    · exact h'
    · rw [List.getElem?_eq_none (by rw [KU]; exact h')] at h; cases h
  rw [Ki _ _ _ hj] at h
  rw [Nat.zero_add,Ki _ _ _ om]
  exact h
theorem cut_end {n D r:Nat} (hn:n≤9) (h:D%2^(64*n) = r):vec .u64 9 (fun j=>if n≤j∧j<9 then 0 else limb D j) = natL r:=by
  rw [← h]
  refine Kq fun j hj=>?_
  rw [limb_cut]
  by_cases h1:j<n
  · rw [if_pos h1,if_neg om]
  · rw [if_neg h1,if_pos om]
theorem c_Raw (m n ls rr:Nat) (hok:MtOk m n ls) (bx a b r:Nat) (ha:a<m) (hb:b<m) (hr:r<m) (he:r*mtR n%m = a*b%m) (w:World) (hX:(Item.blk bx ⟨false,mtL m n ls rr,201,(0,0)⟩).holds w):CF Tryz.prog 144 [Pz bx,natV a,natV b] w (natV r):=by
  have hpos:0<m:=by have:=hok.three; omega
  refine KV (N:=86) (rs:=[.cell 6 33]) [.blk bx ⟨false,mtL m n ls rr,201,(0,0)⟩] Tryz.func144 rfl Tryz.ntmps144 Tryz.results144 (Nb rfl) ⟨hX,trivial⟩ rfl ?_
  refine KB (KA (oS (mB (fun b4=>?_))));refine oS (mB (fun b5=>?_));refine oS (mk (KK zr_33) (fun b6=>?_));refine KC (KB (KA (oS (mk (KK zr_279) (fun b7=>?_)))));refine KC (KB (KB (KA (oM ?_))));refine oP (KF rfl) (oP (KE (o':=9) u201 rfl rfl rfl sz_3 dc) (oD (dL rfl (hv:=KI u3 rfl (by exact mtL_n _ _ _ _))) ?_));refine oP (Kf (v:=Iz 0) rfl) (KC (LCode.block (Kc (α:=Nat×Nat) (fun x=>x.1≤n∧MtInv m a b x.1 x.2) (fun x=>⟨[(0,Pz bx),(6,Pz b6),(4,Pz b4),(5,Pz b5),(7,Pz b7),(17,Iz n),(18,Iz x.1)],[.blk bx ⟨false,mtL m n ls rr,201,(0,0)⟩,.blk b7 ⟨true,vec .u64 11 (limb x.2),279,(0,0)⟩,.blk b6 ⟨true,vec .u64 9 (fun _=>0),33,(0,0)⟩,.blk b5 ⟨true,natL b,33,(0,0)⟩,.blk b4 ⟨true,natL a,33,(0,0)⟩]⟩) (fun x=>n-x.1) ((0,0)) (⟨Nat.zero_le _,MtInv.zero hpos⟩) (KAD (Sub.cells (b:=b7) (cs':=vec .u64 11 (limb 0)) mT (vec_zeros 11)) (Ka ⟨rfl,rfl,rfl,rfl,rfl,rfl,rfl,trivial⟩ mS)) ?_)))
  rintro ⟨i,T⟩ ⟨hi,hT⟩
  dsimp only at hi hT ⊢
  refine KB (KA (oP (KG rfl rfl (KAA)) (KC (KB ?_))))
  first|refine KQ rfl (fun h19=>?_) (fun h19=>?_)|refine KR rfl (fun h19=>?_) (fun h19=>?_)
  ·
   have h19:i<n:=h19
   have hi9:i<9:=by have:=hok.n9; omega
   have hbd:=mt_bound (x:=limb a i) (q:=(limb (T+limb a i*b) 0*ls%18446744073709551616)) hT.1 hb (limb_lt a i) (Nat.mod_lt _ dc)
   have hT2:=mt_room hok.ltn hbd
   have hT1:(T+limb a i*b)<2^(64*(n+2)):=Nat.lt_of_le_of_lt (Nat.le_add_right _ _) hT2
   refine KM (KB (LCode.block (KB (KA (oM (oA (KC (KB (KA (oM (oM ?_)))))))))));refine oP (KE (o':=0) u33 rfl rfl rfl sz_31 dc) (oP (KP u31 sz_30 rfl rfl om) (oD (dL rfl (hv:=KI u30 rfl (by exact KAY _ hi9))) ?_));refine LOps.step rfl (Kg (first:=[]) (caps:=[]) (X:=[.blk b7 ⟨true,vec .u64 11 (limb T),279,(0,0)⟩]) rfl en_186 rfl (Nb rfl) sR wK (fun w hH hd=>c_round m n ls rr (limb a i) b T bx b7 b5 _ _ _ hok.n9 (limb_lt a i) (Nat.lt_trans hb hok.ltn) hT1 (fun k hk=>KAY _ hk) w hH hd) ?_)
   rintro _ _ ⟨rfl,rfl⟩
   refine KC (KB (rD [] (aP 0 rfl (KP (i:=0) u279 sz_30 rfl rfl om) (aD 1 rfl (dL rfl (hv:=KI u30 rfl (by exact Ki _ _ _ om))) ?_))));refine aM 2 ?_;refine aP 3 rfl (KF rfl) (aP 4 rfl (KE (o':=10) u201 rfl rfl rfl sz_30 dc) (aD 5 rfl (dL rfl (hv:=KI u30 rfl (by exact mtL_l _ _ _ _))) ?_));refine aP 6 rfl (KG rfl rfl (KBD)) (aA 7 ?_);refine aE (KB (KA (oM (oM (oM ?_)))));refine oP (KF rfl) (oP (KE (o':=0) u201 rfl rfl rfl sz_33 dc) (LOps.step rfl (Kg (first:=[]) (caps:=[]) (X:=[.blk b7 ⟨true,vec .u64 11 (limb (T+limb a i*b)),279,(0,0)⟩]) rfl en_186 rfl (Nb rfl) sR wK (fun w hH hd=>c_round m n ls rr (limb (T+limb a i*b) 0*ls%18446744073709551616) m (T+limb a i*b) bx b7 bx _ _ _ hok.n9 (Nat.mod_lt _ dc) hok.ltn hT2 (fun k hk=>mtL_m _ _ _ _ hk) w hH hd) ?_)))
   rintro _ _ ⟨rfl,rfl⟩
   refine KC (KB (rD [2] (aP 0 rfl (KCJ u279 sz_30 rfl) (aP 1 rfl (KJ (Det.slArrL (k:=1) u279 sz_30 rfl rfl dc) rfl) ?_))));refine aL 2 rfl (LStepW.copy (cs:=vec .u64 10 (fun j=>limb ((T+limb a i*b)+(limb (T+limb a i*b) 0*ls%18446744073709551616)*m) (j+1))) (cs':=vec .u64 11 (fun j=>if j<10 then limb ((T+limb a i*b)+(limb (T+limb a i*b) 0*ls%18446744073709551616)*m) (j+1) else limb ((T+limb a i*b)+(limb (T+limb a i*b) 0*ls%18446744073709551616)*m) 10)) rfl rfl u205 sz_30 mT mM (by rw [KU]; decide) (fun j v hj=>down_at hj) (by rw [KU,KU]; decide) (vec_one _ _ _) (splice_down _) (Nb rfl) ?_);refine aE (KA (oP (KP (i:=10) u279 sz_30 rfl rfl om) ?_));refine LOps.step rfl (KZ rfl rfl rfl sz_30 mT (by rw [KU]; decide) (vec_set _ _ _ 10 0) (by simp) ?_);refine KC (KA (oP (KG rfl rfl (Kj (b:=1) om)) (oM (KC ?_))))
   exact ⟨(i+1,((T+limb a i*b)+(limb (T+limb a i*b) 0*ls%18446744073709551616)*m)/WB),⟨by dsimp only; omega,hT.step hb hok.less⟩,by dsimp only; omega,KAD (Sub.cells (b:=b7) (cs':=vec .u64 11 (limb (((T+limb a i*b)+(limb (T+limb a i*b) 0*ls%18446744073709551616)*m)/WB))) mT (Kq fun j hj=>copy_down hok.n9 hT2 j hj)) (Ka ⟨rfl,rfl,rfl,rfl,rfl,rfl,rfl,trivial⟩ mS)⟩
  have h19:¬ i<n:=h19
  obtain rfl:n = i:=by omega
  have hend:=mt_end (hT.done hok.odd (Nat.lt_trans ha hok.ltn) hr he) hr hok.ltn hok.lt9 hok.n9
  refine Kb (KB (KA (oS (mk (KK zr_33) (fun b10=>?_)))));refine KC (KB (rD [7] (aP 0 rfl (KE (o':=0) u33 rfl rfl rfl sz_31 dc) (aP 1 rfl (KCJ u31 sz_30 rfl) (aM 2 ?_)))));refine aP 3 rfl (KF rfl) (aP 4 rfl (KE (o':=9) u201 rfl rfl rfl sz_3 dc) (aO 5 rfl (LStep.det (dL rfl (hv:=KI u3 rfl (by exact mtL_n _ _ _ _))) (Nb rfl) ?_)));refine aP 6 rfl (Det.slArrH u279 sz_30 rfl rfl om (by have:=hok.n9; omega)) ?_;refine aL 7 rfl (LStepW.copy (cs:=vec .u64 n (limb T)) (cs':=natL (T%2^(64*n))) rfl rfl u205 sz_30 mT mM (by rw [KU]; exact (Nat.min_eq_left hok.n9).symm) (fun j v hj=>up_at hok.n9 hj) (by rw [KU,KU]; have:=hok.n9; omega) (vec_one _ _ _) (splice_up hok.n9) (Nb rfl) ?_);refine aE (KB (KB (rD [10] (aD 0 rfl dNa ?_))));refine aM 1 ?_;refine aP 2 rfl (KF rfl) (aP 3 rfl (KE (o':=0) u201 rfl rfl rfl sz_33 dc) ?_)
  refine aD 4 rfl (dL rfl (hv:=by exact KBH u33 rfl sz_33 (mtL_ms _ _ _ _) (by rw [KCO]; decide))) ?_;refine KAR ?_;refine Kl 9 rfl (.inl zr_33) (Nb rfl) rfl rfl rfl ?_;refine LAnyP.step 5 rfl rfl rfl (Nb rfl) kr rfl (Ke (first:=[]) rfl en_79 rfl (fun w hw=>c_nat_Sub _ m (Nat.lt_of_lt_of_le (Nat.mod_lt _ (pow64_pos n)) (pow_le_w9 hok.n9)) hok.lt9 w)) ?_
  rintro _ _ ⟨rfl,rfl⟩
  refine pM 6 ?_;refine pP 7 rfl (Det.extract rfl rfl) (pP 8 rfl (Det.extract rfl rfl) (pE (fun b11=>?_)));refine Kv ?_;refine aL 10 rfl (sA rfl rfl sz_33 mO (hl:=mL) (h:=?_));refine aA 11 ?_;refine aE (KB ?_)
  rcases hend with ⟨h1,h2⟩|⟨h1,h2,h3⟩|⟨h1,h2,h3⟩
  ·
   refine KA (oM ?_);refine oP (KF rfl) (oP (KE (o':=9) u201 rfl rfl rfl sz_3 dc) (oD (dL rfl (hv:=KI u3 rfl (by exact mtL_n _ _ _ _))) ?_));refine oP (KP u279 sz_30 rfl rfl (by have:=hok.n9; omega)) ?_;refine oD (dL rfl (hv:=KI u30 rfl (by exact Ki _ _ _ (by have:=hok.n9; omega)))) ?_;refine oP (bT rfl rfl (KAn (b:=0)) (h1)) (oM ?_);refine oK (oK (oP (Kd rfl rfl) (KC (KS rfl (KB (KB (KA (oM ?_))))))));refine oP (KF rfl) (oP (KE (o':=9) u201 rfl rfl rfl sz_3 dc) (oD (dL rfl (hv:=KI u3 rfl (by exact mtL_n _ _ _ _))) ?_));refine oA (KC (LCode.block ?_));refine Kc (α:=Nat) (fun x=>n≤x∧x≤9) (fun x=>⟨[(0,Pz bx),(6,Pz b6),(11,Pz b11),(13,Iz x)],[.blk bx ⟨false,mtL m n ls rr,201,(0,0)⟩,.blk b11 ⟨true,vec .u64 9 (fun j=>if n≤j∧j<x then 0 else limb (dif (T%2^(64*n)) m) j),33,(0,0)⟩,.blk b6 ⟨true,vec .u64 9 (fun _=>0),33,(0,0)⟩]⟩) (fun x=>9-x) (n) (⟨Nat.le_refl _,hok.n9⟩) (KAD (Sub.cells (b:=b11) (cs':=vec .u64 9 (fun j=>if n≤j∧j<n then 0 else limb (dif (T%2^(64*n)) m) j)) mT (Kq fun j hj=>(if_neg om).symm)) (Ka ⟨rfl,rfl,rfl,rfl,trivial⟩ mS)) ?_
   rintro x ⟨hx1,hx2⟩
   refine KB (KB (KA (oM ?_)));refine oP (KG rfl rfl (KAA (b:=9))) (KC ?_)
   first|refine KQ rfl (fun h78=>?_) (fun h78=>?_)|refine KR rfl (fun h78=>?_) (fun h78=>?_)
   ·
    have h78:x<9:=h78
    refine KM (KB (LCode.block (KA (oM ?_))));refine oP (KE (o':=0) u33 rfl rfl rfl sz_31 dc) (oP (KP u31 sz_30 rfl rfl om) (LOps.step rfl (KZ rfl rfl rfl sz_30 mT lT sT (by simp) ?_)));refine KC (KA (oM ?_));refine oP (KG rfl rfl (Kj (b:=1) om)) (oA (KC ?_))
    exact ⟨x+1,⟨by omega,by omega⟩,by omega,KAD (Sub.cells (b:=b11) (cs':=vec .u64 9 (fun j=>if n≤j∧j<(x+1) then 0 else limb (dif (T%2^(64*n)) m) j)) mT (Kq fun j hj=>by
      by_cases h1:j = x
      · rw [if_pos h1,if_pos om]
      · rw [if_neg h1]
        by_cases h2:n≤j∧j<x
        · rw [if_pos h2,if_pos om]
        · rw [if_neg h2,if_neg om])) (Ka ⟨rfl,rfl,rfl,rfl,trivial⟩ mS)⟩
   have h78:¬ x<9:=h78
   obtain rfl:x = 9:=by omega
   refine Kb (KB (LCode.sub (Sub.cells (b:=b11) (cs':=natL r) mT (cut_end hok.n9 h2)) ?_));refine KA (oD dNa ?_);refine oT rfl rfl sz_33 ?_;refine KC (KN (eN (.cons ⟨_,_,_,rfl,mM,by exact KD u33 rfl sz_33⟩ .nil) ?_))
   rfl
  ·
   refine KA (oM ?_);refine oP (KF rfl) (oP (KE (o':=9) u201 rfl rfl rfl sz_3 dc) (oD (dL rfl (hv:=KI u3 rfl (by exact mtL_n _ _ _ _))) ?_));refine oP (KP u279 sz_30 rfl rfl (by have:=hok.n9; omega)) ?_;refine oD (dL rfl (hv:=KI u30 rfl (by exact Ki _ _ _ (by have:=hok.n9; omega)))) ?_;refine oP (bF rfl rfl (KAn (b:=0)) (fun h=>h h1)) (oM ?_);refine oGM ?_;refine oGP (KJ (KAH rfl) (show _ = Value.bool true by rw [decide_eq_false h2]; rfl)) ?_;refine oP (KT rfl rfl) (KC (KS rfl (KB (KB (KA (oM ?_))))));refine oP (KF rfl) (oP (KE (o':=9) u201 rfl rfl rfl sz_3 dc) (oD (dL rfl (hv:=KI u3 rfl (by exact mtL_n _ _ _ _))) ?_));refine oA (KC (LCode.block ?_));refine Kc (α:=Nat) (fun x=>n≤x∧x≤9) (fun x=>⟨[(0,Pz bx),(6,Pz b6),(11,Pz b11),(13,Iz x)],[.blk bx ⟨false,mtL m n ls rr,201,(0,0)⟩,.blk b11 ⟨true,vec .u64 9 (fun j=>if n≤j∧j<x then 0 else limb (dif (T%2^(64*n)) m) j),33,(0,0)⟩,.blk b6 ⟨true,vec .u64 9 (fun _=>0),33,(0,0)⟩]⟩) (fun x=>9-x) (n) (⟨Nat.le_refl _,hok.n9⟩) (KAD (Sub.cells (b:=b11) (cs':=vec .u64 9 (fun j=>if n≤j∧j<n then 0 else limb (dif (T%2^(64*n)) m) j)) mT (Kq fun j hj=>(if_neg om).symm)) (Ka ⟨rfl,rfl,rfl,rfl,trivial⟩ mS)) ?_
   rintro x ⟨hx1,hx2⟩
   refine KB (KB (KA (oM ?_)));refine oP (KG rfl rfl (KAA (b:=9))) (KC ?_)
   first|refine KQ rfl (fun h78=>?_) (fun h78=>?_)|refine KR rfl (fun h78=>?_) (fun h78=>?_)
   ·
    have h78:x<9:=h78
    refine KM (KB (LCode.block (KA (oM ?_))));refine oP (KE (o':=0) u33 rfl rfl rfl sz_31 dc) (oP (KP u31 sz_30 rfl rfl om) (LOps.step rfl (KZ rfl rfl rfl sz_30 mT lT sT (by simp) ?_)));refine KC (KA (oM ?_));refine oP (KG rfl rfl (Kj (b:=1) om)) (oA (KC ?_))
    exact ⟨x+1,⟨by omega,by omega⟩,by omega,KAD (Sub.cells (b:=b11) (cs':=vec .u64 9 (fun j=>if n≤j∧j<(x+1) then 0 else limb (dif (T%2^(64*n)) m) j)) mT (Kq fun j hj=>by
      by_cases h1:j = x
      · rw [if_pos h1,if_pos om]
      · rw [if_neg h1]
        by_cases h2:n≤j∧j<x
        · rw [if_pos h2,if_pos om]
        · rw [if_neg h2,if_neg om])) (Ka ⟨rfl,rfl,rfl,rfl,trivial⟩ mS)⟩
   have h78:¬ x<9:=h78
   obtain rfl:x = 9:=by omega
   refine Kb (KB ?_)
   have h2:=h3
   refine LCode.sub (Sub.cells (b:=b11) (cs':=natL r) mT (cut_end hok.n9 h2)) ?_;refine KA (oD dNa ?_);refine oT rfl rfl sz_33 ?_;refine KC (KN (eN (.cons ⟨_,_,_,rfl,mM,by exact KD u33 rfl sz_33⟩ .nil) ?_))
   rfl
  refine KA (oM ?_);refine oP (KF rfl) (oP (KE (o':=9) u201 rfl rfl rfl sz_3 dc) (oD (dL rfl (hv:=KI u3 rfl (by exact mtL_n _ _ _ _))) ?_));refine oP (KP u279 sz_30 rfl rfl (by have:=hok.n9; omega)) ?_;refine oD (dL rfl (hv:=KI u30 rfl (by exact Ki _ _ _ (by have:=hok.n9; omega)))) ?_;refine oP (bF rfl rfl (KAn (b:=0)) (fun h=>h h1)) (oM ?_);refine oGM ?_;refine oGP (KJ (KAH rfl) (show _ = Value.bool false by rw [decide_eq_true h2]; rfl)) ?_;refine oP (KT rfl rfl) (KC (KH rfl (KM (KB ?_))))
  rw [h3]
  refine KA (oD dNa ?_);refine oT rfl rfl sz_33 ?_;refine KC (KN (eN (.cons ⟨_,_,_,rfl,mM,by exact KD u33 rfl sz_33⟩ .nil) ?_))
  rfl
theorem c_may (m n ls rr:Nat) (bx bl:Nat) (l:List Nat) (hm:m<W9) (hl:∀ i,i<l.length→l.getD i 0<m) (hln:l.length<100) (w:World) (hX:(Item.blk bx ⟨false,mtL m n ls rr,201,(0,0)⟩).holds w) (hL:(Item.blk bl ⟨false,natsL l,33,(0,0)⟩).holds w):CF Tryz.prog 143 [Pz bx,.slice (some ⟨bl,0,none⟩) l.length l.length] w (Iz 0):=by
  refine KV (N:=23) (rs:=[.tmp 4]) [.blk bx ⟨false,mtL m n ls rr,201,(0,0)⟩,.blk bl ⟨false,natsL l,33,(0,0)⟩] Tryz.func143 rfl Tryz.ntmps143 Tryz.results143 (Nb rfl) ⟨hX,hL,trivial⟩ rfl ?_
  refine KB (KA (oP (KO (v:=Iz 0) rfl) (KC (KB (KB (KA (oM ?_)))))));refine oP (KAI u88 rfl rfl) (KC (KH rfl (KM (KB (KB (KA (oM ?_)))))));refine oP (KBc u278 rfl) (oP (Kf (v:=Iz 0) rfl) (KC (LCode.block (Kc (α:=Nat) (fun x=>x≤l.length) (fun x=>⟨[(0,Pz bx),(9,.slice (some ⟨bl,0,none⟩) l.length l.length),(10,Iz l.length),(11,Iz x)],[.blk bx ⟨false,mtL m n ls rr,201,(0,0)⟩,.blk bl ⟨false,natsL l,33,(0,0)⟩]⟩) (fun x=>l.length-x) (0) (Nat.zero_le _) (Ka ⟨rfl,rfl,rfl,rfl,trivial⟩ mS) ?_))))
  intro x hx
  refine KB (KA (oP (KG rfl rfl (KAA)) (KC (KB ?_))))
  first|refine KQ rfl (fun h12=>?_) (fun h12=>?_)|refine KR rfl (fun h12=>?_) (fun h12=>?_)
  ·
   have h12:x<l.length:=h12
   have hlx:=hl x h12
   refine KM (KB (LCode.block (KB (KA (oP (Det.indexSK u278 sz_33 rfl rfl h12) ?_)))));refine oD (dL rfl (hv:=by exact KBH u33 rfl sz_33 (natsL_at l x h12) (by rw [natsL_length]; omega))) ?_;refine oS (mk (KK zr_33) (fun b6=>?_));refine oT rfl rfl sz_33 ?_;refine KC (KB (rD [] (aD 0 rfl dNa ?_)));refine aM 1 ?_;refine aP 2 rfl (KF rfl) (aP 3 rfl (KE (o':=0) u201 rfl rfl rfl sz_33 dc) ?_);refine aD 4 rfl (dL rfl (hv:=by exact KBH u33 rfl sz_33 (mtL_ms _ _ _ _) (by rw [KCO]; decide))) ?_;refine aO 5 rfl (cF rfl en_46 rfl (fun w hw=>KAz (l.getD x 0) m (Nat.lt_trans hlx hm) hm w) ?_);refine aP 6 rfl (KG (v:=.bool false) rfl rfl (by rw [show cmpI (l.getD x 0) m = -1 from if_pos hlx]; rfl)) ?_;refine aE (KH rfl (KM (KA (oP (KG rfl rfl (Kj (b:=1) om)) (oM (KC ?_))))))
   exact ⟨x+1,by omega,by omega,Ka ⟨rfl,rfl,rfl,rfl,trivial⟩ mS⟩
  refine Kb (KB (KA (oP (KO (v:=Iz 0) rfl) (KC (KN (eN (.cons rfl .nil) ?_))))))
  rfl
theorem inf_nat:infOf Tryz.prog 33 = some (.agg (vec .u64 9 (fun _=>0):List Value).toArray,9,72):=kr
theorem row_nat1:((Array.range (1*9)).map fun i=>(Value.agg (vec .u64 9 (fun _=>0):List Value).toArray).cells[i%(Value.agg (vec .u64 9 (fun _=>0):List Value).toArray).cells.size]!) = (vec .u64 9 (fun _=>0):List Value).toArray:=kr
theorem row_nat2:((Array.range (2*9)).map fun i=>(Value.agg (vec .u64 9 (fun _=>0):List Value).toArray).cells[i%(Value.agg (vec .u64 9 (fun _=>0):List Value).toArray).cells.size]!) = (vec .u64 9 (fun _=>0)++vec .u64 9 (fun _=>0):List Value).toArray:=kr
theorem fill_nat1 (X:Nat):fillL ((List.range 1).map fun i=>(i*9,9)) (vec .u64 9 (fun _=>0)) [(0,natV X)] = some (natsL [X]):=by
  refine (KAK (A:=[]) (B:=vec .u64 9 (fun _=>0)) (D:=[]) (cs:=natL X) rfl rfl (KL _) (by simp) rfl (by simp [KU]) rfl).trans ?_
  simp [natsL]
theorem fill_nat2 (X Y:Nat):fillL ((List.range 2).map fun i=>(i*9,9)) (vec .u64 9 (fun _=>0)++vec .u64 9 (fun _=>0)) [(0,natV X),(1,natV Y)] = some (natsL [X,Y]):=by
  refine KAK (A:=[]) (B:=vec .u64 9 (fun _=>0)) (D:=vec .u64 9 (fun _=>0)) (cs:=natL X) rfl rfl (KL _) (by simp only [List.nil_append]) rfl (by simp [KU]) ?_;refine (KAK (A:=natL X) (B:=vec .u64 9 (fun _=>0)) (D:=[]) (cs:=natL Y) rfl rfl (KL _) (by simp only [List.nil_append,List.append_nil]) (KL _) (by simp [KU]) rfl).trans ?_
  simp [natsL]
theorem oneN_lt {m a:Nat} (h:a<m) (i:Nat) (hi:i < [a].length):[a].getD i 0<m:=by
  have:i = 0:=by simpa using hi
  subst this; exact h
theorem twoN_lt {m a b:Nat} (h:a<m) (k:b<m) (i:Nat) (hi:i < [a,b].length):[a,b].getD i 0<m:=by
  have h2:i<2:=by simpa using hi
  rcases (show i = 0∨i = 1 by omega) with rfl|rfl
  · exact h
  · exact k
theorem c_mTo (m n ls:Nat) (hok:MtOk m n ls) (bx a:Nat) (ha:a<m) (w:World) (hX:(Item.blk bx ⟨false,mtL m n ls (mtR n*mtR n%m),201,(0,0)⟩).holds w):CF Tryz.prog 89 [Pz bx,natV a] w (.tuple #[natV (a*mtR n%m),Iz 0]):=by
  have hpos:0<m:=by have:=hok.three; omega
  refine KV (N:=22) (rs:=[.cell 4 33,.tmp 5]) [.blk bx ⟨false,mtL m n ls (mtR n*mtR n%m),201,(0,0)⟩] Tryz.func89 rfl Tryz.ntmps89 Tryz.results89 (Nb rfl) ⟨hX,trivial⟩ rfl ?_
  refine KB (KA (oS (mB (fun b3=>?_))));refine oS (mk (KK zr_33) (fun b4=>?_));refine oP (KO (v:=Iz 0) rfl) (KC (KB (KB (KA (oM ?_)))));refine oD dNa ?_;refine oS (mk (KCH u278 inf_nat dc row_nat1 rfl (fill_nat1 a) (fun h=>by cases h)) (fun b9=>?_));refine oS (cF rfl en_143 rfl (fun w hw=>c_may m n ls (mtR n*mtR n%m) bx b9 [a] hok.lt9 (oneN_lt ha) (show 1<100 by decide) w (mC hw) (show (Item.blk b9 ⟨false,natsL [a],33,(0,0)⟩).holds w from hw (.blk b9 ⟨true,natsL [a],33,(0,0)⟩) mM)) ?_);refine oA (KC (KB (KA (oM ?_))));refine oP (bF rfl rfl (KAn (b:=0)) dc) (KC (KH rfl (KM (KB (rD [7] (aM 0 ?_))))));refine aD 1 rfl dNa ?_;refine aM 2 ?_;refine aP 3 rfl (KF rfl) (aP 4 rfl (KE (o':=11) u201 rfl rfl rfl sz_33 dc) ?_);refine aD 5 rfl (dL rfl (hv:=by exact KBH u33 rfl sz_33 (mtL_rr _ _ _ _) (by rw [KCO]; decide))) ?_
  refine aO 6 rfl (cF rfl en_144 rfl (fun w hw=>c_Raw m n ls (mtR n*mtR n%m) hok bx a (mtR n*mtR n%m) (a*mtR n%m) ha (Nat.mod_lt _ hpos) (Nat.mod_lt _ hpos) mt_to w (mC hw)) ?_);refine aL 7 rfl (sA rfl rfl sz_33 mO (hl:=mL) (h:=?_));refine aP 8 rfl (KO (v:=Iz 0) rfl) (aE (KN (eN (.cons ⟨_,_,_,rfl,mM,by exact KD u33 rfl sz_33⟩ (.cons rfl .nil)) ?_)))
  rfl
theorem c_mtMul (m n ls:Nat) (hok:MtOk m n ls) (bx a b r:Nat) (ha:a<m) (hb:b<m) (hr:r<m) (he:r*mtR n%m = a*b%m) (w:World) (hX:(Item.blk bx ⟨false,mtL m n ls (mtR n*mtR n%m),201,(0,0)⟩).holds w):CF Tryz.prog 90 [Pz bx,natV a,natV b] w (.tuple #[natV r,Iz 0]):=by
  have hpos:0<m:=by have:=hok.three; omega
  refine KV (N:=22) (rs:=[.cell 6 33,.tmp 7]) [.blk bx ⟨false,mtL m n ls (mtR n*mtR n%m),201,(0,0)⟩] Tryz.func90 rfl Tryz.ntmps90 Tryz.results90 (Nb rfl) ⟨hX,trivial⟩ rfl ?_
  refine KB (KA (oS (mB (fun b4=>?_))));refine oS (mB (fun b5=>?_));refine oS (mk (KK zr_33) (fun b6=>?_));refine oP (KO (v:=Iz 0) rfl) (KC (KB (KB (KA (oM ?_)))));refine oD dNa ?_;refine oD dNa ?_;refine oS (mk (KCH u278 inf_nat dc row_nat2 rfl (fill_nat2 a b) (fun h=>by cases h)) (fun b12=>?_));refine oS (cF rfl en_143 rfl (fun w hw=>c_may m n ls (mtR n*mtR n%m) bx b12 [a,b] hok.lt9 (twoN_lt ha hb) (show 2<100 by decide) w (mC hw) (show (Item.blk b12 ⟨false,natsL [a,b],33,(0,0)⟩).holds w from hw (.blk b12 ⟨true,natsL [a,b],33,(0,0)⟩) mM)) ?_);refine oA (KC (KB (KA (oM ?_))));refine oP (bF rfl rfl (KAn (b:=0)) dc) (KC (KH rfl (KM (KB (KA (oM ?_))))));refine oD dNa ?_;refine oD dNa ?_
  refine oS (cF rfl en_144 rfl (fun w hw=>c_Raw m n ls (mtR n*mtR n%m) hok bx a b r ha hb hr he w (mC hw)) ?_);refine oT rfl rfl sz_33 ?_;refine oP (KO (v:=Iz 0) rfl) (KC (KN (eN (.cons ⟨_,_,_,rfl,mM,by exact KD u33 rfl sz_33⟩ (.cons rfl .nil)) ?_)))
  rfl
theorem c_mFrom (m n ls:Nat) (hok:MtOk m n ls) (bx a r:Nat) (ha:a<m) (hr:r<m) (he:r*mtR n%m = a) (w:World) (hX:(Item.blk bx ⟨false,mtL m n ls (mtR n*mtR n%m),201,(0,0)⟩).holds w):CF Tryz.prog 93 [Pz bx,natV a] w (.tuple #[natV r,Iz 0]):=by
  have hpos:0<m:=by have:=hok.three; omega
  refine KV (N:=19) (rs:=[.cell 4 33,.tmp 5]) [.blk bx ⟨false,mtL m n ls (mtR n*mtR n%m),201,(0,0)⟩] Tryz.func93 rfl Tryz.ntmps93 Tryz.results93 (Nb rfl) ⟨hX,trivial⟩ rfl ?_
  refine KB (KA (oS (mB (fun b3=>?_))));refine oS (mk (KK zr_33) (fun b4=>?_));refine oP (KO (v:=Iz 0) rfl) (KC (KB (KB (KA (oM ?_)))));refine oD dNa ?_;refine oS (mk (KCH u278 inf_nat dc row_nat1 rfl (fill_nat1 a) (fun h=>by cases h)) (fun b9=>?_));refine oS (cF rfl en_143 rfl (fun w hw=>c_may m n ls (mtR n*mtR n%m) bx b9 [a] hok.lt9 (oneN_lt ha) (show 1<100 by decide) w (mC hw) (show (Item.blk b9 ⟨false,natsL [a],33,(0,0)⟩).holds w from hw (.blk b9 ⟨true,natsL [a],33,(0,0)⟩) mM)) ?_);refine oA (KC (KB (KA (oM ?_))));refine oP (bF rfl rfl (KAn (b:=0)) dc) (KC (KH rfl (KM (KB (rD [4] (aM 0 ?_))))));refine aD 1 rfl dNa ?_;refine aO 2 rfl (cF rfl en_80 rfl (fun w hw=>KAU 1 dc w) ?_);refine aO 3 rfl (cF rfl en_144 rfl (fun w hw=>c_Raw m n ls (mtR n*mtR n%m) hok bx a 1 r ha (by have:=hok.three; omega) hr (by rw [he,Nat.mul_one,Nat.mod_eq_of_lt ha]) w (mC hw)) ?_)
  refine aL 4 rfl (sA rfl rfl sz_33 mO (hl:=mL) (h:=?_));refine aP 5 rfl (KO (v:=Iz 0) rfl) (aE (KN (eN (.cons ⟨_,_,_,rfl,mM,by exact KD u33 rfl sz_33⟩ (.cons rfl .nil)) ?_)))
  rfl
theorem c_mInvR (m n ls:Nat) (hok:MtOk m n ls) (bx a y:Nat) (ha:a<m) (hy:y<m) (he:a*y%m = 1) (w:World) (hX:(Item.blk bx ⟨false,mtL m n ls (mtR n*mtR n%m),201,(0,0)⟩).holds w):CF Tryz.prog 92 [Pz bx,natV a] w (.tuple #[natV (y*mtR n%m*mtR n%m),Iz 0]):=by
  have hpos:0<m:=by have:=hok.three; omega
  have hinv:∀ w:World,CF Tryz.prog 146 [natV a,natV m] w (.tuple #[natV y,Iz 0]):=by
    intro w
    have h:=c_Inverse a m om w (Nat.lt_trans ha hok.lt9) hok.lt9
    rw [invM_eq hy he,if_pos ⟨gcd_of_inv he,by have:=hok.three; omega⟩] at h
    exact h
  refine KV (N:=43) (rs:=[.cell 4 33,.tmp 5]) [.blk bx ⟨false,mtL m n ls (mtR n*mtR n%m),201,(0,0)⟩] Tryz.func92 rfl Tryz.ntmps92 Tryz.results92 (Nb rfl) ⟨hX,trivial⟩ rfl ?_
  refine KB (KA (oS (mB (fun b3=>?_))));refine oS (mk (KK zr_33) (fun b4=>?_));refine oP (KO (v:=Iz 0) rfl) (KC (KB (KB (KA (oM ?_)))));refine oD dNa ?_;refine oS (mk (KCH u278 inf_nat dc row_nat1 rfl (fill_nat1 a) (fun h=>by cases h)) (fun b11=>?_));refine oS (cF rfl en_143 rfl (fun w hw=>c_may m n ls (mtR n*mtR n%m) bx b11 [a] hok.lt9 (oneN_lt ha) (show 1<100 by decide) w (mC hw) (show (Item.blk b11 ⟨false,natsL [a],33,(0,0)⟩).holds w from hw (.blk b11 ⟨true,natsL [a],33,(0,0)⟩) mM)) ?_);refine oA (KC (KB (KA (oM ?_))));refine oP (bF rfl rfl (KAn (b:=0)) dc) (KC (KH rfl (KM (KB (rD [10] (aD 0 rfl dNa ?_))))));refine aM 1 ?_;refine aP 2 rfl (KF rfl) (aP 3 rfl (KE (o':=0) u201 rfl rfl rfl sz_33 dc) ?_);refine aD 4 rfl (dL rfl (hv:=by exact KBH u33 rfl sz_33 (mtL_ms _ _ _ _) (by rw [KCO]; decide))) ?_
  refine KAR ?_;refine Kl 9 rfl (.inl zr_33) (Nb rfl) rfl rfl rfl ?_;refine LAnyP.step 5 rfl rfl rfl (Nb rfl) kr rfl (Ke (first:=[]) rfl en_146 rfl (fun w hw=>hinv w)) ?_
  rintro _ _ ⟨rfl,rfl⟩
  refine pM 6 ?_;refine pP 7 rfl (Det.extract rfl rfl) (pP 8 rfl (Det.extract rfl rfl) (pE (fun b7=>?_)));refine Kv ?_;refine aL 10 rfl (sA rfl rfl sz_33 mO (hl:=mL) (h:=?_));refine aA 11 ?_;refine aE (KB (KB (KA (oM ?_))));refine oP (bF rfl rfl (KAn (b:=0)) dc) (KC (KH rfl (KM (KB (rD [13] (aM 0 ?_))))));refine aM 1 ?_;refine aD 2 rfl dNa ?_;refine aM 3 ?_;refine aP 4 rfl (KF rfl) (aP 5 rfl (KE (o':=11) u201 rfl rfl rfl sz_33 dc) ?_);refine aD 6 rfl (dL rfl (hv:=by exact KBH u33 rfl sz_33 (mtL_rr _ _ _ _) (by rw [KCO]; decide))) ?_;refine aM 8 ?_;refine aP 9 rfl (KF rfl) (aP 10 rfl (KE (o':=11) u201 rfl rfl rfl sz_33 dc) ?_);refine aD 11 rfl (dL rfl (hv:=by exact KBH u33 rfl sz_33 (mtL_rr _ _ _ _) (by rw [KCO]; decide))) ?_;refine aO 7 rfl (cF rfl en_144 rfl (fun w hw=>c_Raw m n ls (mtR n*mtR n%m) hok bx y (mtR n*mtR n%m) (y*mtR n%m) hy (Nat.mod_lt _ hpos) (Nat.mod_lt _ hpos) mt_to w (mC hw)) ?_)
  refine aO 12 rfl (cF rfl en_144 rfl (fun w hw=>c_Raw m n ls (mtR n*mtR n%m) hok bx (y*mtR n%m) (mtR n*mtR n%m) (y*mtR n%m*mtR n%m) (Nat.mod_lt _ hpos) (Nat.mod_lt _ hpos) (Nat.mod_lt _ hpos) mt_to w (mC hw)) ?_);refine aL 13 rfl (sA rfl rfl sz_33 mO (hl:=mL) (h:=?_));refine aP 14 rfl (KO (v:=Iz 0) rfl) (aE (KN (eN (.cons ⟨_,_,_,rfl,mM,by exact KD u33 rfl sz_33⟩ (.cons rfl .nil)) ?_)))
  rfl
theorem three9:3<W9:=Nat.lt_of_lt_of_le (by decide:3<18446744073709551616^1) (Nat.pow_le_pow_right dc dc)
theorem w18r {r:Nat} (hr:r<W9):r*WB<2^(64*18):=by
  rw [w18 (i:=18) rfl]
  exact mul_w18 hr (Nat.lt_of_lt_of_le (by decide:18446744073709551616<18446744073709551616^2) (Nat.pow_le_pow_right dc dc))
theorem c_Rest (m W bd:Nat) (hm0:m≠0) (hm:m<W9) (hW:W<2^(64*18)) (w:World) (hbd:(Item.blk bd ⟨false,dvL m,269,(0,0)⟩).holds w):CF Tryz.prog 134 [.agg [Pz bd].toArray,wideV W] w (natV (W%m)):=by
  refine KV (N:=16) (rs:=[.cell 4 33]) [.blk bd ⟨false,dvL m,269,(0,0)⟩] Tryz.func134 rfl Tryz.ntmps134 Tryz.results134 (Nb rfl) ⟨hbd,trivial⟩ rfl ?_
  refine KB (KA (oS (mB (fun b2=>?_))));refine oS (mB (fun b3=>?_));refine oS (mk (KK zr_33) (fun b4=>?_));refine KC (KB (rD [10,11] (aP 0 rfl (KE (o':=0) u163 rfl rfl rfl sz_161 dc) (aD 1 rfl (dL rfl (hv:=KI u161 rfl gL)) ?_))));refine aP 2 rfl (KE (o':=0) u204 rfl rfl rfl sz_202 dc) (aP 3 rfl (KCJ u202 sz_30 rfl) (KAR ?_));refine Kl 8 rfl (.inl zr_204) (Nb rfl) rfl rfl rfl ?_;refine Kl 9 rfl (.inl zr_33) (Nb rfl) rfl rfl rfl ?_;refine LAnyP.step 4 rfl rfl rfl (Nb rfl) kr rfl (Ke (first:=[]) rfl en_140 rfl (fun w hw=>c_divide m W bd b3 18 18 _ true hm0 w (mC hw) (mC hw) hm (Nat.le_refl _) dc hW)) ?_
  rintro _ _ ⟨rfl,rfl⟩
  refine pM 5 ?_;refine pP 6 rfl (Det.extract rfl rfl) (pP 7 rfl (Det.extract rfl rfl) (pE (fun b6=>?_)));refine pE (fun b5=>?_);refine Kv ?_;refine aL 10 rfl (sA rfl rfl KDV mO (hl:=mL) (h:=?_));refine aL 11 rfl (sA rfl rfl sz_33 mO (hl:=mL) (h:=?_));refine aE (KB (KA (oD dNa ?_)));refine oT rfl rfl sz_33 ?_;refine KC (KN (eN (.cons ⟨_,_,_,rfl,mM,by exact KD u33 rfl sz_33⟩ .nil) ?_))
  rfl
theorem c_mtNew (m:Nat) (ho:m%2 = 1) (h3:3≤m) (h9:m<W9) (w:World) (hH:∀ x,x∈([]++[]:List Item)→x.holds w) (hd:([]++[]:List Item).Pairwise Apart)  : Calls Tryz.prog 84 ([natV m]:List Value).toArray w (fun e w'=>∃ (u:Value) (x':Item),(∃ b,u = .tuple #[Pz b,Iz 0]∧x' = .blk b ⟨true,mtL m (nw m) (mtL0 m) (mtR (nw m)*mtR (nw m)%m),201,(0,0)⟩)∧e = .returned u∧Outcome w [] [x'] w'):=by
  have hm0:m≠0:=by omega
  have hpos:0<m:=by omega
  have hn9:=nw_w9 h9
  have hbl:blen m≤576:=blen_w9e h9
  refine KAO [] (N:=75) (rs:=[.tmp 2,.tmp 3]) Tryz.func84 rfl Tryz.ntmps84 Tryz.results84 (Nb rfl) hH hd rfl rfl ?_
  refine KB (KA (oS (mB (fun b1=>?_))));refine oA ?_;refine oP (KO (v:=Iz 0) rfl) (KC (KB (KB (rD [] (aP 0 rfl (KE (o':=0) u33 rfl rfl rfl sz_31 dc) (aP 1 rfl (KP (i:=0) u31 sz_30 rfl rfl dc) (aD 2 rfl (dL rfl (hv:=KI u30 rfl (by exact KAY _ dc))) ?_)))))));refine aP 3 rfl (KG rfl rfl (KBR (b:=1) (limb_lt _ _) dc)) ?_;refine aP 4 rfl (bF rfl rfl (Ku (b:=0)) (by rw [Nat.and_one_is_mod,limb_zero,Nat.mod_mod_of_dvd _ dc,ho]; decide)) ?_;refine aM 5 ?_;refine aGD 6 rfl dNa ?_;refine aGO 7 rfl (cF rfl en_80 rfl (fun w hw=>KAU 3 dc w) ?_);refine aGO 8 rfl (cF rfl en_46 rfl (fun w hw=>KAz m 3 h9 three9 w) ?_);refine aGP 9 rfl (KG (v:=.bool false) rfl rfl (by unfold cmpI; rw [if_neg om]; split <;> rfl)) ?_;refine aP 10 rfl (KT rfl rfl) (aE (KH rfl (KM (KB (rD [] (aD 0 rfl dNa ?_))))))
  refine aD 1 rfl dNa ?_;refine aO 2 rfl (cF rfl en_81 rfl (fun w hw=>KBz m h9 w) ?_);refine aP 3 rfl (KG rfl rfl (Kj (b:=63) om)) (aP 4 rfl (KJ (KG rfl rfl (KDI (b:=64) dc om)) (show _ = Iz (nw m) from rfl)) (aP 5 rfl (KX pl_201 zr_201 rfl (fT (r':=(natL m++([Iz (nw m)]++([Value.int .u64 ((0:Nat):Int)]++(vec .u64 9 (fun _=>0)))))) (fS (A:=([]:List Value)) (B:=(vec .u64 9 (fun _=>0))) (D:=([Iz 0]++([Value.int .u64 ((0:Nat):Int)]++(vec .u64 9 (fun _=>0))))) (cs:=natL m) (fS (A:=(natL m)) (B:=([Iz 0])) (D:=([Value.int .u64 ((0:Nat):Int)]++(vec .u64 9 (fun _=>0)))) (cs:=[Iz (nw m)]) rfl)))) ?_));refine aO 6 rfl (mB (fun b26=>?_));refine aA 7 ?_;refine aE (KB (KA (oP (KE (o':=0) u33 rfl rfl rfl sz_31 dc) (oP (KP (i:=0) u31 sz_30 rfl rfl dc) (oD (dL rfl (hv:=KI u30 rfl (by exact KAY _ dc))) ?_)))));refine oA (KC (KB (KB (KA ?_))))
  refine oP (Kf (v:=Iz 0) rfl) (KC (LCode.block (Kc (α:=Nat) (fun x=>x≤5) (fun x=>⟨[(1,Pz b1),(4,Pz b26),(5,.int .u64 ((mtI (limb m 0) x:Nat):Int)),(30,Iz x)],[.blk b26 ⟨true,mtL m (nw m) 0 0,201,(0,0)⟩,.blk b1 ⟨true,natL m,33,(0,0)⟩]⟩) (fun x=>5-x) (0) (Nat.zero_le _) (KAD (Sub.cells (b:=b26) (cs':=mtL m (nw m) 0 0) mT (mtL_build _ _)) (Ka ⟨rfl,rfl,rfl,rfl,trivial⟩ mS)) ?_)))
  intro x hx
  have hml:=limb_lt m 0
  refine KB (KA (oP (KG rfl rfl (KAA (b:=5))) (KC (KB ?_))))
  first|refine KQ rfl (fun h31=>?_) (fun h31=>?_)|refine KR rfl (fun h31=>?_) (fun h31=>?_)
  ·
   have h31:x<5:=h31
   refine KM (KB (LCode.block (KA (oM ?_))));refine oP (KE (o':=0) u33 rfl rfl rfl sz_31 dc) (oP (KP (i:=0) u31 sz_30 rfl rfl dc) (oD (dL rfl (hv:=KI u30 rfl (by exact KAY _ dc))) ?_));refine oM ?_;refine oP (KG rfl rfl (KBD)) (oP (KG rfl rfl (KBW (a:=2) om)) (oP (KG rfl rfl (KBD)) (oA (KC (KA ?_)))));refine oP (KG rfl rfl (Kj (b:=1) om)) (oM (KC ?_))
   exact ⟨x+1,by omega,by omega,Ka ⟨rfl,rfl,rfl,rfl,trivial⟩ mS⟩
  have h31:¬ x<5:=h31
  obtain rfl:x = 5:=by omega
  refine Kb (KB (KA (oM (oM ?_))));refine oP (KJ (Det.neg rfl) (show _ = .int .u64 ((mtL0 m:Nat):Int) by rw [mtL0_neg])) (oP (KF rfl) (oP (KE (o':=10) u201 rfl rfl rfl sz_30 dc) ?_));refine LOps.step rfl (KZ rfl rfl rfl sz_30 mT (by rw [KCO]; decide) (mtL_setl _ _ _ _ _) (by simp) ?_);refine KC (KB (KA (oD dNa ?_)));refine oS (KCf (Post:=fun v its=>∃ b,v = .agg [Pz b].toArray∧its = [.blk b ⟨false,dvL m,269,(0,0)⟩]) (first:=[]) rfl en_129 rfl (Nb rfl) (fun w hw=>(c_By m hm0 h9 w).mono fun e w' ⟨b,h1,h2,h3,h4⟩=>⟨_,_,⟨b,rfl,rfl⟩,h1,KDN h4 h2 h3⟩) ?_)
  rintro _ _ ⟨bd,rfl,rfl⟩
  refine oS (mk (KK zr_163) (fun b6=>?_));refine oT rfl rfl KBo ?_;refine KC (KB (rD [5] (aD 0 rfl (dL rfl (hv:=by exact KD u163 rfl KBo)) ?_)));refine KAR ?_;refine Kl 4 rfl (.inl zr_33) (Nb rfl) rfl rfl rfl ?_;refine LAnyP.step 1 rfl rfl rfl (Nb rfl) kr rfl (Ke (first:=[]) rfl en_80 rfl (fun w hw=>KAU 1 dc w)) ?_
  rintro _ _ ⟨rfl,rfl⟩
  refine LAnyP.step 2 rfl rfl rfl (Nb rfl) kr rfl (Ke (first:=[]) rfl en_80 rfl (fun w hw=>KAU 1 dc w)) ?_
  rintro _ _ ⟨rfl,rfl⟩
  refine LAnyP.step 3 rfl rfl rfl (Nb rfl) kr rfl (Ke (first:=[]) rfl en_133 rfl (fun w hw=>c_Mul m 1 1 bd hm0 h9 w (mC hw) one_w9 one_w9)) ?_
  rintro _ _ ⟨rfl,rfl⟩
  refine pE (fun b7=>?_);refine Kv ?_;refine aL 5 rfl (sA rfl rfl sz_33 mO (hl:=mL) (h:=?_));refine aE (KB (KB (KA (oM ?_))));refine oP (KF rfl) (oP (KE (o':=9) u201 rfl rfl rfl sz_3 dc) (oD (dL rfl (hv:=KI u3 rfl (by exact mtL_n _ _ _ _))) ?_));refine oP (Kf (v:=Iz 0) rfl) (KC (LCode.block (Kc (α:=Nat) (fun x=>x≤nw m) (fun x=>⟨[(1,Pz b1),(4,Pz b26),(6,Pz b6),(7,Pz b7),(55,Iz (nw m)),(56,Iz x)],[.blk b7 ⟨true,natL (mtR x%m),33,(0,0)⟩,.blk b6 ⟨true,[Pz bd],163,(0,0)⟩,.blk bd ⟨false,dvL m,269,(0,0)⟩,.blk b26 ⟨true,mtL m (nw m) (mtL0 m) 0,201,(0,0)⟩,.blk b1 ⟨true,natL m,33,(0,0)⟩]⟩) (fun x=>nw m-x) (0) (Nat.zero_le _) (Ka ⟨rfl,rfl,rfl,rfl,rfl,rfl,trivial⟩ mS) ?_)))
  intro x hx
  refine KB (KA (oP (KG rfl rfl (KAA)) (KC (KB ?_))))
  first|refine KQ rfl (fun h57=>?_) (fun h57=>?_)|refine KR rfl (fun h57=>?_) (fun h57=>?_)
  ·
   have h57:x<nw m:=h57
   refine KM (KB (LCode.block (KB (KA (oS (mk (KK zr_204) (fun b8=>?_)))))));refine KC (KB (rD [4] (aP 0 rfl (KE (o':=0) u204 rfl rfl rfl sz_202 dc) (aP 1 rfl (KJ (Det.slArrL (k:=1) u202 sz_30 rfl rfl dc) rfl) (aP 2 rfl (KE (o':=0) u33 rfl rfl rfl sz_31 dc) (aP 3 rfl (KCJ u31 sz_30 rfl) ?_))))));refine aL 4 rfl (LStepW.copy (cs:=natL (mtR x%m)) (cs':=wideL ((mtR x%m)*WB)) rfl rfl u205 sz_30 mT mM (by rw [KL]; decide) (fun j v hj=>by rw [Nat.zero_add]; exact hj) (by rw [KL,KU]; decide) (Kx _) (wide_up (Nat.lt_trans (Nat.mod_lt _ hpos) h9)) (Nb rfl) ?_);refine aE (KA (oD (dL rfl (hv:=by exact KD u163 rfl KBo)) ?_));refine oD (dL rfl (hv:=by exact KD u204 rfl KDV)) ?_;refine oS (cF rfl en_134 rfl (fun w hw=>c_Rest m ((mtR x%m)*WB) bd hm0 h9 (w18r (Nat.lt_trans (Nat.mod_lt _ hpos) h9)) w (mC hw)) ?_)
   refine oT rfl rfl sz_33 ?_;refine KC (KA (oP (KG rfl rfl (Kj (b:=1) om)) (oM (KC ?_))));refine ⟨x+1,by omega,by omega,?_⟩
   rw [mtR_step] 
   exact Ka ⟨rfl,rfl,rfl,rfl,rfl,rfl,trivial⟩ mS
  have h57:¬ x<nw m:=h57
  obtain rfl:x = nw m:=by omega
  refine Kb (KB (KA (oM ?_)));refine oD (dL rfl (hv:=by exact KD u163 rfl KBo)) ?_;refine oD dNa ?_;refine oD dNa ?_;refine oS (cF rfl en_133 rfl (fun w hw=>c_Mul m (mtR (nw m)%m) (mtR (nw m)%m) bd hm0 h9 w (mC hw) (Nat.lt_trans (Nat.mod_lt _ hpos) h9) (Nat.lt_trans (Nat.mod_lt _ hpos) h9)) ?_);refine oP (KF rfl) (oP (KE (o':=11) u201 rfl rfl rfl sz_33 dc) ?_);refine LOps.step rfl (Ko rfl rfl rfl sz_33 (KL _) (Kx _) mT (by simp only [KCO]; decide) (mtL_setr _ _ _ _ _) (by simp) ?_);refine KC (KB (KA (oM (oA ?_))));refine oP (KO (v:=Iz 0) rfl) (KC (KN ?_))
  rw [← Nat.mul_mod]
  refine ⟨[_,_],.cons rfl (.cons rfl .nil),fun a w' hr=>⟨_,_,⟨b26,rfl,rfl⟩,rfl,hr.out mS rfl⟩⟩
open Grp
theorem Cv.Ok.mt {V:Cv} (h:V.Ok):MtOk V.n (nw V.n) (mtL0 V.n):=by
  have cs:=h.cs
  simp only [Bool.and_eq_true] at cs
  have h1:=Nat.eq_of_beq_eq_true cs.1.1.1.2
  have h2:=Nb cs.1.2
  exact mtOk_of h1 om (Ks h.bounds.2.2.2.2.2.2.1)
theorem c_cKeyB (V:Cv) (b f X:Nat) (hok:V.Ok) (w:World) (hb:(Item.blk b ⟨false,opL V f,100,(0,0)⟩).holds w) (hX:X<W9):CF Tryz.prog 38 [Pz b,natV X] w (.bool (decide (X≠0∧X<V.n))):=by
  have hnW:=hok.mt.lt9
  by_cases h0:X = 0
  · subst h0
    rw [decide_eq_false (fun h=>h.1 rfl)]
    exact c_cKeyZ V b f w hb
  · by_cases hn:X<V.n
    · rw [decide_eq_true ⟨h0,hn⟩]
      exact c_cKeyT V b f X w hb hX hnW h0 hn
    · rw [decide_eq_false (fun h=>hn h.2)]
      exact c_cKeyF V b f X w hb hX hnW h0 om
def digE (V:Cv) (k:Nat) (msg:ByteArray):Nat:=beVal (toS (hashL k (ofS msg))).data.toList/2^(8*hsize k-blen V.n)%V.n
def tryE (V:Cv) (s:ByteArray):Nat:=beVal s.data.toList/2^(8*nby V.n-blen V.n)
theorem c_eRest (V:Cv) (b f:Nat) (hok:V.Ok) (a:Nat) (ha:a<W9) (w:World) (hb:(Item.blk b ⟨false,opL V f,100,(0,0)⟩).holds w):CF Tryz.prog 41 [Pz b,natV a] w (natV (a%V.n)):=by
  have hmo:=hok.mt
  have hnW:=hmo.lt9
  have hn3:=hmo.three
  have hn0:V.n≠0:=by omega
  have hnp:0<V.n:=by omega
  refine KV (N:=20) (rs:=[.cell 4 33]) [.blk b ⟨false,opL V f,100,(0,0)⟩] Tryz.func41 rfl Tryz.ntmps41 Tryz.results41 (Nb rfl) ⟨hb,trivial⟩ rfl ?_
  refine KB (KA (oS (mB (fun b3=>?_))));refine oS (mk (KK zr_33) (fun b4=>?_));refine KC (KB (rD [13,14] (aD 0 rfl dNa ?_)));refine aM 1 ?_;refine aP 2 rfl (KF rfl) (aP 3 rfl (KE (o':=0) u100 rfl rfl rfl sz_53 dc) (aP 4 rfl (KE (o':=28) u53 rfl rfl rfl sz_33 dc) (aD 5 rfl (dL rfl (hv:=by exact KBB _ _ _ _ _ _ _ _ _ _ _ _ _ _ _ _)) ?_)));refine KAR ?_;refine Kl 11 rfl (.inl zr_33) (Nb rfl) rfl rfl rfl ?_;refine Kl 12 rfl (.inl zr_33) (Nb rfl) rfl rfl rfl ?_;refine LAnyP.step 6 rfl rfl rfl (Nb rfl) kr rfl (Ke (first:=[]) rfl en_86 rfl (fun w hw=>c_Div a V.n hn0 w ha hnW)) ?_
  rintro _ _ ⟨rfl,rfl⟩
  refine pM 7 ?_;refine pP 8 rfl (Det.extract rfl rfl) (pP 9 rfl (Det.extract rfl rfl) (pP 10 rfl (Det.extract rfl rfl) (pE (fun b6=>?_))));refine pE (fun b5=>?_);refine Kv ?_;refine aL 13 rfl (sA rfl rfl sz_33 mO (hl:=mL) (h:=?_));refine aL 14 rfl (sA rfl rfl sz_33 mO (hl:=mL) (h:=?_));refine aA 15 ?_;refine aE (KB (KA (oD dNa ?_)));refine oT rfl rfl sz_33 ?_;refine KC (KN (eN (.cons ⟨_,_,_,rfl,mM,by exact KD u33 rfl sz_33⟩ .nil) ?_))
  rfl
theorem c_eDigest (V:Cv) (b f:Nat) (hok:V.Ok) (k:Nat) (hk:k = 1∨k = 2∨k = 3∨k = 4) (msg:ByteArray) (hmsg:msg.size≤140737488351232) (w:World) (hb:(Item.blk b ⟨false,opL V f,100,(0,0)⟩).holds w):CF Tryz.prog 40 [Pz b,Iz k,.string msg] w (natV (digE V k msg)):=by
  have hmo:=hok.mt
  have hnW:=hmo.lt9
  have hn3:=hmo.three
  have hn0:V.n≠0:=by omega
  have hnp:0<V.n:=by omega
  have hs8:=KCR hk
  have hbl:=KAM hnW
  have hsz:(toS (hashL k (ofS msg))).size = hsize k:=by rw [KAL,KBe hk]
  have hbe:∀ s:ByteArray,s.size≤72→beVal s.data.toList<W9:=fun s hs=>KCj (by exact hs)
  refine KV (N:=40) (rs:=[.cell 6 33]) [.blk b ⟨false,opL V f,100,(0,0)⟩] Tryz.func40 rfl Tryz.ntmps40 Tryz.results40 (Nb rfl) ⟨hb,trivial⟩ rfl ?_
  refine KB (KA (oS (mk (KK zr_33) (fun b6=>?_))));refine KC (KB (KA (oM (oM ?_))));refine oS (cF rfl en_85 rfl (fun w hw=>c_hOf k hk msg hmsg w) ?_);refine oM ?_;refine oX ?_;refine oX ?_;refine oA (oA (KC (KB (KA (oM ?_)))));refine oS (cF rfl en_49 rfl (fun w hw=>KDe _ w (by rw [hsz]; omega)) ?_);refine oM ?_;refine oX ?_;refine oX ?_;refine oS (mk (KK zr_33) (fun b9=>?_));refine oT rfl rfl sz_33 ?_;refine oA (KC (KB (rD [15] ?_)));refine aD 0 rfl dNa ?_;refine aM 1 ?_;refine aP 2 rfl (KJ (KAQ u9 rfl) (show _ = Iz (hsize k) by rw [hsz])) (aP 3 rfl (KG rfl rfl (KCB (a:=8) om)) (aM 4 ?_));refine aP 5 rfl (KF rfl) (aP 6 rfl (KE (o':=0) u100 rfl rfl rfl sz_53 dc) (aP 7 rfl (KE (o':=56) u53 rfl rfl rfl sz_3 dc) (aD 8 rfl (dL rfl (hv:=KI u3 rfl (by exact KDH _ _ _ _ _ _ _ _ _ _ _ _ _))) ?_)))
  refine aP 9 rfl (KG rfl rfl (KBs om om)) ?_;refine aP 10 rfl (KJ (Det.max rfl rfl) (show _ = Iz (8*hsize k-blen V.n) by congr 1; split <;> omega)) ?_;refine aO 11 rfl (cF rfl en_83 rfl (fun w hw=>c_nat_Shr _ _ (hbe _ (by rw [hsz]; omega)) om w) ?_);refine aM 12 ?_;refine aP 13 rfl (Det.extract rfl rfl) (aP 14 rfl (Det.extract rfl rfl) (aL 15 rfl (sA rfl rfl sz_33 mO (hl:=mL) (h:=?_))));refine aE (KB (KA (oM ?_)));refine oD dNa ?_;refine oS (cF rfl en_41 rfl (fun w hw=>c_eRest V b f hok _ (shr_w9 (hbe _ (by rw [hsz]; omega))) w (mC hw)) ?_);refine oT rfl rfl sz_33 ?_;refine KC (KN (eN (.cons ⟨_,_,_,rfl,mM,by exact KD u33 rfl sz_33⟩ .nil) ?_))
  rfl
theorem c_eOf (V:Cv) (b f:Nat) (hok:V.Ok) (w:World) (hH:∀ x,x∈([]++[.blk b ⟨false,opL V f,100,(0,0)⟩]:List Item)→x.holds w) (hd:([]++[.blk b ⟨false,opL V f,100,(0,0)⟩]:List Item).Pairwise Apart)  : Calls Tryz.prog 39 ([Pz b]:List Value).toArray w (fun e w'=>∃ (u:Value) (x':Item),(∃ bm,u = .agg ([Pz b,Pz bm]:List Value).toArray∧x' = .blk bm ⟨true,mtL V.n (nw V.n) (mtL0 V.n) (mtR (nw V.n)*mtR (nw V.n)%V.n),201,(0,0)⟩)∧e = .returned u∧Outcome w [] [x'] w'):=by
  have hmo:=hok.mt
  have hnW:=hmo.lt9
  have hn3:=hmo.three
  have hn0:V.n≠0:=by omega
  have hnp:0<V.n:=by omega
  refine KAO [.blk b ⟨false,opL V f,100,(0,0)⟩] (N:=17) (rs:=[.cell 2 90]) Tryz.func39 rfl Tryz.ntmps39 Tryz.results39 (Nb rfl) hH hd rfl rfl ?_
  refine KB (KA (oS (mk (KK zr_90) (fun b2=>?_))));refine KC (KB (KA (oM ?_)));refine oP (KF rfl) (oP (KE (o':=0) u100 rfl rfl rfl sz_53 dc) (oP (KE (o':=28) u53 rfl rfl rfl sz_33 dc) (oD (dL rfl (hv:=by exact KBB _ _ _ _ _ _ _ _ _ _ _ _ _ _ _ _)) ?_)));refine LOps.step rfl (Kg (first:=[]) (caps:=[]) (X:=[]) (RO:=[]) rfl en_84 rfl (Nb rfl) sR wK (fun w hH hd=>c_mtNew V.n hmo.odd hmo.three hmo.lt9 w hH hd) ?_)
  rintro _ _ ⟨bm,rfl,rfl⟩
  refine oM ?_;refine oX ?_;refine oX ?_;refine oA (oA (KC (KB (KA (oM (oM ?_))))));refine oP (KX pl_90 zr_90 rfl (fT (r':=([Pz b]++([Pz bm]))) (fS (A:=([]:List Value)) (B:=([Value.pointer none])) (D:=([Value.pointer none])) (cs:=[Pz b]) (fS (A:=([Pz b])) (B:=([Value.pointer none])) (D:=([]:List Value)) (cs:=[Pz bm]) rfl)))) ?_;refine oT rfl rfl sz_90 ?_;refine KC (KN (⟨[_],.cons ⟨_,_,_,rfl,mM,by exact KD u90 rfl sz_90⟩ .nil,fun a w' hr=>⟨_,_,⟨bm,rfl,rfl⟩,rfl,hr.out mS rfl⟩⟩))
theorem c_eMul (V:Cv) (b f bm:Nat) (hok:V.Ok) (a c:Nat) (ha:a<V.n) (hc:c<V.n) (w:World) (hb:(Item.blk b ⟨false,opL V f,100,(0,0)⟩).holds w) (hX:(Item.blk bm ⟨false,mtL V.n (nw V.n) (mtL0 V.n) (mtR (nw V.n)*mtR (nw V.n)%V.n),201,(0,0)⟩).holds w):CF Tryz.prog 43 [.agg ([Pz b,Pz bm]:List Value).toArray,natV a,natV c] w (natV (a*c%V.n)):=by
  have hmo:=hok.mt
  have hnW:=hmo.lt9
  have hn3:=hmo.three
  have hn0:V.n≠0:=by omega
  have hnp:0<V.n:=by omega
  refine KV (N:=31) (rs:=[.cell 6 33]) [.blk b ⟨false,opL V f,100,(0,0)⟩,.blk bm ⟨false,mtL V.n (nw V.n) (mtL0 V.n) (mtR (nw V.n)*mtR (nw V.n)%V.n),201,(0,0)⟩] Tryz.func43 rfl Tryz.ntmps43 Tryz.results43 (Nb rfl) ⟨hb,hX,trivial⟩ rfl ?_
  refine KB (KA (oS (mB (fun b3=>?_))));refine oS (mB (fun b4=>?_));refine oS (mB (fun b5=>?_));refine oS (mk (KK zr_33) (fun b6=>?_));refine KC (KB (rD [] (aP 0 rfl (KE (o':=1) u90 rfl rfl rfl sz_88 dc) (aD 1 rfl (dL rfl (hv:=KI u88 rfl gL)) ?_))));refine aP 2 rfl (Kw rfl) (aP 3 rfl (KE (o':=1) u90 rfl rfl rfl sz_88 dc) (aD 4 rfl (dL rfl (hv:=KI u88 rfl gL)) ?_));refine aP 5 rfl (Kw rfl) (aA 6 ?_);refine aA 7 ?_;refine aE (KB (KA (oM ?_)));refine oD dNa ?_;refine oS (Ky (first:=[_]) rfl en_89 rfl (Nb rfl) (fun w hw=>c_mTo V.n (nw V.n) (mtL0 V.n) hmo bm a ha w (mC hw)) ?_);refine oM ?_;refine oX ?_;refine oX ?_;refine oS (mk (KK zr_33) (fun b9=>?_));refine oT rfl rfl sz_33 ?_;refine oA (KC (KB (KA (oM ?_))));refine oD dNa ?_;refine oD dNa ?_
  refine oS (Ky (first:=[_]) rfl en_90 rfl (Nb rfl) (fun w hw=>c_mtMul V.n (nw V.n) (mtL0 V.n) hmo bm (a*mtR (nw V.n)%V.n) c (a*c%V.n) (Nat.mod_lt _ hnp) hc (Nat.mod_lt _ hnp) mt_mul w (mC hw)) ?_);refine oM ?_;refine oX ?_;refine oX ?_;refine oT rfl rfl sz_33 ?_;refine KC (KB (KA (oD dNa ?_)));refine oT rfl rfl sz_33 ?_;refine KC (KN (eN (.cons ⟨_,_,_,rfl,mM,by exact KD u33 rfl sz_33⟩ .nil) ?_))
  rfl
theorem pt_x0 (X Y:Nat) (i:Bool):((ptL X Y i).drop 0).take 9 = natL X:=by
  rw [List.drop_zero]; unfold ptL; rw [List.take_left' (KL X)]
theorem mt_inv_y {m n a v:Nat} (hm:m%2 = 1) (h3:3≤m) (h:a*v%m = 1):∃ y,y<m∧(a*mtR n%m)*y%m = 1∧v*mtR n%m = y*mtR n%m*mtR n%m:=by
  have hc:Nat.gcd (a*mtR n%m) m = 1:=by
    rw [← Nat.gcd_rec,Nat.gcd_comm]
    exact Nat.Coprime.mul_left (gcd_of_inv h) (odd_cop hm).symm
  obtain ⟨y,hy,e⟩:=inv_mod hc om
  refine ⟨y,hy,e,?_⟩
  have e1:a*v*(mtR n*y*mtR n)%m = v*mtR n*(a*mtR n*y)%m:=by congr 1; ac_rfl
  have e2:a*mtR n*y%m = 1:=by rw [← Nat.mod_mul_mod]; exact e
  rw [Nat.mul_mod,h,Nat.one_mul,Nat.mod_mod,Nat.mul_mod (v*mtR n),e2,Nat.mul_one,Nat.mod_mod] at e1
  rw [← e1,Nat.mod_mul_mod]
  congr 1; ac_rfl
theorem invM_mul {x n:Nat} (hp:Pr n) (h0:x≠0) (h:x<n):invM x n<n∧x*invM x n%n = 1:=by
  have hc:=hp.cop (x:=x) (fun hd=>by have:=Nat.le_of_dvd om hd; omega)
  obtain ⟨s,hs,e⟩:=inv_mod hc (by have:=hp.1; omega)
  rw [invM_eq hs e]
  exact ⟨hs,e⟩
theorem c_eInv (V:Cv) (b f bm:Nat) (hok:V.Ok) (a:Nat) (h0:a≠0) (ha:a<V.n) (w:World) (hb:(Item.blk b ⟨false,opL V f,100,(0,0)⟩).holds w) (hX:(Item.blk bm ⟨false,mtL V.n (nw V.n) (mtL0 V.n) (mtR (nw V.n)*mtR (nw V.n)%V.n),201,(0,0)⟩).holds w):CF Tryz.prog 45 [.agg ([Pz b,Pz bm]:List Value).toArray,natV a] w (natV (invM a V.n)):=by
  have hmo:=hok.mt
  have hnW:=hmo.lt9
  have hn3:=hmo.three
  have hn0:V.n≠0:=by omega
  have hnp:0<V.n:=by omega
  obtain ⟨hv1,hv2⟩:=invM_mul hok.order h0 ha
  obtain ⟨y,hy1,hy2,hy3⟩:=mt_inv_y (n:=nw V.n) hmo.odd hmo.three hv2
  refine KV (N:=29) (rs:=[.cell 4 33]) [.blk b ⟨false,opL V f,100,(0,0)⟩,.blk bm ⟨false,mtL V.n (nw V.n) (mtL0 V.n) (mtR (nw V.n)*mtR (nw V.n)%V.n),201,(0,0)⟩] Tryz.func45 rfl Tryz.ntmps45 Tryz.results45 (Nb rfl) ⟨hb,hX,trivial⟩ rfl ?_
  refine KB (KA (oS (mB (fun b2=>?_))));refine oS (mB (fun b3=>?_));refine oS (mk (KK zr_33) (fun b4=>?_));refine KC (KB (KA (oP (KE (o':=1) u90 rfl rfl rfl sz_88 dc) (oD (dL rfl (hv:=KI u88 rfl gL)) ?_))));refine oD dNa ?_;refine oS (cF rfl en_89 rfl (fun w hw=>c_mTo V.n (nw V.n) (mtL0 V.n) hmo bm a ha w (mC hw)) ?_);refine oM ?_;refine oX ?_;refine oX ?_;refine oS (mk (KK zr_33) (fun b5=>?_));refine oT rfl rfl sz_33 ?_;refine oA (KC (KB (KA ?_)));refine oP (KE (o':=1) u90 rfl rfl rfl sz_88 dc) (oD (dL rfl (hv:=KI u88 rfl gL)) ?_);refine oD dNa ?_;refine oS (cF rfl en_92 rfl (fun w hw=>c_mInvR V.n (nw V.n) (mtL0 V.n) hmo bm (a*mtR (nw V.n)%V.n) y (Nat.mod_lt _ hnp) hy1 hy2 w (mC hw)) ?_);refine oM ?_;refine oX ?_;refine oX ?_;refine oT rfl rfl sz_33 ?_
  refine KC (KB (KA (oP (KE (o':=1) u90 rfl rfl rfl sz_88 dc) (oD (dL rfl (hv:=KI u88 rfl gL)) ?_))));refine oD dNa ?_;refine oS (cF rfl en_93 rfl (fun w hw=>c_mFrom V.n (nw V.n) (mtL0 V.n) hmo bm (y*mtR (nw V.n)%V.n*mtR (nw V.n)%V.n) (invM a V.n) (Nat.mod_lt _ hnp) hv1 hy3 w (mC hw)) ?_);refine oM ?_;refine oX ?_;refine oX ?_;refine oT rfl rfl sz_33 ?_;refine KC (KB (KA (oD dNa ?_)));refine oT rfl rfl sz_33 ?_;refine KC (KN (eN (.cons ⟨_,_,_,rfl,mM,by exact KD u33 rfl sz_33⟩ .nil) ?_))
  rfl
theorem c_eAdd (V:Cv) (b f bm:Nat) (hok:V.Ok) (a c:Nat) (ha:a<V.n) (hc:c<V.n) (w:World) (hb:(Item.blk b ⟨false,opL V f,100,(0,0)⟩).holds w) (hX:(Item.blk bm ⟨false,mtL V.n (nw V.n) (mtL0 V.n) (mtR (nw V.n)*mtR (nw V.n)%V.n),201,(0,0)⟩).holds w):CF Tryz.prog 44 [.agg ([Pz b,Pz bm]:List Value).toArray,natV a,natV c] w (natV ((a+c)%V.n)):=by
  have hmo:=hok.mt
  have hnW:=hmo.lt9
  have hn3:=hmo.three
  have hn0:V.n≠0:=by omega
  have hnp:0<V.n:=by omega
  have hW2:V.n+V.n≤W9:=Nat.le_of_lt (w9_half hok.bounds.2.2.2.2.2.2.1)
  refine KV (N:=32) (rs:=[.cell 6 33]) [.blk b ⟨false,opL V f,100,(0,0)⟩,.blk bm ⟨false,mtL V.n (nw V.n) (mtL0 V.n) (mtR (nw V.n)*mtR (nw V.n)%V.n),201,(0,0)⟩] Tryz.func44 rfl Tryz.ntmps44 Tryz.results44 (Nb rfl) ⟨hb,hX,trivial⟩ rfl ?_
  refine KB (KA (oS (mB (fun b3=>?_))));refine oS (mB (fun b4=>?_));refine oS (mB (fun b5=>?_));refine oS (mk (KK zr_33) (fun b6=>?_));refine KC (KB (KA (oD dNa ?_)));refine oD dNa ?_;refine oS (cF rfl en_91 rfl (fun w hw=>c_nat_AddS a c w om) ?_);refine oM ?_;refine oX ?_;refine oX ?_;refine oS (mk (KK zr_33) (fun b7=>?_));refine oT rfl rfl sz_33 ?_;refine oA (KC (KB (KB ?_)))
  rcases (show V.n≤a+c∨a+c<V.n by omega) with hq|hq
  ·
   refine rD [12] (aD 0 rfl dNa ?_);refine aP 1 rfl (KE (o':=0) u90 rfl rfl rfl sz_81 dc) (aD 2 rfl (dL rfl (hv:=KI u81 rfl gL)) ?_);refine aP 3 rfl (KF rfl) (aP 4 rfl (KE (o':=0) u100 rfl rfl rfl sz_53 dc) (aP 5 rfl (KE (o':=28) u53 rfl rfl rfl sz_33 dc) (aD 6 rfl (dL rfl (hv:=by exact KBB _ _ _ _ _ _ _ _ _ _ _ _ _ _ _ _)) ?_)));refine KAR ?_;refine Kl 11 rfl (.inl zr_33) (Nb rfl) rfl rfl rfl ?_;refine LAnyP.step 7 rfl rfl rfl (Nb rfl) kr rfl (Ke (first:=[]) rfl en_79 rfl (fun w hw=>KCz (a+c) V.n w om hq)) ?_
   rintro _ _ ⟨rfl,rfl⟩
   refine pM 8 ?_;refine pP 9 rfl (Det.extract rfl rfl) (pP 10 rfl (Det.extract rfl rfl) (pE (fun b9=>?_)));refine Kv ?_;refine aL 12 rfl (sA rfl rfl sz_33 mO (hl:=mL) (h:=?_));refine aA 13 ?_;refine aE (KB (KA (oM ?_)));refine oP (KAH rfl) (KC (KS rfl (KB ?_)))
   rw [show (a+c)%V.n = a+c-V.n from by rw [Nat.mod_eq_sub_mod hq,Nat.mod_eq_of_lt om]]
   refine KA (oD dNa ?_);refine oT rfl rfl sz_33 ?_;refine KC (KN (eN (.cons ⟨_,_,_,rfl,mM,by exact KD u33 rfl sz_33⟩ .nil) ?_))
   rfl
  refine rD [12] (aD 0 rfl dNa ?_);refine aP 1 rfl (KE (o':=0) u90 rfl rfl rfl sz_81 dc) (aD 2 rfl (dL rfl (hv:=KI u81 rfl gL)) ?_);refine aP 3 rfl (KF rfl) (aP 4 rfl (KE (o':=0) u100 rfl rfl rfl sz_53 dc) (aP 5 rfl (KE (o':=28) u53 rfl rfl rfl sz_33 dc) (aD 6 rfl (dL rfl (hv:=by exact KBB _ _ _ _ _ _ _ _ _ _ _ _ _ _ _ _)) ?_)));refine KAR ?_;refine Kl 11 rfl (.inl zr_33) (Nb rfl) rfl rfl rfl ?_;refine LAnyP.step 7 rfl rfl rfl (Nb rfl) kr rfl (Ke (first:=[]) rfl en_79 rfl (fun w hw=>c_nat_SubU (a+c) V.n w hnW hq)) ?_
  rintro _ _ ⟨rfl,rfl⟩
  refine pM 8 ?_;refine pP 9 rfl (Det.extract rfl rfl) (pP 10 rfl (Det.extract rfl rfl) (pE (fun b9=>?_)));refine Kv ?_;refine aL 12 rfl (sA rfl rfl sz_33 mO (hl:=mL) (h:=?_));refine aA 13 ?_;refine aE (KB (KA (oM ?_)));refine oP (KAH rfl) (KC (KH rfl (KM (KB ?_))))
  rw [Nat.mod_eq_of_lt hq]
  refine KA (oD dNa ?_);refine oT rfl rfl sz_33 ?_;refine KC (KN (eN (.cons ⟨_,_,_,rfl,mM,by exact KD u33 rfl sz_33⟩ .nil) ?_))
  rfl
theorem c_kTry (V:Cv) (b f:Nat) (hok:V.Ok) (dk:Nat) (hdk:dk = 1∨dk = 2∨dk = 3∨dk = 4) (d n:Nat) (K U:ByteArray) (hK:K.size≤64) (hU:U.size≤64) (hn:n≤64) (w:World) (hH:∀ x,x∈([.blk d ⟨true,gnL dk K U (n),79,(0,0)⟩]++[.blk b ⟨false,opL V f,100,(0,0)⟩]:List Item)→x.holds w) (hd:([.blk d ⟨true,gnL dk K U (n),79,(0,0)⟩]++[.blk b ⟨false,opL V f,100,(0,0)⟩]:List Item).Pairwise Apart)  : Calls Tryz.prog 37 ([Pz b,.func (.func 36) #[Pz d] #[]]:List Value).toArray w (fun e w'=>∃ (u:Value) (x':Item),(u = .tuple #[natV (tryE V (genB dk K U (nby V.n))),.bool (decide (tryE V (genB dk K U (nby V.n))≠0∧tryE V (genB dk K U (nby V.n))<V.n)),Iz 0]∧x' = .blk d ⟨true,gnL dk (genS dk K U (nby V.n)).1 (genS dk K U (nby V.n)).2 (n+1),79,(0,0)⟩)∧e = .returned u∧Outcome w [.blk d ⟨true,gnL dk K U (n),79,(0,0)⟩] [x'] w'):=by
  have hmo:=hok.mt
  have hnW:=hmo.lt9
  have hn3:=hmo.three
  have hn0:V.n≠0:=by omega
  have hnp:0<V.n:=by omega
  have hnb:nby V.n≤72:=by have:=KAM hnW; unfold nby; omega
  have hbl:=KAM hnW
  have hn8:blen V.n≤8*nby V.n:=by unfold nby; omega
  have hgz:(genB dk K U (nby V.n)).size = nby V.n:=genB_size hdk K hU (nby V.n)
  have hgb:=KCj (l:=(genB dk K U (nby V.n)).data.toList) (by show (genB dk K U (nby V.n)).size≤72; omega)
  refine KAO [.blk d ⟨true,gnL dk K U (n),79,(0,0)⟩,.blk b ⟨false,opL V f,100,(0,0)⟩] (N:=45) (rs:=[.cell 4 33,.tmp 5,.tmp 6]) Tryz.func37 rfl Tryz.ntmps37 Tryz.results37 (Nb rfl) hH hd rfl rfl ?_
  refine KB (KA (oS (mk (KK zr_33) (fun b4=>?_))));refine oA ?_;refine oP (KO (v:=Iz 0) rfl) (KC (KB (KA (oM (oM ?_)))));refine oS (cF rfl en_48 rfl (fun w hw=>c_cBytes V b f w (mC hw) hbl) ?_);refine LOps.step rfl (Kg (first:=[Pz d]) (caps:=[]) rfl en_36 rfl (Nb rfl) sR wK (fun w hH hd=>c_dgen dk hdk d n K U hK hU (nby V.n) om hn w hH hd) ?_)
  rintro _ _ ⟨rfl,rfl⟩
  refine oM ?_;refine oX ?_;refine oX ?_;refine oA (oA (KC (KB (KB (KA (oM ?_))))));refine oP (bF rfl rfl (KAn (b:=0)) dc) (KC (KH rfl (KM (KB (KA (oM ?_))))));refine oS (cF rfl en_49 rfl (fun w hw=>KDe (genB dk K U (nby V.n)) w (by rw [hgz]; omega)) ?_);refine oM ?_;refine oX ?_;refine oX ?_;refine oS (mk (KK zr_33) (fun b9=>?_));refine oT rfl rfl sz_33 ?_;refine oA (KC (KB (rD [14] ?_)));refine aD 0 rfl dNa ?_;refine aM 1 ?_;refine aM 4 ?_;refine aP 5 rfl (KF rfl) (aP 6 rfl (KE (o':=0) u100 rfl rfl rfl sz_53 dc) (aP 7 rfl (KE (o':=56) u53 rfl rfl rfl sz_3 dc) (aD 8 rfl (dL rfl (hv:=KI u3 rfl (by exact KDH _ _ _ _ _ _ _ _ _ _ _ _ _))) ?_)));refine aO 2 rfl (cF rfl en_48 rfl (fun w hw=>c_cBytes V b f w (mC hw) hbl) ?_);refine aP 3 rfl (KG rfl rfl (KCB (a:=8) om)) (aP 9 rfl (KG rfl rfl (KAe om om)) ?_)
  refine aO 10 rfl (cF rfl en_83 rfl (fun w hw=>c_nat_Shr _ _ hgb (by unfold nby; omega) w) ?_);refine aM 11 ?_;refine aP 12 rfl (Det.extract rfl rfl) (aP 13 rfl (Det.extract rfl rfl) (aL 14 rfl (sA rfl rfl sz_33 mO (hl:=mL) (h:=?_))));refine aE (KB (rD [4] (aD 0 rfl dNa ?_)));refine aM 1 ?_;refine aO 2 rfl (LStep.det dNa (Nb rfl) ?_);refine aO 3 rfl (cF rfl en_38 rfl (fun w hw=>c_cKeyB V b f _ hok w (mC hw) (shr_w9 hgb)) ?_);refine aL 4 rfl (sA rfl rfl sz_33 mO (hl:=mL) (h:=?_));refine aA 5 ?_;refine aP 6 rfl (KO (v:=Iz 0) rfl) (aE (KN (⟨[_,_,_],.cons ⟨_,_,_,rfl,mM,by exact KD u33 rfl sz_33⟩ (.cons rfl (.cons rfl .nil)),fun a w' hr=>⟨_,_,⟨rfl,rfl⟩,rfl,hr.out mS rfl⟩⟩)))
theorem c_kTryX (V:Cv) (b f:Nat) (hok:V.Ok) (dk:Nat) (hdk:dk = 1∨dk = 2∨dk = 3∨dk = 4) (d n:Nat) (K U:ByteArray) (hK:K.size≤64) (hU:U.size≤64) (hn:64<n) (w:World) (hH:∀ x,x∈([.blk d ⟨true,gnL dk K U (n),79,(0,0)⟩]++[.blk b ⟨false,opL V f,100,(0,0)⟩]:List Item)→x.holds w) (hd:([.blk d ⟨true,gnL dk K U (n),79,(0,0)⟩]++[.blk b ⟨false,opL V f,100,(0,0)⟩]:List Item).Pairwise Apart)  : Calls Tryz.prog 37 ([Pz b,.func (.func 36) #[Pz d] #[]]:List Value).toArray w (fun e w'=>∃ (u:Value) (x':Item),(u = .tuple #[natV 0,.bool false,Iz 1103]∧x' = .blk d ⟨true,gnL dk K U (n),79,(0,0)⟩)∧e = .returned u∧Outcome w [.blk d ⟨true,gnL dk K U (n),79,(0,0)⟩] [x'] w'):=by
  have hmo:=hok.mt
  have hnW:=hmo.lt9
  have hn3:=hmo.three
  have hn0:V.n≠0:=by omega
  have hnp:0<V.n:=by omega
  have hnb:nby V.n≤72:=by have:=KAM hnW; unfold nby; omega
  have hbl:=KAM hnW
  have hn8:blen V.n≤8*nby V.n:=by unfold nby; omega
  refine KAO [.blk d ⟨true,gnL dk K U (n),79,(0,0)⟩,.blk b ⟨false,opL V f,100,(0,0)⟩] (N:=45) (rs:=[.cell 4 33,.tmp 5,.tmp 6]) Tryz.func37 rfl Tryz.ntmps37 Tryz.results37 (Nb rfl) hH hd rfl rfl ?_
  refine KB (KA (oS (mk (KK zr_33) (fun b4=>?_))));refine oA ?_;refine oP (KO (v:=Iz 0) rfl) (KC (KB (KA (oM (oM ?_)))));refine oS (cF rfl en_48 rfl (fun w hw=>c_cBytes V b f w (mC hw) hbl) ?_);refine LOps.step rfl (Kg (first:=[Pz d]) (caps:=[]) rfl en_36 rfl (Nb rfl) sR wK (fun w hH hd=>c_dgenX dk hdk d n K U (nby V.n) om hn w hH hd) ?_)
  rintro _ _ ⟨rfl,rfl⟩
  refine oM ?_;refine oX ?_;refine oX ?_;refine oA (oA (KC (KB (KB (KA (oM ?_))))));refine oP (bT rfl rfl (KAn (b:=0)) dc) (KC (KS rfl (KB (KA ?_))));refine oP (KJ (KX pl_33 zr_33 rfl rfl) (show _ = natV 0 by unfold natV natL; rw [← vec_zeros 9])) ?_;refine oM ?_;refine oT rfl rfl sz_33 ?_;refine oA (oA (KC (KN ?_)));refine ⟨[_,_,_],.cons ⟨_,_,_,rfl,mM,by exact KD u33 rfl sz_33⟩ (.cons rfl (.cons rfl .nil)),fun a w' hr=>⟨_,_,⟨rfl,rfl⟩,rfl,hr.out mS rfl⟩⟩
noncomputable def sgR (V:Cv) (x:Nat):Nat:=xv (pmul V.A V.G x)%V.n
noncomputable def sgS (V:Cv) (z D x:Nat):Nat:=(z+sgR V x*D%V.n)%V.n*invM x V.n%V.n
abbrev sgK (V:Cv) (x:Nat):Prop:=x≠0∧x<V.n
def sgO (V:Cv) (z D x:Nat):Prop:=sgR V x≠0∧sgS V z D x≠0
open Classical in
noncomputable def sgE (V:Cv) (dk z D:Nat):Nat→Nat→ByteArray→ByteArray→Nat→(Nat×Nat×Nat×Nat)×ByteArray×ByteArray×Nat
  | 0,i,K,U,n=>((0,0,64,2604),K,U,n)
  | q+1,i,K,U,n =>
    if 64<n then ((0,0,i,2603),K,U,n) else
    if sgK V (tryE V (genB dk K U (nby V.n)))∧sgO V z D (tryE V (genB dk K U (nby V.n))) then ((sgR V (tryE V (genB dk K U (nby V.n))),sgS V z D (tryE V (genB dk K U (nby V.n))),i+1,0),(genS dk K U (nby V.n)).1,(genS dk K U (nby V.n)).2,n+1)
    else sgE V dk z D q (i+1) (genS dk K U (nby V.n)).1 (genS dk K U (nby V.n)).2 (n+1)
theorem sgE_full {V:Cv} {dk z D q i n:Nat} {K U:ByteArray} (h:64<n):sgE V dk z D (q+1) i K U n = ((0,0,i,2603),K,U,n):=if_pos h
theorem sgE_got {V:Cv} {dk z D q i n x:Nat} {K U:ByteArray} (hx:tryE V (genB dk K U (nby V.n)) = x) (h:¬ 64<n) (h2:sgK V x) (h3:sgO V z D x):sgE V dk z D (q+1) i K U n = ((sgR V x,sgS V z D x,i+1,0),(genS dk K U (nby V.n)).1,(genS dk K U (nby V.n)).2,n+1):=by
  subst hx; exact (if_neg h).trans (if_pos ⟨h2,h3⟩)
theorem sgE_next {V:Cv} {dk z D q i n x:Nat} {K U:ByteArray} (hx:tryE V (genB dk K U (nby V.n)) = x) (h:¬ 64<n) (h2:¬ (sgK V x∧sgO V z D x)):sgE V dk z D (q+1) i K U n = sgE V dk z D q (i+1) (genS dk K U (nby V.n)).1 (genS dk K U (nby V.n)).2 (n+1):=by
  subst hx; exact (if_neg h).trans (if_neg h2)
theorem sg_cases (n:Nat) (V:Cv) (x:Nat):64<n∨(¬ 64<n∧¬ sgK V x)∨(¬ 64<n∧sgK V x):=by
  rcases Nat.lt_or_ge 64 n with h|h
  · exact .inl h
  · rcases Classical.em (sgK V x) with h2|h2
    · exact .inr (.inr ⟨by omega,h2⟩)
    · exact .inr (.inl ⟨by omega,h2⟩)
theorem sg_cases2 (V:Cv) (z D x:Nat):sgR V x = 0∨(sgR V x≠0∧sgS V z D x = 0)∨sgO V z D x:=by
  rcases Classical.em (sgR V x = 0) with h|h
  · exact .inl h
  · rcases Classical.em (sgS V z D x = 0) with h2|h2
    · exact .inr (.inl ⟨h,h2⟩)
    · exact .inr (.inr ⟨h,h2⟩)
theorem c_eSign (tb:Option Nat) (tr:TrRow) (l:List Nat) (id:Int) (V:Cv) (D:Nat) (hD:D≠0∧D<V.n) (k:Nat) (hk:k = 1∨k = 2∨k = 3∨k = 4) (msg:ByteArray) (hmsg:msg.size≤140737488351232) (dk:Nat) (hdk:dk = 1∨dk = 2∨dk = 3∨dk = 4) (d n:Nat) (K U:ByteArray) (hK:K.size≤64) (hU:U.size≤64) (R S T E:Nat) (K2 U2:ByteArray) (n2:Nat) (w:World) (hH:∀ x,x∈([.blk d ⟨true,gnL dk K U (n),79,(0,0)⟩,trI tb tr l]++[]:List Item)→x.holds w) (hd:([.blk d ⟨true,gnL dk K U (n),79,(0,0)⟩,trI tb tr l]++[]:List Item).Pairwise Apart) (h:cvI id = some V) (hm:sgE V dk (digE V k msg) D 64 0 K U n = ((R,S,T,E),K2,U2,n2)) (hl:l.length≤70000000):Calls Tryz.prog 15 ([trV tb,.int .i64 id,Iz k,natV D,.string msg,Pz d]:List Value).toArray w (fun e w'=>∃ (u:Value) (x':Item) (y':Item),(u = .tuple #[sgV R S,Iz T,Iz E]∧x' = .blk d ⟨true,gnL dk K2 U2 (n2),79,(0,0)⟩∧∃ tr2 l2,y' = trI tb tr2 l2∧l2.length≤l.length+64*2500)∧e = .returned u∧Outcome w [.blk d ⟨true,gnL dk K U (n),79,(0,0)⟩,trI tb tr l] [x',y'] w'):=by
  obtain ⟨hok,hid⟩:=KAw h
  have hbb:=hok.bounds
  have hpW:V.p<W9:=Ks hbb.2.1
  have hnW:V.n<W9:=Ks hbb.2.2.2.2.2.2.1
  have hbl:=KAM hnW
  have hnb:nby V.n≤72:=by (unfold nby; omega)
  have hmo:=hok.mt
  have hn3:=hmo.three
  have hn0:V.n≠0:=by omega
  have hnp:0<V.n:=by omega
  have hs8:=KCR hk
  obtain ⟨m,hmv⟩:∃ m,(blen V.n+3)/4 = m:=⟨_,rfl⟩
  have hm144:m≤144:=by omega
  refine KAO [.blk d ⟨true,gnL dk K U (n),79,(0,0)⟩,trI tb tr l] (N:=102) (rs:=[.cell 12 37,.tmp 13,.tmp 14]) Tryz.func15 rfl Tryz.ntmps15 Tryz.results15 (Nb rfl) hH hd rfl rfl ?_
  refine KB (KA (oS (mB (fun b9=>?_))));refine oS (mk (KK zr_37) (fun b12=>?_));refine oP (KO (v:=Iz 0) rfl) (oP (KO (v:=Iz 0) rfl) (KC (KB (KA (oM ?_)))));refine oS (oOpen h rfl rfl (fun b f bd=>?_));refine oA (KC (KB (LCode.block (KB (KA (oM ?_))))));refine oP (KJ (KAI u24 rfl rfl) (show _ = Value.bool false from rfl)) (oA (KC ?_));refine KH rfl (KB (KA (oM ?_)));refine oP (KJ (KAI u81 rfl rfl) (show _ = Value.bool false from rfl)) (oA (KC ?_));refine KH rfl (KB (KA (oM ?_)));refine oS (cF rfl en_31 rfl (fun w hw=>c_hSize k hk w) ?_);refine oP (bF rfl rfl (Ku (b:=0)) om) (oA (KC ?_));refine KH rfl (KB (KA (oM ?_)));refine oD dNa ?_;refine oS (cF rfl en_38 rfl (fun w hw=>c_cKeyT V b f D w (mC hw) (Nat.lt_trans hD.2 hnW) hnW hD.1 hD.2) ?_);refine oP (KJ (KAH rfl) (show _ = Value.bool false from rfl)) (oA (KC ?_))
  refine KH rfl (KM (KB (KA (oM ?_))));refine LOps.step rfl (Kg (first:=[]) (caps:=[]) rfl en_39 rfl (Nb rfl) sR wK (fun w hH hd=>c_eOf V b f hok w hH hd) ?_)
  rintro _ _ ⟨bm,rfl,rfl⟩
  refine oM (oM (oM ?_));refine oS (cF rfl en_40 rfl (fun w hw=>c_eDigest V b f hok k hk msg hmsg w (mC hw)) ?_);refine oS (mk (KK zr_90) (fun b16=>?_));refine oS (mk (KK zr_33) (fun b17=>?_));refine oT rfl rfl sz_90 ?_;refine oT rfl rfl sz_33 ?_;refine KC (KB (KB (KA (oP (Kf (v:=Iz 0) rfl) (KC (LCode.block ?_))))));refine Kc (α:=Nat×ByteArray×ByteArray×Nat×TrRow×List Nat) (fun x=>x.1≤64∧x.2.1.size≤64∧x.2.2.1.size≤64∧x.2.2.2.2.2.length≤l.length+x.1*2500∧sgE V dk (digE V k msg) D (64-x.1) x.1 x.2.1 x.2.2.1 x.2.2.2.1 = ((R,S,T,E),K2,U2,n2)) (fun x=>⟨[(0,trV tb),(2,Iz k),(5,Pz d),(9,Pz b9),(12,Pz b12),(15,Pz b),(16,Pz b16),(17,Pz b17),(51,Iz x.1)],[.blk d ⟨true,gnL dk x.2.1 x.2.2.1 (x.2.2.2.1),79,(0,0)⟩,trI tb x.2.2.2.2.1 x.2.2.2.2.2,.blk b ⟨false,opL V f,100,(0,0)⟩,.blk f ⟨false,fldL V.p bd,165,(0,0)⟩,.blk bd ⟨false,dvL V.p,269,(0,0)⟩,.blk bm ⟨true,mtL V.n (nw V.n) (mtL0 V.n) (mtR (nw V.n)*mtR (nw V.n)%V.n),201,(0,0)⟩,.blk b16 ⟨true,[Pz b,Pz bm],90,(0,0)⟩,.blk b9 ⟨true,natL D,33,(0,0)⟩,.blk b17 ⟨true,natL (digE V k msg),33,(0,0)⟩,.blk b12 ⟨true,vec .u64 9 (fun _=>0)++vec .u64 9 (fun _=>0),37,(0,0)⟩]⟩) (fun x=>64-x.1) ((0,K,U,n,tr,l)) (⟨Nat.zero_le _,hK,hU,by dsimp only; omega,hm⟩) (Ka ⟨rfl,rfl,rfl,rfl,rfl,rfl,rfl,rfl,rfl,trivial⟩ mS) ?_
  rintro ⟨i,K1,U1,n1,tr1,l1⟩ ⟨hi,hK1,hU1,hl1,hm1⟩
  dsimp only at hi hK1 hU1 hl1 hm1 ⊢
  refine KB (KA (oP (KG rfl rfl (KAA (b:=64))) (KC (KB ?_))))
  first|refine KQ rfl (fun h52=>?_) (fun h52=>?_)|refine KR rfl (fun h52=>?_) (fun h52=>?_)
  ·
   have h52:i<64:=h52
   obtain ⟨q,hq⟩:∃ q,64-i = q+1:=⟨63-i,by omega⟩
   have hm0:=hm1
   rw [hq] at hm0
   obtain ⟨x0,hx0⟩:∃ x0,tryE V (genB dk K1 U1 (nby V.n)) = x0:=⟨_,rfl⟩
   refine KM (KB (LCode.block (KB (KA (oM (oA (KC (KB ?_))))))))
   rcases sg_cases n1 V x0 with hn1|⟨hn1,hx1⟩|⟨hn1,hx1⟩
   ·
    refine KA (oM (oM ?_));refine oP (Kw rfl) (LOps.step rfl (Kg (first:=[]) (caps:=[]) rfl en_37 rfl (Nb rfl) sR wK (fun w hH hd=>c_kTryX V b f hok dk hdk d n1 K1 U1 hK1 hU1 hn1 w hH hd) ?_))
    rintro _ _ ⟨rfl,rfl⟩
    refine oM ?_;refine oX ?_;refine oX ?_;refine oX ?_;refine oS (mk (KK zr_33) (fun b19=>?_));refine oT rfl rfl sz_33 ?_;refine oA (oA (KC (KB (KB (KA (oM ?_))))));refine oP (bT rfl rfl (KAn (b:=0)) dc) (KC (KS rfl (KB ?_)))
    have he:=(hm0.symm.trans (sgE_full hn1)).symm
    simp only [Prod.mk.injEq] at he
    obtain ⟨⟨rfl,rfl,rfl,rfl⟩,rfl,rfl,rfl⟩:=he
    refine KA (oP (KJ (KX pl_37 zr_37 rfl rfl) (show _ = sgV 0 0 from sg_zero)) (oM ?_));refine LOps.step rfl (sA rfl rfl sz_37 (by exact KCX _ _) (hl:=by exact KAv _ _) (h:=?_));refine oA ?_;refine oP (KO (v:=Iz 2603) rfl) (KC (KN (⟨[_,_,_],.cons ⟨_,_,_,rfl,mM,by exact KD u37 rfl sz_37⟩ (.cons rfl (.cons rfl .nil)),fun a w' hr=>⟨_,_,_,⟨rfl,rfl,tr1,l1,rfl,by omega⟩,rfl,hr.out mS rfl⟩⟩)))
   ·
    refine KA (oM (oM ?_));refine oP (Kw rfl) (LOps.step rfl (Kg (first:=[]) (caps:=[]) rfl en_37 rfl (Nb rfl) sR wK (fun w hH hd=>c_kTry V b f hok dk hdk d n1 K1 U1 hK1 hU1 om w hH hd) ?_))
    rintro _ _ ⟨rfl,rfl⟩
    rw [hx0,decide_eq_false hx1]
    refine oM ?_;refine oX ?_;refine oX ?_;refine oX ?_;refine oS (mk (KK zr_33) (fun b19=>?_));refine oT rfl rfl sz_33 ?_;refine oA (oA (KC (KB (KB (KA (oM ?_))))));refine oP (bF rfl rfl (KAn (b:=0)) dc) (KC (KH rfl (KM (KB (KB (KA (oM ?_)))))));refine oP (KAH rfl) (KC (KS rfl (Kb (KA (oP (KG rfl rfl (Kj (b:=1) om)) (oM (KC ?_)))))));refine ⟨(i+1,_,_,n1+1,tr1,l1),⟨by dsimp only; omega,(KBi hdk K1 hK1 hU1 _).1,(KBi hdk K1 hK1 hU1 _).2,by dsimp only; omega,?_⟩,by dsimp only; omega,Ka ⟨rfl,rfl,rfl,rfl,rfl,rfl,rfl,rfl,rfl,trivial⟩ mS⟩
    dsimp only
    rw [show 64-(i+1) = q from by omega]
    exact (sgE_next hx0 hn1 (fun h=>hx1 h.1)).symm.trans hm0
   refine KA (oM (oM ?_));refine oP (Kw rfl) (LOps.step rfl (Kg (first:=[]) (caps:=[]) rfl en_37 rfl (Nb rfl) sR wK (fun w hH hd=>c_kTry V b f hok dk hdk d n1 K1 U1 hK1 hU1 om w hH hd) ?_))
   rintro _ _ ⟨rfl,rfl⟩
   rw [hx0,decide_eq_true hx1]
   refine oM ?_;refine oX ?_;refine oX ?_;refine oX ?_;refine oS (mk (KK zr_33) (fun b19=>?_));refine oT rfl rfl sz_33 ?_;refine oA (oA (KC (KB (KB (KA (oM ?_))))));refine oP (bF rfl rfl (KAn (b:=0)) dc) (KC (KH rfl (KM (KB (KB (KA (oM ?_)))))));refine oP (KAH rfl) (KC (KH rfl (KM (KB (KA (oM (oM (oM ?_))))))));refine oD dNa ?_;refine LOps.step rfl (KBv (first:=[]) (r:=tr1) (l:=l1) (l':=l1++evN m) rfl en_42 rfl (Nb rfl) mP (fun w hw hn=>c_bTimes tb tr1 l1 V b f bd hok x0 hx1.2 m hmv w (mC hw) om (mC hw) (mC hw) (mC hw) (hn _ mM) (hn _ mM) (hn _ mM)) ?_)
   intro r1
   refine oP (Det.field u47 rfl rfl (KCd u33 rfl sz_33 (pt_x0 _ _ _))) (oS (cF rfl en_41 rfl (fun w hw=>c_eRest V b f hok _ (Nat.lt_trans (xv_lt _) hpW) w (mC hw)) ?_));refine oS (mk (KK zr_33) (fun b22=>?_));refine oT rfl rfl sz_33 ?_;refine KC (KB (rD [13] (aD 0 rfl (dL rfl (hv:=by exact KD u90 rfl sz_90)) ?_)));refine aD 1 rfl (dL rfl (hv:=by exact KD u90 rfl sz_90)) ?_;refine aD 2 rfl dNa ?_;refine aD 3 rfl (dL rfl (hv:=by exact KD u90 rfl sz_90)) ?_;refine aD 4 rfl dNa ?_;refine aD 5 rfl dNa ?_;refine aD 8 rfl (dL rfl (hv:=by exact KD u90 rfl sz_90)) ?_;refine aD 9 rfl dNa ?_;refine KAR ?_;refine Kl 12 rfl (.inl zr_33) (Nb rfl) rfl rfl rfl ?_
   refine LAnyP.step 6 rfl rfl rfl (Nb rfl) kr rfl (Ke (first:=[]) rfl en_43 rfl (fun w hw=>c_eMul V b f bm hok (sgR V x0) D (Nat.mod_lt _ hnp) hD.2 w (mC hw) (show (Item.blk bm ⟨false,mtL V.n (nw V.n) (mtL0 V.n) (mtR (nw V.n)*mtR (nw V.n)%V.n),201,(0,0)⟩).holds w from hw (.blk bm ⟨true,mtL V.n (nw V.n) (mtL0 V.n) (mtR (nw V.n)*mtR (nw V.n)%V.n),201,(0,0)⟩) mM))) ?_
   rintro _ _ ⟨rfl,rfl⟩
   refine LAnyP.step 7 rfl rfl rfl (Nb rfl) kr rfl (Ke (first:=[]) rfl en_44 rfl (fun w hw=>c_eAdd V b f bm hok (digE V k msg) (sgR V x0*D%V.n) (Nat.mod_lt _ hnp) (Nat.mod_lt _ hnp) w (mC hw) (show (Item.blk bm ⟨false,mtL V.n (nw V.n) (mtL0 V.n) (mtR (nw V.n)*mtR (nw V.n)%V.n),201,(0,0)⟩).holds w from hw (.blk bm ⟨true,mtL V.n (nw V.n) (mtL0 V.n) (mtR (nw V.n)*mtR (nw V.n)%V.n),201,(0,0)⟩) mM))) ?_
   rintro _ _ ⟨rfl,rfl⟩
   refine LAnyP.step 10 rfl rfl rfl (Nb rfl) kr rfl (Ke (first:=[]) rfl en_45 rfl (fun w hw=>c_eInv V b f bm hok x0 hx1.1 hx1.2 w (mC hw) (show (Item.blk bm ⟨false,mtL V.n (nw V.n) (mtL0 V.n) (mtR (nw V.n)*mtR (nw V.n)%V.n),201,(0,0)⟩).holds w from hw (.blk bm ⟨true,mtL V.n (nw V.n) (mtL0 V.n) (mtR (nw V.n)*mtR (nw V.n)%V.n),201,(0,0)⟩) mM))) ?_
   rintro _ _ ⟨rfl,rfl⟩
   refine LAnyP.step 11 rfl rfl rfl (Nb rfl) kr rfl (Ke (first:=[]) rfl en_43 rfl (fun w hw=>c_eMul V b f bm hok ((digE V k msg+sgR V x0*D%V.n)%V.n) (invM x0 V.n) (Nat.mod_lt _ hnp) (invM_lt hnp) w (mC hw) (show (Item.blk bm ⟨false,mtL V.n (nw V.n) (mtL0 V.n) (mtR (nw V.n)*mtR (nw V.n)%V.n),201,(0,0)⟩).holds w from hw (.blk bm ⟨true,mtL V.n (nw V.n) (mtL0 V.n) (mtR (nw V.n)*mtR (nw V.n)%V.n),201,(0,0)⟩) mM))) ?_
   rintro _ _ ⟨rfl,rfl⟩
   refine pE (fun b23=>?_);refine Kv ?_;refine aL 13 rfl (sA rfl rfl sz_33 mO (hl:=mL) (h:=?_));refine aE (KB ?_)
   rcases sg_cases2 V (digE V k msg) D x0 with hz1|⟨hz0,hz2⟩|hz
   ·
    have hRw:sgR V x0<W9:=Nat.lt_trans (Nat.mod_lt _ hnp) hnW
    have hSw:sgS V (digE V k msg) D x0<W9:=Nat.lt_trans (Nat.mod_lt _ hnp) hnW
    refine KA (oD dNa ?_);refine oP (KJ (KX pl_33 zr_33 rfl rfl) (show _ = natV 0 by unfold natV natL; rw [← vec_zeros 9])) ?_;refine oP (KJ (KBh kr (fun w=>KBI (sgR V x0) 0 hRw KCC 10000 dc w) rfl rfl) (show _ = Value.bool false by rw [decide_eq_true hz1]; rfl)) ?_;refine oM ?_;refine oK (oK (oK (oP (KT rfl rfl) (KC (KH rfl (KM (KA (oP (KG rfl rfl (Kj (b:=1) om)) (oM (KC ?_))))))))));refine ⟨(i+1,_,_,n1+1,r1,l1++evN m),⟨by dsimp only; omega,(KBi hdk K1 hK1 hU1 _).1,(KBi hdk K1 hK1 hU1 _).2,by simp only [List.length_append,KDb]; omega,?_⟩,by dsimp only; omega,Ka ⟨rfl,rfl,rfl,rfl,rfl,rfl,rfl,rfl,rfl,trivial⟩ mS⟩
    dsimp only
    rw [show 64-(i+1) = q from by omega]
    exact (sgE_next hx0 hn1 (fun h=>h.2.1 hz1)).symm.trans hm0
   ·
    have hRw:sgR V x0<W9:=Nat.lt_trans (Nat.mod_lt _ hnp) hnW
    have hSw:sgS V (digE V k msg) D x0<W9:=Nat.lt_trans (Nat.mod_lt _ hnp) hnW
    refine KA (oD dNa ?_);refine oP (KJ (KX pl_33 zr_33 rfl rfl) (show _ = natV 0 by unfold natV natL; rw [← vec_zeros 9])) ?_;refine oP (KJ (KBh kr (fun w=>KBI (sgR V x0) 0 hRw KCC 10000 dc w) rfl rfl) (show _ = Value.bool true by rw [decide_eq_false hz0]; rfl)) ?_;refine oM ?_;refine Kt rfl rfl dNa (Nb rfl) ?_;refine oGP (KJ (KX pl_33 zr_33 rfl rfl) (show _ = natV 0 by unfold natV natL; rw [← vec_zeros 9])) ?_;refine oGP (KJ (KBh kr (fun w=>KBI (sgS V (digE V k msg) D x0) 0 hSw KCC 10000 dc w) rfl rfl) (show _ = Value.bool false by rw [decide_eq_true hz2]; rfl)) ?_;refine oP (Kd rfl rfl) (KC (KH rfl (KM (KA (oP (KG rfl rfl (Kj (b:=1) om)) (oM (KC ?_)))))));refine ⟨(i+1,_,_,n1+1,r1,l1++evN m),⟨by dsimp only; omega,(KBi hdk K1 hK1 hU1 _).1,(KBi hdk K1 hK1 hU1 _).2,by simp only [List.length_append,KDb]; omega,?_⟩,by dsimp only; omega,Ka ⟨rfl,rfl,rfl,rfl,rfl,rfl,rfl,rfl,rfl,trivial⟩ mS⟩
    dsimp only
    rw [show 64-(i+1) = q from by omega]
    exact (sgE_next hx0 hn1 (fun h=>h.2.2 hz2)).symm.trans hm0
   have hRw:sgR V x0<W9:=Nat.lt_trans (Nat.mod_lt _ hnp) hnW
   have hSw:sgS V (digE V k msg) D x0<W9:=Nat.lt_trans (Nat.mod_lt _ hnp) hnW
   refine KA (oD dNa ?_);refine oP (KJ (KX pl_33 zr_33 rfl rfl) (show _ = natV 0 by unfold natV natL; rw [← vec_zeros 9])) ?_;refine oP (KJ (KBh kr (fun w=>KBI (sgR V x0) 0 hRw KCC 10000 dc w) rfl rfl) (show _ = Value.bool true by rw [decide_eq_false hz.1]; rfl)) ?_;refine oM ?_;refine Kt rfl rfl dNa (Nb rfl) ?_;refine oGP (KJ (KX pl_33 zr_33 rfl rfl) (show _ = natV 0 by unfold natV natL; rw [← vec_zeros 9])) ?_;refine oGP (KJ (KBh kr (fun w=>KBI (sgS V (digE V k msg) D x0) 0 hSw KCC 10000 dc w) rfl rfl) (show _ = Value.bool true by rw [decide_eq_false hz.2]; rfl)) ?_;refine oP (Kd rfl rfl) (KC (KS rfl (KB ?_)))
   have he:=(hm0.symm.trans (sgE_got hx0 hn1 hx1 hz)).symm
   simp only [Prod.mk.injEq] at he
   obtain ⟨⟨rfl,rfl,rfl,rfl⟩,rfl,rfl,rfl⟩:=he
   refine KA (oD dNa ?_);refine oD dNa ?_;refine oP (KX pl_37 zr_37 rfl (fT (r':=(natL (sgR V x0)++(natL (sgS V (digE V k msg) D x0)))) (fS (A:=([]:List Value)) (B:=(vec .u64 9 (fun _=>0))) (D:=(vec .u64 9 (fun _=>0))) (cs:=natL (sgR V x0)) (fS (A:=(natL (sgR V x0))) (B:=(vec .u64 9 (fun _=>0))) (D:=([]:List Value)) (cs:=natL (sgS V (digE V k msg) D x0)) rfl)))) ?_;refine oM ?_;refine oP (KG rfl rfl (Kj (b:=1) om)) (LOps.step rfl (sA rfl rfl sz_37 (by exact KCX _ _) (hl:=by exact KAv _ _) (h:=?_)));refine oA ?_;refine oP (KO (v:=Iz 0) rfl) (KC (KN ?_));refine ⟨[_,_,_],.cons ⟨_,_,_,rfl,mM,by exact KD u37 rfl sz_37⟩ (.cons rfl (.cons rfl .nil)),fun a w' hr=>⟨_,_,_,⟨rfl,rfl,r1,l1++evN m,rfl,by simp only [List.length_append,KDb]; omega⟩,rfl,hr.out mS rfl⟩⟩
  have h52:¬ i<64:=h52
  obtain rfl:i = 64:=by omega
  have he:=(show ((0,0,64,2604),K1,U1,n1) = ((R,S,T,E),K2,U2,n2) from hm1)
  simp only [Prod.mk.injEq] at he
  obtain ⟨⟨rfl,rfl,rfl,rfl⟩,rfl,rfl,rfl⟩:=he
  refine Kb (KB (KA (oP (KJ (KX pl_37 zr_37 rfl rfl) (show _ = sgV 0 0 from sg_zero)) (LOps.step rfl (sA rfl rfl sz_37 (by exact KCX _ _) (hl:=by exact KAv _ _) (h:=?_))))));refine oP (KO (v:=Iz 64) rfl) (oP (KO (v:=Iz 2604) rfl) (KC (KN (⟨[_,_,_],.cons ⟨_,_,_,rfl,mM,by exact KD u37 rfl sz_37⟩ (.cons rfl (.cons rfl .nil)),fun a w' hr=>⟨_,_,_,⟨rfl,rfl,tr1,l1,rfl,by omega⟩,rfl,hr.out mS rfl⟩⟩))))
noncomputable def verE (V:Cv) (P:Pt V.p) (R:Nat):Bool:=!(iv P) && decide (xv P%V.n = R)
theorem c_eVer (id:Int) (V:Cv) (k:Nat) (hk:k = 1∨k = 2∨k = 3∨k = 4) (msg:ByteArray) (hmsg:msg.size≤140737488351232) (x y:Fin V.p) (hQ:On V.A V.B (.aff x y)) (R S:Nat) (w:World) (h:cvI id = some V) (h2:sgK V R) (h3:sgK V S):CF Tryz.prog 21 [.int .i64 id,Iz k,ptP (.aff x y:Pt V.p),.string msg,sgV R S] w (.bool (verE V (dualP V (digE V k msg*invM S V.n%V.n) (R*invM S V.n%V.n) (.aff x y)) R)):=by
  obtain ⟨hok,hid⟩:=KAw h
  have hbb:=hok.bounds
  have hpW:V.p<W9:=Ks hbb.2.1
  have hnW:V.n<W9:=Ks hbb.2.2.2.2.2.2.1
  have hbl:=KAM hnW
  have hnb:nby V.n≤72:=by (unfold nby; omega)
  have hmo:=hok.mt
  have hn3:=hmo.three
  have hn0:V.n≠0:=by omega
  have hnp:0<V.n:=by omega
  have hs8:=KCR hk
  have hR:=Nat.lt_trans h2.2 hnW
  have hS:=Nat.lt_trans h3.2 hnW
  have hX:=(pt_w9 hok (.aff x y)).1
  have hY:=(pt_w9 hok (.aff x y)).2
  have h1:onB V.p V.a V.b x.val y.val false = true:=onB_on hQ
  refine KV (N:=81) (rs:=[.tmp 10]) [] Tryz.func21 rfl Tryz.ntmps21 Tryz.results21 (Nb rfl) trivial rfl ?_
  refine KB (KA (oS (mB (fun b7=>?_))));refine oS (mB (fun b9=>?_));refine oA (KC (KB (KA (oM ?_))));refine oS (oOpen h rfl rfl (fun b f bd=>?_));refine oA (KC (KB (KB ?_)))
  rcases (show True from trivial) with _
  refine KA (oM ?_);refine oP (KJ (KAI u81 rfl rfl) (show _ = Value.bool false from rfl)) (oM ?_);refine oGM ?_;refine oGS (cF rfl en_31 rfl (fun w hw=>c_hSize k hk w) ?_);refine oGP (KJ (KG rfl rfl rfl) (show _ = Value.bool false by rw [beq_eq_false_iff_ne.2 (show ((hsize k:Nat):Int)≠0 by omega)])) (oP (KT rfl rfl) (oM ?_));refine oGP (KE (o':=18) u47 rfl rfl rfl sz_4 dc) (Kt rfl rfl (dL rfl (hv:=KI u4 rfl (by exact pt_gt _ _ _))) (Nb rfl) ?_);refine oP (KT rfl rfl) (oM ?_);refine oGM ?_;refine Kt rfl rfl dNb (Nb rfl) ?_;refine oGS (cF rfl en_55 rfl (fun w hw=>c_cOnB V b f bd hok x.val y.val false true w (mC hw) (mC hw) (mC hw) hX hY h1) ?_);refine oGP (KJ (KAH rfl) (show _ = Value.bool false from rfl)) (oP (KT rfl rfl) (oM ?_));refine oGM ?_;refine oGP (KE (o':=0) u37 rfl rfl rfl sz_33 dc) (Kt rfl rfl (dL rfl (hv:=by exact Kh u33 rfl sz_33 rfl (KL _))) (Nb rfl) ?_)
  refine oGS (cF rfl en_38 rfl (fun w hw=>c_cKeyB V b f R hok w (mC hw) hR) ?_);refine oGP (KJ (KAH rfl) (show _ = Value.bool false by rw [decide_eq_true h2]; rfl)) ?_;refine oP (KT rfl rfl) (oM ?_);refine oGM ?_;refine oGP (KE (o':=9) u37 rfl rfl rfl sz_33 dc) (Kt rfl rfl (dL rfl (hv:=by exact LoadV.last u33 rfl sz_33 rfl (KL _) (KL _))) (Nb rfl) ?_);refine oGS (cF rfl en_38 rfl (fun w hw=>c_cKeyB V b f S hok w (mC hw) hS) ?_);refine oGP (KJ (KAH rfl) (show _ = Value.bool false by rw [decide_eq_true h3]; rfl)) ?_;refine oP (KT rfl rfl) (KC (KH rfl (KM (KB (KA (oM ?_))))));refine LOps.step rfl (Kg (first:=[]) (caps:=[]) rfl en_39 rfl (Nb rfl) sR wK (fun w hH hd=>c_eOf V b f hok w hH hd) ?_)
  rintro _ _ ⟨bm,rfl,rfl⟩
  refine oS (mk (KK zr_90) (fun b12=>?_));refine oT rfl rfl sz_90 ?_;refine KC (KB (KA (oD (dL rfl (hv:=by exact KD u90 rfl sz_90)) ?_)));refine oP (KE (o':=9) u37 rfl rfl rfl sz_33 dc) (oD (dL rfl (hv:=by exact LoadV.last u33 rfl sz_33 rfl (KL _) (KL _))) ?_);refine oS (cF rfl en_45 rfl (fun w hw=>c_eInv V b f bm hok S h3.1 h3.2 w (mC hw) (show (Item.blk bm ⟨false,mtL V.n (nw V.n) (mtL0 V.n) (mtR (nw V.n)*mtR (nw V.n)%V.n),201,(0,0)⟩).holds w from hw (.blk bm ⟨true,mtL V.n (nw V.n) (mtL0 V.n) (mtR (nw V.n)*mtR (nw V.n)%V.n),201,(0,0)⟩) mM)) ?_);refine oS (mk (KK zr_33) (fun b13=>?_));refine oT rfl rfl sz_33 ?_;refine KC (KB (rD [16] (aM 0 ?_)));refine aD 1 rfl (dL rfl (hv:=by exact KD u90 rfl sz_90)) ?_;refine aM 2 ?_;refine aM 3 ?_;refine aM 4 ?_;refine aD 6 rfl dNa ?_;refine aD 8 rfl (dL rfl (hv:=by exact KD u90 rfl sz_90)) ?_
  refine aP 9 rfl (KE (o':=0) u37 rfl rfl rfl sz_33 dc) (aD 10 rfl (dL rfl (hv:=by exact Kh u33 rfl sz_33 rfl (KL _))) ?_);refine aD 11 rfl dNa ?_;refine aD 13 rfl dNb ?_;refine KAR ?_;refine Kl 15 rfl (.inl zr_47) (Nb rfl) rfl rfl rfl ?_;refine LAnyP.step 5 rfl rfl rfl (Nb rfl) kr rfl (Ke (first:=[]) rfl en_40 rfl (fun w hw=>c_eDigest V b f hok k hk msg hmsg w (mC hw))) ?_
  rintro _ _ ⟨rfl,rfl⟩
  refine LAnyP.step 7 rfl rfl rfl (Nb rfl) kr rfl (Ke (first:=[]) rfl en_43 rfl (fun w hw=>c_eMul V b f bm hok (digE V k msg) (invM S V.n) (Nat.mod_lt _ hnp) (invM_lt hnp) w (mC hw) (show (Item.blk bm ⟨false,mtL V.n (nw V.n) (mtL0 V.n) (mtR (nw V.n)*mtR (nw V.n)%V.n),201,(0,0)⟩).holds w from hw (.blk bm ⟨true,mtL V.n (nw V.n) (mtL0 V.n) (mtR (nw V.n)*mtR (nw V.n)%V.n),201,(0,0)⟩) mM))) ?_
  rintro _ _ ⟨rfl,rfl⟩
  refine LAnyP.step 12 rfl rfl rfl (Nb rfl) kr rfl (Ke (first:=[]) rfl en_43 rfl (fun w hw=>c_eMul V b f bm hok R (invM S V.n) h2.2 (invM_lt hnp) w (mC hw) (show (Item.blk bm ⟨false,mtL V.n (nw V.n) (mtL0 V.n) (mtR (nw V.n)*mtR (nw V.n)%V.n),201,(0,0)⟩).holds w from hw (.blk bm ⟨true,mtL V.n (nw V.n) (mtL0 V.n) (mtR (nw V.n)*mtR (nw V.n)%V.n),201,(0,0)⟩) mM))) ?_
  rintro _ _ ⟨rfl,rfl⟩
  refine LAnyP.step 14 rfl rfl rfl (Nb rfl) kr rfl (Ke (first:=[]) rfl en_56 rfl (fun w hw=>c_dualTimes V b f bd hok (digE V k msg*invM S V.n%V.n) (R*invM S V.n%V.n) (.aff x y) hQ (Nat.mod_lt _ hnp) (Nat.mod_lt _ hnp) w (mC hw) (mC hw) (mC hw))) ?_
  rintro _ _ ⟨rfl,rfl⟩
  refine pE (fun b14=>?_);refine Kv ?_;refine aL 16 rfl (sA rfl rfl sz_47 mO (hl:=mL) (h:=?_));refine aE (KB ?_)
  unfold verE
  obtain ⟨Pr0,hPr⟩:∃ P,dualP V (digE V k msg*invM S V.n%V.n) (R*invM S V.n%V.n) (.aff x y) = P:=⟨_,rfl⟩
  rw [hPr]
  rcases (show iv Pr0 = true∨iv Pr0 = false by cases iv Pr0 <;> simp) with hi|hi
  ·
   rw [hi]
   refine rD [] (aP 0 rfl (KE (o':=18) u47 rfl rfl rfl sz_4 dc) (aD 1 rfl (dL rfl (hv:=KI u4 rfl (by exact pt_gt _ _ _))) ?_));refine aP 2 rfl (KJ (KAH rfl) (show _ = Value.bool false from rfl)) (aM 3 ?_);refine aK 4 ?_;refine aK 5 ?_;refine aK 6 ?_;refine aK 7 ?_;refine aK 8 ?_;refine aK 9 ?_;refine aK 10 ?_;refine aP 11 rfl (KT rfl rfl) (aA 12 ?_);refine aE (KN (eN (.cons rfl .nil) ?_))
   rfl
  rw [hi]
  refine rD [] (aP 0 rfl (KE (o':=18) u47 rfl rfl rfl sz_4 dc) (aD 1 rfl (dL rfl (hv:=KI u4 rfl (by exact pt_gt _ _ _))) ?_));refine aP 2 rfl (KJ (KAH rfl) (show _ = Value.bool true from rfl)) (aM 3 ?_);refine aGM 4 ?_;refine aGP 5 rfl (KE (o':=0) u47 rfl rfl rfl sz_33 dc) (aGD 6 rfl (dL rfl (hv:=by exact Kh u33 rfl sz_33 rfl (KL _))) ?_);refine aGP 8 rfl (KE (o':=0) u37 rfl rfl rfl sz_33 dc) (aGD 9 rfl (dL rfl (hv:=by exact Kh u33 rfl sz_33 rfl (KL _))) ?_);refine aGO 7 rfl (cF rfl en_41 rfl (fun w hw=>c_eRest V b f hok _ (Nat.lt_trans (xv_lt _) hpW) w (mC hw)) ?_);refine aGP 10 rfl (KJ (KBw kr (fun w=>KBI (xv Pr0%V.n) R (Nat.lt_trans (Nat.mod_lt _ hnp) hnW) hR 10000 dc w) rfl rfl) rfl) ?_;refine aP 11 rfl (Kd rfl rfl) (aA 12 ?_);refine aE (KN (eN (.cons rfl .nil) ?_))
  rfl
open Classical in
open Grp
theorem bext {a b:ByteArray} (h:a.data.toList = b.data.toList):a = b:=by
  cases a; cases b; congr 1; exact Array.toList_inj.1 h
theorem cat_l (a b:ByteArray):(a++b).data.toList = a.data.toList++b.data.toList:=ByteArray.toList_data_append
theorem toS_l (l:List Nat):(toS l).data.toList = l.map UInt8.ofNat:=rfl
theorem ver_ok {V : Cv} (hok : V.Ok) {z D x : Nat} (hx : sgK V x) (ho : sgO V z D x) {Q : Pt V.p} (hQ : pmul V.A V.G D = Q) :
    verE V (dualP V (z*invM (sgS V z D x) V.n%V.n) (sgR V x*invM (sgS V z D x) V.n%V.n) Q) (sgR V x) = true:=by
  subst hQ
  have hn:=hok.order
  have hnp:0<V.n:=by have:=hn.1; omega
  have hS:sgS V z D x<V.n:=Nat.mod_lt _ hnp
  obtain ⟨hw1,hw2⟩:=invM_mul hn ho.2 hS
  obtain ⟨hi1,hi2⟩:=invM_mul hn hx.1 hx.2
  obtain ⟨w,hw⟩:∃ w,invM (sgS V z D x) V.n = w:=⟨_,rfl⟩
  obtain ⟨R,hR⟩:∃ R,sgR V x = R:=⟨_,rfl⟩
  have key:(z*w+R*w*D)%V.n = x%V.n:=by
    have e1:sgS V z D x*x%V.n = (z+R*D)%V.n:=by
      unfold sgS
      rw [hR,Nat.mod_mul_mod,Nat.add_mod_mod]
      have:(z+R*D)%V.n*invM x V.n*x%V.n = (z+R*D)*(x*invM x V.n)%V.n:=by
        rw [Nat.mul_assoc,Nat.mod_mul_mod,Nat.mul_comm (invM x V.n)]
      rw [this,Nat.mul_mod,hi2,Nat.mul_one,Nat.mod_mod]
    rw [hw] at hw2
    have e2:(z*w+R*w*D)%V.n = (z+R*D)*w%V.n:=by congr 1; rw [Nat.add_mul]; congr 1; ac_rfl
    rw [e2,← Nat.mod_mul_mod,← e1,Nat.mod_mul_mod]
    have e3:sgS V z D x*x*w = sgS V z D x*w*x:=by ac_rfl
    rw [e3,Nat.mul_mod,hw2,Nat.one_mul,Nat.mod_mod]
  have hP:dualP V (z*w%V.n) (R*w%V.n) (pmul V.A V.G D) = pmul V.A V.G x:=by
    have hon:=hok.on
    have hQ:=hok.mul hon D
    have hordQ:pmul V.A (pmul V.A V.G D) V.n = .inf:=by
      rw [← pmul_mul hok.crv hon,Nat.mul_comm,pmul_mul hok.crv hon,hok.ord]
      exact pmul_inf hok.fld (a:=V.A) (b:=V.B) D
    unfold dualP
    rw [← pmul_mod hok.crv hon hok.ord,← pmul_mod hok.crv hQ hordQ,← pmul_mul hok.crv hon,← pmul_add hok.crv hon,pmul_mod hok.crv hon hok.ord,Nat.mul_comm D,key,← pmul_mod hok.crv hon hok.ord]
  rw [hw,hR,hP]
  have hr:xv (pmul V.A V.G x)%V.n = R:=hR
  have hr0:R≠0:=hR ▸ ho.1
  unfold verE
  cases hp:pmul V.A V.G x with
  | inf =>
    rw [hp] at hr
    exact absurd (hr.symm.trans (Nat.zero_mod _)) hr0
  | aff a b =>
    rw [hp] at hr
    simp only [iv,Bool.not_false,Bool.true_and,decide_eq_true_eq]
    exact hr
open Grp
theorem c_affMulR (id:Int) (V:Cv) (K:Nat) (P R:Pt V.p) (w:World) (h:cvI id = some V) (hP:On V.A V.B P) (hK:K<W9) (hR:pmul V.A P K = R):CF Tryz.prog 30 [.int .i64 id,natV K,ptP P] w (.tuple #[ptP R,Iz 0]):=hR ▸ c_affMul id V K P w h hP hK
def shS (s:ByteArray) (k:Nat):ByteArray:=if k<s.size then s.extract 0 k else s
theorem shS_size (s:ByteArray) (k:Nat):(shS s k).size≤k:=by
  unfold shS
  split
  · rw [ByteArray.size_extract]; omega
  · omega
theorem c_rawPutOK (id:Int) (V:Cv) (R T:Nat) (w:World) (h:cvI id = some V) (hW:V.n<W9) (hR:R<V.n) (hT:T<V.n):CF Tryz.prog 16 [.int .i64 id,sgV R T] w (.tuple #[.string (rpS V R T),Iz 0]):=by
  have:=c_raw_Put2 id V R T w h (Nat.lt_trans hR hW) (Nat.lt_trans hT hW)
  rwa [(rp_ok hR hT).1] at this
theorem c_rawGetOK (id:Int) (V:Cv) (R T:Nat) (w:World) (h:cvI id = some V) (hnb:nby V.n≤72) (hR:R<V.n) (hT:T<V.n):CF Tryz.prog 17 [.int .i64 id,.string (rpS V R T)] w (.tuple #[sgV R T,Iz 0]):=by
  have:=c_raw_Get2 id V (rpS V R T) w h (by rw [(rp_ok hR hT).2,cat_size]; omega)
  rwa [(rg_rp hR hT).1,(rg_rp hR hT).2.1,(rg_rp hR hT).2.2] at this
theorem c_awakeT  (w:World)  : CF Tryz.prog 9 [] w (.bool true):=by
  obtain ⟨V,hV⟩:∃ V,V = cv13:=⟨_,rfl⟩
  have h:cvI 13 = some V:=by rw [hV]; rfl
  obtain ⟨hok,hid⟩:=KAw h
  have hn13:V.n = 223:=by rw [hV]; rfl
  obtain ⟨hb5,hb521,hba,hbb,hbx,hby,hbn,hbo,hbo2,hbb1,hbn1⟩:=hok.bounds
  have hsz:=hok.sz
  have hsp:=hsz.p
  have hsa:=hsz.a
  have hsb:=hsz.b
  have hp0:V.p≠0:=by omega
  have hpp:0<V.p:=by omega
  have hm17:∀ k,D.nw (k%V.p)≤17:=fun k=>Nat.le_trans (D.nw_mono (Nat.le_of_lt (Nat.mod_lt k hpp))) hsp
  have hnW:V.n<W9:=Ks hbn
  refine KV (N:=53) (rs:=[.tmp 0]) [] Tryz.func9 rfl Tryz.ntmps9 Tryz.results9 (Nb rfl) trivial rfl ?_
  refine KB (KA (oA (KC (KB (KA ?_)))));refine oS (cF rfl en_22 rfl (fun w hw=>c_curveGet 13 V w h) ?_);refine oM ?_;refine oX ?_;refine oX ?_;refine oS (mk (KK zr_53) (fun b1=>?_));refine LOps.step rfl (sA rfl rfl sz_53 (by first|exact acL_one _|exact acC_one _ _ _ _ _ _ _ _ _ _ _) (hl:=by first|exact acL_length _|exact acC_length _ _ _ _ _ _ _ _ _ _ _) (h:=?_));refine oA (KC (KB (KA ?_)));refine oP (KE (o':=28) u53 rfl rfl rfl sz_33 dc) (oD (dL rfl (hv:=by exact ac_ld_n _ _ _ _ _ _ _ _ _ _ _ _ _ _)) ?_);refine oP (KE (o':=37) u53 rfl rfl rfl sz_47 dc) (oD (KBL (dL rfl (hv:=by exact ac_ld_g _ _ _ _ _ _ _ _ _ _ _ _ _ _)) (g_val hok)) ?_);refine oS (cF rfl en_30 rfl (fun w hw=>c_affMulR 13 V V.n V.G .inf w h hok.on hnW hok.ord) ?_);refine oM ?_;refine oX ?_;refine oX ?_;refine oS (mk (KK zr_47) (fun b3=>?_));refine LOps.step rfl (sA rfl rfl sz_47 (by exact KAB _ _ _) (hl:=by exact KW _ _ _) (h:=?_))
  refine oA (KC (KB (KA ?_)));refine oS (cF rfl en_23 rfl (fun w hw=>c_One 1 w dc) ?_);refine oS (cF rfl en_24 rfl (fun w hw=>c_bMulN 13 V 1 V.G w h om (pmul_one hok.fld hok.on)) ?_);refine oM ?_;refine oX ?_;refine oX ?_;refine oS (mk (KK zr_47) (fun b5=>?_));refine LOps.step rfl (sA rfl rfl sz_47 (by exact KAB _ _ _) (hl:=by exact KW _ _ _) (h:=?_));refine oA (KC (KB (KA (oM ?_))));refine oS (cF rfl en_13 rfl (fun w hw=>c_Num _ w) ?_);refine oP (bT rfl rfl (Ku (b:=0)) (by first|rfl|assumption|omega|(simp; done))) ?_;refine oM ?_;refine oGM ?_;refine oGS (cF rfl en_13 rfl (fun w hw=>c_Num _ w) ?_);refine oGP (bT rfl rfl (Ku (b:=0)) (by first|rfl|assumption|omega|(simp; done))) ?_;refine oP (Kd rfl rfl) (oM ?_);refine oGP (KE (o':=18) u47 rfl rfl rfl sz_4 dc) (Kt rfl rfl (dL rfl (hv:=KI u4 rfl (by exact pt_gt _ _ _))) (Nb rfl) ?_);refine oP (Kd rfl rfl) (oM ?_)
  refine oGM ?_;refine oGS (cF rfl en_13 rfl (fun w hw=>c_Num _ w) ?_);refine oGP (bT rfl rfl (Ku (b:=0)) (by first|rfl|assumption|omega|(simp; done))) ?_;refine oP (Det.pick rfl rfl rfl) (oM ?_);refine Kt rfl rfl dNb (Nb rfl) ?_;refine oGP (KE (o':=37) u53 rfl rfl rfl sz_47 dc) (Kt rfl rfl (KBL (dL rfl (hv:=by exact ac_ld_g _ _ _ _ _ _ _ _ _ _ _ _ _ _)) (g_val hok)) (Nb rfl) ?_);refine oGP (KJ (KBw kr (fun w=>eq_ptP_t hok (P:=V.G) (Q:=V.G) (rfl) 10000 dc w) rfl rfl) (show _ = Value.bool true by rfl)) (oP (Det.pick rfl rfl rfl) (oM ?_));refine oGP (KE (o':=37) u53 rfl rfl rfl sz_47 dc) (oGP (KE (o':=55) u47 rfl rfl rfl sz_4 dc) (Kt rfl rfl (dL rfl (hv:=KI u4 rfl (by exact ac_gt_inf _ _ _ _ _ _ _ _ _ _ _))) (Nb rfl) ?_));refine oGP (KAH rfl) (oP (Det.pick rfl rfl rfl) (oA (KC (KN ?_))))
  refine eN (.cons rfl .nil) ?_
  rfl
theorem c_short (s:ByteArray) (k:Nat) (w:World)  : CF Tryz.prog 12 [.string s,Iz k] w (.string (shS s k)):=by
  refine KV (N:=13) (rs:=[.tmp 4]) [] Tryz.func12 rfl Tryz.ntmps12 Tryz.results12 (Nb rfl) trivial rfl ?_
  refine KB (KA (oA (KC (KB (KB (KA (oM ?_)))))));refine oP (KAQ u9 rfl) (oM ?_);refine oP (KG rfl rfl (KAb)) (KC ?_)
  first|refine KQ rfl (fun h8=>?_) (fun h8=>?_)|refine KR rfl (fun h8=>?_) (fun h8=>?_)
  ·
   have h8:k<s.size:=by have:=h8; omega
   rw [show shS s k = s.extract 0 k from if_pos h8]
   refine KB (KA (oM (oM ?_)));refine oP (KJ (KDB u9 rfl rfl om om) (by rw [Int.toNat_natCast])) ?_;refine oA (KC (KN ?_));refine eN (.cons rfl .nil) ?_
   rfl
  have h8:¬ k<s.size:=by have:=h8; omega
  rw [show shS s k = s from if_neg h8]
  refine KM (KB (KA (oM (oA (KC (KN ?_))))));refine eN (.cons rfl .nil) ?_
  rfl
theorem pmul_affT {V:Cv} (hok:V.Ok) {k:Nat} (h0:k≠0) (hn:k<V.n):∃ x y,pmul V.A V.G k = .aff x y:=by
  cases h:pmul V.A V.G k with
  | inf =>
    have:=pmul_order hok.crv hok.on hok.order (fun e=>by unfold Cv.G at e; cases e) hok.ord h
    exact absurd (Nat.le_of_dvd (Nat.pos_of_ne_zero h0) this) om
  | aff x y=>exact ⟨x,y,rfl⟩
theorem c_eVerT (v:Bool) (id:Int) (V:Cv) (k:Nat) (hk:k = 1∨k = 2∨k = 3∨k = 4) (msg:ByteArray) (hmsg:msg.size≤140737488351232) (x y:Fin V.p) (hQ:On V.A V.B (.aff x y)) (R T:Nat) (w:World) (h:cvI id = some V) (h2:sgK V R) (h3:sgK V T) (hv:verE V (dualP V (digE V k msg*invM T V.n%V.n) (R*invM T V.n%V.n) (.aff x y)) R = v):CF Tryz.prog 21 [.int .i64 id,Iz k,ptP (.aff x y:Pt V.p),.string msg,sgV R T] w (.bool v) :=
  hv ▸ c_eVer id V k hk msg hmsg x y hQ R T w h h2 h3
theorem c_st1  (w:World)  : CF Tryz.prog 210 [.agg #[]] w (.string (digS (toS (hashL 2 (ofS (⟨#[97,98,99]⟩:ByteArray)))))):=by
  refine KV (N:=11) (rs:=[.tmp 2]) [] Tryz.func210 rfl Tryz.ntmps210 Tryz.results210 (Nb rfl) trivial rfl ?_
  refine KB (KA (oS (mB (fun b1=>?_))));refine oA (KC (KB (KA ?_)));refine oS (cF rfl en_85 rfl (fun w hw=>c_hOf 2 dc (⟨#[97,98,99]⟩:ByteArray) dc w) ?_);refine oM ?_;refine oX ?_;refine oX ?_;refine oA (oA (KC (KB (KA (oM ?_)))));refine oS (cF rfl en_225 rfl (fun w hw=>KCa (toS (hashL 2 (ofS (⟨#[97,98,99]⟩:ByteArray)))) (by rw [KAL,KBe dc]; decide) w) ?_);refine oA (KC (KN ?_));refine eN (.cons rfl .nil) ?_
  rfl
theorem c_st2  (w:World)  : CF Tryz.prog 211 [.agg #[]] w (.string (digS (toS (hashL 4 (ofS (⟨#[97,98,99]⟩:ByteArray)))))):=by
  refine KV (N:=11) (rs:=[.tmp 2]) [] Tryz.func211 rfl Tryz.ntmps211 Tryz.results211 (Nb rfl) trivial rfl ?_
  refine KB (KA (oS (mB (fun b1=>?_))));refine oA (KC (KB (KA ?_)));refine oS (cF rfl en_85 rfl (fun w hw=>c_hOf 4 dc (⟨#[97,98,99]⟩:ByteArray) dc w) ?_);refine oM ?_;refine oX ?_;refine oX ?_;refine oA (oA (KC (KB (KA (oM ?_)))));refine oS (cF rfl en_225 rfl (fun w hw=>KCa (toS (hashL 4 (ofS (⟨#[97,98,99]⟩:ByteArray)))) (by rw [KAL,KBe dc]; decide) w) ?_);refine oA (KC (KN ?_));refine eN (.cons rfl .nil) ?_
  rfl
theorem c_st3  (w:World)  : CF Tryz.prog 212 [.agg #[]] w (.string (digS (hmacB 2 (toS (List.replicate 20 (11:UInt8).toNat)) (⟨#[72,105,32,84,104,101,114,101]⟩:ByteArray)))):=by
  refine KV (N:=12) (rs:=[.tmp 2]) [] Tryz.func212 rfl Tryz.ntmps212 Tryz.results212 (Nb rfl) trivial rfl ?_
  refine KB (KA (oS (mB (fun b1=>?_))));refine oA (KC (KB (KA ?_)));refine oS (cF rfl en_33 rfl (fun w hw=>c_Repeat 11 20 w dc) ?_);refine oS (cF rfl en_127 rfl (fun w hw=>c_mOf 2 dc (toS (List.replicate 20 (11:UInt8).toNat)) (⟨#[72,105,32,84,104,101,114,101]⟩:ByteArray) (by rw [KAL,List.length_replicate]; decide) dc w) ?_);refine oM ?_;refine oX ?_;refine oX ?_;refine oA (oA (KC (KB (KA (oM ?_)))));refine oS (cF rfl en_225 rfl (fun w hw=>KCa (hmacB 2 (toS (List.replicate 20 (11:UInt8).toNat)) (⟨#[72,105,32,84,104,101,114,101]⟩:ByteArray)) (by rw [KCP dc]; decide) w) ?_);refine oA (KC (KN ?_));refine eN (.cons rfl .nil) ?_
  rfl
open Grp
theorem dig32 (X:Nat):(digS (strOf (Kr 32 X))).size = 64:=by
  unfold digS strOf
  show (dgL _).toArray.size = 64
  rw [List.size_toArray,dgL_length,KBG]
  show 2*(strOf (Kr 32 X)).size = 64
  rw [KAs]
def stZ:ByteArray×ByteArray:=upd 2 (strOf (Kr 32 0xca851911349384bffe89de1cbdc46e6831e44d34a4fb935ee285dd14b71a7488)++strOf (Kr 16 0x659ba96c601dc69fc902940805ec0ca8)++⟨#[]⟩) (toS (List.replicate (hsize 2) 0),toS (List.replicate (hsize 2) 1))
theorem KBk:stZ.1.size≤64∧stZ.2.size≤64:=upd_size (k:=2) dc _ (by rw [KAL,List.length_replicate]; decide) (by rw [KAL,List.length_replicate]; decide)
theorem w9_lit {X:Nat} (h:Nat.ble (X+1) 13407807929942597099574024998205846127479365820592393377723561443721764030073546976801874298166903427690031858186486050853753882811946569946433649006084096 = true):X<W9:=by
  have h1:=Nb h
  refine Nat.lt_of_lt_of_le (Nat.lt_of_succ_le h1) ?_
  rw [show (13407807929942597099574024998205846127479365820592393377723561443721764030073546976801874298166903427690031858186486050853753882811946569946433649006084096:Nat) = 18446744073709551616^8 from by decide +kernel]
  exact Nat.pow_le_pow_right dc dc
theorem c_stGen  (w:World) (hH:∀ x,x∈([]++[]:List Item)→x.holds w) (hd:([]++[]:List Item).Pairwise Apart)  : Calls Tryz.prog 226 ([]:List Value).toArray w (fun e w'=>∃ (u:Value) (x':Item),(∃ d,u = Pz d∧x' = .blk d ⟨true,gnL 2 stZ.1 stZ.2 (1),79,(0,0)⟩)∧e = .returned u∧Outcome w [] [x'] w'):=by
  refine KAO [] (N:=10) (rs:=[.tmp 0]) Tryz.func226 rfl Tryz.ntmps226 Tryz.results226 (Nb rfl) hH hd rfl rfl ?_
  refine KB (KA (oA (KC (KB (KA ?_)))));refine oS (cF rfl en_230 rfl (fun w hw=>KDd (⟨#[99,97,56,53,49,57,49,49,51,52,57,51,56,52,98,102,102,101,56,57,100,101,49,99,98,100,99,52,54,101,54,56,51,49,101,52,52,100,51,52,97,52,102,98,57,51,53,101,101,50,56,53,100,100,49,52,98,55,49,97,55,52,56,56]⟩:ByteArray) 32 0xca851911349384bffe89de1cbdc46e6831e44d34a4fb935ee285dd14b71a7488 kr dc dc (w9_lit kr) (KBM (by decide +kernel)) w) ?_);refine oS (cF rfl en_230 rfl (fun w hw=>KDd (⟨#[54,53,57,98,97,57,54,99,54,48,49,100,99,54,57,102,99,57,48,50,57,52,48,56,48,53,101,99,48,99,97,56]⟩:ByteArray) 16 0x659ba96c601dc69fc902940805ec0ca8 kr dc dc (w9_lit kr) (KBM (by decide +kernel)) w) ?_);refine LOps.step rfl (Kg (first:=[]) (caps:=[]) (X:=[]) (RO:=[]) rfl en_11 rfl (Nb rfl) sR wK (fun w hH hd=>c_dNew 2 dc (strOf (Kr 32 0xca851911349384bffe89de1cbdc46e6831e44d34a4fb935ee285dd14b71a7488)) (strOf (Kr 16 0x659ba96c601dc69fc902940805ec0ca8)) ⟨#[]⟩ (by rw [KAs]; decide) (by rw [KAs]; decide) (by rw [KAs]; decide) dc w hH hd) ?_)
  rintro _ _ ⟨d,rfl,rfl⟩
  refine oM ?_;refine oX ?_;refine oX ?_;refine oA (oA (KC (KB (KA (oM (oA (KC (KN ?_))))))));refine ⟨[_],.cons rfl .nil,fun a w' hr=>⟨_,_,⟨d,rfl,rfl⟩,rfl,hr.out mS rfl⟩⟩
theorem c_st4  (w:World)  : CF Tryz.prog 213 [.agg #[]] w (.string (digS (genB 2 (genS 2 stZ.1 stZ.2 128).1 (genS 2 stZ.1 stZ.2 128).2 128))):=by
  refine KV (N:=16) (rs:=[.tmp 2]) [] Tryz.func213 rfl Tryz.ntmps213 Tryz.results213 (Nb rfl) trivial rfl ?_
  refine KB (KA (oS (mB (fun b1=>?_))));refine oA (KC (KB (KA ?_)));refine LOps.step rfl (Kg (first:=[]) (caps:=[]) (X:=[]) (RO:=[]) rfl en_226 rfl (Nb rfl) sR wK (fun w hH hd=>c_stGen w hH hd) ?_)
  rintro _ _ ⟨d,rfl,rfl⟩
  refine oA (KC (KB (KA (oM ?_))));refine LOps.step rfl (Kg (first:=[]) (caps:=[]) (X:=[.blk d ⟨true,gnL 2 stZ.1 stZ.2 (1),79,(0,0)⟩]) (RO:=[]) rfl en_36 rfl (Nb rfl) sR wK (fun w hH hd=>c_dgen 2 dc d 1 stZ.1 stZ.2 KBk.1 KBk.2 128 dc dc w hH hd) ?_)
  rintro _ _ ⟨rfl,rfl⟩
  refine KC (KB (KA (oM ?_)));refine LOps.step rfl (Kg (first:=[]) (caps:=[]) (X:=[.blk d ⟨true,gnL 2 (genS 2 stZ.1 stZ.2 128).1 (genS 2 stZ.1 stZ.2 128).2 (1+1),79,(0,0)⟩]) (RO:=[]) rfl en_36 rfl (Nb rfl) sR wK (fun w hH hd=>c_dgen 2 dc d 2 (genS 2 stZ.1 stZ.2 128).1 (genS 2 stZ.1 stZ.2 128).2 (KBi dc _ KBk.1 KBk.2 _).1 (KBi dc _ KBk.1 KBk.2 _).2 128 dc dc w hH hd) ?_)
  rintro _ _ ⟨rfl,rfl⟩
  refine oM ?_;refine oX ?_;refine oX ?_;refine oA (oA (KC (KB (KA (oM ?_)))));refine oS (cF rfl en_225 rfl (fun w hw=>KCa (genB 2 (genS 2 stZ.1 stZ.2 128).1 (genS 2 stZ.1 stZ.2 128).2 128) (by rw [genB_size dc _ (KBi dc _ KBk.1 KBk.2 _).2]; decide) w) ?_);refine oA (KC (KN ?_));refine eN (.cons rfl .nil) ?_
  rfl
theorem c_st7 (V:Cv) (hV:V = cv3) (R:Pt V.p) (hR:padd V.A V.G V.G = R) (w:World)  : CF Tryz.prog 216 [.agg #[]] w (.string (digS (strOf (Kr 32 (xv R)))++digS (strOf (Kr 32 (yv R))))):=by
  have h:cvI 3 = some V:=by rw [hV]; rfl
  obtain ⟨hok,hid⟩:=KAw h
  have hpW:V.p<W9:=Ks hok.bounds.2.1
  have hnW:V.n<W9:=Ks hok.bounds.2.2.2.2.2.2.1
  have hp6:V.p≤2^256:=by rw [hV]; exact Nb kr
  have hn6:V.n≤2^256:=by rw [hV]; exact Nb kr
  refine KV (N:=26) (rs:=[.tmp 2]) [] Tryz.func216 rfl Tryz.ntmps216 Tryz.results216 (Nb rfl) trivial rfl ?_
  refine KB (KA (oS (mB (fun b1=>?_))));refine oA (KC (KB (KA ?_)));refine oS (cF rfl en_22 rfl (fun w hw=>c_curveGet 3 V w h) ?_);refine oM ?_;refine oX ?_;refine oX ?_;refine oS (mk (KK zr_53) (fun b3=>?_));refine LOps.step rfl (sA rfl rfl sz_53 (by first|exact acL_one _|exact acC_one _ _ _ _ _ _ _ _ _ _ _) (hl:=by first|exact acL_length _|exact acC_length _ _ _ _ _ _ _ _ _ _ _) (h:=?_));refine oA (KC (KB (KA ?_)));refine oP (KE (o':=37) u53 rfl rfl rfl sz_47 dc) (oD (KBL (dL rfl (hv:=by exact ac_ld_g _ _ _ _ _ _ _ _ _ _ _ _ _ _)) (g_val hok)) ?_);refine oP (KE (o':=37) u53 rfl rfl rfl sz_47 dc) (oD (KBL (dL rfl (hv:=by exact ac_ld_g _ _ _ _ _ _ _ _ _ _ _ _ _ _)) (g_val hok)) ?_);refine oS (cF rfl en_229 rfl (fun w hw=>c_affAdd 3 V V.G V.G R w h hok.on hok.on hR) ?_);refine oM ?_;refine oX ?_;refine oX ?_;refine oS (mk (KK zr_47) (fun b5=>?_));refine LOps.step rfl (sA rfl rfl sz_47 (by exact KAB _ _ _) (hl:=by exact KW _ _ _) (h:=?_))
  refine oA (KC (KB (rD [] ?_)));refine aP 0 rfl (KE (o':=0) u47 rfl rfl rfl sz_33 dc) (aD 1 rfl (dL rfl (hv:=by exact Kh u33 rfl sz_33 rfl (KL _))) ?_);refine aP 3 rfl (KE (o':=9) u47 rfl rfl rfl sz_33 dc) (aD 4 rfl (dL rfl (hv:=by exact KCN _ _ _ _ _ _)) ?_);refine aO 2 rfl (cF rfl en_228 rfl (fun w hw=>c_stNum (xv R) (Nat.lt_trans (xv_lt R) hpW) (KBM (Nat.lt_of_lt_of_le (xv_lt R) hp6)) w) ?_);refine aO 5 rfl (cF rfl en_228 rfl (fun w hw=>c_stNum (yv R) (Nat.lt_trans (yv_lt R) hpW) (KBM (Nat.lt_of_lt_of_le (yv_lt R) hp6)) w) ?_);refine aP 6 rfl (KAh rfl rfl (by rw [dig32,dig32]; decide)) ?_;refine aA 7 ?_;refine aE (KN (eN (.cons rfl .nil) ?_))
  rfl
theorem c_stPriv  (w:World)  : CF Tryz.prog 231 [] w (natV 0xc9afa9d845ba75166b5c215767b1d6934e50c3db36e89b127b8a622b120f6721):=by
  refine KV (N:=2) (rs:=[.cell 0 33]) [] Tryz.func231 rfl Tryz.ntmps231 Tryz.results231 (Nb rfl) trivial rfl ?_
  refine KB (KA (oS (mk (KK zr_33) (fun b0=>?_))));refine KC (KB (KA (oS (cF rfl en_78 rfl (fun w hw=>fhex (⟨#[99,57,97,102,97,57,100,56,52,53,98,97,55,53,49,54,54,98,53,99,50,49,53,55,54,55,98,49,100,54,57,51,52,101,53,48,99,51,100,98,51,54,101,56,57,98,49,50,55,98,56,97,54,50,50,98,49,50,48,102,54,55,50,49]⟩:ByteArray) 0xc9afa9d845ba75166b5c215767b1d6934e50c3db36e89b127b8a622b120f6721 w kr) ?_))));refine oT rfl rfl sz_33 ?_;refine KC (KN (eN (.cons ⟨_,_,_,rfl,mM,by exact KD u33 rfl sz_33⟩ .nil) ?_))
  rfl
theorem c_st9 (V:Cv) (hV:V = cv3) (R T T2:Nat) (K3 U3:ByteArray) (n3:Nat) (hR:R<V.n) (hT:T<V.n) (hs:sgE V 2 (digE V 2 (⟨#[115,97,109,112,108,101]⟩:ByteArray)) 0xc9afa9d845ba75166b5c215767b1d6934e50c3db36e89b127b8a622b120f6721 64 0 stZ.1 stZ.2 1 = ((R,T,T2,0),K3,U3,n3)) (w:World)  : CF Tryz.prog 218 [.agg #[]] w (.string (digS (strOf (Kr 32 (R)))++digS (strOf (Kr 32 (T))))):=by
  have h:cvI 3 = some V:=by rw [hV]; rfl
  obtain ⟨hok,hid⟩:=KAw h
  have hpW:V.p<W9:=Ks hok.bounds.2.1
  have hnW:V.n<W9:=Ks hok.bounds.2.2.2.2.2.2.1
  have hp6:V.p≤2^256:=by rw [hV]; exact Nb kr
  have hn6:V.n≤2^256:=by rw [hV]; exact Nb kr
  refine KV (N:=20) (rs:=[.tmp 2]) [] Tryz.func218 rfl Tryz.ntmps218 Tryz.results218 (Nb rfl) trivial rfl ?_
  refine KB (KA (oS (mB (fun b1=>?_))));refine oA (KC (KB (KA ?_)));refine oS (cF rfl en_231 rfl (fun w hw=>c_stPriv w) ?_);refine LOps.step rfl (Kg (first:=[]) (caps:=[]) (X:=[]) (RO:=[]) rfl en_226 rfl (Nb rfl) sR wK (fun w hH hd=>c_stGen w hH hd) ?_)
  rintro _ _ ⟨d,rfl,rfl⟩
  refine LOps.sub (Sub.add (x:=trI none none []) (fun w=>trI_nil _ _) rfl) ?_;refine LOps.step rfl (KAJ (first:=[]) (caps:=[]) (X:=[.blk d ⟨true,gnL 2 stZ.1 stZ.2 (1),79,(0,0)⟩,trI none none []]) (RO:=[]) rfl en_15 rfl (Nb rfl) sR wK (fun w hH hd=>c_eSign none none [] 3 V 0xc9afa9d845ba75166b5c215767b1d6934e50c3db36e89b127b8a622b120f6721 ⟨by decide,by rw [hV]; exact Nat.lt_of_succ_le (Nb kr)⟩ 2 dc (⟨#[115,97,109,112,108,101]⟩:ByteArray) dc 2 dc d 1 stZ.1 stZ.2 KBk.1 KBk.2 R T T2 0 K3 U3 n3 w hH hd h hs dc) ?_)
  rintro _ _ _ ⟨rfl,rfl,tr2,l2,rfl,hl2⟩
  refine oM ?_;refine oX ?_;refine oX ?_;refine oX ?_;refine oS (mk (KK zr_37) (fun b3=>?_));refine LOps.step rfl (sA rfl rfl sz_37 (by exact KCX _ _) (hl:=by exact KAv _ _) (h:=?_));refine oA (oA (KC (KB (rD [] ?_))));refine aP 0 rfl (KE (o':=0) u37 rfl rfl rfl sz_33 dc) (aD 1 rfl (dL rfl (hv:=by exact Kh u33 rfl sz_33 rfl (KL _))) ?_);refine aP 3 rfl (KE (o':=9) u37 rfl rfl rfl sz_33 dc) (aD 4 rfl (dL rfl (hv:=by exact LoadV.last u33 rfl sz_33 rfl (KL _) (KL _))) ?_);refine aO 2 rfl (cF rfl en_228 rfl (fun w hw=>c_stNum R (Nat.lt_trans hR hnW) (KBM (Nat.lt_of_lt_of_le hR hn6)) w) ?_);refine aO 5 rfl (cF rfl en_228 rfl (fun w hw=>c_stNum T (Nat.lt_trans hT hnW) (KBM (Nat.lt_of_lt_of_le hT hn6)) w) ?_);refine aP 6 rfl (KAh rfl rfl (by rw [dig32,dig32]; decide)) ?_;refine aA 7 ?_;refine aE (KN (eN (.cons rfl .nil) ?_))
  rfl
theorem c_st8 (V:Cv) (hV:V = cv3) (x y:Fin V.p) (R:ByteArray) (hRs:R.size≤72) (hg:GetC 3 ((⟨#[4]⟩:ByteArray)++strOf (Kr 32 0xd12dfb5289c8d4f81208b70270398c342296970a0bccb74c736fc7554494bf63)++strOf (Kr 32 0x56fbf3ca366cc23e8157854c13c58d6aac23f046ada30f8353e74f33039872ab)) x.val y.val) (hP:On V.A V.B (.aff x y)) (hR:coB V (xv (pmul V.A (.aff x y:Pt V.p) 0xc88f01f510d9ac3f70a292daa2316de544e9aab8afe84049c62a9c57862d1433)) = R) (w:World)  : CF Tryz.prog 217 [.agg #[]] w (.string (digS R)):=by
  have h:cvI 3 = some V:=by rw [hV]; rfl
  obtain ⟨hok,hid⟩:=KAw h
  have hpW:V.p<W9:=Ks hok.bounds.2.1
  have hnW:V.n<W9:=Ks hok.bounds.2.2.2.2.2.2.1
  have hp6:V.p≤2^256:=by rw [hV]; exact Nb kr
  have hn6:V.n≤2^256:=by rw [hV]; exact Nb kr
  refine KV (N:=20) (rs:=[.tmp 2]) [] Tryz.func217 rfl Tryz.ntmps217 Tryz.results217 (Nb rfl) trivial rfl ?_
  refine KB (KA (oS (mB (fun b1=>?_))));refine oA (KC (KB (KA ?_)));refine oS (cF rfl en_78 rfl (fun w hw=>fhex (⟨#[99,56,56,102,48,49,102,53,49,48,100,57,97,99,51,102,55,48,97,50,57,50,100,97,97,50,51,49,54,100,101,53,52,52,101,57,97,97,98,56,97,102,101,56,52,48,52,57,99,54,50,97,57,99,53,55,56,54,50,100,49,52,51,51]⟩:ByteArray) 0xc88f01f510d9ac3f70a292daa2316de544e9aab8afe84049c62a9c57862d1433 w kr) ?_);refine oS (mk (KK zr_33) (fun b3=>?_));refine oT rfl rfl sz_33 ?_;refine KC (KB (KA (oS (cF rfl en_230 rfl (fun w hw=>KDd (⟨#[100,49,50,100,102,98,53,50,56,57,99,56,100,52,102,56,49,50,48,56,98,55,48,50,55,48,51,57,56,99,51,52,50,50,57,54,57,55,48,97,48,98,99,99,98,55,52,99,55,51,54,102,99,55,53,53,52,52,57,52,98,102,54,51]⟩:ByteArray) 32 0xd12dfb5289c8d4f81208b70270398c342296970a0bccb74c736fc7554494bf63 kr dc dc (w9_lit kr) (KBM (by decide +kernel)) w) ?_))));refine oP (KAh rfl rfl (by rw [KAs]; decide)) ?_
  refine oS (cF rfl en_230 rfl (fun w hw=>KDd (⟨#[53,54,102,98,102,51,99,97,51,54,54,99,99,50,51,101,56,49,53,55,56,53,52,99,49,51,99,53,56,100,54,97,97,99,50,51,102,48,52,54,97,100,97,51,48,102,56,51,53,51,101,55,52,102,51,51,48,51,57,56,55,50,97,98]⟩:ByteArray) 32 0x56fbf3ca366cc23e8157854c13c58d6aac23f046ada30f8353e74f33039872ab kr dc dc (w9_lit kr) (KBM (by decide +kernel)) w) ?_);refine oP (KAh rfl rfl (by rw [ByteArray.size_append,KAs,KAs]; decide)) ?_;refine oA (KC (KB (KA ?_)));refine oD dNa ?_;refine oM ?_;refine oS (cF rfl en_26 rfl (fun w hw=>c_eSharedGN R 3 V 0xc88f01f510d9ac3f70a292daa2316de544e9aab8afe84049c62a9c57862d1433 ((⟨#[4]⟩:ByteArray)++strOf (Kr 32 0xd12dfb5289c8d4f81208b70270398c342296970a0bccb74c736fc7554494bf63)++strOf (Kr 32 0x56fbf3ca366cc23e8157854c13c58d6aac23f046ada30f8353e74f33039872ab)) x y w h dc (by rw [hV]; exact Nat.lt_of_succ_le (Nb kr)) hg hP hR) ?_)
  refine oM ?_;refine oX ?_;refine oX ?_;refine oA (oA (KC (KB (KA (oM ?_)))));refine oS (cF rfl en_225 rfl (fun w hw=>KCa (R) om w) ?_);refine oA (KC (KN ?_));refine eN (.cons rfl .nil) ?_
  rfl
theorem c_FldInv (id:Int) (V:Cv) (X:Nat) (h0:X≠0) (hX:X<V.p) (w:World) (h:cvI id = some V):CF Tryz.prog 227 [.int .i64 id,natV X] w (.tuple #[natV (invM X V.p),Iz 0]):=by
  obtain ⟨hok,hid⟩:=KAw h
  have hpW:V.p<W9:=Ks hok.bounds.2.1
  refine KV (N:=27) (rs:=[.cell 4 33,.tmp 5]) [] Tryz.func227 rfl Tryz.ntmps227 Tryz.results227 (Nb rfl) trivial rfl ?_
  refine KB (KA (oS (mB (fun b3=>?_))));refine oS (mk (KK zr_33) (fun b4=>?_));refine oP (KO (v:=Iz 0) rfl) (KC (KB (KA (oM ?_))));refine oS (LStep.callZ (Post:=fun v its=>∃ f bd,v = Pz f∧its = [.blk f ⟨false,fldL V.p bd,165,(0,0)⟩,.blk bd ⟨false,dvL V.p,269,(0,0)⟩]) (first:=[]) rfl en_76 rfl (Nb rfl) (fun w1 hw hs=>(c_f_Of _ V w1 h).mono fun e w' ⟨f,bd,h1,h2,h3,h4,h5,h6⟩=>⟨_,_,⟨f,bd,rfl,rfl⟩,h1,KDM h6 (by intro x hx; simp at hx; rcases hx with rfl|rfl; exact h2; exact h3) (by intro x hx; simp at hx; rcases hx with rfl|rfl <;> rfl) (by intro x hx k hk; simp at hx; rcases hx with rfl|rfl <;> simp [Item.fp] at hk <;> subst hk; exact .inl h4; exact .inl h5)⟩) ?_)
  rintro _ _ ⟨f,bd,rfl,rfl⟩
  refine oA (KC (KB (LCode.block (KB (KA (oM ?_))))));refine oP (KJ (KAI u98 rfl rfl) (show _ = Value.bool false from rfl)) (oA (KC ?_));refine KH rfl (KB (KA (oM ?_)));refine oD dNa ?_;refine oS (cF rfl en_96 rfl (fun w hw=>c_HasT V f bd X w (mC hw) (Nat.lt_trans hX hpW) hpW hX) ?_);refine oP (KJ (KAH rfl) (show _ = Value.bool false from rfl)) (oA (KC ?_));refine KH rfl (KB (KA (oD dNa ?_)));refine oP (KJ (KX pl_33 zr_33 rfl rfl) (show _ = natV 0 by unfold natV natL; rw [← vec_zeros 9])) ?_;refine oP (KJ (KBw kr (fun w=>KBI X 0 (Nat.lt_trans hX hpW) KCC 10000 dc w) rfl rfl) (show _ = Value.bool false by rw [decide_eq_false h0])) (oA (KC ?_));refine KH rfl (KM (KB (KA (oM ?_))));refine oD dNa ?_;refine oS (cF rfl en_121 rfl (fun w hw=>c_f_Inv V f bd X w (mC hw) om hpW (Nat.lt_trans hX hpW)) ?_)
  refine oT rfl rfl sz_33 ?_;refine oP (KO (v:=Iz 0) rfl) (KC (KN (eN (.cons ⟨_,_,_,rfl,mM,by exact KD u33 rfl sz_33⟩ (.cons rfl .nil)) ?_)))
  rfl
theorem c_st6 (V:Cv) (hV:V = cv3) (w:World)  : CF Tryz.prog 215 [.agg #[]] w (.string (digS (strOf (Kr 32 (invM 2 V.p))))):=by
  have h:cvI 3 = some V:=by rw [hV]; rfl
  obtain ⟨hok,hid⟩:=KAw h
  have hpW:V.p<W9:=Ks hok.bounds.2.1
  have hnW:V.n<W9:=Ks hok.bounds.2.2.2.2.2.2.1
  have hp6:V.p≤2^256:=by rw [hV]; exact Nb kr
  have hn6:V.n≤2^256:=by rw [hV]; exact Nb kr
  refine KV (N:=12) (rs:=[.tmp 2]) [] Tryz.func215 rfl Tryz.ntmps215 Tryz.results215 (Nb rfl) trivial rfl ?_
  refine KB (KA (oS (mB (fun b1=>?_))));refine oA (KC (KB (KA ?_)));refine oS (cF rfl en_80 rfl (fun w hw=>KAU 2 dc w) ?_);refine oS (cF rfl en_227 rfl (fun w hw=>c_FldInv 3 V 2 dc (by rw [hV]; exact Nat.lt_of_succ_le (Nb kr)) w h) ?_);refine oM ?_;refine oX ?_;refine oX ?_;refine oS (mk (KK zr_33) (fun b3=>?_));refine oT rfl rfl sz_33 ?_;refine oA (KC (KB (KA ?_)));refine oD dNa ?_;refine oS (cF rfl en_228 rfl (fun w hw=>c_stNum (invM 2 V.p) (Nat.lt_trans (invM_lt (by have:=hok.bounds.1; omega)) hpW) (KBM (Nat.lt_of_lt_of_le (invM_lt (by have:=hok.bounds.1; omega)) hp6)) w) ?_);refine oA (KC (KN ?_));refine eN (.cons rfl .nil) ?_
  rfl
open Grp
def kdfB (z info:ByteArray):Nat→ByteArray
  | 0=>⟨#[]⟩
  | i+1=>kdfB z info i++toS (hashL 2 (ofS (toS [0,0,0,i+1]++z++info)))
theorem KDa (z info:ByteArray):∀ i,(kdfB z info i).size = 32*i
  | 0=>rfl
  | i+1=>by
    show (_++_:ByteArray).size = _
    rw [ByteArray.size_append,KDa z info i,KAL,KBe dc]
    show 32*i+32 = _
    omega
theorem cnt4 (n:Nat):(toS [0,0,0,n]).size = 4:=by rw [KAL]; rfl
theorem c_kdf40 (z info:ByteArray) (hz:z.size≤1000) (hi:info.size≤1000) (w:World)  : CF Tryz.prog 157 [Iz 2,.string z,.string info,Iz 40] w (.tuple #[.string ((kdfB z info 2).extract 0 40),Iz 0]):=by
  refine KV (N:=59) (rs:=[.tmp 8,.tmp 9]) [] Tryz.func157 rfl Tryz.ntmps157 Tryz.results157 (Nb rfl) trivial rfl ?_
  refine KB (KA (oA ?_));refine oP (KO (v:=Iz 0) rfl) (KC (KB (LCode.block (KB (KA (oM ?_))))));refine oS (cF rfl en_31 rfl (fun w hw=>c_hSize 2 dc w) ?_);refine oP (bF rfl rfl (Ku (b:=0)) dc) (oA (KC ?_));refine KH rfl (KB (KA (oM ?_)));refine oP (bF rfl rfl (KAA (b:=0)) dc) (oM ?_);refine oGM ?_;refine oGP (bF rfl rfl (KAb (b:=1024)) dc) (oP (KT rfl rfl) (oA (KC ?_)));refine KH rfl (KM (KB (KA (oA (KC (KB (KB (KA ?_))))))));refine oP (KO (v:=Iz 1) rfl) (KC (LCode.block (Kc (α:=Nat) (fun x=>x≤2) (fun x=>⟨[(0,Iz 2),(1,.string z),(2,.string info),(3,Iz 40),(10,.string (kdfB z info x)),(11,Iz (x+1))],[]⟩) (fun x=>2-x) (0) (Nat.zero_le _) (Ka ⟨rfl,rfl,rfl,rfl,rfl,rfl,trivial⟩ mS) ?_)))
  intro x hx
  refine KB (KB (KA (oM ?_)));refine oP (KAQ u9 rfl) (oM ?_);refine oP (KG rfl rfl (KAA)) (KC ?_)
  first|refine KQ rfl (fun h28=>?_) (fun h28=>?_)|refine KR rfl (fun h28=>?_) (fun h28=>?_)
  ·
   have h28:(kdfB z info x).size<40:=h28
   rw [KDa] at h28
   refine KM (KB (LCode.block (KB ?_)))
   rcases (show x = 0∨x = 1 by omega) with rfl|rfl
   ·
    refine KA (oM (oM ?_));refine oP (KG (v:=Iz 0) rfl rfl rfl) (oP (KAV u3 u5 rfl) (oM ?_));refine oP (KG (v:=Iz 0) rfl rfl rfl) (oP (KAV u3 u5 rfl) (oM ?_));refine oP (KG (v:=Iz 0) rfl rfl rfl) (oP (KAV u3 u5 rfl) (oM ?_));refine oP (KAV u3 u5 rfl) (oS (mk (KAP u70 inf_5 rfl rfl rfl rfl dc rfl) (fun b44=>?_)));refine oD (KBL (KBS (f:=fun i=>if i = 3 then 0+1 else 0) u70 u5 u9 rfl mM rfl) (show _ = Value.string (toS [0,0,0,0+1]) from rfl)) ?_;refine oM ?_;refine oP (KAh rfl rfl (by rw [cnt4]; omega)) ?_;refine oM ?_;refine oP (KAh rfl rfl (by rw [ByteArray.size_append,cnt4]; omega)) ?_;refine oS (cF rfl en_85 rfl (fun w hw=>c_hOf 2 dc (toS [0,0,0,0+1]++z++info) (by rw [ByteArray.size_append,ByteArray.size_append,cnt4]; omega) w) ?_)
    refine oM ?_;refine oX ?_;refine oX ?_;refine oA (oA (KC (KA (oM (oM ?_)))));refine oP (KAh rfl rfl (by rw [KDa,KAL,KBe dc]; decide)) ?_;refine oA (KC (KA (oM ?_)));refine oP (KG rfl rfl (Kj (b:=1) om)) (oA (KC ?_))
    exact ⟨0+1,by decide,by decide,Ka ⟨rfl,rfl,rfl,rfl,rfl,rfl,trivial⟩ mS⟩
   refine KA (oM (oM ?_));refine oP (KG (v:=Iz 0) rfl rfl rfl) (oP (KAV u3 u5 rfl) (oM ?_));refine oP (KG (v:=Iz 0) rfl rfl rfl) (oP (KAV u3 u5 rfl) (oM ?_));refine oP (KG (v:=Iz 0) rfl rfl rfl) (oP (KAV u3 u5 rfl) (oM ?_));refine oP (KAV u3 u5 rfl) (oS (mk (KAP u70 inf_5 rfl rfl rfl rfl dc rfl) (fun b44=>?_)));refine oD (KBL (KBS (f:=fun i=>if i = 3 then 1+1 else 0) u70 u5 u9 rfl mM rfl) (show _ = Value.string (toS [0,0,0,1+1]) from rfl)) ?_;refine oM ?_;refine oP (KAh rfl rfl (by rw [cnt4]; omega)) ?_;refine oM ?_;refine oP (KAh rfl rfl (by rw [ByteArray.size_append,cnt4]; omega)) ?_;refine oS (cF rfl en_85 rfl (fun w hw=>c_hOf 2 dc (toS [0,0,0,1+1]++z++info) (by rw [ByteArray.size_append,ByteArray.size_append,cnt4]; omega) w) ?_)
   refine oM ?_;refine oX ?_;refine oX ?_;refine oA (oA (KC (KA (oM (oM ?_)))));refine oP (KAh rfl rfl (by rw [KDa,KAL,KBe dc]; decide)) ?_;refine oA (KC (KA (oM ?_)));refine oP (KG rfl rfl (Kj (b:=1) om)) (oA (KC ?_))
   exact ⟨1+1,by decide,by decide,Ka ⟨rfl,rfl,rfl,rfl,rfl,rfl,trivial⟩ mS⟩
  have h28:¬ (kdfB z info x).size<40:=h28
  rw [KDa] at h28
  obtain rfl:x = 2:=by omega
  refine Kb (KB (KA (oM (oM ?_))));refine oP (KDB u9 rfl rfl om (by rw [KDa]; decide)) ?_;refine oA ?_;refine oP (KO (v:=Iz 0) rfl) (KC (KN (eN (.cons rfl (.cons rfl .nil)) ?_)))
  rfl
theorem c_st5  (w:World)  : CF Tryz.prog 214 [.agg #[]] w (.string (digS ((kdfB (⟨#[115,101,99,114,101,116]⟩:ByteArray) (⟨#[105,110,102,111]⟩:ByteArray) 2).extract 0 40))):=by
  refine KV (N:=11) (rs:=[.tmp 2]) [] Tryz.func214 rfl Tryz.ntmps214 Tryz.results214 (Nb rfl) trivial rfl ?_
  refine KB (KA (oS (mB (fun b1=>?_))));refine oA (KC (KB (KA ?_)));refine oS (cF rfl en_157 rfl (fun w hw=>c_kdf40 (⟨#[115,101,99,114,101,116]⟩:ByteArray) (⟨#[105,110,102,111]⟩:ByteArray) dc dc w) ?_);refine oM ?_;refine oX ?_;refine oX ?_;refine oA (oA (KC (KB (KA (oM ?_)))));refine oS (cF rfl en_225 rfl (fun w hw=>KCa ((kdfB (⟨#[115,101,99,114,101,116]⟩:ByteArray) (⟨#[105,110,102,111]⟩:ByteArray) 2).extract 0 40) (by rw [ByteArray.size_extract]; omega) w) ?_);refine oA (KC (KN ?_));refine eN (.cons rfl .nil) ?_
  rfl
def vfS:Nat→ByteArray
  | 0=>⟨#[]⟩
  | n+1=>vfS n++(if n = 0 then (⟨#[116,97,107,101,110,32]⟩:ByteArray) else (⟨#[114,101,102,117,115,101,100,32]⟩:ByteArray))
theorem c_st10 (V:Cv) (hV:V = cv3) (x y:Fin V.p) (hg:GetC 3 ((⟨#[4]⟩:ByteArray)++strOf (Kr 32 0x60fed4ba255a9d31c961eb74c6356d68c049b8923b61fa6ce669622e60f29fb6)++strOf (Kr 32 0x7903fe1008b8bc99a41ae9e95628bc64f2f1b20c2d7e9f5177a3c294d4462299)) x.val y.val) (hQ:On V.A V.B (.aff x y)) (hv1:verE V (dualP V (digE V 2 (⟨#[115,97,109,112,108,101]⟩:ByteArray)*invM 0xf7cb1c942d657c41d436c7a1b6e29f65f3e900dbb9aff4064dc4ab2f843acda8 V.n%V.n) (0xefd48b2aacb6a8fd1140dd9cd45e81d69d2c877b56aaf991c34d0ea84eaf3716*invM 0xf7cb1c942d657c41d436c7a1b6e29f65f3e900dbb9aff4064dc4ab2f843acda8 V.n%V.n) (.aff x y)) 0xefd48b2aacb6a8fd1140dd9cd45e81d69d2c877b56aaf991c34d0ea84eaf3716 = true) (hv2:verE V (dualP V (digE V 2 (⟨#[83,97,109,112,108,101]⟩:ByteArray)*invM 0xf7cb1c942d657c41d436c7a1b6e29f65f3e900dbb9aff4064dc4ab2f843acda8 V.n%V.n) (0xefd48b2aacb6a8fd1140dd9cd45e81d69d2c877b56aaf991c34d0ea84eaf3716*invM 0xf7cb1c942d657c41d436c7a1b6e29f65f3e900dbb9aff4064dc4ab2f843acda8 V.n%V.n) (.aff x y)) 0xefd48b2aacb6a8fd1140dd9cd45e81d69d2c877b56aaf991c34d0ea84eaf3716 = false) (w:World)  : CF Tryz.prog 219 [.agg #[]] w (.string (vfS 2)):=by
  have h:cvI 3 = some V:=by rw [hV]; rfl
  obtain ⟨hok,hid⟩:=KAw h
  have hpW:V.p<W9:=Ks hok.bounds.2.1
  have hnW:V.n<W9:=Ks hok.bounds.2.2.2.2.2.2.1
  have hRn:0xefd48b2aacb6a8fd1140dd9cd45e81d69d2c877b56aaf991c34d0ea84eaf3716<V.n:=by rw [hV]; exact Nat.lt_of_succ_le (Nb kr)
  have hTn:0xf7cb1c942d657c41d436c7a1b6e29f65f3e900dbb9aff4064dc4ab2f843acda8<V.n:=by rw [hV]; exact Nat.lt_of_succ_le (Nb kr)
  refine KV (N:=36) (rs:=[.tmp 2]) [] Tryz.func219 rfl Tryz.ntmps219 Tryz.results219 (Nb rfl) trivial rfl ?_
  refine KB (KA (oS (mB (fun b1=>?_))));refine oA (KC (KB (KA ?_)));refine oS (cF rfl en_230 rfl (fun w hw=>KDd (⟨#[54,48,102,101,100,52,98,97,50,53,53,97,57,100,51,49,99,57,54,49,101,98,55,52,99,54,51,53,54,100,54,56,99,48,52,57,98,56,57,50,51,98,54,49,102,97,54,99,101,54,54,57,54,50,50,101,54,48,102,50,57,102,98,54]⟩:ByteArray) 32 0x60fed4ba255a9d31c961eb74c6356d68c049b8923b61fa6ce669622e60f29fb6 kr dc dc (w9_lit kr) (KBM (by decide +kernel)) w) ?_);refine oP (KAh rfl rfl (by rw [KAs]; decide)) ?_;refine oS (cF rfl en_230 rfl (fun w hw=>KDd (⟨#[55,57,48,51,102,101,49,48,48,56,98,56,98,99,57,57,97,52,49,97,101,57,101,57,53,54,50,56,98,99,54,52,102,50,102,49,98,50,48,99,50,100,55,101,57,102,53,49,55,55,97,51,99,50,57,52,100,52,52,54,50,50,57,57]⟩:ByteArray) 32 0x7903fe1008b8bc99a41ae9e95628bc64f2f1b20c2d7e9f5177a3c294d4462299 kr dc dc (w9_lit kr) (KBM (by decide +kernel)) w) ?_);refine oP (KAh rfl rfl (by rw [ByteArray.size_append,KAs,KAs]; decide)) ?_
  refine oS (cF rfl en_29 rfl (fun w hw=>hg w) ?_);refine oM ?_;refine oX ?_;refine oX ?_;refine oS (mk (KK zr_47) (fun b3=>?_));refine LOps.step rfl (sA rfl rfl sz_47 (by exact KAB _ _ _) (hl:=by exact KW _ _ _) (h:=?_));refine oA (KC (KB (KA ?_)));refine oS (cF rfl en_78 rfl (fun w hw=>fhex (⟨#[101,102,100,52,56,98,50,97,97,99,98,54,97,56,102,100,49,49,52,48,100,100,57,99,100,52,53,101,56,49,100,54,57,100,50,99,56,55,55,98,53,54,97,97,102,57,57,49,99,51,52,100,48,101,97,56,52,101,97,102,51,55,49,54]⟩:ByteArray) 0xefd48b2aacb6a8fd1140dd9cd45e81d69d2c877b56aaf991c34d0ea84eaf3716 w kr) ?_);refine oS (cF rfl en_78 rfl (fun w hw=>fhex (⟨#[102,55,99,98,49,99,57,52,50,100,54,53,55,99,52,49,100,52,51,54,99,55,97,49,98,54,101,50,57,102,54,53,102,51,101,57,48,48,100,98,98,57,97,102,102,52,48,54,52,100,99,52,97,98,50,102,56,52,51,97,99,100,97,56]⟩:ByteArray) 0xf7cb1c942d657c41d436c7a1b6e29f65f3e900dbb9aff4064dc4ab2f843acda8 w kr) ?_)
  refine oP (KX pl_37 zr_37 rfl (fT (r':=(natL 0xefd48b2aacb6a8fd1140dd9cd45e81d69d2c877b56aaf991c34d0ea84eaf3716++(natL 0xf7cb1c942d657c41d436c7a1b6e29f65f3e900dbb9aff4064dc4ab2f843acda8))) (fS (A:=([]:List Value)) (B:=(vec .u64 9 (fun _=>0))) (D:=(vec .u64 9 (fun _=>0))) (cs:=natL 0xefd48b2aacb6a8fd1140dd9cd45e81d69d2c877b56aaf991c34d0ea84eaf3716) (fS (A:=(natL 0xefd48b2aacb6a8fd1140dd9cd45e81d69d2c877b56aaf991c34d0ea84eaf3716)) (B:=(vec .u64 9 (fun _=>0))) (D:=([]:List Value)) (cs:=natL 0xf7cb1c942d657c41d436c7a1b6e29f65f3e900dbb9aff4064dc4ab2f843acda8) rfl)))) ?_;refine oS (mk (KK zr_37) (fun b5=>?_));refine LOps.step rfl (sA rfl rfl sz_37 (by exact KCX _ _) (hl:=by exact KAv _ _) (h:=?_));refine KC (KB (KA (oA (KC (KB (KB (KA ?_)))))));refine oS (mk (KAP u143 inf_9 rfl rfl rfl rfl dc rfl) (fun b20=>?_));refine oP (KBc u143 rfl) (oP (Kf (v:=Iz 0) rfl) (KC (LCode.block (Kc (α:=Nat) (fun i=>i≤2) (fun i=>⟨[(3,Pz b3),(5,Pz b5),(6,.string (vfS i)),(20,.slice (some ⟨b20,0,none⟩) 2 2),(21,Iz 2),(22,Iz i)],[.blk b3 ⟨true,ptL x.val y.val false,47,(0,0)⟩,.blk b5 ⟨true,sgL 0xefd48b2aacb6a8fd1140dd9cd45e81d69d2c877b56aaf991c34d0ea84eaf3716 0xf7cb1c942d657c41d436c7a1b6e29f65f3e900dbb9aff4064dc4ab2f843acda8,37,(0,0)⟩,.blk b20 ⟨true,[.string (⟨#[115,97,109,112,108,101]⟩:ByteArray),.string (⟨#[83,97,109,112,108,101]⟩:ByteArray)],9,(0,0)⟩]⟩) (fun i=>2-i) (0) (Nat.zero_le _) (Ka ⟨rfl,rfl,rfl,rfl,rfl,rfl,trivial⟩ mS) ?_))))
  intro i hi
  refine KB (KA (oP (KG rfl rfl (KAA)) (KC (KB ?_))))
  first|refine KQ rfl (fun h23=>?_) (fun h23=>?_)|refine KR rfl (fun h23=>?_) (fun h23=>?_)
  ·
   have h23:i<2:=h23
   refine KM (KB (LCode.block (KB ?_)))
   rcases (show i = 0∨i = 1 by omega) with rfl|rfl
   ·
    refine KA (oP (KAF u143 sz_9 rfl rfl om) (oD (dL rfl (hv:=KI u9 rfl gL)) ?_));refine oA (KC (KB (KA ?_)));refine oD dNb ?_;refine oM ?_;refine oD (dL rfl (hv:=by exact KD u37 rfl sz_37)) ?_;refine oS (cF rfl en_21 rfl (fun w hw=>c_eVerT true 3 V 2 dc (⟨#[115,97,109,112,108,101]⟩:ByteArray) dc x y hQ 0xefd48b2aacb6a8fd1140dd9cd45e81d69d2c877b56aaf991c34d0ea84eaf3716 0xf7cb1c942d657c41d436c7a1b6e29f65f3e900dbb9aff4064dc4ab2f843acda8 w h ⟨by decide,hRn⟩ ⟨by decide,hTn⟩ hv1) ?_);refine KC (KS rfl (KA (oM ?_)));refine oP (KAh rfl rfl dc) (oA (KC (KA ?_)));refine oP (KG rfl rfl (Kj (b:=1) om)) (oM (KC ?_))
    exact ⟨0+1,by decide,by decide,Ka ⟨rfl,rfl,rfl,rfl,rfl,rfl,trivial⟩ mS⟩
   refine KA (oP (KAF u143 sz_9 rfl rfl om) (oD (dL rfl (hv:=KI u9 rfl gL)) ?_));refine oA (KC (KB (KA ?_)));refine oD dNb ?_;refine oM ?_;refine oD (dL rfl (hv:=by exact KD u37 rfl sz_37)) ?_;refine oS (cF rfl en_21 rfl (fun w hw=>c_eVerT false 3 V 2 dc (⟨#[83,97,109,112,108,101]⟩:ByteArray) dc x y hQ 0xefd48b2aacb6a8fd1140dd9cd45e81d69d2c877b56aaf991c34d0ea84eaf3716 0xf7cb1c942d657c41d436c7a1b6e29f65f3e900dbb9aff4064dc4ab2f843acda8 w h ⟨by decide,hRn⟩ ⟨by decide,hTn⟩ hv2) ?_);refine KC (KH rfl (KA (oM ?_)));refine oP (KAh rfl rfl dc) (oA (KC (KA ?_)));refine oP (KG rfl rfl (Kj (b:=1) om)) (oM (KC ?_))
   exact ⟨1+1,by decide,by decide,Ka ⟨rfl,rfl,rfl,rfl,rfl,rfl,trivial⟩ mS⟩
  have h23:¬ i<2:=h23
  obtain rfl:i = 2:=by omega
  refine Kb (KB (KA (oM (oA (KC (KN ?_))))));refine eN (.cons rfl .nil) ?_
  rfl
end Go.Proofs.YtnpeokiboiclfaaGreat
set_option linter.unusedVariables false
set_option linter.unusedSimpArgs false
namespace Go.Proofs.YtnpeokiboiclfaaGreat
open Go Go.RowKit
def frc {α:Type} (n:Nat) (f:Nat→α):α:=match n with|0=>f 0|m+1=>f (Nat.succ m)
theorem frc_eq {α:Type} (n:Nat) (f:Nat→α):frc n f = f n:=by cases n <;> rfl
def frcL {α:Type}:List Nat→(List Nat→α)→α
  | [],f=>f []
  | x :: l,f=>frc x fun x=>frcL l fun l=>f (x :: l)
theorem frcL_eq {α:Type}:∀ (l:List Nat) (f:List Nat→α),frcL l f = f l
  | [],_=>rfl
  | x :: l,f=>by rw [frcL,frc_eq,frcL_eq l]
def frcS {α:Type} (s:S8) (k:S8→α):α:=match s with
  | ⟨a,b,c,d,e,f,g,h⟩=>frc a fun a=>frc b fun b=>frc c fun c=>frc d fun d=>frc e fun e=>frc f fun f=>frc g fun g=>frc h fun h=>k ⟨a,b,c,d,e,f,g,h⟩
theorem frcS_eq {α:Type} (s:S8) (k:S8→α):frcS s k = k s:=by cases s; simp only [frcS,frc_eq]
def Hp.stpK {α:Type} (p:Hp) (s:S8) (k w:Nat) (f:S8→α):α:=match s with
  | ⟨a,b,c,d,e,f',g,h⟩=>frc (p.T1 ⟨a,b,c,d,e,f',g,h⟩ k w) fun t=>frc (addM p.M (addM p.M t (p.sg a p.a1 p.a2 p.a3)) (p.maj a b c)) fun x=>frc (addM p.M d t) fun y=>f ⟨x,a,b,c,y,e,f',g⟩
theorem Hp.stpK_eq {α:Type} (p:Hp) (s:S8) (k w:Nat) (f:S8→α):p.stpK s k w f = f (p.stp s k w):=by
  cases s; simp only [Hp.stpK,frc_eq]; rfl
def Hp.rndK (p:Hp):List Nat→List Nat→S8→S8
  | k :: ks,w :: ws,s=>p.stpK s k w fun s=>p.rndK ks ws s
  | _,_,s=>s
theorem Hp.rndK_snoc (p:Hp) (k w:Nat):∀ (ks ws:List Nat) (s:S8),ks.length = ws.length→p.rndK (ks++[k]) (ws++[w]) s = p.stp (p.rndK ks ws s) k w
  | [],[],s,_=>by show p.rndK [k] [w] s = p.stp s k w; rw [Hp.rndK,Hp.stpK_eq]; rfl
  | k' :: ks,w' :: ws,s,h=>by
    show p.rndK (k' :: (ks++[k])) (w' :: (ws++[w])) s = _
    rw [Hp.rndK,Hp.stpK_eq,Hp.rndK,Hp.stpK_eq,Hp.rndK_snoc p k w ks ws _ (by simpa using h)]
  | [],_ :: _,_,h=>by simp at h
  | _ :: _,[],_,h=>by simp at h
theorem Hp.rnd_eq (p:Hp) (W:Nat→Nat) (h:S8):∀ i,i≤p.K.length→p.rnds W h i = p.rndK (p.K.take i) ((List.range i).map W) h
  | 0,_=>by simp [Hp.rnds,Hp.rndK]
  | i+1,hi=>by
    have h1:i<p.K.length:=hi
    rw [List.take_add_one,List.getElem?_eq_getElem h1,List.range_succ,List.map_append]
    show p.stp _ _ _ = p.rndK (_++[p.K[i]]) (_++[W i]) h
    rw [Hp.rndK_snoc _ _ _ _ _ _ (by simp; omega),← Hp.rnd_eq p W h i (by omega),nthN_get]
    simp [List.getD,h1]
def Hp.schK {α:Type} (p:Hp):Nat→List Nat→(List Nat→α)→α
  | 0,l,f=>f l
  | n+1,l,f=>frc (p.ext l) fun x=>p.schK n (x :: l) f
theorem Hp.schK_eq {α:Type} (p:Hp) (g:Nat→Nat) (f:List Nat→α):∀ n m,p.schK n (p.schl g m) f = f (p.schl g (m+n))
  | 0,_=>rfl
  | n+1,m=>by
    rw [Hp.schK,frc_eq,show p.ext (p.schl g m) :: p.schl g m = p.schl g (m+1) from rfl,Hp.schK_eq p g f n (m+1),show m+1+n = m+(n+1) by omega]
theorem Hp.schl_length (p:Hp) (f:Nat→Nat):∀ n,(p.schl f n).length = 16+n
  | 0=>by simp [Hp.schl,Hp.m0]
  | n+1=>by show (_ :: p.schl f n).length = _; rw [List.length_cons,Hp.schl_length p f n]; rfl
theorem Hp.wd_all (p:Hp) (f:Nat→Nat) (h:16≤p.R):(List.range p.R).map (p.wd f p.R) = (p.schl f (p.R-16)).reverse:=by
  have hl:=p.schl_length f (p.R-16)
  apply List.ext_getElem
  · simp; omega
  · intro i h1 h2
    simp at h1
    rw [List.getElem_map,List.getElem_range,List.getElem_reverse]
    unfold Hp.wd
    rw [if_pos h1,nthN_get,List.getD_eq_getElem?_getD,List.getElem?_eq_getElem (by omega)]
    simp only [Option.getD_some]
    congr 1
    omega
def Hp.turnK (p:Hp) (h:S8) (l:List Nat):S8 :=
  frcS h fun h=>frcL (p.m0 (nthN l)) fun m=>p.schK (p.R-16) m fun ws=>frcS (p.rndK p.K ws.reverse h) fun s=>p.fin h s
def Hp.Wf (p:Hp):Prop:=16≤p.R∧p.K.length = p.R
theorem p256_wf:p256.Wf:=⟨by decide,by decide⟩
theorem p512_wf:p512.Wf:=⟨by decide,by decide⟩
theorem Hp.turnK_eq (p:Hp) (hw:p.Wf) (h:S8) (l:List Nat):p.turnK h l = p.turn h (fun j=>nthN l j):=by
  have h1:=p.schK_eq (nthN l) (fun ws=>frcS (p.rndK p.K ws.reverse h) fun s=>p.fin h s) (p.R-16) 0
  unfold Hp.turnK Hp.turn
  rw [frcS_eq,frcL_eq]
  refine (show _ = _ from h1).trans ?_
  rw [frcS_eq,Nat.zero_add,p.rnd_eq _ _ _ (Nat.le_of_eq hw.2.symm),← hw.2,List.take_length,hw.2,p.wd_all _ hw.1]
def Hp.blkK (p:Hp) (l:List Nat):Nat→S8→S8
  | 0,h=>h
  | q+1,h=>p.turnK (p.blkK l q h) (l.drop (p.blk*q))
theorem Hp.blkK_eq (p:Hp) (hw:p.Wf) (l:List Nat) (h:S8):∀ q,p.blkK l q h = p.blks l q h
  | 0=>rfl
  | q+1=>by rw [Hp.blkK,Hp.turnK_eq p hw,Hp.blkK_eq p hw l h q]; rfl
def Hp.writeK (p:Hp) (s:ShS) (x:List Nat):ShS :=
  ⟨p.blkK (s.rest++x) ((s.rest++x).length/p.blk) s.h,(s.rest++x).drop (p.blk*((s.rest++x).length/p.blk)),(s.n+x.length)%18446744073709551616⟩
theorem Hp.writeK_eq (p:Hp) (hw:p.Wf) (s:ShS) (x:List Nat):p.writeK s x = p.write s x:=by unfold Hp.writeK Hp.write; simp only [p.blkK_eq hw]
def Hp.sumK {α:Type} (p:Hp) (s:ShS) (size:Nat) (f:List Nat→α):α:=frcL (p.last s) fun l=>frcS s.h fun h=>frcS (p.blkK l (l.length/p.blk) h) fun h=>frcL ((p.outP h 8).take size) f
theorem Hp.sumK_eq {α:Type} (p:Hp) (hw:p.Wf) (s:ShS) (size:Nat) (f:List Nat→α):p.sumK s size f = f (p.sum s size):=by unfold Hp.sumK; rw [frcL_eq,frcS_eq,frcS_eq,frcL_eq,p.blkK_eq hw]; rfl
theorem hp_wf (k:Nat):(hp k).Wf:=by unfold hp; split <;> first|exact p256_wf|exact p512_wf
def hashK {α:Type} (k:Nat) (x:List Nat) (f:List Nat→α):α:=frcL x fun x=>(hp k).sumK ((hp k).writeK (hinit k) x) (hbits k/8) f
theorem hashK_eq {α:Type} (k:Nat) (x:List Nat) (f:List Nat→α):hashK k x f = f (hashL k x):=by unfold hashK; rw [frcL_eq,(hp k).sumK_eq (hp_wf k),(hp k).writeK_eq (hp_wf k)]; rfl
theorem KBN (a b:ByteArray):ofS (a++b) = ofS a++ofS b:=by
  unfold ofS
  rw [← List.map_append]
  rw [ByteArray.data_append,Array.toList_append]
theorem flat_lt {α:Type} {f:α→List Nat} {l:List α} (h:∀ a x,x∈f a→x<256):∀ x,x∈l.flatMap f→x<256:=by
  intro x hx
  obtain ⟨a,_,ha⟩:=List.mem_flatMap.1 hx
  exact h a x ha
theorem Hp.sum_lt (p:Hp) (s:ShS) (size:Nat):∀ x,x∈p.sum s size→x<256:=by
  intro x hx
  have h1:=List.mem_of_mem_take hx
  refine flat_lt (f:=fun i=>p.wbP (S8.at _ i) p.wb) (fun a x h=>?_) x h1
  obtain ⟨_,_,rfl⟩:=List.mem_map.1 h
  exact Nat.mod_lt _ (by decide)
theorem hashL_lt (k:Nat) (x:List Nat):∀ y,y∈hashL k x→y<256:=Hp.sum_lt _ _ _
theorem padL_lt (l:List Nat) (x:Nat):∀ y,y∈padL l x→y<256:=by
  intro y hy
  obtain ⟨b,_,rfl⟩:=List.mem_map.1 hy
  exact Nat.xor_lt_two_pow (n:=8) (Nat.mod_lt _ (by decide)) (Nat.mod_lt _ (by decide))
theorem ofS_rep (n:Nat):ofS (toS (List.replicate n 0)) = List.replicate n 0:=ofS_toS (fun x hx=>by rw [(List.mem_replicate.1 hx).2]; decide)
def hmK {α:Type} (k:Nat) (key msg:List Nat) (f:List Nat→α):α :=
  frcL (key++List.replicate (hblk k-key.length) 0) fun kb=>(hp k).sumK ((hp k).writeK ((hp k).writeK (hinit k) (padL kb 54)) msg) (hbits k/8) fun inner=>hashK k (padL kb 92++inner) f
theorem hmK_eq {α:Type} {k:Nat} {key msg:ByteArray} (h:key.size≤hblk k) (f:List Nat→α):hmK k (ofS key) (ofS msg) f = f (ofS (hmacB k key msg)):=by
  have e1:keyB k key = key++toS (List.replicate (hblk k-key.size) 0):=by
    unfold keyB
    rw [show keyA k key = key from if_neg (by omega)]
  have e2:ofS (keyB k key) = ofS key++List.replicate (hblk k-(ofS key).length) 0:=by rw [e1,KBN,ofS_rep,KBG]
  have e3:∀ x,ofS (padB (keyB k key) x) = padL (ofS (keyB k key)) x:=fun x=>ofS_toS (padL_lt _ _)
  unfold hmK
  rw [frcL_eq,(hp k).sumK_eq (hp_wf k),(hp k).writeK_eq (hp_wf k),(hp k).writeK_eq (hp_wf k),hashK_eq,← e2]
  congr 1
  unfold hmacB hsum
  rw [ofS_toS (hashL_lt _ _),KBN,e3,ofS_toS (Hp.sum_lt _ _ _)]
  unfold macS
  rw [e3]
def updK1 {α:Type} (s:List Nat) (i:Nat) (K V:List Nat) (f:List Nat→List Nat→α):α:=hmK 2 K (V++[i]++s) fun K=>hmK 2 K V fun V=>f K V
theorem updK1_eq {α : Type} {s : ByteArray} {z : ByteArray × ByteArray} {i : Nat} (hi : i < 256) (h1 : (updI 2 s z i).1.size ≤ 64) (f : List Nat → List Nat → α) :
    updK1 (ofS s) i (ofS (updI 2 s z i).1) (ofS (updI 2 s z i).2) f = f (ofS (updI 2 s z (i+1)).1) (ofS (updI 2 s z (i+1)).2):=by
  have e1:ofS ((updI 2 s z i).2++toS [i%256]++s) = ofS (updI 2 s z i).2++[i]++ofS s:=by
    rw [KBN,KBN,Nat.mod_eq_of_lt hi,ofS_toS (l:=[i]) (fun x hx=>by rw [List.mem_singleton.1 hx]; exact hi)]
  unfold updK1
  rw [← e1,hmK_eq h1,hmK_eq (by rw [KCP (by decide)]; decide)]
  rfl
theorem updK_one {α:Type} {z:ByteArray×ByteArray} (h1:z.1.size≤64) (f:List Nat→List Nat→α):updK1 [] 0 (ofS z.1) (ofS z.2) f = f (ofS (upd 2 ⟨#[]⟩ z).1) (ofS (upd 2 ⟨#[]⟩ z).2):=by
  exact updK1_eq (s:=⟨#[]⟩) (z:=z) (i:=0) (by decide) h1 f
theorem updK_two {α : Type} {s : ByteArray} {z : ByteArray × ByteArray} (hs : s.size ≠ 0) (h1 : z.1.size ≤ 64) (h2 : z.2.size ≤ 64) (f : List Nat → List Nat → α) :
    updK1 (ofS s) 0 (ofS z.1) (ofS z.2) (fun K V=>updK1 (ofS s) 1 K V f) = f (ofS (upd 2 s z).1) (ofS (upd 2 s z).2):=by
  have e:upd 2 s z = updI 2 s z 2:=by
    unfold upd
    rw [if_neg (fun he=>hs (by show s.data.size = 0; rw [← Array.length_toList,he]; rfl))]
  have h3:=updK1_eq (s:=s) (z:=z) (i:=0) (by decide) h1 (fun K V=>updK1 (ofS s) 1 K V f)
  rw [e]
  refine h3.trans ?_
  exact updK1_eq (s:=s) (z:=z) (i:=1) (by decide) (updI_size (k:=2) (by decide) s h1 h2 1).1 f
def genK {α:Type} (K:List Nat):Nat→List Nat→List Nat→(List Nat→List Nat→α)→α
  | 0,V,out,f=>f V out
  | q+1,V,out,f=>hmK 2 K V fun V=>genK K q V (out++V) f
theorem genK_eq {α:Type} {K V:ByteArray} (hK:K.size≤64) (f:List Nat→List Nat→α):∀ q i,genK (ofS K) q (ofS (genI 2 K V i).1) (ofS (genI 2 K V i).2) f = f (ofS (genI 2 K V (i+q)).1) (ofS (genI 2 K V (i+q)).2)
  | 0,_=>rfl
  | q+1,i=>by
    rw [genK,hmK_eq hK,← KBN]
    have:=genK_eq hK f (V:=V) q (i+1)
    rw [show i+(q+1) = i+1+q by omega]
    exact this
theorem ofS_extract (s:ByteArray) (n:Nat):ofS (s.extract 0 n) = (ofS s).take n:=by
  unfold ofS
  rw [← List.map_take]
  congr 1
  simp [ByteArray.extract,ByteArray.copySlice]
theorem gen_val {K V:ByteArray} {n q:Nat} {out:List Nat} (hK:K.size≤64) (hq:genQ 2 n = q) (h:genK (ofS K) q (ofS V) [] (fun V' o=>o.take n) = out):ofS (genB 2 K V n) = out:=by
  have h1:=genK_eq (V:=V) hK (fun V' o=>o.take n) q 0
  rw [Nat.zero_add] at h1
  unfold genB
  rw [ofS_extract,hq,← h]
  exact h1.symm
end Go.Proofs.YtnpeokiboiclfaaGreat
set_option linter.unusedVariables false
namespace Go.Proofs.YtnpeokiboiclfaaGreat
open Grp
noncomputable def mulOK (p a x y k l xr yr:Nat):Bool :=
  Nat.beq (k >>> l) 1 && lad p a x y k (fun X Y Z=>Nat.ble 1 (Z%p) && Nat.beq (X%p) (xr*Z%p) && Nat.beq (Y%p) (yr*Z%p)) l x y 1
theorem KDE {V:Cv} (hok:V.Ok) {x y k l xr yr:Nat} (hP:On V.A V.B (.aff (c V.p x) (c V.p y))) (h:mulOK V.p V.a x y k l xr yr = true):pmul V.A (.aff (c V.p x) (c V.p y)) k = .aff (c V.p xr) (c V.p yr):=by
  simp only [mulOK,Bool.and_eq_true] at h
  have h2:=hok.prime.1
  obtain ⟨X,Y,Z,hf,hk⟩:=lad_spec (b:=V.b) (by omega) _ _ _ _ h.2
  simp only [Bool.and_eq_true] at hf
  obtain ⟨⟨f1,f2⟩,f3⟩:=hf
  have hd:=Nat.dvd_refl V.p
  have hZ:c V.p Z≠0:=fun e=>by
    have h3:=Nb f1
    have h4:=Nat.mod_eq_zero_of_dvd (c_zero_iff.1 e)
    omega
  have hr:=hk V.p hd hok.crv hP (by
    rw [beq_eq h.1,pmul_one hok.fld hP]
    intro _
    refine ⟨_,_,rfl,?_,?_⟩ <;> rw [Grp.c_one] <;> grind -lia)
  obtain ⟨x',y',e1,e2,e3⟩:=hr hZ
  have g2:=congrArg (c V.p) (beq_eq f2)
  rw [c_mod hd,c_mod hd,c_mul,e2] at g2
  have g3:=congrArg (c V.p) (beq_eq f3)
  rw [c_mod hd,c_mod hd,c_mul,e3] at g3
  have hx:x' = c V.p xr:=hok.fld.dom.cancel hZ (lin1 (c1:=1) (by clear g2 g3 e1 e2 e3 hZ hk hP hr; grind -lia) (sub_of_eq g2))
  have hy:y' = c V.p yr:=hok.fld.dom.cancel hZ (lin1 (c1:=1) (by clear g2 g3 e1 e2 e3 hZ hk hP hr hx; grind -lia) (sub_of_eq g3))
  rw [e1,hx,hy]
theorem on_val {V:Cv} {x y:Nat} (h:Nat.beq (y*y%V.p) ((x*x*x+V.a*x+V.b)%V.p) = true):On V.A V.B (.aff (c V.p x) (c V.p y)):=by
  have hd:=Nat.dvd_refl V.p
  have:=congrArg (c V.p) (beq_eq h)
  rw [c_mod hd,c_mod hd] at this
  simp only [c_add,c_mul] at this
  exact sub_of_eq this
theorem add_val {V : Cv} (hok : V.Ok) {x1 y1 x2 y2 L xr yr : Nat} (h1 : On V.A V.B (.aff (c V.p x1) (c V.p y1))) (h2 : On V.A V.B (.aff (c V.p x2) (c V.p y2)))
    (h:(Nat.ble (x1+1) V.p && Nat.ble (x2+1) V.p && !Nat.beq x1 x2 && Nat.beq (L*(x1+(V.p-x2))%V.p) ((y1+(V.p-y2))%V.p) && Nat.ble y2 V.p && Nat.ble yr V.p && Nat.ble xr V.p && Nat.beq (L*L%V.p) ((xr+x1+x2)%V.p) && Nat.beq ((yr+y1)%V.p) (L*(x1+(V.p-xr))%V.p)) = true) :
    padd V.A (.aff (c V.p x1) (c V.p y1)) (.aff (c V.p x2) (c V.p y2)) = .aff (c V.p xr) (c V.p yr):=by
  simp only [Bool.and_eq_true,Bool.not_eq_true'] at h
  obtain ⟨⟨⟨⟨⟨⟨⟨⟨b1,b2⟩,b3⟩,b4⟩,b5⟩,b6⟩,b7⟩,b8⟩,b9⟩:=h
  have l1:=Nb b1
  have l2:=Nb b2
  have hd:=Nat.dvd_refl V.p
  have hne:x1≠x2:=fun e=>by rw [e,Nat.beq_refl] at b3; cases b3
  have hx:c V.p x1≠c V.p x2:=fun e=>hne (c_inj (by omega) (by omega) e)
  have hx0:c V.p x1-c V.p x2≠0:=fun e=>hx (eq_of_sub e)
  have e4:=congrArg (c V.p) (beq_eq b4)
  rw [c_mod hd,c_mod hd,c_mul,c_add,c_add,c_sub hd (by omega),c_sub hd (Nb b5)] at e4
  have e8:=congrArg (c V.p) (beq_eq b8)
  rw [c_mod hd,c_mod hd,c_mul,c_add,c_add] at e8
  have e9:=congrArg (c V.p) (beq_eq b9)
  rw [c_mod hd,c_mod hd,c_mul,c_add,c_add,c_sub hd (Nb b7)] at e9
  have k1:c V.p y1*c V.p y1-(c V.p x1*c V.p x1*c V.p x1+V.A*c V.p x1+V.B) = 0:=h1
  have k2:c V.p y2*c V.p y2-(c V.p x2*c V.p x2*c V.p x2+V.A*c V.p x2+V.B) = 0:=h2
  refine padd_eq hok.fld h1 h2 (.line (c V.p L) _ _ (fun ho=>hx0 ho.1) ?_ ?_ ?_)
  · generalize c V.p x1 = X1 at *
    generalize c V.p x2 = X2 at *
    generalize c V.p y1 = Y1 at *
    generalize c V.p y2 = Y2 at *
    generalize c V.p L = l at *
    have hc:l*(X1-X2)-(Y1-Y2) = 0:=lin1 (c1:=1) (by clear e4 e8 e9 k1 k2 h1 h2; grind -lia) (sub_of_eq e4)
    refine ⟨hc,hok.fld.dom _ _ ?_ |>.resolve_left hx0⟩
    exact lin3 (c1:=Y1+Y2) (c2:=1) (c3:=-1) (by clear e4 e8 e9 k1 k2 h1 h2 hc; grind -lia) hc k1 k2
  · exact lin1 (c1:=-1) (by clear e4 e8 e9 k1 k2 h1 h2; grind -lia) (sub_of_eq e8)
  · exact lin1 (c1:=1) (by clear e4 e8 e9 k1 k2 h1 h2; grind -lia) (sub_of_eq e9)
end Go.Proofs.YtnpeokiboiclfaaGreat
set_option linter.unusedVariables false
set_option linter.unusedSimpArgs false
set_option maxRecDepth 20000
namespace Go.Proofs.YtnpeokiboiclfaaGreat
open Go Go.RowKit
open Grp
def eqL:List Nat→List Nat→Bool
  | [],[]=>true
  | a :: l,b :: m=>Nat.beq a b && eqL l m
  | _,_=>false
theorem KCS:∀ {l m:List Nat},eqL l m = true→l = m
  | [],[],_=>rfl
  | a :: l,b :: m,h=>by
    rw [eqL,Bool.and_eq_true] at h
    rw [Nat.eq_of_beq_eq_true h.1,KCS h.2]
  | [],_ :: _,h=>by cases h
  | _ :: _,[],h=>by cases h
theorem dig_of {s:ByteArray} {l:List Nat} {r:ByteArray} (h:ofS s = l) (hr:strOf (dgL l) = r):digS s = r:=by unfold digS; rw [h,hr]
theorem data_of {s:ByteArray} {l:List Nat} (h:ofS s = l):s.data.toList = l.map UInt8.ofNat:=by
  subst h
  unfold ofS
  rw [List.map_map]
  conv=>lhs; rw [← List.map_id s.data.toList]
  refine List.map_congr_left fun x _=>?_
  show x = UInt8.ofNat x.toNat
  rw [UInt8.ofNat_toNat]
def wt1:ByteArray:=⟨#[98,97,55,56,49,54,98,102,56,102,48,49,99,102,101,97,52,49,52,49,52,48,100,101,53,100,97,101,50,50,50,51,98,48,48,51,54,49,97,51,57,54,49,55,55,97,57,99,98,52,49,48,102,102,54,49,102,50,48,48,49,53,97,100]⟩
def wt2:ByteArray:=⟨#[100,100,97,102,51,53,97,49,57,51,54,49,55,97,98,97,99,99,52,49,55,51,52,57,97,101,50,48,52,49,51,49,49,50,101,54,102,97,52,101,56,57,97,57,55,101,97,50,48,97,57,101,101,101,101,54,52,98,53,53,100,51,57,97,50,49,57,50,57,57,50,97,50,55,52,102,99,49,97,56,51,54,98,97,51,99,50,51,97,51,102,101,101,98,98,100,52,53,52,100,52,52,50,51,54,52,51,99,101,56,48,101,50,97,57,97,99,57,52,102,97,53,52,99,97,52,57,102]⟩
def wt3:ByteArray:=⟨#[98,48,51,52,52,99,54,49,100,56,100,98,51,56,53,51,53,99,97,56,97,102,99,101,97,102,48,98,102,49,50,98,56,56,49,100,99,50,48,48,99,57,56,51,51,100,97,55,50,54,101,57,51,55,54,99,50,101,51,50,99,102,102,55]⟩
def wt4:ByteArray:=⟨#[101,53,50,56,101,57,97,98,102,50,100,101,99,101,53,52,100,52,55,99,55,101,55,53,101,53,102,101,51,48,50,49,52,57,102,56,49,55,101,97,57,102,98,52,98,101,101,54,102,52,49,57,57,54,57,55,100,48,52,100,53,98,56,57,100,53,52,102,98,98,57,55,56,97,49,53,98,53,99,52,52,51,99,57,101,99,50,49,48,51,54,100,50,52,54,48,98,54,102,55,51,101,98,97,100,48,100,99,50,97,98,97,54,101,54,50,52,97,98,102,48,55,55,52,53,98,99,49,48,55,54,57,52,98,98,55,53,52,55,98,98,48,57,57,53,102,55,48,100,101,50,53,100,54,98,50,57,101,50,100,51,48,49,49,98,98,49,57,100,50,55,54,55,54,99,48,55,49,54,50,99,56,98,53,99,99,100,101,48,54,54,56,57,54,49,100,102,56,54,56,48,51,52,56,50,99,98,51,55,101,100,54,100,53,99,48,98,98,56,100,53,48,99,102,49,102,53,48,100,52,55,54,97,97,48,52,53,56,98,100,97,98,97,56,48,54,102,52,56,98,101,57,100,99,98,56]⟩
def wt5:ByteArray:=⟨#[54,50,101,56,55,49,52,56,97,100,97,99,99,55,102,48,53,54,52,99,99,98,49,51,53,54,53,101,97,102,55,48,100,56,55,54,101,52,56,100,102,48,55,49,51,56,55,54,97,101,56,55,54,49,101,99,57,49,97,53,56,101,100,100,102,48,98,98,98,52,98,102,98,48,101,99,54,101,97,48]⟩
def wt6:ByteArray:=⟨#[55,102,102,102,102,102,102,102,56,48,48,48,48,48,48,48,56,48,48,48,48,48,48,48,48,48,48,48,48,48,48,48,48,48,48,48,48,48,48,48,56,48,48,48,48,48,48,48,48,48,48,48,48,48,48,48,48,48,48,48,48,48,48,48]⟩
def wt7:ByteArray:=⟨#[55,99,102,50,55,98,49,56,56,100,48,51,52,102,55,101,56,97,53,50,51,56,48,51,48,52,98,53,49,97,99,51,99,48,56,57,54,57,101,50,55,55,102,50,49,98,51,53,97,54,48,98,52,56,102,99,52,55,54,54,57,57,55,56,48,55,55,55,53,53,49,48,100,98,56,101,100,48,52,48,50,57,51,100,57,97,99,54,57,102,55,52,51,48,100,98,98,97,55,100,97,100,101,54,51,99,101,57,56,50,50,57,57,101,48,52,98,55,57,100,50,50,55,56,55,51,100,49]⟩
def wt8:ByteArray:=⟨#[100,54,56,52,48,102,54,98,52,50,102,54,101,100,97,102,100,49,51,49,49,54,101,48,101,49,50,53,54,53,50,48,50,102,101,102,56,101,57,101,99,101,55,100,99,101,48,51,56,49,50,52,54,52,100,48,52,98,57,52,52,50,100,101]⟩
def wt9:ByteArray:=⟨#[54,54,54,54,54,97,57,55,99,101,53,54,55,55,52,102,102,101,52,57,54,57,98,100,54,48,55,57,55,57,56,53,54,51,101,99,52,101,99,52,48,100,99,100,53,102,98,53,100,102,101,48,54,51,53,99,98,102,52,53,51,101,48,53,50,57,48,97,52,50,49,57,50,51,57,53,54,99,49,53,51,49,52,100,99,98,102,49,48,52,49,51,57,55,49,52,51,56,55,56,55,98,54,101,101,100,97,102,50,52,101,57,98,50,48,97,51,53,57,50,53,49,51,52,56,55,48,54]⟩
def wt10:ByteArray:=⟨#[116,97,107,101,110,32,114,101,102,117,115,101,100,32]⟩
theorem v1:ofS (toS (hashL 2 (ofS (⟨#[97,98,99]⟩:ByteArray)))) = [186,120,22,191,143,1,207,234,65,65,64,222,93,174,34,35,176,3,97,163,150,23,122,156,180,16,255,97,242,0,21,173]:=by
  have h:hashK 2 (ofS (⟨#[97,98,99]⟩:ByteArray)) (fun l=>eqL l [186,120,22,191,143,1,207,234,65,65,64,222,93,174,34,35,176,3,97,163,150,23,122,156,180,16,255,97,242,0,21,173]) = true:=by decide +kernel
  rw [hashK_eq] at h
  rw [ofS_toS (hashL_lt _ _)]; exact KCS h
theorem v2:ofS (toS (hashL 4 (ofS (⟨#[97,98,99]⟩:ByteArray)))) = [221,175,53,161,147,97,122,186,204,65,115,73,174,32,65,49,18,230,250,78,137,169,126,162,10,158,238,230,75,85,211,154,33,146,153,42,39,79,193,168,54,186,60,35,163,254,235,189,69,77,68,35,100,60,232,14,42,154,201,79,165,76,164,159]:=by
  have h:hashK 4 (ofS (⟨#[97,98,99]⟩:ByteArray)) (fun l=>eqL l [221,175,53,161,147,97,122,186,204,65,115,73,174,32,65,49,18,230,250,78,137,169,126,162,10,158,238,230,75,85,211,154,33,146,153,42,39,79,193,168,54,186,60,35,163,254,235,189,69,77,68,35,100,60,232,14,42,154,201,79,165,76,164,159]) = true:=by decide +kernel
  rw [hashK_eq] at h
  rw [ofS_toS (hashL_lt _ _)]; exact KCS h
theorem v3:ofS (hmacB 2 (toS (List.replicate 20 (11:UInt8).toNat)) (⟨#[72,105,32,84,104,101,114,101]⟩:ByteArray)) = [176,52,76,97,216,219,56,83,92,168,175,206,175,11,241,43,136,29,194,0,201,131,61,167,38,233,55,108,46,50,207,247]:=by
  have h:hmK 2 (ofS (toS (List.replicate 20 (11:UInt8).toNat))) (ofS (⟨#[72,105,32,84,104,101,114,101]⟩:ByteArray)) (fun l=>eqL l [176,52,76,97,216,219,56,83,92,168,175,206,175,11,241,43,136,29,194,0,201,131,61,167,38,233,55,108,46,50,207,247]) = true:=by decide +kernel
  rw [hmK_eq (by rw [KAL,List.length_replicate]; decide)] at h
  exact KCS h
theorem c_t1 (w:World):CF Tryz.prog 210 [.agg #[]] w (.string wt1):=by
  have h:=c_st1 w
  rw [dig_of v1 (show strOf (dgL _) = wt1 by kernel_rfl)] at h; exact h
theorem c_t2 (w:World):CF Tryz.prog 211 [.agg #[]] w (.string wt2):=by
  have h:=c_st2 w
  rw [dig_of v2 (show strOf (dgL _) = wt2 by kernel_rfl)] at h; exact h
theorem c_t3 (w:World):CF Tryz.prog 212 [.agg #[]] w (.string wt3):=by
  have h:=c_st3 w
  rw [dig_of v3 (show strOf (dgL _) = wt3 by kernel_rfl)] at h; exact h
theorem stZ_val:ofS stZ.1 = [48,42,74,186,120,65,42,179,105,64,244,190,123,148,10,12,114,133,66,184,184,29,149,184,1,165,123,55,151,249,221,110]∧ofS stZ.2 = [231,88,85,249,59,151,26,196,104,210,0,153,46,33,25,96,32,45,83,207,8,133,46,248,103,114,214,73,11,251,83,249]:=by
  have hs:ofS (strOf (Kr 32 0xca851911349384bffe89de1cbdc46e6831e44d34a4fb935ee285dd14b71a7488)++strOf (Kr 16 0x659ba96c601dc69fc902940805ec0ca8)++⟨#[]⟩) = [202,133,25,17,52,147,132,191,254,137,222,28,189,196,110,104,49,228,77,52,164,251,147,94,226,133,221,20,183,26,116,136,101,155,169,108,96,29,198,159,201,2,148,8,5,236,12,168]:=by
    rw [KBN,KBN]; decide +kernel
  have h:updK1 [202,133,25,17,52,147,132,191,254,137,222,28,189,196,110,104,49,228,77,52,164,251,147,94,226,133,221,20,183,26,116,136,101,155,169,108,96,29,198,159,201,2,148,8,5,236,12,168] 0 (List.replicate 32 0) (List.replicate 32 1) (fun K V=>updK1 [202,133,25,17,52,147,132,191,254,137,222,28,189,196,110,104,49,228,77,52,164,251,147,94,226,133,221,20,183,26,116,136,101,155,169,108,96,29,198,159,201,2,148,8,5,236,12,168] 1 K V fun K V=>eqL K [48,42,74,186,120,65,42,179,105,64,244,190,123,148,10,12,114,133,66,184,184,29,149,184,1,165,123,55,151,249,221,110] && eqL V [231,88,85,249,59,151,26,196,104,210,0,153,46,33,25,96,32,45,83,207,8,133,46,248,103,114,214,73,11,251,83,249]) = true:=by decide +kernel
  have e0:ofS (toS (List.replicate (hsize 2) 0)) = List.replicate 32 0:=by decide +kernel
  have e1:ofS (toS (List.replicate (hsize 2) 1)) = List.replicate 32 1:=by decide +kernel
  have h2:=updK_two (s:=strOf (Kr 32 0xca851911349384bffe89de1cbdc46e6831e44d34a4fb935ee285dd14b71a7488)++strOf (Kr 16 0x659ba96c601dc69fc902940805ec0ca8)++⟨#[]⟩) (z:=(toS (List.replicate (hsize 2) 0),toS (List.replicate (hsize 2) 1))) (by rw [ByteArray.size_append,ByteArray.size_append,KAs,KAs]; decide) (by rw [KAL,List.length_replicate]; decide) (by rw [KAL,List.length_replicate]; decide) (fun K V=>eqL K [48,42,74,186,120,65,42,179,105,64,244,190,123,148,10,12,114,133,66,184,184,29,149,184,1,165,123,55,151,249,221,110] && eqL V [231,88,85,249,59,151,26,196,104,210,0,153,46,33,25,96,32,45,83,207,8,133,46,248,103,114,214,73,11,251,83,249])
  dsimp only at h2
  rw [hs,e0,e1] at h2
  rw [h2,Bool.and_eq_true] at h
  exact ⟨KCS h.1,KCS h.2⟩
theorem genS_val {K V:ByteArray} {n q:Nat} {K1 V1:List Nat} (hK:K.size≤64) (hq:genQ 2 n = q) (h:genK (ofS K) q (ofS V) [] (fun V' _=>updK1 [] 0 (ofS K) V' fun K V=>eqL K K1 && eqL V V1) = true):ofS (genS 2 K V n).1 = K1∧ofS (genS 2 K V n).2 = V1:=by
  have h1:=genK_eq (V:=V) hK (fun V' _=>updK1 [] 0 (ofS K) V' fun K V=>eqL K K1 && eqL V V1) q 0
  rw [Nat.zero_add] at h1
  have h2:=h1.symm.trans h
  have h3:=updK_one (z:=(K,(genI 2 K V q).1)) hK (fun K V=>eqL K K1 && eqL V V1)
  have h4:=h3.symm.trans h2
  rw [Bool.and_eq_true] at h4
  unfold genS
  rw [hq]
  exact ⟨KCS h4.1,KCS h4.2⟩
theorem g1_val:ofS (genS 2 stZ.1 stZ.2 128).1 = [145,27,247,203,218,67,135,161,114,161,163,218,246,201,250,142,23,196,191,239,105,204,126,255,19,65,231,238,248,141,40,17]∧ofS (genS 2 stZ.1 stZ.2 128).2 = [191,189,207,69,93,92,130,172,175,197,159,51,156,229,113,38,255,112,182,122,239,145,15,162,93,183,97,120,24,250,234,254] :=
  genS_val (q:=4) KBk.1 (by decide +kernel) (by rw [stZ_val.1,stZ_val.2]; decide +kernel)
theorem v4:ofS (genB 2 (genS 2 stZ.1 stZ.2 128).1 (genS 2 stZ.1 stZ.2 128).2 128) = [229,40,233,171,242,222,206,84,212,124,126,117,229,254,48,33,73,248,23,234,159,180,190,230,244,25,150,151,208,77,91,137,213,79,187,151,138,21,181,196,67,201,236,33,3,109,36,96,182,247,62,186,208,220,42,186,110,98,74,191,7,116,91,193,7,105,75,183,84,123,176,153,95,112,222,37,214,178,158,45,48,17,187,25,210,118,118,192,113,98,200,181,204,222,6,104,150,29,248,104,3,72,44,179,126,214,213,192,187,141,80,207,31,80,212,118,170,4,88,189,171,168,6,244,139,233,220,184] :=
  gen_val (q:=4) (KBi dc _ KBk.1 KBk.2 _).1 (by decide +kernel) (KCS (by
    rw [g1_val.1,g1_val.2]
    decide +kernel))
theorem c_t4 (w:World):CF Tryz.prog 213 [.agg #[]] w (.string wt4):=by
  have h:=c_st4 w
  rw [dig_of v4 (show strOf (dgL _) = wt4 by kernel_rfl)] at h; exact h
theorem kdf_l (z info:ByteArray) (i:Nat) (hi:i+1<256):ofS (kdfB z info (i+1)) = ofS (kdfB z info i)++hashL 2 ([0,0,0,i+1]++ofS z++ofS info):=by
  show ofS (kdfB z info i++toS (hashL 2 (ofS (toS [0,0,0,i+1]++z++info)))) = _
  rw [KBN,ofS_toS (hashL_lt _ _),KBN,KBN,ofS_toS (l:=[0,0,0,i+1]) (fun x hx=>by simp at hx; omega)]
theorem v5:ofS ((kdfB (⟨#[115,101,99,114,101,116]⟩:ByteArray) (⟨#[105,110,102,111]⟩:ByteArray) 2).extract 0 40) = [98,232,113,72,173,172,199,240,86,76,203,19,86,94,175,112,216,118,228,141,240,113,56,118,174,135,97,236,145,165,142,221,240,187,180,191,176,236,110,160]:=by
  have h1:hashK 2 ([0,0,0,0+1]++ofS (⟨#[115,101,99,114,101,116]⟩:ByteArray)++ofS (⟨#[105,110,102,111]⟩:ByteArray)) (fun l=>eqL l [98,232,113,72,173,172,199,240,86,76,203,19,86,94,175,112,216,118,228,141,240,113,56,118,174,135,97,236,145,165,142,221]) = true:=by decide +kernel
  have h2:hashK 2 ([0,0,0,1+1]++ofS (⟨#[115,101,99,114,101,116]⟩:ByteArray)++ofS (⟨#[105,110,102,111]⟩:ByteArray)) (fun l=>eqL l [240,187,180,191,176,236,110,160,57,239,253,24,84,227,95,5,8,122,148,1,181,207,196,116,4,9,83,85,117,48,232,14]) = true:=by decide +kernel
  rw [hashK_eq] at h1 h2
  rw [ofS_extract,kdf_l _ _ 1 dc,kdf_l _ _ 0 dc,KCS h1,KCS h2]
  decide +kernel
theorem c_t5 (w:World):CF Tryz.prog 214 [.agg #[]] w (.string wt5):=by
  have h:=c_st5 w
  rw [dig_of v5 (show strOf (dgL _) = wt5 by kernel_rfl)] at h; exact h
theorem v6:invM 2 cv3.p = 57896044605178124381348723474703786765043071707645157097766815654433548926976:=invM_eq (Nat.lt_of_succ_le (Nb kr)) (by decide +kernel)
theorem c_t6 (w:World):CF Tryz.prog 215 [.agg #[]] w (.string wt6):=by
  have h:=c_st6 cv3 rfl w
  rw [v6,show digS (strOf (Kr 32 57896044605178124381348723474703786765043071707645157097766815654433548926976)) = wt6 by kernel_rfl] at h; exact h
theorem v7:padd cv3.A cv3.G cv3.G = .aff (c cv3.p 56515219790691171413109057904011688695424810155802929973526481321309856242040) (c cv3.p 3377031843712258259223711451491452598088675519751548567112458094635497583569):=by
  have h:=KDE (V:=cv3) ok3 (x:=cv3.x) (y:=cv3.y) (k:=2) (l:=1) (xr:=56515219790691171413109057904011688695424810155802929973526481321309856242040) (yr:=3377031843712258259223711451491452598088675519751548567112458094635497583569) ok3.on (by decide +kernel)
  rw [show (2:Nat) = 1+1 from rfl,pmul_succ] at h
  rw [← h]
  congr 1
  exact (pmul_one ok3.fld ok3.on).symm
theorem c_v {x:Nat} (h:Nat.ble (x+1) cv3.p = true):(c cv3.p x).val = x:=val_c (Nat.lt_of_succ_le (Nb h))
theorem app_str {a b r:ByteArray} (h:a.data.toList++b.data.toList = r.data.toList):a++b = r:=bext (by rw [cat_l]; exact h)
theorem c_t7 (w:World):CF Tryz.prog 216 [.agg #[]] w (.string wt7):=by
  have h:=c_st7 cv3 rfl _ v7 w
  rw [show xv (.aff (c cv3.p 56515219790691171413109057904011688695424810155802929973526481321309856242040) (c cv3.p 3377031843712258259223711451491452598088675519751548567112458094635497583569):Pt cv3.p) = 56515219790691171413109057904011688695424810155802929973526481321309856242040 from c_v kr,show yv (.aff (c cv3.p 56515219790691171413109057904011688695424810155802929973526481321309856242040) (c cv3.p 3377031843712258259223711451491452598088675519751548567112458094635497583569):Pt cv3.p) = 3377031843712258259223711451491452598088675519751548567112458094635497583569 from c_v kr,
    show digS (strOf (Kr 32 56515219790691171413109057904011688695424810155802929973526481321309856242040))++digS (strOf (Kr 32 3377031843712258259223711451491452598088675519751548567112458094635497583569)) = wt7 from app_str (by decide +kernel)] at h
  exact h
theorem nb3:nby cv3.p = 32:=by decide +kernel
theorem nbn3:nby cv3.n = 32:=by decide +kernel
theorem get3 {X Y : Nat} (h : Nat.beq (Y * Y % cv3.p) ((X * X * X + cv3.a * X + cv3.b) % cv3.p) = true) (hX : Nat.ble (X + 1) cv3.p = true) (hY : Nat.ble (Y + 1) cv3.p = true) :
    GetC 3 ((⟨#[4]⟩:ByteArray)++strOf (Kr 32 X)++strOf (Kr 32 Y)) (c cv3.p X).val (c cv3.p Y).val:=by
  have ho:=onB_on (on_val h)
  rw [c_v hX,c_v hY]
  have ho':onB cv3.p cv3.a cv3.b X Y false = true:=by
    have e1:xv (.aff (c cv3.p X) (c cv3.p Y):Pt cv3.p) = X:=c_v hX
    have e2:yv (.aff (c cv3.p X) (c cv3.p Y):Pt cv3.p) = Y:=c_v hY
    rw [e1,e2] at ho; exact ho
  have:=c_get4 ok3 ho' (id:=3) rfl
  unfold putS coB at this
  rw [nb3] at this
  exact this
theorem v8:pmul cv3.A (.aff (c cv3.p 94614628035376775017206308750789183062781662113650185964358180554713676955491) (c cv3.p 39344066167423385249742978713612969193023992992304128902604735073661205639851)) 90715242355624408956760196470661553406669515180918330155841145310341541729331 = .aff (c cv3.p 97028279827331440815310323584614598426840799872650960322655328348137418146526) (c cv3.p 37167160490265717781245354029987174099898889893588137490456065962350352618402):=KDE ok3 (l:=255) (on_val (by decide +kernel)) (by decide +kernel)
theorem c_t8 (w:World):CF Tryz.prog 217 [.agg #[]] w (.string wt8):=by
  have h:=c_st8 cv3 rfl (c cv3.p 94614628035376775017206308750789183062781662113650185964358180554713676955491) (c cv3.p 39344066167423385249742978713612969193023992992304128902604735073661205639851) (strOf (Kr 32 97028279827331440815310323584614598426840799872650960322655328348137418146526)) (by rw [KAs]; decide) (get3 (by decide +kernel) kr kr) (on_val (by decide +kernel)) (by
    rw [v8,show xv (.aff (c cv3.p 97028279827331440815310323584614598426840799872650960322655328348137418146526) (c cv3.p 37167160490265717781245354029987174099898889893588137490456065962350352618402):Pt cv3.p) = 97028279827331440815310323584614598426840799872650960322655328348137418146526 from c_v kr]
    unfold coB; rw [nb3]) w
  rw [show digS (strOf (Kr 32 97028279827331440815310323584614598426840799872650960322655328348137418146526)) = wt8 by kernel_rfl] at h; exact h
theorem v9x:ofS (genB 2 stZ.1 stZ.2 32) = [89,26,223,230,230,238,155,163,231,209,30,213,29,176,75,59,249,96,12,23,51,192,176,196,72,110,184,35,11,197,99,68] :=
  gen_val (q:=1) KBk.1 (by decide +kernel) (KCS (by rw [stZ_val.1,stZ_val.2]; decide +kernel))
theorem v9t:tryE cv3 (genB 2 stZ.1 stZ.2 (nby cv3.n)) = 40303326862137999007344107705312571244040113518001901755027270994589804487492:=by
  rw [nbn3]
  unfold tryE
  rw [data_of v9x]
  decide +kernel
theorem dig3 {m:ByteArray} {l:List Nat} {z:Nat} (h:hashK 2 (ofS m) (fun x=>eqL x l) = true) (hz:Nat.beq (beVal (l.map UInt8.ofNat)/2^(8*hsize 2-blen cv3.n)%cv3.n) z = true):digE cv3 2 m = z:=by
  rw [hashK_eq] at h
  unfold digE
  rw [toS_l,KCS h]
  exact Nat.eq_of_beq_eq_true hz
theorem dg_a:digE cv3 2 (⟨#[115,97,109,112,108,101]⟩:ByteArray) = 79232240492262066599341792208678897019497196617930543451364792016062498329023:=dig3 (l:=[175,43,219,225,170,155,110,193,226,173,225,214,148,244,31,199,26,131,29,2,104,233,137,21,98,17,61,138,98,173,209,191]) (by decide +kernel) (by decide +kernel)
theorem dg_b:digE cv3 2 (⟨#[83,97,109,112,108,101]⟩:ByteArray) = 67682513392369649742445145548004271477846274949423449204766956346031134226197:=dig3 (l:=[149,162,241,237,176,138,118,18,11,130,206,199,201,60,164,119,97,134,57,240,75,234,199,210,174,186,45,192,57,212,55,21]) (by decide +kernel) (by decide +kernel)
theorem v9r:sgR cv3 40303326862137999007344107705312571244040113518001901755027270994589804487492 = 46316864633895175514663221519306326793982058561360594257174210890850269216261:=by
  unfold sgR
  rw [show cv3.G = .aff (c cv3.p cv3.x) (c cv3.p cv3.y) from rfl,KDE ok3 (l:=254) (xr:=46316864633895175514663221519306326793982058561360594257174210890850269216261) (yr:=49781574992167718019001175181900540620350829342842069351607438305720831973375) ok3.on (by decide +kernel),show xv (.aff (c cv3.p 46316864633895175514663221519306326793982058561360594257174210890850269216261) (c cv3.p 49781574992167718019001175181900540620350829342842069351607438305720831973375):Pt cv3.p) = 46316864633895175514663221519306326793982058561360594257174210890850269216261 from c_v kr]
  decide +kernel
theorem sgS_val {V:Cv} {z D x R I S:Nat} (h1:sgR V x = R) (h2:invM x V.n = I) (h3:(z+R*D%V.n)%V.n*I%V.n = S):sgS V z D x = S:=by unfold sgS; rw [h1,h2,h3]
theorem v9s:sgS cv3 79232240492262066599341792208678897019497196617930543451364792016062498329023 0xc9afa9d845ba75166b5c215767b1d6934e50c3db36e89b127b8a622b120f6721 40303326862137999007344107705312571244040113518001901755027270994589804487492 = 18562951455566659558074649919326377732162654536690116457682310621671430850310:=sgS_val v9r (invM_eq (s:=71449251167060979009872172808619211575938035728695834307350626947988668293132) (Nat.lt_of_succ_le (Nb kr)) (by decide +kernel)) (by decide +kernel)
theorem c_t9 (w:World):CF Tryz.prog 218 [.agg #[]] w (.string wt9):=by
  have hs:=sgE_got (V:=cv3) (dk:=2) (z:=digE cv3 2 (⟨#[115,97,109,112,108,101]⟩:ByteArray)) (D:=0xc9afa9d845ba75166b5c215767b1d6934e50c3db36e89b127b8a622b120f6721) (q:=63) (i:=0) (n:=1) v9t dc ⟨by decide,Nat.lt_of_succ_le (Nb kr)⟩ (by rw [dg_a]; exact ⟨by rw [v9r]; decide,by rw [v9s]; decide⟩)
  have h:=c_st9 cv3 rfl _ _ _ _ _ _ (by rw [v9r]; exact Nat.lt_of_succ_le (Nb kr)) (by rw [dg_a,v9s]; exact Nat.lt_of_succ_le (Nb kr)) hs w
  rw [dg_a,v9r,v9s,show digS (strOf (Kr 32 46316864633895175514663221519306326793982058561360594257174210890850269216261))++digS (strOf (Kr 32 18562951455566659558074649919326377732162654536690116457682310621671430850310)) = wt9 from app_str (by decide +kernel)] at h
  exact h
theorem v10a:dualP cv3 76802929953564841014745990121047686326403956053371139132425205714078128822337 32955858153445698164125015627026694558773479180781844519416553310382593614109 (.aff (c cv3.p 43872280807156713839160376167191808430140484563252114113014272064716834774966) (c cv3.p 54736908695619294235531183715189990111299271757105154178488727263331972686489)) = .aff (c cv3.p 108478302882382504386260635397250479524259298414270181541635698882548524332822) (c cv3.p 23816927082762815370282769170926222301915909407297503829989736095857061655698):=by
  have e1:=KDE (V:=cv3) ok3 (x:=cv3.x) (y:=cv3.y) (k:=76802929953564841014745990121047686326403956053371139132425205714078128822337) (l:=255) (xr:=20779317740300296742766638971241709802424607094659873319563312030208433984496) (yr:=113908814321470812634018771580499415177024469890517119264094736897106708461579) ok3.on (by decide +kernel)
  have e2:=KDE (V:=cv3) ok3 (x:=43872280807156713839160376167191808430140484563252114113014272064716834774966) (y:=54736908695619294235531183715189990111299271757105154178488727263331972686489) (k:=32955858153445698164125015627026694558773479180781844519416553310382593614109) (l:=254) (xr:=37271527765666374812036540511545043269539922057645722216985381905418167776121) (yr:=58077682401755115636625189478538341167543450334189259391464531772829415558122) (on_val (by decide +kernel)) (by decide +kernel)
  unfold dualP
  rw [show cv3.G = .aff (c cv3.p cv3.x) (c cv3.p cv3.y) from rfl,e1,e2]
  exact add_val ok3 (L:=111474762711881754341727443461705642644286740694791915749284198621426778317901) (on_val (by decide +kernel)) (on_val (by decide +kernel)) (by decide +kernel)
theorem v10b:dualP cv3 62048091023676967521872260787407264837732140368796498350528541287654305225152 32955858153445698164125015627026694558773479180781844519416553310382593614109 (.aff (c cv3.p 43872280807156713839160376167191808430140484563252114113014272064716834774966) (c cv3.p 54736908695619294235531183715189990111299271757105154178488727263331972686489)) = .aff (c cv3.p 19314093673008179323791335353390904944571290383819779308679387912429676345420) (c cv3.p 15168820089993792222865634887314077381623667531535912165642207351025114947472):=by
  have e1:=KDE (V:=cv3) ok3 (x:=cv3.x) (y:=cv3.y) (k:=62048091023676967521872260787407264837732140368796498350528541287654305225152) (l:=255) (xr:=22297005959736275103409694896784168239091483414080461228427805240788029799980) (yr:=22754891387515148225512124585706566447395665685273280710903721803665629017844) ok3.on (by decide +kernel)
  have e2:=KDE (V:=cv3) ok3 (x:=43872280807156713839160376167191808430140484563252114113014272064716834774966) (y:=54736908695619294235531183715189990111299271757105154178488727263331972686489) (k:=32955858153445698164125015627026694558773479180781844519416553310382593614109) (l:=254) (xr:=37271527765666374812036540511545043269539922057645722216985381905418167776121) (yr:=58077682401755115636625189478538341167543450334189259391464531772829415558122) (on_val (by decide +kernel)) (by decide +kernel)
  unfold dualP
  rw [show cv3.G = .aff (c cv3.p cv3.x) (c cv3.p cv3.y) from rfl,e1,e2]
  exact add_val ok3 (L:=23691155231073271805845344930541603842915356336654386949416511460955139143638) (on_val (by decide +kernel)) (on_val (by decide +kernel)) (by decide +kernel)
theorem v10i:invM 0xf7cb1c942d657c41d436c7a1b6e29f65f3e900dbb9aff4064dc4ab2f843acda8 cv3.n = 69880503463384056598514622327964816651803683313052280065095964100306410098411:=invM_eq (Nat.lt_of_succ_le (Nb kr)) (by decide +kernel)
theorem v10s (b : Bool) {m : ByteArray} {z u : Nat} {x y : Nat} (hz : digE cv3 2 m = z) (hu : Nat.beq (z * 69880503463384056598514622327964816651803683313052280065095964100306410098411 % cv3.n) u = true) (hd : dualP cv3 u 32955858153445698164125015627026694558773479180781844519416553310382593614109 (.aff (c cv3.p 43872280807156713839160376167191808430140484563252114113014272064716834774966) (c cv3.p 54736908695619294235531183715189990111299271757105154178488727263331972686489)) = .aff (c cv3.p x) (c cv3.p y)) (hx : Nat.ble (x + 1) cv3.p = true) (hb : Nat.beq (x % cv3.n) 0xefd48b2aacb6a8fd1140dd9cd45e81d69d2c877b56aaf991c34d0ea84eaf3716 = b) :
    verE cv3 (dualP cv3 (digE cv3 2 m*invM 0xf7cb1c942d657c41d436c7a1b6e29f65f3e900dbb9aff4064dc4ab2f843acda8 cv3.n%cv3.n) (0xefd48b2aacb6a8fd1140dd9cd45e81d69d2c877b56aaf991c34d0ea84eaf3716*invM 0xf7cb1c942d657c41d436c7a1b6e29f65f3e900dbb9aff4064dc4ab2f843acda8 cv3.n%cv3.n) (.aff (c cv3.p 43872280807156713839160376167191808430140484563252114113014272064716834774966) (c cv3.p 54736908695619294235531183715189990111299271757105154178488727263331972686489))) 0xefd48b2aacb6a8fd1140dd9cd45e81d69d2c877b56aaf991c34d0ea84eaf3716 = b:=by
  rw [hz,v10i,Nat.eq_of_beq_eq_true hu,show 0xefd48b2aacb6a8fd1140dd9cd45e81d69d2c877b56aaf991c34d0ea84eaf3716*69880503463384056598514622327964816651803683313052280065095964100306410098411%cv3.n = 32955858153445698164125015627026694558773479180781844519416553310382593614109 by decide +kernel,hd]
  unfold verE
  rw [show xv (.aff (c cv3.p x) (c cv3.p y):Pt cv3.p) = x from c_v hx,show iv (.aff (c cv3.p x) (c cv3.p y):Pt cv3.p) = false from rfl,← hb]
  show decide (x%cv3.n = _) = Nat.beq _ _
  cases hq:Nat.beq (x%cv3.n) 0xefd48b2aacb6a8fd1140dd9cd45e81d69d2c877b56aaf991c34d0ea84eaf3716 with
  | true=>exact decide_eq_true (Nat.eq_of_beq_eq_true hq)
  | false=>exact decide_eq_false (Nat.ne_of_beq_eq_false hq)
theorem c_t10 (w:World):CF Tryz.prog 219 [.agg #[]] w (.string wt10):=by
  have h:=c_st10 cv3 rfl (c cv3.p 43872280807156713839160376167191808430140484563252114113014272064716834774966) (c cv3.p 54736908695619294235531183715189990111299271757105154178488727263331972686489) (get3 (by decide +kernel) kr kr) (on_val (by decide +kernel)) (v10s true dg_a (by decide +kernel) v10a kr (by decide +kernel)) (v10s false dg_b (by decide +kernel) v10b kr (by decide +kernel)) w
  rw [show vfS 2 = wt10 from app_str (show (vfS 1).data.toList++_ = _ by rw [show vfS 1 = (⟨#[116,97,107,101,110,32]⟩:ByteArray) from app_str rfl]; rfl)] at h
  exact h
open Grp
theorem sgS_zero {V:Cv} (hok:V.Ok) {z D x R:Nat} (hx:sgK V x) (hr:sgR V x = R) (h:sgS V z D x = 0):(z+R*D)%V.n = 0:=by
  obtain ⟨_,h2⟩:=invM_mul hok.order hx.1 hx.2
  unfold sgS at h
  rw [hr,Nat.add_mod_mod,Nat.mod_mul_mod] at h
  have e:(z+R*D)%V.n = (z+R*D)*invM x V.n*x%V.n:=by
    rw [Nat.mul_assoc,Nat.mul_comm (invM x V.n),Nat.mul_mod,h2,Nat.mul_one,Nat.mod_mod]
  rw [e,Nat.mul_mod,h,Nat.zero_mul,Nat.zero_mod]
theorem two_R {n z D R1 R2:Nat} (hn:Pr n) (h0:D≠0) (hD:D<n) (h1:(z+R1*D)%n = 0) (h2:(z+R2*D)%n = 0) (l1:R1<n) (l2:R2<n):R1 = R2:=by
  obtain ⟨_,hw⟩:=invM_mul hn h0 hD
  obtain ⟨w,e⟩:∃ w,invM D n = w:=⟨_,rfl⟩
  rw [e] at hw
  have k:∀ R,(z+R*D)%n = 0→n ∣ z*w+R:=fun R h=>by
    refine Nat.dvd_of_mod_eq_zero ?_
    have e2:(z+R*D)*w = z*w+R*(D*w):=by rw [Nat.add_mul,Nat.mul_assoc]
    have e3:(z*w+R*(D*w))%n = 0:=by rw [← e2,Nat.mul_mod,h,Nat.zero_mul,Nat.zero_mod]
    rw [Nat.add_mod,Nat.mul_mod R,hw,Nat.mul_one,Nat.mod_mod,← Nat.add_mod] at e3
    exact e3
  have d1:=k R1 h1
  have d2:=k R2 h2
  rcases Nat.le_total R1 R2 with h|h
  · have d:=Nat.dvd_sub d2 d1
    rw [Nat.add_sub_add_left] at d
    have:=Nat.eq_zero_of_dvd_of_lt d om
    omega
  · have d:=Nat.dvd_sub d1 d2
    rw [Nat.add_sub_add_left] at d
    have:=Nat.eq_zero_of_dvd_of_lt d om
    omega
theorem leg_ok {V : Cv} (hok : V.Ok) {D : Nat} {K U : ByteArray} {X1 X2 R1 R2 : Nat} (hX1 : tryE V (genB 2 K U (nby V.n)) = X1) (hX2 : tryE V (genB 2 (genS 2 K U (nby V.n)).1 (genS 2 K U (nby V.n)).2 (nby V.n)) = X2) (k1 : sgK V X1) (k2 : sgK V X2) (r1 : sgR V X1 = R1) (r2 : sgR V X2 = R2)
    (n1:R1≠0) (n2:R2≠0) (ne:R1≠R2) (l1:R1<V.n) (l2:R2<V.n) (h0:D≠0) (hD:D<V.n) (z:Nat):∃ x i K' U' n',sgK V x∧sgO V z D x∧sgE V 2 z D 64 0 K U 1 = ((sgR V x,sgS V z D x,i,0),K',U',n'):=by
  by_cases h:sgS V z D X1 = 0
  · have h2:sgS V z D X2≠0:=fun h2=>ne (two_R hok.order h0 hD (sgS_zero hok k1 r1 h) (sgS_zero hok k2 r2 h2) l1 l2)
    have ho:sgO V z D X2:=⟨by rw [r2]; exact n2,h2⟩
    exact ⟨X2,_,_,_,_,k2,ho,(sgE_next hX1 dc (fun h'=>h'.2.2 h)).trans (sgE_got hX2 dc k2 ho)⟩
  · have ho:sgO V z D X1:=⟨by rw [r1]; exact n1,h⟩
    exact ⟨X1,_,_,_,_,k1,ho,sgE_got hX1 dc k1 ho⟩
def lgZ:ByteArray×ByteArray:=upd 2 ((⟨#[48,49,50,51,52,53,54,55,56,57,97,98,99,100,101,102,48,49,50,51,52,53,54,55,56,57,97,98,99,100,101,102]⟩:ByteArray)++⟨#[]⟩++⟨#[]⟩) (toS (List.replicate (hsize 2) 0),toS (List.replicate (hsize 2) 1))
theorem KCy:lgZ.1.size≤64∧lgZ.2.size≤64:=upd_size (k:=2) dc _ (by rw [KAL,List.length_replicate]; decide) (by rw [KAL,List.length_replicate]; decide)
theorem lgZ_val:ofS lgZ.1 = [243,0,27,166,200,42,146,203,209,83,49,62,109,0,146,169,238,18,37,138,109,131,238,221,97,125,47,188,44,213,19,240]∧ofS lgZ.2 = [137,133,222,13,63,33,102,187,57,29,119,229,116,160,3,224,219,24,192,213,49,106,145,180,226,85,112,17,37,128,46,146]:=by
  have hs:ofS ((⟨#[48,49,50,51,52,53,54,55,56,57,97,98,99,100,101,102,48,49,50,51,52,53,54,55,56,57,97,98,99,100,101,102]⟩:ByteArray)++⟨#[]⟩++⟨#[]⟩) = [48,49,50,51,52,53,54,55,56,57,97,98,99,100,101,102,48,49,50,51,52,53,54,55,56,57,97,98,99,100,101,102]:=by
    rw [KBN,KBN]; decide +kernel
  have h:updK1 [48,49,50,51,52,53,54,55,56,57,97,98,99,100,101,102,48,49,50,51,52,53,54,55,56,57,97,98,99,100,101,102] 0 (List.replicate 32 0) (List.replicate 32 1) (fun K V=>updK1 [48,49,50,51,52,53,54,55,56,57,97,98,99,100,101,102,48,49,50,51,52,53,54,55,56,57,97,98,99,100,101,102] 1 K V fun K V=>eqL K [243,0,27,166,200,42,146,203,209,83,49,62,109,0,146,169,238,18,37,138,109,131,238,221,97,125,47,188,44,213,19,240] && eqL V [137,133,222,13,63,33,102,187,57,29,119,229,116,160,3,224,219,24,192,213,49,106,145,180,226,85,112,17,37,128,46,146]) = true:=by decide +kernel
  have e0:ofS (toS (List.replicate (hsize 2) 0)) = List.replicate 32 0:=by decide +kernel
  have e1:ofS (toS (List.replicate (hsize 2) 1)) = List.replicate 32 1:=by decide +kernel
  have h2:=updK_two (s:=(⟨#[48,49,50,51,52,53,54,55,56,57,97,98,99,100,101,102,48,49,50,51,52,53,54,55,56,57,97,98,99,100,101,102]⟩:ByteArray)++⟨#[]⟩++⟨#[]⟩) (z:=(toS (List.replicate (hsize 2) 0),toS (List.replicate (hsize 2) 1))) dc (by rw [KAL,List.length_replicate]; decide) (by rw [KAL,List.length_replicate]; decide) (fun K V=>eqL K [243,0,27,166,200,42,146,203,209,83,49,62,109,0,146,169,238,18,37,138,109,131,238,221,97,125,47,188,44,213,19,240] && eqL V [137,133,222,13,63,33,102,187,57,29,119,229,116,160,3,224,219,24,192,213,49,106,145,180,226,85,112,17,37,128,46,146])
  dsimp only at h2
  rw [hs,e0,e1] at h2
  rw [h2,Bool.and_eq_true] at h
  exact ⟨KCS h.1,KCS h.2⟩
theorem lg1 {n:Nat} (hq:genQ 2 n = 1):ofS (genS 2 lgZ.1 lgZ.2 n).1 = [115,251,47,71,68,185,243,168,86,179,80,127,146,210,151,211,104,13,209,75,230,203,22,51,131,86,181,39,48,218,29,239]∧ofS (genS 2 lgZ.1 lgZ.2 n).2 = [222,73,98,129,4,205,162,3,36,104,124,247,164,73,189,26,53,232,128,97,105,57,71,204,134,132,223,120,120,156,54,107] :=
  genS_val (q:=1) KCy.1 hq (by rw [lgZ_val.1,lgZ_val.2]; decide +kernel)
theorem lg_nb1:nby cv1.n = 24:=by decide +kernel
theorem lgB1_1:ofS (genB 2 lgZ.1 lgZ.2 24) = [90,232,182,254,134,183,170,53,234,206,189,167,4,166,7,142,17,171,24,47,17,250,200,0] :=
  gen_val (q:=1) KCy.1 (by decide +kernel) (KCS (by rw [lgZ_val.1,lgZ_val.2]; decide +kernel))
theorem lgX1_1:tryE cv1 (genB 2 lgZ.1 lgZ.2 24) = 2229083230464238375057734177918094316459828746409014380544:=by
  unfold tryE
  rw [lg_nb1,data_of lgB1_1]
  decide +kernel
theorem lgR1_1:sgR cv1 2229083230464238375057734177918094316459828746409014380544 = 1121241800972458573878084929190282801023168332678382603681:=by
  unfold sgR
  rw [show cv1.G = .aff (c cv1.p cv1.x) (c cv1.p cv1.y) from rfl,KDE ok1 (l:=190) (xr:=1121241800972458573878084929190282801023168332678382603681) (yr:=4693073594081951622690544550405521971373600084967816179605) ok1.on (by decide +kernel),show xv (.aff (c cv1.p 1121241800972458573878084929190282801023168332678382603681) (c cv1.p 4693073594081951622690544550405521971373600084967816179605):Pt cv1.p) = 1121241800972458573878084929190282801023168332678382603681 from val_c (Nat.lt_of_succ_le (Nb kr))]
  decide +kernel
theorem lgB1_2:ofS (genB 2 (genS 2 lgZ.1 lgZ.2 24).1 (genS 2 lgZ.1 lgZ.2 24).2 24) = [233,79,109,198,7,61,191,202,96,96,120,248,48,55,112,13,29,88,207,14,200,15,154,204] :=
  gen_val (q:=1) (KBi dc _ KCy.1 KCy.2 _).1 (by decide +kernel) (KCS (by rw [(lg1 (n:=24) (by decide +kernel)).1,(lg1 (n:=24) (by decide +kernel)).2]; decide +kernel))
theorem lgX1_2:tryE cv1 (genB 2 (genS 2 lgZ.1 lgZ.2 24).1 (genS 2 lgZ.1 lgZ.2 24).2 24) = 5720751144241411251396504546178451401363471234011702991564:=by
  unfold tryE
  rw [lg_nb1,data_of lgB1_2]
  decide +kernel
theorem lgR1_2:sgR cv1 5720751144241411251396504546178451401363471234011702991564 = 1738522403279225720611853371151074320669291905805216255158:=by
  unfold sgR
  rw [show cv1.G = .aff (c cv1.p cv1.x) (c cv1.p cv1.y) from rfl,KDE ok1 (l:=191) (xr:=1738522403279225720611853371151074320669291905805216255158) (yr:=66623291399016420618619332076460368531929608394095173676) ok1.on (by decide +kernel),show xv (.aff (c cv1.p 1738522403279225720611853371151074320669291905805216255158) (c cv1.p 66623291399016420618619332076460368531929608394095173676):Pt cv1.p) = 1738522403279225720611853371151074320669291905805216255158 from val_c (Nat.lt_of_succ_le (Nb kr))]
  decide +kernel
theorem lg_ok1 {D:Nat} (h0:D≠0) (hD:D<cv1.n) (z:Nat):∃ x i K' U' n',sgK cv1 x∧sgO cv1 z D x∧sgE cv1 2 z D 64 0 lgZ.1 lgZ.2 1 = ((sgR cv1 x,sgS cv1 z D x,i,0),K',U',n') :=
  leg_ok ok1 (by rw [lg_nb1]; exact lgX1_1) (by rw [lg_nb1]; exact lgX1_2) ⟨by decide,Nat.lt_of_succ_le (Nb kr)⟩ ⟨by decide,Nat.lt_of_succ_le (Nb kr)⟩ lgR1_1 lgR1_2 dc dc dc (Nat.lt_of_succ_le (Nb kr)) (Nat.lt_of_succ_le (Nb kr)) h0 hD z
theorem lg_nb7:nby cv7.n = 20:=by decide +kernel
theorem lgB7_1:ofS (genB 2 lgZ.1 lgZ.2 20) = [90,232,182,254,134,183,170,53,234,206,189,167,4,166,7,142,17,171,24,47] :=
  gen_val (q:=1) KCy.1 (by decide +kernel) (KCS (by rw [lgZ_val.1,lgZ_val.2]; decide +kernel))
theorem lgX7_1:tryE cv7 (genB 2 lgZ.1 lgZ.2 20) = 518998883307035634074763901978287453870249154607:=by
  unfold tryE
  rw [lg_nb7,data_of lgB7_1]
  decide +kernel
theorem lgR7_1:sgR cv7 518998883307035634074763901978287453870249154607 = 22720009568432431096183329094715923759629571332:=by
  unfold sgR
  rw [show cv7.G = .aff (c cv7.p cv7.x) (c cv7.p cv7.y) from rfl,KDE ok7 (l:=158) (xr:=22720009568432431096183329094715923759629571332) (yr:=749176633858504949854985678205232146412588181375) ok7.on (by decide +kernel),show xv (.aff (c cv7.p 22720009568432431096183329094715923759629571332) (c cv7.p 749176633858504949854985678205232146412588181375):Pt cv7.p) = 22720009568432431096183329094715923759629571332 from val_c (Nat.lt_of_succ_le (Nb kr))]
  decide +kernel
theorem lgB7_2:ofS (genB 2 (genS 2 lgZ.1 lgZ.2 20).1 (genS 2 lgZ.1 lgZ.2 20).2 20) = [233,79,109,198,7,61,191,202,96,96,120,248,48,55,112,13,29,88,207,14] :=
  gen_val (q:=1) (KBi dc _ KCy.1 KCy.2 _).1 (by decide +kernel) (KCS (by rw [(lg1 (n:=20) (by decide +kernel)).1,(lg1 (n:=20) (by decide +kernel)).2]; decide +kernel))
theorem lgX7_2:tryE cv7 (genB 2 (genS 2 lgZ.1 lgZ.2 20).1 (genS 2 lgZ.1 lgZ.2 20).2 20) = 1331966171097338956640219443053577887211803168526:=by
  unfold tryE
  rw [lg_nb7,data_of lgB7_2]
  decide +kernel
theorem lgR7_2:sgR cv7 1331966171097338956640219443053577887211803168526 = 206736001929382332519938997943618446634507517647:=by
  unfold sgR
  rw [show cv7.G = .aff (c cv7.p cv7.x) (c cv7.p cv7.y) from rfl,KDE ok7 (l:=159) (xr:=206736001929382332519938997943618446634507517647) (yr:=827058407703850562267377607007580075694182833642) ok7.on (by decide +kernel),show xv (.aff (c cv7.p 206736001929382332519938997943618446634507517647) (c cv7.p 827058407703850562267377607007580075694182833642):Pt cv7.p) = 206736001929382332519938997943618446634507517647 from val_c (Nat.lt_of_succ_le (Nb kr))]
  decide +kernel
theorem lg_ok7 {D:Nat} (h0:D≠0) (hD:D<cv7.n) (z:Nat):∃ x i K' U' n',sgK cv7 x∧sgO cv7 z D x∧sgE cv7 2 z D 64 0 lgZ.1 lgZ.2 1 = ((sgR cv7 x,sgS cv7 z D x,i,0),K',U',n') :=
  leg_ok ok7 (by rw [lg_nb7]; exact lgX7_1) (by rw [lg_nb7]; exact lgX7_2) ⟨by decide,Nat.lt_of_succ_le (Nb kr)⟩ ⟨by decide,Nat.lt_of_succ_le (Nb kr)⟩ lgR7_1 lgR7_2 dc dc dc (Nat.lt_of_succ_le (Nb kr)) (Nat.lt_of_succ_le (Nb kr)) h0 hD z
theorem lg_all (b:Bool) {D:Nat} (h0:D≠0) (hD:D≤1000000):∃ V,cvI ((cond b 7 1:Nat):Int) = some V∧legB V = true∧D<V.n∧V.n≤P521∧∀ z,∃ x i K' U' n',sgK V x∧sgO V z D x∧sgE V 2 z D 64 0 lgZ.1 lgZ.2 1 = ((sgR V x,sgS V z D x,i,0),K',U',n'):=by
  cases b
  · have h:D<cv1.n:=Nat.lt_of_le_of_lt hD (Nat.lt_of_succ_le (Nb kr))
    exact ⟨cv1,rfl,by decide,h,by decide +kernel,lg_ok1 h0 h⟩
  · have h:D<cv7.n:=Nat.lt_of_le_of_lt hD (Nat.lt_of_succ_le (Nb kr))
    exact ⟨cv7,rfl,by decide,h,by decide +kernel,lg_ok7 h0 h⟩
theorem inf_tst:infOf Tryz.prog 288 = some (.agg ([Iz 0,.nilFunc,.string ⟨#[]⟩]:List Value).toArray,3,32):=kr
theorem row_tst:((Array.range (10*3)).map fun i=>(Value.agg ([Iz 0,.nilFunc,.string ⟨#[]⟩]:List Value).toArray).cells[i%(Value.agg ([Iz 0,.nilFunc,.string ⟨#[]⟩]:List Value).toArray).cells.size]!) = (List.flatten (List.replicate 10 ([Iz 0,.nilFunc,.string ⟨#[]⟩]:List Value))).toArray:=kr
theorem fill_tst (i0 f0 s0 i1 f1 s1 i2 f2 s2 i3 f3 s3 i4 f4 s4 i5 f5 s5 i6 f6 s6 i7 f7 s7 i8 f8 s8 i9 f9 s9:Value):fillL ((List.range 10).map fun i=>(i*3,3)) (List.flatten (List.replicate 10 ([Iz 0,.nilFunc,.string ⟨#[]⟩]:List Value))) [(0,.agg ([i0,f0,s0]:List Value).toArray),(1,.agg ([i1,f1,s1]:List Value).toArray),(2,.agg ([i2,f2,s2]:List Value).toArray),(3,.agg ([i3,f3,s3]:List Value).toArray),(4,.agg ([i4,f4,s4]:List Value).toArray),(5,.agg ([i5,f5,s5]:List Value).toArray),(6,.agg ([i6,f6,s6]:List Value).toArray),(7,.agg ([i7,f7,s7]:List Value).toArray),(8,.agg ([i8,f8,s8]:List Value).toArray),(9,.agg ([i9,f9,s9]:List Value).toArray)] = some [i0,f0,s0,i1,f1,s1,i2,f2,s2,i3,f3,s3,i4,f4,s4,i5,f5,s5,i6,f6,s6,i7,f7,s7,i8,f8,s8,i9,f9,s9]:=kr
def tstL:List Value:=[Iz 1,.func (.func 210) #[.agg #[]] #[],.string wt1,
  Iz 2,.func (.func 211) #[.agg #[]] #[],.string wt2,
  Iz 3,.func (.func 212) #[.agg #[]] #[],.string wt3,
  Iz 4,.func (.func 213) #[.agg #[]] #[],.string wt4,
  Iz 5,.func (.func 214) #[.agg #[]] #[],.string wt5,
  Iz 6,.func (.func 215) #[.agg #[]] #[],.string wt6,
  Iz 7,.func (.func 216) #[.agg #[]] #[],.string wt7,
  Iz 8,.func (.func 217) #[.agg #[]] #[],.string wt8,
  Iz 9,.func (.func 218) #[.agg #[]] #[],.string wt9,
  Iz 10,.func (.func 219) #[.agg #[]] #[],.string wt10]
theorem c_stTests  (w:World) (hH:∀ x,x∈([]++[]:List Item)→x.holds w) (hd:([]++[]:List Item).Pairwise Apart)  : Calls Tryz.prog 188 ([]:List Value).toArray w (fun e w'=>∃ (u:Value) (x':Item),(∃ b,u = .slice (some ⟨b,0,none⟩) 10 10∧x' = .blk b ⟨true,tstL,288,(0,0)⟩)∧e = .returned u∧Outcome w [] [x'] w'):=by
  refine KAO [] (N:=33) (rs:=[.tmp 0]) Tryz.func188 rfl Tryz.ntmps188 Tryz.results188 (Nb rfl) hH hd rfl rfl ?_
  refine KB (KA (oA (KC (KB (KA ?_)))));refine oS (mk (KK zr_320) (fun b1=>?_));refine KC (KB (KA (oD (dL rfl (hv:=by exact KD u320 rfl sz_320)) ?_)));refine oP (Kw rfl) (oP (KX pl_288 zr_288 rfl (fT (r':=([Iz 1]++([.func (.func 210) #[.agg #[]] #[]]++([.string wt1])))) (fS (A:=([]:List Value)) (B:=([Iz 0])) (D:=([Value.nilFunc]++([Value.string ⟨#[]⟩]))) (cs:=[Iz 1]) (fS (A:=([Iz 1])) (B:=([Value.nilFunc])) (D:=([Value.string ⟨#[]⟩])) (cs:=[.func (.func 210) #[.agg #[]] #[]]) (fS (A:=([Iz 1]++([.func (.func 210) #[.agg #[]] #[]]))) (B:=([Value.string ⟨#[]⟩])) (D:=([]:List Value)) (cs:=[.string wt1]) rfl))))) ?_);refine oD (dL rfl (hv:=by exact KD u320 rfl sz_320)) ?_;refine oP (Kw rfl) (oP (KX pl_288 zr_288 rfl (fT (r':=([Iz 2]++([.func (.func 211) #[.agg #[]] #[]]++([.string wt2])))) (fS (A:=([]:List Value)) (B:=([Iz 0])) (D:=([Value.nilFunc]++([Value.string ⟨#[]⟩]))) (cs:=[Iz 2]) (fS (A:=([Iz 2])) (B:=([Value.nilFunc])) (D:=([Value.string ⟨#[]⟩])) (cs:=[.func (.func 211) #[.agg #[]] #[]]) (fS (A:=([Iz 2]++([.func (.func 211) #[.agg #[]] #[]]))) (B:=([Value.string ⟨#[]⟩])) (D:=([]:List Value)) (cs:=[.string wt2]) rfl))))) ?_)
  refine oD (dL rfl (hv:=by exact KD u320 rfl sz_320)) ?_;refine oP (Kw rfl) (oP (KX pl_288 zr_288 rfl (fT (r':=([Iz 3]++([.func (.func 212) #[.agg #[]] #[]]++([.string wt3])))) (fS (A:=([]:List Value)) (B:=([Iz 0])) (D:=([Value.nilFunc]++([Value.string ⟨#[]⟩]))) (cs:=[Iz 3]) (fS (A:=([Iz 3])) (B:=([Value.nilFunc])) (D:=([Value.string ⟨#[]⟩])) (cs:=[.func (.func 212) #[.agg #[]] #[]]) (fS (A:=([Iz 3]++([.func (.func 212) #[.agg #[]] #[]]))) (B:=([Value.string ⟨#[]⟩])) (D:=([]:List Value)) (cs:=[.string wt3]) rfl))))) ?_);refine oD (dL rfl (hv:=by exact KD u320 rfl sz_320)) ?_;refine oP (Kw rfl) (oP (KX pl_288 zr_288 rfl (fT (r':=([Iz 4]++([.func (.func 213) #[.agg #[]] #[]]++([.string wt4])))) (fS (A:=([]:List Value)) (B:=([Iz 0])) (D:=([Value.nilFunc]++([Value.string ⟨#[]⟩]))) (cs:=[Iz 4]) (fS (A:=([Iz 4])) (B:=([Value.nilFunc])) (D:=([Value.string ⟨#[]⟩])) (cs:=[.func (.func 213) #[.agg #[]] #[]]) (fS (A:=([Iz 4]++([.func (.func 213) #[.agg #[]] #[]]))) (B:=([Value.string ⟨#[]⟩])) (D:=([]:List Value)) (cs:=[.string wt4]) rfl))))) ?_)
  refine oD (dL rfl (hv:=by exact KD u320 rfl sz_320)) ?_;refine oP (Kw rfl) (oP (KX pl_288 zr_288 rfl (fT (r':=([Iz 5]++([.func (.func 214) #[.agg #[]] #[]]++([.string wt5])))) (fS (A:=([]:List Value)) (B:=([Iz 0])) (D:=([Value.nilFunc]++([Value.string ⟨#[]⟩]))) (cs:=[Iz 5]) (fS (A:=([Iz 5])) (B:=([Value.nilFunc])) (D:=([Value.string ⟨#[]⟩])) (cs:=[.func (.func 214) #[.agg #[]] #[]]) (fS (A:=([Iz 5]++([.func (.func 214) #[.agg #[]] #[]]))) (B:=([Value.string ⟨#[]⟩])) (D:=([]:List Value)) (cs:=[.string wt5]) rfl))))) ?_);refine oD (dL rfl (hv:=by exact KD u320 rfl sz_320)) ?_;refine oP (Kw rfl) (oP (KX pl_288 zr_288 rfl (fT (r':=([Iz 6]++([.func (.func 215) #[.agg #[]] #[]]++([.string wt6])))) (fS (A:=([]:List Value)) (B:=([Iz 0])) (D:=([Value.nilFunc]++([Value.string ⟨#[]⟩]))) (cs:=[Iz 6]) (fS (A:=([Iz 6])) (B:=([Value.nilFunc])) (D:=([Value.string ⟨#[]⟩])) (cs:=[.func (.func 215) #[.agg #[]] #[]]) (fS (A:=([Iz 6]++([.func (.func 215) #[.agg #[]] #[]]))) (B:=([Value.string ⟨#[]⟩])) (D:=([]:List Value)) (cs:=[.string wt6]) rfl))))) ?_)
  refine oD (dL rfl (hv:=by exact KD u320 rfl sz_320)) ?_;refine oP (Kw rfl) (oP (KX pl_288 zr_288 rfl (fT (r':=([Iz 7]++([.func (.func 216) #[.agg #[]] #[]]++([.string wt7])))) (fS (A:=([]:List Value)) (B:=([Iz 0])) (D:=([Value.nilFunc]++([Value.string ⟨#[]⟩]))) (cs:=[Iz 7]) (fS (A:=([Iz 7])) (B:=([Value.nilFunc])) (D:=([Value.string ⟨#[]⟩])) (cs:=[.func (.func 216) #[.agg #[]] #[]]) (fS (A:=([Iz 7]++([.func (.func 216) #[.agg #[]] #[]]))) (B:=([Value.string ⟨#[]⟩])) (D:=([]:List Value)) (cs:=[.string wt7]) rfl))))) ?_);refine oD (dL rfl (hv:=by exact KD u320 rfl sz_320)) ?_;refine oP (Kw rfl) (oP (KX pl_288 zr_288 rfl (fT (r':=([Iz 8]++([.func (.func 217) #[.agg #[]] #[]]++([.string wt8])))) (fS (A:=([]:List Value)) (B:=([Iz 0])) (D:=([Value.nilFunc]++([Value.string ⟨#[]⟩]))) (cs:=[Iz 8]) (fS (A:=([Iz 8])) (B:=([Value.nilFunc])) (D:=([Value.string ⟨#[]⟩])) (cs:=[.func (.func 217) #[.agg #[]] #[]]) (fS (A:=([Iz 8]++([.func (.func 217) #[.agg #[]] #[]]))) (B:=([Value.string ⟨#[]⟩])) (D:=([]:List Value)) (cs:=[.string wt8]) rfl))))) ?_)
  refine oD (dL rfl (hv:=by exact KD u320 rfl sz_320)) ?_;refine oP (Kw rfl) (oP (KX pl_288 zr_288 rfl (fT (r':=([Iz 9]++([.func (.func 218) #[.agg #[]] #[]]++([.string wt9])))) (fS (A:=([]:List Value)) (B:=([Iz 0])) (D:=([Value.nilFunc]++([Value.string ⟨#[]⟩]))) (cs:=[Iz 9]) (fS (A:=([Iz 9])) (B:=([Value.nilFunc])) (D:=([Value.string ⟨#[]⟩])) (cs:=[.func (.func 218) #[.agg #[]] #[]]) (fS (A:=([Iz 9]++([.func (.func 218) #[.agg #[]] #[]]))) (B:=([Value.string ⟨#[]⟩])) (D:=([]:List Value)) (cs:=[.string wt9]) rfl))))) ?_);refine oD (dL rfl (hv:=by exact KD u320 rfl sz_320)) ?_;refine oP (Kw rfl) (oP (KX pl_288 zr_288 rfl (fT (r':=([Iz 10]++([.func (.func 219) #[.agg #[]] #[]]++([.string wt10])))) (fS (A:=([]:List Value)) (B:=([Iz 0])) (D:=([Value.nilFunc]++([Value.string ⟨#[]⟩]))) (cs:=[Iz 10]) (fS (A:=([Iz 10])) (B:=([Value.nilFunc])) (D:=([Value.string ⟨#[]⟩])) (cs:=[.func (.func 219) #[.agg #[]] #[]]) (fS (A:=([Iz 10]++([.func (.func 219) #[.agg #[]] #[]]))) (B:=([Value.string ⟨#[]⟩])) (D:=([]:List Value)) (cs:=[.string wt10]) rfl))))) ?_)
  refine oS (mk (KCH (vs:=[(0,.agg ([Iz 1,.func (.func 210) #[.agg #[]] #[],.string wt1]:List Value).toArray),(1,.agg ([Iz 2,.func (.func 211) #[.agg #[]] #[],.string wt2]:List Value).toArray),(2,.agg ([Iz 3,.func (.func 212) #[.agg #[]] #[],.string wt3]:List Value).toArray),(3,.agg ([Iz 4,.func (.func 213) #[.agg #[]] #[],.string wt4]:List Value).toArray),(4,.agg ([Iz 5,.func (.func 214) #[.agg #[]] #[],.string wt5]:List Value).toArray),(5,.agg ([Iz 6,.func (.func 215) #[.agg #[]] #[],.string wt6]:List Value).toArray),(6,.agg ([Iz 7,.func (.func 216) #[.agg #[]] #[],.string wt7]:List Value).toArray),(7,.agg ([Iz 8,.func (.func 217) #[.agg #[]] #[],.string wt8]:List Value).toArray),(8,.agg ([Iz 9,.func (.func 218) #[.agg #[]] #[],.string wt9]:List Value).toArray),(9,.agg ([Iz 10,.func (.func 219) #[.agg #[]] #[],.string wt10]:List Value).toArray)]) (cs:=tstL) u285 inf_tst dc row_tst rfl (fill_tst _ _ _ _ _ _ _ _ _ _ _ _ _ _ _ _ _ _ _ _ _ _ _ _ _ _ _ _ _ _) (fun h=>by cases h)) (fun b32=>?_))
  refine oA (KC (KN ?_));refine ⟨[_],.cons rfl .nil,fun a w' hr=>⟨_,_,⟨b32,rfl,rfl⟩,rfl,hr.out mS rfl⟩⟩
theorem tst_at (i:Nat) (h:i<10):∃ (f:FuncId) (s:ByteArray),(tstL.drop (3*i)).take 3 = [Iz (i+1),.func (.func f) #[.agg #[]] #[],.string s]∧KY Tryz.prog f∧∀ w,Calls Tryz.prog f ([.agg #[]]:List Value).toArray w (fun e w'=>e = .returned (.string s)∧Below w.heap.size w w'):=by
  rcases (show i = 0∨i = 1∨i = 2∨i = 3∨i = 4∨i = 5∨i = 6∨i = 7∨i = 8∨i = 9 by omega) with rfl|rfl|rfl|rfl|rfl|rfl|rfl|rfl|rfl|rfl
  · exact ⟨_,_,rfl,en_210,c_t1⟩
  · exact ⟨_,_,rfl,en_211,c_t2⟩
  · exact ⟨_,_,rfl,en_212,c_t3⟩
  · exact ⟨_,_,rfl,en_213,c_t4⟩
  · exact ⟨_,_,rfl,en_214,c_t5⟩
  · exact ⟨_,_,rfl,en_215,c_t6⟩
  · exact ⟨_,_,rfl,en_216,c_t7⟩
  · exact ⟨_,_,rfl,en_217,c_t8⟩
  · exact ⟨_,_,rfl,en_218,c_t9⟩
  · exact ⟨_,_,rfl,en_219,c_t10⟩
theorem c_stRun  (w:World)  : CF Tryz.prog 148 [Iz 0] w (.tuple #[Iz 0,Iz 0]):=by
  refine KV (N:=35) (rs:=[.tmp 2,.tmp 3]) [] Tryz.func148 rfl Tryz.ntmps148 Tryz.results148 (Nb rfl) trivial rfl ?_
  refine KB (KA (oP (KO (v:=Iz 0) rfl) (oP (KO (v:=Iz 0) rfl) (KC (KB (KB (KA (oM ?_))))))));refine oP (bF rfl rfl (KAA (b:=0)) dc) (oM ?_);refine oGM ?_;refine oGP (bF rfl rfl (KAb (b:=10)) dc) (oP (KT rfl rfl) (KC (KH rfl (KM (KB (KB (KA (LOps.step rfl (Kg (first:=[]) (caps:=[]) (X:=[]) (RO:=[]) rfl en_188 rfl (Nb rfl) sR wK (fun w hH hd=>c_stTests w hH hd) ?_)))))))))
  rintro _ _ ⟨tb,rfl,rfl⟩
  refine oP (KBc u285 rfl) (oP (Kf (v:=Iz 0) rfl) (KC (LCode.block (Kc (α:=Nat) (fun i=>i≤10) (fun i=>⟨[(0,Iz 0),(13,.slice (some ⟨tb,0,none⟩) 10 10),(14,Iz 10),(15,Iz i)],[.blk tb ⟨true,tstL,288,(0,0)⟩]⟩) (fun i=>10-i) (0) (Nat.zero_le _) (Ka ⟨rfl,rfl,rfl,rfl,trivial⟩ mS) ?_))))
  intro i hi
  refine KB (KA (oP (KG rfl rfl (KAA)) (KC (KB ?_))))
  first|refine KQ rfl (fun h16=>?_) (fun h16=>?_)|refine KR rfl (fun h16=>?_) (fun h16=>?_)
  ·
   have h16:i<10:=h16
   refine KM (KB (LCode.block (KB ?_)))
   obtain ⟨ft,s,hrow,hen,hcl⟩:=tst_at i h16
   refine KA (oP (KJ (KDL u285 sz_288 rfl rfl om om) (congrArg (fun z=>Value.pointer (some ⟨tb,z,none⟩)) (show 0+((i:Nat):Int).toNat*3 = 3*i by omega))) ?_);refine oD (dL rfl (hv:=by exact KBH u288 rfl sz_288 hrow (by show 3*i+3≤30; omega))) ?_;refine oS (mk (KK zr_288) (fun b5=>?_));refine oT rfl rfl sz_288 ?_;refine KC (KB (KA (oP (KE (o':=1) u288 rfl rfl rfl sz_155 dc) (oD (dL rfl (hv:=KI u155 rfl gL)) ?_))));refine oS (Ky (first:=[.agg #[]]) rfl hen rfl (Nb rfl) (fun w hw=>hcl w) ?_);refine oA (KC (KB (KB (KA ?_))));refine oP (KE (o':=0) u288 rfl rfl rfl sz_3 dc) (oD (dL rfl (hv:=KI u3 rfl gL)) ?_);refine oM ?_;refine oP (bF rfl rfl Ku om) (KC (KH rfl (KM (KB (KA (oM ?_))))));refine oP (KE (o':=2) u288 rfl rfl rfl sz_9 dc) (oD (dL rfl (hv:=KI u9 rfl gL)) ?_);refine oP (KJ (Det.nes rfl rfl) (congrArg (fun b:Bool=>Value.bool (!b)) (eq_str_t (rfl)))) ?_
   refine KC (KH rfl (KM (KA (oP (KG rfl rfl (Kj (b:=1) om)) (oM (KC ?_))))))
   exact ⟨i+1,by omega,by omega,Ka ⟨rfl,rfl,rfl,rfl,trivial⟩ mS⟩
  have h16:¬ i<10:=h16
  refine Kb (KB (KA (oP (KO (v:=Iz 0) rfl) (oP (KO (v:=Iz 0) rfl) (KC (KN (eN (.cons rfl (.cons rfl .nil)) ?_)))))))
  rfl
end Go.Proofs.YtnpeokiboiclfaaGreat
set_option linter.unusedVariables false
set_option linter.unusedSimpArgs false
namespace Go.Proofs.YtnpeokiboiclfaaGreat
open Go Go.RowKit
section
variable {P:Program} {C:Ctx} {d:Option Tmp} {ty:TypeId} {pos:String} {aft:Array Edge} {g:Option (Nat×Bool)} {st:St} {x y z:Operand} {t s e:TypeId} {v:Value}
theorem Det.mkIface {D:TypeDesc} (ht:P.underlying t = some D) (hD:(match D with|.interface _=>false|_=>true) = true) (hx:evT st.T x = some v):Slots P C ⟨d,.makeInterface t x,ty,pos,aft,g⟩ st (.iface t v):=by
  unfold Slots; intro a w hr
  cases D <;> simp_all [execOp,Instr.makeInterface,run_underlying ht]
end
def Mth (P:Program) (t e:TypeId) (name:String) (f:FuncId) (pr:Bool):Prop :=
  (P.info? t).bind (fun i=>(i.methods.find? (·.name == name)).bind fun m=>if m.path.isEmpty = true then m.func else none) = some (f,pr)∧P.underlying t = some (.pointer e)
theorem run_typeInfo' {P:Program} {t:TypeId} {i:TypeInfo} (h:P.info? t = some i) (w:World):(typeInfo t).run P w = .ok i w:=by
  simp [typeInfo,h]
theorem wrap_some (t:TypeId) (a:Addr) (s:ByteArray) (u:ByteArray):Builtin.ssaWrapNilChk_ #[t] t #[.pointer (some a),.string s,.string u] = pure (.pointer (some a)):=rfl
theorem Mth.run {P:Program} {t e:TypeId} {name:String} {f:FuncId} {pr:Bool} (h:Mth P t e name f pr) (n:Nat) (a:Addr) (r:Value) (w:World) (hr:(pr = true∧r = .pointer (some a))∨(pr = false∧(loadVar e a).run P w = .ok r w)):(method (n+1) t (.pointer (some a)) name).run P w = .ok (f,r) w:=by
  obtain ⟨h1,h2⟩:=h
  obtain ⟨i,hi,h1⟩:=Option.bind_eq_some_iff.1 h1
  obtain ⟨m,hm,h1⟩:=Option.bind_eq_some_iff.1 h1
  split at h1
  · rename_i hp
    have hp':m.path = #[]:=by simpa using hp
    rcases hr with ⟨rfl,rfl⟩|⟨rfl,hl⟩
    · simp [method,run_typeInfo' hi,hm,hp',follow,h1,receiverAt,run_underlying h2,Place.get]
    · simp [method,run_typeInfo' hi,hm,hp',follow,h1,receiverAt,run_underlying h2,Place.get,wrap_some,asAddr,hl,strVal]
  · cases h1
def Recv (P:Program) (H:List Item) (t:TypeId) (v:Value) (name:String) (f:FuncId) (r:Value):Prop:=∀ w,(∀ x,x∈H→x.holds w)→∀ n,(method (n+1) t v name).run P w = .ok (f,r) w
theorem Recv.ptr {P:Program} {H:List Item} {t e:TypeId} {name:String} {f:FuncId} (h:Mth P t e name f true) (a:Addr):Recv P H t (.pointer (some a)) name f (.pointer (some a)):=fun w _ n=>h.run n a _ w (.inl ⟨rfl,rfl⟩)
theorem Recv.val {P:Program} {H:List Item} {t e:TypeId} {name:String} {f:FuncId} {b o:Nat} {B:Blk} {r:Value} (h:Mth P t e name f false) (hm:Item.blk b B∈H) (hv:LoadV P e B o r):Recv P H t (.pointer (some ⟨b,o,none⟩)) name f r :=
  fun w hw n=>h.run n _ _ w (.inr ⟨rfl,hv.run (hw _ hm)⟩)
theorem depth_succ (P:Program):∃ n,P.types.size+Made.depth = n+1:=⟨_,rfl⟩
section
variable {P:Program} {C:Ctx} {ty:TypeId} {pos:String} {aft:Array Edge} {d:Nat} {K:St→Prop} {x:Operand} {v:Value}
theorem exec_inv {T : List (Nat × Value)} {H : List Item} {a : Act} {w : World} {t : TypeId} {u r : Value} {name : String} {f : FuncId} {xs : List Operand} {vs : List Value} {ats : Array TypeId} {dd : Option Tmp} {g : Option (Nat × Bool)} (hr : Rel C ⟨T, H⟩ a w) (hx : evT T x = some (.iface t u)) (hv : Recv P H t u name f r) (he : KY P f) (ha : evL T xs = some vs) :
    (execOp a.eval ⟨dd,.call { callee:=.invoke x name,args:=xs.toArray,argTypes:=ats },ty,pos,aft,g⟩).run P w = .ok (.enter f (r :: vs).toArray) w:=by
  obtain ⟨fn,h1,h2,h3⟩:=he
  obtain ⟨n,hn⟩:=depth_succ P
  have hm:=hv w hr.hp n
  have:=hr.evs ha
  simp [execOp,resolve,hr.ev hx,invoke,callMethod,hn,hm,run_call h1 h2 h3,this]
theorem LStep.inv {T : List (Nat × Value)} {H : List Item} {t : TypeId} {u r : Value} {name : String} {f : FuncId} {xs : List Operand} {vs : List Value} {ats : Array TypeId} {g : Option (Nat × Bool)} (hx : evT T x = some (.iface t u)) (hv : Recv P H t u name f r) (he : KY P f) (ha : evL T xs = some vs) (hd : d < C.N)
    (hc:∀ w,(∀ x,x∈H→x.holds w)→Calls P f (r :: vs).toArray w (fun e w'=>e = .returned v∧Below w.heap.size w w'))
    (h:K ⟨(d,v) :: T,H⟩):LStep P C ⟨some d,.call { callee:=.invoke x name,args:=xs.toArray,argTypes:=ats },ty,pos,aft,g⟩ ⟨T,H⟩ K:=by
  unfold LStep; intro a w hr Qr
  refine wp_callee (vs:=r :: vs) (exec_inv hr hx hv he ha) (hc w hr.hp) ?_
  rintro e w' ⟨rfl,hb⟩
  exact ⟨v,rfl,hb,_,h,(hr.below hb).put hd v⟩
theorem LStepW.invM {T : List (Nat × Value)} {H X R RO : List Item} {t : TypeId} {u r : Value} {name : String} {f : FuncId} {xs : List Operand} {vs : List Value} {ats : Array TypeId} {g : Option (Nat × Bool)} {Post : Value → List Item → Prop} (hx : evT T x = some (.iface t u)) (hv : Recv P H t u name f r) (he : KY P f) (ha : evL T xs = some vs) (hd : d < C.N)
    (hs:SelR H X R) (hro:Weaks R RO) (hc:∀ w,(∀ x,x∈X++RO→x.holds w)→(X++RO).Pairwise Apart→CallsM P f (r :: vs) X w Post)
    (h:∀ v X',Post v X'→K ⟨(d,v) :: T,X'++R⟩):KAX P C ⟨some d,.call { callee:=.invoke x name,args:=xs.toArray,argTypes:=ats },ty,pos,aft,g⟩ ⟨T,H⟩ K:=by
  unfold KAX
  intro a w hr Qr
  have hpm:=hs.perm
  have hdd:(X++R).Pairwise Apart:=(hpm.pairwise_iff (fun h=>Apart.symm h)).1 hr.dist
  obtain ⟨hdX,hdR,hXR⟩:=List.pairwise_append.1 hdd
  refine wp_callee (vs:=r :: vs) (exec_inv hr hx hv he ha) (hc w (fun z hz=>?_) (List.pairwise_append.2 ⟨hdX,?_,fun z hz y hy=>?_⟩)) ?_
  · rcases List.mem_append.1 hz with hz|hz
    · exact hr.hp z (hpm.mem_iff.2 (List.mem_append.2 (.inl hz)))
    · obtain ⟨u,hu,hw⟩:=hro z hz
      exact hw.holds w (hr.hp u (hpm.mem_iff.2 (List.mem_append.2 (.inr hu))))
  · refine List.pairwise_of_forall_mem_list fun y hy z hz hyz=>?_
    obtain ⟨u,_,hw⟩:=hro y hy
    obtain ⟨u',_,hw'⟩:=hro z hz
    rw [hw.ro,hw'.ro] at hyz
    rcases hyz with h|h <;> cases h
  · obtain ⟨u,hu,hw⟩:=hro y hy
    intro hzy k hk hk'
    rcases hzy with h|h
    · exact hXR z hz u hu (.inl h) k hk (hw.fp k hk')
    · rw [hw.ro] at h; cases h
  · rintro e' w' ⟨v,X',hp,rfl,ho⟩
    exact ⟨v,rfl,_,h v X' hp,(hr.outcome hs ho).put hd v⟩
end
def keyIs (h:Int):Value→Bool
  | .int .i64 k=>h == k
  | _=>false
def mfind (h:Int):List MapEntry→Nat→Option (Nat×Value)
  | [],_=>none
  | e :: es,i=>if keyIs h e.key = true then some (i,e.val) else mfind h es (i+1)
def IntKeys (es:List MapEntry):Prop:=∀ e,e∈es→∃ k,e.key = .int .i64 k
def mapP (mb:Nat) (o:Option (Int×Value)) (w:World):Prop:=∃ es clock,w.heap[mb]? = some (.map es clock)∧IntKeys es.toList∧∀ h v,o = some (h,v)→∃ i,mfind h es.toList 0 = some (i,v)
def mpI (mb:Nat) (o:Option (Int×Value)):Item:=.own [mb] (mapP mb o)
theorem mpI_of {mb:Nat} {o:Option (Int×Value)} {w:World} (h:mapP mb o w):(mpI mb o).holds w:=by
  obtain ⟨es,clock,h1,h2,h3⟩:=h
  refine ⟨fun k hk=>?_,fun w' ha=>⟨es,clock,(ha mb (.head _)).trans h1,h2,h3⟩⟩
  rw [List.mem_singleton.1 hk]; exact KDF h1
section
variable {P:Program} {C:Ctx} {ty:TypeId} {pos:String} {aft:Array Edge} {d:Nat} {K:St→Prop} {x y z:Operand} {t kt e:TypeId} {v:Value}
theorem LStep.makeMap {T:List (Nat×Value)} {H:List Item} {g:Option (Nat×Bool)} (hd:d<C.N) (h:∀ b,K ⟨(d,.map (some b)) :: T,mpI b none :: H⟩):LStep P C ⟨some d,.makeMap t none,ty,pos,aft,g⟩ ⟨T,H⟩ K:=by
  unfold LStep; intro a w hr Qr
  unfold Oper.wp
  have e1:(execOp a.eval ⟨some d,.makeMap t none,ty,pos,aft,g⟩).run P w = .ok (.value (.map (some w.heap.size))) (w.alloc (.map #[] 0)):=by
    simp [execOp,Instr.makeMap]
  rw [e1]
  refine ⟨Below.alloc (Below.refl _ _) (Nat.le_refl _) _,_,h w.heap.size,Rel.put (st:=⟨T,mpI w.heap.size none :: H⟩) ?_ hd _⟩
  refine ⟨hr.size,hr.defers,hr.tm,?_,?_,?_,?_⟩
  · intro y hy
    rcases List.mem_cons.1 hy with rfl|hy
    · exact mpI_of ⟨#[],0,heap_alloc_new _ _,fun e he=>(by cases he),fun h v he=>(by cases he)⟩
    · exact holds_alloc (hr.hp y hy) _
  · intro y hy hw k hk
    rcases List.mem_cons.1 hy with rfl|hy
    · rw [List.mem_singleton.1 hk]; exact .inl hr.fr.size
    · exact hr.own y hy hw k hk
  · refine List.pairwise_cons.2 ⟨fun y hy _ k hk hk'=>?_,hr.dist⟩
    rw [List.mem_singleton.1 hk] at hk'
    exact Nat.lt_irrefl _ (Item.lt (hr.hp y hy) _ hk')
  · exact ⟨hr.fr.os,hr.fr.tape,hr.fr.output,by have:=hr.fr.size; simp; omega,fun k hk hw=>(Below.heap_alloc _ _ _ (Nat.lt_of_lt_of_le hk hr.fr.size)).trans (hr.fr.block k hk hw)⟩
end
section
variable {P:Program} {C:Ctx} {ty:TypeId} {pos:String} {aft:Array Edge} {d:Nat} {K:St→Prop} {x y:Operand} {v:Value} {t kt e:TypeId}
end
theorem Outcome.grp {w w':World} {p p':Item} {Y Y':List Item} (hY:Y.all (·.wr) = true) (h:Outcome w (p :: Y) (p' :: Y') w'):Outcome w [p,gpI Y] [p',gpI Y'] w':=by
  have two:∀ x,x∈[p',gpI Y']→x = p'∨x = gpI Y':=fun x hx=>by simpa using hx
  obtain ⟨hd1,hd2⟩:=List.pairwise_cons.1 h.dist
  have hwx:∀ k,WX (p :: Y) k→WX [p,gpI Y] k:=by
    rintro k ⟨y,hy,hyw,hk⟩
    rcases List.mem_cons.1 hy with rfl|hy
    · exact ⟨y,.head _,hyw,hk⟩
    · exact ⟨gpI Y,.tail _ (.head _),rfl,List.mem_flatMap.2 ⟨y,hy,hk⟩⟩
  refine ⟨fun x hx=>?_,fun x hx=>?_,fun x hx k hk=>?_,?_,?_⟩
  · rcases two x hx with rfl|rfl
    · exact h.hp _ (.head _)
    · exact gpI_of (fun y hy=>h.hp y (.tail _ hy)) hd2
  · rcases two x hx with rfl|rfl
    · exact h.wr _ (.head _)
    · rfl
  · rcases two x hx with rfl|rfl
    · exact (h.new _ (.head _) k hk).imp id (hwx k)
    · obtain ⟨y,hy,hk⟩:=List.mem_flatMap.1 hk
      exact (h.new y (.tail _ hy) k hk).imp id (hwx k)
  · refine List.pairwise_cons.2 ⟨fun y hy _ k hk hk'=>?_,List.pairwise_singleton _ _⟩
    rw [List.mem_singleton.1 hy] at hk'
    obtain ⟨y,hy,hk'⟩:=List.mem_flatMap.1 hk'
    exact hd1 y hy (.inl (h.wr _ (.head _))) k hk hk'
  · have hback : ∀ k, WX [p, gpI Y] k → WX (p :: Y) k := by
      rintro k ⟨y,hy,hyw,hk⟩
      rcases List.mem_cons.1 hy with rfl|hy
      · exact ⟨y,.head _,hyw,hk⟩
      · rw [List.mem_singleton.1 hy] at hk
        obtain ⟨z,hz,hk⟩:=List.mem_flatMap.1 hk
        exact ⟨z,.tail _ hz,List.all_eq_true.1 hY z hz,hk⟩
    exact ⟨h.fr.os,h.fr.tape,h.fr.output,h.fr.size,fun k hk hw=>h.fr.block k hk (fun hx=>hw (hwx k hx))⟩
theorem CallsM.grp {P : Program} {f : FuncId} {vs : List Value} {w : World} {p : Item} {Y RO : List Item} {Q : Value → Item → List Item → Prop} (hY : Y.all (·.wr) = true) (hp : p.wr = true)
    (h:∀ w,(∀ x,x∈(p :: Y)++RO→x.holds w)→((p :: Y)++RO).Pairwise Apart→CallsM P f vs (p :: Y) w (fun v X'=>∃ p' Y',X' = p' :: Y'∧Q v p' Y')) (hH:∀ x,x∈[p,gpI Y]++RO→x.holds w) (hd:([p,gpI Y]++RO).Pairwise Apart) :
    Calls P f vs.toArray w (fun e w'=>∃ v p' Y',Q v p' Y'∧e = .returned v∧Outcome w [p,gpI Y] [p',gpI Y'] w'):=by
  have hg:=gpI_P (hH (gpI Y) (.tail _ (.head _)))
  obtain ⟨hd1,hd2⟩:=List.pairwise_cons.1 hd
  obtain ⟨hd3,hd4⟩:=List.pairwise_cons.1 hd2
  have hpY:∀ y,y∈Y→Apart p y:=fun y hy _ k hk hk'=>hd1 (gpI Y) (.head _) (.inl hp) k hk (List.mem_flatMap.2 ⟨y,hy,hk'⟩)
  have hYR:∀ y,y∈Y→∀ z,z∈RO→Apart y z:=fun y hy z hz _ k hk hk'=>hd3 z hz (.inl rfl) k (List.mem_flatMap.2 ⟨y,hy,hk⟩) hk'
  refine (h w (fun x hx=>?_) ?_).mono fun e w' ⟨v,X',⟨p',Y',e1,hq⟩,he,ho⟩=>?_
  · rcases List.mem_append.1 hx with hx|hx
    · rcases List.mem_cons.1 hx with rfl|hx
      · exact hH _ (.head _)
      · exact hg.1 x hx
    · exact hH x (.tail _ (.tail _ hx))
  · refine List.pairwise_append.2 ⟨List.pairwise_cons.2 ⟨hpY,hg.2⟩,hd4,fun x hx z hz=>?_⟩
    rcases List.mem_cons.1 hx with rfl|hx
    · exact hd1 z (.tail _ hz)
    · exact hYR x hx z hz
  · subst e1
    exact ⟨v,p',Y',hq,he,ho.grp hY⟩
theorem Outcome.frame {w w':World} {X X' R F F':List Item} (hF:F.Perm (X++R)) (hF':F'.Perm (X'++R)) (hR:R.all (·.wr) = true) (hH:∀ x,x∈F→x.holds w) (hd:F.Pairwise Apart) (ho:Outcome w X X' w'):Outcome w F F' w':=by
  have hdd:(X++R).Pairwise Apart:=(hF.pairwise_iff (fun h=>Apart.symm h)).1 hd
  obtain ⟨_,hdR,hXR⟩:=List.pairwise_append.1 hdd
  have inF:∀ y,y∈R→y∈F:=fun y hy=>hF.mem_iff.2 (List.mem_append.2 (.inr hy))
  have hwx:∀ k,WX X k→WX F k:=by
    rintro k ⟨y,hy,hw,hk⟩
    exact ⟨y,hF.mem_iff.2 (List.mem_append.2 (.inl hy)),hw,hk⟩
  have off:∀ y,y∈R→∀ k,k∈y.fp→¬ WX X k:=by
    rintro y hy k hk ⟨x,hx,hw,hk'⟩
    exact hXR x hx y hy (.inl hw) k hk' hk
  have wrR:∀ y,y∈R→y.wr = true:=fun y hy=>List.all_eq_true.1 hR y hy
  refine ⟨fun y hy=>?_,fun y hy=>?_,fun y hy k hk=>?_,(hF'.pairwise_iff (fun h=>Apart.symm h)).2 (List.pairwise_append.2 ⟨ho.dist,hdR,fun x hx y hy _ k hk hk'=>?_⟩),?_⟩
  · rcases List.mem_append.1 (hF'.mem_iff.1 hy) with hy|hy
    · exact ho.hp y hy
    · have hold:=hH y (inF y hy)
      exact KAr hold (fun k hk=>ho.fr.block k (Item.lt hold k hk) (off y hy k hk)) ho.fr.size
  · rcases List.mem_append.1 (hF'.mem_iff.1 hy) with hy|hy
    · exact ho.wr y hy
    · exact wrR y hy
  · rcases List.mem_append.1 (hF'.mem_iff.1 hy) with hy|hy
    · exact (ho.new y hy k hk).imp id (hwx k)
    · exact .inr ⟨y,inF y hy,wrR y hy,hk⟩
  · rcases ho.new x hx k hk with h1|h1
    · have:=Item.lt (hH y (inF y hy)) k hk'
      omega
    · exact off y hy k hk' h1
  · exact ⟨ho.fr.os,ho.fr.tape,ho.fr.output,ho.fr.size,fun k hk hw=>ho.fr.block k hk (fun hx=>hw (hwx k hx))⟩
theorem CallsM.frame {P : Program} {f : FuncId} {vs : List Value} {w : World} {F X R RO RO' : List Item} {Post Q : Value → List Item → Prop} (hF : F.Perm (X ++ R)) (hro : Weaks (R ++ RO) RO') (hR : R.all (·.wr) = true)
    (hH:∀ x,x∈F++RO→x.holds w) (hd:(F++RO).Pairwise Apart) (hc:(∀ x,x∈X++RO'→x.holds w)→(X++RO').Pairwise Apart→CallsM P f vs X w Post)
    (hQ:∀ v X',Post v X'→∃ F',F'.Perm (X'++R)∧Q v F'):CallsM P f vs F w Q:=by
  obtain ⟨hdF,hdRO,hFR⟩:=List.pairwise_append.1 hd
  have hdd:(X++R).Pairwise Apart:=(hF.pairwise_iff (fun h=>Apart.symm h)).1 hdF
  obtain ⟨hdX,hdR,hXR⟩:=List.pairwise_append.1 hdd
  have inF:∀ y,y∈X++R→y∈F:=fun y hy=>hF.mem_iff.2 hy
  have key:∀ u,u∈R++RO→u.holds w∧∀ x,x∈X→Apart x u:=by
    intro u hu
    rcases List.mem_append.1 hu with hu|hu
    · exact ⟨hH u (List.mem_append.2 (.inl (inF u (List.mem_append.2 (.inr hu))))),fun x hx=>hXR x hx u hu⟩
    · exact ⟨hH u (List.mem_append.2 (.inr hu)),fun x hx=>hFR x (inF x (List.mem_append.2 (.inl hx))) u hu⟩
  refine (hc (fun z hz=>?_) (List.pairwise_append.2 ⟨hdX,List.pairwise_of_forall_mem_list fun y hy z hz hyz=>?_,fun z hz y hy hzy k hk hk'=>?_⟩)).mono fun e w' ⟨v,X',hp,he,ho⟩=>?_
  · rcases List.mem_append.1 hz with hz|hz
    · exact hH z (List.mem_append.2 (.inl (inF z (List.mem_append.2 (.inl hz)))))
    · obtain ⟨u,hu,hw⟩:=hro z hz
      exact hw.holds w (key u hu).1
  · obtain ⟨u,_,hw⟩:=hro y hy
    obtain ⟨u',_,hw'⟩:=hro z hz
    rw [hw.ro,hw'.ro] at hyz
    rcases hyz with h|h <;> cases h
  · obtain ⟨u,hu,hw⟩:=hro y hy
    rcases hzy with h|h
    · exact (key u hu).2 z hz (.inl h) k hk (hw.fp k hk')
    · rw [hw.ro] at h; cases h
  · obtain ⟨F',hF',hq⟩:=hQ v X' hp
    exact ⟨v,F',hq,he,ho.frame hF hF' hR (fun x hx=>hH x (List.mem_append.2 (.inl hx))) hdF⟩
theorem CallsM.of1 {P:Program} {f:FuncId} {vs:List Value} {w:World} {X:List Item} {Post:Value→Item→Prop} (h:Calls P f vs.toArray w (fun e w'=>∃ v x',Post v x'∧e = .returned v∧Outcome w X [x'] w')):CallsM P f vs X w (fun v X'=>∃ x',X' = [x']∧Post v x') :=
  h.mono fun e w' ⟨v,x',hp,he,ho⟩=>⟨v,[x'],⟨x',rfl,hp⟩,he,ho⟩
theorem CallsM.of2 {P:Program} {f:FuncId} {vs:List Value} {w:World} {X:List Item} {Post:Value→Item→Item→Prop} (h:Calls P f vs.toArray w (fun e w'=>∃ v x' y',Post v x' y'∧e = .returned v∧Outcome w X [x',y'] w')):CallsM P f vs X w (fun v X'=>∃ x' y',X' = [x',y']∧Post v x' y') :=
  h.mono fun e w' ⟨v,x',y',hp,he,ho⟩=>⟨v,[x',y'],⟨x',y',rfl,hp⟩,he,ho⟩
theorem CallsM.of0 {P:Program} {f:FuncId} {vs:List Value} {w:World} {v:Value} (h:Calls P f vs.toArray w (fun e w'=>e = .returned v∧Below w.heap.size w w')):CallsM P f vs [] w (fun u X'=>X' = []∧u = v) :=
  h.mono fun e w' ⟨he,hb⟩=>⟨v,[],⟨rfl,rfl⟩,he,fun x hx=>(by cases hx),fun x hx=>(by cases hx),fun x hx=>(by cases hx),.nil,hb.os,hb.tape,hb.output,hb.size,fun k hk _=>hb.block k hk⟩
end Go.Proofs.YtnpeokiboiclfaaGreat
set_option linter.unusedVariables false
set_option linter.unusedSimpArgs false
set_option maxRecDepth 20000
namespace Go.Proofs.YtnpeokiboiclfaaGreat
open Go Go.RowKit
theorem mt_Len : Mth Tryz.prog 226 121 "Len" 189 false := ⟨by kernel_rfl, u226⟩
theorem mt_Less : Mth Tryz.prog 226 121 "Less" 257 false := ⟨by kernel_rfl, u226⟩
theorem rw_get {n:Nat} {f:Nat→Nat} {rest:List Value} {i:Nat} (h:i<n):(vec .i64 n f++rest)[i]? = some (.int .i64 (f i:Int)):=by
  rw [List.getElem?_append_left (by rw [KU]; exact h),Ki _ _ _ h]
theorem br_geq0 (q:Nat):Kp .geq .i64 (q:Int) .i64 0 = some (.bool true):=by
  show some (Value.bool (decide ((q:Int) ≥ 0))) = _
  rw [decide_eq_true (Int.natCast_nonneg q)]
def dn:Nat→Value
  | 0=>.int .i64 (-1)
  | n+1=>.int .i64 (n:Int)
theorem br_dn {q:Nat} (h:q≤1000):Kp .sub .i64 (q:Int) .i64 1 = some (dn q):=by
  cases q with
  | zero=>rfl
  | succ q=>exact (KAe (a:=q+1) (b:=1) om om).trans rfl
theorem c_frLen (p:Option Addr) (n c:Nat) (w:World)  : CF Tryz.prog 189 [.slice p n c] w (Iz n):=by
  refine KV (N:=5) (rs:=[.tmp 2]) [] Tryz.func189 rfl Tryz.ntmps189 Tryz.results189 (Nb rfl) trivial rfl ?_
  refine KB (KA (oP (KO (v:=Iz 0) rfl) (KC (KB (KA (oM ?_))))));refine oP (KBc u121 rfl) (oA (KC (KN ?_)));refine eN (.cons rfl .nil) ?_
  rfl
theorem c_frLess (fb c n i k:Nat) (f:Nat→Nat) (rest:List Value) (b:Bool) (hb:decide (f i<f k) = b) (hi:i<n) (hk:k<n) (w:World) (hr:(Item.blk fb ⟨false,vec .i64 n f++rest,3,(0,0)⟩).holds w):CF Tryz.prog 257 [.slice (some ⟨fb,0,none⟩) n c,Iz i,Iz k] w (.bool b):=by
  refine KV (N:=16) (rs:=[.tmp 6]) [.blk fb ⟨false,vec .i64 n f++rest,3,(0,0)⟩] Tryz.func257 rfl Tryz.ntmps257 Tryz.results257 (Nb rfl) ⟨hr,trivial⟩ rfl ?_
  refine KB (KA (oA (KC (KB (rD [] ?_)))));refine aM 0 ?_;refine aM 1 ?_;refine aP 2 rfl (KAF u121 sz_3 rfl rfl om) (aD 3 rfl (dL rfl (hv:=KI u3 rfl (by exact rw_get hi))) ?_);refine aM 4 ?_;refine aM 5 ?_;refine aP 6 rfl (KAF u121 sz_3 rfl rfl om) (aD 7 rfl (dL rfl (hv:=KI u3 rfl (by exact rw_get hk))) ?_);refine aP 8 rfl (KG rfl rfl (KAA)) (aA 9 ?_);refine aE (KN (eN (.cons rfl .nil) ?_))
  rw [hb]
  rfl
theorem c_downId (pb fb c M i:Nat) (s d m tr:Value) (rest:List Value) (hi:i<M) (hM:M≤1000) (w:World) (hr:(Item.blk fb ⟨false,vec .i64 M (fun i=>i)++rest,3,(0,0)⟩).holds w) (hp:(Item.blk pb ⟨false,[s,d,.slice (some ⟨fb,0,none⟩) M c,m,tr],124,(0,0)⟩).holds w):CF Tryz.prog 187 [.iface 226 (.pointer (some ⟨pb,2,none⟩)),Iz i,Iz M] w (.bool false):=by
  refine KV (N:=48) (rs:=[.tmp 6]) [.blk fb ⟨false,vec .i64 M (fun i=>i)++rest,3,(0,0)⟩,.blk pb ⟨false,[s,d,.slice (some ⟨fb,0,none⟩) M c,m,tr],124,(0,0)⟩] Tryz.func187 rfl Tryz.ntmps187 Tryz.results187 (Nb rfl) ⟨hr,hp,trivial⟩ rfl ?_
  refine KB (KA (oA (KC (KB (KA (oM (oA (KC (KB (LCode.block ?_))))))))));refine Kc (α:=Unit) (fun x=>True) (fun x=>⟨[(0,.iface 226 (.pointer (some ⟨pb,2,none⟩))),(1,Iz i),(2,Iz M),(7,Iz i)],[.blk fb ⟨false,vec .i64 M (fun i=>i)++rest,3,(0,0)⟩,.blk pb ⟨false,[s,d,.slice (some ⟨fb,0,none⟩) M c,m,tr],124,(0,0)⟩]⟩) (fun x=>0) (()) (trivial) (Ka ⟨rfl,rfl,rfl,rfl,trivial⟩ mS) ?_
  rintro ⟨⟩ _
  refine LCode.block (KB (KA (oM ?_)));refine oP (KG rfl rfl (KCB (a:=2) om)) (oP (KG rfl rfl (Kj (b:=1) om)) (oA (KC (KB (KB ?_)))))
  rcases (show M≤2*i+1∨2*i+1<M by omega) with hj|hj
  ·
   refine KA (oM (oM ?_));refine oP (bT rfl rfl KBf om) (oM ?_);refine oK (oK (oP (Kd rfl rfl) (KC (KS rfl (Kb (KB (KA (oM (oM ?_)))))))));refine oP (bF rfl rfl KAb om) (oA (KC (KN ?_)));refine eN (.cons rfl .nil) ?_
   rfl
  refine KA (oM (oM ?_));refine oP (bF rfl rfl KBf om) (oM ?_);refine oGM ?_;refine oGP (bF rfl rfl (KAA (b:=0)) om) (oP (KT rfl rfl) (KC (KH rfl (KM (KB (KA (oM (oA (KC (KB (KB (KA (oM ?_)))))))))))));refine oP (KG rfl rfl (Kj (b:=1) om)) (oA (KC (KB ?_)))
  rcases (show M≤2*i+1+1∨2*i+1+1<M by omega) with h2|h2
  ·
   refine KA (oM (oM ?_));refine oP (bF rfl rfl KAA om) (oM ?_);refine oK (oK (oK (oK (oP (KT rfl rfl) (KC (KH rfl (KM (KB (KB (KA (oM (oM (oM ?_)))))))))))));refine oS (LStep.inv (v:=.bool false) rfl (Recv.val mt_Less mM (KI (v:=.slice (some ⟨fb,0,none⟩) M c) u121 rfl rfl)) en_257 rfl (Nb rfl) (fun w hw=>c_frLess fb c M (2*i+1) (i) (fun i=>i) rest false (decide_eq_false om) om om w (hw (.blk fb ⟨false,vec .i64 M (fun i=>i)++rest,3,(0,0)⟩) mM)) ?_);refine oP (KJ (KAH rfl) (show _ = Value.bool true from rfl)) (KC (KS rfl (Kb (KB (KA (oM (oM ?_)))))));refine oP (bF rfl rfl KAb om) (oA (KC (KN ?_)));refine eN (.cons rfl .nil) ?_
   rfl
  refine KA (oM (oM ?_));refine oP (bT rfl rfl KAA om) (oM ?_);refine oGM ?_;refine oGM ?_;refine oGM ?_;refine oGS (LStep.inv (v:=.bool false) rfl (Recv.val mt_Less mM (KI (v:=.slice (some ⟨fb,0,none⟩) M c) u121 rfl rfl)) en_257 rfl (Nb rfl) (fun w hw=>c_frLess fb c M (2*i+1+1) (2*i+1) (fun i=>i) rest false (decide_eq_false om) om om w (hw (.blk fb ⟨false,vec .i64 M (fun i=>i)++rest,3,(0,0)⟩) mM)) ?_);refine oP (Kd rfl rfl) (KC (KH rfl (KM (KB (KB (KA (oM (oM (oM ?_)))))))));refine oS (LStep.inv (v:=.bool false) rfl (Recv.val mt_Less mM (KI (v:=.slice (some ⟨fb,0,none⟩) M c) u121 rfl rfl)) en_257 rfl (Nb rfl) (fun w hw=>c_frLess fb c M (2*i+1) (i) (fun i=>i) rest false (decide_eq_false om) om om w (hw (.blk fb ⟨false,vec .i64 M (fun i=>i)++rest,3,(0,0)⟩) mM)) ?_);refine oP (KJ (KAH rfl) (show _ = Value.bool true from rfl)) (KC (KS rfl (Kb (KB (KA (oM (oM ?_)))))))
  refine oP (bF rfl rfl KAb om) (oA (KC (KN ?_)));refine eN (.cons rfl .nil) ?_
  rfl
theorem c_hInit (pb fb c:Nat) (s d m tr:Value) (rest:List Value) (w:World) (hr:(Item.blk fb ⟨false,vec .i64 64 (fun i=>i)++rest,3,(0,0)⟩).holds w) (hp:(Item.blk pb ⟨false,[s,d,.slice (some ⟨fb,0,none⟩) 64 c,m,tr],124,(0,0)⟩).holds w):CF Tryz.prog 147 [.iface 226 (.pointer (some ⟨pb,2,none⟩))] w (.tuple #[]):=by
  refine KV (N:=17) (rs:=[]) [.blk fb ⟨false,vec .i64 64 (fun i=>i)++rest,3,(0,0)⟩,.blk pb ⟨false,[s,d,.slice (some ⟨fb,0,none⟩) 64 c,m,tr],124,(0,0)⟩] Tryz.func147 rfl Tryz.ntmps147 Tryz.results147 (Nb rfl) ⟨hr,hp,trivial⟩ rfl ?_
  refine KB (KA (oM ?_));refine oS (LStep.inv (v:=Iz 64) rfl (Recv.val mt_Len mM (KI (v:=.slice (some ⟨fb,0,none⟩) 64 c) u121 rfl rfl)) en_189 rfl (Nb rfl) (fun w hw=>c_frLen _ 64 c w) ?_);refine oA (KC (KB (KA (oM ?_))));refine oP (KG (v:=Iz 32) rfl rfl rfl) (oP (KG (v:=Iz 31) rfl rfl rfl) (oA (KC (LCode.block ?_))));refine Kc (α:=Nat) (fun x=>x≤32) (fun x=>⟨[(0,.iface 226 (.pointer (some ⟨pb,2,none⟩))),(2,Iz 64),(3,dn x)],[.blk fb ⟨false,vec .i64 64 (fun i=>i)++rest,3,(0,0)⟩,.blk pb ⟨false,[s,d,.slice (some ⟨fb,0,none⟩) 64 c,m,tr],124,(0,0)⟩]⟩) (fun x=>x) (32) (Nat.le_refl _) (Ka ⟨rfl,rfl,rfl,trivial⟩ mS) ?_
  intro x hx
  refine KB (KB ?_)
  rcases x with _|q
  ·
   refine KA (oM ?_);refine oP (KG (v:=.bool false) rfl rfl rfl) (KC (KH rfl (Kb (⟨[],.nil,fun a w' hr=>⟨?_,hr.fr.below⟩⟩))))
   rfl
  refine KA (oM ?_);refine oP (KG (v:=.bool true) rfl rfl (br_geq0 q)) (KC (KS rfl (KM (KB (LCode.block (KA (oM (oM (oM ?_)))))))));refine oS (cF rfl en_187 rfl (fun w hw=>c_downId pb fb c 64 q s d m tr rest om dc w (hw (.blk fb ⟨false,vec .i64 64 (fun i=>i)++rest,3,(0,0)⟩) mM) (hw (.blk pb ⟨false,[s,d,.slice (some ⟨fb,0,none⟩) 64 c,m,tr],124,(0,0)⟩) mM)) ?_);refine KC (KA (oM ?_));refine oP (KG (v:=dn q) rfl rfl (br_dn om)) (oA (KC ?_))
  exact ⟨q,by omega,by omega,Ka ⟨rfl,rfl,rfl,trivial⟩ mS⟩
abbrev RiRow:=Option (Nat×Nat×List Value)
def riV (q:RiRow) (n:Nat):Value:=match q with
  | none=>.slice none 0 0
  | some r=>.slice (some ⟨r.1,0,none⟩) n r.2.1
theorem riV_one (q:RiRow) (n:Nat):one (riV q n) = true:=by cases q <;> rfl
def riFp (q:RiRow):List Nat:=match q with
  | none=>[]
  | some r=>[r.1]
def riP (q:RiRow) (n:Nat) (w:World):Prop:=match q with
  | none=>n = 0
  | some r=>w.heap[r.1]? = some (.cells (vec .i64 n (fun i=>i)++r.2.2).toArray 3 (0,0))∧n+r.2.2.length = r.2.1
def riI (q:RiRow) (n:Nat):Item:=.own (riFp q) (riP q n)
theorem riI_P {q:RiRow} {n:Nat} {w:World} (h:(riI q n).holds w):riP q n w:=h.2 w (KDC _ _)
theorem riI_nil (w:World):(riI none 0).holds w:=⟨fun k hk=>(by cases hk),fun _ _=>rfl⟩
theorem riI_of {b cap n:Nat} {rest:List Value} {w:World} (h:w.heap[b]? = some (.cells (vec .i64 n (fun i=>i)++rest).toArray 3 (0,0))) (hc:n+rest.length = cap):(riI (some (b,cap,rest)) n).holds w:=by
  refine ⟨fun k hk=>?_,fun w' ha=>⟨(ha b (.head _)).trans h,hc⟩⟩
  rw [List.mem_singleton.1 hk]; exact KDF h
theorem Rel.behead {C:Ctx} {T:List (Nat×Value)} {H R:List Item} {x:Item} {a:Act} {w:World} (hr:Rel C ⟨T,H⟩ a w) (hp:Pick x H R):Rel C ⟨T,R⟩ a w:=by
  have hpm:=hp.perm
  have hd:(x :: R).Pairwise Apart:=(hpm.pairwise_iff (fun h=>Apart.symm h)).1 hr.dist
  exact ⟨hr.size,hr.defers,hr.tm,fun y hy=>hr.hp y (hpm.mem_iff.2 (.tail _ hy)),fun y hy=>hr.own y (hpm.mem_iff.2 (.tail _ hy)),(List.pairwise_cons.1 hd).2,hr.fr⟩
theorem vec_id_snoc (n:Nat):vec .i64 n (fun i=>i)++[Iz n] = vec .i64 (n+1) (fun i=>i):=by
  unfold vec; rw [List.range_succ,List.map_append]; rfl
theorem LStepW.appendI {P : Program} {C : Ctx} {T : List (Nat × Value)} {H H0 : List Item} {q : RiRow} {n a0 c0 d : Nat} {wr : Bool} {ea : TypeId} {fz : Nat × Nat} {x y : Operand} {t ty : TypeId} {pos : String} {aft : Array Edge} {g : Option (Nat × Bool)} {K : St → Prop} (hx : evT T x = some (riV q n)) (hy : evT T y = some (.slice (some ⟨a0, 0, none⟩) 1 c0))
    (ht:P.underlying t = some (.slice 3)) (hi:infOf P 3 = some (Iz 0,1,8)) (hp:Pick (riI q n) H H0) (hm:Item.blk a0 ⟨wr,[Iz n],ea,fz⟩∈H0) (hn:n≤1000) (hd:d<C.N)
    (h:∀ q',K ⟨(d,riV q' (n+1)) :: T,riI q' (n+1) :: H0⟩):KAX P C ⟨some d,.call { callee:=.builtin .append,args:=#[x,y],argTypes:=#[t,t] },ty,pos,aft,g⟩ ⟨T,H⟩ K:=by
  unfold KAX
  intro a w hr Qr
  have hin:riI q n∈H:=hp.perm.mem_iff.2 (.head _)
  have hP:=riI_P (hr.hp _ hin)
  rcases q with _|⟨b,cap,rest⟩
  · obtain rfl:n = 0:=hP
    have w1:=KCe (P:=P) (C:=C) (T:=T) (H:=H0) (s:=1) (m:=1) (d:=d) (ty:=ty) (pos:=pos) (aft:=aft) (g:=g) (news:=[Iz 0]) (K:=fun s=>∃ b' cap' rest',0+1+List.length rest' = cap'∧s = ⟨(d,.slice (some ⟨b',0,none⟩) 1 cap') :: T,.blk b' ⟨true,[Iz 0]++rest',3,(0,0)⟩ :: H0⟩) hx hy ht hi rfl hm rfl dc dc dc hd (fun b' cap' rest' hs=>⟨b',cap',rest',by simpa using hs,rfl⟩)
    unfold KAX at w1
    refine Oper.wp_mono ?_ (w1 a w (hr.behead hp) Qr)
    rintro a' w' ⟨_,⟨b',cap',rest',hs,rfl⟩,hr'⟩
    exact ⟨_,h (some (b',cap',rest')),hr'.turn (y:=riI (some (b',cap',rest')) 1) (.head _) (fun hh=>riI_of hh hs) (fun k hk=>hk) (fun _=>rfl)⟩
  · obtain ⟨hb,hc⟩:=hP
    have hc:n+rest.length = cap:=hc
    have hr2:Rel C ⟨T,.blk b ⟨true,vec .i64 n (fun i=>i)++rest,3,(0,0)⟩ :: H0⟩ a w:=hr.turn hp (fun hh=>(riI_P hh).1) (fun k hk=>hk) (fun _=>rfl)
    have w1:=KDU (P:=P) (C:=C) (T:=T) (s:=1) (m:=1) (n:=n) (cap:=cap) (d:=d) (ty:=ty) (pos:=pos) (aft:=aft) (g:=g) (xs:=vec .i64 n (fun i=>i)) (rest:=rest) (news:=[Iz n]) (K:=fun s=>∃ b' cap' rest',n+1+List.length rest' = cap'∧s = ⟨(d,.slice (some ⟨b',0,none⟩) (n+1) cap') :: T,.blk b' ⟨true,(vec .i64 n (fun i=>i)++[Iz n])++rest',3,(0,0)⟩ :: H0⟩) hx hy ht hi rfl (Pick.head _) hm (by rw [KU]; omega) (by rw [KU]; omega) rfl (Km rfl Kz) om om hd (fun b' cap' rest' hs=>⟨b',cap',rest',by rw [KU] at hs; simpa using hs,rfl⟩)
    unfold KAX at w1
    refine Oper.wp_mono ?_ (w1 a w hr2 Qr)
    rintro a' w' ⟨_,⟨b',cap',rest',hs,rfl⟩,hr'⟩
    rw [vec_id_snoc] at hr'
    exact ⟨_,h (some (b',cap',rest')),hr'.turn (y:=riI (some (b',cap',rest')) (n+1)) (.head _) (fun hh=>riI_of hh hs) (fun k hk=>hk) (fun _=>rfl)⟩
theorem c_pForget (pb:Nat) (s d f0 m0 tr:Value) (w:World) (hH:∀ x,x∈([.blk pb ⟨true,[s,d,f0,m0,tr],124,(0,0)⟩]++[]:List Item)→x.holds w) (hd:([.blk pb ⟨true,[s,d,f0,m0,tr],124,(0,0)⟩]++[]:List Item).Pairwise Apart)  : Calls Tryz.prog 102 ([Pz pb]:List Value).toArray w (fun e w'=>∃ (u:Value) (x':Item) (y':Item) (z':Item),(∃ fb c mb rest,64+rest.length = c∧u = .tuple #[]∧x' = .blk pb ⟨true,[s,d,.slice (some ⟨fb,0,none⟩) 64 c,.map (some mb),tr],124,(0,0)⟩∧y' = .blk fb ⟨true,vec .i64 64 (fun i=>i)++rest,3,(0,0)⟩∧z' = mpI mb none)∧e = .returned u∧Outcome w [.blk pb ⟨true,[s,d,f0,m0,tr],124,(0,0)⟩] [x',y',z'] w'):=by
  refine KAO [.blk pb ⟨true,[s,d,f0,m0,tr],124,(0,0)⟩] (N:=29) (rs:=[]) Tryz.func102 rfl Tryz.ntmps102 Tryz.results102 (Nb rfl) hH hd rfl rfl ?_
  refine KB (KA (oM (oM ?_)));refine oS (LStep.makeMap (Nb rfl) (fun mb=>?_));refine oP (KF rfl) (oP (KE (o':=2) u124 rfl rfl rfl sz_121 dc) ?_);refine LOps.step rfl (KZ (cs':=[s,d,.slice none 0 0,m0,tr]) rfl rfl rfl sz_121 mT (by show 2<5; decide) rfl (by simp) ?_);refine oP (KF rfl) (oP (KE (o':=3) u124 rfl rfl rfl sz_122 dc) ?_);refine LOps.step rfl (KZ (cs':=[s,d,.slice none 0 0,.map (some mb),tr]) rfl rfl rfl sz_122 mT (by show 3<5; decide) rfl (by simp) ?_);refine KC (KB (KB (LCode.sub (Sub.add (x:=riI none 0) riI_nil rfl) ?_)));refine KA (oP (Kf (v:=Iz 0) rfl) (KC (LCode.block (Kc (α:=Nat×RiRow) (fun x=>x.1≤64) (fun x=>⟨[(0,Pz pb),(10,Iz x.1)],[.blk pb ⟨true,[s,d,riV x.2 x.1,.map (some mb),tr],124,(0,0)⟩,riI x.2 x.1,mpI mb none]⟩) (fun x=>64-x.1) ((0,none)) (Nat.zero_le _) (Ka ⟨rfl,rfl,trivial⟩ mS) ?_))))
  intro x hx
  refine KB (KA (oP (KG rfl rfl (KAA (b:=64))) (KC (KB ?_))))
  first|refine KQ rfl (fun h11=>?_) (fun h11=>?_)|refine KR rfl (fun h11=>?_) (fun h11=>?_)
  ·
   have h11:x.1<64:=h11
   refine KM (KB (LCode.block (KB (KA (oM (oA (KC (KA (oM (oM ?_))))))))));refine oP (KF rfl) (oP (KE (o':=2) u124 rfl rfl rfl sz_121 dc) (oD (dL rfl (hv:=KI u121 rfl (rfl))) ?_));refine oM ?_;refine oS (mk (KAP u121 inf_3 rfl rfl rfl rfl dc rfl) (fun b19=>?_));refine LOps.step rfl (LStepW.appendI (q:=x.2) (n:=x.1) rfl rfl u121 inf_3 mP mM om (Nb rfl) ?_)
   intro q1
   refine oP (KF rfl) (oP (KE (o':=2) u124 rfl rfl rfl sz_121 dc) ?_);refine LOps.step rfl (KZ (cs':=[s,d,riV q1 (x.1+1),.map (some mb),tr]) rfl rfl (riV_one _ _) sz_121 mT (by show 2<5; decide) rfl (by simp) ?_);refine KC (KA (oP (KG rfl rfl (Kj (b:=1) om)) (oM (KC ?_))))
   exact ⟨(x.1+1,q1),by dsimp only; omega,by dsimp only; omega,Ka ⟨rfl,rfl,trivial⟩ mS⟩
  have h11:¬ x.1<64:=h11
  have he:x.1 = 64:=by omega
  rw [he]
  refine Kb (LCode.know (x:=riI x.2 64) mM (φ:=x.2≠none) (fun w hw e=>?_) (fun hne=>?_))
  · rw [e] at hw; exact absurd (show (64:Nat) = 0 from riI_P hw) dc
  obtain ⟨⟨fb,c,rest⟩,hq⟩:∃ z,x.2 = some z:=by cases h:x.2 with|none=>exact absurd h hne|some z=>exact ⟨z,rfl⟩
  rw [hq]
  refine LCode.know (x:=riI (some (fb,c,rest)) 64) mM (fun w hw=>(riI_P hw).2) (fun hcap=>?_);refine LCode.sub (Sub.turn (y:=.blk fb ⟨true,vec .i64 64 (fun i=>i)++rest,3,(0,0)⟩) (x:=riI (some (fb,c,rest)) 64) mP (fun w hw=>(riI_P hw).1) (fun k hk=>hk) (fun _=>rfl)) ?_;refine KA (oM ?_);refine oP (KF rfl) (oP (KE (o':=2) u124 rfl rfl rfl sz_121 dc) (oP (Det.mkIface u226 rfl rfl) (oS (cF rfl en_147 rfl (fun w hw=>c_hInit pb fb c s d (.map (some mb)) tr rest w (show (Item.blk fb ⟨false,vec .i64 64 (fun i=>i)++rest,3,(0,0)⟩).holds w from hw (.blk fb ⟨true,vec .i64 64 (fun i=>i)++rest,3,(0,0)⟩) mM) (show (Item.blk pb ⟨false,[s,d,.slice (some ⟨fb,0,none⟩) 64 c,.map (some mb),tr],124,(0,0)⟩).holds w from hw (.blk pb ⟨true,[s,d,.slice (some ⟨fb,0,none⟩) 64 c,.map (some mb),tr],124,(0,0)⟩) mM)) ?_))));refine KC (⟨[],.nil,fun a w' hr=>⟨_,_,_,_,⟨fb,c,mb,rest,hcap,rfl,rfl,rfl,rfl⟩,rfl,hr.out mS rfl⟩⟩)
end Go.Proofs.YtnpeokiboiclfaaGreat
