/- Part 4 of what the proof leans on: a symbolic execution of the model, walks of the program's functions, and the mathematics. No condition. -/
import Derived.WalkKit
import Derived.Orders
import Derived.Laws.StructEq
import Derived.WalkSpells
import Derived.OrdersHeld
import Derived.KernelRfl
import Derived.Laws.Externs
import Derived.Laws.Bits64
import Derived.Laws.MakeOwn
import Derived.Laws.BytesString
import Derived.Carry
import Derived.WideShapes
import GoSem.Claim
import Derived.Test.YtlmiolnccgjjjaaProg
import Derived.Laws.AppendOwn
import Derived.OpenShut
import Derived.Test.YtlmiolnccgjjjaaRows
import Derived.ProofKit
import Derived.Test.YtlmiolnccgjjjaaT3
set_option linter.unusedVariables false
set_option maxRecDepth 100000
namespace Go.Proofs.Ytlmiolnccgjjjaa
open Grp
def P521:Nat:=Nat.mul 2 (Nat.pow 256 65)
theorem p521 {i:Nat} (h:i = 65):2^(8*i+1) = P521:=by
  rw [Nat.pow_succ,Nat.pow_mul,h,Nat.mul_comm]
  rfl
structure Cv where
  id:Nat
  p:Nat
  a:Nat
  b:Nat
  n:Nat
  x:Nat
  y:Nat
  z:Nat
  nz:NeZero p
instance (V:Cv):NeZero V.p:=V.nz
abbrev Cv.A (V:Cv):Fin V.p:=c V.p V.a
abbrev Cv.B (V:Cv):Fin V.p:=c V.p V.b
abbrev Cv.G (V:Cv):Pt V.p:=.aff (c V.p V.x) (c V.p V.y)
noncomputable def powOK (p z e l:Nat):Bool:=Nat.beq (e >>> l) 1 && Nat.rec (motive:=fun _=>Nat→Bool) (fun x=>Nat.beq x (p-1)) (fun i ih x=>force (x*x%p) fun x2=>Bool.rec (ih x2) (force (x2*z%p) ih) (Nat.testBit e i)) l z
theorem pow_go {p : Nat} [NeZero p] {z e : Nat} : ∀ (l x : Nat), Nat.rec (motive := fun _ => Nat → Bool) (fun x => Nat.beq x (p - 1)) (fun i ih x => force (x * x % p) fun x2 => Bool.rec (ih x2) (force (x2 * z % p) ih) (Nat.testBit e i)) l x = true →
    c p x = fpow (c p z) (e >>> l)→c p (p-1) = fpow (c p z) e
  | 0,x,h,hx=>by
    have h':Nat.beq x (p-1) = true:=h
    rw [← beq_eq h',hx]; rfl
  | l+1,x,h,hx=>by
    have hd:p ∣ p:=Nat.dvd_refl p
    have h':force (x*x%p) (fun x2=>Bool.rec (Nat.rec (motive:=fun _=>Nat→Bool) (fun x=>Nat.beq x (p-1)) (fun i ih x=>force (x*x%p) fun x2=>Bool.rec (ih x2) (force (x2*z%p) ih) (Nat.testBit e i)) l x2)
      (force (x2*z%p) (Nat.rec (motive:=fun _=>Nat→Bool) (fun x=>Nat.beq x (p-1)) (fun i ih x=>force (x*x%p) fun x2=>Bool.rec (ih x2) (force (x2*z%p) ih) (Nat.testBit e i)) l)) (Nat.testBit e l)) = true:=h
    rw [force_eq] at h'
    have hs:=shift_bit e l
    cases hb:e.testBit l with
    | false =>
      rw [hb] at h' hs
      refine pow_go l _ h' ?_
      rw [hs,c_mod hd,c_mul,hx,fpow_add,fpow_add]
      show _ = _*fpow _ 0
      show _ = _*(1:Fin p)
      grind -lia
    | true =>
      rw [hb] at h' hs
      rw [force_eq] at h'
      refine pow_go l _ h' ?_
      rw [hs,c_mod hd,c_mul,c_mod hd,c_mul,hx,fpow_add,fpow_add]
      show _ = _*fpow _ 1
      rw [fpow_one]
theorem pow_ok {p:Nat} [NeZero p] {z e l:Nat} (h:powOK p z e l = true) (hp:1≤p):fpow (c p z) e = -1:=by
  simp only [powOK,Bool.and_eq_true] at h
  have:=pow_go (p:=p) l z h.2 (by rw [beq_eq h.1,fpow_one])
  rw [← this,c_sub (Nat.dvd_refl p) hp,c_one]
structure Cv.Ok (V:Cv):Prop where
  good:Grp.Good V.A V.B
  fld:Fld V.p
  prime:Pr V.p
  order:Pr V.n
  on:On V.A V.B V.G
  ord:pmul V.A V.G V.n = .inf
  none:fpow (c V.p V.z) ((V.p-1)/2) = -1
  cs:(Nat.ble 5 V.p && Nat.ble (V.p+1) P521 && Nat.ble (V.a+1) V.p && Nat.ble (V.b+1) V.p && Nat.ble (V.x+1) V.p && Nat.ble (V.y+1) V.p && Nat.ble 2 V.z && Nat.ble (V.z+1) V.p && Nat.ble (V.n+1) P521 && Nat.beq (V.p%2) 1 && Nat.beq (V.n%2) 1 && Nat.ble 1 V.b && Nat.ble 100 V.n && Nat.ble (4*V.p+1) ((V.n-1)*(V.n-1))) = true
theorem Cv.ok_of (V : Cv) {l l2 u1 u0 v2 v1 v0 le : Nat} (hp : Pr V.p) (hn : Pr V.n) (hg : gkOK V.p V.a V.b V.x V.y V.n l = true) (hr : rootOK V.p V.a V.b l2 u1 u0 v2 v1 v0 = true) (hz : powOK V.p V.z ((V.p - 1) / 2) le = true)
    (cs:(Nat.ble 5 V.p && Nat.ble (V.p+1) P521 && Nat.ble (V.a+1) V.p && Nat.ble (V.b+1) V.p && Nat.ble (V.x+1) V.p && Nat.ble (V.y+1) V.p && Nat.ble 2 V.z && Nat.ble (V.z+1) V.p && Nat.ble (V.n+1) P521 && Nat.beq (V.p%2) 1 && Nat.beq (V.n%2) 1 && Nat.ble 1 V.b && Nat.ble 100 V.n && Nat.ble (4*V.p+1) ((V.n-1)*(V.n-1))) = true):V.Ok:=by
  have h2:=hp.1
  have hcs:=cs
  simp only [Bool.and_eq_true] at cs
  have h5:=Nb cs.1.1.1.1.1.1.1.1.1.1.1.1.1
  have hf:=hp.fld (p:=V.p) (by omega)
  obtain ⟨_,g2,g3⟩:=gk_mul hg (by omega) V.p hp (Nat.dvd_refl _)
  exact ⟨⟨hf.dom,hf.inv,hf.two,noroot hf h2 hr⟩,hf,hp,hn,g2,g3,pow_ok hz (by omega),hcs⟩
def cv1:Cv:=⟨1,6277101735386680763835789423207666416083908700390324961279,6277101735386680763835789423207666416083908700390324961276,2455155546008943817740293915197451784769108058161191238065,6277101735386680763835789423176059013767194773182842284081,602046282375688656758213480587526111916698976636884684818,174050332293622031404857552280219410364023488927386650641,11,⟨by decide⟩⟩
theorem ok1:cv1.Ok:=Cv.ok_of cv1 (le:=190) pr_6277101735386680763835789423207666416083908700390324961279 pr_6277101735386680763835789423176059013767194773182842284081 gk_P192 root_P192 (by kernel_rfl) (by kernel_rfl)
def cv2:Cv:=⟨2,26959946667150639794667015087019630673557916260026308143510066298881,26959946667150639794667015087019630673557916260026308143510066298878,18958286285566608000408668544493926415504680968679321075787234672564,26959946667150639794667015087019625940457807714424391721682722368061,19277929113566293071110308034699488026831934219452440156649784352033,19926808758034470970197974370888749184205991990603949537637343198772,11,⟨by decide⟩⟩
theorem ok2:cv2.Ok:=Cv.ok_of cv2 (le:=222) pr_26959946667150639794667015087019630673557916260026308143510066298881 pr_26959946667150639794667015087019625940457807714424391721682722368061 gk_P224 root_P224 (by kernel_rfl) (by kernel_rfl)
def cv3:Cv:=⟨3,115792089210356248762697446949407573530086143415290314195533631308867097853951,115792089210356248762697446949407573530086143415290314195533631308867097853948,41058363725152142129326129780047268409114441015993725554835256314039467401291,115792089210356248762697446949407573529996955224135760342422259061068512044369,48439561293906451759052585252797914202762949526041747995844080717082404635286,36134250956749795798585127919587881956611106672985015071877198253568414405109,3,⟨by decide⟩⟩
theorem ok3:cv3.Ok:=Cv.ok_of cv3 (le:=254) pr_115792089210356248762697446949407573530086143415290314195533631308867097853951 pr_115792089210356248762697446949407573529996955224135760342422259061068512044369 gk_P256 root_P256 (by kernel_rfl) (by kernel_rfl)
def cv4:Cv:=⟨4,39402006196394479212279040100143613805079739270465446667948293404245721771496870329047266088258938001861606973112319,39402006196394479212279040100143613805079739270465446667948293404245721771496870329047266088258938001861606973112316,27580193559959705877849011840389048093056905856361568521428707301988689241309860865136260764883745107765439761230575,39402006196394479212279040100143613805079739270465446667946905279627659399113263569398956308152294913554433653942643,26247035095799689268623156744566981891852923491109213387815615900925518854738050089022388053975719786650872476732087,8325710961489029985546751289520108179287853048861315594709205902480503199884419224438643760392947333078086511627871,19,⟨by decide⟩⟩
theorem ok4:cv4.Ok:=Cv.ok_of cv4 (le:=382) pr_39402006196394479212279040100143613805079739270465446667948293404245721771496870329047266088258938001861606973112319 pr_39402006196394479212279040100143613805079739270465446667946905279627659399113263569398956308152294913554433653942643 gk_P384 root_P384 (by kernel_rfl) (by kernel_rfl)
def cv5:Cv:=⟨5,6864797660130609714981900799081393217269435300143305409394463459185543183397656052122559640661454554977296311391480858037121987999716643812574028291115057151,6864797660130609714981900799081393217269435300143305409394463459185543183397656052122559640661454554977296311391480858037121987999716643812574028291115057148,1093849038073734274511112390766805569936207598951683748994586394495953116150735016013708737573759623248592132296706313309438452531591012912142327488478985984,6864797660130609714981900799081393217269435300143305409394463459185543183397655394245057746333217197532963996371363321113864768612440380340372808892707005449,2661740802050217063228768716723360960729859168756973147706671368418802944996427808491545080627771902352094241225065558662157113545570916814161637315895999846,3757180025770020463545507224491183603594455134769762486694567779615544477440556316691234405012945539562144444537289428522585666729196580810124344277578376784,3,⟨by decide⟩⟩
theorem ok5:cv5.Ok:=Cv.ok_of cv5 (le:=519) pr_6864797660130609714981900799081393217269435300143305409394463459185543183397656052122559640661454554977296311391480858037121987999716643812574028291115057151 pr_6864797660130609714981900799081393217269435300143305409394463459185543183397655394245057746333217197532963996371363321113864768612440380340372808892707005449 gk_P521 root_P521 (by kernel_rfl) (by kernel_rfl)
def cv6:Cv:=⟨6,115792089237316195423570985008687907853269984665640564039457584007908834671663,0,7,115792089237316195423570985008687907852837564279074904382605163141518161494337,55066263022277343669578718895168534326250603453777594175500187360389116729240,32670510020758816978083085130507043184471273380659243275938904335757337482424,3,⟨by decide⟩⟩
theorem ok6:cv6.Ok:=Cv.ok_of cv6 (le:=254) pr_115792089237316195423570985008687907853269984665640564039457584007908834671663 pr_115792089237316195423570985008687907852837564279074904382605163141518161494337 gk_K256 root_K256 (by kernel_rfl) (by kernel_rfl)
def cv7:Cv:=⟨7,1332297598440044874827085558802491743757193798159,297190522446607939568481567949428902921613329152,173245649450172891208247283053495198538671808088,1332297598440044874827085038830181364212942568457,1089473557631435284577962539738532515920566082499,127912481829969033206777085249718746721365418785,3,⟨by decide⟩⟩
theorem ok7:cv7.Ok:=Cv.ok_of cv7 (le:=158) pr_1332297598440044874827085558802491743757193798159 pr_1332297598440044874827085038830181364212942568457 gk_B160 root_B160 (by kernel_rfl) (by kernel_rfl)
def cv8:Cv:=⟨8,22721622932454352787552537995910928073340732145944992304435472941311,11020725272625742361946480833014344015343456918668456061589001510723,3949606626053374030787926457695139766118442946052311411513528958987,22721622932454352787552537995910923612567546342330757191396560966559,1428364927244201726431498207475486496993067267318520844137448783997,9337555360448823227812410753177468631215558779020518084752618816205,3,⟨by decide⟩⟩
theorem ok8:cv8.Ok:=Cv.ok_of cv8 (le:=222) pr_22721622932454352787552537995910928073340732145944992304435472941311 pr_22721622932454352787552537995910923612567546342330757191396560966559 gk_B224 root_B224 (by kernel_rfl) (by kernel_rfl)
def cv9:Cv:=⟨9,76884956397045344220809746629001649093037950200943055203735601445031516197751,56698187605326110043627228396178346077120614539475214109386828188763884139993,17577232497321838841075697789794520262950426058923084567046852300633325438902,76884956397045344220809746629001649092737531784414529538755519063063536359079,63243729749562333355292243550312970334778175571054726587095381623627144114786,38218615093753523893122277964030810387585405539772602581557831887485717997975,11,⟨by decide⟩⟩
theorem ok9:cv9.Ok:=Cv.ok_of cv9 (le:=254) pr_76884956397045344220809746629001649093037950200943055203735601445031516197751 pr_76884956397045344220809746629001649092737531784414529538755519063063536359079 gk_B256 root_B256 (by kernel_rfl) (by kernel_rfl)
def cv10:Cv:=⟨10,1763593322239166354161909842446019520889512772719515192772960415288640868802149818095501499903527,524709318439392693105919717518043758943240164412117372990311331314771510648804065756354311491252,684460840191207052139729091116995410883497412720006364295713596062999867796741135919289734394278,1763593322239166354161909842446019520889512772717686063760686124016784784845843468355685258203921,565203972584199378547773331021708157952136817703497461781479793049434111597020229546183313458705,175146432689526447697480803229621572834859050903464782210773312572877763380340633688906597830369,5,⟨by decide⟩⟩
theorem ok10:cv10.Ok:=Cv.ok_of cv10 (le:=318) pr_1763593322239166354161909842446019520889512772719515192772960415288640868802149818095501499903527 pr_1763593322239166354161909842446019520889512772717686063760686124016784784845843468355685258203921 gk_B320 root_B320 (by kernel_rfl) (by kernel_rfl)
def cv11:Cv:=⟨11,21659270770119316173069236842332604979796116387017648600081618503821089934025961822236561982844534088440708417973331,19048979039598244295279281525021548448223459855185222892089532512446337024935426033638342846977861914875721218402342,717131854892629093329172042053689661426642816397448020844407951239049616491589607702456460799758882466071646850065,21659270770119316173069236842332604979796116387017648600075645274821611501358515537962695117368903252229601718723941,4480579927441533893329522230328287337018133311029754539518372936441756157459087304048546502931308754738349656551198,21354446258743982691371413536748675410974765754620216137225614281636810686961198361153695003859088327367976229294869,2,⟨by decide⟩⟩
theorem ok11:cv11.Ok:=Cv.ok_of cv11 (le:=382) pr_21659270770119316173069236842332604979796116387017648600081618503821089934025961822236561982844534088440708417973331 pr_21659270770119316173069236842332604979796116387017648600075645274821611501358515537962695117368903252229601718723941 gk_B384 root_B384 (by kernel_rfl) (by kernel_rfl)
def cv12:Cv:=⟨12,8948962207650232551656602815159153422162609644098354511344597187200057010413552439917934304191956942765446530386427345937963894309923928536070534607816947,6294860557973063227666421306476379324074715770622746227136910445450301914281276098027990968407983962691151853678563877834221834027439718238065725844264138,3245789008328967059274849584342077916531909009637501918328323668736179176583263496463525128488282611559800773506973771797764811498834995234341530862286627,8948962207650232551656602815159153422162609644098354511344597187200057010413418528378981730643524959857451398370029280583094215613882043973354392115544169,6792059140424575174435640431269195087843153390102521881468023012732047482579853077545647446272866794936371522410774532686582484617946013928874296844351522,6592244555240112873324748381429610341312712940326266331327445066687010545415256461097707483288650216992613090185042957716318301180159234788504307628509330,2,⟨by decide⟩⟩
theorem ok12:cv12.Ok:=Cv.ok_of cv12 (le:=510) pr_8948962207650232551656602815159153422162609644098354511344597187200057010413552439917934304191956942765446530386427345937963894309923928536070534607816947 pr_8948962207650232551656602815159153422162609644098354511344597187200057010413418528378981730643524959857451398370029280583094215613882043973354392115544169 gk_B512 root_B512 (by kernel_rfl) (by kernel_rfl)
def cv13:Cv:=⟨13,251,248,26,223,2,84,2,⟨by decide⟩⟩
theorem ok13:cv13.Ok:=Cv.ok_of cv13 (le:=6) pr_251 pr_223 gk_Tiny1 root_Tiny1 (by kernel_rfl) (by kernel_rfl)
def cv14:Cv:=⟨14,241,0,13,211,3,47,7,⟨by decide⟩⟩
theorem ok14:cv14.Ok:=Cv.ok_of cv14 (le:=6) pr_241 pr_211 gk_Tiny2 root_Tiny2 (by kernel_rfl) (by kernel_rfl)
def cv15:Cv:=⟨15,239,117,8,229,0,41,7,⟨by decide⟩⟩
theorem ok15:cv15.Ok:=Cv.ok_of cv15 (le:=6) pr_239 pr_229 gk_Tiny3 root_Tiny3 (by kernel_rfl) (by kernel_rfl)
def cvOf:Nat→Option Cv
  | 1=>some cv1
  | 2=>some cv2
  | 3=>some cv3
  | 4=>some cv4
  | 5=>some cv5
  | 6=>some cv6
  | 7=>some cv7
  | 8=>some cv8
  | 9=>some cv9
  | 10=>some cv10
  | 11=>some cv11
  | 12=>some cv12
  | 13=>some cv13
  | 14=>some cv14
  | 15=>some cv15
  | _=>none
theorem cvOf_ok {k:Nat} {V:Cv} (h:cvOf k = some V):V.Ok∧V.id = k:=by
  unfold cvOf at h
  split at h
  · injection h with h; subst h; exact ⟨ok1,rfl⟩
  · injection h with h; subst h; exact ⟨ok2,rfl⟩
  · injection h with h; subst h; exact ⟨ok3,rfl⟩
  · injection h with h; subst h; exact ⟨ok4,rfl⟩
  · injection h with h; subst h; exact ⟨ok5,rfl⟩
  · injection h with h; subst h; exact ⟨ok6,rfl⟩
  · injection h with h; subst h; exact ⟨ok7,rfl⟩
  · injection h with h; subst h; exact ⟨ok8,rfl⟩
  · injection h with h; subst h; exact ⟨ok9,rfl⟩
  · injection h with h; subst h; exact ⟨ok10,rfl⟩
  · injection h with h; subst h; exact ⟨ok11,rfl⟩
  · injection h with h; subst h; exact ⟨ok12,rfl⟩
  · injection h with h; subst h; exact ⟨ok13,rfl⟩
  · injection h with h; subst h; exact ⟨ok14,rfl⟩
  · injection h with h; subst h; exact ⟨ok15,rfl⟩
  · cases h
theorem cvOf_none {k:Nat} (h:k = 0∨15<k):cvOf k = none:=by
  unfold cvOf
  split <;> first|rfl|omega
end Go.Proofs.Ytlmiolnccgjjjaa
set_option linter.unusedVariables false
set_option linter.unusedSectionVars false
namespace Go.Proofs.Ytlmiolnccgjjjaa
open Grp
section
variable {p:Nat} [NeZero p]
def xv:Pt p→Nat
  | .inf=>0
  | .aff x _=>x.val
def yv:Pt p→Nat
  | .inf=>0
  | .aff _ y=>y.val
def iv:Pt p→Bool
  | .inf=>true
  | .aff _ _=>false
theorem c_of_val (x:Fin p):c p x.val = x:=Fin.ext (by rw [c_val,Nat.mod_eq_of_lt x.isLt])
theorem val_c {x:Nat} (h:x<p):(c p x).val = x:=by rw [c_val,Nat.mod_eq_of_lt h]
theorem pos_p:0<p:=Nat.pos_of_ne_zero (NeZero.ne p)
theorem xv_lt (P:Pt p):xv P<p:=by
  cases P with
  | inf=>exact pos_p
  | aff x y=>exact x.isLt
theorem yv_lt (P:Pt p):yv P<p:=by
  cases P with
  | inf=>exact pos_p
  | aff x y=>exact y.isLt
theorem c_dvd_mod (k:Nat):c p (k%p) = c p k:=c_mod (Nat.dvd_refl p) k
theorem c_less {s l:Nat} (hs:s<p) (hl:l<p):c p (lessM s l p) = c p s-c p l:=by
  have h1:=lessM_add hs hl
  have h2:c p (lessM s l p)+c p l = c p s:=by rw [← c_add,← c_dvd_mod,h1,c_dvd_mod]
  have h3:c p (lessM s l p)-(c p s-c p l) = 0:=by rw [← h2]; grind -lia
  exact eq_of_sub h3
theorem c_inj {x y:Nat} (hx:x<p) (hy:y<p) (h:c p x = c p y):x = y:=by
  have:=congrArg Fin.val h
  rwa [val_c hx,val_c hy] at this
def rightN (p a b x:Nat):Nat:=((x*x%p+a)%p*x%p+b)%p
theorem c_right (a b x:Nat):c p (rightN p a b x) = c p x*c p x*c p x+c p a*c p x+c p b:=by
  unfold rightN
  rw [c_dvd_mod,c_add,c_dvd_mod,c_mul,c_dvd_mod,c_add,c_dvd_mod,c_mul]
  grind -lia
theorem right_lt (a b x:Nat):rightN p a b x<p:=Nat.mod_lt _ pos_p
def onB (p a b X Y:Nat) (i:Bool):Bool:=if i = true then decide (X = 0) && decide (Y = 0) else decide (X<p) && (decide (Y<p) && decide (Y*Y%p = rightN p a b X))
theorem onB_pt {a b X Y:Nat} {i:Bool} (h:onB p a b X Y i = true):∃ P:Pt p,On (c p a) (c p b) P∧xv P = X∧yv P = Y∧iv P = i:=by
  unfold onB at h
  cases i with
  | true =>
    simp only [if_true,Bool.and_eq_true,decide_eq_true_eq] at h
    exact ⟨.inf,trivial,h.1.symm,h.2.symm,rfl⟩
  | false =>
    simp only [Bool.false_eq_true,if_false,Bool.and_eq_true,decide_eq_true_eq] at h
    refine ⟨.aff (c p X) (c p Y),?_,val_c h.1,val_c h.2.1,rfl⟩
    have h1:=congrArg (c p) h.2.2
    rw [c_dvd_mod,c_mul,c_right] at h1
    show c p Y*c p Y-_ = 0
    exact sub_of_eq h1
theorem onB_on {a b:Nat} {P:Pt p} (h:On (c p a) (c p b) P):onB p a b (xv P) (yv P) (iv P) = true:=by
  unfold onB
  cases P with
  | inf=>rfl
  | aff x y =>
    have h1:y*y-(x*x*x+c p a*x+c p b) = 0:=h
    simp only [iv,Bool.false_eq_true,if_false,Bool.and_eq_true,decide_eq_true_eq]
    refine ⟨x.isLt,y.isLt,c_inj (Nat.mod_lt _ pos_p) (right_lt _ _ _) ?_⟩
    rw [c_dvd_mod,c_mul,c_right]
    show c p y.val*c p y.val = c p x.val*c p x.val*c p x.val+c p a*c p x.val+c p b
    rw [c_of_val,c_of_val]
    exact eq_of_sub h1
def lineX (p L x1 x2:Nat):Nat:=lessM (lessM (L*L%p) x1 p) x2 p
def lineY (p L x1 y1 X:Nat):Nat:=lessM (L*lessM x1 X p%p) y1 p
theorem lineX_lt {L x1 x2:Nat} (h1:x1<p) (h2:x2<p):lineX p L x1 x2<p:=lessM_lt (lessM_lt (Nat.mod_lt _ pos_p) h1) h2
theorem lineY_lt {L x1 y1 X:Nat} (h1:y1<p):lineY p L x1 y1 X<p:=lessM_lt (Nat.mod_lt _ pos_p) h1
theorem c_lineX {L x1 x2:Nat} (h1:x1<p) (h2:x2<p):c p (lineX p L x1 x2) = c p L*c p L-c p x1-c p x2:=by
  unfold lineX
  rw [c_less (lessM_lt (Nat.mod_lt _ pos_p) h1) h2,c_less (Nat.mod_lt _ pos_p) h1,c_dvd_mod,c_mul]
theorem c_lineY {L x1 y1 X:Nat} (h1:x1<p) (h2:X<p) (h3:y1<p):c p (lineY p L x1 y1 X) = c p L*(c p x1-c p X)-c p y1:=by
  unfold lineY
  rw [c_less (Nat.mod_lt _ pos_p) h3,c_dvd_mod,c_mul,c_less h1 h2]
theorem c_quot {under over:Nat} (hp:Pr p) (h0:under<p) (hu:under≠0):c p (over*invM under p%p)*c p under = c p over:=by
  have hg:Nat.gcd under p = 1:=hp.cop (fun hd=>hu (Nat.eq_zero_of_dvd_of_lt hd h0))
  obtain ⟨s,hs,h1⟩:=inv_mod hg (show 1<p from hp.1)
  have hi:=invM_eq hs h1
  rw [hi,c_dvd_mod,c_mul]
  have h2:c p under*c p s = 1:=by
    rw [← c_mul,← c_dvd_mod,h1]; rfl
  have h3:c p over*c p s*c p under-c p over*(c p under*c p s) = 0:=by grind -lia
  have h4:=eq_of_sub h3
  rw [h4,h2]
  grind -lia
def chordO (p y1 y2:Nat):Nat:=lessM y2 y1 p
def chordU (p x1 x2:Nat):Nat:=lessM x2 x1 p
def tangO (p a x:Nat):Nat:=((x*x%p+(x*x%p+x*x%p)%p)%p+a)%p
def tangU (p y:Nat):Nat:=(y+y)%p
theorem add_opp {a:Fin p} {x1 y1 x2 y2:Fin p} {b:Fin p} (h:Fld p) (h1:On a b (.aff x1 y1)) (h2:On a b (.aff x2 y2)) (hx:x1 = x2) (hy:y1≠y2):padd a (.aff x1 y1) (.aff x2 y2) = .inf:=by
  refine padd_eq h h1 h2 (.opp ⟨sub_of_eq hx,?_⟩)
  subst hx
  have e1:y1*y1-(x1*x1*x1+a*x1+b) = 0:=h1
  have e2:y2*y2-(x1*x1*x1+a*x1+b) = 0:=h2
  have e3:(y1+y2)*(y1-y2) = 0:=by
    have:(y1+y2)*(y1-y2) = (y1*y1-(x1*x1*x1+a*x1+b))-(y2*y2-(x1*x1*x1+a*x1+b)):=by clear e1 e2 h1 h2; grind -lia
    rw [this,e1,e2]; grind -lia
  rcases h.dom _ _ e3 with e|e
  · exact e
  · exact absurd (eq_of_sub e) hy
theorem add_line {a b : Fin p} {x1 y1 x2 y2 L : Nat} (h : Fld p) (hx1 : x1 < p) (hy1 : y1 < p) (hx2 : x2 < p) (h1 : On a b (.aff (c p x1) (c p y1))) (h2 : On a b (.aff (c p x2) (c p y2)))
    (hn:¬ Opp (c p x1) (c p y1) (c p x2) (c p y2)) (hs:Slope a (c p x1) (c p y1) (c p x2) (c p y2) (c p L)) :
    padd a (.aff (c p x1) (c p y1)) (.aff (c p x2) (c p y2)) = .aff (c p (lineX p L x1 x2)) (c p (lineY p L x1 y1 (lineX p L x1 x2))):=by
  refine padd_eq h h1 h2 (.line (c p L) _ _ hn hs ?_ ?_)
  · rw [c_lineX hx1 hx2]; exact sub_of_eq rfl
  · rw [c_lineY hx1 (lineX_lt hx1 hx2) hy1]; exact sub_of_eq rfl
theorem add_chord {a b : Fin p} {x1 y1 x2 y2 : Nat} (hp : Pr p) (h : Fld p) (hx1 : x1 < p) (hy1 : y1 < p) (hx2 : x2 < p) (hy2 : y2 < p) (h1 : On a b (.aff (c p x1) (c p y1))) (h2 : On a b (.aff (c p x2) (c p y2))) (hne : x1 ≠ x2) :
    padd a (.aff (c p x1) (c p y1)) (.aff (c p x2) (c p y2)) = .aff (c p (lineX p (chordO p y1 y2*invM (chordU p x1 x2) p%p) x1 x2)) (c p (lineY p (chordO p y1 y2*invM (chordU p x1 x2) p%p) x1 y1 (lineX p (chordO p y1 y2*invM (chordU p x1 x2) p%p) x1 x2))):=by
  have hu0:chordU p x1 x2≠0:=by unfold chordU lessM; split <;> omega
  have hq:=c_quot (under:=chordU p x1 x2) (over:=chordO p y1 y2) hp (lessM_lt hx2 hx1) hu0
  have e1:c p (chordU p x1 x2) = c p x2-c p x1:=c_less hx2 hx1
  have e2:c p (chordO p y1 y2) = c p y2-c p y1:=c_less hy2 hy1
  rw [e1,e2] at hq
  generalize chordO p y1 y2*invM (chordU p x1 x2) p%p = L at *
  have hcx:c p x1≠c p x2:=fun e=>hne (c_inj hx1 hx2 e)
  have hd:c p x1-c p x2≠0:=fun e=>hcx (eq_of_sub e)
  refine add_line h hx1 hy1 hx2 h1 h2 (fun ho=>hd ho.1) ?_
  have k1:c p y1*c p y1-(c p x1*c p x1*c p x1+a*c p x1+b) = 0:=h1
  have k2:c p y2*c p y2-(c p x2*c p x2*c p x2+a*c p x2+b) = 0:=h2
  generalize c p x1 = X1 at *
  generalize c p x2 = X2 at *
  generalize c p y1 = Y1 at *
  generalize c p y2 = Y2 at *
  generalize c p L = l at *
  have hc:l*(X1-X2)-(Y1-Y2) = 0:=by
    have hq':=sub_of_eq hq
    exact lin1 (c1:=-1) (by clear hq k1 k2 h1 h2; grind -lia) hq'
  refine ⟨hc,?_⟩
  refine h.dom _ _ ?_ |>.resolve_left hd
  exact lin3 (c1:=Y1+Y2) (c2:=1) (c3:=-1) (by clear hq hc k1 k2 h1 h2; grind -lia) hc k1 k2
theorem add_tang {b : Fin p} {a x1 y1 : Nat} (hp : Pr p) (h : Fld p) (hx1 : x1 < p) (hy1 : y1 < p) (h1 : On (c p a) b (.aff (c p x1) (c p y1))) (hy0 : c p y1 ≠ 0) :
    padd (c p a) (.aff (c p x1) (c p y1)) (.aff (c p x1) (c p y1)) = .aff (c p (lineX p (tangO p a x1*invM (tangU p y1) p%p) x1 x1)) (c p (lineY p (tangO p a x1*invM (tangU p y1) p%p) x1 y1 (lineX p (tangO p a x1*invM (tangU p y1) p%p) x1 x1))):=by
  have e1:c p (tangU p y1) = c p y1+c p y1:=by unfold tangU; rw [c_dvd_mod,c_add]
  have e2:c p (tangO p a x1) = c p x1*c p x1+c p x1*c p x1+c p x1*c p x1+c p a:=by
    unfold tangO
    rw [c_dvd_mod,c_add,c_dvd_mod,c_add,c_dvd_mod,c_mul,c_dvd_mod,c_add,c_dvd_mod,c_mul]
    grind -lia
  have hu0:tangU p y1≠0:=fun e=>hy0 (h.two _ (by rw [← e1,e]; rfl))
  have hq:=c_quot (under:=tangU p y1) (over:=tangO p a x1) hp (Nat.mod_lt _ pos_p) hu0
  rw [e1,e2] at hq
  generalize tangO p a x1*invM (tangU p y1) p%p = L at *
  refine add_line h hx1 hy1 hx1 h1 h1 (fun ho=>hy0 (h.two _ ho.2)) ⟨?_,?_⟩
  · clear hq h1; grind -lia
  · have hq':=sub_of_eq hq
    exact lin1 (c1:=1) (by clear hq h1; grind -lia) hq'
theorem pmul_bit {a b:Fin p} (h:Crv a b) {P:Pt p} (hP:On a b P) (K i:Nat):(if K/2^i%2 = 1 then padd a (padd a (pmul a P (K/2^(i+1))) (pmul a P (K/2^(i+1)))) P else padd a (pmul a P (K/2^(i+1))) (pmul a P (K/2^(i+1)))) = pmul a P (K/2^i):=by
  have h1:K/2^i = K/2^(i+1)+K/2^(i+1)+K/2^i%2:=by
    rw [Nat.pow_succ,← Nat.div_div_eq_div_mul]; omega
  have h2:=Nat.mod_two_eq_zero_or_one (K/2^i)
  rw [← pmul_add h hP]
  rcases h2 with h2|h2
  · rw [h2] at h1 ⊢
    rw [if_neg (by decide)]
    exact congrArg (pmul a P) h1.symm
  · rw [h2] at h1 ⊢
    rw [if_pos rfl]
    exact congrArg (pmul a P) h1.symm
end
section
variable {V:Cv}
theorem Cv.Ok.crv (h:V.Ok):Crv V.A V.B:=⟨h.fld,h.good.fine.sing⟩
theorem Cv.Ok.sum (h:V.Ok) {P Q:Pt V.p} (hP:On V.A V.B P) (hQ:On V.A V.B Q):On V.A V.B (padd V.A P Q):=padd_on h.fld hP hQ
theorem Cv.Ok.mul (h:V.Ok) {P:Pt V.p} (hP:On V.A V.B P) (k:Nat):On V.A V.B (pmul V.A P k):=pmul_on h.fld hP k
end
end Go.Proofs.Ytlmiolnccgjjjaa
set_option linter.unusedVariables false
set_option linter.unusedSectionVars false
namespace Go.Proofs.Ytlmiolnccgjjjaa
open Grp
section
variable {p:Nat} [NeZero p]
theorem fin_subv (x y:Fin p):(x-y).val = (x.val+p-y.val)%p:=by
  rw [Fin.sub_def]
  show (p-y.val+x.val)%p = _
  have:=y.isLt
  rw [show p-y.val+x.val = x.val+p-y.val by omega]
theorem fin_one (h:1<p):(1:Fin p).val = 1:=by
  have:(1:Fin p).val = 1%p:=rfl
  rw [this,Nat.mod_eq_of_lt h]
theorem fin_ne {x y:Fin p} (h:x.val≠y.val):x≠y:=fun e=>h (congrArg Fin.val e)
noncomputable def finv (x:Fin p):Fin p:=c p (invM x.val p)
theorem finv_val (x:Fin p):(finv x).val = invM x.val p:=val_c (invM_lt pos_p)
theorem finv_mul (hp:Pr p) {x:Fin p} (hx:x≠0):x*finv x = 1:=by
  have h1:=c_quot (under:=x.val) (over:=1) hp x.isLt (fun e=>hx (Fin.ext e))
  rw [c_of_val,Nat.one_mul,c_dvd_mod,c_one] at h1
  show x*c p (invM x.val p) = 1
  rw [← h1]; grind -lia
noncomputable def plainP (X Y Z:Fin p):Pt p:=open Classical in if Z = 0 then .inf else .aff (X*finv Z) (Y*finv Z)
theorem plain_inf (X Y:Fin p):plainP X Y 0 = .inf:=if_pos rfl
theorem plain_aff {X Y Z:Fin p} (h:Z≠0):plainP X Y Z = .aff (X*finv Z) (Y*finv Z):=if_neg h
theorem Rep.plain {X Y Z:Fin p} {P:Pt p} (hp:Pr p) (h:Rep X Y Z P):plainP X Y Z = P:=by
  cases h with
  | inf h=>exact plain_inf _ _
  | aff x y h =>
    rw [plain_aff h]
    have hi:=finv_mul hp h
    generalize finv Z = i at *
    have e1:x*Z*i-x = 0:=lin1 (c1:=x) (by clear hi; grind -lia) (sub_of_eq hi)
    have e2:y*Z*i-y = 0:=lin1 (c1:=y) (by clear hi; grind -lia) (sub_of_eq hi)
    rw [eq_of_sub e1,eq_of_sub e2]
def HasF (a b X Y Z:Fin p):Prop:=¬ (X = 0∧Y = 0∧Z = 0)∧Y*Y*Z = (X*X+a*(Z*Z))*X+b*(Z*Z*Z)
theorem Rep.has {a b X Y Z:Fin p} {P:Pt p} (h:Rep X Y Z P) (hP:On a b P):HasF a b X Y Z:=by
  cases h with
  | inf h=>exact ⟨fun e=>h e.2.1,by clear h; grind -lia⟩
  | aff x y h =>
    refine ⟨fun e=>h e.2.2,eq_of_sub ?_⟩
    have k:y*y-(x*x*x+a*x+b) = 0:=hP
    exact lin1 (c1:=Z*Z*Z) (by clear k hP h; grind -lia) k
theorem HasF.zero {a b X Y:Fin p} (h:Fld p) (hf:HasF a b X Y 0):X = 0∧Y≠0:=by
  have e:X*(X*X) = 0:=by
    have:=sub_of_eq hf.2
    exact lin1 (c1:=-1) (by clear hf; grind -lia) this
  have hX:X = 0:=by
    rcases h.dom _ _ e with e|e
    · exact e
    · rcases h.dom _ _ e with e|e <;> exact e
  exact ⟨hX,fun e=>hf.1 ⟨hX,e,rfl⟩⟩
theorem HasF.rep {a b X Y Z:Fin p} (hp:Pr p) (h:Fld p) (hf:HasF a b X Y Z):Rep X Y Z (plainP X Y Z)∧On a b (plainP X Y Z):=by
  by_cases hz:Z = 0
  · subst hz
    obtain ⟨hX,hY⟩:=hf.zero h
    subst hX
    rw [plain_inf]
    exact ⟨.inf hY,trivial⟩
  · rw [plain_aff hz]
    have hi:=finv_mul hp hz
    generalize finv Z = i at *
    constructor
    · have e1:X*i*Z-X = 0:=lin1 (c1:=X) (by clear hi hf; grind -lia) (sub_of_eq hi)
      have e2:Y*i*Z-Y = 0:=lin1 (c1:=Y) (by clear hi hf; grind -lia) (sub_of_eq hi)
      have:=Rep.aff (Z:=Z) (X*i) (Y*i) hz
      rwa [eq_of_sub e1,eq_of_sub e2] at this
    · have e:=sub_of_eq hf.2
      have hi':=sub_of_eq hi
      clear hf hi
      have ez:Z = Z*Z*i:=by
        refine eq_of_sub (lin1 (c1:=-Z) ?_ hi'); clear hi' e; grind -lia
      have k:(Y*i*(Y*i)-(X*i*(X*i)*(X*i)+a*(X*i)+b))*(Z*(Z*Z)) = 0:=by
        have key:(Y*i*(Y*i)-(X*i*(X*i)*(X*i)+a*(X*i)+b))*(Z*(Z*Z)) = (Z*i)*(Z*i)*Z*(Y*Y)-((Z*i)*(Z*i)*(Z*i)*(X*X*X)+a*((Z*i)*X*(Z*Z))+b*(Z*(Z*Z))):=by clear e hi' ez; grind -lia
        have hi:Z*i = 1:=eq_of_sub hi'
        rw [key,hi]
        refine lin1 (c1:=1) ?_ e
        clear e hi' ez key hi; grind -lia
      have hz3:Z*(Z*Z)≠0:=h.dom.mul hz (h.dom.mul hz hz)
      exact (h.dom _ _ k).resolve_right hz3
end
section
variable {V:Cv}
theorem Cv.Ok.A_val (h:V.Ok) (hb:V.a<V.p):V.A.val = V.a:=val_c hb
theorem Cv.Ok.B_val (h:V.Ok) (hb:V.b<V.p):V.B.val = V.b:=val_c hb
theorem Cv.Ok.rep_sum (h : V.Ok) {X1 Y1 Z1 X2 Y2 Z2 : Fin V.p} {P Q : Pt V.p} (hP : Rep X1 Y1 Z1 P) (hQ : Rep X2 Y2 Z2 Q) (oP : On V.A V.B P) (oQ : On V.A V.B Q) :
    Rep (sum3 V.A (V.B+V.B+V.B) X1 Y1 Z1 X2 Y2 Z2).1 (sum3 V.A (V.B+V.B+V.B) X1 Y1 Z1 X2 Y2 Z2).2.1 (sum3 V.A (V.B+V.B+V.B) X1 Y1 Z1 X2 Y2 Z2).2.2 (padd V.A P Q) :=
  Rep.sum h.good hP hQ oP oQ (padd_spec h.fld oP oQ)
def tripF {p:Nat} [NeZero p]:Pt p→Fin p×Fin p×Fin p
  | .inf=>(0,1,0)
  | .aff x y=>(x,y,1)
theorem Cv.Ok.one_ne (h:V.Ok):(1:Fin V.p)≠0:=Grp.one_ne h.prime.1
theorem Cv.Ok.rep_trip (h:V.Ok) (P:Pt V.p):Rep (tripF P).1 (tripF P).2.1 (tripF P).2.2 P:=by
  cases P with
  | inf=>exact .inf h.one_ne
  | aff x y =>
    have:=Rep.aff (Z:=(1:Fin V.p)) x y h.one_ne
    have e1:x*1 = x:=by grind -lia
    have e2:y*1 = y:=by grind -lia
    rw [e1,e2] at this
    exact this
theorem Cv.Ok.swap (h:V.Ok) {A B C D:Pt V.p} (hA:On V.A V.B A) (hB:On V.A V.B B) (hC:On V.A V.B C) (hD:On V.A V.B D):padd V.A (padd V.A A B) (padd V.A C D) = padd V.A (padd V.A A C) (padd V.A B D):=by
  rw [padd_assoc h.crv hA hB (h.sum hC hD),← padd_assoc h.crv hB hC hD,padd_comm h.fld hB hC,padd_assoc h.crv hC hB hD,← padd_assoc h.crv hA hC (h.sum hB hD)]
theorem Cv.Ok.add_inf (h:V.Ok) {A:Pt V.p} (hA:On V.A V.B A):padd V.A A .inf = A:=padd_inf h.fld hA
theorem Cv.Ok.inf_add (h:V.Ok) {A:Pt V.p} (hA:On V.A V.B A):padd V.A .inf A = A:=inf_padd h.fld hA
end
end Go.Proofs.Ytlmiolnccgjjjaa
set_option linter.unusedVariables false
set_option linter.unusedSimpArgs false
set_option maxRecDepth 20000
namespace Go.Proofs.Ytlmiolnccgjjjaa
open Go Go.RowKit
def hexD (b:Nat):Nat:=if 97≤b then b-87 else b-48
def hexOK (l:List UInt8):Bool:=l.all fun b=>(Nat.ble 48 b.toNat && Nat.ble b.toNat 57) || (Nat.ble 97 b.toNat && Nat.ble b.toNat 102)
def hexVal:List UInt8→Nat
  | []=>0
  | b :: l=>hexD b.toNat*16^l.length+hexVal l
theorem hexOK_get {l:List UInt8} (h:hexOK l = true) {x:Nat} (hx:x<l.length):(48≤(l.getD x 0).toNat∧(l.getD x 0).toNat≤57)∨(97≤(l.getD x 0).toNat∧(l.getD x 0).toNat≤102):=by
  have e:l.getD x 0 = l[x]:=by rw [List.getD_eq_getElem?_getD,List.getElem?_eq_getElem hx]; rfl
  have h1:=List.all_eq_true.1 h l[x] (List.getElem_mem hx)
  rw [e]
  simp only [Bool.or_eq_true,Bool.and_eq_true,Nat.ble_eq] at h1
  exact h1
theorem hexD_lt {l:List UInt8} (h:hexOK l = true) {x:Nat} (hx:x<l.length):hexD (l.getD x 0).toNat<2^4:=by
  have:=hexOK_get h hx
  unfold hexD
  split <;> omega
theorem hexVal_lt:∀ {l:List UInt8},hexOK l = true→hexVal l<16^l.length
  | [],_=>by simp [hexVal]
  | b :: l,h=>by
    have h1:=hexD_lt (l:=b :: l) h (x:=0) (by simp)
    have h2:hexOK l = true:=by
      simp only [hexOK,List.all_cons,Bool.and_eq_true] at h
      exact h.2
    have h3:=hexVal_lt h2
    simp only [List.getD_cons_zero] at h1
    have h4:=Nat.mul_le_mul_right (16^l.length) (show hexD b.toNat+1≤16 from h1)
    simp only [hexVal,List.length_cons,Nat.pow_succ]
    rw [Nat.add_mul] at h4
    omega
theorem hexVal_append:∀ l m:List UInt8,hexVal (l++m) = hexVal l*16^m.length+hexVal m
  | [],m=>by simp [hexVal]
  | b :: l,m=>by simp only [List.cons_append,hexVal,hexVal_append l m,List.length_append,Nat.pow_add,Nat.add_mul,Nat.mul_assoc]; omega
theorem hexOK_take {l:List UInt8} (h:hexOK l = true) (x:Nat):hexOK (l.take x) = true:=by
  simp only [hexOK,List.all_eq_true] at h ⊢
  exact fun b hb=>h b (List.mem_of_mem_take hb)
theorem hexOK_drop {l:List UInt8} (h:hexOK l = true) (x:Nat):hexOK (l.drop x) = true:=by
  simp only [hexOK,List.all_eq_true] at h ⊢
  exact fun b hb=>h b (List.mem_of_mem_drop hb)
theorem pow16 (i:Nat):16^i = 2^(4*i):=by rw [Nat.pow_mul]
def hexTop (l:List UInt8) (x:Nat):Nat:=hexVal (l.take x)*16^(l.length-x)
theorem hexTop_zero (l:List UInt8):hexTop l 0 = 0:=by simp [hexTop,hexVal]
theorem hexTop_all (l:List UInt8):hexTop l l.length = hexVal l:=by simp [hexTop]
theorem hexTop_succ {l:List UInt8} {x:Nat} (h:x<l.length):hexTop l (x+1) = hexTop l x+hexD (l.getD x 0).toNat*2^(4*(8*((l.length-1-x)/8)+(l.length-1-x)%8))∧hexTop l x%2^(4*(8*((l.length-1-x)/8)+(l.length-1-x)%8+1)) = 0:=by
  rw [show 8*((l.length-1-x)/8)+(l.length-1-x)%8 = l.length-1-x by omega,← pow16,← pow16,show l.length-1-x+1 = l.length-x by omega]
  unfold hexTop
  refine ⟨?_,Nat.mul_mod_left _ _⟩
  have e:l.getD x 0 = l[x]:=by rw [List.getD_eq_getElem?_getD,List.getElem?_eq_getElem h]; rfl
  rw [List.take_succ_eq_append_getElem h,hexVal_append,e,show l.length-(x+1) = l.length-1-x by omega,Nat.add_mul,Nat.mul_assoc]
  simp only [List.length_singleton,hexVal,List.length_nil,Nat.pow_zero,Nat.mul_one,Nat.add_zero,Nat.pow_one]
  congr 2
  rw [Nat.mul_comm 16,← Nat.pow_succ,show (l.length-1-x).succ = l.length-x by omega]
theorem hexTop_lt {l:List UInt8} (hok:hexOK l = true) (x:Nat) (h:x≤l.length):hexTop l x<2^(32*(l.length/8+1)):=by
  have h1:=hexVal_lt (hexOK_take hok x)
  rw [List.length_take,Nat.min_eq_left h] at h1
  have h2:hexTop l x<16^x*16^(l.length-x):=Nat.mul_lt_mul_of_pos_right h1 (Nat.pow_pos (by decide))
  rw [← Nat.pow_add,show x+(l.length-x) = l.length by omega,pow16] at h2
  exact Nat.lt_of_lt_of_le h2 (Nat.pow_le_pow_right (by decide) (by omega))
theorem br_sub8 {a b:Nat} (h:b≤a) (ha:a<256):Kw .sub .u8 a .u8 b = some (.int .u8 ((a-b:Nat):Int)):=by
  simp only [Kw,if_true,wrap_u8]
  congr 2
  omega
theorem br_add32 {a b:Nat} (h:a+b<4294967296):Kw .add .u32 a .u32 b = some (.int .u32 ((a+b:Nat):Int)):=by
  simp only [Kw,if_true,wrap_u32]
  congr 2
  omega
theorem c_r_digit (b:Nat) (w:World) (h48:48≤b) (hb:b<256):Calls Try.prog 110 ([.int .u8 ((b:Nat):Int)]:List Value).toArray w (fun e w'=>e = .returned (.int .u32 ((hexD b:Nat):Int))∧Below w.heap.size w w'):=by
  refine Ki (N:=12) (rs:=[.tmp 2]) [] Try.func110 rfl Try.ntmps110 Try.results110 (Nb rfl) trivial rfl ?_
  show LCode _ _ _ ⟨_,_⟩ _
  refine KB (KA ?_)
  refine oP (KZ (v:=.int .u32 ((0:Nat):Int)) rfl) ?_
  refine KC ?_
  refine KB ?_
  refine KB (KA ?_)
  refine oM ?_
  refine oP (KF rfl rfl (br_geq (b:=97))) ?_
  refine KC ?_
  first|refine KS rfl (fun h4=>?_) (fun h4=>?_)|refine KU rfl (fun h4=>?_) (fun h4=>?_)
  ·
    have h4:97≤b:=by have:=h4; omega
    refine KB (KA ?_)
    refine oM ?_
    refine oP (KF (v:=.int .u8 ((b-97:Nat):Int)) rfl rfl (br_sub8 (a:=b) (b:=97) h4 hb)) ?_
    refine oP (KAP Try.underlying5 Try.underlying67 rfl) ?_
    refine oP (KF (v:=.int .u32 (((b-97)%4294967296+10:Nat):Int)) rfl rfl (br_add32 (a:=(b-97)%4294967296) (b:=10) (by omega))) ?_
    refine oA ?_
    refine KC (KM ?_)
    refine ⟨[_],.cons rfl .nil,fun a w' hr=>⟨?_,hr.fr.below⟩⟩
    unfold hexD
    rw [if_pos h4,Nat.mod_eq_of_lt (by omega),show b-97+10 = b-87 by omega]
    rfl
  ·
    have h4:¬ 97≤b:=by have:=h4; omega
    refine KT ?_
    refine KB (KA ?_)
    refine oM ?_
    refine oP (KF (v:=.int .u8 ((b-48:Nat):Int)) rfl rfl (br_sub8 (a:=b) (b:=48) h48 hb)) ?_
    refine oP (KAP Try.underlying5 Try.underlying67 rfl) ?_
    refine oA ?_
    refine KC (KM ?_)
    refine ⟨[_],.cons rfl .nil,fun a w' hr=>⟨?_,hr.fr.below⟩⟩
    unfold hexD
    rw [if_neg h4,Nat.mod_eq_of_lt (by omega)]
    rfl
theorem c_r_Hex (s:ByteArray) (w:World) (hok:hexOK s.data.toList = true) (hs:s.size≤100000):Calls Try.prog 79 ([.string s]:List Value).toArray w (fun e w'=>NumR w ([]) (hexVal s.data.toList) (fun v=>v) e w'):=by
  have hbv:hexVal s.data.toList<2^(32*(s.size/8+1)):=by have:=hexTop_lt hok s.data.toList.length (Nat.le_refl _); rwa [hexTop_all] at this
  refine Ki (N:=42) (rs:=[.tmp 2]) [] Try.func79 rfl Try.ntmps79 Try.results79 (Nb rfl) trivial rfl ?_
  show LCode _ _ _ ⟨_,_⟩ _
  refine KB (KA ?_)
  refine oA ?_
  refine KC ?_
  refine KB (KA ?_)
  refine oM ?_
  refine oP (Det.lens Try.underlying9 rfl) ?_
  refine oP (KF rfl rfl (br_quo (b:=8) (by omega) (by omega))) ?_
  refine oP (KF rfl rfl (Kv (b:=1) (by omega))) ?_
  refine oS (mk (Makes.mkV Try.underlying24 inf_67 rfl rfl (by omega) (by omega)) (fun b10=>?_))
  refine oA ?_
  refine KC ?_
  refine KB ?_
  refine KB (KA ?_)
  refine oP (KZ (v:=.int .i64 ((0:Nat):Int)) rfl) ?_
  refine KC ?_
  refine LCode.block ?_
  refine Ks (α:=Nat) (fun x=>x≤s.size) (fun x=>⟨[(0,.string s),(3,.slice (some ⟨b10,0,none⟩) (s.size/8+1) (s.size/8+1)),(4,.int .i64 ((x:Nat):Int))],[.blk b10 ⟨true,vec .u32 (s.size/8+1) (D.limb (hexTop s.data.toList (x))),67,(0,0)⟩]⟩) (fun x=>s.size-x) (0) (Nat.zero_le _) (KAO (Sub.cells (b:=b10) (cs':=vec .u32 (s.size/8+1) (D.limb (hexTop s.data.toList (0)))) (by repeat (first|exact Sh _|apply St_)) (KAA fun j hj=>by rw [hexTop_zero,D.limb_zero])) (Kq ⟨rfl,rfl,rfl,trivial⟩ (by repeat (first|exact Sel.nil _|refine Sel.cons (by repeat (first|exact Ph _|apply Pt_)) ?_)))) ?_
  intro x hx
  refine KB ?_
  refine KB (KA ?_)
  refine oM ?_
  refine oM ?_
  refine oP (Det.lens Try.underlying9 rfl) ?_
  refine oP (KF rfl rfl (KAT)) ?_
  refine KC ?_
  first|refine KS rfl (fun h14=>?_) (fun h14=>?_)|refine KU rfl (fun h14=>?_) (fun h14=>?_)
  ·
    have h14:x<s.size:=h14
    refine KT ?_
    refine KB ?_
    refine LCode.block ?_
    refine KB (KA ?_)
    refine oM ?_
    refine oP (Det.lens Try.underlying9 rfl) ?_
    refine oP (KF rfl rfl (br_sub (b:=1) (by omega) (by omega))) ?_
    refine oM ?_
    refine oP (KF rfl rfl (br_sub (by omega) (by omega))) ?_
    refine oA ?_
    refine KC ?_
    have hdg:=hexOK_get hok (x:=x) (by show x<s.size; exact h14)
    have hy:=hexD_lt hok (x:=x) (by show x<s.size; exact h14)
    have hsl:s.data.toList.length = s.size:=rfl
    have hbt:=hexTop_succ (l:=s.data.toList) (x:=x) (by rw [hsl]; exact h14)
    rw [hsl] at hbt
    have hlb:=D.limb_below (V:=hexTop s.data.toList (x)) (y:=hexD (s.data.toList.getD x 0).toNat) (s:=4) (w:=8) (i:=(s.size-1-x)/8) (k:=(s.size-1-x)%8) rfl (Nat.mod_lt _ (by decide)) hbt.2 hy
    refine rD [18] ?_
    refine aM 0 ?_
    refine aM 1 ?_
    refine aP 2 rfl (KF rfl rfl (br_quo (b:=8) (by omega) (by omega))) ?_
    refine aM 3 ?_
    refine aM 4 ?_
    refine aP 5 rfl (KF rfl rfl (br_quo (b:=8) (by omega) (by omega))) ?_
    refine aP 6 rfl (Ko Try.underlying24 sz_67 rfl rfl (by omega)) ?_
    refine aD 7 rfl (dL rfl (hv:=KL Try.underlying67 rfl (by exact Ke _ _ _ (show (s.size-1-x)/8<s.size/8+1 by omega)))) ?_
    refine aM 8 ?_
    refine aM 9 ?_
    refine aP 10 rfl (KK (Det.indexStr Try.underlying9 rfl rfl (by omega) (by omega)) (vi (b:=(s.data.toList.getD x 0).toNat) (by rw [Int.toNat_natCast]))) ?_
    refine aM 12 ?_
    refine aP 13 rfl (KF rfl rfl (br_rem (b:=8) (by omega))) ?_
    refine aP 14 rfl (KF rfl rfl (br_mul (b:=4) (by omega))) ?_
    refine aO 11 rfl (cF rfl en_110 rfl (fun w hw=>c_r_digit _ w (by omega) (by omega)) ?_)
    refine aP 15 rfl (KF rfl rfl (br_shl32)) ?_
    refine aP 16 rfl (KF rfl rfl (br_or32 (D.limb_lt _ _) (Nat.mod_lt _ (by decide)))) ?_
    refine aP 17 rfl (Ko Try.underlying24 sz_67 rfl rfl (by omega)) ?_
    refine aL 18 rfl (Kj rfl rfl rfl sz_67 (by repeat (first|exact Sh _|apply St_)) (by first|(simp only [KH,KD,KE,Kt]; omega)|(simp; done)|(simp; omega)) (by first|exact KAH _ _ _ _ _|exact KAJ _ _ _ _ (by omega)|exact KAI _ _ _ _|rfl) (by simp) ?_)
    refine aE ?_
    refine KA ?_
    refine oM ?_
    refine oP (KF rfl rfl (Kv (b:=1) (by omega))) ?_
    refine oA ?_
    refine KC ?_
    refine ⟨x+1,by omega,by omega,KAO (Sub.cells (b:=b10) (cs':=vec .u32 (s.size/8+1) (D.limb (hexTop s.data.toList (x+1)))) (by repeat (first|exact Sh _|apply St_)) (KAA fun j hj=>?_)) (Kq ⟨rfl,rfl,rfl,trivial⟩ (by repeat (first|exact Sel.nil _|refine Sel.cons (by repeat (first|exact Ph _|apply Pt_)) ?_)))⟩
    rw [hbt.1,hlb.2 j,show (s.size-1-x)%8*4 = 4*((s.size-1-x)%8) by omega]
  ·
    have h14:¬ x<s.size:=h14
    refine Kp ?_
    refine KB ?_
    obtain rfl:x = s.size:=by omega
    refine LCode.sub (Sub.cells (b:=b10) (cs':=vec .u32 (s.size/8+1) (D.limb (hexVal s.data.toList))) (by repeat (first|exact Sh _|apply St_)) (by rw [show s.size = s.data.toList.length from rfl,hexTop_all])) ?_
    refine KA ?_
    refine oM ?_
    refine oS (cZ rfl en_111 rfl (fun w hw hs=>(c_n_Shr ⟨false,b10,s.size/8+1⟩ (hexVal s.data.toList) (s.size/8+1) 0 w (numI_blk0 (mC hw) (Nat.le_refl _) hbv) (by omega) (by decide)).mono fun e w' h=>KAV (Old.nil _) hs h) ?_)
    rintro _ _ ⟨q41,rfl,rfl,hn41⟩
    refine oA ?_
    refine KC (KM ?_)
    refine ⟨[_],.cons rfl .nil,fun a w' hr=>?_⟩
    rw [Nat.pow_zero,Nat.div_one] at hn41 hr ⊢
    exact hr.numQ (by repeat (first|exact Mh _|apply Mt)) hn41
def cvI (id:Int):Option Cv:=if 0≤id then cvOf id.toNat else none
theorem cvI_none {id:Int} (h1:¬ id = 1) (h2:¬ id = 2) (h3:¬ id = 3) (h4:¬ id = 4) (h5:¬ id = 5) (h6:¬ id = 6) (h7:¬ id = 7) (h8:¬ id = 8) (h9:¬ id = 9) (h10:¬ id = 10) (h11:¬ id = 11) (h12:¬ id = 12) (h13:¬ id = 13) (h14:¬ id = 14) (h15:¬ id = 15):cvI id = none:=by
  unfold cvI
  split
  · exact cvOf_none (by omega)
  · rfl
def hexB (s:ByteArray) (n:Nat):Bool:=hexOK s.data.toList && Nat.beq (hexVal s.data.toList) n && Nat.ble s.data.toList.length 144
def rowB (V:Cv) (s0 s1 s2 s3 s4 s5:ByteArray):Bool:=hexB s0 V.p && (if s1.data.toList = [45] then Nat.beq (V.a+3) V.p else hexB s1 V.a) && hexB s2 V.b && hexB s3 V.n && hexB s4 V.x && hexB s5 V.y
theorem c_r_row (id:Int) (w:World)  : Calls Try.prog 78 ([.int .i64 id]:List Value).toArray w (fun e w'=>(∃ V,cvI id = some V∧∃ b s0 s1 s2 s3 s4 s5,e = .returned (.slice (some ⟨b,0,none⟩) 6 6)∧(Item.blk b ⟨false,[.string s0,.string s1,.string s2,.string s3,.string s4,.string s5],9,(0,0)⟩).holds w'∧w.heap.size≤b∧rowB V s0 s1 s2 s3 s4 s5 = true∧Below w.heap.size w w')∨(cvI id = none∧e = .returned (.slice none 0 0)∧Below w.heap.size w w')):=by
  refine Ki (N:=49) (rs:=[.tmp 2]) [] Try.func78 rfl Try.ntmps78 Try.results78 (Nb rfl) trivial rfl ?_
  show LCode _ _ _ ⟨_,_⟩ _
  refine KB (KA ?_)
  refine oA ?_
  refine KC ?_
  refine KB ?_
  refine KB (KA ?_)
  refine oM ?_
  refine KC ?_
  refine LCode.block ?_
  refine KB (KA ?_)
  refine oP (KF (v:=.bool (decide (id = 1))) rfl rfl KAN) ?_
  refine oA ?_
  refine KC ?_
  first|refine KS rfl (fun hk1=>?_) (fun hk1=>?_)|refine KU rfl (fun hk1=>?_) (fun hk1=>?_)
  ·
    refine KB (KA ?_)
    refine oS (mk (KAK Try.underlying107 inf_9 rfl rfl rfl rfl (by decide) rfl) (fun b6=>?_))
    refine oA ?_
    refine KC (KM ?_)
    refine ⟨[_],.cons rfl .nil,fun a w' hr=>.inl ⟨cv1,by rw [hk1]; rfl,b6,_,_,_,_,_,_,rfl,(show (Item.blk b6 ⟨true,_,_,_⟩).holds w' from hr.hp _ (by repeat (first|exact Mh _|apply Mt))),hr.new (B:=⟨true,_,_,_⟩) (by repeat (first|exact Mh _|apply Mt)) rfl,by kernel_rfl,hr.fr.below⟩⟩
  ·
    refine KB (KA ?_)
    refine oP (KF (v:=.bool (decide (id = 2))) rfl rfl KAN) ?_
    refine oA ?_
    refine KC ?_
    first|refine KS rfl (fun hk2=>?_) (fun hk2=>?_)|refine KU rfl (fun hk2=>?_) (fun hk2=>?_)
    ·
      refine KB (KA ?_)
      refine oS (mk (KAK Try.underlying107 inf_9 rfl rfl rfl rfl (by decide) rfl) (fun b9=>?_))
      refine oA ?_
      refine KC (KM ?_)
      refine ⟨[_],.cons rfl .nil,fun a w' hr=>.inl ⟨cv2,by rw [hk2]; rfl,b9,_,_,_,_,_,_,rfl,(show (Item.blk b9 ⟨true,_,_,_⟩).holds w' from hr.hp _ (by repeat (first|exact Mh _|apply Mt))),hr.new (B:=⟨true,_,_,_⟩) (by repeat (first|exact Mh _|apply Mt)) rfl,by kernel_rfl,hr.fr.below⟩⟩
    ·
      refine KB (KA ?_)
      refine oP (KF (v:=.bool (decide (id = 3))) rfl rfl KAN) ?_
      refine oA ?_
      refine KC ?_
      first|refine KS rfl (fun hk3=>?_) (fun hk3=>?_)|refine KU rfl (fun hk3=>?_) (fun hk3=>?_)
      ·
        refine KB (KA ?_)
        refine oS (mk (KAK Try.underlying107 inf_9 rfl rfl rfl rfl (by decide) rfl) (fun b12=>?_))
        refine oA ?_
        refine KC (KM ?_)
        refine ⟨[_],.cons rfl .nil,fun a w' hr=>.inl ⟨cv3,by rw [hk3]; rfl,b12,_,_,_,_,_,_,rfl,(show (Item.blk b12 ⟨true,_,_,_⟩).holds w' from hr.hp _ (by repeat (first|exact Mh _|apply Mt))),hr.new (B:=⟨true,_,_,_⟩) (by repeat (first|exact Mh _|apply Mt)) rfl,by kernel_rfl,hr.fr.below⟩⟩
      ·
        refine KB (KA ?_)
        refine oP (KF (v:=.bool (decide (id = 4))) rfl rfl KAN) ?_
        refine oA ?_
        refine KC ?_
        first|refine KS rfl (fun hk4=>?_) (fun hk4=>?_)|refine KU rfl (fun hk4=>?_) (fun hk4=>?_)
        ·
          refine KB (KA ?_)
          refine oS (mk (KAK Try.underlying107 inf_9 rfl rfl rfl rfl (by decide) rfl) (fun b15=>?_))
          refine oA ?_
          refine KC (KM ?_)
          refine ⟨[_],.cons rfl .nil,fun a w' hr=>.inl ⟨cv4,by rw [hk4]; rfl,b15,_,_,_,_,_,_,rfl,(show (Item.blk b15 ⟨true,_,_,_⟩).holds w' from hr.hp _ (by repeat (first|exact Mh _|apply Mt))),hr.new (B:=⟨true,_,_,_⟩) (by repeat (first|exact Mh _|apply Mt)) rfl,by kernel_rfl,hr.fr.below⟩⟩
        ·
          refine KB (KA ?_)
          refine oP (KF (v:=.bool (decide (id = 5))) rfl rfl KAN) ?_
          refine oA ?_
          refine KC ?_
          first|refine KS rfl (fun hk5=>?_) (fun hk5=>?_)|refine KU rfl (fun hk5=>?_) (fun hk5=>?_)
          ·
            refine KB (KA ?_)
            refine oS (mk (KAK Try.underlying107 inf_9 rfl rfl rfl rfl (by decide) rfl) (fun b18=>?_))
            refine oA ?_
            refine KC (KM ?_)
            refine ⟨[_],.cons rfl .nil,fun a w' hr=>.inl ⟨cv5,by rw [hk5]; rfl,b18,_,_,_,_,_,_,rfl,(show (Item.blk b18 ⟨true,_,_,_⟩).holds w' from hr.hp _ (by repeat (first|exact Mh _|apply Mt))),hr.new (B:=⟨true,_,_,_⟩) (by repeat (first|exact Mh _|apply Mt)) rfl,by kernel_rfl,hr.fr.below⟩⟩
          ·
            refine KB (KA ?_)
            refine oP (KF (v:=.bool (decide (id = 6))) rfl rfl KAN) ?_
            refine oA ?_
            refine KC ?_
            first|refine KS rfl (fun hk6=>?_) (fun hk6=>?_)|refine KU rfl (fun hk6=>?_) (fun hk6=>?_)
            ·
              refine KB (KA ?_)
              refine oS (mk (KAK Try.underlying107 inf_9 rfl rfl rfl rfl (by decide) rfl) (fun b21=>?_))
              refine oA ?_
              refine KC (KM ?_)
              refine ⟨[_],.cons rfl .nil,fun a w' hr=>.inl ⟨cv6,by rw [hk6]; rfl,b21,_,_,_,_,_,_,rfl,(show (Item.blk b21 ⟨true,_,_,_⟩).holds w' from hr.hp _ (by repeat (first|exact Mh _|apply Mt))),hr.new (B:=⟨true,_,_,_⟩) (by repeat (first|exact Mh _|apply Mt)) rfl,by kernel_rfl,hr.fr.below⟩⟩
            ·
              refine KB (KA ?_)
              refine oP (KF (v:=.bool (decide (id = 7))) rfl rfl KAN) ?_
              refine oA ?_
              refine KC ?_
              first|refine KS rfl (fun hk7=>?_) (fun hk7=>?_)|refine KU rfl (fun hk7=>?_) (fun hk7=>?_)
              ·
                refine KB (KA ?_)
                refine oS (mk (KAK Try.underlying107 inf_9 rfl rfl rfl rfl (by decide) rfl) (fun b24=>?_))
                refine oA ?_
                refine KC (KM ?_)
                refine ⟨[_],.cons rfl .nil,fun a w' hr=>.inl ⟨cv7,by rw [hk7]; rfl,b24,_,_,_,_,_,_,rfl,(show (Item.blk b24 ⟨true,_,_,_⟩).holds w' from hr.hp _ (by repeat (first|exact Mh _|apply Mt))),hr.new (B:=⟨true,_,_,_⟩) (by repeat (first|exact Mh _|apply Mt)) rfl,by kernel_rfl,hr.fr.below⟩⟩
              ·
                refine KB (KA ?_)
                refine oP (KF (v:=.bool (decide (id = 8))) rfl rfl KAN) ?_
                refine oA ?_
                refine KC ?_
                first|refine KS rfl (fun hk8=>?_) (fun hk8=>?_)|refine KU rfl (fun hk8=>?_) (fun hk8=>?_)
                ·
                  refine KB (KA ?_)
                  refine oS (mk (KAK Try.underlying107 inf_9 rfl rfl rfl rfl (by decide) rfl) (fun b27=>?_))
                  refine oA ?_
                  refine KC (KM ?_)
                  refine ⟨[_],.cons rfl .nil,fun a w' hr=>.inl ⟨cv8,by rw [hk8]; rfl,b27,_,_,_,_,_,_,rfl,(show (Item.blk b27 ⟨true,_,_,_⟩).holds w' from hr.hp _ (by repeat (first|exact Mh _|apply Mt))),hr.new (B:=⟨true,_,_,_⟩) (by repeat (first|exact Mh _|apply Mt)) rfl,by kernel_rfl,hr.fr.below⟩⟩
                ·
                  refine KB (KA ?_)
                  refine oP (KF (v:=.bool (decide (id = 9))) rfl rfl KAN) ?_
                  refine oA ?_
                  refine KC ?_
                  first|refine KS rfl (fun hk9=>?_) (fun hk9=>?_)|refine KU rfl (fun hk9=>?_) (fun hk9=>?_)
                  ·
                    refine KB (KA ?_)
                    refine oS (mk (KAK Try.underlying107 inf_9 rfl rfl rfl rfl (by decide) rfl) (fun b30=>?_))
                    refine oA ?_
                    refine KC (KM ?_)
                    refine ⟨[_],.cons rfl .nil,fun a w' hr=>.inl ⟨cv9,by rw [hk9]; rfl,b30,_,_,_,_,_,_,rfl,(show (Item.blk b30 ⟨true,_,_,_⟩).holds w' from hr.hp _ (by repeat (first|exact Mh _|apply Mt))),hr.new (B:=⟨true,_,_,_⟩) (by repeat (first|exact Mh _|apply Mt)) rfl,by kernel_rfl,hr.fr.below⟩⟩
                  ·
                    refine KB (KA ?_)
                    refine oP (KF (v:=.bool (decide (id = 10))) rfl rfl KAN) ?_
                    refine oA ?_
                    refine KC ?_
                    first|refine KS rfl (fun hk10=>?_) (fun hk10=>?_)|refine KU rfl (fun hk10=>?_) (fun hk10=>?_)
                    ·
                      refine KB (KA ?_)
                      refine oS (mk (KAK Try.underlying107 inf_9 rfl rfl rfl rfl (by decide) rfl) (fun b33=>?_))
                      refine oA ?_
                      refine KC (KM ?_)
                      refine ⟨[_],.cons rfl .nil,fun a w' hr=>.inl ⟨cv10,by rw [hk10]; rfl,b33,_,_,_,_,_,_,rfl,(show (Item.blk b33 ⟨true,_,_,_⟩).holds w' from hr.hp _ (by repeat (first|exact Mh _|apply Mt))),hr.new (B:=⟨true,_,_,_⟩) (by repeat (first|exact Mh _|apply Mt)) rfl,by kernel_rfl,hr.fr.below⟩⟩
                    ·
                      refine KB (KA ?_)
                      refine oP (KF (v:=.bool (decide (id = 11))) rfl rfl KAN) ?_
                      refine oA ?_
                      refine KC ?_
                      first|refine KS rfl (fun hk11=>?_) (fun hk11=>?_)|refine KU rfl (fun hk11=>?_) (fun hk11=>?_)
                      ·
                        refine KB (KA ?_)
                        refine oS (mk (KAK Try.underlying107 inf_9 rfl rfl rfl rfl (by decide) rfl) (fun b36=>?_))
                        refine oA ?_
                        refine KC (KM ?_)
                        refine ⟨[_],.cons rfl .nil,fun a w' hr=>.inl ⟨cv11,by rw [hk11]; rfl,b36,_,_,_,_,_,_,rfl,(show (Item.blk b36 ⟨true,_,_,_⟩).holds w' from hr.hp _ (by repeat (first|exact Mh _|apply Mt))),hr.new (B:=⟨true,_,_,_⟩) (by repeat (first|exact Mh _|apply Mt)) rfl,by kernel_rfl,hr.fr.below⟩⟩
                      ·
                        refine KB (KA ?_)
                        refine oP (KF (v:=.bool (decide (id = 12))) rfl rfl KAN) ?_
                        refine oA ?_
                        refine KC ?_
                        first|refine KS rfl (fun hk12=>?_) (fun hk12=>?_)|refine KU rfl (fun hk12=>?_) (fun hk12=>?_)
                        ·
                          refine KB (KA ?_)
                          refine oS (mk (KAK Try.underlying107 inf_9 rfl rfl rfl rfl (by decide) rfl) (fun b39=>?_))
                          refine oA ?_
                          refine KC (KM ?_)
                          refine ⟨[_],.cons rfl .nil,fun a w' hr=>.inl ⟨cv12,by rw [hk12]; rfl,b39,_,_,_,_,_,_,rfl,(show (Item.blk b39 ⟨true,_,_,_⟩).holds w' from hr.hp _ (by repeat (first|exact Mh _|apply Mt))),hr.new (B:=⟨true,_,_,_⟩) (by repeat (first|exact Mh _|apply Mt)) rfl,by kernel_rfl,hr.fr.below⟩⟩
                        ·
                          refine KB (KA ?_)
                          refine oP (KF (v:=.bool (decide (id = 13))) rfl rfl KAN) ?_
                          refine oA ?_
                          refine KC ?_
                          first|refine KS rfl (fun hk13=>?_) (fun hk13=>?_)|refine KU rfl (fun hk13=>?_) (fun hk13=>?_)
                          ·
                            refine KB (KA ?_)
                            refine oS (mk (KAK Try.underlying107 inf_9 rfl rfl rfl rfl (by decide) rfl) (fun b42=>?_))
                            refine oA ?_
                            refine KC (KM ?_)
                            refine ⟨[_],.cons rfl .nil,fun a w' hr=>.inl ⟨cv13,by rw [hk13]; rfl,b42,_,_,_,_,_,_,rfl,(show (Item.blk b42 ⟨true,_,_,_⟩).holds w' from hr.hp _ (by repeat (first|exact Mh _|apply Mt))),hr.new (B:=⟨true,_,_,_⟩) (by repeat (first|exact Mh _|apply Mt)) rfl,by kernel_rfl,hr.fr.below⟩⟩
                          ·
                            refine KB (KA ?_)
                            refine oP (KF (v:=.bool (decide (id = 14))) rfl rfl KAN) ?_
                            refine oA ?_
                            refine KC ?_
                            first|refine KS rfl (fun hk14=>?_) (fun hk14=>?_)|refine KU rfl (fun hk14=>?_) (fun hk14=>?_)
                            ·
                              refine KB (KA ?_)
                              refine oS (mk (KAK Try.underlying107 inf_9 rfl rfl rfl rfl (by decide) rfl) (fun b45=>?_))
                              refine oA ?_
                              refine KC (KM ?_)
                              refine ⟨[_],.cons rfl .nil,fun a w' hr=>.inl ⟨cv14,by rw [hk14]; rfl,b45,_,_,_,_,_,_,rfl,(show (Item.blk b45 ⟨true,_,_,_⟩).holds w' from hr.hp _ (by repeat (first|exact Mh _|apply Mt))),hr.new (B:=⟨true,_,_,_⟩) (by repeat (first|exact Mh _|apply Mt)) rfl,by kernel_rfl,hr.fr.below⟩⟩
                            ·
                              refine KB (KA ?_)
                              refine oP (KF (v:=.bool (decide (id = 15))) rfl rfl KAN) ?_
                              refine oA ?_
                              refine KC ?_
                              first|refine KS rfl (fun hk15=>?_) (fun hk15=>?_)|refine KU rfl (fun hk15=>?_) (fun hk15=>?_)
                              ·
                                refine KB (KA ?_)
                                refine oS (mk (KAK Try.underlying107 inf_9 rfl rfl rfl rfl (by decide) rfl) (fun b48=>?_))
                                refine oA ?_
                                refine KC (KM ?_)
                                refine ⟨[_],.cons rfl .nil,fun a w' hr=>.inl ⟨cv15,by rw [hk15]; rfl,b48,_,_,_,_,_,_,rfl,(show (Item.blk b48 ⟨true,_,_,_⟩).holds w' from hr.hp _ (by repeat (first|exact Mh _|apply Mt))),hr.new (B:=⟨true,_,_,_⟩) (by repeat (first|exact Mh _|apply Mt)) rfl,by kernel_rfl,hr.fr.below⟩⟩
                              ·
                                refine KT ?_
                                refine KB (KA ?_)
                                refine oA ?_
                                refine KC (KM ?_)
                                refine ⟨[_],.cons rfl .nil,fun a w' hr=>.inr ⟨cvI_none hk1 hk2 hk3 hk4 hk5 hk6 hk7 hk8 hk9 hk10 hk11 hk12 hk13 hk14 hk15,rfl,hr.fr.below⟩⟩
end Go.Proofs.Ytlmiolnccgjjjaa
set_option linter.unusedVariables false
set_option linter.unusedSimpArgs false
set_option maxRecDepth 20000
namespace Go.Proofs.Ytlmiolnccgjjjaa
open Go Go.RowKit
structure CQ where
  p:NV
  a:NV
  b:NV
  n:NV
  x:NV
  y:NV
def crvL (Q:CQ) (V:Cv):List Value:=[.int .i64 ((V.id:Nat):Int),numV Q.p V.p,numV Q.a V.a,numV Q.b V.b,numV Q.n V.n,numV Q.x V.x,numV Q.y V.y]
def crvI (Q:CQ) (V:Cv):Item:=grpI [(Q.p,V.p),(Q.a,V.a),(Q.b,V.b),(Q.n,V.n),(Q.x,V.x),(Q.y,V.y)]
def crvZ:List Value:=[.int .i64 ((0:Nat):Int),.slice none 0 0,.slice none 0 0,.slice none 0 0,.slice none 0 0,.slice none 0 0,.slice none 0 0]
section
variable {Q:CQ} {V:Cv} {w:World} (h:(crvI Q V).holds w)
include h
theorem crvI_p:(numT Q.p V.p).holds w:=grp_of h (.head _)
theorem crvI_a:(numT Q.a V.a).holds w:=grp_of h (.tail _ (.head _))
theorem crvI_b:(numT Q.b V.b).holds w:=grp_of h (.tail _ (.tail _ (.head _)))
theorem crvI_x:(numT Q.x V.x).holds w:=grp_of h (.tail _ (.tail _ (.tail _ (.tail _ (.head _)))))
theorem crvI_y:(numT Q.y V.y).holds w:=grp_of h (.tail _ (.tail _ (.tail _ (.tail _ (.tail _ (.head _))))))
end
theorem crvI_mk {Q:CQ} {V:Cv} {w:World} (h1:(numT Q.p V.p).holds w) (h2:(numT Q.a V.a).holds w) (h3:(numT Q.b V.b).holds w) (h4:(numT Q.n V.n).holds w) (h5:(numT Q.x V.x).holds w) (h6:(numT Q.y V.y).holds w):(crvI Q V).holds w:=by
  refine grp_mk fun q A hm=>?_
  simp only [List.mem_cons,Prod.mk.injEq,List.not_mem_nil,or_false] at hm
  rcases hm with ⟨rfl,rfl⟩|⟨rfl,rfl⟩|⟨rfl,rfl⟩|⟨rfl,rfl⟩|⟨rfl,rfl⟩|⟨rfl,rfl⟩ <;> assumption
theorem crvI_fp {Q:CQ} {V:Cv} {lo:Nat} (h1:NFr lo [] Q.p (D.nw V.p)) (h2:NFr lo [] Q.a (D.nw V.a)) (h3:NFr lo [] Q.b (D.nw V.b)) (h4:NFr lo [] Q.n (D.nw V.n)) (h5:NFr lo [] Q.x (D.nw V.x)) (h6:NFr lo [] Q.y (D.nw V.y)):∀ k,k∈(crvI Q V).fp→lo≤k:=by
  intro k hk
  obtain ⟨e,he,hk⟩:=List.mem_flatMap.1 hk
  have key:∀ {q:NV} {n:Nat},NFr lo [] q n→k∈fpz q n→lo≤k:=fun hn hk=>(hn k hk).elim id (fun h=>by cases h)
  simp only [List.mem_cons,List.not_mem_nil,or_false] at he
  rcases he with rfl|rfl|rfl|rfl|rfl|rfl
  · exact key h1 hk
  · exact key h2 hk
  · exact key h3 hk
  · exact key h4 hk
  · exact key h5 hk
  · exact key h6 hk
theorem hexB_spec {s:ByteArray} {n:Nat} (h:hexB s n = true):hexOK s.data.toList = true∧hexVal s.data.toList = n∧s.size≤144:=by
  simp only [hexB,Bool.and_eq_true] at h
  exact ⟨h.1.1,Nat.eq_of_beq_eq_true h.1.2,Nb h.2⟩
theorem rowB_spec {V:Cv} {s0 s1 s2 s3 s4 s5:ByteArray} (h:rowB V s0 s1 s2 s3 s4 s5 = true):hexB s0 V.p = true∧((s1.data.toList = [45]∧V.a+3 = V.p)∨(s1.data.toList≠[45]∧hexB s1 V.a = true))∧hexB s2 V.b = true∧hexB s3 V.n = true∧hexB s4 V.x = true∧hexB s5 V.y = true:=by
  simp only [rowB,Bool.and_eq_true] at h
  obtain ⟨⟨⟨⟨⟨h0,h1⟩,h2⟩,h3⟩,h4⟩,h5⟩:=h
  refine ⟨h0,?_,h2,h3,h4,h5⟩
  split at h1
  · exact .inl ⟨by assumption,Nat.eq_of_beq_eq_true h1⟩
  · exact .inr ⟨by assumption,h1⟩
theorem Cv.Ok.bounds {V:Cv} (h:V.Ok):5≤V.p∧V.p<P521∧V.a<V.p∧V.b<V.p∧V.x<V.p∧V.y<V.p∧V.n<P521∧V.p%2 = 1∧V.n%2 = 1∧1≤V.b∧100≤V.n:=by
  have h:=h.cs
  simp only [Bool.and_eq_true] at h
  obtain ⟨⟨⟨⟨⟨⟨⟨⟨⟨⟨⟨⟨⟨h1,h2⟩,h3⟩,h4⟩,h5⟩,h6⟩,h7⟩,h8⟩,h9⟩,h10⟩,h11⟩,h12⟩,h13⟩,h14⟩:=h
  exact ⟨Nb h1,Nb h2,Nb h3,Nb h4,Nb h5,Nb h6,Nb h9,Nat.eq_of_beq_eq_true h10,Nat.eq_of_beq_eq_true h11,Nb h12,Nb h13⟩
theorem nw_521 {A:Nat} (h:A<P521):D.nw A≤17:=by
  obtain ⟨j,hj⟩:∃ j:Nat,j = 65:=⟨65,rfl⟩
  obtain ⟨k,hk⟩:∃ k:Nat,k = 17:=⟨17,rfl⟩
  rw [← p521 hj] at h
  rw [← hk]
  exact D.nw_le (Nat.lt_of_lt_of_le h (Nat.pow_le_pow_right (by decide) (by omega)))
theorem w9_521 {A:Nat} (h:A<P521):A<W9:=by
  obtain ⟨j,hj⟩:∃ j:Nat,j = 65:=⟨65,rfl⟩
  obtain ⟨k,hk⟩:∃ k:Nat,k = 9:=⟨9,rfl⟩
  rw [← p521 hj] at h
  rw [← w9 hk]
  exact Nat.lt_of_lt_of_le h (Nat.pow_le_pow_right (by decide) (by omega))
structure Cv.Sz (V:Cv):Prop where
  p:D.nw V.p≤17
  a:D.nw V.a≤17
  b:D.nw V.b≤17
  n:D.nw V.n≤17
  x:D.nw V.x≤17
  y:D.nw V.y≤17
theorem Cv.Ok.sz {V:Cv} (h:V.Ok):V.Sz:=by
  obtain ⟨h1,h2,h3,h4,h5,h6,h7,_⟩:=h.bounds
  exact ⟨nw_521 h2,nw_521 (Nat.lt_trans h3 h2),nw_521 (Nat.lt_trans h4 h2),nw_521 h7,nw_521 (Nat.lt_trans h5 h2),nw_521 (Nat.lt_trans h6 h2)⟩
theorem cvI_ok {id:Int} {V:Cv} (h:cvI id = some V):V.Ok∧((V.id:Nat):Int) = id:=by
  unfold cvI at h
  split at h
  · obtain ⟨h1,h2⟩:=cvOf_ok h
    exact ⟨h1,by omega⟩
  · cases h
theorem num1_blk {w:World} {b c k:Nat} {wr:Bool} {ty:TypeId} {fz:Nat×Nat} (h:(Item.blk b ⟨wr,[.int .u32 ((k:Nat):Int)],ty,fz⟩).holds w) (hk:k<4294967296) (h0:D.nw k = 1):(numT ⟨false,b,c⟩ k).holds w:=by
  refine numT_blk (n:=1) (wr:=wr) (ty:=ty) (fz:=fz) (?_) (by rw [Nat.mul_one]; exact hk)
  have e:vec .u32 1 (D.limb k) = [.int .u32 ((k:Nat):Int)]:=by
    have:D.limb k 0 = k:=by unfold D.limb; rw [Nat.mul_zero,Nat.pow_zero,Nat.div_one,Nat.mod_eq_of_lt hk]
    simp [vec,this]
  rw [e]; exact h
theorem c_r_row_none (id:Int) (w:World) (h:cvI id = none):Calls Try.prog 78 ([.int .i64 id]:List Value).toArray w (fun e w'=>e = .returned (.slice none 0 0)∧Below w.heap.size w w') :=
  (c_r_row id w).mono fun e w' h'=>by
    rcases h' with ⟨V,hV,_⟩|⟨_,h1,h2⟩
    · rw [h] at hV; cases hV
    · exact ⟨h1,h2⟩
theorem c_r_row_some (id:Int) (V:Cv) (w:World) (h:cvI id = some V):Calls Try.prog 78 ([.int .i64 id]:List Value).toArray w (fun e w'=>∃ b s0 s1 s2 s3 s4 s5,e = .returned (.slice (some ⟨b,0,none⟩) 6 6)∧(Item.blk b ⟨false,[.string s0,.string s1,.string s2,.string s3,.string s4,.string s5],9,(0,0)⟩).holds w'∧w.heap.size≤b∧rowB V s0 s1 s2 s3 s4 s5 = true∧Below w.heap.size w w') :=
  (c_r_row id w).mono fun e w' h'=>by
    rcases h' with ⟨V',hV,h1⟩|⟨h1,_⟩
    · rw [h] at hV; cases hV; exact h1
    · rw [h] at h1; cases h1
theorem c_r_Get_none (id:Int) (w:World) (h:cvI id = none):Calls Try.prog 29 ([.int .i64 id]:List Value).toArray w (fun e w'=>e = .returned (.tuple #[.agg crvZ.toArray,.bool false])∧Below w.heap.size w w'):=by
  refine Ki (N:=48) (rs:=[.cell 2 26,.tmp 3]) [] Try.func29 rfl Try.ntmps29 Try.results29 (Nb rfl) trivial rfl ?_
  show LCode _ _ _ ⟨_,_⟩ _
  refine KB (KA ?_)
  refine oS (mk (KX zr_26) (fun b2=>?_))
  refine oA ?_
  refine KC ?_
  refine KB (KA ?_)
  refine oM ?_
  refine oS (cF rfl en_78 rfl (fun w hw=>c_r_row_none id w h) ?_)
  refine oA ?_
  refine KC ?_
  refine KB ?_
  refine KB (KA ?_)
  refine oM ?_
  refine oP (KK (Det.eqsl Try.underlying107 rfl rfl) (show _ = Value.bool true from rfl)) ?_
  refine KC ?_
  refine Kf rfl ?_
  refine KB (KA ?_)
  refine oP (KK (Ky pl_26 zr_26 rfl rfl) (show _ = Value.agg crvZ.toArray from rfl)) ?_
  refine KV rfl (sA rfl rfl sz_26 (by repeat (first|exact KO|refine KJ rfl ?_)) (hl:=by rfl) (h:=?_))
  refine oA ?_
  refine KC (KM ?_)
  refine ⟨[_,_],.cons ⟨_,_,_,rfl,(by repeat (first|exact Mh _|apply Mt)),by exact KI Try.underlying26 rfl sz_26⟩ (.cons rfl .nil),fun a w' hr=>⟨?_,hr.fr.below⟩⟩
  rfl
theorem hexcall (s:ByteArray) (n:Nat) (w:World) (h:hexB s n = true):Calls Try.prog 79 ([.string s]:List Value).toArray w (fun e w'=>NumR w ([]) n (fun v=>v) e w'):=by
  obtain ⟨h1,h2,h3⟩:=hexB_spec h
  have:=c_r_Hex s w h1 (by omega)
  rwa [h2] at this
theorem c_r_Get (id:Int) (V:Cv) (w:World) (h:cvI id = some V):Calls Try.prog 29 ([.int .i64 id]:List Value).toArray w (fun e w'=>∃ Q,e = .returned (.tuple #[.agg (crvL Q V).toArray,.bool true])∧(crvI Q V).holds w'∧(∀ k,k∈(crvI Q V).fp→w.heap.size≤k)∧Below w.heap.size w w'):=by
  obtain ⟨hok,hid⟩:=cvI_ok h
  have hsz:=hok.sz
  have hszp:=hsz.p
  refine Ki (N:=48) (rs:=[.cell 2 26,.tmp 3]) [] Try.func29 rfl Try.ntmps29 Try.results29 (Nb rfl) trivial rfl ?_
  show LCode _ _ _ ⟨_,_⟩ _
  refine KB (KA ?_)
  refine oS (mk (KX zr_26) (fun b2=>?_))
  refine oA ?_
  refine KC ?_
  refine KB (KA ?_)
  refine oM ?_
  refine oS (LStep.callZ (Post:=fun v its=>∃ b s0 s1 s2 s3 s4 s5,v = .slice (some ⟨b,0,none⟩) 6 6∧its = [.blk b ⟨false,[.string s0,.string s1,.string s2,.string s3,.string s4,.string s5],9,(0,0)⟩]∧rowB V s0 s1 s2 s3 s4 s5 = true) (first:=[]) rfl en_78 rfl (Nb rfl) (fun w hw hs=>(c_r_row_some id V w h).mono fun e w' ⟨b,s0,s1,s2,s3,s4,s5,h1,h2,h3,h4,h5⟩=>⟨_,_,⟨b,s0,s1,s2,s3,s4,s5,rfl,rfl,h4⟩,h1,Brings.blk1 h5 h3 h2⟩) ?_)
  rintro _ _ ⟨b4,s0,s1,s2,s3,s4,s5,rfl,rfl,hrow⟩
  obtain ⟨hB0,hB1,hB2,hB3,hB4,hB5⟩:=rowB_spec hrow
  clear hrow
  refine oA ?_
  refine KC ?_
  refine KB ?_
  refine KB (KA ?_)
  refine oM ?_
  refine oP (KK (Det.eqsl Try.underlying107 rfl rfl) (show _ = Value.bool false from rfl)) ?_
  refine KC ?_
  refine KR rfl ?_
  refine KT ?_
  refine KB ?_
  refine rD [23] ?_
  refine aM 0 ?_
  refine aM 1 ?_
  refine aP 2 rfl (Ko (i:=0) Try.underlying107 sz_9 rfl rfl (by omega)) ?_
  refine aD 3 rfl (dL rfl (hv:=KL Try.underlying9 rfl (by first|rfl|exact Ke _ _ _ (by omega)|exact Kd _ (by omega)|exact Kb _ (by omega)|exact dv_m _ _ _ (by omega)))) ?_
  refine aM 5 ?_
  refine aP 6 rfl (Ko (i:=2) Try.underlying107 sz_9 rfl rfl (by omega)) ?_
  refine aD 7 rfl (dL rfl (hv:=KL Try.underlying9 rfl (by first|rfl|exact Ke _ _ _ (by omega)|exact Kd _ (by omega)|exact Kb _ (by omega)|exact dv_m _ _ _ (by omega)))) ?_
  refine aM 9 ?_
  refine aP 10 rfl (Ko (i:=3) Try.underlying107 sz_9 rfl rfl (by omega)) ?_
  refine aD 11 rfl (dL rfl (hv:=KL Try.underlying9 rfl (by first|rfl|exact Ke _ _ _ (by omega)|exact Kd _ (by omega)|exact Kb _ (by omega)|exact dv_m _ _ _ (by omega)))) ?_
  refine aM 13 ?_
  refine aP 14 rfl (Ko (i:=4) Try.underlying107 sz_9 rfl rfl (by omega)) ?_
  refine aD 15 rfl (dL rfl (hv:=KL Try.underlying9 rfl (by first|rfl|exact Ke _ _ _ (by omega)|exact Kd _ (by omega)|exact Kb _ (by omega)|exact dv_m _ _ _ (by omega)))) ?_
  refine aM 17 ?_
  refine aP 18 rfl (Ko (i:=5) Try.underlying107 sz_9 rfl rfl (by omega)) ?_
  refine aD 19 rfl (dL rfl (hv:=KL Try.underlying9 rfl (by first|rfl|exact Ke _ _ _ (by omega)|exact Kd _ (by omega)|exact Kb _ (by omega)|exact dv_m _ _ _ (by omega)))) ?_
  refine LAny.toP ?_
  refine KAU 22 rfl (.inl zr_26) (Nb rfl) rfl rfl rfl ?_
  refine Kx 4 rfl rfl rfl (Nb rfl) (by kernel_rfl) rfl (LExt.callZ (first:=[]) rfl en_79 rfl (fun w hw hs=>(hexcall s0 V.p w hB0).mono fun e w' h=>KAV (Old.nil _) hs h)) ?_
  rintro _ _ ⟨q15,rfl,rfl,hn15⟩
  refine Kx 8 rfl rfl rfl (Nb rfl) (by kernel_rfl) rfl (LExt.callZ (first:=[]) rfl en_79 rfl (fun w hw hs=>(hexcall s2 V.b w hB2).mono fun e w' h=>KAV (Old.nil _) hs h)) ?_
  rintro _ _ ⟨q19,rfl,rfl,hn19⟩
  refine Kx 12 rfl rfl rfl (Nb rfl) (by kernel_rfl) rfl (LExt.callZ (first:=[]) rfl en_79 rfl (fun w hw hs=>(hexcall s3 V.n w hB3).mono fun e w' h=>KAV (Old.nil _) hs h)) ?_
  rintro _ _ ⟨q23,rfl,rfl,hn23⟩
  refine Kx 16 rfl rfl rfl (Nb rfl) (by kernel_rfl) rfl (LExt.callZ (first:=[]) rfl en_79 rfl (fun w hw hs=>(hexcall s4 V.x w hB4).mono fun e w' h=>KAV (Old.nil _) hs h)) ?_
  rintro _ _ ⟨q27,rfl,rfl,hn27⟩
  refine Kx 20 rfl rfl rfl (Nb rfl) (by kernel_rfl) rfl (LExt.callZ (first:=[]) rfl en_79 rfl (fun w hw hs=>(hexcall s5 V.y w hB5).mono fun e w' h=>KAV (Old.nil _) hs h)) ?_
  rintro _ _ ⟨q31,rfl,rfl,hn31⟩
  refine pP 21 rfl (KK (Ky pl_26 zr_26 rfl rfl) (show _ = Value.agg ([.int .i64 id,numV q15 V.p,.slice none 0 0,numV q19 V.b,numV q23 V.n,numV q27 V.x,numV q31 V.y]).toArray from rfl)) ?_
  refine pE (fun b5=>?_)
  refine LAnyP.toAny ?_
  refine aL 23 rfl (sA rfl rfl sz_26 (by repeat (first|exact KO|refine KJ rfl ?_)) (hl:=by rfl) (h:=?_))
  refine aE ?_
  refine KB ?_
  refine KB ?_
  rcases hB1 with ⟨hD,hVa⟩|⟨hD,hA⟩
  ·
    refine KA ?_
    refine oM ?_
    refine oP (Ko (i:=1) Try.underlying107 sz_9 rfl rfl (by omega)) ?_
    refine oD (dL rfl (hv:=KL Try.underlying9 rfl (by first|rfl|exact Ke _ _ _ (by omega)|exact Kd _ (by omega)|exact Kb _ (by omega)|exact dv_m _ _ _ (by omega)))) ?_
    refine oP (KK (Det.eqs rfl rfl) (congrArg Value.bool (eq_str_t hD))) ?_
    refine KC ?_
    refine Kf rfl ?_
    refine KA ?_
    refine oP (KG (o':=1) Try.underlying26 rfl rfl rfl sz_24 (by decide)) ?_
    refine oD (dL rfl (hv:=KL Try.underlying24 rfl (by first|rfl|exact Ke _ _ _ (by omega)|exact Kd _ (by omega)|exact Kb _ (by omega)|exact dv_m _ _ _ (by omega)))) ?_
    refine oS (mk (KAK Try.underlying24 inf_67 rfl rfl rfl rfl (by decide) rfl) (fun b39=>?_))
    refine oS (cZ rfl en_65 rfl (fun w hw hs=>(c_n_Sub q15 ⟨false,b39,1⟩ V.p 3 w (mC hw) (num1_blk (mC hw) (by decide) rfl) (by omega) (by omega)).mono fun e w' h=>KAV (Old.nil _) hs h) ?_)
    rintro _ _ ⟨q40,rfl,rfl,hn40⟩
    refine oP (KG (o':=2) Try.underlying26 rfl rfl rfl sz_24 (by decide)) ?_
    refine KV rfl (Kj rfl rfl rfl sz_24 (by repeat (first|exact Sh _|apply St_)) (by simp) (by first|exact KAH _ _ _ _ _|exact KAJ _ _ _ _ (by omega)|exact KAI _ _ _ _|rfl) (by simp) ?_)
    refine KC ?_
    refine KB (KA ?_)
    refine oD (dL rfl (hv:=by exact KI Try.underlying26 rfl sz_26)) ?_
    refine KV rfl (sA rfl rfl sz_26 (by repeat (first|exact KO|refine KJ rfl ?_)) (hl:=by rfl) (h:=?_))
    refine oA ?_
    refine KC (KM ?_)
    refine ⟨[_,_],.cons ⟨_,_,_,rfl,(by repeat (first|exact Mh _|apply Mt)),by exact KI Try.underlying26 rfl sz_26⟩ (.cons rfl .nil),fun a w' hr=>⟨⟨q15,q40,q19,q23,q27,q31⟩,?_,crvI_mk (hr.hp _ (by repeat (first|exact Mh _|apply Mt))) (by have:=hr.hp (numT q40 (V.p-3)) (by repeat (first|exact Mh _|apply Mt)); rwa [show V.p-3 = V.a by omega] at this) (hr.hp _ (by repeat (first|exact Mh _|apply Mt))) (hr.hp _ (by repeat (first|exact Mh _|apply Mt))) (hr.hp _ (by repeat (first|exact Mh _|apply Mt))) (hr.hp _ (by repeat (first|exact Mh _|apply Mt))),crvI_fp hn15 (by rwa [show V.p-3 = V.a by omega] at hn40) hn19 hn23 hn27 hn31,hr.fr.below⟩⟩
    rw [← hid,show V.p-3 = V.a by omega]; rfl
  ·
    refine KA ?_
    refine oM ?_
    refine oP (Ko (i:=1) Try.underlying107 sz_9 rfl rfl (by omega)) ?_
    refine oD (dL rfl (hv:=KL Try.underlying9 rfl (by first|rfl|exact Ke _ _ _ (by omega)|exact Kd _ (by omega)|exact Kb _ (by omega)|exact dv_m _ _ _ (by omega)))) ?_
    refine oP (KK (Det.eqs rfl rfl) (congrArg Value.bool (eq_str_f hD))) ?_
    refine KC ?_
    refine KR rfl ?_
    refine KA ?_
    refine oM ?_
    refine oP (Ko (i:=1) Try.underlying107 sz_9 rfl rfl (by omega)) ?_
    refine oD (dL rfl (hv:=KL Try.underlying9 rfl (by first|rfl|exact Ke _ _ _ (by omega)|exact Kd _ (by omega)|exact Kb _ (by omega)|exact dv_m _ _ _ (by omega)))) ?_
    refine oS (cZ rfl en_79 rfl (fun w hw hs=>(hexcall s1 V.a w hA).mono fun e w' h=>KAV (Old.nil _) hs h) ?_)
    rintro _ _ ⟨q45,rfl,rfl,hn45⟩
    refine oP (KG (o':=2) Try.underlying26 rfl rfl rfl sz_24 (by decide)) ?_
    refine KV rfl (Kj rfl rfl rfl sz_24 (by repeat (first|exact Sh _|apply St_)) (by simp) (by first|exact KAH _ _ _ _ _|exact KAJ _ _ _ _ (by omega)|exact KAI _ _ _ _|rfl) (by simp) ?_)
    refine KC ?_
    refine KB (KA ?_)
    refine oD (dL rfl (hv:=by exact KI Try.underlying26 rfl sz_26)) ?_
    refine KV rfl (sA rfl rfl sz_26 (by repeat (first|exact KO|refine KJ rfl ?_)) (hl:=by rfl) (h:=?_))
    refine oA ?_
    refine KC (KM ?_)
    refine ⟨[_,_],.cons ⟨_,_,_,rfl,(by repeat (first|exact Mh _|apply Mt)),by exact KI Try.underlying26 rfl sz_26⟩ (.cons rfl .nil),fun a w' hr=>⟨⟨q15,q45,q19,q23,q27,q31⟩,?_,crvI_mk (hr.hp _ (by repeat (first|exact Mh _|apply Mt))) (hr.hp _ (by repeat (first|exact Mh _|apply Mt))) (hr.hp _ (by repeat (first|exact Mh _|apply Mt))) (hr.hp _ (by repeat (first|exact Mh _|apply Mt))) (hr.hp _ (by repeat (first|exact Mh _|apply Mt))) (hr.hp _ (by repeat (first|exact Mh _|apply Mt))),crvI_fp hn15 hn45 hn19 hn23 hn27 hn31,hr.fr.below⟩⟩
    rw [← hid]; rfl
end Go.Proofs.Ytlmiolnccgjjjaa
set_option linter.unusedVariables false
set_option linter.unusedSimpArgs false
set_option maxRecDepth 20000
namespace Go.Proofs.Ytlmiolnccgjjjaa
open Go Go.RowKit
def nby (N:Nat):Nat:=(blen N+7)/8
theorem blen_nw (A:Nat):blen A≤32*D.nw A:=by unfold D.nw; omega
end Go.Proofs.Ytlmiolnccgjjjaa
set_option linter.unusedVariables false
set_option linter.unusedSimpArgs false
set_option maxRecDepth 20000
namespace Go.Proofs.Ytlmiolnccgjjjaa
open Go Go.RowKit
theorem c_Inverse (a m:Nat) (hm0:m≠0) (w:World) (ha:a<W9) (hm:m<W9):Calls Try.prog 151 ([natV a,natV m]:List Value).toArray w (fun e w'=>e = .returned (.tuple #[natV (invM a m),.int .i64 ((if Nat.gcd a m = 1∧m≠1 then 0 else 401:Nat):Int)])∧Below w.heap.size w w'):=by
  refine Ki (N:=75) (rs:=[.cell 4 33,.tmp 5]) [] Try.func151 rfl Try.ntmps151 Try.results151 (Nb rfl) trivial rfl ?_
  show LCode _ _ _ ⟨_,_⟩ _
  refine KB (KA ?_)
  refine oS (mB (fun b2=>?_))
  refine oS (mB (fun b3=>?_))
  refine oS (mk (KX zr_33) (fun b4=>?_))
  refine oP (KZ (v:=.int .i64 ((0:Nat):Int)) rfl) ?_
  refine KC ?_
  refine KB ?_
  refine KB (KA ?_)
  refine oS (cF rfl en_159 rfl (fun w hw=>c_zeroN m b3 _ hm0 w (mC hw) hm) ?_)
  refine KC ?_
  refine KR rfl ?_
  refine KT ?_
  refine KB (KA ?_)
  refine oD (dL rfl (hv:=by exact KI Try.underlying33 rfl sz_33)) ?_
  refine oD (dL rfl (hv:=by exact KI Try.underlying33 rfl sz_33)) ?_
  refine oS (cF rfl en_160 rfl (fun w hw=>c_Div a m hm0 w ha hm) ?_)
  refine oM ?_
  refine oP (KW rfl rfl) ?_
  refine oP (KW rfl rfl) ?_
  refine oP (KW rfl rfl) ?_
  refine oS (mk (KX zr_33) (fun b6=>?_))
  refine oS (mk (KX zr_33) (fun b7=>?_))
  refine KV rfl (sA rfl rfl sz_33 (by repeat (first|exact Ka _|exact Kl _ _ _|exact Kc _|exact Kg _ _ _|exact Km _ _ _|exact KO|refine KJ rfl ?_|refine KP ?_ ?_)) (hl:=by first|exact KD _|exact KH _ _ _|exact KE _|exact KN _ _ _|exact KY _ _ _|rfl|simp [KH,KD,KE]) (h:=?_))
  refine KV rfl (sA rfl rfl sz_33 (by repeat (first|exact Ka _|exact Kl _ _ _|exact Kc _|exact Kg _ _ _|exact Km _ _ _|exact KO|refine KJ rfl ?_|refine KP ?_ ?_)) (hl:=by first|exact KD _|exact KH _ _ _|exact KE _|exact KN _ _ _|exact KY _ _ _|rfl|simp [KH,KD,KE]) (h:=?_))
  refine oA ?_
  refine KC ?_
  refine LCode.cut (α:=Nat×Nat) (fun _=>True) (fun x=>⟨[(2,.pointer (some ⟨b2,0,none⟩)),(3,.pointer (some ⟨b3,0,none⟩)),(4,.pointer (some ⟨b4,0,none⟩)),(9,.pointer (some ⟨x.1,0,none⟩)),(10,.pointer (some ⟨x.2,0,none⟩))],[.blk x.1 ⟨true,natL (m),33,(0,0)⟩,.blk x.2 ⟨true,natL (a%m),33,(0,0)⟩,.blk b4 ⟨true,vec .u64 9 (fun _=>0),33,(0,0)⟩,.blk b3 ⟨true,natL (m),33,(0,0)⟩,.blk b2 ⟨true,natL (a),33,(0,0)⟩]⟩) ?_ ?_
  ·
    refine rD [4,5] ?_
    refine aD 0 rfl (dL rfl (hv:=by exact KI Try.underlying33 rfl sz_33)) ?_
    refine LAny.threeX 1 2 3 rfl rfl rfl rfl rfl rfl (by kernel_rfl) (.inr (LStep.det (dL rfl (hv:=by exact KI Try.underlying33 rfl sz_33)) (Nb rfl) ?_)) (.inr (mk (KX zr_33) (fun b9=>?_))) (.inr (mk (KX zr_33) (fun b10=>?_)))
    ·
      refine LAny.twoX 2 3 rfl rfl rfl rfl (by kernel_rfl) (.inr (mk (KX zr_33) (fun b9=>?_))) (.inr (mk (KX zr_33) (fun b10=>?_)))
      ·
        refine aO 3 rfl (mk (KX zr_33) (fun b10=>?_))
        refine aL 4 rfl (sA rfl rfl sz_33 (by repeat (first|exact Ka _|exact Kl _ _ _|exact Kc _|exact Kg _ _ _|exact Km _ _ _|exact KO|refine KJ rfl ?_|refine KP ?_ ?_)) (hl:=by first|exact KD _|exact KH _ _ _|exact KE _|exact KN _ _ _|exact KY _ _ _|rfl|simp [KH,KD,KE]) (h:=?_))
        refine aL 5 rfl (sA rfl rfl sz_33 (by repeat (first|exact Ka _|exact Kl _ _ _|exact Kc _|exact Kg _ _ _|exact Km _ _ _|exact KO|refine KJ rfl ?_|refine KP ?_ ?_)) (hl:=by first|exact KD _|exact KH _ _ _|exact KE _|exact KN _ _ _|exact KY _ _ _|rfl|simp [KH,KD,KE]) (h:=?_))
        refine aE ?_
        exact ⟨(b9,b10),trivial,Kq ⟨rfl,rfl,rfl,rfl,rfl,trivial⟩ (by repeat (first|exact Sel.nil _|refine Sel.cons (by repeat (first|exact Ph _|apply Pt_)) ?_))⟩
      ·
        refine aO 2 rfl (mk (KX zr_33) (fun b9=>?_))
        refine aL 4 rfl (sA rfl rfl sz_33 (by repeat (first|exact Ka _|exact Kl _ _ _|exact Kc _|exact Kg _ _ _|exact Km _ _ _|exact KO|refine KJ rfl ?_|refine KP ?_ ?_)) (hl:=by first|exact KD _|exact KH _ _ _|exact KE _|exact KN _ _ _|exact KY _ _ _|rfl|simp [KH,KD,KE]) (h:=?_))
        refine aL 5 rfl (sA rfl rfl sz_33 (by repeat (first|exact Ka _|exact Kl _ _ _|exact Kc _|exact Kg _ _ _|exact Km _ _ _|exact KO|refine KJ rfl ?_|refine KP ?_ ?_)) (hl:=by first|exact KD _|exact KH _ _ _|exact KE _|exact KN _ _ _|exact KY _ _ _|rfl|simp [KH,KD,KE]) (h:=?_))
        refine aE ?_
        exact ⟨(b9,b10),trivial,Kq ⟨rfl,rfl,rfl,rfl,rfl,trivial⟩ (by repeat (first|exact Sel.nil _|refine Sel.cons (by repeat (first|exact Ph _|apply Pt_)) ?_))⟩
    ·
      refine LAny.twoX 1 3 rfl rfl rfl rfl (by kernel_rfl) (.inr (LStep.det (dL rfl (hv:=by exact KI Try.underlying33 rfl sz_33)) (Nb rfl) ?_)) (.inr (mk (KX zr_33) (fun b10=>?_)))
      ·
        refine aO 3 rfl (mk (KX zr_33) (fun b10=>?_))
        refine aL 4 rfl (sA rfl rfl sz_33 (by repeat (first|exact Ka _|exact Kl _ _ _|exact Kc _|exact Kg _ _ _|exact Km _ _ _|exact KO|refine KJ rfl ?_|refine KP ?_ ?_)) (hl:=by first|exact KD _|exact KH _ _ _|exact KE _|exact KN _ _ _|exact KY _ _ _|rfl|simp [KH,KD,KE]) (h:=?_))
        refine aL 5 rfl (sA rfl rfl sz_33 (by repeat (first|exact Ka _|exact Kl _ _ _|exact Kc _|exact Kg _ _ _|exact Km _ _ _|exact KO|refine KJ rfl ?_|refine KP ?_ ?_)) (hl:=by first|exact KD _|exact KH _ _ _|exact KE _|exact KN _ _ _|exact KY _ _ _|rfl|simp [KH,KD,KE]) (h:=?_))
        refine aE ?_
        exact ⟨(b9,b10),trivial,Kq ⟨rfl,rfl,rfl,rfl,rfl,trivial⟩ (by repeat (first|exact Sel.nil _|refine Sel.cons (by repeat (first|exact Ph _|apply Pt_)) ?_))⟩
      ·
        refine LAny.twoX 1 4 rfl rfl rfl rfl (by kernel_rfl) (.inr (LStep.det (dL rfl (hv:=by exact KI Try.underlying33 rfl sz_33)) (Nb rfl) ?_)) (.inl ⟨rfl,sA rfl rfl sz_33 (by repeat (first|exact Ka _|exact Kl _ _ _|exact Kc _|exact Kg _ _ _|exact Km _ _ _|exact KO|refine KJ rfl ?_|refine KP ?_ ?_)) (hl:=by first|exact KD _|exact KH _ _ _|exact KE _|exact KN _ _ _|exact KY _ _ _|rfl|simp [KH,KD,KE]) (h:=?_)⟩)
        ·
          refine aL 4 rfl (sA rfl rfl sz_33 (by repeat (first|exact Ka _|exact Kl _ _ _|exact Kc _|exact Kg _ _ _|exact Km _ _ _|exact KO|refine KJ rfl ?_|refine KP ?_ ?_)) (hl:=by first|exact KD _|exact KH _ _ _|exact KE _|exact KN _ _ _|exact KY _ _ _|rfl|simp [KH,KD,KE]) (h:=?_))
          refine aL 5 rfl (sA rfl rfl sz_33 (by repeat (first|exact Ka _|exact Kl _ _ _|exact Kc _|exact Kg _ _ _|exact Km _ _ _|exact KO|refine KJ rfl ?_|refine KP ?_ ?_)) (hl:=by first|exact KD _|exact KH _ _ _|exact KE _|exact KN _ _ _|exact KY _ _ _|rfl|simp [KH,KD,KE]) (h:=?_))
          refine aE ?_
          exact ⟨(b9,b10),trivial,Kq ⟨rfl,rfl,rfl,rfl,rfl,trivial⟩ (by repeat (first|exact Sel.nil _|refine Sel.cons (by repeat (first|exact Ph _|apply Pt_)) ?_))⟩
        ·
          refine aD 1 rfl (dL rfl (hv:=by exact KI Try.underlying33 rfl sz_33)) ?_
          refine aL 5 rfl (sA rfl rfl sz_33 (by repeat (first|exact Ka _|exact Kl _ _ _|exact Kc _|exact Kg _ _ _|exact Km _ _ _|exact KO|refine KJ rfl ?_|refine KP ?_ ?_)) (hl:=by first|exact KD _|exact KH _ _ _|exact KE _|exact KN _ _ _|exact KY _ _ _|rfl|simp [KH,KD,KE]) (h:=?_))
          refine aE ?_
          exact ⟨(b9,b10),trivial,Kq ⟨rfl,rfl,rfl,rfl,rfl,trivial⟩ (by repeat (first|exact Sel.nil _|refine Sel.cons (by repeat (first|exact Ph _|apply Pt_)) ?_))⟩
    ·
      refine LAny.twoX 1 2 rfl rfl rfl rfl (by kernel_rfl) (.inr (LStep.det (dL rfl (hv:=by exact KI Try.underlying33 rfl sz_33)) (Nb rfl) ?_)) (.inr (mk (KX zr_33) (fun b9=>?_)))
      ·
        refine aO 2 rfl (mk (KX zr_33) (fun b9=>?_))
        refine aL 4 rfl (sA rfl rfl sz_33 (by repeat (first|exact Ka _|exact Kl _ _ _|exact Kc _|exact Kg _ _ _|exact Km _ _ _|exact KO|refine KJ rfl ?_|refine KP ?_ ?_)) (hl:=by first|exact KD _|exact KH _ _ _|exact KE _|exact KN _ _ _|exact KY _ _ _|rfl|simp [KH,KD,KE]) (h:=?_))
        refine aL 5 rfl (sA rfl rfl sz_33 (by repeat (first|exact Ka _|exact Kl _ _ _|exact Kc _|exact Kg _ _ _|exact Km _ _ _|exact KO|refine KJ rfl ?_|refine KP ?_ ?_)) (hl:=by first|exact KD _|exact KH _ _ _|exact KE _|exact KN _ _ _|exact KY _ _ _|rfl|simp [KH,KD,KE]) (h:=?_))
        refine aE ?_
        exact ⟨(b9,b10),trivial,Kq ⟨rfl,rfl,rfl,rfl,rfl,trivial⟩ (by repeat (first|exact Sel.nil _|refine Sel.cons (by repeat (first|exact Ph _|apply Pt_)) ?_))⟩
      ·
        refine LAny.twoX 1 4 rfl rfl rfl rfl (by kernel_rfl) (.inr (LStep.det (dL rfl (hv:=by exact KI Try.underlying33 rfl sz_33)) (Nb rfl) ?_)) (.inl ⟨rfl,sA rfl rfl sz_33 (by repeat (first|exact Ka _|exact Kl _ _ _|exact Kc _|exact Kg _ _ _|exact Km _ _ _|exact KO|refine KJ rfl ?_|refine KP ?_ ?_)) (hl:=by first|exact KD _|exact KH _ _ _|exact KE _|exact KN _ _ _|exact KY _ _ _|rfl|simp [KH,KD,KE]) (h:=?_)⟩)
        ·
          refine aL 4 rfl (sA rfl rfl sz_33 (by repeat (first|exact Ka _|exact Kl _ _ _|exact Kc _|exact Kg _ _ _|exact Km _ _ _|exact KO|refine KJ rfl ?_|refine KP ?_ ?_)) (hl:=by first|exact KD _|exact KH _ _ _|exact KE _|exact KN _ _ _|exact KY _ _ _|rfl|simp [KH,KD,KE]) (h:=?_))
          refine aL 5 rfl (sA rfl rfl sz_33 (by repeat (first|exact Ka _|exact Kl _ _ _|exact Kc _|exact Kg _ _ _|exact Km _ _ _|exact KO|refine KJ rfl ?_|refine KP ?_ ?_)) (hl:=by first|exact KD _|exact KH _ _ _|exact KE _|exact KN _ _ _|exact KY _ _ _|rfl|simp [KH,KD,KE]) (h:=?_))
          refine aE ?_
          exact ⟨(b9,b10),trivial,Kq ⟨rfl,rfl,rfl,rfl,rfl,trivial⟩ (by repeat (first|exact Sel.nil _|refine Sel.cons (by repeat (first|exact Ph _|apply Pt_)) ?_))⟩
        ·
          refine aD 1 rfl (dL rfl (hv:=by exact KI Try.underlying33 rfl sz_33)) ?_
          refine aL 5 rfl (sA rfl rfl sz_33 (by repeat (first|exact Ka _|exact Kl _ _ _|exact Kc _|exact Kg _ _ _|exact Km _ _ _|exact KO|refine KJ rfl ?_|refine KP ?_ ?_)) (hl:=by first|exact KD _|exact KH _ _ _|exact KE _|exact KN _ _ _|exact KY _ _ _|rfl|simp [KH,KD,KE]) (h:=?_))
          refine aE ?_
          exact ⟨(b9,b10),trivial,Kq ⟨rfl,rfl,rfl,rfl,rfl,trivial⟩ (by repeat (first|exact Sel.nil _|refine Sel.cons (by repeat (first|exact Ph _|apply Pt_)) ?_))⟩
  ·
    rintro ⟨b9,b10⟩ _
    dsimp only
    refine KB (KA ?_)
    refine oP (KK (Ky pl_33 zr_33 rfl rfl) (show _ = natV 0 by unfold natV natL; rw [← vec_zeros 9])) ?_
    refine oS (cF rfl en_116 rfl (fun w hw=>c_nat_Small 1 (by decide) w) ?_)
    refine oS (mk (KX zr_33) (fun b11=>?_))
    refine oS (mk (KX zr_33) (fun b12=>?_))
    refine KV rfl (sA rfl rfl sz_33 (by repeat (first|exact Ka _|exact Kl _ _ _|exact Kc _|exact Kg _ _ _|exact Km _ _ _|exact KO|refine KJ rfl ?_|refine KP ?_ ?_)) (hl:=by first|exact KD _|exact KH _ _ _|exact KE _|exact KN _ _ _|exact KY _ _ _|rfl|simp [KH,KD,KE]) (h:=?_))
    refine KV rfl (sA rfl rfl sz_33 (by repeat (first|exact Ka _|exact Kl _ _ _|exact Kc _|exact Kg _ _ _|exact Km _ _ _|exact KO|refine KJ rfl ?_|refine KP ?_ ?_)) (hl:=by first|exact KD _|exact KH _ _ _|exact KE _|exact KN _ _ _|exact KY _ _ _|rfl|simp [KH,KD,KE]) (h:=?_))
    refine KC ?_
    refine KB (KA ?_)
    refine oD (dL rfl (hv:=by exact KI Try.underlying33 rfl sz_33)) ?_
    refine oS (LStep.call (Post:=fun v its=>∃ b,v = .agg [.pointer (some ⟨b,0,none⟩)].toArray∧its = [.blk b ⟨false,dvL m,212,(0,0)⟩]) (first:=[]) rfl en_140 rfl (Nb rfl) (fun w hw=>(c_By m hm0 hm w).mono fun e w' ⟨b,h1,h2,h3,h4⟩=>⟨_,_,⟨b,rfl,rfl⟩,h1,Brings.blk1 h4 h2 h3⟩) ?_)
    rintro _ _ ⟨bd,rfl,rfl⟩
    refine oS (mk (KX zr_160) (fun b13=>?_))
    refine KV rfl (sA rfl rfl sz_160 (by repeat (first|exact Ka _|exact Kl _ _ _|exact Kc _|exact Kg _ _ _|exact Km _ _ _|exact KO|refine KJ rfl ?_|refine KP ?_ ?_)) (hl:=by first|exact KD _|exact KH _ _ _|exact KE _|exact KN _ _ _|exact KY _ _ _|rfl|simp [KH,KD,KE]) (h:=?_))
    refine KC ?_
    refine KB ?_
    refine LCode.block ?_
    refine Ks (α:=Nat×Nat×Nat×Nat) (fun x=>x.1≤m∧x.2.1<m∧x.2.2.1<m∧(1<m→x.2.2.2<m)∧(m = 1→x.2.1 = 0)∧a*x.2.2.1%m = x.1%m∧a*x.2.2.2%m = x.2.1%m∧Nat.gcd x.1 x.2.1 = Nat.gcd m a) (fun x=>⟨[(2,.pointer (some ⟨b2,0,none⟩)),(3,.pointer (some ⟨b3,0,none⟩)),(4,.pointer (some ⟨b4,0,none⟩)),(9,.pointer (some ⟨b9,0,none⟩)),(10,.pointer (some ⟨b10,0,none⟩)),(11,.pointer (some ⟨b11,0,none⟩)),(12,.pointer (some ⟨b12,0,none⟩)),(13,.pointer (some ⟨b13,0,none⟩))],[.blk b9 ⟨true,natL (x.1),33,(0,0)⟩,.blk b10 ⟨true,natL (x.2.1),33,(0,0)⟩,.blk b11 ⟨true,natL (x.2.2.1),33,(0,0)⟩,.blk b12 ⟨true,natL (x.2.2.2),33,(0,0)⟩,.blk b13 ⟨true,[.pointer (some ⟨bd,0,none⟩)],160,(0,0)⟩,.blk b4 ⟨true,vec .u64 9 (fun _=>0),33,(0,0)⟩,.blk b3 ⟨true,natL (m),33,(0,0)⟩,.blk b2 ⟨true,natL (a),33,(0,0)⟩,.blk bd ⟨false,dvL m,212,(0,0)⟩]⟩) (fun x=>x.2.1) ((m,a%m,0,1)) (⟨Nat.le_refl _,Nat.mod_lt _ (by omega),by dsimp only; omega,fun h=>h,fun h=>by subst h; exact Nat.mod_one _,by dsimp only; rw [Nat.mul_zero,Nat.zero_mod,Nat.mod_self],by dsimp only; rw [Nat.mul_one,Nat.mod_mod],by dsimp only; rw [Nat.gcd_comm m (a%m),← Nat.gcd_rec]⟩) (Kq ⟨rfl,rfl,rfl,rfl,rfl,rfl,rfl,rfl,trivial⟩ (by repeat (first|exact Sel.nil _|refine Sel.cons (by repeat (first|exact Ph _|apply Pt_)) ?_))) ?_
    intro x ⟨hx1,hx2,hx3,hx6,hx9,hx5,hx7,hx8⟩
    refine KB ?_
    refine KB ?_
    rcases Nat.eq_zero_or_pos x.2.1 with h0|h0
    ·
      refine KA ?_
      refine oS (cF rfl en_159 rfl (fun w hw=>c_zero x.2.1 b10 _ w (mC hw) (by omega)) ?_)
      refine oP (KK (Det.not rfl) (show _ = Value.bool false by rw [decide_eq_true h0]; rfl)) ?_
      refine KC ?_
      have hg:Nat.gcd a m = x.1:=by rw [h0,Nat.gcd_zero_right] at hx8; rw [Nat.gcd_comm,hx8]
      refine KR rfl ?_
      refine Kp ?_
      refine KB ?_
      refine KB ?_
      rcases (show (x.1 = 1∧m≠1)∨(x.1 = 1∧m = 1)∨x.1≠1 by omega) with ⟨hd1,hd2⟩|⟨hd1,hd2⟩|hd1
      ·
        refine rD [] ?_
        refine aD 0 rfl (dL rfl (hv:=by exact KI Try.underlying33 rfl sz_33)) ?_
        refine aO 1 rfl (cF rfl en_116 rfl (fun w hw=>c_nat_Small 1 (by decide) w) ?_)
        refine aP 2 rfl (KK (Det.nea (by kernel_rfl) (fun w=>eq_nat x.1 1 (by omega) one_w9 10000 (by decide) w) rfl rfl) (show _ = Value.bool false by rw [decide_eq_true hd1]; rfl)) ?_
        refine aM 3 ?_
        refine aGD 4 rfl (dL rfl (hv:=by exact KI Try.underlying33 rfl sz_33)) ?_
        refine aGO 5 rfl (cF rfl en_116 rfl (fun w hw=>c_nat_Small 1 (by decide) w) ?_)
        refine aGP 6 rfl (KK (Det.eqa (by kernel_rfl) (fun w=>eq_nat m 1 hm one_w9 10000 (by decide) w) rfl rfl) (show _ = Value.bool false by rw [decide_eq_false hd2])) ?_
        refine aP 7 rfl (Kh rfl rfl) ?_
        refine aE ?_
        refine KR rfl ?_
        refine KT ?_
        refine KB (KA ?_)
        refine oD (dL rfl (hv:=by exact KI Try.underlying33 rfl sz_33)) ?_
        refine KV rfl (sA rfl rfl sz_33 (by repeat (first|exact Ka _|exact Kl _ _ _|exact Kc _|exact Kg _ _ _|exact Km _ _ _|exact KO|refine KJ rfl ?_|refine KP ?_ ?_)) (hl:=by first|exact KD _|exact KH _ _ _|exact KE _|exact KN _ _ _|exact KY _ _ _|rfl|simp [KH,KD,KE]) (h:=?_))
        refine oP (KZ (v:=.int .i64 ((0:Nat):Int)) rfl) ?_
        refine KC (KM ?_)
        have hgd:Nat.gcd a m = 1∧m≠1:=⟨hg.trans hd1,hd2⟩
        have hia:invM a m = x.2.2.1:=invM_eq hx3 (by rw [hx5,hd1]; exact Nat.mod_eq_of_lt (by omega))
        refine ⟨[_,_],.cons ⟨_,_,_,rfl,(by repeat (first|exact Mh _|apply Mt)),by exact KI Try.underlying33 rfl sz_33⟩ (.cons rfl .nil),fun a' w' hr=>⟨?_,hr.fr.below⟩⟩
        rw [hia,if_pos hgd]
        rfl
      ·
        refine rD [] ?_
        refine aD 0 rfl (dL rfl (hv:=by exact KI Try.underlying33 rfl sz_33)) ?_
        refine aO 1 rfl (cF rfl en_116 rfl (fun w hw=>c_nat_Small 1 (by decide) w) ?_)
        refine aP 2 rfl (KK (Det.nea (by kernel_rfl) (fun w=>eq_nat x.1 1 (by omega) one_w9 10000 (by decide) w) rfl rfl) (show _ = Value.bool false by rw [decide_eq_true hd1]; rfl)) ?_
        refine aM 3 ?_
        refine aGD 4 rfl (dL rfl (hv:=by exact KI Try.underlying33 rfl sz_33)) ?_
        refine aGO 5 rfl (cF rfl en_116 rfl (fun w hw=>c_nat_Small 1 (by decide) w) ?_)
        refine aGP 6 rfl (KK (Det.eqa (by kernel_rfl) (fun w=>eq_nat m 1 hm one_w9 10000 (by decide) w) rfl rfl) (show _ = Value.bool true by rw [decide_eq_true hd2])) ?_
        refine aP 7 rfl (Kh rfl rfl) ?_
        refine aE ?_
        refine Kf rfl ?_
        refine KB (KA ?_)
        refine oP (Ky pl_33 zr_33 rfl rfl) ?_
        refine KV rfl (sA rfl rfl sz_33 (by repeat (first|exact Ka _|exact Kl _ _ _|exact Kc _|exact Kg _ _ _|exact Km _ _ _|exact KO|refine KJ rfl ?_|refine KP ?_ ?_)) (hl:=by first|exact KD _|exact KH _ _ _|exact KE _|exact KN _ _ _|exact KY _ _ _|rfl|simp [KH,KD,KE]) (h:=?_))
        refine oP (KZ (v:=.int .i64 ((401:Nat):Int)) rfl) ?_
        refine KC (KM ?_)
        have hng:¬ (Nat.gcd a m = 1∧m≠1):=by rw [hg]; exact fun h=>h.2 hd2
        refine ⟨[_,_],.cons ⟨_,_,_,rfl,(by repeat (first|exact Mh _|apply Mt)),by exact KI Try.underlying33 rfl sz_33⟩ (.cons rfl .nil),fun a' w' hr=>⟨?_,hr.fr.below⟩⟩
        rw [invM_none hng,if_neg hng]
        refine congrArg (fun l:List Value=>Ending.returned (.tuple #[.agg l.toArray,_])) ?_
        exact vec_zeros 9
      ·
        refine rD [] ?_
        refine aD 0 rfl (dL rfl (hv:=by exact KI Try.underlying33 rfl sz_33)) ?_
        refine aO 1 rfl (cF rfl en_116 rfl (fun w hw=>c_nat_Small 1 (by decide) w) ?_)
        refine aP 2 rfl (KK (Det.nea (by kernel_rfl) (fun w=>eq_nat x.1 1 (by omega) one_w9 10000 (by decide) w) rfl rfl) (show _ = Value.bool true by rw [decide_eq_false hd1]; rfl)) ?_
        refine aM 3 ?_
        refine aK 4 ?_
        refine aK 5 ?_
        refine aK 6 ?_
        refine aP 7 rfl (Kn rfl rfl) ?_
        refine aE ?_
        refine Kf rfl ?_
        refine KB (KA ?_)
        refine oP (Ky pl_33 zr_33 rfl rfl) ?_
        refine KV rfl (sA rfl rfl sz_33 (by repeat (first|exact Ka _|exact Kl _ _ _|exact Kc _|exact Kg _ _ _|exact Km _ _ _|exact KO|refine KJ rfl ?_|refine KP ?_ ?_)) (hl:=by first|exact KD _|exact KH _ _ _|exact KE _|exact KN _ _ _|exact KY _ _ _|rfl|simp [KH,KD,KE]) (h:=?_))
        refine oP (KZ (v:=.int .i64 ((401:Nat):Int)) rfl) ?_
        refine KC (KM ?_)
        have hng:¬ (Nat.gcd a m = 1∧m≠1):=by rw [hg]; exact fun h=>hd1 h.1
        refine ⟨[_,_],.cons ⟨_,_,_,rfl,(by repeat (first|exact Mh _|apply Mt)),by exact KI Try.underlying33 rfl sz_33⟩ (.cons rfl .nil),fun a' w' hr=>⟨?_,hr.fr.below⟩⟩
        rw [invM_none hng,if_neg hng]
        refine congrArg (fun l:List Value=>Ending.returned (.tuple #[.agg l.toArray,_])) ?_
        exact vec_zeros 9
    ·
      refine KA ?_
      refine oS (cF rfl en_159 rfl (fun w hw=>c_zero x.2.1 b10 _ w (mC hw) (by omega)) ?_)
      refine oP (KK (Det.not rfl) (show _ = Value.bool true by rw [decide_eq_false (by omega)]; rfl)) ?_
      refine KC ?_
      have h0:x.2.1≠0:=by omega
      have hm1:1<m:=by
        rcases Nat.lt_or_ge 1 m with h|h
        · exact h
        · exact absurd (hx9 (by omega)) h0
      refine Kf rfl ?_
      refine KT ?_
      refine LCode.block ?_
      refine KB (KA ?_)
      refine oD (dL rfl (hv:=by exact KI Try.underlying33 rfl sz_33)) ?_
      refine oD (dL rfl (hv:=by exact KI Try.underlying33 rfl sz_33)) ?_
      refine oS (cF rfl en_160 rfl (fun w hw=>c_Div x.1 x.2.1 h0 w (by omega) (by omega)) ?_)
      refine oM ?_
      refine oP (KW rfl rfl) ?_
      refine oP (KW rfl rfl) ?_
      refine oP (KW rfl rfl) ?_
      refine oS (mk (KX zr_33) (fun b14=>?_))
      refine oS (mk (KX zr_33) (fun b15=>?_))
      refine KV rfl (sA rfl rfl sz_33 (by repeat (first|exact Ka _|exact Kl _ _ _|exact Kc _|exact Kg _ _ _|exact Km _ _ _|exact KO|refine KJ rfl ?_|refine KP ?_ ?_)) (hl:=by first|exact KD _|exact KH _ _ _|exact KE _|exact KN _ _ _|exact KY _ _ _|rfl|simp [KH,KD,KE]) (h:=?_))
      refine KV rfl (sA rfl rfl sz_33 (by repeat (first|exact Ka _|exact Kl _ _ _|exact Kc _|exact Kg _ _ _|exact Km _ _ _|exact KO|refine KJ rfl ?_|refine KP ?_ ?_)) (hl:=by first|exact KD _|exact KH _ _ _|exact KE _|exact KN _ _ _|exact KY _ _ _|rfl|simp [KH,KD,KE]) (h:=?_))
      refine oA ?_
      refine KC ?_
      refine LCode.cut (α:=Unit) (fun _=>True) (fun _=>⟨[(2,.pointer (some ⟨b2,0,none⟩)),(3,.pointer (some ⟨b3,0,none⟩)),(4,.pointer (some ⟨b4,0,none⟩)),(9,.pointer (some ⟨b9,0,none⟩)),(10,.pointer (some ⟨b10,0,none⟩)),(11,.pointer (some ⟨b11,0,none⟩)),(12,.pointer (some ⟨b12,0,none⟩)),(13,.pointer (some ⟨b13,0,none⟩)),(14,.pointer (some ⟨b14,0,none⟩))],[.blk b9 ⟨true,natL (x.2.1),33,(0,0)⟩,.blk b10 ⟨true,natL (x.1%x.2.1),33,(0,0)⟩,.blk b11 ⟨true,natL (x.2.2.1),33,(0,0)⟩,.blk b12 ⟨true,natL (x.2.2.2),33,(0,0)⟩,.blk b14 ⟨true,natL (x.1/x.2.1),33,(0,0)⟩,.blk b13 ⟨true,[.pointer (some ⟨bd,0,none⟩)],160,(0,0)⟩,.blk b4 ⟨true,vec .u64 9 (fun _=>0),33,(0,0)⟩,.blk b3 ⟨true,natL (m),33,(0,0)⟩,.blk b2 ⟨true,natL (a),33,(0,0)⟩,.blk bd ⟨false,dvL m,212,(0,0)⟩]⟩) ?_ ?_
      ·
        refine rD [2,3] ?_
        refine aD 0 rfl (dL rfl (hv:=by exact KI Try.underlying33 rfl sz_33)) ?_
        refine LAny.twoX 1 2 rfl rfl rfl rfl (by kernel_rfl) (.inr (LStep.det (dL rfl (hv:=by exact KI Try.underlying33 rfl sz_33)) (Nb rfl) ?_)) (.inl ⟨rfl,sA rfl rfl sz_33 (by repeat (first|exact Ka _|exact Kl _ _ _|exact Kc _|exact Kg _ _ _|exact Km _ _ _|exact KO|refine KJ rfl ?_|refine KP ?_ ?_)) (hl:=by first|exact KD _|exact KH _ _ _|exact KE _|exact KN _ _ _|exact KY _ _ _|rfl|simp [KH,KD,KE]) (h:=?_)⟩)
        ·
          refine aL 2 rfl (sA rfl rfl sz_33 (by repeat (first|exact Ka _|exact Kl _ _ _|exact Kc _|exact Kg _ _ _|exact Km _ _ _|exact KO|refine KJ rfl ?_|refine KP ?_ ?_)) (hl:=by first|exact KD _|exact KH _ _ _|exact KE _|exact KN _ _ _|exact KY _ _ _|rfl|simp [KH,KD,KE]) (h:=?_))
          refine aL 3 rfl (sA rfl rfl sz_33 (by repeat (first|exact Ka _|exact Kl _ _ _|exact Kc _|exact Kg _ _ _|exact Km _ _ _|exact KO|refine KJ rfl ?_|refine KP ?_ ?_)) (hl:=by first|exact KD _|exact KH _ _ _|exact KE _|exact KN _ _ _|exact KY _ _ _|rfl|simp [KH,KD,KE]) (h:=?_))
          refine aE ?_
          exact ⟨(),trivial,Kq ⟨rfl,rfl,rfl,rfl,rfl,rfl,rfl,rfl,rfl,trivial⟩ (by repeat (first|exact Sel.nil _|refine Sel.cons (by repeat (first|exact Ph _|apply Pt_)) ?_))⟩
        ·
          refine aD 1 rfl (dL rfl (hv:=by exact KI Try.underlying33 rfl sz_33)) ?_
          refine aL 3 rfl (sA rfl rfl sz_33 (by repeat (first|exact Ka _|exact Kl _ _ _|exact Kc _|exact Kg _ _ _|exact Km _ _ _|exact KO|refine KJ rfl ?_|refine KP ?_ ?_)) (hl:=by first|exact KD _|exact KH _ _ _|exact KE _|exact KN _ _ _|exact KY _ _ _|rfl|simp [KH,KD,KE]) (h:=?_))
          refine aE ?_
          exact ⟨(),trivial,Kq ⟨rfl,rfl,rfl,rfl,rfl,rfl,rfl,rfl,rfl,trivial⟩ (by repeat (first|exact Sel.nil _|refine Sel.cons (by repeat (first|exact Ph _|apply Pt_)) ?_))⟩
      ·
        rintro _ _
        refine KB (KA ?_)
        refine oD (dL rfl (hv:=by exact KI Try.underlying160 rfl sz_160)) ?_
        refine oD (dL rfl (hv:=by exact KI Try.underlying33 rfl sz_33)) ?_
        refine oD (dL rfl (hv:=by exact KI Try.underlying33 rfl sz_33)) ?_
        refine oS (cF rfl en_145 rfl (fun w hw=>c_Mul m (x.1/x.2.1) x.2.2.2 bd hm0 hm w (mC hw) (Nat.lt_of_le_of_lt (Nat.div_le_self _ _) (by omega)) (by have:=hx6 hm1; omega)) ?_)
        refine oS (mk (KX zr_33) (fun b17=>?_))
        refine KV rfl (sA rfl rfl sz_33 (by repeat (first|exact Ka _|exact Kl _ _ _|exact Kc _|exact Kg _ _ _|exact Km _ _ _|exact KO|refine KJ rfl ?_|refine KP ?_ ?_)) (hl:=by first|exact KD _|exact KH _ _ _|exact KE _|exact KN _ _ _|exact KY _ _ _|rfl|simp [KH,KD,KE]) (h:=?_))
        refine KC ?_
        refine KB (KA ?_)
        refine oD (dL rfl (hv:=by exact KI Try.underlying33 rfl sz_33)) ?_
        refine oD (dL rfl (hv:=by exact KI Try.underlying33 rfl sz_33)) ?_
        refine oS (cF rfl en_115 rfl (fun w hw=>c_nat_Sub x.2.2.1 (x.1/x.2.1*x.2.2.2%m) (by omega) (mod_w9 hm0 hm) w) ?_)
        refine oM ?_
        refine oP (KW rfl rfl) ?_
        refine oP (KW rfl rfl) ?_
        refine oS (mk (KX zr_33) (fun b18=>?_))
        refine KV rfl (sA rfl rfl sz_33 (by repeat (first|exact Ka _|exact Kl _ _ _|exact Kc _|exact Kg _ _ _|exact Km _ _ _|exact KO|refine KJ rfl ?_|refine KP ?_ ?_)) (hl:=by first|exact KD _|exact KH _ _ _|exact KE _|exact KN _ _ _|exact KY _ _ _|rfl|simp [KH,KD,KE]) (h:=?_))
        refine oA ?_
        refine KC ?_
        refine KB ?_
        refine KB (KA ?_)
        refine oM ?_
        refine KC ?_
        first|refine KS rfl (fun h56=>?_) (fun h56=>?_)|refine KU rfl (fun h56=>?_) (fun h56=>?_)
        ·
          have h56:x.2.2.1<x.1/x.2.1*x.2.2.2%m:=h56
          refine KA ?_
          refine oD (dL rfl (hv:=by exact KI Try.underlying33 rfl sz_33)) ?_
          refine oD (dL rfl (hv:=by exact KI Try.underlying33 rfl sz_33)) ?_
          refine oS (cF rfl en_144 rfl (fun w hw=>c_nat_Add (dif x.2.2.1 (x.1/x.2.1*x.2.2.2%m)) m (dif_lt _ _) hm w) ?_)
          refine oM ?_
          refine oP (KW rfl rfl) ?_
          refine oP (KW rfl rfl) ?_
          refine KV rfl (sA rfl rfl sz_33 (by repeat (first|exact Ka _|exact Kl _ _ _|exact Kc _|exact Kg _ _ _|exact Km _ _ _|exact KO|refine KJ rfl ?_|refine KP ?_ ?_)) (hl:=by first|exact KD _|exact KH _ _ _|exact KE _|exact KN _ _ _|exact KY _ _ _|rfl|simp [KH,KD,KE]) (h:=?_))
          refine KC ?_
          refine rD [2,3] ?_
          refine aD 0 rfl (dL rfl (hv:=by exact KI Try.underlying33 rfl sz_33)) ?_
          refine LAny.twoX 1 2 rfl rfl rfl rfl (by kernel_rfl) (.inr (LStep.det (dL rfl (hv:=by exact KI Try.underlying33 rfl sz_33)) (Nb rfl) ?_)) (.inl ⟨rfl,sA rfl rfl sz_33 (by repeat (first|exact Ka _|exact Kl _ _ _|exact Kc _|exact Kg _ _ _|exact Km _ _ _|exact KO|refine KJ rfl ?_|refine KP ?_ ?_)) (hl:=by first|exact KD _|exact KH _ _ _|exact KE _|exact KN _ _ _|exact KY _ _ _|rfl|simp [KH,KD,KE]) (h:=?_)⟩)
          ·
            refine aL 2 rfl (sA rfl rfl sz_33 (by repeat (first|exact Ka _|exact Kl _ _ _|exact Kc _|exact Kg _ _ _|exact Km _ _ _|exact KO|refine KJ rfl ?_|refine KP ?_ ?_)) (hl:=by first|exact KD _|exact KH _ _ _|exact KE _|exact KN _ _ _|exact KY _ _ _|rfl|simp [KH,KD,KE]) (h:=?_))
            refine aL 3 rfl (sA rfl rfl sz_33 (by repeat (first|exact Ka _|exact Kl _ _ _|exact Kc _|exact Kg _ _ _|exact Km _ _ _|exact KO|refine KJ rfl ?_|refine KP ?_ ?_)) (hl:=by first|exact KD _|exact KH _ _ _|exact KE _|exact KN _ _ _|exact KY _ _ _|rfl|simp [KH,KD,KE]) (h:=?_))
            refine aE ?_
            refine ⟨(x.2.1,x.1%x.2.1,x.2.2.2,lessM x.2.2.1 (x.1/x.2.1*x.2.2.2%m) m),⟨by dsimp only; omega,by dsimp only; have:=Nat.mod_lt x.1 (show 0<x.2.1 by omega); omega,hx6 hm1,fun _=>lessM_lt hx3 (Nat.mod_lt _ (by omega)),fun h=>absurd h (by omega),hx7,inv_step rfl hx3 (by omega) hx5 hx7,by show Nat.gcd x.2.1 (x.1%x.2.1) = _; rw [← hx8,Nat.gcd_comm x.2.1,← Nat.gcd_rec,Nat.gcd_comm]⟩,Nat.mod_lt _ (by omega),KAO (Sub.cells (b:=b12) (cs':=natL (lessM x.2.2.1 (x.1/x.2.1*x.2.2.2%m) m)) (by repeat (first|exact Sh _|apply St_)) ?_) (Kq ⟨rfl,rfl,rfl,rfl,rfl,rfl,rfl,rfl,trivial⟩ (by repeat (first|exact Sel.nil _|refine Sel.cons (by repeat (first|exact Ph _|apply Pt_)) ?_)))⟩
            rw [← less_word hx3 (Nat.mod_lt _ (by omega)) hm,if_pos h56]
          ·
            refine aD 1 rfl (dL rfl (hv:=by exact KI Try.underlying33 rfl sz_33)) ?_
            refine aL 3 rfl (sA rfl rfl sz_33 (by repeat (first|exact Ka _|exact Kl _ _ _|exact Kc _|exact Kg _ _ _|exact Km _ _ _|exact KO|refine KJ rfl ?_|refine KP ?_ ?_)) (hl:=by first|exact KD _|exact KH _ _ _|exact KE _|exact KN _ _ _|exact KY _ _ _|rfl|simp [KH,KD,KE]) (h:=?_))
            refine aE ?_
            refine ⟨(x.2.1,x.1%x.2.1,x.2.2.2,lessM x.2.2.1 (x.1/x.2.1*x.2.2.2%m) m),⟨by dsimp only; omega,by dsimp only; have:=Nat.mod_lt x.1 (show 0<x.2.1 by omega); omega,hx6 hm1,fun _=>lessM_lt hx3 (Nat.mod_lt _ (by omega)),fun h=>absurd h (by omega),hx7,inv_step rfl hx3 (by omega) hx5 hx7,by show Nat.gcd x.2.1 (x.1%x.2.1) = _; rw [← hx8,Nat.gcd_comm x.2.1,← Nat.gcd_rec,Nat.gcd_comm]⟩,Nat.mod_lt _ (by omega),KAO (Sub.cells (b:=b12) (cs':=natL (lessM x.2.2.1 (x.1/x.2.1*x.2.2.2%m) m)) (by repeat (first|exact Sh _|apply St_)) ?_) (Kq ⟨rfl,rfl,rfl,rfl,rfl,rfl,rfl,rfl,trivial⟩ (by repeat (first|exact Sel.nil _|refine Sel.cons (by repeat (first|exact Ph _|apply Pt_)) ?_)))⟩
            rw [← less_word hx3 (Nat.mod_lt _ (by omega)) hm,if_pos h56]
        ·
          have h56:¬ x.2.2.1<x.1/x.2.1*x.2.2.2%m:=h56
          refine KT ?_
          refine rD [2,3] ?_
          refine aD 0 rfl (dL rfl (hv:=by exact KI Try.underlying33 rfl sz_33)) ?_
          refine LAny.twoX 1 2 rfl rfl rfl rfl (by kernel_rfl) (.inr (LStep.det (dL rfl (hv:=by exact KI Try.underlying33 rfl sz_33)) (Nb rfl) ?_)) (.inl ⟨rfl,sA rfl rfl sz_33 (by repeat (first|exact Ka _|exact Kl _ _ _|exact Kc _|exact Kg _ _ _|exact Km _ _ _|exact KO|refine KJ rfl ?_|refine KP ?_ ?_)) (hl:=by first|exact KD _|exact KH _ _ _|exact KE _|exact KN _ _ _|exact KY _ _ _|rfl|simp [KH,KD,KE]) (h:=?_)⟩)
          ·
            refine aL 2 rfl (sA rfl rfl sz_33 (by repeat (first|exact Ka _|exact Kl _ _ _|exact Kc _|exact Kg _ _ _|exact Km _ _ _|exact KO|refine KJ rfl ?_|refine KP ?_ ?_)) (hl:=by first|exact KD _|exact KH _ _ _|exact KE _|exact KN _ _ _|exact KY _ _ _|rfl|simp [KH,KD,KE]) (h:=?_))
            refine aL 3 rfl (sA rfl rfl sz_33 (by repeat (first|exact Ka _|exact Kl _ _ _|exact Kc _|exact Kg _ _ _|exact Km _ _ _|exact KO|refine KJ rfl ?_|refine KP ?_ ?_)) (hl:=by first|exact KD _|exact KH _ _ _|exact KE _|exact KN _ _ _|exact KY _ _ _|rfl|simp [KH,KD,KE]) (h:=?_))
            refine aE ?_
            refine ⟨(x.2.1,x.1%x.2.1,x.2.2.2,lessM x.2.2.1 (x.1/x.2.1*x.2.2.2%m) m),⟨by dsimp only; omega,by dsimp only; have:=Nat.mod_lt x.1 (show 0<x.2.1 by omega); omega,hx6 hm1,fun _=>lessM_lt hx3 (Nat.mod_lt _ (by omega)),fun h=>absurd h (by omega),hx7,inv_step rfl hx3 (by omega) hx5 hx7,by show Nat.gcd x.2.1 (x.1%x.2.1) = _; rw [← hx8,Nat.gcd_comm x.2.1,← Nat.gcd_rec,Nat.gcd_comm]⟩,Nat.mod_lt _ (by omega),KAO (Sub.cells (b:=b12) (cs':=natL (lessM x.2.2.1 (x.1/x.2.1*x.2.2.2%m) m)) (by repeat (first|exact Sh _|apply St_)) ?_) (Kq ⟨rfl,rfl,rfl,rfl,rfl,rfl,rfl,rfl,trivial⟩ (by repeat (first|exact Sel.nil _|refine Sel.cons (by repeat (first|exact Ph _|apply Pt_)) ?_)))⟩
            rw [← less_word hx3 (Nat.mod_lt _ (by omega)) hm,if_neg h56]
          ·
            refine aD 1 rfl (dL rfl (hv:=by exact KI Try.underlying33 rfl sz_33)) ?_
            refine aL 3 rfl (sA rfl rfl sz_33 (by repeat (first|exact Ka _|exact Kl _ _ _|exact Kc _|exact Kg _ _ _|exact Km _ _ _|exact KO|refine KJ rfl ?_|refine KP ?_ ?_)) (hl:=by first|exact KD _|exact KH _ _ _|exact KE _|exact KN _ _ _|exact KY _ _ _|rfl|simp [KH,KD,KE]) (h:=?_))
            refine aE ?_
            refine ⟨(x.2.1,x.1%x.2.1,x.2.2.2,lessM x.2.2.1 (x.1/x.2.1*x.2.2.2%m) m),⟨by dsimp only; omega,by dsimp only; have:=Nat.mod_lt x.1 (show 0<x.2.1 by omega); omega,hx6 hm1,fun _=>lessM_lt hx3 (Nat.mod_lt _ (by omega)),fun h=>absurd h (by omega),hx7,inv_step rfl hx3 (by omega) hx5 hx7,by show Nat.gcd x.2.1 (x.1%x.2.1) = _; rw [← hx8,Nat.gcd_comm x.2.1,← Nat.gcd_rec,Nat.gcd_comm]⟩,Nat.mod_lt _ (by omega),KAO (Sub.cells (b:=b12) (cs':=natL (lessM x.2.2.1 (x.1/x.2.1*x.2.2.2%m) m)) (by repeat (first|exact Sh _|apply St_)) ?_) (Kq ⟨rfl,rfl,rfl,rfl,rfl,rfl,rfl,rfl,trivial⟩ (by repeat (first|exact Sel.nil _|refine Sel.cons (by repeat (first|exact Ph _|apply Pt_)) ?_)))⟩
            rw [← less_word hx3 (Nat.mod_lt _ (by omega)) hm,if_neg h56]
end Go.Proofs.Ytlmiolnccgjjjaa
set_option linter.unusedVariables false
set_option linter.unusedSimpArgs false
set_option maxRecDepth 20000
namespace Go.Proofs.Ytlmiolnccgjjjaa
open Go Go.RowKit
def fldL (p bd:Nat):List Value:=natL p++[.pointer (some ⟨bd,0,none⟩)]
theorem cmp_lt {A B:Nat}:Kw .lss .i64 (cmpI A B) .i64 0 = some (.bool (decide (A<B))):=by
  unfold cmpI
  by_cases h:A<B
  · rw [if_pos h,decide_eq_true h]; rfl
  · rw [if_neg h,decide_eq_false h]; split <;> rfl
theorem c_nat_AddS (A B:Nat) (w:World) (h:A+B<W9):Calls Try.prog 144 ([natV A,natV B]:List Value).toArray w (fun e w'=>e = .returned (.tuple #[natV (A+B),.bool false])∧Below w.heap.size w w'):=by
  have h1:=c_nat_Add A B (by omega) (by omega) w
  rwa [Nat.mod_eq_of_lt h,decide_eq_false (by omega)] at h1
theorem c_nat_SubS (A B:Nat) (w:World) (hA:A<W9) (h:B≤A):Calls Try.prog 115 ([natV A,natV B]:List Value).toArray w (fun e w'=>e = .returned (.tuple #[natV (A-B),.bool false])∧Below w.heap.size w w'):=by
  have h1:=c_nat_Sub A B hA (by omega) w
  have e:dif A B = A-B:=by
    unfold dif
    generalize W9 = M at *
    rw [show A+M-B = A-B+M by omega,Nat.add_mod_right,Nat.mod_eq_of_lt (by omega)]
  rwa [e,decide_eq_false (by omega)] at h1
theorem c_nat_SubU (A B:Nat) (w:World) (hB:B<W9) (h:A<B):Calls Try.prog 115 ([natV A,natV B]:List Value).toArray w (fun e w'=>e = .returned (.tuple #[natV (dif A B),.bool true])∧Below w.heap.size w w'):=by
  have h1:=c_nat_Sub A B (by omega) hB w
  rwa [decide_eq_true h] at h1
theorem dif_back {A B p:Nat} (hp:p<W9) (hB:B<p) (h:A<B):(dif A B+p)%W9 = A+p-B:=by
  unfold dif
  generalize W9 = M at *
  rw [Nat.mod_eq_of_lt (show A+M-B<M by omega),show A+M-B+p = A+p-B+M by omega,Nat.add_mod_right,Nat.mod_eq_of_lt (by omega)]
theorem w9_half {p:Nat} (h:p<P521):p+p<W9:=by
  obtain ⟨j,hj⟩:∃ j:Nat,j = 65:=⟨65,rfl⟩
  obtain ⟨k,hk⟩:∃ k:Nat,k = 9:=⟨9,rfl⟩
  rw [← p521 hj] at h
  rw [← w9 hk]
  have h2:2^(8*j+1+1)≤2^(64*k):=Nat.pow_le_pow_right (by decide) (by omega)
  rw [Nat.pow_succ] at h2
  omega
theorem c_prime (id:Int) (w:World)  : Calls Try.prog 139 ([.int .i64 id]:List Value).toArray w (fun e w'=>(∃ V,cvI id = some V∧∃ s,e = .returned (.string s)∧(hexB s V.p && !s.data.toList.isEmpty) = true∧Below w.heap.size w w')∨(cvI id = none∧e = .returned (.string ⟨#[]⟩)∧Below w.heap.size w w')):=by
  refine Ki (N:=34) (rs:=[.tmp 2]) [] Try.func139 rfl Try.ntmps139 Try.results139 (Nb rfl) trivial rfl ?_
  show LCode _ _ _ ⟨_,_⟩ _
  refine KB (KA ?_)
  refine oA ?_
  refine KC ?_
  refine KB ?_
  refine KB (KA ?_)
  refine oM ?_
  refine KC ?_
  refine LCode.block ?_
  refine KB (KA ?_)
  refine oP (KF (v:=.bool (decide (id = 1))) rfl rfl KAN) ?_
  refine oA ?_
  refine KC ?_
  first|refine KS rfl (fun hk1=>?_) (fun hk1=>?_)|refine KU rfl (fun hk1=>?_) (fun hk1=>?_)
  ·
    refine KB (KA ?_)
    refine oA ?_
    refine KC (KM ?_)
    refine ⟨[_],.cons rfl .nil,fun a w' hr=>.inl ⟨cv1,by rw [hk1]; rfl,_,rfl,by kernel_rfl,hr.fr.below⟩⟩
  ·
    refine KB (KA ?_)
    refine oP (KF (v:=.bool (decide (id = 2))) rfl rfl KAN) ?_
    refine oA ?_
    refine KC ?_
    first|refine KS rfl (fun hk2=>?_) (fun hk2=>?_)|refine KU rfl (fun hk2=>?_) (fun hk2=>?_)
    ·
      refine KB (KA ?_)
      refine oA ?_
      refine KC (KM ?_)
      refine ⟨[_],.cons rfl .nil,fun a w' hr=>.inl ⟨cv2,by rw [hk2]; rfl,_,rfl,by kernel_rfl,hr.fr.below⟩⟩
    ·
      refine KB (KA ?_)
      refine oP (KF (v:=.bool (decide (id = 3))) rfl rfl KAN) ?_
      refine oA ?_
      refine KC ?_
      first|refine KS rfl (fun hk3=>?_) (fun hk3=>?_)|refine KU rfl (fun hk3=>?_) (fun hk3=>?_)
      ·
        refine KB (KA ?_)
        refine oA ?_
        refine KC (KM ?_)
        refine ⟨[_],.cons rfl .nil,fun a w' hr=>.inl ⟨cv3,by rw [hk3]; rfl,_,rfl,by kernel_rfl,hr.fr.below⟩⟩
      ·
        refine KB (KA ?_)
        refine oP (KF (v:=.bool (decide (id = 4))) rfl rfl KAN) ?_
        refine oA ?_
        refine KC ?_
        first|refine KS rfl (fun hk4=>?_) (fun hk4=>?_)|refine KU rfl (fun hk4=>?_) (fun hk4=>?_)
        ·
          refine KB (KA ?_)
          refine oA ?_
          refine KC (KM ?_)
          refine ⟨[_],.cons rfl .nil,fun a w' hr=>.inl ⟨cv4,by rw [hk4]; rfl,_,rfl,by kernel_rfl,hr.fr.below⟩⟩
        ·
          refine KB (KA ?_)
          refine oP (KF (v:=.bool (decide (id = 5))) rfl rfl KAN) ?_
          refine oA ?_
          refine KC ?_
          first|refine KS rfl (fun hk5=>?_) (fun hk5=>?_)|refine KU rfl (fun hk5=>?_) (fun hk5=>?_)
          ·
            refine KB (KA ?_)
            refine oA ?_
            refine KC (KM ?_)
            refine ⟨[_],.cons rfl .nil,fun a w' hr=>.inl ⟨cv5,by rw [hk5]; rfl,_,rfl,by kernel_rfl,hr.fr.below⟩⟩
          ·
            refine KB (KA ?_)
            refine oP (KF (v:=.bool (decide (id = 6))) rfl rfl KAN) ?_
            refine oA ?_
            refine KC ?_
            first|refine KS rfl (fun hk6=>?_) (fun hk6=>?_)|refine KU rfl (fun hk6=>?_) (fun hk6=>?_)
            ·
              refine KB (KA ?_)
              refine oA ?_
              refine KC (KM ?_)
              refine ⟨[_],.cons rfl .nil,fun a w' hr=>.inl ⟨cv6,by rw [hk6]; rfl,_,rfl,by kernel_rfl,hr.fr.below⟩⟩
            ·
              refine KB (KA ?_)
              refine oP (KF (v:=.bool (decide (id = 7))) rfl rfl KAN) ?_
              refine oA ?_
              refine KC ?_
              first|refine KS rfl (fun hk7=>?_) (fun hk7=>?_)|refine KU rfl (fun hk7=>?_) (fun hk7=>?_)
              ·
                refine KB (KA ?_)
                refine oA ?_
                refine KC (KM ?_)
                refine ⟨[_],.cons rfl .nil,fun a w' hr=>.inl ⟨cv7,by rw [hk7]; rfl,_,rfl,by kernel_rfl,hr.fr.below⟩⟩
              ·
                refine KB (KA ?_)
                refine oP (KF (v:=.bool (decide (id = 8))) rfl rfl KAN) ?_
                refine oA ?_
                refine KC ?_
                first|refine KS rfl (fun hk8=>?_) (fun hk8=>?_)|refine KU rfl (fun hk8=>?_) (fun hk8=>?_)
                ·
                  refine KB (KA ?_)
                  refine oA ?_
                  refine KC (KM ?_)
                  refine ⟨[_],.cons rfl .nil,fun a w' hr=>.inl ⟨cv8,by rw [hk8]; rfl,_,rfl,by kernel_rfl,hr.fr.below⟩⟩
                ·
                  refine KB (KA ?_)
                  refine oP (KF (v:=.bool (decide (id = 9))) rfl rfl KAN) ?_
                  refine oA ?_
                  refine KC ?_
                  first|refine KS rfl (fun hk9=>?_) (fun hk9=>?_)|refine KU rfl (fun hk9=>?_) (fun hk9=>?_)
                  ·
                    refine KB (KA ?_)
                    refine oA ?_
                    refine KC (KM ?_)
                    refine ⟨[_],.cons rfl .nil,fun a w' hr=>.inl ⟨cv9,by rw [hk9]; rfl,_,rfl,by kernel_rfl,hr.fr.below⟩⟩
                  ·
                    refine KB (KA ?_)
                    refine oP (KF (v:=.bool (decide (id = 10))) rfl rfl KAN) ?_
                    refine oA ?_
                    refine KC ?_
                    first|refine KS rfl (fun hk10=>?_) (fun hk10=>?_)|refine KU rfl (fun hk10=>?_) (fun hk10=>?_)
                    ·
                      refine KB (KA ?_)
                      refine oA ?_
                      refine KC (KM ?_)
                      refine ⟨[_],.cons rfl .nil,fun a w' hr=>.inl ⟨cv10,by rw [hk10]; rfl,_,rfl,by kernel_rfl,hr.fr.below⟩⟩
                    ·
                      refine KB (KA ?_)
                      refine oP (KF (v:=.bool (decide (id = 11))) rfl rfl KAN) ?_
                      refine oA ?_
                      refine KC ?_
                      first|refine KS rfl (fun hk11=>?_) (fun hk11=>?_)|refine KU rfl (fun hk11=>?_) (fun hk11=>?_)
                      ·
                        refine KB (KA ?_)
                        refine oA ?_
                        refine KC (KM ?_)
                        refine ⟨[_],.cons rfl .nil,fun a w' hr=>.inl ⟨cv11,by rw [hk11]; rfl,_,rfl,by kernel_rfl,hr.fr.below⟩⟩
                      ·
                        refine KB (KA ?_)
                        refine oP (KF (v:=.bool (decide (id = 12))) rfl rfl KAN) ?_
                        refine oA ?_
                        refine KC ?_
                        first|refine KS rfl (fun hk12=>?_) (fun hk12=>?_)|refine KU rfl (fun hk12=>?_) (fun hk12=>?_)
                        ·
                          refine KB (KA ?_)
                          refine oA ?_
                          refine KC (KM ?_)
                          refine ⟨[_],.cons rfl .nil,fun a w' hr=>.inl ⟨cv12,by rw [hk12]; rfl,_,rfl,by kernel_rfl,hr.fr.below⟩⟩
                        ·
                          refine KB (KA ?_)
                          refine oP (KF (v:=.bool (decide (id = 13))) rfl rfl KAN) ?_
                          refine oA ?_
                          refine KC ?_
                          first|refine KS rfl (fun hk13=>?_) (fun hk13=>?_)|refine KU rfl (fun hk13=>?_) (fun hk13=>?_)
                          ·
                            refine KB (KA ?_)
                            refine oA ?_
                            refine KC (KM ?_)
                            refine ⟨[_],.cons rfl .nil,fun a w' hr=>.inl ⟨cv13,by rw [hk13]; rfl,_,rfl,by kernel_rfl,hr.fr.below⟩⟩
                          ·
                            refine KB (KA ?_)
                            refine oP (KF (v:=.bool (decide (id = 14))) rfl rfl KAN) ?_
                            refine oA ?_
                            refine KC ?_
                            first|refine KS rfl (fun hk14=>?_) (fun hk14=>?_)|refine KU rfl (fun hk14=>?_) (fun hk14=>?_)
                            ·
                              refine KB (KA ?_)
                              refine oA ?_
                              refine KC (KM ?_)
                              refine ⟨[_],.cons rfl .nil,fun a w' hr=>.inl ⟨cv14,by rw [hk14]; rfl,_,rfl,by kernel_rfl,hr.fr.below⟩⟩
                            ·
                              refine KB (KA ?_)
                              refine oP (KF (v:=.bool (decide (id = 15))) rfl rfl KAN) ?_
                              refine oA ?_
                              refine KC ?_
                              first|refine KS rfl (fun hk15=>?_) (fun hk15=>?_)|refine KU rfl (fun hk15=>?_) (fun hk15=>?_)
                              ·
                                refine KB (KA ?_)
                                refine oA ?_
                                refine KC (KM ?_)
                                refine ⟨[_],.cons rfl .nil,fun a w' hr=>.inl ⟨cv15,by rw [hk15]; rfl,_,rfl,by kernel_rfl,hr.fr.below⟩⟩
                              ·
                                refine KT ?_
                                refine KB (KA ?_)
                                refine oA ?_
                                refine KC (KM ?_)
                                refine ⟨[_],.cons rfl .nil,fun a w' hr=>.inr ⟨cvI_none hk1 hk2 hk3 hk4 hk5 hk6 hk7 hk8 hk9 hk10 hk11 hk12 hk13 hk14 hk15,rfl,hr.fr.below⟩⟩
theorem c_prime_none (id:Int) (w:World) (h:cvI id = none):Calls Try.prog 139 ([.int .i64 id]:List Value).toArray w (fun e w'=>e = .returned (.string ⟨#[]⟩)∧Below w.heap.size w w') :=
  (c_prime id w).mono fun e w' h'=>by
    rcases h' with ⟨V,hV,_⟩|⟨_,h1,h2⟩
    · rw [h] at hV; cases hV
    · exact ⟨h1,h2⟩
theorem c_prime_some (id:Int) (V:Cv) (w:World) (h:cvI id = some V):Calls Try.prog 139 ([.int .i64 id]:List Value).toArray w (fun e w'=>∃ v,(∃ s,v = .string s∧hexB s V.p = true∧s.data.toList≠[])∧e = .returned v∧Below w.heap.size w w') :=
  (c_prime id w).mono fun e w' h'=>by
    rcases h' with ⟨V',hV,s,h1,h2,h3⟩|⟨h1,_⟩
    · rw [h] at hV; cases hV
      simp only [Bool.and_eq_true] at h2
      exact ⟨_,⟨s,rfl,h2.1,fun e=>by rw [e] at h2; cases h2.2⟩,h1,h3⟩
    · rw [h] at h1; cases h1
theorem hex_step {l:List UInt8} {x:Nat} (h:x<l.length):hexVal (l.drop (l.length-(x+1))) = hexD (l.getD (l.length-1-x) 0).toNat*16^x+hexVal (l.drop (l.length-x)):=by
  rw [drop_step h,hexVal,List.length_drop,show l.length-(l.length-x) = x by omega]
theorem hex_drop {l:List UInt8} (hok:hexOK l = true) (x:Nat) (h:x≤l.length):hexVal (l.drop (l.length-x))<16^x:=by
  have:=hexVal_lt (hexOK_drop hok (l.length-x))
  rwa [List.length_drop,show l.length-(l.length-x) = x by omega] at this
theorem c_f_Hex (s:ByteArray) (w:World) (hok:hexOK s.data.toList = true) (hs:s.size≤144):Calls Try.prog 114 ([.string s]:List Value).toArray w (fun e w'=>e = .returned (natV (hexVal s.data.toList))∧Below w.heap.size w w'):=by
  refine Ki (N:=47) (rs:=[.cell 2 33]) [] Try.func114 rfl Try.ntmps114 Try.results114 (Nb rfl) trivial rfl ?_
  show LCode _ _ _ ⟨_,_⟩ _
  refine KB (KA ?_)
  refine oS (mk (KX zr_33) (fun b2=>?_))
  refine KC ?_
  refine KB (KA ?_)
  refine oS (mk (KX zr_33) (fun b3=>?_))
  refine KC ?_
  refine KB ?_
  refine KB (KA ?_)
  refine oM ?_
  refine oP (Det.lens Try.underlying9 rfl) ?_
  refine oP (KAB (v:=.int .i64 ((0:Nat):Int)) rfl) ?_
  refine KC ?_
  refine LCode.block ?_
  refine Ks (α:=Nat) (fun x=>x≤s.size) (fun x=>⟨[(0,.string s),(2,.pointer (some ⟨b2,0,none⟩)),(3,.pointer (some ⟨b3,0,none⟩)),(8,.int .i64 ((s.size:Nat):Int)),(9,.int .i64 ((x:Nat):Int))],[.blk b3 ⟨true,natL (hexVal (s.data.toList.drop (s.size-(x)))),33,(0,0)⟩,.blk b2 ⟨true,vec .u64 9 (fun _=>0),33,(0,0)⟩]⟩) (fun x=>s.size-x) (0) (Nat.zero_le _) (KAO (Sub.cells (b:=b3) (cs':=natL (hexVal (s.data.toList.drop (s.size-(0))))) (by repeat (first|exact Sh _|apply St_)) (by rw [Nat.sub_zero,← size_list,List.drop_length]; exact vec_zeros 9)) (Kq ⟨rfl,rfl,rfl,rfl,rfl,trivial⟩ (by repeat (first|exact Sel.nil _|refine Sel.cons (by repeat (first|exact Ph _|apply Pt_)) ?_)))) ?_
  intro x hx
  refine KB (KA ?_)
  refine oP (KF rfl rfl (KAT)) ?_
  refine KC ?_
  refine KB ?_
  first|refine KS rfl (fun h10=>?_) (fun h10=>?_)|refine KU rfl (fun h10=>?_) (fun h10=>?_)
  ·
    have h10:x<s.size:=h10
    refine KT ?_
    refine KB ?_
    refine LCode.block ?_
    refine KB ?_
    have hdg:=hexOK_get hok (x:=s.size-1-x) (by show s.size-1-x<s.size; omega)
    refine KA ?_
    refine oM ?_
    refine oA ?_
    refine KC ?_
    refine KB (KA ?_)
    refine oM ?_
    refine oP (Det.lens Try.underlying9 rfl) ?_
    refine oP (KF rfl rfl (br_sub (b:=1) (by omega) (by omega))) ?_
    refine oM ?_
    refine oP (KF rfl rfl (br_sub (by omega) (by omega))) ?_
    refine oA ?_
    refine KC ?_
    refine KB (KA ?_)
    refine oM ?_
    refine oM ?_
    refine oP (KK (Det.indexStr Try.underlying9 rfl rfl (by omega) (by omega)) (vi (b:=(s.data.toList.getD (s.size-1-x) 0).toNat) (by rw [Int.toNat_natCast]))) ?_
    refine oP (KF (v:=.int .u8 (((s.data.toList.getD (s.size-1-x) 0).toNat-48:Nat):Int)) rfl rfl (br_sub8 (a:=(s.data.toList.getD (s.size-1-x) 0).toNat) (b:=48) (by omega) (by omega))) ?_
    refine oP (KAE Try.underlying5 Try.underlying30 rfl (by first|omega|exact Nat.lt_trans (D.limb_lt _ _) (by decide))) ?_
    refine oA ?_
    refine KC ?_
    refine KB ?_
    refine KB (KA ?_)
    refine oM ?_
    refine oM ?_
    refine oP (KK (Det.indexStr Try.underlying9 rfl rfl (by omega) (by omega)) (vi (b:=(s.data.toList.getD (s.size-1-x) 0).toNat) (by rw [Int.toNat_natCast]))) ?_
    refine oP (KF rfl rfl (br_geq (b:=97))) ?_
    refine KC ?_
    first|refine KS rfl (fun h25=>?_) (fun h25=>?_)|refine KU rfl (fun h25=>?_) (fun h25=>?_)
    ·
      have h25:97≤(s.data.toList.getD (s.size-1-x) 0).toNat:=by have:=h25; omega
      refine KA ?_
      refine oM ?_
      refine oM ?_
      refine oP (KK (Det.indexStr Try.underlying9 rfl rfl (by omega) (by omega)) (vi (b:=(s.data.toList.getD (s.size-1-x) 0).toNat) (by rw [Int.toNat_natCast]))) ?_
      refine oP (KF (v:=.int .u8 (((s.data.toList.getD (s.size-1-x) 0).toNat-97:Nat):Int)) rfl rfl (br_sub8 (a:=(s.data.toList.getD (s.size-1-x) 0).toNat) (b:=97) (by omega) (by omega))) ?_
      refine oP (KAE Try.underlying5 Try.underlying30 rfl (by first|omega|exact Nat.lt_trans (D.limb_lt _ _) (by decide))) ?_
      refine oP (KF rfl rfl (KAM (b:=10))) ?_
      refine oA ?_
      refine KC ?_
      refine rD [13] ?_
      refine aM 0 ?_
      refine aP 1 rfl (KF rfl rfl (br_quo (b:=16) (by omega) (by omega))) ?_
      refine aP 2 rfl (KG (o':=0) Try.underlying33 rfl rfl rfl sz_31 (by decide)) ?_
      refine aP 3 rfl (Kr Try.underlying31 sz_30 rfl rfl (by omega)) ?_
      refine aD 4 rfl (dL rfl (hv:=KL Try.underlying30 rfl (by exact Kd _ (show x/16<9 by omega)))) ?_
      refine aM 5 ?_
      refine aM 6 ?_
      refine aP 7 rfl (KF rfl rfl (br_rem (b:=16) (by omega))) ?_
      refine aP 8 rfl (KF rfl rfl (br_mul (a:=4) (by omega))) ?_
      refine aP 9 rfl (KF rfl rfl (br_shl64)) ?_
      refine aP 10 rfl (KF rfl rfl (br_or64 (limb_lt _ _) (Nat.mod_lt _ (by decide)))) ?_
      refine aP 11 rfl (KG (o':=0) Try.underlying33 rfl rfl rfl sz_31 (by decide)) ?_
      refine aP 12 rfl (Kr Try.underlying31 sz_30 rfl rfl (by omega)) ?_
      refine aL 13 rfl (Kj rfl rfl rfl sz_30 (by repeat (first|exact Sh _|apply St_)) (by first|(simp only [KH,KD,KE,Kt]; omega)|(simp; done)|(simp; omega)) (by first|exact KAH _ _ _ _ _|exact KAJ _ _ _ _ (by omega)|exact KAI _ _ _ _|rfl) (by simp) ?_)
      refine aE ?_
      refine KA ?_
      refine oP (KF rfl rfl (Kv (b:=1) (by omega))) ?_
      refine oM ?_
      refine KC ?_
      have hb:=limb_piece64 (V:=hexVal (s.data.toList.drop (s.size-(x)))) (y:=hexD (s.data.toList.getD (s.size-1-x) 0).toNat) (s:=4) (w:=16) (i:=x/16) (k:=x%16) rfl (Nat.mod_lt _ (by decide)) (by rw [show 16*(x/16)+x%16 = x by omega,← pow16]; exact hex_drop hok x hx) (hexD_lt hok (by show s.size-1-x<s.size; omega))
      refine ⟨x+1,by omega,by omega,KAO (Sub.cells (b:=b3) (cs':=natL (hexVal (s.data.toList.drop (s.size-(x+1))))) (by repeat (first|exact Sh _|apply St_)) ?_) (Kq ⟨rfl,rfl,rfl,rfl,rfl,trivial⟩ (by repeat (first|exact Sel.nil _|refine Sel.cons (by repeat (first|exact Ph _|apply Pt_)) ?_)))⟩
      have hs:=hex_step (l:=s.data.toList) (x:=x) h10
      rw [size_list] at hs
      rw [hs]
      have e:16^x = 2^(4*(16*(x/16)+x%16)):=by rw [show 16*(x/16)+x%16 = x by omega,pow16]
      rw [e]
      refine KAA fun j _=>?_
      rw [hb.2 j]
      unfold hexD
      rw [if_pos h25,show ((s.data.toList.getD (s.size-1-x) 0).toNat-97+10)%18446744073709551616 = (s.data.toList.getD (s.size-1-x) 0).toNat-87 by omega]
    ·
      have h25:¬ 97≤(s.data.toList.getD (s.size-1-x) 0).toNat:=by have:=h25; omega
      refine KT ?_
      refine rD [13] ?_
      refine aM 0 ?_
      refine aP 1 rfl (KF rfl rfl (br_quo (b:=16) (by omega) (by omega))) ?_
      refine aP 2 rfl (KG (o':=0) Try.underlying33 rfl rfl rfl sz_31 (by decide)) ?_
      refine aP 3 rfl (Kr Try.underlying31 sz_30 rfl rfl (by omega)) ?_
      refine aD 4 rfl (dL rfl (hv:=KL Try.underlying30 rfl (by exact Kd _ (show x/16<9 by omega)))) ?_
      refine aM 5 ?_
      refine aM 6 ?_
      refine aP 7 rfl (KF rfl rfl (br_rem (b:=16) (by omega))) ?_
      refine aP 8 rfl (KF rfl rfl (br_mul (a:=4) (by omega))) ?_
      refine aP 9 rfl (KF rfl rfl (br_shl64)) ?_
      refine aP 10 rfl (KF rfl rfl (br_or64 (limb_lt _ _) (Nat.mod_lt _ (by decide)))) ?_
      refine aP 11 rfl (KG (o':=0) Try.underlying33 rfl rfl rfl sz_31 (by decide)) ?_
      refine aP 12 rfl (Kr Try.underlying31 sz_30 rfl rfl (by omega)) ?_
      refine aL 13 rfl (Kj rfl rfl rfl sz_30 (by repeat (first|exact Sh _|apply St_)) (by first|(simp only [KH,KD,KE,Kt]; omega)|(simp; done)|(simp; omega)) (by first|exact KAH _ _ _ _ _|exact KAJ _ _ _ _ (by omega)|exact KAI _ _ _ _|rfl) (by simp) ?_)
      refine aE ?_
      refine KA ?_
      refine oP (KF rfl rfl (Kv (b:=1) (by omega))) ?_
      refine oM ?_
      refine KC ?_
      have hb:=limb_piece64 (V:=hexVal (s.data.toList.drop (s.size-(x)))) (y:=hexD (s.data.toList.getD (s.size-1-x) 0).toNat) (s:=4) (w:=16) (i:=x/16) (k:=x%16) rfl (Nat.mod_lt _ (by decide)) (by rw [show 16*(x/16)+x%16 = x by omega,← pow16]; exact hex_drop hok x hx) (hexD_lt hok (by show s.size-1-x<s.size; omega))
      refine ⟨x+1,by omega,by omega,KAO (Sub.cells (b:=b3) (cs':=natL (hexVal (s.data.toList.drop (s.size-(x+1))))) (by repeat (first|exact Sh _|apply St_)) ?_) (Kq ⟨rfl,rfl,rfl,rfl,rfl,trivial⟩ (by repeat (first|exact Sel.nil _|refine Sel.cons (by repeat (first|exact Ph _|apply Pt_)) ?_)))⟩
      have hs:=hex_step (l:=s.data.toList) (x:=x) h10
      rw [size_list] at hs
      rw [hs]
      have e:16^x = 2^(4*(16*(x/16)+x%16)):=by rw [show 16*(x/16)+x%16 = x by omega,pow16]
      rw [e]
      refine KAA fun j _=>?_
      rw [hb.2 j]
      unfold hexD
      rw [if_neg h25]
  ·
    have h10:¬ x<s.size:=h10
    refine Kp ?_
    refine KB (KA ?_)
    refine oD (dL rfl (hv:=by exact KI Try.underlying33 rfl sz_33)) ?_
    refine KV rfl (sA rfl rfl sz_33 (by repeat (first|exact Ka _|exact Kl _ _ _|exact Kc _|exact Kg _ _ _|exact Km _ _ _|exact KO|refine KJ rfl ?_|refine KP ?_ ?_)) (hl:=by first|exact KD _|exact KH _ _ _|exact KE _|exact KN _ _ _|exact KY _ _ _|rfl|simp [KH,KD,KE]) (h:=?_))
    refine KC (KM ?_)
    have hx9:x = s.size:=by omega
    subst hx9
    refine ⟨[_],.cons ⟨_,_,_,rfl,(by repeat (first|exact Mh _|apply Mt)),by exact KI Try.underlying33 rfl sz_33⟩ .nil,fun a w' hr=>⟨?_,hr.fr.below⟩⟩
    rw [Nat.sub_self,List.drop_zero]
    rfl
theorem fhex (s:ByteArray) (n:Nat) (w:World) (h:hexB s n = true):Calls Try.prog 114 ([.string s]:List Value).toArray w (fun e w'=>e = .returned (natV n)∧Below w.heap.size w w'):=by
  obtain ⟨h1,h2,h3⟩:=hexB_spec h
  have:=c_f_Hex s w h1 h3
  rwa [h2] at this
theorem c_f_Of_none (id:Int) (w:World) (h:cvI id = none):Calls Try.prog 112 ([.int .i64 id]:List Value).toArray w (fun e w'=>e = .returned (.pointer none)∧Below w.heap.size w w'):=by
  refine Ki (N:=16) (rs:=[.tmp 2]) [] Try.func112 rfl Try.ntmps112 Try.results112 (Nb rfl) trivial rfl ?_
  show LCode _ _ _ ⟨_,_⟩ _
  refine KB (KA ?_)
  refine oA ?_
  refine KC ?_
  refine KB (KA ?_)
  refine oM ?_
  refine oS (cF rfl en_139 rfl (fun w hw=>c_prime_none id w h) ?_)
  refine oA ?_
  refine KC ?_
  refine KB ?_
  refine KB (KA ?_)
  refine oM ?_
  refine oP (KK (Det.eqs rfl rfl) (congrArg Value.bool (eq_str_t rfl))) ?_
  refine KC ?_
  refine Kf rfl ?_
  refine KB (KA ?_)
  refine oA ?_
  refine KC (KM ?_)
  refine ⟨[_],.cons rfl .nil,fun a w' hr=>⟨?_,hr.fr.below⟩⟩
  rfl
theorem fill_fld (p bd:Nat):fillL [(0,9),(9,1)] (vec .u64 9 (fun _=>0)++[Value.pointer none]) [(0,natV p),(1,.agg [.pointer (some ⟨bd,0,none⟩)].toArray)] = some (fldL p bd):=by
  refine KAR (A:=[]) (B:=vec .u64 9 (fun _=>0)) (D:=[.pointer none]) (cs:=natL p) rfl rfl (KD _) rfl rfl (KH _ _ _) ?_
  refine (KAR (A:=natL p) (B:=[.pointer none]) (D:=[]) (cs:=[.pointer (some ⟨bd,0,none⟩)]) rfl rfl rfl (by simp) (KD _) rfl rfl).trans ?_
  simp [fldL]
theorem c_f_Of (id:Int) (V:Cv) (w:World) (h:cvI id = some V):Calls Try.prog 112 ([.int .i64 id]:List Value).toArray w (fun e w'=>∃ f bd,e = .returned (.pointer (some ⟨f,0,none⟩))∧(Item.blk f ⟨false,fldL V.p bd,162,(0,0)⟩).holds w'∧(Item.blk bd ⟨false,dvL V.p,212,(0,0)⟩).holds w'∧w.heap.size≤f∧w.heap.size≤bd∧Below w.heap.size w w'):=by
  obtain ⟨hok,hid⟩:=cvI_ok h
  refine Ki (N:=16) (rs:=[.tmp 2]) [] Try.func112 rfl Try.ntmps112 Try.results112 (Nb rfl) trivial rfl ?_
  show LCode _ _ _ ⟨_,_⟩ _
  refine KB (KA ?_)
  refine oA ?_
  refine KC ?_
  refine KB (KA ?_)
  refine oM ?_
  refine oS (LStep.callV (first:=[]) rfl en_139 rfl (Nb rfl) (fun w hw=>c_prime_some id V w h) ?_)
  rintro _ ⟨s,rfl,hB,hne⟩
  refine oA ?_
  refine KC ?_
  refine KB ?_
  refine KB (KA ?_)
  refine oM ?_
  refine oP (KK (Det.eqs rfl rfl) (congrArg Value.bool (eq_str_f hne))) ?_
  refine KC ?_
  refine KR rfl ?_
  refine KT ?_
  refine KB (KA ?_)
  refine oM ?_
  refine oS (cF rfl en_114 rfl (fun w hw=>fhex s V.p w hB) ?_)
  refine oS (mk (KX zr_33) (fun b4=>?_))
  refine KV rfl (sA rfl rfl sz_33 (by repeat (first|exact Ka _|exact Kl _ _ _|exact Kc _|exact Kg _ _ _|exact Km _ _ _|exact KO|refine KJ rfl ?_|refine KP ?_ ?_)) (hl:=by first|exact KD _|exact KH _ _ _|exact KE _|exact KN _ _ _|exact KY _ _ _|rfl|simp [KH,KD,KE]) (h:=?_))
  refine KC ?_
  refine KB ?_
  have hbb:=hok.bounds
  have hpW:V.p<W9:=w9_521 hbb.2.1
  have hp0:V.p≠0:=by omega
  refine rD [] ?_
  refine aD 0 rfl (dL rfl (hv:=by exact KI Try.underlying33 rfl sz_33)) ?_
  refine aD 1 rfl (dL rfl (hv:=by exact KI Try.underlying33 rfl sz_33)) ?_
  refine aO 2 rfl (LStep.callZ (Post:=fun v its=>∃ b,v = .agg [.pointer (some ⟨b,0,none⟩)].toArray∧its = [.blk b ⟨false,dvL V.p,212,(0,0)⟩]∧w.heap.size≤b) (first:=[]) rfl en_140 rfl (Nb rfl) (fun w1 hw hs=>(c_By V.p hp0 hpW w1).mono fun e w' ⟨b,h1,h2,h3,h4⟩=>⟨_,_,⟨b,rfl,rfl,Nat.le_trans hs h2⟩,h1,Brings.blk1 h4 h2 h3⟩) ?_)
  rintro _ _ ⟨bd,rfl,rfl,hnbd⟩
  refine aP 3 rfl (KK (Ky pl_162 zr_162 rfl (fill_fld _ _)) rfl) ?_
  refine aO 4 rfl (mB (fun b15=>?_))
  refine aA 5 ?_
  refine aE ?_
  refine KM ?_
  refine ⟨[_],.cons rfl .nil,fun a w' hr=>⟨b15,bd,rfl,(show (Item.blk b15 ⟨true,_,_,_⟩).holds w' from hr.hp _ (by repeat (first|exact Mh _|apply Mt))),hr.hp _ (by repeat (first|exact Mh _|apply Mt)),hr.new (B:=⟨true,_,_,_⟩) (by repeat (first|exact Mh _|apply Mt)) rfl,hnbd,hr.fr.below⟩⟩
theorem c_f_Has (V:Cv) (f bd A:Nat) (w:World) (hf:(Item.blk f ⟨false,fldL V.p bd,162,(0,0)⟩).holds w) (hA:A<W9) (hpW:V.p<W9):Calls Try.prog 119 ([.pointer (some ⟨f,0,none⟩),natV A]:List Value).toArray w (fun e w'=>e = .returned (.bool (decide (A<V.p)))∧Below w.heap.size w w'):=by
  refine Ki (N:=12) (rs:=[.tmp 4]) [.blk f ⟨false,fldL V.p bd,162,(0,0)⟩] Try.func119 rfl Try.ntmps119 Try.results119 (Nb rfl) ⟨hf,trivial⟩ rfl ?_
  show LCode _ _ _ ⟨_,_⟩ _
  refine KB (KA ?_)
  refine oS (mB (fun b3=>?_))
  refine oA ?_
  refine KC ?_
  refine KB ?_
  refine rD [] ?_
  refine aD 0 rfl (dL rfl (hv:=by exact KI Try.underlying33 rfl sz_33)) ?_
  refine aM 1 ?_
  refine aP 2 rfl (KQ rfl) ?_
  refine aP 3 rfl (KG (o':=0) Try.underlying162 rfl rfl rfl sz_33 (by decide)) ?_
  refine aD 4 rfl (dL rfl (hv:=by exact KAF Try.underlying33 rfl sz_33 rfl (KD _))) ?_
  refine aO 5 rfl (cF rfl en_97 rfl (fun w hw=>c_nat_Cmp A V.p hA hpW w) ?_)
  refine aP 6 rfl (KF rfl rfl (cmp_lt)) ?_
  refine aA 7 ?_
  refine aE ?_
  refine KM ?_
  refine ⟨[_],.cons rfl .nil,fun a w' hr=>⟨?_,hr.fr.below⟩⟩
  rfl
theorem c_f_Add (V:Cv) (f bd A B:Nat) (w:World) (hf:(Item.blk f ⟨false,fldL V.p bd,162,(0,0)⟩).holds w) (hp:V.p<P521) (hA:A<V.p) (hB:B<V.p):Calls Try.prog 118 ([.pointer (some ⟨f,0,none⟩),natV A,natV B]:List Value).toArray w (fun e w'=>e = .returned (natV ((A+B)%V.p))∧Below w.heap.size w w'):=by
  have hpp:=w9_half hp
  have hW:A+B<W9:=by omega
  refine Ki (N:=33) (rs:=[.cell 6 33]) [.blk f ⟨false,fldL V.p bd,162,(0,0)⟩] Try.func118 rfl Try.ntmps118 Try.results118 (Nb rfl) ⟨hf,trivial⟩ rfl ?_
  show LCode _ _ _ ⟨_,_⟩ _
  refine KB (KA ?_)
  refine oS (mB (fun b4=>?_))
  refine oS (mB (fun b5=>?_))
  refine oS (mk (KX zr_33) (fun b6=>?_))
  refine KC ?_
  refine KB (KA ?_)
  refine oD (dL rfl (hv:=by exact KI Try.underlying33 rfl sz_33)) ?_
  refine oD (dL rfl (hv:=by exact KI Try.underlying33 rfl sz_33)) ?_
  refine oS (cF rfl en_144 rfl (fun w hw=>c_nat_AddS A B w hW) ?_)
  refine oM ?_
  refine oP (KW rfl rfl) ?_
  refine oP (KW rfl rfl) ?_
  refine oS (mk (KX zr_33) (fun b7=>?_))
  refine KV rfl (sA rfl rfl sz_33 (by repeat (first|exact Ka _|exact Kl _ _ _|exact Kc _|exact Kg _ _ _|exact Km _ _ _|exact KO|refine KJ rfl ?_|refine KP ?_ ?_)) (hl:=by first|exact KD _|exact KH _ _ _|exact KE _|exact KN _ _ _|exact KY _ _ _|rfl|simp [KH,KD,KE]) (h:=?_))
  refine oA ?_
  refine KC ?_
  refine KB ?_
  refine KB ?_
  rcases Nat.lt_or_ge (A+B) V.p with hl|hg
  ·
    refine rD [10] ?_
    refine aD 0 rfl (dL rfl (hv:=by exact KI Try.underlying33 rfl sz_33)) ?_
    refine aM 1 ?_
    refine aP 2 rfl (KQ rfl) ?_
    refine aP 3 rfl (KG (o':=0) Try.underlying162 rfl rfl rfl sz_33 (by decide)) ?_
    refine aD 4 rfl (dL rfl (hv:=by exact KAF Try.underlying33 rfl sz_33 rfl (KD _))) ?_
    refine LAny.toP ?_
    refine KAU 9 rfl (.inl zr_33) (Nb rfl) rfl rfl rfl ?_
    refine Kx 5 rfl rfl rfl (Nb rfl) (by kernel_rfl) rfl (KAD (first:=[]) rfl en_115 rfl (fun w hw=>c_nat_SubU (A+B) V.p w (by omega) hl)) ?_
    rintro _ _ ⟨rfl,rfl⟩
    refine pM 6 ?_
    refine pP 7 rfl (KW rfl rfl) ?_
    refine pP 8 rfl (KW rfl rfl) ?_
    refine pE (fun b9=>?_)
    refine LAnyP.toAny ?_
    refine aL 10 rfl (sA rfl rfl sz_33 (by repeat (first|exact Ka _|exact Kl _ _ _|exact Kc _|exact Kg _ _ _|exact Km _ _ _|exact KO|refine KJ rfl ?_|refine KP ?_ ?_)) (hl:=by first|exact KD _|exact KH _ _ _|exact KE _|exact KN _ _ _|exact KY _ _ _|rfl|simp [KH,KD,KE]) (h:=?_))
    refine aA 11 ?_
    refine aE ?_
    refine KB (KA ?_)
    refine oM ?_
    refine oM ?_
    refine oGM ?_
    refine oGP (KK (Det.not rfl) (show _ = Value.bool false from rfl)) ?_
    refine oP (Kh rfl rfl) ?_
    refine KC ?_
    refine KR rfl ?_
    refine KT ?_
    refine KB (KA ?_)
    refine oD (dL rfl (hv:=by exact KI Try.underlying33 rfl sz_33)) ?_
    refine KV rfl (sA rfl rfl sz_33 (by repeat (first|exact Ka _|exact Kl _ _ _|exact Kc _|exact Kg _ _ _|exact Km _ _ _|exact KO|refine KJ rfl ?_|refine KP ?_ ?_)) (hl:=by first|exact KD _|exact KH _ _ _|exact KE _|exact KN _ _ _|exact KY _ _ _|rfl|simp [KH,KD,KE]) (h:=?_))
    refine KC (KM ?_)
    refine ⟨[_],.cons ⟨_,_,_,rfl,(by repeat (first|exact Mh _|apply Mt)),by exact KI Try.underlying33 rfl sz_33⟩ .nil,fun a w' hr=>⟨?_,hr.fr.below⟩⟩
    rw [Nat.mod_eq_of_lt hl]
    rfl
  ·
    refine rD [10] ?_
    refine aD 0 rfl (dL rfl (hv:=by exact KI Try.underlying33 rfl sz_33)) ?_
    refine aM 1 ?_
    refine aP 2 rfl (KQ rfl) ?_
    refine aP 3 rfl (KG (o':=0) Try.underlying162 rfl rfl rfl sz_33 (by decide)) ?_
    refine aD 4 rfl (dL rfl (hv:=by exact KAF Try.underlying33 rfl sz_33 rfl (KD _))) ?_
    refine LAny.toP ?_
    refine KAU 9 rfl (.inl zr_33) (Nb rfl) rfl rfl rfl ?_
    refine Kx 5 rfl rfl rfl (Nb rfl) (by kernel_rfl) rfl (KAD (first:=[]) rfl en_115 rfl (fun w hw=>c_nat_SubS (A+B) V.p w hW hg)) ?_
    rintro _ _ ⟨rfl,rfl⟩
    refine pM 6 ?_
    refine pP 7 rfl (KW rfl rfl) ?_
    refine pP 8 rfl (KW rfl rfl) ?_
    refine pE (fun b9=>?_)
    refine LAnyP.toAny ?_
    refine aL 10 rfl (sA rfl rfl sz_33 (by repeat (first|exact Ka _|exact Kl _ _ _|exact Kc _|exact Kg _ _ _|exact Km _ _ _|exact KO|refine KJ rfl ?_|refine KP ?_ ?_)) (hl:=by first|exact KD _|exact KH _ _ _|exact KE _|exact KN _ _ _|exact KY _ _ _|rfl|simp [KH,KD,KE]) (h:=?_))
    refine aA 11 ?_
    refine aE ?_
    refine KB (KA ?_)
    refine oM ?_
    refine oM ?_
    refine oGM ?_
    refine oGP (KK (Det.not rfl) (show _ = Value.bool true from rfl)) ?_
    refine oP (Kh rfl rfl) ?_
    refine KC ?_
    refine Kf rfl ?_
    refine KB (KA ?_)
    refine oD (dL rfl (hv:=by exact KI Try.underlying33 rfl sz_33)) ?_
    refine KV rfl (sA rfl rfl sz_33 (by repeat (first|exact Ka _|exact Kl _ _ _|exact Kc _|exact Kg _ _ _|exact Km _ _ _|exact KO|refine KJ rfl ?_|refine KP ?_ ?_)) (hl:=by first|exact KD _|exact KH _ _ _|exact KE _|exact KN _ _ _|exact KY _ _ _|rfl|simp [KH,KD,KE]) (h:=?_))
    refine KC (KM ?_)
    refine ⟨[_],.cons ⟨_,_,_,rfl,(by repeat (first|exact Mh _|apply Mt)),by exact KI Try.underlying33 rfl sz_33⟩ .nil,fun a w' hr=>⟨?_,hr.fr.below⟩⟩
    rw [Nat.mod_eq_sub_mod hg,Nat.mod_eq_of_lt (by omega)]
    rfl
theorem c_f_Sub (V:Cv) (f bd A B:Nat) (w:World) (hf:(Item.blk f ⟨false,fldL V.p bd,162,(0,0)⟩).holds w) (hp:V.p<P521) (hA:A<V.p) (hB:B<V.p):Calls Try.prog 130 ([.pointer (some ⟨f,0,none⟩),natV A,natV B]:List Value).toArray w (fun e w'=>e = .returned (natV ((A+V.p-B)%V.p))∧Below w.heap.size w w'):=by
  have hpp:=w9_half hp
  refine Ki (N:=26) (rs:=[.cell 6 33]) [.blk f ⟨false,fldL V.p bd,162,(0,0)⟩] Try.func130 rfl Try.ntmps130 Try.results130 (Nb rfl) ⟨hf,trivial⟩ rfl ?_
  show LCode _ _ _ ⟨_,_⟩ _
  refine KB (KA ?_)
  refine oS (mB (fun b4=>?_))
  refine oS (mB (fun b5=>?_))
  refine oS (mk (KX zr_33) (fun b6=>?_))
  refine KC ?_
  refine KB ?_
  rcases Nat.lt_or_ge A B with hl|hg
  ·
    refine KA ?_
    refine oD (dL rfl (hv:=by exact KI Try.underlying33 rfl sz_33)) ?_
    refine oD (dL rfl (hv:=by exact KI Try.underlying33 rfl sz_33)) ?_
    refine oS (cF rfl en_115 rfl (fun w hw=>c_nat_SubU A B w (by omega) hl) ?_)
    refine oM ?_
    refine oP (KW rfl rfl) ?_
    refine oP (KW rfl rfl) ?_
    refine oS (mk (KX zr_33) (fun b7=>?_))
    refine KV rfl (sA rfl rfl sz_33 (by repeat (first|exact Ka _|exact Kl _ _ _|exact Kc _|exact Kg _ _ _|exact Km _ _ _|exact KO|refine KJ rfl ?_|refine KP ?_ ?_)) (hl:=by first|exact KD _|exact KH _ _ _|exact KE _|exact KN _ _ _|exact KY _ _ _|rfl|simp [KH,KD,KE]) (h:=?_))
    refine oA ?_
    refine KC ?_
    refine KB ?_
    refine KB (KA ?_)
    refine oM ?_
    refine KC ?_
    refine Kf rfl ?_
    refine rD [9] ?_
    refine aD 0 rfl (dL rfl (hv:=by exact KI Try.underlying33 rfl sz_33)) ?_
    refine aM 1 ?_
    refine aP 2 rfl (KQ rfl) ?_
    refine aP 3 rfl (KG (o':=0) Try.underlying162 rfl rfl rfl sz_33 (by decide)) ?_
    refine aD 4 rfl (dL rfl (hv:=by exact KAF Try.underlying33 rfl sz_33 rfl (KD _))) ?_
    refine aO 5 rfl (cF rfl en_144 rfl (fun w hw=>c_nat_Add (dif A B) V.p (dif_lt _ _) (by omega) w) ?_)
    refine aM 6 ?_
    refine aP 7 rfl (KW rfl rfl) ?_
    refine aP 8 rfl (KW rfl rfl) ?_
    refine aL 9 rfl (sA rfl rfl sz_33 (by repeat (first|exact Ka _|exact Kl _ _ _|exact Kc _|exact Kg _ _ _|exact Km _ _ _|exact KO|refine KJ rfl ?_|refine KP ?_ ?_)) (hl:=by first|exact KD _|exact KH _ _ _|exact KE _|exact KN _ _ _|exact KY _ _ _|rfl|simp [KH,KD,KE]) (h:=?_))
    refine aE ?_
    refine KB (KA ?_)
    refine oD (dL rfl (hv:=by exact KI Try.underlying33 rfl sz_33)) ?_
    refine KV rfl (sA rfl rfl sz_33 (by repeat (first|exact Ka _|exact Kl _ _ _|exact Kc _|exact Kg _ _ _|exact Km _ _ _|exact KO|refine KJ rfl ?_|refine KP ?_ ?_)) (hl:=by first|exact KD _|exact KH _ _ _|exact KE _|exact KN _ _ _|exact KY _ _ _|rfl|simp [KH,KD,KE]) (h:=?_))
    refine KC (KM ?_)
    refine ⟨[_],.cons ⟨_,_,_,rfl,(by repeat (first|exact Mh _|apply Mt)),by exact KI Try.underlying33 rfl sz_33⟩ .nil,fun a w' hr=>⟨?_,hr.fr.below⟩⟩
    rw [dif_back (by omega) hB hl,Nat.mod_eq_of_lt (show A+V.p-B<V.p by omega)]
    rfl
  ·
    refine KA ?_
    refine oD (dL rfl (hv:=by exact KI Try.underlying33 rfl sz_33)) ?_
    refine oD (dL rfl (hv:=by exact KI Try.underlying33 rfl sz_33)) ?_
    refine oS (cF rfl en_115 rfl (fun w hw=>c_nat_SubS A B w (by omega) hg) ?_)
    refine oM ?_
    refine oP (KW rfl rfl) ?_
    refine oP (KW rfl rfl) ?_
    refine oS (mk (KX zr_33) (fun b7=>?_))
    refine KV rfl (sA rfl rfl sz_33 (by repeat (first|exact Ka _|exact Kl _ _ _|exact Kc _|exact Kg _ _ _|exact Km _ _ _|exact KO|refine KJ rfl ?_|refine KP ?_ ?_)) (hl:=by first|exact KD _|exact KH _ _ _|exact KE _|exact KN _ _ _|exact KY _ _ _|rfl|simp [KH,KD,KE]) (h:=?_))
    refine oA ?_
    refine KC ?_
    refine KB ?_
    refine KB (KA ?_)
    refine oM ?_
    refine KC ?_
    refine KR rfl ?_
    refine KT ?_
    refine KB (KA ?_)
    refine oD (dL rfl (hv:=by exact KI Try.underlying33 rfl sz_33)) ?_
    refine KV rfl (sA rfl rfl sz_33 (by repeat (first|exact Ka _|exact Kl _ _ _|exact Kc _|exact Kg _ _ _|exact Km _ _ _|exact KO|refine KJ rfl ?_|refine KP ?_ ?_)) (hl:=by first|exact KD _|exact KH _ _ _|exact KE _|exact KN _ _ _|exact KY _ _ _|rfl|simp [KH,KD,KE]) (h:=?_))
    refine KC (KM ?_)
    refine ⟨[_],.cons ⟨_,_,_,rfl,(by repeat (first|exact Mh _|apply Mt)),by exact KI Try.underlying33 rfl sz_33⟩ .nil,fun a w' hr=>⟨?_,hr.fr.below⟩⟩
    rw [show A+V.p-B = A-B+V.p by omega,Nat.add_mod_right,Nat.mod_eq_of_lt (by omega)]
    rfl
theorem c_f_Mul (V:Cv) (f bd A B:Nat) (w:World) (hf:(Item.blk f ⟨false,fldL V.p bd,162,(0,0)⟩).holds w) (hbd:(Item.blk bd ⟨false,dvL V.p,212,(0,0)⟩).holds w) (hp0:V.p≠0) (hpW:V.p<W9) (hA:A<W9) (hB:B<W9):Calls Try.prog 120 ([.pointer (some ⟨f,0,none⟩),natV A,natV B]:List Value).toArray w (fun e w'=>e = .returned (natV (A*B%V.p))∧Below w.heap.size w w'):=by
  refine Ki (N:=14) (rs:=[.cell 6 33]) [.blk f ⟨false,fldL V.p bd,162,(0,0)⟩,.blk bd ⟨false,dvL V.p,212,(0,0)⟩] Try.func120 rfl Try.ntmps120 Try.results120 (Nb rfl) ⟨hf,hbd,trivial⟩ rfl ?_
  show LCode _ _ _ ⟨_,_⟩ _
  refine KB (KA ?_)
  refine oS (mB (fun b4=>?_))
  refine oS (mB (fun b5=>?_))
  refine oS (mk (KX zr_33) (fun b6=>?_))
  refine KC ?_
  refine KB ?_
  refine rD [7] ?_
  refine aM 0 ?_
  refine aP 1 rfl (KQ rfl) ?_
  refine aP 2 rfl (KG (o':=9) Try.underlying162 rfl rfl rfl sz_160 (by decide)) ?_
  refine aD 3 rfl (dL rfl (hv:=by exact LoadV.last Try.underlying160 rfl sz_160 rfl (KD _) rfl)) ?_
  refine aD 4 rfl (dL rfl (hv:=by exact KI Try.underlying33 rfl sz_33)) ?_
  refine aD 5 rfl (dL rfl (hv:=by exact KI Try.underlying33 rfl sz_33)) ?_
  refine aO 6 rfl (cF rfl en_145 rfl (fun w hw=>c_Mul V.p A B bd hp0 hpW w (mC hw) hA hB) ?_)
  refine aL 7 rfl (sA rfl rfl sz_33 (by repeat (first|exact Ka _|exact Kl _ _ _|exact Kc _|exact Kg _ _ _|exact Km _ _ _|exact KO|refine KJ rfl ?_|refine KP ?_ ?_)) (hl:=by first|exact KD _|exact KH _ _ _|exact KE _|exact KN _ _ _|exact KY _ _ _|rfl|simp [KH,KD,KE]) (h:=?_))
  refine aE ?_
  refine KM ?_
  refine ⟨[_],.cons ⟨_,_,_,rfl,(by repeat (first|exact Mh _|apply Mt)),by exact KI Try.underlying33 rfl sz_33⟩ .nil,fun a w' hr=>⟨?_,hr.fr.below⟩⟩
  rfl
theorem c_f_Inv (V:Cv) (f bd A:Nat) (w:World) (hf:(Item.blk f ⟨false,fldL V.p bd,162,(0,0)⟩).holds w) (hp0:V.p≠0) (hpW:V.p<W9) (hA:A<W9):Calls Try.prog 136 ([.pointer (some ⟨f,0,none⟩),natV A]:List Value).toArray w (fun e w'=>e = .returned (natV (invM A V.p))∧Below w.heap.size w w'):=by
  refine Ki (N:=17) (rs:=[.cell 4 33]) [.blk f ⟨false,fldL V.p bd,162,(0,0)⟩] Try.func136 rfl Try.ntmps136 Try.results136 (Nb rfl) ⟨hf,trivial⟩ rfl ?_
  show LCode _ _ _ ⟨_,_⟩ _
  refine KB (KA ?_)
  refine oS (mB (fun b3=>?_))
  refine oS (mk (KX zr_33) (fun b4=>?_))
  refine KC ?_
  refine KB ?_
  refine rD [10] ?_
  refine aD 0 rfl (dL rfl (hv:=by exact KI Try.underlying33 rfl sz_33)) ?_
  refine aM 1 ?_
  refine aP 2 rfl (KQ rfl) ?_
  refine aP 3 rfl (KG (o':=0) Try.underlying162 rfl rfl rfl sz_33 (by decide)) ?_
  refine aD 4 rfl (dL rfl (hv:=by exact KAF Try.underlying33 rfl sz_33 rfl (KD _))) ?_
  refine LAny.toP ?_
  refine KAU 9 rfl (.inl zr_33) (Nb rfl) rfl rfl rfl ?_
  refine Kx 5 rfl rfl rfl (Nb rfl) (by kernel_rfl) rfl (KAD (first:=[]) rfl en_151 rfl (fun w hw=>c_Inverse A V.p hp0 w hA hpW)) ?_
  rintro _ _ ⟨rfl,rfl⟩
  refine pM 6 ?_
  refine pP 7 rfl (KW rfl rfl) ?_
  refine pP 8 rfl (KW rfl rfl) ?_
  refine pE (fun b5=>?_)
  refine LAnyP.toAny ?_
  refine aL 10 rfl (sA rfl rfl sz_33 (by repeat (first|exact Ka _|exact Kl _ _ _|exact Kc _|exact Kg _ _ _|exact Km _ _ _|exact KO|refine KJ rfl ?_|refine KP ?_ ?_)) (hl:=by first|exact KD _|exact KH _ _ _|exact KE _|exact KN _ _ _|exact KY _ _ _|rfl|simp [KH,KD,KE]) (h:=?_))
  refine aA 11 ?_
  refine aE ?_
  refine KB (KA ?_)
  refine oD (dL rfl (hv:=by exact KI Try.underlying33 rfl sz_33)) ?_
  refine KV rfl (sA rfl rfl sz_33 (by repeat (first|exact Ka _|exact Kl _ _ _|exact Kc _|exact Kg _ _ _|exact Km _ _ _|exact KO|refine KJ rfl ?_|refine KP ?_ ?_)) (hl:=by first|exact KD _|exact KH _ _ _|exact KE _|exact KN _ _ _|exact KY _ _ _|rfl|simp [KH,KD,KE]) (h:=?_))
  refine KC (KM ?_)
  refine ⟨[_],.cons ⟨_,_,_,rfl,(by repeat (first|exact Mh _|apply Mt)),by exact KI Try.underlying33 rfl sz_33⟩ .nil,fun a w' hr=>⟨?_,hr.fr.below⟩⟩
  rfl
end Go.Proofs.Ytlmiolnccgjjjaa
set_option linter.unusedVariables false
set_option linter.unusedSimpArgs false
set_option maxRecDepth 20000
namespace Go.Proofs.Ytlmiolnccgjjjaa
open Go Go.RowKit
def cvC (id:Nat) (p:Nat) (a:Nat) (b:Nat) (n:Nat) (gx gy:Nat) (inf:Bool) (bits:Nat) (size:Nat) (leg:Bool) (F:Value) (t3:Nat):List Value:=[.int .i64 ((id:Nat):Int)]++(natL p++(natL a++(natL b++(natL n++(ptL gx gy inf++([.int .i64 ((bits:Nat):Int)]++([.int .i64 ((size:Nat):Int)]++([.bool leg]++([F]++(natL t3))))))))))
theorem cvC_at_id (id:Nat) (p:Nat) (a:Nat) (b:Nat) (n:Nat) (gx gy:Nat) (inf:Bool) (bits:Nat) (size:Nat) (leg:Bool) (F:Value) (t3:Nat):cvC id p a b n gx gy inf bits size leg F t3 = ([])++(([.int .i64 ((id:Nat):Int)])++(natL p++(natL a++(natL b++(natL n++(ptL gx gy inf++([.int .i64 ((bits:Nat):Int)]++([.int .i64 ((size:Nat):Int)]++([.bool leg]++([F]++(natL t3))))))))))):=by simp only [cvC,List.append_assoc,List.append_nil,List.nil_append]
theorem cvC_len_id  : ([]:List Value).length = 0:=by simp [KD,KN]
theorem cvC_set_id (id:Nat) (p:Nat) (a:Nat) (b:Nat) (n:Nat) (gx gy:Nat) (inf:Bool) (bits:Nat) (size:Nat) (leg:Bool) (F:Value) (t3:Nat) (id':Nat):splice (cvC id p a b n gx gy inf bits size leg F t3) 0 ([.int .i64 ((id':Nat):Int)]) = cvC id' p a b n gx gy inf bits size leg F t3:=splice_mid (cvC_at_id id p a b n gx gy inf bits size leg F t3) (cvC_len_id) (by simp [KD,KN]) (cvC_at_id id' p a b n gx gy inf bits size leg F t3)
theorem cvC_at_p (id:Nat) (p:Nat) (a:Nat) (b:Nat) (n:Nat) (gx gy:Nat) (inf:Bool) (bits:Nat) (size:Nat) (leg:Bool) (F:Value) (t3:Nat):cvC id p a b n gx gy inf bits size leg F t3 = ([.int .i64 ((id:Nat):Int)])++((natL p)++(natL a++(natL b++(natL n++(ptL gx gy inf++([.int .i64 ((bits:Nat):Int)]++([.int .i64 ((size:Nat):Int)]++([.bool leg]++([F]++(natL t3)))))))))):=by simp only [cvC,List.append_assoc,List.append_nil,List.nil_append]
theorem cvC_len_p (id:Nat):([.int .i64 ((id:Nat):Int)]:List Value).length = 1:=by simp [KD,KN]
theorem cvC_set_p (id:Nat) (p:Nat) (a:Nat) (b:Nat) (n:Nat) (gx gy:Nat) (inf:Bool) (bits:Nat) (size:Nat) (leg:Bool) (F:Value) (t3:Nat) (p':Nat):splice (cvC id p a b n gx gy inf bits size leg F t3) 1 (natL p') = cvC id p' a b n gx gy inf bits size leg F t3:=splice_mid (cvC_at_p id p a b n gx gy inf bits size leg F t3) (cvC_len_p id) (by simp [KD,KN]) (cvC_at_p id p' a b n gx gy inf bits size leg F t3)
theorem cvC_at_a (id:Nat) (p:Nat) (a:Nat) (b:Nat) (n:Nat) (gx gy:Nat) (inf:Bool) (bits:Nat) (size:Nat) (leg:Bool) (F:Value) (t3:Nat):cvC id p a b n gx gy inf bits size leg F t3 = ([.int .i64 ((id:Nat):Int)]++(natL p))++((natL a)++(natL b++(natL n++(ptL gx gy inf++([.int .i64 ((bits:Nat):Int)]++([.int .i64 ((size:Nat):Int)]++([.bool leg]++([F]++(natL t3))))))))):=by simp only [cvC,List.append_assoc,List.append_nil,List.nil_append]
theorem cvC_len_a (id:Nat) (p:Nat):([.int .i64 ((id:Nat):Int)]++(natL p):List Value).length = 10:=by simp [KD,KN]
theorem cvC_set_a (id:Nat) (p:Nat) (a:Nat) (b:Nat) (n:Nat) (gx gy:Nat) (inf:Bool) (bits:Nat) (size:Nat) (leg:Bool) (F:Value) (t3:Nat) (a':Nat):splice (cvC id p a b n gx gy inf bits size leg F t3) 10 (natL a') = cvC id p a' b n gx gy inf bits size leg F t3:=splice_mid (cvC_at_a id p a b n gx gy inf bits size leg F t3) (cvC_len_a id p) (by simp [KD,KN]) (cvC_at_a id p a' b n gx gy inf bits size leg F t3)
theorem cvC_at_b (id:Nat) (p:Nat) (a:Nat) (b:Nat) (n:Nat) (gx gy:Nat) (inf:Bool) (bits:Nat) (size:Nat) (leg:Bool) (F:Value) (t3:Nat):cvC id p a b n gx gy inf bits size leg F t3 = ([.int .i64 ((id:Nat):Int)]++(natL p++(natL a)))++((natL b)++(natL n++(ptL gx gy inf++([.int .i64 ((bits:Nat):Int)]++([.int .i64 ((size:Nat):Int)]++([.bool leg]++([F]++(natL t3)))))))):=by simp only [cvC,List.append_assoc,List.append_nil,List.nil_append]
theorem cvC_len_b (id:Nat) (p:Nat) (a:Nat):([.int .i64 ((id:Nat):Int)]++(natL p++(natL a)):List Value).length = 19:=by simp [KD,KN]
theorem cvC_set_b (id:Nat) (p:Nat) (a:Nat) (b:Nat) (n:Nat) (gx gy:Nat) (inf:Bool) (bits:Nat) (size:Nat) (leg:Bool) (F:Value) (t3:Nat) (b':Nat):splice (cvC id p a b n gx gy inf bits size leg F t3) 19 (natL b') = cvC id p a b' n gx gy inf bits size leg F t3:=splice_mid (cvC_at_b id p a b n gx gy inf bits size leg F t3) (cvC_len_b id p a) (by simp [KD,KN]) (cvC_at_b id p a b' n gx gy inf bits size leg F t3)
theorem cvC_at_n (id:Nat) (p:Nat) (a:Nat) (b:Nat) (n:Nat) (gx gy:Nat) (inf:Bool) (bits:Nat) (size:Nat) (leg:Bool) (F:Value) (t3:Nat):cvC id p a b n gx gy inf bits size leg F t3 = ([.int .i64 ((id:Nat):Int)]++(natL p++(natL a++(natL b))))++((natL n)++(ptL gx gy inf++([.int .i64 ((bits:Nat):Int)]++([.int .i64 ((size:Nat):Int)]++([.bool leg]++([F]++(natL t3))))))):=by simp only [cvC,List.append_assoc,List.append_nil,List.nil_append]
theorem cvC_len_n (id:Nat) (p:Nat) (a:Nat) (b:Nat):([.int .i64 ((id:Nat):Int)]++(natL p++(natL a++(natL b))):List Value).length = 28:=by simp [KD,KN]
theorem cvC_set_n (id:Nat) (p:Nat) (a:Nat) (b:Nat) (n:Nat) (gx gy:Nat) (inf:Bool) (bits:Nat) (size:Nat) (leg:Bool) (F:Value) (t3:Nat) (n':Nat):splice (cvC id p a b n gx gy inf bits size leg F t3) 28 (natL n') = cvC id p a b n' gx gy inf bits size leg F t3:=splice_mid (cvC_at_n id p a b n gx gy inf bits size leg F t3) (cvC_len_n id p a b) (by simp [KD,KN]) (cvC_at_n id p a b n' gx gy inf bits size leg F t3)
theorem cvC_at_g (id:Nat) (p:Nat) (a:Nat) (b:Nat) (n:Nat) (gx gy:Nat) (inf:Bool) (bits:Nat) (size:Nat) (leg:Bool) (F:Value) (t3:Nat):cvC id p a b n gx gy inf bits size leg F t3 = ([.int .i64 ((id:Nat):Int)]++(natL p++(natL a++(natL b++(natL n)))))++((ptL gx gy inf)++([.int .i64 ((bits:Nat):Int)]++([.int .i64 ((size:Nat):Int)]++([.bool leg]++([F]++(natL t3)))))):=by simp only [cvC,List.append_assoc,List.append_nil,List.nil_append]
theorem cvC_len_g (id:Nat) (p:Nat) (a:Nat) (b:Nat) (n:Nat):([.int .i64 ((id:Nat):Int)]++(natL p++(natL a++(natL b++(natL n)))):List Value).length = 37:=by simp [KD,KN]
theorem cvC_set_g (id:Nat) (p:Nat) (a:Nat) (b:Nat) (n:Nat) (gx gy:Nat) (inf:Bool) (bits:Nat) (size:Nat) (leg:Bool) (F:Value) (t3:Nat) (gx' gy':Nat) (inf':Bool):splice (cvC id p a b n gx gy inf bits size leg F t3) 37 (ptL gx' gy' inf') = cvC id p a b n gx' gy' inf' bits size leg F t3:=splice_mid (cvC_at_g id p a b n gx gy inf bits size leg F t3) (cvC_len_g id p a b n) (by simp [KD,KN]) (cvC_at_g id p a b n gx' gy' inf' bits size leg F t3)
theorem cvC_at_bits (id:Nat) (p:Nat) (a:Nat) (b:Nat) (n:Nat) (gx gy:Nat) (inf:Bool) (bits:Nat) (size:Nat) (leg:Bool) (F:Value) (t3:Nat):cvC id p a b n gx gy inf bits size leg F t3 = ([.int .i64 ((id:Nat):Int)]++(natL p++(natL a++(natL b++(natL n++(ptL gx gy inf))))))++(([.int .i64 ((bits:Nat):Int)])++([.int .i64 ((size:Nat):Int)]++([.bool leg]++([F]++(natL t3))))):=by simp only [cvC,List.append_assoc,List.append_nil,List.nil_append]
theorem cvC_len_bits (id:Nat) (p:Nat) (a:Nat) (b:Nat) (n:Nat) (gx gy:Nat) (inf:Bool):([.int .i64 ((id:Nat):Int)]++(natL p++(natL a++(natL b++(natL n++(ptL gx gy inf))))):List Value).length = 56:=by simp [KD,KN]
theorem cvC_set_bits (id:Nat) (p:Nat) (a:Nat) (b:Nat) (n:Nat) (gx gy:Nat) (inf:Bool) (bits:Nat) (size:Nat) (leg:Bool) (F:Value) (t3:Nat) (bits':Nat):splice (cvC id p a b n gx gy inf bits size leg F t3) 56 ([.int .i64 ((bits':Nat):Int)]) = cvC id p a b n gx gy inf bits' size leg F t3:=splice_mid (cvC_at_bits id p a b n gx gy inf bits size leg F t3) (cvC_len_bits id p a b n gx gy inf) (by simp [KD,KN]) (cvC_at_bits id p a b n gx gy inf bits' size leg F t3)
theorem cvC_at_size (id:Nat) (p:Nat) (a:Nat) (b:Nat) (n:Nat) (gx gy:Nat) (inf:Bool) (bits:Nat) (size:Nat) (leg:Bool) (F:Value) (t3:Nat):cvC id p a b n gx gy inf bits size leg F t3 = ([.int .i64 ((id:Nat):Int)]++(natL p++(natL a++(natL b++(natL n++(ptL gx gy inf++([.int .i64 ((bits:Nat):Int)])))))))++(([.int .i64 ((size:Nat):Int)])++([.bool leg]++([F]++(natL t3)))):=by simp only [cvC,List.append_assoc,List.append_nil,List.nil_append]
theorem cvC_len_size (id:Nat) (p:Nat) (a:Nat) (b:Nat) (n:Nat) (gx gy:Nat) (inf:Bool) (bits:Nat):([.int .i64 ((id:Nat):Int)]++(natL p++(natL a++(natL b++(natL n++(ptL gx gy inf++([.int .i64 ((bits:Nat):Int)])))))):List Value).length = 57:=by simp [KD,KN]
theorem cvC_set_size (id:Nat) (p:Nat) (a:Nat) (b:Nat) (n:Nat) (gx gy:Nat) (inf:Bool) (bits:Nat) (size:Nat) (leg:Bool) (F:Value) (t3:Nat) (size':Nat):splice (cvC id p a b n gx gy inf bits size leg F t3) 57 ([.int .i64 ((size':Nat):Int)]) = cvC id p a b n gx gy inf bits size' leg F t3:=splice_mid (cvC_at_size id p a b n gx gy inf bits size leg F t3) (cvC_len_size id p a b n gx gy inf bits) (by simp [KD,KN]) (cvC_at_size id p a b n gx gy inf bits size' leg F t3)
theorem cvC_at_leg (id:Nat) (p:Nat) (a:Nat) (b:Nat) (n:Nat) (gx gy:Nat) (inf:Bool) (bits:Nat) (size:Nat) (leg:Bool) (F:Value) (t3:Nat):cvC id p a b n gx gy inf bits size leg F t3 = ([.int .i64 ((id:Nat):Int)]++(natL p++(natL a++(natL b++(natL n++(ptL gx gy inf++([.int .i64 ((bits:Nat):Int)]++([.int .i64 ((size:Nat):Int)]))))))))++(([.bool leg])++([F]++(natL t3))):=by simp only [cvC,List.append_assoc,List.append_nil,List.nil_append]
theorem cvC_len_leg (id:Nat) (p:Nat) (a:Nat) (b:Nat) (n:Nat) (gx gy:Nat) (inf:Bool) (bits:Nat) (size:Nat):([.int .i64 ((id:Nat):Int)]++(natL p++(natL a++(natL b++(natL n++(ptL gx gy inf++([.int .i64 ((bits:Nat):Int)]++([.int .i64 ((size:Nat):Int)]))))))):List Value).length = 58:=by simp [KD,KN]
theorem cvC_set_leg (id:Nat) (p:Nat) (a:Nat) (b:Nat) (n:Nat) (gx gy:Nat) (inf:Bool) (bits:Nat) (size:Nat) (leg:Bool) (F:Value) (t3:Nat) (leg':Bool):splice (cvC id p a b n gx gy inf bits size leg F t3) 58 ([.bool leg']) = cvC id p a b n gx gy inf bits size leg' F t3:=splice_mid (cvC_at_leg id p a b n gx gy inf bits size leg F t3) (cvC_len_leg id p a b n gx gy inf bits size) (by simp [KD,KN]) (cvC_at_leg id p a b n gx gy inf bits size leg' F t3)
theorem cvC_at_F (id:Nat) (p:Nat) (a:Nat) (b:Nat) (n:Nat) (gx gy:Nat) (inf:Bool) (bits:Nat) (size:Nat) (leg:Bool) (F:Value) (t3:Nat):cvC id p a b n gx gy inf bits size leg F t3 = ([.int .i64 ((id:Nat):Int)]++(natL p++(natL a++(natL b++(natL n++(ptL gx gy inf++([.int .i64 ((bits:Nat):Int)]++([.int .i64 ((size:Nat):Int)]++([.bool leg])))))))))++(([F])++(natL t3)):=by simp only [cvC,List.append_assoc,List.append_nil,List.nil_append]
theorem cvC_len_F (id:Nat) (p:Nat) (a:Nat) (b:Nat) (n:Nat) (gx gy:Nat) (inf:Bool) (bits:Nat) (size:Nat) (leg:Bool):([.int .i64 ((id:Nat):Int)]++(natL p++(natL a++(natL b++(natL n++(ptL gx gy inf++([.int .i64 ((bits:Nat):Int)]++([.int .i64 ((size:Nat):Int)]++([.bool leg])))))))):List Value).length = 59:=by simp [KD,KN]
theorem cvC_at_t3 (id:Nat) (p:Nat) (a:Nat) (b:Nat) (n:Nat) (gx gy:Nat) (inf:Bool) (bits:Nat) (size:Nat) (leg:Bool) (F:Value) (t3:Nat):cvC id p a b n gx gy inf bits size leg F t3 = ([.int .i64 ((id:Nat):Int)]++(natL p++(natL a++(natL b++(natL n++(ptL gx gy inf++([.int .i64 ((bits:Nat):Int)]++([.int .i64 ((size:Nat):Int)]++([.bool leg]++([F]))))))))))++((natL t3)++([])):=by simp only [cvC,List.append_assoc,List.append_nil,List.nil_append]
theorem cvC_len_t3 (id:Nat) (p:Nat) (a:Nat) (b:Nat) (n:Nat) (gx gy:Nat) (inf:Bool) (bits:Nat) (size:Nat) (leg:Bool) (F:Value):([.int .i64 ((id:Nat):Int)]++(natL p++(natL a++(natL b++(natL n++(ptL gx gy inf++([.int .i64 ((bits:Nat):Int)]++([.int .i64 ((size:Nat):Int)]++([.bool leg]++([F]))))))))):List Value).length = 60:=by simp [KD,KN]
theorem cvC_set_t3 (id:Nat) (p:Nat) (a:Nat) (b:Nat) (n:Nat) (gx gy:Nat) (inf:Bool) (bits:Nat) (size:Nat) (leg:Bool) (F:Value) (t3:Nat) (t3':Nat):splice (cvC id p a b n gx gy inf bits size leg F t3) 60 (natL t3') = cvC id p a b n gx gy inf bits size leg F t3':=splice_mid (cvC_at_t3 id p a b n gx gy inf bits size leg F t3) (cvC_len_t3 id p a b n gx gy inf bits size leg F) (by simp [KD,KN]) (cvC_at_t3 id p a b n gx gy inf bits size leg F t3')
theorem KAS (id:Nat) (p:Nat) (a:Nat) (b:Nat) (n:Nat) (gx gy:Nat) (inf:Bool) (bits:Nat) (size:Nat) (leg:Bool) (F:Value) (t3:Nat):(cvC id p a b n gx gy inf bits size leg F t3).length = 69:=by simp [cvC,KD,KN]
theorem cvC_zero:([Value.int .i64 ((0:Nat):Int)]++(vec .u64 9 (fun _=>0)++(vec .u64 9 (fun _=>0)++(vec .u64 9 (fun _=>0)++(vec .u64 9 (fun _=>0)++(vec .u64 9 (fun _=>0)++(vec .u64 9 (fun _=>0)++([Value.bool false,Value.int .i64 ((0:Nat):Int),Value.int .i64 ((0:Nat):Int),Value.bool false,Value.pointer none]++(vec .u64 9 (fun _=>0))))))))):List Value) = cvC 0 0 0 0 0 0 0 false 0 0 false (.pointer none) 0:=by
  simp only [cvC,natL,ptL,vec_zeros 9,List.append_assoc,List.cons_append,List.nil_append]
theorem fillF (F:Value) (h1:F.cells = #[F]):fillL [(0,59),(59,1),(60,9)] ([Value.int .i64 ((0:Nat):Int)]++(vec .u64 9 (fun _=>0)++(vec .u64 9 (fun _=>0)++(vec .u64 9 (fun _=>0)++(vec .u64 9 (fun _=>0)++(vec .u64 9 (fun _=>0)++(vec .u64 9 (fun _=>0)++([Value.bool false,Value.int .i64 ((0:Nat):Int),Value.int .i64 ((0:Nat):Int),Value.bool false,Value.pointer none]++(vec .u64 9 (fun _=>0))))))))) ) [(1,F)] = some (cvC 0 0 0 0 0 0 0 false 0 0 false F 0):=by
  rw [cvC_zero]
  refine KAR (cs:=[F]) rfl (by rw [h1]) rfl (cvC_at_F _ _ _ _ _ _ _ _ _ _ _ _ _) (cvC_len_F _ _ _ _ _ _ _ _ _ _ _) rfl ?_
  unfold fillL
  rw [cvC_at_F]
theorem cvC_ld_a (id:Nat) (p:Nat) (a:Nat) (b:Nat) (n:Nat) (gx gy:Nat) (inf:Bool) (bits:Nat) (size:Nat) (leg:Bool) (F:Value) (t3:Nat) (wr:Bool) (e:TypeId) (fz:Nat×Nat):LoadV Try.prog 33 ⟨wr,cvC id p a b n gx gy inf bits size leg F t3,e,fz⟩ 10 (.agg (natL a).toArray):=LoadV.mid Try.underlying33 rfl sz_33 (cvC_at_a id p a b n gx gy inf bits size leg F t3) (cvC_len_a id p) (by simp [KD,KN])
theorem cvC_ld_b (id:Nat) (p:Nat) (a:Nat) (b:Nat) (n:Nat) (gx gy:Nat) (inf:Bool) (bits:Nat) (size:Nat) (leg:Bool) (F:Value) (t3:Nat) (wr:Bool) (e:TypeId) (fz:Nat×Nat):LoadV Try.prog 33 ⟨wr,cvC id p a b n gx gy inf bits size leg F t3,e,fz⟩ 19 (.agg (natL b).toArray):=LoadV.mid Try.underlying33 rfl sz_33 (cvC_at_b id p a b n gx gy inf bits size leg F t3) (cvC_len_b id p a) (by simp [KD,KN])
theorem cvC_ld_n (id:Nat) (p:Nat) (a:Nat) (b:Nat) (n:Nat) (gx gy:Nat) (inf:Bool) (bits:Nat) (size:Nat) (leg:Bool) (F:Value) (t3:Nat) (wr:Bool) (e:TypeId) (fz:Nat×Nat):LoadV Try.prog 33 ⟨wr,cvC id p a b n gx gy inf bits size leg F t3,e,fz⟩ 28 (.agg (natL n).toArray):=LoadV.mid Try.underlying33 rfl sz_33 (cvC_at_n id p a b n gx gy inf bits size leg F t3) (cvC_len_n id p a b) (by simp [KD,KN])
theorem cvC_gt_F (id:Nat) (p:Nat) (a:Nat) (b:Nat) (n:Nat) (gx gy:Nat) (inf:Bool) (bits:Nat) (size:Nat) (leg:Bool) (F:Value) (t3:Nat):(cvC id p a b n gx gy inf bits size leg F t3)[59]? = some (F):=get_mid (cvC_at_F id p a b n gx gy inf bits size leg F t3) (cvC_len_F id p a b n gx gy inf bits size leg)
theorem cvC_ld_t3 (id:Nat) (p:Nat) (a:Nat) (b:Nat) (n:Nat) (gx gy:Nat) (inf:Bool) (bits:Nat) (size:Nat) (leg:Bool) (F:Value) (t3:Nat) (wr:Bool) (e:TypeId) (fz:Nat×Nat):LoadV Try.prog 33 ⟨wr,cvC id p a b n gx gy inf bits size leg F t3,e,fz⟩ 60 (.agg (natL t3).toArray):=LoadV.mid Try.underlying33 rfl sz_33 (cvC_at_t3 id p a b n gx gy inf bits size leg F t3) (cvC_len_t3 id p a b n gx gy inf bits size leg F) (by simp [KD,KN])
def rowsB (V:Cv) (s0 s1 s2 s3 s4:ByteArray):Bool:=(if s0.data.toList = [45,51] then Nat.beq (V.a+3) V.p else hexB s0 V.a) && hexB s1 V.b && hexB s2 V.n && hexB s3 V.x && hexB s4 V.y
theorem rowsB_spec {V:Cv} {s0 s1 s2 s3 s4:ByteArray} (h:rowsB V s0 s1 s2 s3 s4 = true):((s0.data.toList = [45,51]∧V.a+3 = V.p)∨(s0.data.toList≠[45,51]∧hexB s0 V.a = true))∧hexB s1 V.b = true∧hexB s2 V.n = true∧hexB s3 V.x = true∧hexB s4 V.y = true:=by
  simp only [rowsB,Bool.and_eq_true] at h
  obtain ⟨⟨⟨⟨h1,h2⟩,h3⟩,h4⟩,h5⟩:=h
  refine ⟨?_,h2,h3,h4,h5⟩
  split at h1
  · exact .inl ⟨by assumption,Nat.eq_of_beq_eq_true h1⟩
  · exact .inr ⟨by assumption,h1⟩
theorem c_rows (id:Int) (w:World)  : Calls Try.prog 113 ([.int .i64 id]:List Value).toArray w (fun e w'=>(∃ V,cvI id = some V∧∃ v,(∃ s0 s1 s2 s3 s4,v = .agg [.string s0,.string s1,.string s2,.string s3,.string s4].toArray∧rowsB V s0 s1 s2 s3 s4 = true)∧e = .returned v∧Below w.heap.size w w')∨cvI id = none):=by
  refine Ki (N:=50) (rs:=[.cell 2 156]) [] Try.func113 rfl Try.ntmps113 Try.results113 (Nb rfl) trivial rfl ?_
  show LCode _ _ _ ⟨_,_⟩ _
  refine KB (KA ?_)
  refine oS (mk (KX zr_156) (fun b2=>?_))
  refine KC ?_
  refine KB ?_
  refine KB (KA ?_)
  refine oM ?_
  refine KC ?_
  refine LCode.block ?_
  refine KB (KA ?_)
  refine oP (KF (v:=.bool (decide (id = 1))) rfl rfl KAN) ?_
  refine oA ?_
  refine KC ?_
  first|refine KS rfl (fun hk1=>?_) (fun hk1=>?_)|refine KU rfl (fun hk1=>?_) (fun hk1=>?_)
  ·
    refine KB (KA ?_)
    refine oP (Det.buildN (n:=5) pl_156 zr_156 rfl rfl rfl rfl rfl) ?_
    refine KV rfl (sA rfl rfl sz_156 (by repeat (first|exact KO|refine KJ rfl ?_)) (hl:=by rfl) (h:=?_))
    refine KC (KM ?_)
    refine ⟨[_],.cons ⟨_,_,_,rfl,(by repeat (first|exact Mh _|apply Mt)),by exact KI Try.underlying156 rfl sz_156⟩ .nil,fun a w' hr=>?_⟩
    exact .inl ⟨cv1,by rw [hk1]; rfl,_,⟨_,_,_,_,_,rfl,by kernel_rfl⟩,rfl,hr.fr.below⟩
  ·
    refine KB (KA ?_)
    refine oP (KF (v:=.bool (decide (id = 2))) rfl rfl KAN) ?_
    refine oA ?_
    refine KC ?_
    first|refine KS rfl (fun hk2=>?_) (fun hk2=>?_)|refine KU rfl (fun hk2=>?_) (fun hk2=>?_)
    ·
      refine KB (KA ?_)
      refine oP (Det.buildN (n:=5) pl_156 zr_156 rfl rfl rfl rfl rfl) ?_
      refine KV rfl (sA rfl rfl sz_156 (by repeat (first|exact KO|refine KJ rfl ?_)) (hl:=by rfl) (h:=?_))
      refine KC (KM ?_)
      refine ⟨[_],.cons ⟨_,_,_,rfl,(by repeat (first|exact Mh _|apply Mt)),by exact KI Try.underlying156 rfl sz_156⟩ .nil,fun a w' hr=>?_⟩
      exact .inl ⟨cv2,by rw [hk2]; rfl,_,⟨_,_,_,_,_,rfl,by kernel_rfl⟩,rfl,hr.fr.below⟩
    ·
      refine KB (KA ?_)
      refine oP (KF (v:=.bool (decide (id = 3))) rfl rfl KAN) ?_
      refine oA ?_
      refine KC ?_
      first|refine KS rfl (fun hk3=>?_) (fun hk3=>?_)|refine KU rfl (fun hk3=>?_) (fun hk3=>?_)
      ·
        refine KB (KA ?_)
        refine oP (Det.buildN (n:=5) pl_156 zr_156 rfl rfl rfl rfl rfl) ?_
        refine KV rfl (sA rfl rfl sz_156 (by repeat (first|exact KO|refine KJ rfl ?_)) (hl:=by rfl) (h:=?_))
        refine KC (KM ?_)
        refine ⟨[_],.cons ⟨_,_,_,rfl,(by repeat (first|exact Mh _|apply Mt)),by exact KI Try.underlying156 rfl sz_156⟩ .nil,fun a w' hr=>?_⟩
        exact .inl ⟨cv3,by rw [hk3]; rfl,_,⟨_,_,_,_,_,rfl,by kernel_rfl⟩,rfl,hr.fr.below⟩
      ·
        refine KB (KA ?_)
        refine oP (KF (v:=.bool (decide (id = 4))) rfl rfl KAN) ?_
        refine oA ?_
        refine KC ?_
        first|refine KS rfl (fun hk4=>?_) (fun hk4=>?_)|refine KU rfl (fun hk4=>?_) (fun hk4=>?_)
        ·
          refine KB (KA ?_)
          refine oP (Det.buildN (n:=5) pl_156 zr_156 rfl rfl rfl rfl rfl) ?_
          refine KV rfl (sA rfl rfl sz_156 (by repeat (first|exact KO|refine KJ rfl ?_)) (hl:=by rfl) (h:=?_))
          refine KC (KM ?_)
          refine ⟨[_],.cons ⟨_,_,_,rfl,(by repeat (first|exact Mh _|apply Mt)),by exact KI Try.underlying156 rfl sz_156⟩ .nil,fun a w' hr=>?_⟩
          exact .inl ⟨cv4,by rw [hk4]; rfl,_,⟨_,_,_,_,_,rfl,by kernel_rfl⟩,rfl,hr.fr.below⟩
        ·
          refine KB (KA ?_)
          refine oP (KF (v:=.bool (decide (id = 5))) rfl rfl KAN) ?_
          refine oA ?_
          refine KC ?_
          first|refine KS rfl (fun hk5=>?_) (fun hk5=>?_)|refine KU rfl (fun hk5=>?_) (fun hk5=>?_)
          ·
            refine KB (KA ?_)
            refine oP (Det.buildN (n:=5) pl_156 zr_156 rfl rfl rfl rfl rfl) ?_
            refine KV rfl (sA rfl rfl sz_156 (by repeat (first|exact KO|refine KJ rfl ?_)) (hl:=by rfl) (h:=?_))
            refine KC (KM ?_)
            refine ⟨[_],.cons ⟨_,_,_,rfl,(by repeat (first|exact Mh _|apply Mt)),by exact KI Try.underlying156 rfl sz_156⟩ .nil,fun a w' hr=>?_⟩
            exact .inl ⟨cv5,by rw [hk5]; rfl,_,⟨_,_,_,_,_,rfl,by kernel_rfl⟩,rfl,hr.fr.below⟩
          ·
            refine KB (KA ?_)
            refine oP (KF (v:=.bool (decide (id = 6))) rfl rfl KAN) ?_
            refine oA ?_
            refine KC ?_
            first|refine KS rfl (fun hk6=>?_) (fun hk6=>?_)|refine KU rfl (fun hk6=>?_) (fun hk6=>?_)
            ·
              refine KB (KA ?_)
              refine oP (Det.buildN (n:=5) pl_156 zr_156 rfl rfl rfl rfl rfl) ?_
              refine KV rfl (sA rfl rfl sz_156 (by repeat (first|exact KO|refine KJ rfl ?_)) (hl:=by rfl) (h:=?_))
              refine KC (KM ?_)
              refine ⟨[_],.cons ⟨_,_,_,rfl,(by repeat (first|exact Mh _|apply Mt)),by exact KI Try.underlying156 rfl sz_156⟩ .nil,fun a w' hr=>?_⟩
              exact .inl ⟨cv6,by rw [hk6]; rfl,_,⟨_,_,_,_,_,rfl,by kernel_rfl⟩,rfl,hr.fr.below⟩
            ·
              refine KB (KA ?_)
              refine oP (KF (v:=.bool (decide (id = 7))) rfl rfl KAN) ?_
              refine oA ?_
              refine KC ?_
              first|refine KS rfl (fun hk7=>?_) (fun hk7=>?_)|refine KU rfl (fun hk7=>?_) (fun hk7=>?_)
              ·
                refine KB (KA ?_)
                refine oP (Det.buildN (n:=5) pl_156 zr_156 rfl rfl rfl rfl rfl) ?_
                refine KV rfl (sA rfl rfl sz_156 (by repeat (first|exact KO|refine KJ rfl ?_)) (hl:=by rfl) (h:=?_))
                refine KC (KM ?_)
                refine ⟨[_],.cons ⟨_,_,_,rfl,(by repeat (first|exact Mh _|apply Mt)),by exact KI Try.underlying156 rfl sz_156⟩ .nil,fun a w' hr=>?_⟩
                exact .inl ⟨cv7,by rw [hk7]; rfl,_,⟨_,_,_,_,_,rfl,by kernel_rfl⟩,rfl,hr.fr.below⟩
              ·
                refine KB (KA ?_)
                refine oP (KF (v:=.bool (decide (id = 8))) rfl rfl KAN) ?_
                refine oA ?_
                refine KC ?_
                first|refine KS rfl (fun hk8=>?_) (fun hk8=>?_)|refine KU rfl (fun hk8=>?_) (fun hk8=>?_)
                ·
                  refine KB (KA ?_)
                  refine oP (Det.buildN (n:=5) pl_156 zr_156 rfl rfl rfl rfl rfl) ?_
                  refine KV rfl (sA rfl rfl sz_156 (by repeat (first|exact KO|refine KJ rfl ?_)) (hl:=by rfl) (h:=?_))
                  refine KC (KM ?_)
                  refine ⟨[_],.cons ⟨_,_,_,rfl,(by repeat (first|exact Mh _|apply Mt)),by exact KI Try.underlying156 rfl sz_156⟩ .nil,fun a w' hr=>?_⟩
                  exact .inl ⟨cv8,by rw [hk8]; rfl,_,⟨_,_,_,_,_,rfl,by kernel_rfl⟩,rfl,hr.fr.below⟩
                ·
                  refine KB (KA ?_)
                  refine oP (KF (v:=.bool (decide (id = 9))) rfl rfl KAN) ?_
                  refine oA ?_
                  refine KC ?_
                  first|refine KS rfl (fun hk9=>?_) (fun hk9=>?_)|refine KU rfl (fun hk9=>?_) (fun hk9=>?_)
                  ·
                    refine KB (KA ?_)
                    refine oP (Det.buildN (n:=5) pl_156 zr_156 rfl rfl rfl rfl rfl) ?_
                    refine KV rfl (sA rfl rfl sz_156 (by repeat (first|exact KO|refine KJ rfl ?_)) (hl:=by rfl) (h:=?_))
                    refine KC (KM ?_)
                    refine ⟨[_],.cons ⟨_,_,_,rfl,(by repeat (first|exact Mh _|apply Mt)),by exact KI Try.underlying156 rfl sz_156⟩ .nil,fun a w' hr=>?_⟩
                    exact .inl ⟨cv9,by rw [hk9]; rfl,_,⟨_,_,_,_,_,rfl,by kernel_rfl⟩,rfl,hr.fr.below⟩
                  ·
                    refine KB (KA ?_)
                    refine oP (KF (v:=.bool (decide (id = 10))) rfl rfl KAN) ?_
                    refine oA ?_
                    refine KC ?_
                    first|refine KS rfl (fun hk10=>?_) (fun hk10=>?_)|refine KU rfl (fun hk10=>?_) (fun hk10=>?_)
                    ·
                      refine KB (KA ?_)
                      refine oP (Det.buildN (n:=5) pl_156 zr_156 rfl rfl rfl rfl rfl) ?_
                      refine KV rfl (sA rfl rfl sz_156 (by repeat (first|exact KO|refine KJ rfl ?_)) (hl:=by rfl) (h:=?_))
                      refine KC (KM ?_)
                      refine ⟨[_],.cons ⟨_,_,_,rfl,(by repeat (first|exact Mh _|apply Mt)),by exact KI Try.underlying156 rfl sz_156⟩ .nil,fun a w' hr=>?_⟩
                      exact .inl ⟨cv10,by rw [hk10]; rfl,_,⟨_,_,_,_,_,rfl,by kernel_rfl⟩,rfl,hr.fr.below⟩
                    ·
                      refine KB (KA ?_)
                      refine oP (KF (v:=.bool (decide (id = 11))) rfl rfl KAN) ?_
                      refine oA ?_
                      refine KC ?_
                      first|refine KS rfl (fun hk11=>?_) (fun hk11=>?_)|refine KU rfl (fun hk11=>?_) (fun hk11=>?_)
                      ·
                        refine KB (KA ?_)
                        refine oP (Det.buildN (n:=5) pl_156 zr_156 rfl rfl rfl rfl rfl) ?_
                        refine KV rfl (sA rfl rfl sz_156 (by repeat (first|exact KO|refine KJ rfl ?_)) (hl:=by rfl) (h:=?_))
                        refine KC (KM ?_)
                        refine ⟨[_],.cons ⟨_,_,_,rfl,(by repeat (first|exact Mh _|apply Mt)),by exact KI Try.underlying156 rfl sz_156⟩ .nil,fun a w' hr=>?_⟩
                        exact .inl ⟨cv11,by rw [hk11]; rfl,_,⟨_,_,_,_,_,rfl,by kernel_rfl⟩,rfl,hr.fr.below⟩
                      ·
                        refine KB (KA ?_)
                        refine oP (KF (v:=.bool (decide (id = 12))) rfl rfl KAN) ?_
                        refine oA ?_
                        refine KC ?_
                        first|refine KS rfl (fun hk12=>?_) (fun hk12=>?_)|refine KU rfl (fun hk12=>?_) (fun hk12=>?_)
                        ·
                          refine KB (KA ?_)
                          refine oP (Det.buildN (n:=5) pl_156 zr_156 rfl rfl rfl rfl rfl) ?_
                          refine KV rfl (sA rfl rfl sz_156 (by repeat (first|exact KO|refine KJ rfl ?_)) (hl:=by rfl) (h:=?_))
                          refine KC (KM ?_)
                          refine ⟨[_],.cons ⟨_,_,_,rfl,(by repeat (first|exact Mh _|apply Mt)),by exact KI Try.underlying156 rfl sz_156⟩ .nil,fun a w' hr=>?_⟩
                          exact .inl ⟨cv12,by rw [hk12]; rfl,_,⟨_,_,_,_,_,rfl,by kernel_rfl⟩,rfl,hr.fr.below⟩
                        ·
                          refine KB (KA ?_)
                          refine oP (KF (v:=.bool (decide (id = 13))) rfl rfl KAN) ?_
                          refine oA ?_
                          refine KC ?_
                          first|refine KS rfl (fun hk13=>?_) (fun hk13=>?_)|refine KU rfl (fun hk13=>?_) (fun hk13=>?_)
                          ·
                            refine KB (KA ?_)
                            refine oP (Det.buildN (n:=5) pl_156 zr_156 rfl rfl rfl rfl rfl) ?_
                            refine KV rfl (sA rfl rfl sz_156 (by repeat (first|exact KO|refine KJ rfl ?_)) (hl:=by rfl) (h:=?_))
                            refine KC (KM ?_)
                            refine ⟨[_],.cons ⟨_,_,_,rfl,(by repeat (first|exact Mh _|apply Mt)),by exact KI Try.underlying156 rfl sz_156⟩ .nil,fun a w' hr=>?_⟩
                            exact .inl ⟨cv13,by rw [hk13]; rfl,_,⟨_,_,_,_,_,rfl,by kernel_rfl⟩,rfl,hr.fr.below⟩
                          ·
                            refine KB (KA ?_)
                            refine oP (KF (v:=.bool (decide (id = 14))) rfl rfl KAN) ?_
                            refine oA ?_
                            refine KC ?_
                            first|refine KS rfl (fun hk14=>?_) (fun hk14=>?_)|refine KU rfl (fun hk14=>?_) (fun hk14=>?_)
                            ·
                              refine KB (KA ?_)
                              refine oP (Det.buildN (n:=5) pl_156 zr_156 rfl rfl rfl rfl rfl) ?_
                              refine KV rfl (sA rfl rfl sz_156 (by repeat (first|exact KO|refine KJ rfl ?_)) (hl:=by rfl) (h:=?_))
                              refine KC (KM ?_)
                              refine ⟨[_],.cons ⟨_,_,_,rfl,(by repeat (first|exact Mh _|apply Mt)),by exact KI Try.underlying156 rfl sz_156⟩ .nil,fun a w' hr=>?_⟩
                              exact .inl ⟨cv14,by rw [hk14]; rfl,_,⟨_,_,_,_,_,rfl,by kernel_rfl⟩,rfl,hr.fr.below⟩
                            ·
                              refine KB (KA ?_)
                              refine oP (KF (v:=.bool (decide (id = 15))) rfl rfl KAN) ?_
                              refine oA ?_
                              refine KC ?_
                              first|refine KS rfl (fun hk15=>?_) (fun hk15=>?_)|refine KU rfl (fun hk15=>?_) (fun hk15=>?_)
                              ·
                                refine KB (KA ?_)
                                refine oP (Det.buildN (n:=5) pl_156 zr_156 rfl rfl rfl rfl rfl) ?_
                                refine KV rfl (sA rfl rfl sz_156 (by repeat (first|exact KO|refine KJ rfl ?_)) (hl:=by rfl) (h:=?_))
                                refine KC (KM ?_)
                                refine ⟨[_],.cons ⟨_,_,_,rfl,(by repeat (first|exact Mh _|apply Mt)),by exact KI Try.underlying156 rfl sz_156⟩ .nil,fun a w' hr=>?_⟩
                                exact .inl ⟨cv15,by rw [hk15]; rfl,_,⟨_,_,_,_,_,rfl,by kernel_rfl⟩,rfl,hr.fr.below⟩
                              ·
                                refine KT ?_
                                refine KB (KA ?_)
                                refine oP (KK (Ky pl_156 zr_156 rfl rfl) (show _ = Value.agg [.string ⟨#[]⟩,.string ⟨#[]⟩,.string ⟨#[]⟩,.string ⟨#[]⟩,.string ⟨#[]⟩].toArray from rfl)) ?_
                                refine KV rfl (sA rfl rfl sz_156 (by repeat (first|exact KO|refine KJ rfl ?_)) (hl:=by rfl) (h:=?_))
                                refine KC (KM ?_)
                                refine ⟨[_],.cons ⟨_,_,_,rfl,(by repeat (first|exact Mh _|apply Mt)),by exact KI Try.underlying156 rfl sz_156⟩ .nil,fun a w' hr=>?_⟩
                                exact .inr (cvI_none hk1 hk2 hk3 hk4 hk5 hk6 hk7 hk8 hk9 hk10 hk11 hk12 hk13 hk14 hk15)
theorem c_rows_some (id:Int) (V:Cv) (w:World) (h:cvI id = some V):Calls Try.prog 113 ([.int .i64 id]:List Value).toArray w (fun e w'=>∃ v,(∃ s0 s1 s2 s3 s4,v = .agg [.string s0,.string s1,.string s2,.string s3,.string s4].toArray∧rowsB V s0 s1 s2 s3 s4 = true)∧e = .returned v∧Below w.heap.size w w') :=
  (c_rows id w).mono fun e w' h'=>by
    rcases h' with ⟨V',hV,h1⟩|h1
    · rw [h] at hV; cases hV; exact h1
    · rw [h] at h1; cases h1
end Go.Proofs.Ytlmiolnccgjjjaa
set_option linter.unusedVariables false
set_option linter.unusedSimpArgs false
set_option maxRecDepth 20000
namespace Go.Proofs.Ytlmiolnccgjjjaa
open Go Go.RowKit
theorem blen_w9 {A:Nat} (h:A<W9):blen A≤576:=by
  obtain ⟨k,hk⟩:∃ k:Nat,k = 9:=⟨9,rfl⟩
  have:=blen_le (lt_w9_pow h k hk)
  omega
def legB (V:Cv):Bool:=decide (V.id = 1∨V.id = 7)
def thr (V:Cv):Nat:=((V.b+V.b)%V.p+V.b)%V.p
def opL (V:Cv) (f:Nat):List Value:=cvC V.id V.p V.a V.b V.n V.x V.y false (blen V.n) (nby V.p) (legB V) (.pointer (some ⟨f,0,none⟩)) (thr V)
theorem fill_pt (X Y:Nat):fillL [(0,9),(9,9),(18,1)] (vec .u64 9 (fun _=>0)++(vec .u64 9 (fun _=>0)++[Value.bool false])) [(0,natV X),(1,natV Y)] = some (ptL X Y false):=by
  refine KAR (A:=[]) (B:=vec .u64 9 (fun _=>0)) (D:=vec .u64 9 (fun _=>0)++[Value.bool false]) (cs:=natL X) rfl rfl (KD _) rfl rfl (KH _ _ _) ?_
  refine (KAR (A:=natL X) (B:=vec .u64 9 (fun _=>0)) (D:=[Value.bool false]) (cs:=natL Y) rfl rfl (KD _) (by simp) (KD _) (KH _ _ _) rfl).trans ?_
  simp [ptL]
theorem c_Open_none (id:Int) (w:World) (h:cvI id = none):Calls Try.prog 80 ([.int .i64 id]:List Value).toArray w (fun e w'=>e = .returned (.pointer none)∧Below w.heap.size w w'):=by
  refine Ki (N:=130) (rs:=[.tmp 2]) [] Try.func80 rfl Try.ntmps80 Try.results80 (Nb rfl) trivial rfl ?_
  show LCode _ _ _ ⟨_,_⟩ _
  refine KB (KA ?_)
  refine oA ?_
  refine KC ?_
  refine KB (KA ?_)
  refine oM ?_
  refine oS (cF rfl en_112 rfl (fun w hw=>c_f_Of_none id w h) ?_)
  refine oA ?_
  refine KC ?_
  refine KB ?_
  refine KB (KA ?_)
  refine oM ?_
  refine oP (KK (Det.eqp Try.underlying127 rfl rfl) (show _ = Value.bool true from rfl)) ?_
  refine KC ?_
  refine Kf rfl ?_
  refine KB (KA ?_)
  refine oA ?_
  refine KC (KM ?_)
  refine ⟨[_],.cons rfl .nil,fun a w' hr=>⟨?_,hr.fr.below⟩⟩
  rfl
theorem c_Open (id:Int) (V:Cv) (w:World) (h:cvI id = some V):Calls Try.prog 80 ([.int .i64 id]:List Value).toArray w (fun e w'=>∃ b f bd,e = .returned (.pointer (some ⟨b,0,none⟩))∧(Item.blk b ⟨false,opL V f,129,(0,0)⟩).holds w'∧(Item.blk f ⟨false,fldL V.p bd,162,(0,0)⟩).holds w'∧(Item.blk bd ⟨false,dvL V.p,212,(0,0)⟩).holds w'∧w.heap.size≤b∧w.heap.size≤f∧w.heap.size≤bd∧Below w.heap.size w w'):=by
  obtain ⟨hok,rfl⟩:=cvI_ok h
  refine Ki (N:=130) (rs:=[.tmp 2]) [] Try.func80 rfl Try.ntmps80 Try.results80 (Nb rfl) trivial rfl ?_
  show LCode _ _ _ ⟨_,_⟩ _
  refine KB (KA ?_)
  refine oA ?_
  refine KC ?_
  refine KB (KA ?_)
  refine oM ?_
  refine oS (LStep.callZ (Post:=fun v its=>∃ f bd,v = .pointer (some ⟨f,0,none⟩)∧its = [.blk f ⟨false,fldL V.p bd,162,(0,0)⟩,.blk bd ⟨false,dvL V.p,212,(0,0)⟩]∧w.heap.size≤f∧w.heap.size≤bd) (first:=[]) rfl en_112 rfl (Nb rfl) (fun w1 hw hs=>(c_f_Of _ V w1 h).mono fun e w' ⟨f,bd,h1,h2,h3,h4,h5,h6⟩=>⟨_,_,⟨f,bd,rfl,rfl,Nat.le_trans hs h4,Nat.le_trans hs h5⟩,h1,Brings.nums h6 (by intro x hx; simp at hx; rcases hx with rfl|rfl; exact h2; exact h3) (by intro x hx; simp at hx; rcases hx with rfl|rfl <;> rfl) (by intro x hx k hk; simp at hx; rcases hx with rfl|rfl <;> simp [Item.fp] at hk <;> subst hk; exact .inl h4; exact .inl h5)⟩) ?_)
  rintro _ _ ⟨f,bd,rfl,rfl,hnf,hnbd⟩
  refine oA ?_
  refine KC ?_
  refine KB ?_
  refine KB (KA ?_)
  refine oM ?_
  refine oP (KK (Det.eqp Try.underlying127 rfl rfl) (show _ = Value.bool false from rfl)) ?_
  refine KC ?_
  refine KR rfl ?_
  refine KT ?_
  refine KB ?_
  have hbb:=hok.bounds
  have hpW:V.p<W9:=w9_521 hbb.2.1
  have hnW:V.n<W9:=w9_521 hbb.2.2.2.2.2.2.1
  have hbln:=blen_w9 hnW
  have hblp:=blen_w9 hpW
  refine KA ?_
  refine oM ?_
  refine oS (LStep.callV (first:=[]) rfl en_113 rfl (Nb rfl) (fun w hw=>c_rows_some _ V w h) ?_)
  rintro _ ⟨s0,s1,s2,s3,s4,rfl,hrow⟩
  obtain ⟨hA,hB,hN,hX,hY⟩:=rowsB_spec hrow
  clear hrow
  refine oS (mk (KX zr_156) (fun b4=>?_))
  refine KV rfl (sA rfl rfl sz_156 (by repeat (first|exact KO|refine KJ rfl ?_)) (hl:=by rfl) (h:=?_))
  refine KC ?_
  refine KB (KA ?_)
  refine oM ?_
  refine oP (KK (Ky pl_129 zr_129 rfl (fillF (.pointer (some ⟨f,0,none⟩)) rfl)) rfl) ?_
  refine oS (mB (fun b14=>?_))
  refine oA ?_
  refine KC ?_
  refine LCode.cut (α:=Unit) (fun _=>True) (fun _=>⟨[(0,.int .i64 ((V.id:Nat):Int)),(3,.pointer (some ⟨f,0,none⟩)),(4,.pointer (some ⟨b4,0,none⟩)),(5,.pointer (some ⟨b14,0,none⟩))],[.blk b14 ⟨true,cvC V.id V.p 0 V.b V.n 0 0 false 0 0 false (.pointer (some ⟨f,0,none⟩)) 0,129,(0,0)⟩,.blk b4 ⟨true,[.string s0,.string s1,.string s2,.string s3,.string s4],156,(0,0)⟩,.blk f ⟨false,fldL V.p bd,162,(0,0)⟩,.blk bd ⟨false,dvL V.p,212,(0,0)⟩]⟩) ?_ ?_
  ·
    refine rD [18,22,26,30] ?_
    refine aM 0 ?_
    refine aM 1 ?_
    refine aM 2 ?_
    refine aM 3 ?_
    refine aM 4 ?_
    refine aM 5 ?_
    refine aP 6 rfl (KQ rfl) ?_
    refine aP 7 rfl (KG (o':=0) Try.underlying162 rfl rfl rfl sz_33 (by decide)) ?_
    refine aD 8 rfl (dL rfl (hv:=by exact KAF Try.underlying33 rfl sz_33 rfl (KD _))) ?_
    refine aP 9 rfl (KG (o':=1) Try.underlying156 rfl rfl rfl sz_9 (by decide)) ?_
    refine aP 12 rfl (KG (o':=2) Try.underlying156 rfl rfl rfl sz_9 (by decide)) ?_
    refine LAny.takeW [11,14,15,16,17,18,19,20,21,22,23,24,25,26,27,28,29,30] 10 rfl (by kernel_rfl) (Nb rfl) (dL rfl (hv:=KL Try.underlying9 rfl (by first|rfl|exact Ke _ _ _ (by omega)|exact Kd _ (by omega)|exact Kb _ (by omega)|exact dv_m _ _ _ (by omega)))) ?_
    refine LAny.takeW [14,15,16,17,18,19,20,21,22,23,24,25,26,27,28,29,30] 13 rfl (by kernel_rfl) (Nb rfl) (dL rfl (hv:=KL Try.underlying9 rfl (by first|rfl|exact Ke _ _ _ (by omega)|exact Kd _ (by omega)|exact Kb _ (by omega)|exact dv_m _ _ _ (by omega)))) ?_
    refine aO 11 rfl (cF rfl en_114 rfl (fun w hw=>fhex s1 V.b w hB) ?_)
    refine aO 14 rfl (cF rfl en_114 rfl (fun w hw=>fhex s2 V.n w hN) ?_)
    refine aP 15 rfl (KQ rfl) ?_
    refine aP 16 rfl (KG (o':=0) Try.underlying129 rfl rfl rfl sz_126 (by decide)) ?_
    refine aP 17 rfl (KG (o':=0) Try.underlying126 rfl rfl rfl sz_3 (by decide)) ?_
    refine aL 18 rfl (Kz rfl rfl rfl sz_3 (by first|exact KD _|exact KN _ _ _|rfl) (by first|exact Ka _|exact Kg _ _ _|exact KJ rfl KO) (by repeat (first|exact Sh _|apply St_)) (by simp only [KAS]; decide) (cvC_set_id _ _ _ _ _ _ _ _ _ _ _ _ _ _) (by simp) ?_)
    refine aP 19 rfl (KQ rfl) ?_
    refine aP 20 rfl (KG (o':=0) Try.underlying129 rfl rfl rfl sz_126 (by decide)) ?_
    refine aP 21 rfl (KG (o':=1) Try.underlying126 rfl rfl rfl sz_33 (by decide)) ?_
    refine aL 22 rfl (Kz rfl rfl rfl sz_33 (by first|exact KD _|exact KN _ _ _|rfl) (by first|exact Ka _|exact Kg _ _ _|exact KJ rfl KO) (by repeat (first|exact Sh _|apply St_)) (by simp only [KAS]; decide) (cvC_set_p _ _ _ _ _ _ _ _ _ _ _ _ _ _) (by simp) ?_)
    refine aP 23 rfl (KQ rfl) ?_
    refine aP 24 rfl (KG (o':=0) Try.underlying129 rfl rfl rfl sz_126 (by decide)) ?_
    refine aP 25 rfl (KG (o':=19) Try.underlying126 rfl rfl rfl sz_33 (by decide)) ?_
    refine aL 26 rfl (Kz rfl rfl rfl sz_33 (by first|exact KD _|exact KN _ _ _|rfl) (by first|exact Ka _|exact Kg _ _ _|exact KJ rfl KO) (by repeat (first|exact Sh _|apply St_)) (by simp only [KAS]; decide) (cvC_set_b _ _ _ _ _ _ _ _ _ _ _ _ _ _) (by simp) ?_)
    refine aP 27 rfl (KQ rfl) ?_
    refine aP 28 rfl (KG (o':=0) Try.underlying129 rfl rfl rfl sz_126 (by decide)) ?_
    refine aP 29 rfl (KG (o':=28) Try.underlying126 rfl rfl rfl sz_33 (by decide)) ?_
    refine aL 30 rfl (Kz rfl rfl rfl sz_33 (by first|exact KD _|exact KN _ _ _|rfl) (by first|exact Ka _|exact Kg _ _ _|exact KJ rfl KO) (by repeat (first|exact Sh _|apply St_)) (by simp only [KAS]; decide) (cvC_set_n _ _ _ _ _ _ _ _ _ _ _ _ _ _) (by simp) ?_)
    refine aE ?_
    exact ⟨(),trivial,Kq ⟨rfl,rfl,rfl,rfl,trivial⟩ (by repeat (first|exact Sel.nil _|refine Sel.cons (by repeat (first|exact Ph _|apply Pt_)) ?_))⟩
  ·
    rintro _ _
    refine KB ?_
    refine KB ?_
    rcases hA with ⟨hA0,hVa⟩|⟨hA0,hA1⟩
    ·
      refine KA ?_
      refine oP (KG (o':=0) Try.underlying156 rfl rfl rfl sz_9 (by decide)) ?_
      refine oD (dL rfl (hv:=KL Try.underlying9 rfl (by first|rfl|exact Ke _ _ _ (by omega)|exact Kd _ (by omega)|exact Kb _ (by omega)|exact dv_m _ _ _ (by omega)))) ?_
      refine oP (KK (Det.eqs rfl rfl) (congrArg Value.bool (eq_str_t hA0))) ?_
      refine KC ?_
      refine Kf rfl ?_
      refine rD [13] ?_
      refine aM 0 ?_
      refine aM 1 ?_
      refine aP 2 rfl (KQ rfl) ?_
      refine aP 3 rfl (KG (o':=0) Try.underlying162 rfl rfl rfl sz_33 (by decide)) ?_
      refine aD 4 rfl (dL rfl (hv:=by exact KAF Try.underlying33 rfl sz_33 rfl (KD _))) ?_
      refine aO 5 rfl (cF rfl en_116 rfl (fun w hw=>c_nat_Small 3 (by decide) w) ?_)
      refine aO 6 rfl (cF rfl en_115 rfl (fun w hw=>c_nat_SubS V.p 3 w (by omega) (by omega)) ?_)
      refine aM 7 ?_
      refine aP 8 rfl (KW rfl rfl) ?_
      refine aP 9 rfl (KW rfl rfl) ?_
      refine aP 10 rfl (KQ rfl) ?_
      refine aP 11 rfl (KG (o':=0) Try.underlying129 rfl rfl rfl sz_126 (by decide)) ?_
      refine aP 12 rfl (KG (o':=10) Try.underlying126 rfl rfl rfl sz_33 (by decide)) ?_
      refine aL 13 rfl (Kz rfl rfl rfl sz_33 (by first|exact KD _|exact KN _ _ _|rfl) (by first|exact Ka _|exact Kg _ _ _|exact KJ rfl KO) (by repeat (first|exact Sh _|apply St_)) (by simp only [KAS]; decide) (cvC_set_a _ _ _ _ _ _ _ _ _ _ _ _ _ _) (by simp) ?_)
      refine aE ?_
      refine KB ?_
      refine rD [11] ?_
      refine aM 0 ?_
      refine aP 1 rfl (KG (o':=3) Try.underlying156 rfl rfl rfl sz_9 (by decide)) ?_
      refine aD 2 rfl (dL rfl (hv:=KL Try.underlying9 rfl (by first|rfl|exact Ke _ _ _ (by omega)|exact Kd _ (by omega)|exact Kb _ (by omega)|exact dv_m _ _ _ (by omega)))) ?_
      refine aP 4 rfl (KG (o':=4) Try.underlying156 rfl rfl rfl sz_9 (by decide)) ?_
      refine aD 5 rfl (dL rfl (hv:=KL Try.underlying9 rfl (by first|rfl|exact Ke _ _ _ (by omega)|exact Kd _ (by omega)|exact Kb _ (by omega)|exact dv_m _ _ _ (by omega)))) ?_
      refine aO 3 rfl (cF rfl en_114 rfl (fun w hw=>fhex s3 V.x w hX) ?_)
      refine aO 6 rfl (cF rfl en_114 rfl (fun w hw=>fhex s4 V.y w hY) ?_)
      refine aP 7 rfl (KK (Ky pl_35 zr_35 rfl (fill_pt _ _)) rfl) ?_
      refine aP 8 rfl (KQ rfl) ?_
      refine aP 9 rfl (KG (o':=0) Try.underlying129 rfl rfl rfl sz_126 (by decide)) ?_
      refine aP 10 rfl (KG (o':=37) Try.underlying126 rfl rfl rfl sz_35 (by decide)) ?_
      refine aL 11 rfl (Kz rfl rfl rfl sz_35 (by first|exact KD _|exact KN _ _ _|rfl) (by first|exact Ka _|exact Kg _ _ _|exact KJ rfl KO) (by repeat (first|exact Sh _|apply St_)) (by simp only [KAS]; decide) (cvC_set_g _ _ _ _ _ _ _ _ _ _ _ _ _ _ _ _) (by simp) ?_)
      refine aE ?_
      refine KB ?_
      refine rD [18,22] ?_
      refine aM 0 ?_
      refine aM 1 ?_
      refine aM 2 ?_
      refine aP 3 rfl (KQ rfl) ?_
      refine aP 4 rfl (KG (o':=0) Try.underlying129 rfl rfl rfl sz_126 (by decide)) ?_
      refine aP 5 rfl (KG (o':=28) Try.underlying126 rfl rfl rfl sz_33 (by decide)) ?_
      refine aD 6 rfl (dL rfl (hv:=by exact cvC_ld_n _ _ _ _ _ _ _ _ _ _ _ _ _ _ _ _)) ?_
      refine aM 8 ?_
      refine aP 9 rfl (KQ rfl) ?_
      refine aP 10 rfl (KG (o':=0) Try.underlying162 rfl rfl rfl sz_33 (by decide)) ?_
      refine aD 11 rfl (dL rfl (hv:=by exact KAF Try.underlying33 rfl sz_33 rfl (KD _))) ?_
      refine aO 7 rfl (cF rfl en_117 rfl (fun w hw=>c_nat_Bits V.n hnW w) ?_)
      refine aO 12 rfl (cF rfl en_117 rfl (fun w hw=>c_nat_Bits V.p hpW w) ?_)
      refine aP 13 rfl (KF rfl rfl (Kv (b:=7) (by omega))) ?_
      refine aP 14 rfl (KF rfl rfl (br_quo (b:=8) (by omega) (by omega))) ?_
      refine aP 15 rfl (KQ rfl) ?_
      refine aP 16 rfl (KG (o':=0) Try.underlying129 rfl rfl rfl sz_126 (by decide)) ?_
      refine aP 17 rfl (KG (o':=56) Try.underlying126 rfl rfl rfl sz_3 (by decide)) ?_
      refine aL 18 rfl (Kz rfl rfl rfl sz_3 (by first|exact KD _|exact KN _ _ _|rfl) (by first|exact Ka _|exact Kg _ _ _|exact KJ rfl KO) (by repeat (first|exact Sh _|apply St_)) (by simp only [KAS]; decide) (cvC_set_bits _ _ _ _ _ _ _ _ _ _ _ _ _ _) (by simp) ?_)
      refine aP 19 rfl (KQ rfl) ?_
      refine aP 20 rfl (KG (o':=0) Try.underlying129 rfl rfl rfl sz_126 (by decide)) ?_
      refine aP 21 rfl (KG (o':=57) Try.underlying126 rfl rfl rfl sz_3 (by decide)) ?_
      refine aL 22 rfl (Kz rfl rfl rfl sz_3 (by first|exact KD _|exact KN _ _ _|rfl) (by first|exact Ka _|exact Kg _ _ _|exact KJ rfl KO) (by repeat (first|exact Sh _|apply St_)) (by simp only [KAS]; decide) (cvC_set_size _ _ _ _ _ _ _ _ _ _ _ _ _ _) (by simp) ?_)
      refine aE ?_
      refine KB ?_
      by_cases hi1:((V.id:Nat):Int) = 1
      ·
        refine KA ?_
        refine oM ?_
        refine oM ?_
        refine oP (KF (v:=.bool true) rfl rfl (br_t KAN hi1)) ?_
        refine oM ?_
        refine oK ?_
        refine oK ?_
        refine oP (Kn rfl rfl) ?_
        refine oP (KQ rfl) ?_
        refine oP (KG (o':=0) Try.underlying129 rfl rfl rfl sz_126 (by decide)) ?_
        refine oP (KG (o':=58) Try.underlying126 rfl rfl rfl sz_4 (by decide)) ?_
        refine KV rfl (Kz rfl rfl rfl sz_4 (by first|exact KD _|exact KN _ _ _|rfl) (by first|exact Ka _|exact Kg _ _ _|exact KJ rfl KO) (by repeat (first|exact Sh _|apply St_)) (by simp only [KAS]; decide) (cvC_set_leg _ _ _ _ _ _ _ _ _ _ _ _ _ _) (by simp) ?_)
        refine KC ?_
        refine KB ?_
        refine rD [22] ?_
        refine aM 0 ?_
        refine aM 1 ?_
        refine aM 2 ?_
        refine aM 3 ?_
        refine aP 4 rfl (KQ rfl) ?_
        refine aP 5 rfl (KG (o':=0) Try.underlying129 rfl rfl rfl sz_126 (by decide)) ?_
        refine aP 6 rfl (KG (o':=19) Try.underlying126 rfl rfl rfl sz_33 (by decide)) ?_
        refine aD 7 rfl (dL rfl (hv:=by exact cvC_ld_b _ _ _ _ _ _ _ _ _ _ _ _ _ _ _ _)) ?_
        refine aM 8 ?_
        refine aP 9 rfl (KQ rfl) ?_
        refine aP 10 rfl (KG (o':=0) Try.underlying129 rfl rfl rfl sz_126 (by decide)) ?_
        refine aP 11 rfl (KG (o':=19) Try.underlying126 rfl rfl rfl sz_33 (by decide)) ?_
        refine aD 12 rfl (dL rfl (hv:=by exact cvC_ld_b _ _ _ _ _ _ _ _ _ _ _ _ _ _ _ _)) ?_
        refine aM 14 ?_
        refine aP 15 rfl (KQ rfl) ?_
        refine aP 16 rfl (KG (o':=0) Try.underlying129 rfl rfl rfl sz_126 (by decide)) ?_
        refine aP 17 rfl (KG (o':=19) Try.underlying126 rfl rfl rfl sz_33 (by decide)) ?_
        refine aD 18 rfl (dL rfl (hv:=by exact cvC_ld_b _ _ _ _ _ _ _ _ _ _ _ _ _ _ _ _)) ?_
        refine aO 13 rfl (cF rfl en_118 rfl (fun w hw=>c_f_Add V f bd V.b V.b w (mC hw) hbb.2.1 (by omega) (by omega)) ?_)
        refine aO 19 rfl (cF rfl en_118 rfl (fun w hw=>c_f_Add V f bd ((V.b+V.b)%V.p) V.b w (mC hw) hbb.2.1 (Nat.mod_lt _ (by omega)) (by omega)) ?_)
        refine aP 20 rfl (KQ rfl) ?_
        refine aP 21 rfl (KG (o':=60) Try.underlying129 rfl rfl rfl sz_33 (by decide)) ?_
        refine aL 22 rfl (Kz rfl rfl rfl sz_33 (by first|exact KD _|exact KN _ _ _|rfl) (by first|exact Ka _|exact Kg _ _ _|exact KJ rfl KO) (by repeat (first|exact Sh _|apply St_)) (by simp only [KAS]; decide) (cvC_set_t3 _ _ _ _ _ _ _ _ _ _ _ _ _ _) (by simp) ?_)
        refine aE ?_
        refine KB (KA ?_)
        refine oM ?_
        refine oA ?_
        refine KC (KM ?_)
        refine ⟨[_],.cons rfl .nil,fun a w' hr=>⟨b14,f,bd,rfl,?_,hr.hp _ (by repeat (first|exact Mh _|apply Mt)),hr.hp _ (by repeat (first|exact Mh _|apply Mt)),hr.new (B:=⟨true,_,_,_⟩) (by repeat (first|exact Mh _|apply Mt)) rfl,hnf,hnbd,hr.fr.below⟩⟩
        have hcv:=hr.hp _ (show Item.blk b14 ⟨true,cvC V.id V.p (V.p-3) V.b V.n V.x V.y false (blen V.n) (nby V.p) true (.pointer (some ⟨f,0,none⟩)) (thr V),129,(0,0)⟩∈_ from (by repeat (first|exact Mh _|apply Mt)))
        have hl:legB V = true:=by unfold legB; exact decide_eq_true (by omega)
        have ha:V.a = V.p-3:=by omega
        rw [← ha] at hcv
        unfold opL
        rw [hl]
        exact hcv
      ·
        refine KA ?_
        refine oM ?_
        refine oM ?_
        refine oP (KF (v:=.bool false) rfl rfl (br_f KAN hi1)) ?_
        refine oM ?_
        refine oGM ?_
        refine oGP (KF (v:=.bool (decide (((V.id:Nat):Int) = 7))) rfl rfl KAN) ?_
        refine oP (Kh rfl rfl) ?_
        refine oP (KQ rfl) ?_
        refine oP (KG (o':=0) Try.underlying129 rfl rfl rfl sz_126 (by decide)) ?_
        refine oP (KG (o':=58) Try.underlying126 rfl rfl rfl sz_4 (by decide)) ?_
        refine KV rfl (Kz rfl rfl rfl sz_4 (by first|exact KD _|exact KN _ _ _|rfl) (by first|exact Ka _|exact Kg _ _ _|exact KJ rfl KO) (by repeat (first|exact Sh _|apply St_)) (by simp only [KAS]; decide) (cvC_set_leg _ _ _ _ _ _ _ _ _ _ _ _ _ _) (by simp) ?_)
        refine KC ?_
        refine KB ?_
        refine rD [22] ?_
        refine aM 0 ?_
        refine aM 1 ?_
        refine aM 2 ?_
        refine aM 3 ?_
        refine aP 4 rfl (KQ rfl) ?_
        refine aP 5 rfl (KG (o':=0) Try.underlying129 rfl rfl rfl sz_126 (by decide)) ?_
        refine aP 6 rfl (KG (o':=19) Try.underlying126 rfl rfl rfl sz_33 (by decide)) ?_
        refine aD 7 rfl (dL rfl (hv:=by exact cvC_ld_b _ _ _ _ _ _ _ _ _ _ _ _ _ _ _ _)) ?_
        refine aM 8 ?_
        refine aP 9 rfl (KQ rfl) ?_
        refine aP 10 rfl (KG (o':=0) Try.underlying129 rfl rfl rfl sz_126 (by decide)) ?_
        refine aP 11 rfl (KG (o':=19) Try.underlying126 rfl rfl rfl sz_33 (by decide)) ?_
        refine aD 12 rfl (dL rfl (hv:=by exact cvC_ld_b _ _ _ _ _ _ _ _ _ _ _ _ _ _ _ _)) ?_
        refine aM 14 ?_
        refine aP 15 rfl (KQ rfl) ?_
        refine aP 16 rfl (KG (o':=0) Try.underlying129 rfl rfl rfl sz_126 (by decide)) ?_
        refine aP 17 rfl (KG (o':=19) Try.underlying126 rfl rfl rfl sz_33 (by decide)) ?_
        refine aD 18 rfl (dL rfl (hv:=by exact cvC_ld_b _ _ _ _ _ _ _ _ _ _ _ _ _ _ _ _)) ?_
        refine aO 13 rfl (cF rfl en_118 rfl (fun w hw=>c_f_Add V f bd V.b V.b w (mC hw) hbb.2.1 (by omega) (by omega)) ?_)
        refine aO 19 rfl (cF rfl en_118 rfl (fun w hw=>c_f_Add V f bd ((V.b+V.b)%V.p) V.b w (mC hw) hbb.2.1 (Nat.mod_lt _ (by omega)) (by omega)) ?_)
        refine aP 20 rfl (KQ rfl) ?_
        refine aP 21 rfl (KG (o':=60) Try.underlying129 rfl rfl rfl sz_33 (by decide)) ?_
        refine aL 22 rfl (Kz rfl rfl rfl sz_33 (by first|exact KD _|exact KN _ _ _|rfl) (by first|exact Ka _|exact Kg _ _ _|exact KJ rfl KO) (by repeat (first|exact Sh _|apply St_)) (by simp only [KAS]; decide) (cvC_set_t3 _ _ _ _ _ _ _ _ _ _ _ _ _ _) (by simp) ?_)
        refine aE ?_
        refine KB (KA ?_)
        refine oM ?_
        refine oA ?_
        refine KC (KM ?_)
        refine ⟨[_],.cons rfl .nil,fun a w' hr=>⟨b14,f,bd,rfl,?_,hr.hp _ (by repeat (first|exact Mh _|apply Mt)),hr.hp _ (by repeat (first|exact Mh _|apply Mt)),hr.new (B:=⟨true,_,_,_⟩) (by repeat (first|exact Mh _|apply Mt)) rfl,hnf,hnbd,hr.fr.below⟩⟩
        have hcv:=hr.hp _ (show Item.blk b14 ⟨true,cvC V.id V.p (V.p-3) V.b V.n V.x V.y false (blen V.n) (nby V.p) (decide (((V.id:Nat):Int) = 7)) (.pointer (some ⟨f,0,none⟩)) (thr V),129,(0,0)⟩∈_ from (by repeat (first|exact Mh _|apply Mt)))
        have hl:legB V = (decide (((V.id:Nat):Int) = 7)):=by unfold legB; by_cases h7:V.id = 7 <;> simp [h7]; omega
        have ha:V.a = V.p-3:=by omega
        rw [← ha] at hcv
        unfold opL
        rw [hl]
        exact hcv
    ·
      refine KA ?_
      refine oP (KG (o':=0) Try.underlying156 rfl rfl rfl sz_9 (by decide)) ?_
      refine oD (dL rfl (hv:=KL Try.underlying9 rfl (by first|rfl|exact Ke _ _ _ (by omega)|exact Kd _ (by omega)|exact Kb _ (by omega)|exact dv_m _ _ _ (by omega)))) ?_
      refine oP (KK (Det.eqs rfl rfl) (congrArg Value.bool (eq_str_f hA0))) ?_
      refine KC ?_
      refine KR rfl ?_
      refine KA ?_
      refine oM ?_
      refine oP (KG (o':=0) Try.underlying156 rfl rfl rfl sz_9 (by decide)) ?_
      refine oD (dL rfl (hv:=KL Try.underlying9 rfl (by first|rfl|exact Ke _ _ _ (by omega)|exact Kd _ (by omega)|exact Kb _ (by omega)|exact dv_m _ _ _ (by omega)))) ?_
      refine oS (cF rfl en_114 rfl (fun w hw=>fhex s0 V.a w hA1) ?_)
      refine oP (KQ rfl) ?_
      refine oP (KG (o':=0) Try.underlying129 rfl rfl rfl sz_126 (by decide)) ?_
      refine oP (KG (o':=10) Try.underlying126 rfl rfl rfl sz_33 (by decide)) ?_
      refine KV rfl (Kz rfl rfl rfl sz_33 (by first|exact KD _|exact KN _ _ _|rfl) (by first|exact Ka _|exact Kg _ _ _|exact KJ rfl KO) (by repeat (first|exact Sh _|apply St_)) (by simp only [KAS]; decide) (cvC_set_a _ _ _ _ _ _ _ _ _ _ _ _ _ _) (by simp) ?_)
      refine KC ?_
      refine KB ?_
      refine rD [11] ?_
      refine aM 0 ?_
      refine aP 1 rfl (KG (o':=3) Try.underlying156 rfl rfl rfl sz_9 (by decide)) ?_
      refine aD 2 rfl (dL rfl (hv:=KL Try.underlying9 rfl (by first|rfl|exact Ke _ _ _ (by omega)|exact Kd _ (by omega)|exact Kb _ (by omega)|exact dv_m _ _ _ (by omega)))) ?_
      refine aP 4 rfl (KG (o':=4) Try.underlying156 rfl rfl rfl sz_9 (by decide)) ?_
      refine aD 5 rfl (dL rfl (hv:=KL Try.underlying9 rfl (by first|rfl|exact Ke _ _ _ (by omega)|exact Kd _ (by omega)|exact Kb _ (by omega)|exact dv_m _ _ _ (by omega)))) ?_
      refine aO 3 rfl (cF rfl en_114 rfl (fun w hw=>fhex s3 V.x w hX) ?_)
      refine aO 6 rfl (cF rfl en_114 rfl (fun w hw=>fhex s4 V.y w hY) ?_)
      refine aP 7 rfl (KK (Ky pl_35 zr_35 rfl (fill_pt _ _)) rfl) ?_
      refine aP 8 rfl (KQ rfl) ?_
      refine aP 9 rfl (KG (o':=0) Try.underlying129 rfl rfl rfl sz_126 (by decide)) ?_
      refine aP 10 rfl (KG (o':=37) Try.underlying126 rfl rfl rfl sz_35 (by decide)) ?_
      refine aL 11 rfl (Kz rfl rfl rfl sz_35 (by first|exact KD _|exact KN _ _ _|rfl) (by first|exact Ka _|exact Kg _ _ _|exact KJ rfl KO) (by repeat (first|exact Sh _|apply St_)) (by simp only [KAS]; decide) (cvC_set_g _ _ _ _ _ _ _ _ _ _ _ _ _ _ _ _) (by simp) ?_)
      refine aE ?_
      refine KB ?_
      refine rD [18,22] ?_
      refine aM 0 ?_
      refine aM 1 ?_
      refine aM 2 ?_
      refine aP 3 rfl (KQ rfl) ?_
      refine aP 4 rfl (KG (o':=0) Try.underlying129 rfl rfl rfl sz_126 (by decide)) ?_
      refine aP 5 rfl (KG (o':=28) Try.underlying126 rfl rfl rfl sz_33 (by decide)) ?_
      refine aD 6 rfl (dL rfl (hv:=by exact cvC_ld_n _ _ _ _ _ _ _ _ _ _ _ _ _ _ _ _)) ?_
      refine aM 8 ?_
      refine aP 9 rfl (KQ rfl) ?_
      refine aP 10 rfl (KG (o':=0) Try.underlying162 rfl rfl rfl sz_33 (by decide)) ?_
      refine aD 11 rfl (dL rfl (hv:=by exact KAF Try.underlying33 rfl sz_33 rfl (KD _))) ?_
      refine aO 7 rfl (cF rfl en_117 rfl (fun w hw=>c_nat_Bits V.n hnW w) ?_)
      refine aO 12 rfl (cF rfl en_117 rfl (fun w hw=>c_nat_Bits V.p hpW w) ?_)
      refine aP 13 rfl (KF rfl rfl (Kv (b:=7) (by omega))) ?_
      refine aP 14 rfl (KF rfl rfl (br_quo (b:=8) (by omega) (by omega))) ?_
      refine aP 15 rfl (KQ rfl) ?_
      refine aP 16 rfl (KG (o':=0) Try.underlying129 rfl rfl rfl sz_126 (by decide)) ?_
      refine aP 17 rfl (KG (o':=56) Try.underlying126 rfl rfl rfl sz_3 (by decide)) ?_
      refine aL 18 rfl (Kz rfl rfl rfl sz_3 (by first|exact KD _|exact KN _ _ _|rfl) (by first|exact Ka _|exact Kg _ _ _|exact KJ rfl KO) (by repeat (first|exact Sh _|apply St_)) (by simp only [KAS]; decide) (cvC_set_bits _ _ _ _ _ _ _ _ _ _ _ _ _ _) (by simp) ?_)
      refine aP 19 rfl (KQ rfl) ?_
      refine aP 20 rfl (KG (o':=0) Try.underlying129 rfl rfl rfl sz_126 (by decide)) ?_
      refine aP 21 rfl (KG (o':=57) Try.underlying126 rfl rfl rfl sz_3 (by decide)) ?_
      refine aL 22 rfl (Kz rfl rfl rfl sz_3 (by first|exact KD _|exact KN _ _ _|rfl) (by first|exact Ka _|exact Kg _ _ _|exact KJ rfl KO) (by repeat (first|exact Sh _|apply St_)) (by simp only [KAS]; decide) (cvC_set_size _ _ _ _ _ _ _ _ _ _ _ _ _ _) (by simp) ?_)
      refine aE ?_
      refine KB ?_
      by_cases hi1:((V.id:Nat):Int) = 1
      ·
        refine KA ?_
        refine oM ?_
        refine oM ?_
        refine oP (KF (v:=.bool true) rfl rfl (br_t KAN hi1)) ?_
        refine oM ?_
        refine oK ?_
        refine oK ?_
        refine oP (Kn rfl rfl) ?_
        refine oP (KQ rfl) ?_
        refine oP (KG (o':=0) Try.underlying129 rfl rfl rfl sz_126 (by decide)) ?_
        refine oP (KG (o':=58) Try.underlying126 rfl rfl rfl sz_4 (by decide)) ?_
        refine KV rfl (Kz rfl rfl rfl sz_4 (by first|exact KD _|exact KN _ _ _|rfl) (by first|exact Ka _|exact Kg _ _ _|exact KJ rfl KO) (by repeat (first|exact Sh _|apply St_)) (by simp only [KAS]; decide) (cvC_set_leg _ _ _ _ _ _ _ _ _ _ _ _ _ _) (by simp) ?_)
        refine KC ?_
        refine KB ?_
        refine rD [22] ?_
        refine aM 0 ?_
        refine aM 1 ?_
        refine aM 2 ?_
        refine aM 3 ?_
        refine aP 4 rfl (KQ rfl) ?_
        refine aP 5 rfl (KG (o':=0) Try.underlying129 rfl rfl rfl sz_126 (by decide)) ?_
        refine aP 6 rfl (KG (o':=19) Try.underlying126 rfl rfl rfl sz_33 (by decide)) ?_
        refine aD 7 rfl (dL rfl (hv:=by exact cvC_ld_b _ _ _ _ _ _ _ _ _ _ _ _ _ _ _ _)) ?_
        refine aM 8 ?_
        refine aP 9 rfl (KQ rfl) ?_
        refine aP 10 rfl (KG (o':=0) Try.underlying129 rfl rfl rfl sz_126 (by decide)) ?_
        refine aP 11 rfl (KG (o':=19) Try.underlying126 rfl rfl rfl sz_33 (by decide)) ?_
        refine aD 12 rfl (dL rfl (hv:=by exact cvC_ld_b _ _ _ _ _ _ _ _ _ _ _ _ _ _ _ _)) ?_
        refine aM 14 ?_
        refine aP 15 rfl (KQ rfl) ?_
        refine aP 16 rfl (KG (o':=0) Try.underlying129 rfl rfl rfl sz_126 (by decide)) ?_
        refine aP 17 rfl (KG (o':=19) Try.underlying126 rfl rfl rfl sz_33 (by decide)) ?_
        refine aD 18 rfl (dL rfl (hv:=by exact cvC_ld_b _ _ _ _ _ _ _ _ _ _ _ _ _ _ _ _)) ?_
        refine aO 13 rfl (cF rfl en_118 rfl (fun w hw=>c_f_Add V f bd V.b V.b w (mC hw) hbb.2.1 (by omega) (by omega)) ?_)
        refine aO 19 rfl (cF rfl en_118 rfl (fun w hw=>c_f_Add V f bd ((V.b+V.b)%V.p) V.b w (mC hw) hbb.2.1 (Nat.mod_lt _ (by omega)) (by omega)) ?_)
        refine aP 20 rfl (KQ rfl) ?_
        refine aP 21 rfl (KG (o':=60) Try.underlying129 rfl rfl rfl sz_33 (by decide)) ?_
        refine aL 22 rfl (Kz rfl rfl rfl sz_33 (by first|exact KD _|exact KN _ _ _|rfl) (by first|exact Ka _|exact Kg _ _ _|exact KJ rfl KO) (by repeat (first|exact Sh _|apply St_)) (by simp only [KAS]; decide) (cvC_set_t3 _ _ _ _ _ _ _ _ _ _ _ _ _ _) (by simp) ?_)
        refine aE ?_
        refine KB (KA ?_)
        refine oM ?_
        refine oA ?_
        refine KC (KM ?_)
        refine ⟨[_],.cons rfl .nil,fun a w' hr=>⟨b14,f,bd,rfl,?_,hr.hp _ (by repeat (first|exact Mh _|apply Mt)),hr.hp _ (by repeat (first|exact Mh _|apply Mt)),hr.new (B:=⟨true,_,_,_⟩) (by repeat (first|exact Mh _|apply Mt)) rfl,hnf,hnbd,hr.fr.below⟩⟩
        have hcv:=hr.hp _ (show Item.blk b14 ⟨true,cvC V.id V.p V.a V.b V.n V.x V.y false (blen V.n) (nby V.p) true (.pointer (some ⟨f,0,none⟩)) (thr V),129,(0,0)⟩∈_ from (by repeat (first|exact Mh _|apply Mt)))
        have hl:legB V = true:=by unfold legB; exact decide_eq_true (by omega)
        unfold opL
        rw [hl]
        exact hcv
      ·
        refine KA ?_
        refine oM ?_
        refine oM ?_
        refine oP (KF (v:=.bool false) rfl rfl (br_f KAN hi1)) ?_
        refine oM ?_
        refine oGM ?_
        refine oGP (KF (v:=.bool (decide (((V.id:Nat):Int) = 7))) rfl rfl KAN) ?_
        refine oP (Kh rfl rfl) ?_
        refine oP (KQ rfl) ?_
        refine oP (KG (o':=0) Try.underlying129 rfl rfl rfl sz_126 (by decide)) ?_
        refine oP (KG (o':=58) Try.underlying126 rfl rfl rfl sz_4 (by decide)) ?_
        refine KV rfl (Kz rfl rfl rfl sz_4 (by first|exact KD _|exact KN _ _ _|rfl) (by first|exact Ka _|exact Kg _ _ _|exact KJ rfl KO) (by repeat (first|exact Sh _|apply St_)) (by simp only [KAS]; decide) (cvC_set_leg _ _ _ _ _ _ _ _ _ _ _ _ _ _) (by simp) ?_)
        refine KC ?_
        refine KB ?_
        refine rD [22] ?_
        refine aM 0 ?_
        refine aM 1 ?_
        refine aM 2 ?_
        refine aM 3 ?_
        refine aP 4 rfl (KQ rfl) ?_
        refine aP 5 rfl (KG (o':=0) Try.underlying129 rfl rfl rfl sz_126 (by decide)) ?_
        refine aP 6 rfl (KG (o':=19) Try.underlying126 rfl rfl rfl sz_33 (by decide)) ?_
        refine aD 7 rfl (dL rfl (hv:=by exact cvC_ld_b _ _ _ _ _ _ _ _ _ _ _ _ _ _ _ _)) ?_
        refine aM 8 ?_
        refine aP 9 rfl (KQ rfl) ?_
        refine aP 10 rfl (KG (o':=0) Try.underlying129 rfl rfl rfl sz_126 (by decide)) ?_
        refine aP 11 rfl (KG (o':=19) Try.underlying126 rfl rfl rfl sz_33 (by decide)) ?_
        refine aD 12 rfl (dL rfl (hv:=by exact cvC_ld_b _ _ _ _ _ _ _ _ _ _ _ _ _ _ _ _)) ?_
        refine aM 14 ?_
        refine aP 15 rfl (KQ rfl) ?_
        refine aP 16 rfl (KG (o':=0) Try.underlying129 rfl rfl rfl sz_126 (by decide)) ?_
        refine aP 17 rfl (KG (o':=19) Try.underlying126 rfl rfl rfl sz_33 (by decide)) ?_
        refine aD 18 rfl (dL rfl (hv:=by exact cvC_ld_b _ _ _ _ _ _ _ _ _ _ _ _ _ _ _ _)) ?_
        refine aO 13 rfl (cF rfl en_118 rfl (fun w hw=>c_f_Add V f bd V.b V.b w (mC hw) hbb.2.1 (by omega) (by omega)) ?_)
        refine aO 19 rfl (cF rfl en_118 rfl (fun w hw=>c_f_Add V f bd ((V.b+V.b)%V.p) V.b w (mC hw) hbb.2.1 (Nat.mod_lt _ (by omega)) (by omega)) ?_)
        refine aP 20 rfl (KQ rfl) ?_
        refine aP 21 rfl (KG (o':=60) Try.underlying129 rfl rfl rfl sz_33 (by decide)) ?_
        refine aL 22 rfl (Kz rfl rfl rfl sz_33 (by first|exact KD _|exact KN _ _ _|rfl) (by first|exact Ka _|exact Kg _ _ _|exact KJ rfl KO) (by repeat (first|exact Sh _|apply St_)) (by simp only [KAS]; decide) (cvC_set_t3 _ _ _ _ _ _ _ _ _ _ _ _ _ _) (by simp) ?_)
        refine aE ?_
        refine KB (KA ?_)
        refine oM ?_
        refine oA ?_
        refine KC (KM ?_)
        refine ⟨[_],.cons rfl .nil,fun a w' hr=>⟨b14,f,bd,rfl,?_,hr.hp _ (by repeat (first|exact Mh _|apply Mt)),hr.hp _ (by repeat (first|exact Mh _|apply Mt)),hr.new (B:=⟨true,_,_,_⟩) (by repeat (first|exact Mh _|apply Mt)) rfl,hnf,hnbd,hr.fr.below⟩⟩
        have hcv:=hr.hp _ (show Item.blk b14 ⟨true,cvC V.id V.p V.a V.b V.n V.x V.y false (blen V.n) (nby V.p) (decide (((V.id:Nat):Int) = 7)) (.pointer (some ⟨f,0,none⟩)) (thr V),129,(0,0)⟩∈_ from (by repeat (first|exact Mh _|apply Mt)))
        have hl:legB V = (decide (((V.id:Nat):Int) = 7)):=by unfold legB; by_cases h7:V.id = 7 <;> simp [h7]; omega
        unfold opL
        rw [hl]
        exact hcv
end Go.Proofs.Ytlmiolnccgjjjaa
set_option linter.unusedVariables false
set_option linter.unusedSimpArgs false
set_option maxRecDepth 20000
namespace Go.Proofs.Ytlmiolnccgjjjaa
open Go Go.RowKit
theorem c_Num (x:Int) (w:World)  : Calls Try.prog 33 ([.int .i64 x]:List Value).toArray w (fun e w'=>e = .returned (.int .i64 x)∧Below w.heap.size w w'):=by
  refine Ki (N:=4) (rs:=[.tmp 2]) [] Try.func33 rfl Try.ntmps33 Try.results33 (Nb rfl) trivial rfl ?_
  show LCode _ _ _ ⟨_,_⟩ _
  refine KB (KA ?_)
  refine oP (KZ (v:=.int .i64 ((0:Nat):Int)) rfl) ?_
  refine KC ?_
  refine KB (KA ?_)
  refine oM ?_
  refine oA ?_
  refine KC (KM ?_)
  refine ⟨[_],.cons rfl .nil,fun a w' hr=>⟨?_,hr.fr.below⟩⟩
  rfl
theorem zero_w9:0<W9:=w9_pos
end Go.Proofs.Ytlmiolnccgjjjaa
set_option linter.unusedVariables false
set_option linter.unusedSimpArgs false
set_option maxRecDepth 20000
namespace Go.Proofs.Ytlmiolnccgjjjaa
open Go Go.RowKit
open Grp
theorem pt_ld1 (X Y:Nat) (i:Bool) (wr:Bool) (e:TypeId) (fz:Nat×Nat):LoadV Try.prog 33 ⟨wr,ptL X Y i,e,fz⟩ 9 (natV Y):=LoadV.mid Try.underlying33 rfl sz_33 (show ptL X Y i = natL X++(natL Y++[.bool i]) from rfl) (KD _) (KD _)
theorem pj_ld2 (X Y Z:Nat) (wr:Bool) (e:TypeId) (fz:Nat×Nat):LoadV Try.prog 33 ⟨wr,pjL X Y Z,e,fz⟩ 18 (natV Z):=LoadV.last Try.underlying33 rfl sz_33 (show pjL X Y Z = (natL X++natL Y)++natL Z by simp [pjL]) (by simp [KD]) (KD _)
theorem pt_gt (X Y:Nat) (i:Bool):(ptL X Y i)[18]? = some (.bool i):=get_mid (A:=natL X++natL Y) (D:=[]) (by simp [ptL]) (by simp [KD])
theorem eq_pt (X Y:Nat) (i:Bool) (X' Y':Nat) (i':Bool) (hX:X<W9) (hY:Y<W9) (hX':X' < W9) (hY':Y' < W9):EqD 4 Try.prog 35 (ptV X Y i) (ptV X' Y' i') (decide (X = X') && (decide (Y = Y') && ((i == i') && true))):=by
  have d1:∀ A B i,((ptL A B i).drop 0).take 9 = natL A:=fun A B i=>by
    rw [List.drop_zero]; unfold ptL; rw [List.take_left' (KD A)]
  have d2:∀ A B i,((ptL A B i).drop 9).take 9 = natL B:=fun A B i=>by
    unfold ptL; rw [List.drop_left' (KD A),List.take_left' (KD B)]
  exact EqD.struct (fs:=[_,_,_]) Try.underlying35 (by kernel_rfl) (EqFs.cons (by decide) (PartOf.agg Try.underlying33 rfl sz_33 (d1 X Y i)) (PartOf.agg Try.underlying33 rfl sz_33 (d1 X' Y' i')) (eq_nat X X' hX hX')
    (EqFs.cons (by decide) (PartOf.agg Try.underlying33 rfl sz_33 (d2 X Y i)) (PartOf.agg Try.underlying33 rfl sz_33 (d2 X' Y' i')) (eq_nat Y Y' hY hY')
    (EqFs.cons (by decide) (PartOf.one Try.underlying4 rfl (pt_gt X Y i)) (PartOf.one Try.underlying4 rfl (pt_gt X' Y' i')) ((EqD.bool Try.underlying4).mono (by decide)) EqFs.nil)))
theorem pt_w9 {V:Cv} (hok:V.Ok) (P:Grp.Pt V.p):xv P<W9∧yv P<W9:=⟨w9_521 (Nat.lt_trans (xv_lt P) hok.bounds.2.1),w9_521 (Nat.lt_trans (yv_lt P) hok.bounds.2.1)⟩
def ptP {p:Nat} (P:Grp.Pt p):Value:=ptV (xv P) (yv P) (iv P)
theorem eq_ptP_t {V:Cv} (hok:V.Ok) {P Q:Grp.Pt V.p} (h:P = Q):EqD 4 Try.prog 35 (ptP P) (ptP Q) true:=by
  subst h
  have:=eq_pt (xv P) (yv P) (iv P) (xv P) (yv P) (iv P) (pt_w9 hok P).1 (pt_w9 hok P).2 (pt_w9 hok P).1 (pt_w9 hok P).2
  rwa [show (decide (xv P = xv P) && (decide (yv P = yv P) && ((iv P == iv P) && true))) = true by simp] at this
theorem fill_ptI (X Y:Nat) (i:Bool):fillL [(0,9),(9,9),(18,1)] (vec .u64 9 (fun _=>0)++(vec .u64 9 (fun _=>0)++[Value.bool false])) [(0,natV X),(1,natV Y),(2,.bool i)] = some (ptL X Y i):=by
  refine KAR (A:=[]) (B:=vec .u64 9 (fun _=>0)) (D:=vec .u64 9 (fun _=>0)++[Value.bool false]) (cs:=natL X) rfl rfl (KD _) rfl rfl (KH _ _ _) ?_
  refine KAR (A:=natL X) (B:=vec .u64 9 (fun _=>0)) (D:=[Value.bool false]) (cs:=natL Y) rfl rfl (KD _) (by simp) (KD _) (KH _ _ _) ?_
  refine (KAR (A:=natL X++natL Y) (B:=[Value.bool false]) (D:=[]) (cs:=[Value.bool i]) rfl rfl rfl (by simp) (by simp [KD]) rfl rfl).trans ?_
  simp [ptL]
theorem fill_ptInf:fillL [(0,9),(9,9),(18,1)] (vec .u64 9 (fun _=>0)++(vec .u64 9 (fun _=>0)++[Value.bool false])) [(2,.bool true)] = some (ptL 0 0 true):=by
  refine (KAR (A:=vec .u64 9 (fun _=>0)++vec .u64 9 (fun _=>0)) (B:=[Value.bool false]) (D:=[]) (cs:=[Value.bool true]) rfl rfl rfl (by simp) (by simp [KH]) rfl rfl).trans ?_
  simp [ptL,natL,vec_zeros 9]
theorem pt_zero:Value.agg (vec .u64 9 (fun _=>0)++(vec .u64 9 (fun _=>0)++[Value.bool false]):List Value).toArray = ptV 0 0 false:=by
  unfold ptV ptL natL; rw [vec_zeros 9]
section
variable (V:Cv) (hok:V.Ok) (f bd:Nat)
include hok
theorem c_F_Add (X Y:Fin V.p) (w:World) (hf:(Item.blk f ⟨false,fldL V.p bd,162,(0,0)⟩).holds w):Calls Try.prog 118 ([.pointer (some ⟨f,0,none⟩),natV X.val,natV Y.val]:List Value).toArray w (fun e w'=>e = .returned (natV (X+Y).val)∧Below w.heap.size w w'):=by
  have:=c_f_Add V f bd X.val Y.val w hf hok.bounds.2.1 X.isLt Y.isLt
  rwa [← Fin.val_add] at this
theorem c_F_Sub (X Y:Fin V.p) (w:World) (hf:(Item.blk f ⟨false,fldL V.p bd,162,(0,0)⟩).holds w):Calls Try.prog 130 ([.pointer (some ⟨f,0,none⟩),natV X.val,natV Y.val]:List Value).toArray w (fun e w'=>e = .returned (natV (X-Y).val)∧Below w.heap.size w w'):=by
  have:=c_f_Sub V f bd X.val Y.val w hf hok.bounds.2.1 X.isLt Y.isLt
  rwa [← fin_subv] at this
theorem c_F_Mul (X Y:Fin V.p) (w:World) (hf:(Item.blk f ⟨false,fldL V.p bd,162,(0,0)⟩).holds w) (hbd:(Item.blk bd ⟨false,dvL V.p,212,(0,0)⟩).holds w):Calls Try.prog 120 ([.pointer (some ⟨f,0,none⟩),natV X.val,natV Y.val]:List Value).toArray w (fun e w'=>e = .returned (natV (X*Y).val)∧Below w.heap.size w w'):=by
  have hb:=hok.bounds
  have hpW:=w9_521 hb.2.1
  have:=c_f_Mul V f bd X.val Y.val w hf hbd (by omega) hpW (Nat.lt_trans X.isLt hpW) (Nat.lt_trans Y.isLt hpW)
  rwa [← Fin.val_mul] at this
theorem c_F_Inv (X:Fin V.p) (w:World) (hf:(Item.blk f ⟨false,fldL V.p bd,162,(0,0)⟩).holds w):Calls Try.prog 136 ([.pointer (some ⟨f,0,none⟩),natV X.val]:List Value).toArray w (fun e w'=>e = .returned (natV (finv X).val)∧Below w.heap.size w w'):=by
  have hb:=hok.bounds
  have hpW:=w9_521 hb.2.1
  have:=c_f_Inv V f bd X.val w hf (by omega) hpW (Nat.lt_trans X.isLt hpW)
  rwa [← finv_val] at this
end
theorem a_val {V:Cv} (hok:V.Ok):natV V.a = natV V.A.val:=by rw [hok.A_val hok.bounds.2.2.1]
theorem b_val {V:Cv} (hok:V.Ok):natV V.b = natV V.B.val:=by rw [hok.B_val hok.bounds.2.2.2.1]
theorem t_val {V:Cv} (hok:V.Ok):natV (thr V) = natV (V.B+V.B+V.B).val:=by
  rw [Fin.val_add,Fin.val_add,hok.B_val hok.bounds.2.2.2.1]; rfl
end Go.Proofs.Ytlmiolnccgjjjaa
set_option linter.unusedVariables false
set_option linter.unusedSimpArgs false
set_option maxRecDepth 20000
namespace Go.Proofs.Ytlmiolnccgjjjaa
open Go Go.RowKit
def rpL (u v:Value) (i:Bool):List Value:=[u,v,.bool i]
def rpV (u v:Value) (i:Bool):Value:=.agg (rpL u v i).toArray
theorem NFr.in {lo:Nat} {old:List Nat} {q:NV} {n:Nat} (h:∀ k,k∈fpz q n→k∈old):NFr lo old q n:=fun k hk=>.inr (h k hk)
theorem NFr.le {lo:Nat} {old old':List Nat} {q:NV} {n:Nat} (h:NFr lo old q n) (hs:∀ k,k∈old→k∈old'):NFr lo old' q n:=fun k hk=>(h k hk).imp id (hs k)
theorem crv_in {Q:CQ} {V:Cv} {q:NV} {A:Nat} (h:(q,A)∈[(Q.p,V.p),(Q.a,V.a),(Q.b,V.b),(Q.n,V.n),(Q.x,V.x),(Q.y,V.y)]) (lo:Nat):NFr lo (crvI Q V).fp q (D.nw A):=fun k hk=>.inr (grp_fp (l:=[(Q.p,V.p),(Q.a,V.a),(Q.b,V.b),(Q.n,V.n),(Q.x,V.x),(Q.y,V.y)]) h k hk)
theorem c_r_G (Q:CQ) (V:Cv) (w:World) (hc:(crvI Q V).holds w):Calls Try.prog 31 ([.agg (crvL Q V).toArray]:List Value).toArray w (fun e w'=>Num2R w (crvI Q V).fp V.x V.y (fun u v=>rpV u v false) e w'):=by
  refine Ki (N:=8) (rs:=[.cell 2 38]) [crvI Q V] Try.func31 rfl Try.ntmps31 Try.results31 (Nb rfl) ⟨hc,trivial⟩ rfl ?_
  show LCode _ _ _ ⟨_,_⟩ _
  refine KB (KA ?_)
  refine oS (mB (fun b1=>?_))
  refine oS (mk (KX zr_38) (fun b2=>?_))
  refine KC ?_
  refine KB (KA ?_)
  refine oP (KG (o':=5) Try.underlying26 rfl rfl rfl sz_24 (by decide)) ?_
  refine oD (dL rfl (hv:=KL Try.underlying24 rfl (by first|rfl|exact Ke _ _ _ (by omega)|exact Kd _ (by omega)|exact Kb _ (by omega)|exact dv_m _ _ _ (by omega)))) ?_
  refine oP (KG (o':=6) Try.underlying26 rfl rfl rfl sz_24 (by decide)) ?_
  refine oD (dL rfl (hv:=KL Try.underlying24 rfl (by first|rfl|exact Ke _ _ _ (by omega)|exact Kd _ (by omega)|exact Kb _ (by omega)|exact dv_m _ _ _ (by omega)))) ?_
  refine oP (KK (Ky pl_38 zr_38 rfl rfl) (show _ = rpV (numV Q.x V.x) (numV Q.y V.y) (false) from rfl)) ?_
  refine KV rfl (sA rfl rfl sz_38 (by repeat (first|exact KO|refine KJ rfl ?_)) (hl:=by rfl) (h:=?_))
  refine KC (KM ?_)
  refine ⟨[_],.cons ⟨_,_,_,rfl,(by repeat (first|exact Mh _|apply Mt)),by exact KI Try.underlying38 rfl sz_38⟩ .nil,fun a w' hr=>⟨Q.x,Q.y,rfl,crvI_x (hr.hp _ (by repeat (first|exact Mh _|apply Mt))),crv_in (by repeat (first|exact Mh _|apply Mt)) _,crvI_y (hr.hp _ (by repeat (first|exact Mh _|apply Mt))),crv_in (by repeat (first|exact Mh _|apply Mt)) _,hr.fr.below⟩⟩
theorem c_r_In (X Y:Nat) (i:Bool) (w:World) (hX:X<W9) (hY:Y<W9):Calls Try.prog 44 ([ptV X Y i]:List Value).toArray w (fun e w'=>Num2R w [] X Y (fun u v=>rpV u v i) e w'):=by
  refine Ki (N:=12) (rs:=[.cell 2 38]) [] Try.func44 rfl Try.ntmps44 Try.results44 (Nb rfl) trivial rfl ?_
  show LCode _ _ _ ⟨_,_⟩ _
  refine KB (KA ?_)
  refine oS (mB (fun b1=>?_))
  refine oS (mk (KX zr_38) (fun b2=>?_))
  refine KC ?_
  refine KB ?_
  refine rD [9] ?_
  refine aP 0 rfl (KG (o':=0) Try.underlying35 rfl rfl rfl sz_33 (by decide)) ?_
  refine aD 1 rfl (dL rfl (hv:=by exact KAF Try.underlying33 rfl sz_33 rfl (KD _))) ?_
  refine aP 3 rfl (KG (o':=9) Try.underlying35 rfl rfl rfl sz_33 (by decide)) ?_
  refine aD 4 rfl (dL rfl (hv:=by exact pt_ld1 _ _ _ _ _ _)) ?_
  refine aP 6 rfl (KG (o':=18) Try.underlying35 rfl rfl rfl sz_4 (by decide)) ?_
  refine aD 7 rfl (dL rfl (hv:=KL Try.underlying4 rfl (by exact pt_gt _ _ _))) ?_
  refine aO 2 rfl (cZ rfl en_46 rfl (fun w hw hs=>(c_n_From X hX w).mono fun e w' h=>KAV (Old.nil _) hs h) ?_)
  rintro _ _ ⟨q1,rfl,rfl,hn1⟩
  refine aO 5 rfl (cZ rfl en_46 rfl (fun w hw hs=>(c_n_From Y hY w).mono fun e w' h=>KAV (Old.nil _) hs h) ?_)
  rintro _ _ ⟨q2,rfl,rfl,hn2⟩
  refine aP 8 rfl (KK (Ky pl_38 zr_38 rfl rfl) (show _ = rpV (numV q1 X) (numV q2 Y) (i) from rfl)) ?_
  refine aL 9 rfl (sA rfl rfl sz_38 (by repeat (first|exact KO|refine KJ rfl ?_)) (hl:=by rfl) (h:=?_))
  refine aE ?_
  refine KM ?_
  refine ⟨[_],.cons ⟨_,_,_,rfl,(by repeat (first|exact Mh _|apply Mt)),by exact KI Try.underlying38 rfl sz_38⟩ .nil,fun a w' hr=>hr.num2Q (by repeat (first|exact Mh _|apply Mt)) hn1 (by repeat (first|exact Mh _|apply Mt)) hn2⟩
theorem c_r_Out (q r:NV) (X Y:Nat) (i:Bool) (w:World) (hq:(numT q X).holds w) (hr:(numT r Y).holds w):Calls Try.prog 30 ([rpV (numV q (X)) (numV r (Y)) (i)]:List Value).toArray w (fun e w'=>e = .returned (ptV X Y i)∧Below w.heap.size w w'):=by
  refine Ki (N:=12) (rs:=[.cell 2 35]) [numT q X,numT r Y] Try.func30 rfl Try.ntmps30 Try.results30 (Nb rfl) ⟨hq,hr,trivial⟩ rfl ?_
  show LCode _ _ _ ⟨_,_⟩ _
  refine KB (KA ?_)
  refine oS (mB (fun b1=>?_))
  refine oS (mk (KX zr_35) (fun b2=>?_))
  refine KC ?_
  refine KB ?_
  refine rD [9] ?_
  refine aP 0 rfl (KG (o':=0) Try.underlying38 rfl rfl rfl sz_24 (by decide)) ?_
  refine aD 1 rfl (dL rfl (hv:=KL Try.underlying24 rfl (by first|rfl|exact Ke _ _ _ (by omega)|exact Kd _ (by omega)|exact Kb _ (by omega)|exact dv_m _ _ _ (by omega)))) ?_
  refine aP 3 rfl (KG (o':=1) Try.underlying38 rfl rfl rfl sz_24 (by decide)) ?_
  refine aD 4 rfl (dL rfl (hv:=KL Try.underlying24 rfl (by first|rfl|exact Ke _ _ _ (by omega)|exact Kd _ (by omega)|exact Kb _ (by omega)|exact dv_m _ _ _ (by omega)))) ?_
  refine aP 6 rfl (KG (o':=2) Try.underlying38 rfl rfl rfl sz_4 (by decide)) ?_
  refine aD 7 rfl (dL rfl (hv:=KL Try.underlying4 rfl (by first|rfl|exact Ke _ _ _ (by omega)|exact Kd _ (by omega)|exact Kb _ (by omega)|exact dv_m _ _ _ (by omega)))) ?_
  refine aO 2 rfl (cF rfl en_52 rfl (fun w hw=>c_n_Nat q X (D.nw X) w (mC hw)) ?_)
  refine aO 5 rfl (cF rfl en_52 rfl (fun w hw=>c_n_Nat r Y (D.nw Y) w (mC hw)) ?_)
  refine aP 8 rfl (KK (Ky pl_35 zr_35 rfl (fill_ptI _ _ _)) rfl) ?_
  refine aL 9 rfl (sA rfl rfl sz_35 (by repeat (first|exact Ka _|exact Kl _ _ _|exact Kc _|exact Kg _ _ _|exact Km _ _ _|exact KO|refine KJ rfl ?_|refine KP ?_ ?_)) (hl:=by first|exact KD _|exact KH _ _ _|exact KE _|exact KN _ _ _|exact KY _ _ _|rfl|simp [KH,KD,KE]) (h:=?_))
  refine aE ?_
  refine KM ?_
  refine ⟨[_],.cons ⟨_,_,_,rfl,(by repeat (first|exact Mh _|apply Mt)),by exact KI Try.underlying35 rfl sz_35⟩ .nil,fun a w' hr=>⟨?_,hr.fr.below⟩⟩
  rfl
theorem c_r_right (Q:CQ) (V:Cv) (q:NV) (X:Nat) (w:World) (hc:(crvI Q V).holds w) (hok:V.Ok) (hq:(numT q X).holds w) (hX:X<V.p):Calls Try.prog 94 ([.agg (crvL Q V).toArray,numV q X]:List Value).toArray w (fun e w'=>NumR w ([]) (rightN V.p V.a V.b X) (fun v=>v) e w'):=by
  obtain ⟨hb5,hb521,hba,hbb,hbx,hby,hbn,hbo,hbo2,hbb1,hbn1⟩:=hok.bounds
  have hsz:=hok.sz
  have hsp:=hsz.p
  have hsa:=hsz.a
  have hsb:=hsz.b
  have hp0:V.p≠0:=by omega
  have hpp:0<V.p:=by omega
  have hm17:∀ k,D.nw (k%V.p)≤17:=fun k=>Nat.le_trans (D.nw_mono (Nat.le_of_lt (Nat.mod_lt k hpp))) hsp
  refine Ki (N:=28) (rs:=[.tmp 4]) [crvI Q V,numT q X] Try.func94 rfl Try.ntmps94 Try.results94 (Nb rfl) ⟨hc,hq,trivial⟩ rfl ?_
  show LCode _ _ _ ⟨_,_⟩ _
  refine KB (KA ?_)
  refine oS (mB (fun b2=>?_))
  refine oA ?_
  refine KC ?_
  refine KB ?_
  have hx17:D.nw X≤17:=nw_521 (Nat.lt_trans hX hb521)
  have e1:=hm17 (X*X)
  have e2:=hm17 (X*X%V.p+V.a)
  have e3:=hm17 ((X*X%V.p+V.a)%V.p*X)
  refine KA ?_
  refine oM ?_
  refine oM ?_
  refine oP (KG (o':=1) Try.underlying26 rfl rfl rfl sz_24 (by decide)) ?_
  refine oD (dL rfl (hv:=KL Try.underlying24 rfl (by first|rfl|exact Ke _ _ _ (by omega)|exact Kd _ (by omega)|exact Kb _ (by omega)|exact dv_m _ _ _ (by omega)))) ?_
  refine oS (cZ rfl en_67 rfl (fun w hw hs=>(c_n_MulMod q q Q.p (X) (X) V.p hp0 w (mC hw) (mC hw) (crvI_p (mC hw)) (by omega) (by omega)).mono fun e w' h=>KAV (Old.nil _) hs h) ?_)
  rintro _ _ ⟨q1,rfl,rfl,hn1⟩
  refine oA ?_
  refine KC ?_
  refine KB ?_
  refine rD [] ?_
  refine aM 0 ?_
  refine aP 1 rfl (KG (o':=2) Try.underlying26 rfl rfl rfl sz_24 (by decide)) ?_
  refine aD 2 rfl (dL rfl (hv:=KL Try.underlying24 rfl (by first|rfl|exact Ke _ _ _ (by omega)|exact Kd _ (by omega)|exact Kb _ (by omega)|exact dv_m _ _ _ (by omega)))) ?_
  refine aP 3 rfl (KG (o':=1) Try.underlying26 rfl rfl rfl sz_24 (by decide)) ?_
  refine aD 4 rfl (dL rfl (hv:=KL Try.underlying24 rfl (by first|rfl|exact Ke _ _ _ (by omega)|exact Kd _ (by omega)|exact Kb _ (by omega)|exact dv_m _ _ _ (by omega)))) ?_
  refine aM 6 ?_
  refine aP 7 rfl (KG (o':=1) Try.underlying26 rfl rfl rfl sz_24 (by decide)) ?_
  refine aD 8 rfl (dL rfl (hv:=KL Try.underlying24 rfl (by first|rfl|exact Ke _ _ _ (by omega)|exact Kd _ (by omega)|exact Kb _ (by omega)|exact dv_m _ _ _ (by omega)))) ?_
  refine aO 5 rfl (cZ rfl en_71 rfl (fun w hw hs=>(c_n_AddMod q1 Q.a Q.p (X*X%V.p) V.a V.p w (mC hw) (crvI_a (mC hw)) (crvI_p (mC hw)) (by omega) (by omega) (Nat.mod_lt _ hpp) hba).mono fun e w' h=>KAV (Old.nil _) hs h) ?_)
  rintro _ _ ⟨q2,rfl,rfl,hn2⟩
  refine aO 9 rfl (cZ rfl en_67 rfl (fun w hw hs=>(c_n_MulMod q2 q Q.p ((X*X%V.p+V.a)%V.p) (X) V.p hp0 w (mC hw) (mC hw) (crvI_p (mC hw)) (by omega) (by omega)).mono fun e w' h=>KAV (Old.nil _) hs h) ?_)
  rintro _ _ ⟨q3,rfl,rfl,hn3⟩
  refine aA 10 ?_
  refine aE ?_
  refine KB (KA ?_)
  refine oM ?_
  refine oP (KG (o':=3) Try.underlying26 rfl rfl rfl sz_24 (by decide)) ?_
  refine oD (dL rfl (hv:=KL Try.underlying24 rfl (by first|rfl|exact Ke _ _ _ (by omega)|exact Kd _ (by omega)|exact Kb _ (by omega)|exact dv_m _ _ _ (by omega)))) ?_
  refine oP (KG (o':=1) Try.underlying26 rfl rfl rfl sz_24 (by decide)) ?_
  refine oD (dL rfl (hv:=KL Try.underlying24 rfl (by first|rfl|exact Ke _ _ _ (by omega)|exact Kd _ (by omega)|exact Kb _ (by omega)|exact dv_m _ _ _ (by omega)))) ?_
  refine oS (cZ rfl en_71 rfl (fun w hw hs=>(c_n_AddMod q3 Q.b Q.p ((X*X%V.p+V.a)%V.p*X%V.p) V.b V.p w (mC hw) (crvI_b (mC hw)) (crvI_p (mC hw)) (by omega) (by omega) (Nat.mod_lt _ hpp) hbb).mono fun e w' h=>KAV (Old.nil _) hs h) ?_)
  rintro _ _ ⟨q4,rfl,rfl,hn4⟩
  refine oA ?_
  refine KC (KM ?_)
  refine ⟨[_],.cons rfl .nil,fun a w' hr=>hr.numQ (by repeat (first|exact Mh _|apply Mt)) hn4⟩
theorem on_x {p a b X Y:Nat} (h:¬ X<p):onB p a b X Y false = false:=by
  unfold onB; rw [if_neg (by decide),decide_eq_false h,Bool.false_and]
theorem on_yy {p a b X Y:Nat} (h:¬ Y<p):onB p a b X Y false = false:=by
  unfold onB; rw [if_neg (by decide),decide_eq_false h,Bool.false_and,Bool.and_false]
theorem on_eq {p a b X Y:Nat} (h:X<p) (h2:Y<p):onB p a b X Y false = decide (Y*Y%p = rightN p a b X):=by
  unfold onB; rw [if_neg (by decide),decide_eq_true h,decide_eq_true h2,Bool.true_and,Bool.true_and]
theorem on_inf {p a b X Y:Nat}:onB p a b X Y true = (decide (X = 0) && decide (Y = 0)):=if_pos rfl
theorem c_r_On (Q:CQ) (V:Cv) (q r:NV) (X Y:Nat) (i:Bool) (w:World) (hc:(crvI Q V).holds w) (hok:V.Ok) (hq:(numT q X).holds w) (hr:(numT r Y).holds w) (hX:D.nw X≤1000) (hY:D.nw Y≤1000):Calls Try.prog 54 ([.agg (crvL Q V).toArray,rpV (numV q (X)) (numV r (Y)) (i)]:List Value).toArray w (fun e w'=>e = .returned (.bool (onB V.p V.a V.b X Y i))∧Below w.heap.size w w'):=by
  obtain ⟨hb5,hb521,hba,hbb,hbx,hby,hbn,hbo,hbo2,hbb1,hbn1⟩:=hok.bounds
  have hsz:=hok.sz
  have hsp:=hsz.p
  have hsa:=hsz.a
  have hsb:=hsz.b
  have hp0:V.p≠0:=by omega
  have hpp:0<V.p:=by omega
  have hm17:∀ k,D.nw (k%V.p)≤17:=fun k=>Nat.le_trans (D.nw_mono (Nat.le_of_lt (Nat.mod_lt k hpp))) hsp
  refine Ki (N:=44) (rs:=[.tmp 4]) [crvI Q V,numT q X,numT r Y] Try.func54 rfl Try.ntmps54 Try.results54 (Nb rfl) ⟨hc,hq,hr,trivial⟩ rfl ?_
  show LCode _ _ _ ⟨_,_⟩ _
  refine KB (KA ?_)
  refine oS (mB (fun b2=>?_))
  refine oS (mB (fun b3=>?_))
  refine oA ?_
  refine KC ?_
  refine KB ?_
  refine KB ?_
  cases i
  ·
    refine KA ?_
    refine oP (KG (o':=2) Try.underlying38 rfl rfl rfl sz_4 (by decide)) ?_
    refine oD (dL rfl (hv:=KL Try.underlying4 rfl (by first|rfl|exact Ke _ _ _ (by omega)|exact Kd _ (by omega)|exact Kb _ (by omega)|exact dv_m _ _ _ (by omega)))) ?_
    refine KC ?_
    refine KR rfl ?_
    refine KT ?_
    refine KB ?_
    refine KB ?_
    rcases (show (¬ X<V.p)∨(X<V.p∧¬ Y<V.p)∨(X<V.p∧Y<V.p) by omega) with h1|⟨h1,h2⟩|⟨h1,h2⟩
    ·
      refine KA ?_
      refine oP (KG (o':=0) Try.underlying38 rfl rfl rfl sz_24 (by decide)) ?_
      refine oD (dL rfl (hv:=KL Try.underlying24 rfl (by first|rfl|exact Ke _ _ _ (by omega)|exact Kd _ (by omega)|exact Kb _ (by omega)|exact dv_m _ _ _ (by omega)))) ?_
      refine oP (KG (o':=1) Try.underlying26 rfl rfl rfl sz_24 (by decide)) ?_
      refine oD (dL rfl (hv:=KL Try.underlying24 rfl (by first|rfl|exact Ke _ _ _ (by omega)|exact Kd _ (by omega)|exact Kb _ (by omega)|exact dv_m _ _ _ (by omega)))) ?_
      refine oS (cF rfl en_59 rfl (fun w hw=>c_n_Cmp q Q.p X V.p w (mC hw) (crvI_p (mC hw)) (by omega)) ?_)
      refine oP (KF (v:=.bool true) rfl rfl (br_t cmp_geq (Nat.le_of_not_lt h1))) ?_
      refine oM ?_
      refine oK ?_
      refine oK ?_
      refine oK ?_
      refine oK ?_
      refine oK ?_
      refine oK ?_
      refine oP (Kn rfl rfl) ?_
      refine KC ?_
      refine Kf rfl ?_
      refine KB (KA ?_)
      refine oA ?_
      refine KC (KM ?_)
      refine ⟨[_],.cons rfl .nil,fun a w' hr=>⟨?_,hr.fr.below⟩⟩
      rw [on_x h1]
      rfl
    ·
      refine KA ?_
      refine oP (KG (o':=0) Try.underlying38 rfl rfl rfl sz_24 (by decide)) ?_
      refine oD (dL rfl (hv:=KL Try.underlying24 rfl (by first|rfl|exact Ke _ _ _ (by omega)|exact Kd _ (by omega)|exact Kb _ (by omega)|exact dv_m _ _ _ (by omega)))) ?_
      refine oP (KG (o':=1) Try.underlying26 rfl rfl rfl sz_24 (by decide)) ?_
      refine oD (dL rfl (hv:=KL Try.underlying24 rfl (by first|rfl|exact Ke _ _ _ (by omega)|exact Kd _ (by omega)|exact Kb _ (by omega)|exact dv_m _ _ _ (by omega)))) ?_
      refine oS (cF rfl en_59 rfl (fun w hw=>c_n_Cmp q Q.p X V.p w (mC hw) (crvI_p (mC hw)) (by omega)) ?_)
      refine oP (KF (v:=.bool false) rfl rfl (br_f cmp_geq (Nat.not_le_of_gt h1))) ?_
      refine oM ?_
      refine oGP (KG (o':=1) Try.underlying38 rfl rfl rfl sz_24 (by decide)) ?_
      refine KAQ rfl rfl (dL rfl (hv:=KL Try.underlying24 rfl (by first|rfl|exact Ke _ _ _ (by omega)|exact Kd _ (by omega)|exact Kb _ (by omega)|exact dv_m _ _ _ (by omega)))) (Nb rfl) ?_
      refine oGP (KG (o':=1) Try.underlying26 rfl rfl rfl sz_24 (by decide)) ?_
      refine KAQ rfl rfl (dL rfl (hv:=KL Try.underlying24 rfl (by first|rfl|exact Ke _ _ _ (by omega)|exact Kd _ (by omega)|exact Kb _ (by omega)|exact dv_m _ _ _ (by omega)))) (Nb rfl) ?_
      refine oGS (cF rfl en_59 rfl (fun w hw=>c_n_Cmp r Q.p Y V.p w (mC hw) (crvI_p (mC hw)) (by omega)) ?_)
      refine oGP (KF (v:=.bool true) rfl rfl (br_t cmp_geq (Nat.le_of_not_lt h2))) ?_
      refine oP (Kh rfl rfl) ?_
      refine KC ?_
      refine Kf rfl ?_
      refine KB (KA ?_)
      refine oA ?_
      refine KC (KM ?_)
      refine ⟨[_],.cons rfl .nil,fun a w' hr=>⟨?_,hr.fr.below⟩⟩
      rw [on_yy h2]
      rfl
    ·
      refine KA ?_
      refine oP (KG (o':=0) Try.underlying38 rfl rfl rfl sz_24 (by decide)) ?_
      refine oD (dL rfl (hv:=KL Try.underlying24 rfl (by first|rfl|exact Ke _ _ _ (by omega)|exact Kd _ (by omega)|exact Kb _ (by omega)|exact dv_m _ _ _ (by omega)))) ?_
      refine oP (KG (o':=1) Try.underlying26 rfl rfl rfl sz_24 (by decide)) ?_
      refine oD (dL rfl (hv:=KL Try.underlying24 rfl (by first|rfl|exact Ke _ _ _ (by omega)|exact Kd _ (by omega)|exact Kb _ (by omega)|exact dv_m _ _ _ (by omega)))) ?_
      refine oS (cF rfl en_59 rfl (fun w hw=>c_n_Cmp q Q.p X V.p w (mC hw) (crvI_p (mC hw)) (by omega)) ?_)
      refine oP (KF (v:=.bool false) rfl rfl (br_f cmp_geq (Nat.not_le_of_gt h1))) ?_
      refine oM ?_
      refine oGP (KG (o':=1) Try.underlying38 rfl rfl rfl sz_24 (by decide)) ?_
      refine KAQ rfl rfl (dL rfl (hv:=KL Try.underlying24 rfl (by first|rfl|exact Ke _ _ _ (by omega)|exact Kd _ (by omega)|exact Kb _ (by omega)|exact dv_m _ _ _ (by omega)))) (Nb rfl) ?_
      refine oGP (KG (o':=1) Try.underlying26 rfl rfl rfl sz_24 (by decide)) ?_
      refine KAQ rfl rfl (dL rfl (hv:=KL Try.underlying24 rfl (by first|rfl|exact Ke _ _ _ (by omega)|exact Kd _ (by omega)|exact Kb _ (by omega)|exact dv_m _ _ _ (by omega)))) (Nb rfl) ?_
      refine oGS (cF rfl en_59 rfl (fun w hw=>c_n_Cmp r Q.p Y V.p w (mC hw) (crvI_p (mC hw)) (by omega)) ?_)
      refine oGP (KF (v:=.bool false) rfl rfl (br_f cmp_geq (Nat.not_le_of_gt h2))) ?_
      refine oP (Kh rfl rfl) ?_
      refine KC ?_
      refine KR rfl ?_
      refine KT ?_
      refine KB ?_
      have hy17:D.nw Y≤17:=nw_521 (Nat.lt_trans h2 hb521)
      refine rD [] ?_
      refine aP 0 rfl (KG (o':=1) Try.underlying38 rfl rfl rfl sz_24 (by decide)) ?_
      refine aD 1 rfl (dL rfl (hv:=KL Try.underlying24 rfl (by first|rfl|exact Ke _ _ _ (by omega)|exact Kd _ (by omega)|exact Kb _ (by omega)|exact dv_m _ _ _ (by omega)))) ?_
      refine aP 2 rfl (KG (o':=1) Try.underlying38 rfl rfl rfl sz_24 (by decide)) ?_
      refine aD 3 rfl (dL rfl (hv:=KL Try.underlying24 rfl (by first|rfl|exact Ke _ _ _ (by omega)|exact Kd _ (by omega)|exact Kb _ (by omega)|exact dv_m _ _ _ (by omega)))) ?_
      refine aP 4 rfl (KG (o':=1) Try.underlying26 rfl rfl rfl sz_24 (by decide)) ?_
      refine aD 5 rfl (dL rfl (hv:=KL Try.underlying24 rfl (by first|rfl|exact Ke _ _ _ (by omega)|exact Kd _ (by omega)|exact Kb _ (by omega)|exact dv_m _ _ _ (by omega)))) ?_
      refine aD 7 rfl (dL rfl (hv:=by exact KI Try.underlying26 rfl sz_26)) ?_
      refine aP 8 rfl (KG (o':=0) Try.underlying38 rfl rfl rfl sz_24 (by decide)) ?_
      refine aD 9 rfl (dL rfl (hv:=KL Try.underlying24 rfl (by first|rfl|exact Ke _ _ _ (by omega)|exact Kd _ (by omega)|exact Kb _ (by omega)|exact dv_m _ _ _ (by omega)))) ?_
      refine aO 6 rfl (cZ rfl en_67 rfl (fun w hw hs=>(c_n_MulMod r r Q.p (Y) (Y) V.p hp0 w (mC hw) (mC hw) (crvI_p (mC hw)) (by omega) (by omega)).mono fun e w' h=>KAV (Old.nil _) hs h) ?_)
      rintro _ _ ⟨q1,rfl,rfl,hn1⟩
      refine aO 10 rfl (cZ rfl en_94 rfl (fun w hw hs=>(c_r_right Q V q X w (mC hw) hok (mC hw) h1).mono fun e w' h=>KAV (Old.nil _) hs h) ?_)
      rintro _ _ ⟨q2,rfl,rfl,hn2⟩
      refine aO 11 rfl (cF rfl en_59 rfl (fun w hw=>c_n_Cmp q1 q2 (Y*Y%V.p) (rightN V.p V.a V.b X) w (mC hw) (mC hw) (by have:=hm17 (Y*Y); omega)) ?_)
      refine aP 12 rfl (KF rfl rfl cmp_eql) ?_
      refine aA 13 ?_
      refine aE ?_
      refine KM ?_
      refine ⟨[_],.cons rfl .nil,fun a w' hr=>⟨?_,hr.fr.below⟩⟩
      rw [on_eq h1 h2]
      rfl
  ·
    refine KA ?_
    refine oP (KG (o':=2) Try.underlying38 rfl rfl rfl sz_4 (by decide)) ?_
    refine oD (dL rfl (hv:=KL Try.underlying4 rfl (by first|rfl|exact Ke _ _ _ (by omega)|exact Kd _ (by omega)|exact Kb _ (by omega)|exact dv_m _ _ _ (by omega)))) ?_
    refine KC ?_
    refine Kf rfl ?_
    refine KB ?_
    by_cases hX0:X = 0
    ·
      refine KA ?_
      refine oP (KG (o':=0) Try.underlying38 rfl rfl rfl sz_24 (by decide)) ?_
      refine oD (dL rfl (hv:=KL Try.underlying24 rfl (by first|rfl|exact Ke _ _ _ (by omega)|exact Kd _ (by omega)|exact Kb _ (by omega)|exact dv_m _ _ _ (by omega)))) ?_
      refine oP (KAC Try.underlying24 rfl) ?_
      refine oP (KF (v:=.bool true) rfl rfl (br_t (br_eql (b:=0)) (nw_eq_zero.2 hX0))) ?_
      refine oM ?_
      refine oGP (KG (o':=1) Try.underlying38 rfl rfl rfl sz_24 (by decide)) ?_
      refine KAQ rfl rfl (dL rfl (hv:=KL Try.underlying24 rfl (by first|rfl|exact Ke _ _ _ (by omega)|exact Kd _ (by omega)|exact Kb _ (by omega)|exact dv_m _ _ _ (by omega)))) (Nb rfl) ?_
      refine oGP (KAC Try.underlying24 rfl) ?_
      refine oGP (KF rfl rfl (br_eql (b:=0))) ?_
      refine oP (Kn rfl rfl) ?_
      refine oA ?_
      refine KC (KM ?_)
      refine ⟨[_],.cons rfl .nil,fun a w' hr=>⟨?_,hr.fr.below⟩⟩
      rw [on_inf,decide_eq_true hX0,Bool.true_and,show decide (Y = 0) = decide (D.nw Y = 0) from decide_eq_decide.2 nw_eq_zero.symm]
      rfl
    ·
      refine KA ?_
      refine oP (KG (o':=0) Try.underlying38 rfl rfl rfl sz_24 (by decide)) ?_
      refine oD (dL rfl (hv:=KL Try.underlying24 rfl (by first|rfl|exact Ke _ _ _ (by omega)|exact Kd _ (by omega)|exact Kb _ (by omega)|exact dv_m _ _ _ (by omega)))) ?_
      refine oP (KAC Try.underlying24 rfl) ?_
      refine oP (KF (v:=.bool false) rfl rfl (br_f (br_eql (b:=0)) (fun e=>hX0 (nw_eq_zero.1 e)))) ?_
      refine oM ?_
      refine oK ?_
      refine oK ?_
      refine oK ?_
      refine oK ?_
      refine oP (Kh rfl rfl) ?_
      refine oA ?_
      refine KC (KM ?_)
      refine ⟨[_],.cons rfl .nil,fun a w' hr=>⟨?_,hr.fr.below⟩⟩
      rw [on_inf,decide_eq_false hX0,Bool.false_and]
      rfl
end Go.Proofs.Ytlmiolnccgjjjaa
set_option linter.unusedVariables false
set_option linter.unusedSimpArgs false
set_option maxRecDepth 20000
namespace Go.Proofs.Ytlmiolnccgjjjaa
open Go Go.RowKit
open Grp
def PlusQ (V:Cv) (R:Pt V.p) (x1 y1 x2 o u:Nat):Prop:=(o<V.p∧u<V.p∧u≠0)∧xv R = lineX V.p (o*invM u V.p%V.p) x1 x2∧yv R = lineY V.p (o*invM u V.p%V.p) x1 y1 (lineX V.p (o*invM u V.p%V.p) x1 x2)∧iv R = false
theorem plus_chord {V:Cv} (hok:V.Ok) {x1 y1 x2 y2:Fin V.p} (h1:On V.A V.B (.aff x1 y1)) (h2:On V.A V.B (.aff x2 y2)) (hne:x1.val≠x2.val):PlusQ V (padd V.A (.aff x1 y1) (.aff x2 y2)) x1.val y1.val x2.val (chordO V.p y1.val y2.val) (chordU V.p x1.val x2.val):=by
  have h:=add_chord (a:=V.A) (b:=V.B) (x1:=x1.val) (y1:=y1.val) (x2:=x2.val) (y2:=y2.val) hok.prime hok.fld x1.isLt y1.isLt x2.isLt y2.isLt (by rw [c_of_val,c_of_val]; exact h1) (by rw [c_of_val,c_of_val]; exact h2) hne
  rw [c_of_val,c_of_val,c_of_val,c_of_val] at h
  rw [h]
  have hx:=lineX_lt (L:=chordO V.p y1.val y2.val*invM (chordU V.p x1.val x2.val) V.p%V.p) x1.isLt x2.isLt
  refine ⟨⟨lessM_lt y2.isLt y1.isLt,lessM_lt x2.isLt x1.isLt,?_⟩,val_c hx,val_c (lineY_lt y1.isLt),rfl⟩
  have:=x1.isLt
  have:=x2.isLt
  unfold chordU lessM
  split <;> omega
theorem plus_tang {V:Cv} (hok:V.Ok) {x y:Fin V.p} (h1:On V.A V.B (.aff x y)):PlusQ V (padd V.A (.aff x y) (.aff x y)) x.val y.val x.val (tangO V.p V.a x.val) (tangU V.p y.val):=by
  have hy:y≠0:=hok.good.y_ne h1
  have h:=add_tang (b:=V.B) (a:=V.a) (x1:=x.val) (y1:=y.val) hok.prime hok.fld x.isLt y.isLt (by rw [c_of_val,c_of_val]; exact h1) (by rw [c_of_val]; exact hy)
  rw [c_of_val,c_of_val] at h
  rw [h]
  have hx:=lineX_lt (L:=tangO V.p V.a x.val*invM (tangU V.p y.val) V.p%V.p) x.isLt x.isLt
  refine ⟨⟨Nat.mod_lt _ pos_p,Nat.mod_lt _ pos_p,fun e=>hy (hok.fld.two _ ?_)⟩,val_c hx,val_c (lineY_lt y.isLt),rfl⟩
  exact Fin.ext (by rw [Fin.val_add]; exact e)
theorem plus_opp {V:Cv} (hok:V.Ok) {x1 y1 x2 y2:Fin V.p} (h1:On V.A V.B (.aff x1 y1)) (h2:On V.A V.B (.aff x2 y2)) (hx:x1.val = x2.val) (hy:y1.val≠y2.val):padd V.A (.aff x1 y1) (.aff x2 y2) = .inf :=
  add_opp hok.fld h1 h2 (Fin.ext hx) (fin_ne hy)
theorem y_pos {V:Cv} (hok:V.Ok) {x y:Fin V.p} (h1:On V.A V.B (.aff x y)):y.val≠0:=fun e=>hok.good.y_ne h1 (Fin.ext e)
theorem gcd_under {V:Cv} (hok:V.Ok) {u:Nat} (h:u<V.p) (h0:u≠0):Nat.gcd u V.p = 1:=hok.prime.cop fun hd=>h0 (Nat.eq_zero_of_dvd_of_lt hd h)
def fp2 {p:Nat} (q r:NV) (P:Pt p) (l:List Nat):List Nat:=fpz q (D.nw (xv P))++(fpz r (D.nw (yv P))++l)
theorem Old.pt {H:List Item} {p:Nat} {q r:NV} {P:Pt p} {l:List Nat} (h1:numT q (xv P)∈H) (h2:numT r (yv P)∈H) (h:Old H l):Old H (fp2 q r P l):=.cons (x:=numT q (xv P)) h1 rfl (.cons (x:=numT r (yv P)) h2 rfl h)
theorem fp2_q {p:Nat} {q r:NV} {P:Pt p} {l:List Nat} (lo:Nat):NFr lo (fp2 q r P l) q (D.nw (xv P)):=fun k hk=>.inr (List.mem_append.2 (.inl hk))
theorem fp2_r {p:Nat} {q r:NV} {P:Pt p} {l:List Nat} (lo:Nat):NFr lo (fp2 q r P l) r (D.nw (yv P)):=fun k hk=>.inr (List.mem_append.2 (.inr (List.mem_append.2 (.inl hk))))
theorem fp2_t {p:Nat} {q r:NV} {P:Pt p} {l:List Nat} {lo:Nat} {u:NV} {n:Nat} (h:NFr lo l u n):NFr lo (fp2 q r P l) u n:=fun k hk=>(h k hk).imp id fun h=>List.mem_append.2 (.inr (List.mem_append.2 (.inr h)))
theorem NFr.two {p:Nat} {q1 r1 q2 r2 u:NV} {P P2:Pt p} {lo n:Nat} {old:List Nat} (h:NFr lo (fp2 q1 r1 P (fp2 q2 r2 P2 [])) u n) (h1:NFr lo old q1 (D.nw (xv P))) (h2:NFr lo old r1 (D.nw (yv P))) (h3:NFr lo old q2 (D.nw (xv P2))) (h4:NFr lo old r2 (D.nw (yv P2))):NFr lo old u n:=fun k hk=>by
  rcases h k hk with h|h
  · exact .inl h
  · rcases List.mem_append.1 h with h|h
    · exact h1 k h
    · rcases List.mem_append.1 h with h|h
      · exact h2 k h
      · rcases List.mem_append.1 h with h|h
        · exact h3 k h
        · rcases List.mem_append.1 h with h|h
          · exact h4 k h
          · cases h
theorem rp_nil:rpL (.slice none 0 0) (.slice none 0 0) true = rpL (numV ⟨true,0,0⟩ 0) (numV ⟨true,0,0⟩ 0) true:=by
  rw [← Option.some.inj numV_nil]
theorem c_r_Plus (Q:CQ) (V:Cv) (q1 r1 q2 r2:NV) (P P2 R:Grp.Pt V.p) (w:World) (hc:(crvI Q V).holds w) (hok:V.Ok) (h1q:(numT q1 (xv P)).holds w) (h1r:(numT r1 (yv P)).holds w) (h2q:(numT q2 (xv P2)).holds w) (h2r:(numT r2 (yv P2)).holds w) (hP:On V.A V.B P) (hP2:On V.A V.B P2) (hR:padd V.A P P2 = R):Calls Try.prog 68 ([.agg (crvL Q V).toArray,rpV (numV q1 (xv P)) (numV r1 (yv P)) (iv P),rpV (numV q2 (xv P2)) (numV r2 (yv P2)) (iv P2)]:List Value).toArray w (fun e w'=>Num2R w (fp2 q1 r1 P (fp2 q2 r2 P2 [])) (xv R) (yv R) (fun u v=>rpV u v (iv R)) e w'):=by
  obtain ⟨hb5,hb521,hba,hbb,hbx,hby,hbn,hbo,hbo2,hbb1,hbn1⟩:=hok.bounds
  have hsz:=hok.sz
  have hsp:=hsz.p
  have hsa:=hsz.a
  have hsb:=hsz.b
  have hp0:V.p≠0:=by omega
  have hpp:0<V.p:=by omega
  have hm17:∀ k,D.nw (k%V.p)≤17:=fun k=>Nat.le_trans (D.nw_mono (Nat.le_of_lt (Nat.mod_lt k hpp))) hsp
  have h17:∀ {A:Nat},A<V.p→D.nw A≤100000:=fun h=>Nat.le_trans (nw_521 (Nat.lt_trans h hb521)) (by decide)
  refine Ki (N:=127) (rs:=[.cell 6 38]) [crvI Q V,numT q1 (xv P),numT r1 (yv P),numT q2 (xv P2),numT r2 (yv P2)] Try.func68 rfl Try.ntmps68 Try.results68 (Nb rfl) ⟨hc,h1q,h1r,h2q,h2r,trivial⟩ rfl ?_
  show LCode _ _ _ ⟨_,_⟩ _
  refine KB (KA ?_)
  refine oS (mB (fun b3=>?_))
  refine oS (mB (fun b4=>?_))
  refine oS (mB (fun b5=>?_))
  refine oS (mk (KX zr_38) (fun b6=>?_))
  refine KC ?_
  refine KB ?_
  refine KB ?_
  rcases P with _|⟨x1,y1⟩
  ·
    have eR:P2 = R:=(hok.inf_add hP2).symm.trans hR
    subst eR
    refine KA ?_
    refine oP (KG (o':=2) Try.underlying38 rfl rfl rfl sz_4 (by decide)) ?_
    refine oD (dL rfl (hv:=KL Try.underlying4 rfl (by first|rfl|exact Ke _ _ _ (by omega)|exact Kd _ (by omega)|exact Kb _ (by omega)|exact dv_m _ _ _ (by omega)))) ?_
    refine KC ?_
    refine Kf rfl ?_
    refine KB (KA ?_)
    refine oD (dL rfl (hv:=by exact KI Try.underlying38 rfl sz_38)) ?_
    refine KV rfl (sA rfl rfl sz_38 (by repeat (first|exact KO|refine KJ rfl ?_)) (hl:=by rfl) (h:=?_))
    refine KC (KM ?_)
    refine ⟨[_],.cons ⟨_,_,_,rfl,(by repeat (first|exact Mh _|apply Mt)),by exact KI Try.underlying38 rfl sz_38⟩ .nil,fun a w' hr=>hr.num2Q (by repeat (first|exact Mh _|apply Mt)) (fp2_t (fp2_q _)) (by repeat (first|exact Mh _|apply Mt)) (fp2_t (fp2_r _))⟩
  ·
    refine KA ?_
    refine oP (KG (o':=2) Try.underlying38 rfl rfl rfl sz_4 (by decide)) ?_
    refine oD (dL rfl (hv:=KL Try.underlying4 rfl (by first|rfl|exact Ke _ _ _ (by omega)|exact Kd _ (by omega)|exact Kb _ (by omega)|exact dv_m _ _ _ (by omega)))) ?_
    refine KC ?_
    refine KR rfl ?_
    refine KT ?_
    refine KB ?_
    refine KB ?_
    rcases P2 with _|⟨x2,y2⟩
    ·
      have eR:Pt.aff x1 y1 = R:=(hok.add_inf hP).symm.trans hR
      subst eR
      refine KA ?_
      refine oP (KG (o':=2) Try.underlying38 rfl rfl rfl sz_4 (by decide)) ?_
      refine oD (dL rfl (hv:=KL Try.underlying4 rfl (by first|rfl|exact Ke _ _ _ (by omega)|exact Kd _ (by omega)|exact Kb _ (by omega)|exact dv_m _ _ _ (by omega)))) ?_
      refine KC ?_
      refine Kf rfl ?_
      refine KB (KA ?_)
      refine oD (dL rfl (hv:=by exact KI Try.underlying38 rfl sz_38)) ?_
      refine KV rfl (sA rfl rfl sz_38 (by repeat (first|exact KO|refine KJ rfl ?_)) (hl:=by rfl) (h:=?_))
      refine KC (KM ?_)
      refine ⟨[_],.cons ⟨_,_,_,rfl,(by repeat (first|exact Mh _|apply Mt)),by exact KI Try.underlying38 rfl sz_38⟩ .nil,fun a w' hr=>hr.num2Q (by repeat (first|exact Mh _|apply Mt)) (fp2_q _) (by repeat (first|exact Mh _|apply Mt)) (fp2_r _)⟩
    ·
      have hy0:=y_pos hok hP
      refine KA ?_
      refine oP (KG (o':=2) Try.underlying38 rfl rfl rfl sz_4 (by decide)) ?_
      refine oD (dL rfl (hv:=KL Try.underlying4 rfl (by first|rfl|exact Ke _ _ _ (by omega)|exact Kd _ (by omega)|exact Kb _ (by omega)|exact dv_m _ _ _ (by omega)))) ?_
      refine KC ?_
      refine KR rfl ?_
      refine KT ?_
      refine KB (KA ?_)
      refine oA ?_
      refine oA ?_
      refine KC ?_
      refine LCode.cut (α:=Nat×Nat×NV×NV) (fun x=>PlusQ V R x1.val y1.val x2.val x.1 x.2.1) (fun x=>⟨[(3,.pointer (some ⟨b3,0,none⟩)),(4,.pointer (some ⟨b4,0,none⟩)),(5,.pointer (some ⟨b5,0,none⟩)),(6,.pointer (some ⟨b6,0,none⟩)),(7,numV x.2.2.1 x.1),(8,numV x.2.2.2 x.2.1)],[.blk b6 ⟨true,[.slice none 0 0,.slice none 0 0,.bool false],38,(0,0)⟩,.blk b5 ⟨true,rpL (numV q2 x2.val) (numV r2 y2.val) false,38,(0,0)⟩,.blk b4 ⟨true,rpL (numV q1 x1.val) (numV r1 y1.val) false,38,(0,0)⟩,.blk b3 ⟨true,crvL Q V,26,(0,0)⟩,numT x.2.2.1 x.1,numT x.2.2.2 x.2.1,crvI Q V,numT q1 x1.val,numT r1 y1.val,numT q2 x2.val,numT r2 y2.val]⟩) ?_ ?_
      ·
        refine KB (KA ?_)
        refine oP (KG (o':=0) Try.underlying38 rfl rfl rfl sz_24 (by decide)) ?_
        refine oD (dL rfl (hv:=KL Try.underlying24 rfl (by first|rfl|exact Ke _ _ _ (by omega)|exact Kd _ (by omega)|exact Kb _ (by omega)|exact dv_m _ _ _ (by omega)))) ?_
        refine oP (KG (o':=0) Try.underlying38 rfl rfl rfl sz_24 (by decide)) ?_
        refine oD (dL rfl (hv:=KL Try.underlying24 rfl (by first|rfl|exact Ke _ _ _ (by omega)|exact Kd _ (by omega)|exact Kb _ (by omega)|exact dv_m _ _ _ (by omega)))) ?_
        refine oS (cF rfl en_59 rfl (fun w hw=>c_n_Cmp q1 q2 x1.val x2.val w (mC hw) (mC hw) (Nat.le_trans (h17 x1.isLt) (by decide))) ?_)
        refine oP (KF rfl rfl cmp_eql) ?_
        refine KC ?_
        first|refine KS rfl (fun hx=>?_) (fun hx=>?_)|refine KU rfl (fun hx=>?_) (fun hx=>?_)
        ·
          have hx:x1.val = x2.val:=hx
          refine KB ?_
          refine KB ?_
          by_cases hy:y1.val = y2.val
          ·
            refine KA ?_
            refine oP (KG (o':=1) Try.underlying38 rfl rfl rfl sz_24 (by decide)) ?_
            refine oD (dL rfl (hv:=KL Try.underlying24 rfl (by first|rfl|exact Ke _ _ _ (by omega)|exact Kd _ (by omega)|exact Kb _ (by omega)|exact dv_m _ _ _ (by omega)))) ?_
            refine oP (KG (o':=1) Try.underlying38 rfl rfl rfl sz_24 (by decide)) ?_
            refine oD (dL rfl (hv:=KL Try.underlying24 rfl (by first|rfl|exact Ke _ _ _ (by omega)|exact Kd _ (by omega)|exact Kb _ (by omega)|exact dv_m _ _ _ (by omega)))) ?_
            refine oS (cF rfl en_59 rfl (fun w hw=>c_n_Cmp r1 r2 y1.val y2.val w (mC hw) (mC hw) (Nat.le_trans (h17 y1.isLt) (by decide))) ?_)
            refine oP (KF (v:=.bool false) rfl rfl (br_f cmp_neq (fun e=>e hy))) ?_
            refine oM ?_
            refine oGP (KG (o':=1) Try.underlying38 rfl rfl rfl sz_24 (by decide)) ?_
            refine KAQ rfl rfl (dL rfl (hv:=KL Try.underlying24 rfl (by first|rfl|exact Ke _ _ _ (by omega)|exact Kd _ (by omega)|exact Kb _ (by omega)|exact dv_m _ _ _ (by omega)))) (Nb rfl) ?_
            refine oGP (KAC Try.underlying24 rfl) ?_
            refine oGP (KF (v:=.bool false) rfl rfl (br_f (br_eql (b:=0)) (fun e=>hy0 (nw_eq_zero.1 e)))) ?_
            refine oP (Kh rfl rfl) ?_
            refine KC ?_
            refine KR rfl ?_
            refine KT ?_
            refine KB ?_
            have ex:x1 = x2:=Fin.ext hx
            have ey:y1 = y2:=Fin.ext hy
            subst ex ey
            refine KA ?_
            refine oP (KG (o':=0) Try.underlying38 rfl rfl rfl sz_24 (by decide)) ?_
            refine oD (dL rfl (hv:=KL Try.underlying24 rfl (by first|rfl|exact Ke _ _ _ (by omega)|exact Kd _ (by omega)|exact Kb _ (by omega)|exact dv_m _ _ _ (by omega)))) ?_
            refine oP (KG (o':=0) Try.underlying38 rfl rfl rfl sz_24 (by decide)) ?_
            refine oD (dL rfl (hv:=KL Try.underlying24 rfl (by first|rfl|exact Ke _ _ _ (by omega)|exact Kd _ (by omega)|exact Kb _ (by omega)|exact dv_m _ _ _ (by omega)))) ?_
            refine oP (KG (o':=1) Try.underlying26 rfl rfl rfl sz_24 (by decide)) ?_
            refine oD (dL rfl (hv:=KL Try.underlying24 rfl (by first|rfl|exact Ke _ _ _ (by omega)|exact Kd _ (by omega)|exact Kb _ (by omega)|exact dv_m _ _ _ (by omega)))) ?_
            refine oS (cZ rfl en_67 rfl (fun w hw hs=>(c_n_MulMod q1 q1 Q.p (x1.val) (x1.val) V.p hp0 w (mC hw) (mC hw) (crvI_p (mC hw)) (h17 x1.isLt) (h17 x1.isLt)).mono fun e w' h=>KAV (Old.nil _) hs h) ?_)
            rintro _ _ ⟨qt1,rfl,rfl,hnt1⟩
            refine oA ?_
            refine KC ?_
            refine KB ?_
            refine rD [] ?_
            refine aM 0 ?_
            refine aM 1 ?_
            refine aM 2 ?_
            refine aP 3 rfl (KG (o':=1) Try.underlying26 rfl rfl rfl sz_24 (by decide)) ?_
            refine aD 4 rfl (dL rfl (hv:=KL Try.underlying24 rfl (by first|rfl|exact Ke _ _ _ (by omega)|exact Kd _ (by omega)|exact Kb _ (by omega)|exact dv_m _ _ _ (by omega)))) ?_
            refine aP 6 rfl (KG (o':=1) Try.underlying26 rfl rfl rfl sz_24 (by decide)) ?_
            refine aD 7 rfl (dL rfl (hv:=KL Try.underlying24 rfl (by first|rfl|exact Ke _ _ _ (by omega)|exact Kd _ (by omega)|exact Kb _ (by omega)|exact dv_m _ _ _ (by omega)))) ?_
            refine aP 9 rfl (KG (o':=2) Try.underlying26 rfl rfl rfl sz_24 (by decide)) ?_
            refine aD 10 rfl (dL rfl (hv:=KL Try.underlying24 rfl (by first|rfl|exact Ke _ _ _ (by omega)|exact Kd _ (by omega)|exact Kb _ (by omega)|exact dv_m _ _ _ (by omega)))) ?_
            refine aP 11 rfl (KG (o':=1) Try.underlying26 rfl rfl rfl sz_24 (by decide)) ?_
            refine aD 12 rfl (dL rfl (hv:=KL Try.underlying24 rfl (by first|rfl|exact Ke _ _ _ (by omega)|exact Kd _ (by omega)|exact Kb _ (by omega)|exact dv_m _ _ _ (by omega)))) ?_
            refine aO 5 rfl (cZ rfl en_71 rfl (fun w hw hs=>(c_n_AddMod qt1 qt1 Q.p (x1.val*x1.val%V.p) (x1.val*x1.val%V.p) V.p w (mC hw) (mC hw) (crvI_p (mC hw)) (h17 (Nat.mod_lt _ hpp)) (h17 (Nat.mod_lt _ hpp)) (Nat.mod_lt _ hpp) (Nat.mod_lt _ hpp)).mono fun e w' h=>KAV (Old.nil _) hs h) ?_)
            rintro _ _ ⟨qt2,rfl,rfl,hnt2⟩
            refine aO 8 rfl (cZ rfl en_71 rfl (fun w hw hs=>(c_n_AddMod qt1 qt2 Q.p (x1.val*x1.val%V.p) ((x1.val*x1.val%V.p+x1.val*x1.val%V.p)%V.p) V.p w (mC hw) (mC hw) (crvI_p (mC hw)) (h17 (Nat.mod_lt _ hpp)) (h17 (Nat.mod_lt _ hpp)) (Nat.mod_lt _ hpp) (Nat.mod_lt _ hpp)).mono fun e w' h=>KAV (Old.nil _) hs h) ?_)
            rintro _ _ ⟨qt3,rfl,rfl,hnt3⟩
            refine aO 13 rfl (cZ rfl en_71 rfl (fun w hw hs=>(c_n_AddMod qt3 Q.a Q.p ((x1.val*x1.val%V.p+(x1.val*x1.val%V.p+x1.val*x1.val%V.p)%V.p)%V.p) (V.a) V.p w (mC hw) (crvI_a (mC hw)) (crvI_p (mC hw)) (h17 (Nat.mod_lt _ hpp)) (h17 hba) (Nat.mod_lt _ hpp) hba).mono fun e w' h=>KAV (Old.nil _) hs h) ?_)
            rintro _ _ ⟨qt4,rfl,rfl,hnt4⟩
            refine aA 14 ?_
            refine aE ?_
            refine KA ?_
            refine oP (KG (o':=1) Try.underlying38 rfl rfl rfl sz_24 (by decide)) ?_
            refine oD (dL rfl (hv:=KL Try.underlying24 rfl (by first|rfl|exact Ke _ _ _ (by omega)|exact Kd _ (by omega)|exact Kb _ (by omega)|exact dv_m _ _ _ (by omega)))) ?_
            refine oP (KG (o':=1) Try.underlying38 rfl rfl rfl sz_24 (by decide)) ?_
            refine oD (dL rfl (hv:=KL Try.underlying24 rfl (by first|rfl|exact Ke _ _ _ (by omega)|exact Kd _ (by omega)|exact Kb _ (by omega)|exact dv_m _ _ _ (by omega)))) ?_
            refine oP (KG (o':=1) Try.underlying26 rfl rfl rfl sz_24 (by decide)) ?_
            refine oD (dL rfl (hv:=KL Try.underlying24 rfl (by first|rfl|exact Ke _ _ _ (by omega)|exact Kd _ (by omega)|exact Kb _ (by omega)|exact dv_m _ _ _ (by omega)))) ?_
            refine oS (cZ rfl en_71 rfl (fun w hw hs=>(c_n_AddMod r1 r1 Q.p (y1.val) (y1.val) V.p w (mC hw) (mC hw) (crvI_p (mC hw)) (h17 y1.isLt) (h17 y1.isLt) y1.isLt y1.isLt).mono fun e w' h=>KAV (Old.nil _) hs h) ?_)
            rintro _ _ ⟨qt5,rfl,rfl,hnt5⟩
            refine oA ?_
            refine KC ?_
            exact ⟨(tangO V.p V.a x1.val,tangU V.p y1.val,qt4,qt5),hR ▸ plus_tang hok hP,Kq ⟨rfl,rfl,rfl,rfl,rfl,rfl,trivial⟩ (by repeat (first|exact Sel.nil _|refine Sel.cons (by repeat (first|exact Ph _|apply Pt_)) ?_))⟩
          ·
            refine KA ?_
            refine oP (KG (o':=1) Try.underlying38 rfl rfl rfl sz_24 (by decide)) ?_
            refine oD (dL rfl (hv:=KL Try.underlying24 rfl (by first|rfl|exact Ke _ _ _ (by omega)|exact Kd _ (by omega)|exact Kb _ (by omega)|exact dv_m _ _ _ (by omega)))) ?_
            refine oP (KG (o':=1) Try.underlying38 rfl rfl rfl sz_24 (by decide)) ?_
            refine oD (dL rfl (hv:=KL Try.underlying24 rfl (by first|rfl|exact Ke _ _ _ (by omega)|exact Kd _ (by omega)|exact Kb _ (by omega)|exact dv_m _ _ _ (by omega)))) ?_
            refine oS (cF rfl en_59 rfl (fun w hw=>c_n_Cmp r1 r2 y1.val y2.val w (mC hw) (mC hw) (Nat.le_trans (h17 y1.isLt) (by decide))) ?_)
            refine oP (KF (v:=.bool true) rfl rfl (br_t cmp_neq (hy))) ?_
            refine oM ?_
            refine oK ?_
            refine oK ?_
            refine oK ?_
            refine oK ?_
            refine oP (Kn rfl rfl) ?_
            refine KC ?_
            refine Kf rfl ?_
            refine KB ?_
            have eR:Pt.inf = R:=(plus_opp hok hP hP2 hx hy).symm.trans hR
            subst eR
            refine KA ?_
            refine oP (KK (Ky pl_38 zr_38 rfl rfl) (show _ = rpV (.slice none 0 0) (.slice none 0 0) (true) from rfl)) ?_
            refine KV rfl (sA rfl rfl sz_38 (by repeat (first|exact KO|refine KJ rfl ?_)) (hl:=by rfl) (h:=?_))
            refine KC (KM ?_)
            refine ⟨[_],.cons ⟨_,_,_,rfl,(by repeat (first|exact Mh _|apply Mt)),by exact KI Try.underlying38 rfl sz_38⟩ .nil,fun a w' hr=>⟨⟨true,0,0⟩,⟨true,0,0⟩,congrArg (fun l:List Value=>Ending.returned (.agg l.toArray)) rp_nil,numT_zero_holds _,nfr_zero _ _,numT_zero_holds _,nfr_zero _ _,hr.fr.below⟩⟩
        ·
          have hx:x1.val≠x2.val:=hx
          refine KB (KA ?_)
          refine oP (KG (o':=1) Try.underlying38 rfl rfl rfl sz_24 (by decide)) ?_
          refine oD (dL rfl (hv:=KL Try.underlying24 rfl (by first|rfl|exact Ke _ _ _ (by omega)|exact Kd _ (by omega)|exact Kb _ (by omega)|exact dv_m _ _ _ (by omega)))) ?_
          refine oP (KG (o':=1) Try.underlying38 rfl rfl rfl sz_24 (by decide)) ?_
          refine oD (dL rfl (hv:=KL Try.underlying24 rfl (by first|rfl|exact Ke _ _ _ (by omega)|exact Kd _ (by omega)|exact Kb _ (by omega)|exact dv_m _ _ _ (by omega)))) ?_
          refine oP (KG (o':=1) Try.underlying26 rfl rfl rfl sz_24 (by decide)) ?_
          refine oD (dL rfl (hv:=KL Try.underlying24 rfl (by first|rfl|exact Ke _ _ _ (by omega)|exact Kd _ (by omega)|exact Kb _ (by omega)|exact dv_m _ _ _ (by omega)))) ?_
          refine oS (cZ rfl en_105 rfl (fun w hw hs=>(c_n_SubMod r2 r1 Q.p (y2.val) (y1.val) V.p w (mC hw) (mC hw) (crvI_p (mC hw)) (h17 y2.isLt) (by omega) y1.isLt).mono fun e w' h=>KAV (Old.nil _) hs h) ?_)
          rintro _ _ ⟨qc1,rfl,rfl,hnc1⟩
          refine oA ?_
          refine KC ?_
          refine KA ?_
          refine oP (KG (o':=0) Try.underlying38 rfl rfl rfl sz_24 (by decide)) ?_
          refine oD (dL rfl (hv:=KL Try.underlying24 rfl (by first|rfl|exact Ke _ _ _ (by omega)|exact Kd _ (by omega)|exact Kb _ (by omega)|exact dv_m _ _ _ (by omega)))) ?_
          refine oP (KG (o':=0) Try.underlying38 rfl rfl rfl sz_24 (by decide)) ?_
          refine oD (dL rfl (hv:=KL Try.underlying24 rfl (by first|rfl|exact Ke _ _ _ (by omega)|exact Kd _ (by omega)|exact Kb _ (by omega)|exact dv_m _ _ _ (by omega)))) ?_
          refine oP (KG (o':=1) Try.underlying26 rfl rfl rfl sz_24 (by decide)) ?_
          refine oD (dL rfl (hv:=KL Try.underlying24 rfl (by first|rfl|exact Ke _ _ _ (by omega)|exact Kd _ (by omega)|exact Kb _ (by omega)|exact dv_m _ _ _ (by omega)))) ?_
          refine oS (cZ rfl en_105 rfl (fun w hw hs=>(c_n_SubMod q2 q1 Q.p (x2.val) (x1.val) V.p w (mC hw) (mC hw) (crvI_p (mC hw)) (h17 x2.isLt) (by omega) x1.isLt).mono fun e w' h=>KAV (Old.nil _) hs h) ?_)
          rintro _ _ ⟨qc2,rfl,rfl,hnc2⟩
          refine oA ?_
          refine KC ?_
          exact ⟨(chordO V.p y1.val y2.val,chordU V.p x1.val x2.val,qc1,qc2),hR ▸ plus_chord hok hP hP2 hx,Kq ⟨rfl,rfl,rfl,rfl,rfl,rfl,trivial⟩ (by repeat (first|exact Sel.nil _|refine Sel.cons (by repeat (first|exact Ph _|apply Pt_)) ?_))⟩
      ·
        rintro x ⟨⟨ho,hu,hu0⟩,hx1,hx2,hx3⟩
        have hin:=invM_lt (a:=x.2.1) hpp
        refine KB (KA ?_)
        refine oM ?_
        refine oP (KG (o':=1) Try.underlying26 rfl rfl rfl sz_24 (by decide)) ?_
        refine oD (dL rfl (hv:=KL Try.underlying24 rfl (by first|rfl|exact Ke _ _ _ (by omega)|exact Kd _ (by omega)|exact Kb _ (by omega)|exact dv_m _ _ _ (by omega)))) ?_
        refine oS (cZ rfl en_106 rfl (fun w hw hs=>(c_n_Inverse x.2.2.2 Q.p x.2.1 V.p w (mC hw) (crvI_p (mC hw)) (Nat.le_trans (h17 hu) (by decide)) (by omega) (by omega) (gcd_under hok hu hu0)).mono fun e w' h=>KAV (Old.nil _) hs h) ?_)
        rintro _ _ ⟨qi,rfl,rfl,hni⟩
        refine oM ?_
        refine oP (KW rfl rfl) ?_
        refine oP (KW rfl rfl) ?_
        refine oA ?_
        refine oA ?_
        refine KC ?_
        refine KB (KA ?_)
        refine oM ?_
        refine oM ?_
        refine oP (KG (o':=1) Try.underlying26 rfl rfl rfl sz_24 (by decide)) ?_
        refine oD (dL rfl (hv:=KL Try.underlying24 rfl (by first|rfl|exact Ke _ _ _ (by omega)|exact Kd _ (by omega)|exact Kb _ (by omega)|exact dv_m _ _ _ (by omega)))) ?_
        refine oS (cZ rfl en_67 rfl (fun w hw hs=>(c_n_MulMod x.2.2.1 qi Q.p (x.1) (invM x.2.1 V.p) V.p hp0 w (mC hw) (mC hw) (crvI_p (mC hw)) (h17 ho) (h17 hin)).mono fun e w' h=>KAV (Old.nil _) hs h) ?_)
        rintro _ _ ⟨ql,rfl,rfl,hnl⟩
        refine oA ?_
        refine KC ?_
        refine KB ?_
        have hL:x.1*invM x.2.1 V.p%V.p<V.p:=Nat.mod_lt _ hpp
        generalize x.1*invM x.2.1 V.p%V.p = L at *
        refine rD [] ?_
        refine aM 0 ?_
        refine aM 1 ?_
        refine aP 2 rfl (KG (o':=1) Try.underlying26 rfl rfl rfl sz_24 (by decide)) ?_
        refine aD 3 rfl (dL rfl (hv:=KL Try.underlying24 rfl (by first|rfl|exact Ke _ _ _ (by omega)|exact Kd _ (by omega)|exact Kb _ (by omega)|exact dv_m _ _ _ (by omega)))) ?_
        refine aP 5 rfl (KG (o':=0) Try.underlying38 rfl rfl rfl sz_24 (by decide)) ?_
        refine aD 6 rfl (dL rfl (hv:=KL Try.underlying24 rfl (by first|rfl|exact Ke _ _ _ (by omega)|exact Kd _ (by omega)|exact Kb _ (by omega)|exact dv_m _ _ _ (by omega)))) ?_
        refine aP 7 rfl (KG (o':=1) Try.underlying26 rfl rfl rfl sz_24 (by decide)) ?_
        refine aD 8 rfl (dL rfl (hv:=KL Try.underlying24 rfl (by first|rfl|exact Ke _ _ _ (by omega)|exact Kd _ (by omega)|exact Kb _ (by omega)|exact dv_m _ _ _ (by omega)))) ?_
        refine aP 10 rfl (KG (o':=0) Try.underlying38 rfl rfl rfl sz_24 (by decide)) ?_
        refine aD 11 rfl (dL rfl (hv:=KL Try.underlying24 rfl (by first|rfl|exact Ke _ _ _ (by omega)|exact Kd _ (by omega)|exact Kb _ (by omega)|exact dv_m _ _ _ (by omega)))) ?_
        refine aP 12 rfl (KG (o':=1) Try.underlying26 rfl rfl rfl sz_24 (by decide)) ?_
        refine aD 13 rfl (dL rfl (hv:=KL Try.underlying24 rfl (by first|rfl|exact Ke _ _ _ (by omega)|exact Kd _ (by omega)|exact Kb _ (by omega)|exact dv_m _ _ _ (by omega)))) ?_
        refine aO 4 rfl (cZ rfl en_67 rfl (fun w hw hs=>(c_n_MulMod ql ql Q.p (L) (L) V.p hp0 w (mC hw) (mC hw) (crvI_p (mC hw)) (h17 hL) (h17 hL)).mono fun e w' h=>KAV (Old.nil _) hs h) ?_)
        rintro _ _ ⟨qll,rfl,rfl,hnll⟩
        refine aO 9 rfl (cZ rfl en_105 rfl (fun w hw hs=>(c_n_SubMod qll q1 Q.p (L*L%V.p) (x1.val) V.p w (mC hw) (mC hw) (crvI_p (mC hw)) (h17 (Nat.mod_lt _ hpp)) (by omega) x1.isLt).mono fun e w' h=>KAV (Old.nil _) hs h) ?_)
        rintro _ _ ⟨qlx,rfl,rfl,hnlx⟩
        refine aO 14 rfl (cZ rfl en_105 rfl (fun w hw hs=>(c_n_SubMod qlx q2 Q.p (lessM (L*L%V.p) x1.val V.p) (x2.val) V.p w (mC hw) (mC hw) (crvI_p (mC hw)) (h17 (lessM_lt (Nat.mod_lt _ hpp) x1.isLt)) (by omega) x2.isLt).mono fun e w' h=>KAV (Old.nil _) hs h) ?_)
        rintro _ _ ⟨qx,rfl,rfl,hnx⟩
        refine aA 15 ?_
        refine aE ?_
        refine KB ?_
        refine rD [] ?_
        refine aM 0 ?_
        refine aP 1 rfl (KG (o':=0) Try.underlying38 rfl rfl rfl sz_24 (by decide)) ?_
        refine aD 2 rfl (dL rfl (hv:=KL Try.underlying24 rfl (by first|rfl|exact Ke _ _ _ (by omega)|exact Kd _ (by omega)|exact Kb _ (by omega)|exact dv_m _ _ _ (by omega)))) ?_
        refine aM 3 ?_
        refine aP 4 rfl (KG (o':=1) Try.underlying26 rfl rfl rfl sz_24 (by decide)) ?_
        refine aD 5 rfl (dL rfl (hv:=KL Try.underlying24 rfl (by first|rfl|exact Ke _ _ _ (by omega)|exact Kd _ (by omega)|exact Kb _ (by omega)|exact dv_m _ _ _ (by omega)))) ?_
        refine aP 7 rfl (KG (o':=1) Try.underlying26 rfl rfl rfl sz_24 (by decide)) ?_
        refine aD 8 rfl (dL rfl (hv:=KL Try.underlying24 rfl (by first|rfl|exact Ke _ _ _ (by omega)|exact Kd _ (by omega)|exact Kb _ (by omega)|exact dv_m _ _ _ (by omega)))) ?_
        refine aP 10 rfl (KG (o':=1) Try.underlying38 rfl rfl rfl sz_24 (by decide)) ?_
        refine aD 11 rfl (dL rfl (hv:=KL Try.underlying24 rfl (by first|rfl|exact Ke _ _ _ (by omega)|exact Kd _ (by omega)|exact Kb _ (by omega)|exact dv_m _ _ _ (by omega)))) ?_
        refine aP 12 rfl (KG (o':=1) Try.underlying26 rfl rfl rfl sz_24 (by decide)) ?_
        refine aD 13 rfl (dL rfl (hv:=KL Try.underlying24 rfl (by first|rfl|exact Ke _ _ _ (by omega)|exact Kd _ (by omega)|exact Kb _ (by omega)|exact dv_m _ _ _ (by omega)))) ?_
        refine aO 6 rfl (cZ rfl en_105 rfl (fun w hw hs=>(c_n_SubMod q1 qx Q.p (x1.val) (lineX V.p L x1.val x2.val) V.p w (mC hw) (mC hw) (crvI_p (mC hw)) (h17 x1.isLt) (by omega) (lineX_lt x1.isLt x2.isLt)).mono fun e w' h=>KAV (Old.nil _) hs h) ?_)
        rintro _ _ ⟨qd,rfl,rfl,hnd⟩
        refine aO 9 rfl (cZ rfl en_67 rfl (fun w hw hs=>(c_n_MulMod ql qd Q.p (L) (lessM x1.val (lineX V.p L x1.val x2.val) V.p) V.p hp0 w (mC hw) (mC hw) (crvI_p (mC hw)) (h17 hL) (h17 (lessM_lt x1.isLt (lineX_lt x1.isLt x2.isLt)))).mono fun e w' h=>KAV (Old.nil _) hs h) ?_)
        rintro _ _ ⟨qm,rfl,rfl,hnm⟩
        refine aO 14 rfl (cZ rfl en_105 rfl (fun w hw hs=>(c_n_SubMod qm r1 Q.p (L*lessM x1.val (lineX V.p L x1.val x2.val) V.p%V.p) (y1.val) V.p w (mC hw) (mC hw) (crvI_p (mC hw)) (h17 (Nat.mod_lt _ hpp)) (by omega) y1.isLt).mono fun e w' h=>KAV (Old.nil _) hs h) ?_)
        rintro _ _ ⟨qy,rfl,rfl,hny⟩
        refine aA 15 ?_
        refine aE ?_
        refine KB (KA ?_)
        refine oM ?_
        refine oM ?_
        refine oP (KK (Ky pl_38 zr_38 rfl rfl) (show _ = rpV (numV qx (lineX V.p L x1.val x2.val)) (numV qy (lineY V.p L x1.val y1.val (lineX V.p L x1.val x2.val))) (false) from rfl)) ?_
        refine KV rfl (sA rfl rfl sz_38 (by repeat (first|exact KO|refine KJ rfl ?_)) (hl:=by rfl) (h:=?_))
        refine KC (KM ?_)
        refine ⟨[_],.cons ⟨_,_,_,rfl,(by repeat (first|exact Mh _|apply Mt)),by exact KI Try.underlying38 rfl sz_38⟩ .nil,fun a w' hr=>?_⟩
        show Num2R w _ (xv R) (yv R) (fun u v=>rpV u v (iv R)) _ _
        rw [hx1,hx2,hx3]
        exact hr.num2Q (q:=qx) (r:=qy) (by repeat (first|exact Mh _|apply Mt)) hnx.any (by repeat (first|exact Mh _|apply Mt)) hny.any
end Go.Proofs.Ytlmiolnccgjjjaa
set_option linter.unusedVariables false
set_option linter.unusedSimpArgs false
set_option maxRecDepth 20000
namespace Go.Proofs.Ytlmiolnccgjjjaa
open Go Go.RowKit
theorem c_Right (V:Cv) (b f bd:Nat) (hok:V.Ok) (X:Fin V.p) (w:World) (hb:(Item.blk b ⟨false,opL V f,129,(0,0)⟩).holds w) (hf:(Item.blk f ⟨false,fldL V.p bd,162,(0,0)⟩).holds w) (hbd:(Item.blk bd ⟨false,dvL V.p,212,(0,0)⟩).holds w):Calls Try.prog 121 ([.pointer (some ⟨b,0,none⟩),natV X.val]:List Value).toArray w (fun e w'=>e = .returned (natV ((X*X+V.A)*X+V.B).val)∧Below w.heap.size w w'):=by
  have hbb:=hok.bounds
  have hpW:V.p<W9:=w9_521 hbb.2.1
  refine Ki (N:=31) (rs:=[.cell 4 33]) [.blk b ⟨false,opL V f,129,(0,0)⟩,.blk f ⟨false,fldL V.p bd,162,(0,0)⟩,.blk bd ⟨false,dvL V.p,212,(0,0)⟩] Try.func121 rfl Try.ntmps121 Try.results121 (Nb rfl) ⟨hb,hf,hbd,trivial⟩ rfl ?_
  show LCode _ _ _ ⟨_,_⟩ _
  refine KB (KA ?_)
  refine oS (mB (fun b3=>?_))
  refine oS (mk (KX zr_33) (fun b4=>?_))
  refine KC ?_
  refine KB (KA ?_)
  refine oM ?_
  refine oP (KQ rfl) ?_
  refine oP (KG (o':=59) Try.underlying129 rfl rfl rfl sz_127 (by decide)) ?_
  refine oD (dL rfl (hv:=KL Try.underlying127 rfl (by exact cvC_gt_F _ _ _ _ _ _ _ _ _ _ _ _ _))) ?_
  refine oA ?_
  refine KC ?_
  refine KB ?_
  refine rD [21] ?_
  refine aM 0 ?_
  refine aM 1 ?_
  refine aM 2 ?_
  refine aM 3 ?_
  refine aD 4 rfl (dL rfl (hv:=by exact KI Try.underlying33 rfl sz_33)) ?_
  refine aD 5 rfl (dL rfl (hv:=by exact KI Try.underlying33 rfl sz_33)) ?_
  refine aM 7 ?_
  refine aP 8 rfl (KQ rfl) ?_
  refine aP 9 rfl (KG (o':=0) Try.underlying129 rfl rfl rfl sz_126 (by decide)) ?_
  refine aP 10 rfl (KG (o':=10) Try.underlying126 rfl rfl rfl sz_33 (by decide)) ?_
  refine aD 11 rfl (Det.cast (dL rfl (hv:=by exact cvC_ld_a _ _ _ _ _ _ _ _ _ _ _ _ _ _ _ _)) (a_val hok)) ?_
  refine aD 13 rfl (dL rfl (hv:=by exact KI Try.underlying33 rfl sz_33)) ?_
  refine aM 15 ?_
  refine aP 16 rfl (KQ rfl) ?_
  refine aP 17 rfl (KG (o':=0) Try.underlying129 rfl rfl rfl sz_126 (by decide)) ?_
  refine aP 18 rfl (KG (o':=19) Try.underlying126 rfl rfl rfl sz_33 (by decide)) ?_
  refine aD 19 rfl (Det.cast (dL rfl (hv:=by exact cvC_ld_b _ _ _ _ _ _ _ _ _ _ _ _ _ _ _ _)) (b_val hok)) ?_
  refine aO 6 rfl (cF rfl en_120 rfl (fun w hw=>c_F_Mul V hok f bd _ _ w (mC hw) (mC hw)) ?_)
  refine aO 12 rfl (cF rfl en_118 rfl (fun w hw=>c_F_Add V hok f bd _ _ w (mC hw)) ?_)
  refine aO 14 rfl (cF rfl en_120 rfl (fun w hw=>c_F_Mul V hok f bd _ _ w (mC hw) (mC hw)) ?_)
  refine aO 20 rfl (cF rfl en_118 rfl (fun w hw=>c_F_Add V hok f bd _ _ w (mC hw)) ?_)
  refine aL 21 rfl (sA rfl rfl sz_33 (by repeat (first|exact Ka _|exact Kl _ _ _|exact Kc _|exact Kg _ _ _|exact Km _ _ _|exact KO|refine KJ rfl ?_|refine KP ?_ ?_)) (hl:=by first|exact KD _|exact KH _ _ _|exact KE _|exact KN _ _ _|exact KY _ _ _|rfl|simp [KH,KD,KE]) (h:=?_))
  refine aE ?_
  refine KM ?_
  refine ⟨[_],.cons ⟨_,_,_,rfl,(by repeat (first|exact Mh _|apply Mt)),by exact KI Try.underlying33 rfl sz_33⟩ .nil,fun a w' hr=>⟨?_,hr.fr.below⟩⟩
  rfl
theorem c_HasT (V:Cv) (f bd A:Nat) (w:World) (hf:(Item.blk f ⟨false,fldL V.p bd,162,(0,0)⟩).holds w) (hA:A<W9) (hpW:V.p<W9) (h:A<V.p):Calls Try.prog 119 ([.pointer (some ⟨f,0,none⟩),natV A]:List Value).toArray w (fun e w'=>e = .returned (.bool true)∧Below w.heap.size w w'):=by
  have:=c_f_Has V f bd A w hf hA hpW
  rwa [decide_eq_true h] at this
theorem c_HasF (V:Cv) (f bd A:Nat) (w:World) (hf:(Item.blk f ⟨false,fldL V.p bd,162,(0,0)⟩).holds w) (hA:A<W9) (hpW:V.p<W9) (h:¬ A<V.p):Calls Try.prog 119 ([.pointer (some ⟨f,0,none⟩),natV A]:List Value).toArray w (fun e w'=>e = .returned (.bool false)∧Below w.heap.size w w'):=by
  have:=c_f_Has V f bd A w hf hA hpW
  rwa [decide_eq_false h] at this
theorem right_val {V:Cv} (hok:V.Ok) (x:Fin V.p):rightN V.p V.a V.b x.val = ((x*x+V.A)*x+V.B).val:=by
  unfold rightN
  rw [Fin.val_add,Fin.val_mul,Fin.val_add,Fin.val_mul,hok.A_val hok.bounds.2.2.1,hok.B_val hok.bounds.2.2.2.1]
theorem on_x' {p a b X Y:Nat} (h:¬ X<p):onB p a b X Y false = false:=by
  unfold onB; rw [if_neg (by decide),decide_eq_false h,Bool.false_and]
theorem on_yy' {p a b X Y:Nat} (h:¬ Y<p):onB p a b X Y false = false:=by
  unfold onB; rw [if_neg (by decide),decide_eq_false h,Bool.false_and,Bool.and_false]
theorem on_fin {V:Cv} (hok:V.Ok) (x y:Fin V.p):onB V.p V.a V.b x.val y.val false = decide ((y*y).val = ((x*x+V.A)*x+V.B).val):=by
  unfold onB
  rw [if_neg (by decide),decide_eq_true x.isLt,decide_eq_true y.isLt,Bool.true_and,Bool.true_and,right_val hok,Fin.val_mul]
theorem on_inf' {p a b X Y:Nat}:onB p a b X Y true = (decide (X = 0) && decide (Y = 0)):=if_pos rfl
theorem c_cOn (V:Cv) (b f bd:Nat) (hok:V.Ok) (X Y:Nat) (i:Bool) (w:World) (hb:(Item.blk b ⟨false,opL V f,129,(0,0)⟩).holds w) (hf:(Item.blk f ⟨false,fldL V.p bd,162,(0,0)⟩).holds w) (hbd:(Item.blk bd ⟨false,dvL V.p,212,(0,0)⟩).holds w) (hX:X<W9) (hY:Y<W9):Calls Try.prog 81 ([.pointer (some ⟨b,0,none⟩),ptV X Y i]:List Value).toArray w (fun e w'=>e = .returned (.bool (onB V.p V.a V.b X Y i))∧Below w.heap.size w w'):=by
  have hbb:=hok.bounds
  have hpW:V.p<W9:=w9_521 hbb.2.1
  refine Ki (N:=42) (rs:=[.tmp 4]) [.blk b ⟨false,opL V f,129,(0,0)⟩,.blk f ⟨false,fldL V.p bd,162,(0,0)⟩,.blk bd ⟨false,dvL V.p,212,(0,0)⟩] Try.func81 rfl Try.ntmps81 Try.results81 (Nb rfl) ⟨hb,hf,hbd,trivial⟩ rfl ?_
  show LCode _ _ _ ⟨_,_⟩ _
  refine KB (KA ?_)
  refine oS (mB (fun b3=>?_))
  refine oA ?_
  refine KC ?_
  refine KB ?_
  refine KB ?_
  cases i
  ·
    refine KA ?_
    refine oP (KG (o':=18) Try.underlying35 rfl rfl rfl sz_4 (by decide)) ?_
    refine oD (dL rfl (hv:=KL Try.underlying4 rfl (by exact pt_gt _ _ _))) ?_
    refine KC ?_
    refine KR rfl ?_
    refine KT ?_
    refine KB ?_
    rcases (show (¬ X<V.p)∨(X<V.p∧¬ Y<V.p)∨(X<V.p∧Y<V.p) by omega) with h1|⟨h1,h2⟩|⟨h1,h2⟩
    ·
      refine rD [] ?_
      refine aM 0 ?_
      refine aP 1 rfl (KQ rfl) ?_
      refine aP 2 rfl (KG (o':=59) Try.underlying129 rfl rfl rfl sz_127 (by decide)) ?_
      refine aD 3 rfl (dL rfl (hv:=KL Try.underlying127 rfl (by exact cvC_gt_F _ _ _ _ _ _ _ _ _ _ _ _ _))) ?_
      refine aP 4 rfl (KG (o':=0) Try.underlying35 rfl rfl rfl sz_33 (by decide)) ?_
      refine aD 5 rfl (dL rfl (hv:=by exact KAF Try.underlying33 rfl sz_33 rfl (KD _))) ?_
      refine aO 6 rfl (cF rfl en_119 rfl (fun w hw=>c_HasF V f bd X w (mC hw) hX hpW h1) ?_)
      refine aM 7 ?_
      refine aK 8 ?_
      refine aK 9 ?_
      refine aK 10 ?_
      refine aK 11 ?_
      refine aK 12 ?_
      refine aK 13 ?_
      refine aK 14 ?_
      refine aP 15 rfl (Kh rfl rfl) ?_
      refine aM 16 ?_
      refine aK 17 ?_
      refine aK 18 ?_
      refine aK 19 ?_
      refine aK 20 ?_
      refine aK 21 ?_
      refine aK 22 ?_
      refine aK 23 ?_
      refine aK 24 ?_
      refine aK 25 ?_
      refine aK 26 ?_
      refine aK 27 ?_
      refine aK 28 ?_
      refine aK 29 ?_
      refine aK 30 ?_
      refine aP 31 rfl (Kh rfl rfl) ?_
      refine aA 32 ?_
      refine aE ?_
      refine KM ?_
      refine ⟨[_],.cons rfl .nil,fun a w' hr=>⟨?_,hr.fr.below⟩⟩
      rw [on_x' h1]
      rfl
    ·
      refine rD [] ?_
      refine aM 0 ?_
      refine aP 1 rfl (KQ rfl) ?_
      refine aP 2 rfl (KG (o':=59) Try.underlying129 rfl rfl rfl sz_127 (by decide)) ?_
      refine aD 3 rfl (dL rfl (hv:=KL Try.underlying127 rfl (by exact cvC_gt_F _ _ _ _ _ _ _ _ _ _ _ _ _))) ?_
      refine aP 4 rfl (KG (o':=0) Try.underlying35 rfl rfl rfl sz_33 (by decide)) ?_
      refine aD 5 rfl (dL rfl (hv:=by exact KAF Try.underlying33 rfl sz_33 rfl (KD _))) ?_
      refine aO 6 rfl (cF rfl en_119 rfl (fun w hw=>c_HasT V f bd X w (mC hw) hX hpW h1) ?_)
      refine aM 7 ?_
      refine aGM 8 ?_
      refine aGP 9 rfl (KQ rfl) ?_
      refine aGP 10 rfl (KG (o':=59) Try.underlying129 rfl rfl rfl sz_127 (by decide)) ?_
      refine aGD 11 rfl (dL rfl (hv:=KL Try.underlying127 rfl (by exact cvC_gt_F _ _ _ _ _ _ _ _ _ _ _ _ _))) ?_
      refine aGP 12 rfl (KG (o':=9) Try.underlying35 rfl rfl rfl sz_33 (by decide)) ?_
      refine aGD 13 rfl (dL rfl (hv:=by exact pt_ld1 _ _ _ _ _ _)) ?_
      refine aGO 14 rfl (cF rfl en_119 rfl (fun w hw=>c_HasF V f bd Y w (mC hw) hY hpW h2) ?_)
      refine aP 15 rfl (Kn rfl rfl) ?_
      refine aM 16 ?_
      refine aK 17 ?_
      refine aK 18 ?_
      refine aK 19 ?_
      refine aK 20 ?_
      refine aK 21 ?_
      refine aK 22 ?_
      refine aK 23 ?_
      refine aK 24 ?_
      refine aK 25 ?_
      refine aK 26 ?_
      refine aK 27 ?_
      refine aK 28 ?_
      refine aK 29 ?_
      refine aK 30 ?_
      refine aP 31 rfl (Kh rfl rfl) ?_
      refine aA 32 ?_
      refine aE ?_
      refine KM ?_
      refine ⟨[_],.cons rfl .nil,fun a w' hr=>⟨?_,hr.fr.below⟩⟩
      rw [on_yy' h2]
      rfl
    ·
      obtain ⟨x,rfl⟩:∃ x:Fin V.p,x.val = X:=⟨⟨X,h1⟩,rfl⟩
      obtain ⟨y,rfl⟩:∃ y:Fin V.p,y.val = Y:=⟨⟨Y,h2⟩,rfl⟩
      refine rD [] ?_
      refine aM 0 ?_
      refine aP 1 rfl (KQ rfl) ?_
      refine aP 2 rfl (KG (o':=59) Try.underlying129 rfl rfl rfl sz_127 (by decide)) ?_
      refine aD 3 rfl (dL rfl (hv:=KL Try.underlying127 rfl (by exact cvC_gt_F _ _ _ _ _ _ _ _ _ _ _ _ _))) ?_
      refine aP 4 rfl (KG (o':=0) Try.underlying35 rfl rfl rfl sz_33 (by decide)) ?_
      refine aD 5 rfl (dL rfl (hv:=by exact KAF Try.underlying33 rfl sz_33 rfl (KD _))) ?_
      refine aO 6 rfl (cF rfl en_119 rfl (fun w hw=>c_HasT V f bd x.val w (mC hw) (Nat.lt_trans x.isLt hpW) hpW x.isLt) ?_)
      refine aM 7 ?_
      refine aGM 8 ?_
      refine aGP 9 rfl (KQ rfl) ?_
      refine aGP 10 rfl (KG (o':=59) Try.underlying129 rfl rfl rfl sz_127 (by decide)) ?_
      refine aGD 11 rfl (dL rfl (hv:=KL Try.underlying127 rfl (by exact cvC_gt_F _ _ _ _ _ _ _ _ _ _ _ _ _))) ?_
      refine aGP 12 rfl (KG (o':=9) Try.underlying35 rfl rfl rfl sz_33 (by decide)) ?_
      refine aGD 13 rfl (dL rfl (hv:=by exact pt_ld1 _ _ _ _ _ _)) ?_
      refine aGO 14 rfl (cF rfl en_119 rfl (fun w hw=>c_HasT V f bd y.val w (mC hw) (Nat.lt_trans y.isLt hpW) hpW y.isLt) ?_)
      refine aP 15 rfl (Kn rfl rfl) ?_
      refine aM 16 ?_
      refine aGM 17 ?_
      refine aGP 18 rfl (KQ rfl) ?_
      refine aGP 19 rfl (KG (o':=59) Try.underlying129 rfl rfl rfl sz_127 (by decide)) ?_
      refine aGD 20 rfl (dL rfl (hv:=KL Try.underlying127 rfl (by exact cvC_gt_F _ _ _ _ _ _ _ _ _ _ _ _ _))) ?_
      refine aGP 21 rfl (KG (o':=9) Try.underlying35 rfl rfl rfl sz_33 (by decide)) ?_
      refine aGD 22 rfl (dL rfl (hv:=by exact pt_ld1 _ _ _ _ _ _)) ?_
      refine aGP 23 rfl (KG (o':=9) Try.underlying35 rfl rfl rfl sz_33 (by decide)) ?_
      refine aGD 24 rfl (dL rfl (hv:=by exact pt_ld1 _ _ _ _ _ _)) ?_
      refine aGM 26 ?_
      refine aGP 27 rfl (KG (o':=0) Try.underlying35 rfl rfl rfl sz_33 (by decide)) ?_
      refine aGD 28 rfl (dL rfl (hv:=by exact KAF Try.underlying33 rfl sz_33 rfl (KD _))) ?_
      refine aGO 25 rfl (cF rfl en_120 rfl (fun w hw=>c_F_Mul V hok f bd _ _ w (mC hw) (mC hw)) ?_)
      refine aGO 29 rfl (cF rfl en_121 rfl (fun w hw=>c_Right V b f bd hok _ w (mC hw) (mC hw) (mC hw)) ?_)
      refine aGP 30 rfl (Det.eqa (by kernel_rfl) (fun w=>eq_nat (y*y).val ((x*x+V.A)*x+V.B).val (Nat.lt_trans (y*y).isLt hpW) (Nat.lt_trans ((x*x+V.A)*x+V.B).isLt hpW) 10000 (by decide) w) rfl rfl) ?_
      refine aP 31 rfl (Kn rfl rfl) ?_
      refine aA 32 ?_
      refine aE ?_
      refine KM ?_
      refine ⟨[_],.cons rfl .nil,fun a w' hr=>⟨?_,hr.fr.below⟩⟩
      rw [on_fin hok]
      rfl
  ·
    refine KA ?_
    refine oP (KG (o':=18) Try.underlying35 rfl rfl rfl sz_4 (by decide)) ?_
    refine oD (dL rfl (hv:=KL Try.underlying4 rfl (by exact pt_gt _ _ _))) ?_
    refine KC ?_
    refine Kf rfl ?_
    refine KB (KA ?_)
    refine oD (dL rfl (hv:=by exact KI Try.underlying35 rfl sz_35)) ?_
    refine oP (KK (Ky pl_35 zr_35 rfl fill_ptInf) rfl) ?_
    refine oP (Det.eqa (by kernel_rfl) (fun w=>eq_pt X Y true 0 0 true hX hY zero_w9 zero_w9 10000 (by decide) w) rfl rfl) ?_
    refine oA ?_
    refine KC (KM ?_)
    refine ⟨[_],.cons rfl .nil,fun a w' hr=>⟨?_,hr.fr.below⟩⟩
    rw [on_inf',show (decide (X = 0) && decide (Y = 0)) = (decide (X = 0) && (decide (Y = 0) && ((true == true) && true))) by simp]
    rfl
end Go.Proofs.Ytlmiolnccgjjjaa
