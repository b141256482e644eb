/- Part 2 of what the proof leans on: a symbolic execution of the model, walks of the program's functions, and the mathematics. No condition. -/
import Derived.WalkKit
import Derived.Orders
import Derived.Laws.StructEq
import Derived.WalkSpells
import Derived.OrdersHeld
import Derived.KernelRfl
import Derived.Laws.Externs
import Derived.Laws.Bits64
import Derived.Laws.MakeOwn
import Derived.Laws.BytesString
import Derived.Carry
import Derived.WideShapes
import GoSem.Claim
import Derived.Test.YtnpeokiboiclfaaGreatProg
import Derived.Laws.AppendOwn
import Derived.Deep.Upon
import Derived.Shelf.Strings.Repeat
import Derived.Ground.NamesProg
import Derived.Lib.Agree
import Derived.Lib.ConvBytes
import Derived.Laws.CopyRow
import Derived.Test.YtnpeokiboiclfaaGreatRows
import Derived.ProofKit
import Derived.OpenShut
import Derived.SizedLaws
import Derived.ChangeMaps5
import Derived.Test.YtnpeokiboiclfaaGreatM1
namespace Go.Proofs.YtnpeokiboiclfaaGreat
open Go Go.RowKit
theorem sz_3:szOf Tryz.prog 3 = some 1:=by kernel_rfl
theorem inf_3:infOf Tryz.prog 3 = some (Value.int .i64 ((0:Nat):Int),1,8):=by kernel_rfl
theorem sz_4:szOf Tryz.prog 4 = some 1:=by kernel_rfl
theorem sz_5:szOf Tryz.prog 5 = some 1:=by kernel_rfl
theorem inf_5:infOf Tryz.prog 5 = some (Value.int .u8 ((0:Nat):Int),1,1):=by kernel_rfl
theorem sz_9:szOf Tryz.prog 9 = some 1:=by kernel_rfl
theorem inf_9:infOf Tryz.prog 9 = some (Value.string ⟨#[]⟩,1,16):=by kernel_rfl
theorem sz_30:szOf Tryz.prog 30 = some 1:=by kernel_rfl
theorem sz_31:szOf Tryz.prog 31 = some 9:=by kernel_rfl
theorem pl_31:plc Tryz.prog 31 = some ((List.range 9).map fun i=>(i*1,1)):=by kernel_rfl
theorem zr_31:zrOf Tryz.prog 31 = some (.agg (vec .u64 9 (fun _=>0)).toArray):=by kernel_rfl
theorem sz_33:szOf Tryz.prog 33 = some 9:=by kernel_rfl
theorem pl_33:plc Tryz.prog 33 = some [(0,9)]:=by kernel_rfl
theorem zr_33:zrOf Tryz.prog 33 = some (.agg (vec .u64 9 (fun _=>0)).toArray):=by kernel_rfl
theorem sz_37:szOf Tryz.prog 37 = some 18:=by kernel_rfl
theorem pl_37:plc Tryz.prog 37 = some [(0,9),(9,9)]:=by kernel_rfl
theorem zr_37:zrOf Tryz.prog 37 = some (.agg (vec .u64 9 (fun _=>0)++(vec .u64 9 (fun _=>0))).toArray):=by kernel_rfl
theorem sz_47:szOf Tryz.prog 47 = some 19:=by kernel_rfl
theorem pl_47:plc Tryz.prog 47 = some [(0,9),(9,9),(18,1)]:=by kernel_rfl
theorem zr_47:zrOf Tryz.prog 47 = some (.agg (vec .u64 9 (fun _=>0)++(vec .u64 9 (fun _=>0)++([Value.bool false]))).toArray):=by kernel_rfl
theorem sz_53:szOf Tryz.prog 53 = some 59:=by kernel_rfl
theorem zr_53:zrOf Tryz.prog 53 = some (.agg ([Value.int .i64 ((0:Nat):Int)]++(vec .u64 9 (fun _=>0)++(vec .u64 9 (fun _=>0)++(vec .u64 9 (fun _=>0)++(vec .u64 9 (fun _=>0)++(vec .u64 9 (fun _=>0)++(vec .u64 9 (fun _=>0)++([Value.bool false,Value.int .i64 ((0:Nat):Int),Value.int .i64 ((0:Nat):Int),Value.bool false])))))))).toArray):=by kernel_rfl
theorem sz_70:szOf Tryz.prog 70 = some 1:=by kernel_rfl
theorem pl_79:plc Tryz.prog 79 = some [(0,1),(1,1),(2,1),(3,1)]:=by kernel_rfl
theorem zr_79:zrOf Tryz.prog 79 = some (.agg ([Value.int .i64 ((0:Nat):Int),Value.string ⟨#[]⟩,Value.string ⟨#[]⟩,Value.int .i64 ((0:Nat):Int)]).toArray):=by kernel_rfl
theorem sz_81:szOf Tryz.prog 81 = some 1:=by kernel_rfl
theorem sz_88:szOf Tryz.prog 88 = some 1:=by kernel_rfl
theorem sz_90:szOf Tryz.prog 90 = some 2:=by kernel_rfl
theorem pl_90:plc Tryz.prog 90 = some [(0,1),(1,1)]:=by kernel_rfl
theorem zr_90:zrOf Tryz.prog 90 = some (.agg ([Value.pointer none,Value.pointer none]).toArray):=by kernel_rfl
theorem sz_98:szOf Tryz.prog 98 = some 1:=by kernel_rfl
theorem pl_100:plc Tryz.prog 100 = some [(0,59),(59,1),(60,9)]:=by kernel_rfl
theorem zr_100:zrOf Tryz.prog 100 = some (.agg ([Value.int .i64 ((0:Nat):Int)]++(vec .u64 9 (fun _=>0)++(vec .u64 9 (fun _=>0)++(vec .u64 9 (fun _=>0)++(vec .u64 9 (fun _=>0)++(vec .u64 9 (fun _=>0)++(vec .u64 9 (fun _=>0)++([Value.bool false,Value.int .i64 ((0:Nat):Int),Value.int .i64 ((0:Nat):Int),Value.bool false,Value.pointer none]++(vec .u64 9 (fun _=>0)))))))))).toArray):=by kernel_rfl
theorem pl_132:plc Tryz.prog 132 = some [(0,1)]:=by kernel_rfl
theorem zr_132:zrOf Tryz.prog 132 = some (.agg ([Value.pointer none]).toArray):=by kernel_rfl
theorem KAJ:szOf Tryz.prog 135 = some 27:=by kernel_rfl
theorem pl_135:plc Tryz.prog 135 = some [(0,9),(9,9),(18,9)]:=by kernel_rfl
theorem zr_135:zrOf Tryz.prog 135 = some (.agg (vec .u64 9 (fun _=>0)++(vec .u64 9 (fun _=>0)++(vec .u64 9 (fun _=>0)))).toArray):=by kernel_rfl
theorem sz_140:szOf Tryz.prog 140 = some 3:=by kernel_rfl
theorem pl_140:plc Tryz.prog 140 = some [(0,1),(1,1),(2,1)]:=by kernel_rfl
theorem zr_140:zrOf Tryz.prog 140 = some (.agg ([Value.int .i64 ((0:Nat):Int),Value.int .i64 ((0:Nat):Int),Value.int .i64 ((0:Nat):Int)]).toArray):=by kernel_rfl
theorem sz_159:szOf Tryz.prog 159 = some 5:=by kernel_rfl
theorem pl_159:plc Tryz.prog 159 = some [(0,1),(1,1),(2,1),(3,1),(4,1)]:=by kernel_rfl
theorem zr_159:zrOf Tryz.prog 159 = some (.agg ([Value.string ⟨#[]⟩,Value.string ⟨#[]⟩,Value.string ⟨#[]⟩,Value.string ⟨#[]⟩,Value.string ⟨#[]⟩]).toArray):=by kernel_rfl
theorem sz_161:szOf Tryz.prog 161 = some 1:=by kernel_rfl
theorem sz_163:szOf Tryz.prog 163 = some 1:=by kernel_rfl
theorem pl_163:plc Tryz.prog 163 = some [(0,1)]:=by kernel_rfl
theorem zr_163:zrOf Tryz.prog 163 = some (.agg ([Value.pointer none]).toArray):=by kernel_rfl
theorem pl_165:plc Tryz.prog 165 = some [(0,9),(9,1)]:=by kernel_rfl
theorem zr_165:zrOf Tryz.prog 165 = some (.agg (vec .u64 9 (fun _=>0)++([Value.pointer none])).toArray):=by kernel_rfl
theorem sz_183:szOf Tryz.prog 183 = some 108:=by kernel_rfl
theorem pl_183:plc Tryz.prog 183 = some ((List.range 4).map fun i=>(i*27,27)):=by kernel_rfl
theorem zr_183:zrOf Tryz.prog 183 = some (.agg (vec .u64 9 (fun _=>0)++(vec .u64 9 (fun _=>0)++(vec .u64 9 (fun _=>0)++(vec .u64 9 (fun _=>0)++(vec .u64 9 (fun _=>0)++(vec .u64 9 (fun _=>0)++(vec .u64 9 (fun _=>0)++(vec .u64 9 (fun _=>0)++(vec .u64 9 (fun _=>0)++(vec .u64 9 (fun _=>0)++(vec .u64 9 (fun _=>0)++(vec .u64 9 (fun _=>0))))))))))))).toArray):=by kernel_rfl
theorem KAe:szOf Tryz.prog 188 = some 1:=by kernel_rfl
theorem pl_201:plc Tryz.prog 201 = some [(0,9),(9,1),(10,1),(11,9)]:=by kernel_rfl
theorem zr_201:zrOf Tryz.prog 201 = some (.agg (vec .u64 9 (fun _=>0)++([Value.int .i64 ((0:Nat):Int),Value.int .u64 ((0:Nat):Int)]++(vec .u64 9 (fun _=>0)))).toArray):=by kernel_rfl
theorem sz_202:szOf Tryz.prog 202 = some 18:=by kernel_rfl
theorem sz_204:szOf Tryz.prog 204 = some 18:=by kernel_rfl
theorem zr_204:zrOf Tryz.prog 204 = some (.agg (vec .u64 18 (fun _=>0)).toArray):=by kernel_rfl
theorem sz_207:szOf Tryz.prog 207 = some 1:=by kernel_rfl
theorem sz_218:szOf Tryz.prog 218 = some 1:=by kernel_rfl
theorem pl_220:plc Tryz.prog 220 = some [(0,1)]:=by kernel_rfl
theorem zr_220:zrOf Tryz.prog 220 = some (.agg ([Value.slice none 0 0]).toArray):=by kernel_rfl
theorem sz_222:szOf Tryz.prog 222 = some 1:=by kernel_rfl
theorem sz_251:szOf Tryz.prog 251 = some 1:=by kernel_rfl
theorem sz_252:szOf Tryz.prog 252 = some 1:=by kernel_rfl
theorem pl_254:plc Tryz.prog 254 = some [(0,1),(1,1)]:=by kernel_rfl
theorem zr_254:zrOf Tryz.prog 254 = some (.agg ([Value.nilFunc,Value.nilFunc]).toArray):=by kernel_rfl
theorem pl_269:plc Tryz.prog 269 = some [(0,9),(9,1),(10,1)]:=by kernel_rfl
theorem zr_269:zrOf Tryz.prog 269 = some (.agg (vec .u64 9 (fun _=>0)++([Value.int .i64 ((0:Nat):Int),Value.int .i64 ((0:Nat):Int)])).toArray):=by kernel_rfl
theorem zr_270:zrOf Tryz.prog 270 = some (.agg (vec .u64 19 (fun _=>0)).toArray):=by kernel_rfl
theorem zr_279:zrOf Tryz.prog 279 = some (.agg (vec .u64 11 (fun _=>0)).toArray):=by kernel_rfl
theorem pl_295:plc Tryz.prog 295 = some [(0,1),(1,1),(2,1)]:=by kernel_rfl
theorem zr_295:zrOf Tryz.prog 295 = some (.agg ([Value.int .i64 ((0:Nat):Int),Value.string ⟨#[]⟩,Value.pointer none]).toArray):=by kernel_rfl
theorem sz_296:szOf Tryz.prog 296 = some 8:=by kernel_rfl
theorem pl_296:plc Tryz.prog 296 = some ((List.range 8).map fun i=>(i*1,1)):=by kernel_rfl
theorem zr_296:zrOf Tryz.prog 296 = some (.agg (vec .u32 8 (fun _=>0)).toArray):=by kernel_rfl
theorem sz_299:szOf Tryz.prog 299 = some 64:=by kernel_rfl
theorem pl_299:plc Tryz.prog 299 = some ((List.range 64).map fun i=>(i*1,1)):=by kernel_rfl
theorem zr_299:zrOf Tryz.prog 299 = some (.agg (vec .u32 64 (fun _=>0)).toArray):=by kernel_rfl
theorem sz_302:szOf Tryz.prog 302 = some 75:=by kernel_rfl
theorem pl_302:plc Tryz.prog 302 = some [(0,1),(1,8),(9,64),(73,1),(74,1)]:=by kernel_rfl
theorem zr_302:zrOf Tryz.prog 302 = some (.agg ([Value.int .i64 ((0:Nat):Int)]++(vec .u32 8 (fun _=>0)++(vec .u32 64 (fun _=>0)++([Value.slice none 0 0,Value.int .u64 ((0:Nat):Int)])))).toArray):=by kernel_rfl
theorem sz_305:szOf Tryz.prog 305 = some 8:=by kernel_rfl
theorem pl_305:plc Tryz.prog 305 = some ((List.range 8).map fun i=>(i*1,1)):=by kernel_rfl
theorem zr_305:zrOf Tryz.prog 305 = some (.agg (vec .u64 8 (fun _=>0)).toArray):=by kernel_rfl
theorem sz_308:szOf Tryz.prog 308 = some 80:=by kernel_rfl
theorem pl_308:plc Tryz.prog 308 = some ((List.range 80).map fun i=>(i*1,1)):=by kernel_rfl
theorem zr_308:zrOf Tryz.prog 308 = some (.agg (vec .u64 80 (fun _=>0)).toArray):=by kernel_rfl
theorem sz_311:szOf Tryz.prog 311 = some 91:=by kernel_rfl
theorem pl_311:plc Tryz.prog 311 = some [(0,1),(1,8),(9,80),(89,1),(90,1)]:=by kernel_rfl
theorem zr_311:zrOf Tryz.prog 311 = some (.agg ([Value.int .i64 ((0:Nat):Int)]++(vec .u64 8 (fun _=>0)++(vec .u64 80 (fun _=>0)++([Value.slice none 0 0,Value.int .u64 ((0:Nat):Int)])))).toArray):=by kernel_rfl
theorem pl_313:plc Tryz.prog 313 = some [(0,1),(1,1)]:=by kernel_rfl
theorem zr_313:zrOf Tryz.prog 313 = some (.agg ([Value.int .i64 ((0:Nat):Int),Value.int .i64 ((0:Nat):Int)]).toArray):=by kernel_rfl
theorem pl_317:plc Tryz.prog 317 = some [(0,1)]:=by kernel_rfl
theorem zr_317:zrOf Tryz.prog 317 = some (.agg ([Value.int .u64 ((0:Nat):Int)]).toArray):=by kernel_rfl
theorem en_9:Kf Tryz.prog 9:=⟨_,Tryz.func9,by kernel_rfl,by kernel_rfl⟩
theorem en_11:Kf Tryz.prog 11:=⟨_,Tryz.func11,by kernel_rfl,by kernel_rfl⟩
theorem en_13:Kf Tryz.prog 13:=⟨_,Tryz.func13,by kernel_rfl,by kernel_rfl⟩
theorem en_15:Kf Tryz.prog 15:=⟨_,Tryz.func15,by kernel_rfl,by kernel_rfl⟩
theorem en_21:Kf Tryz.prog 21:=⟨_,Tryz.func21,by kernel_rfl,by kernel_rfl⟩
theorem en_22:Kf Tryz.prog 22:=⟨_,Tryz.func22,by kernel_rfl,by kernel_rfl⟩
theorem en_23:Kf Tryz.prog 23:=⟨_,Tryz.func23,by kernel_rfl,by kernel_rfl⟩
theorem en_24:Kf Tryz.prog 24:=⟨_,Tryz.func24,by kernel_rfl,by kernel_rfl⟩
theorem en_25:Kf Tryz.prog 25:=⟨_,Tryz.func25,by kernel_rfl,by kernel_rfl⟩
theorem en_26:Kf Tryz.prog 26:=⟨_,Tryz.func26,by kernel_rfl,by kernel_rfl⟩
theorem en_29:Kf Tryz.prog 29:=⟨_,Tryz.func29,by kernel_rfl,by kernel_rfl⟩
theorem en_30:Kf Tryz.prog 30:=⟨_,Tryz.func30,by kernel_rfl,by kernel_rfl⟩
theorem en_31:Kf Tryz.prog 31:=⟨_,Tryz.func31,by kernel_rfl,by kernel_rfl⟩
theorem en_32:Kf Tryz.prog 32:=⟨_,Tryz.func32,by kernel_rfl,by kernel_rfl⟩
theorem en_33:Kf Tryz.prog 33:=⟨_,Tryz.func33,by kernel_rfl,by kernel_rfl⟩
theorem en_34:Kf Tryz.prog 34:=⟨_,Tryz.func34,by kernel_rfl,by kernel_rfl⟩
theorem en_35:Kf Tryz.prog 35:=⟨_,Tryz.func35,by kernel_rfl,by kernel_rfl⟩
theorem en_36:Kf Tryz.prog 36:=⟨_,Tryz.func36,by kernel_rfl,by kernel_rfl⟩
theorem en_37:Kf Tryz.prog 37:=⟨_,Tryz.func37,by kernel_rfl,by kernel_rfl⟩
theorem en_38:Kf Tryz.prog 38:=⟨_,Tryz.func38,by kernel_rfl,by kernel_rfl⟩
theorem en_39:Kf Tryz.prog 39:=⟨_,Tryz.func39,by kernel_rfl,by kernel_rfl⟩
theorem en_40:Kf Tryz.prog 40:=⟨_,Tryz.func40,by kernel_rfl,by kernel_rfl⟩
theorem en_41:Kf Tryz.prog 41:=⟨_,Tryz.func41,by kernel_rfl,by kernel_rfl⟩
theorem en_42:Kf Tryz.prog 42:=⟨_,Tryz.func42,by kernel_rfl,by kernel_rfl⟩
theorem en_43:Kf Tryz.prog 43:=⟨_,Tryz.func43,by kernel_rfl,by kernel_rfl⟩
theorem en_44:Kf Tryz.prog 44:=⟨_,Tryz.func44,by kernel_rfl,by kernel_rfl⟩
theorem en_45:Kf Tryz.prog 45:=⟨_,Tryz.func45,by kernel_rfl,by kernel_rfl⟩
theorem en_46:Kf Tryz.prog 46:=⟨_,Tryz.func46,by kernel_rfl,by kernel_rfl⟩
theorem en_47:Kf Tryz.prog 47:=⟨_,Tryz.func47,by kernel_rfl,by kernel_rfl⟩
theorem en_48:Kf Tryz.prog 48:=⟨_,Tryz.func48,by kernel_rfl,by kernel_rfl⟩
theorem en_49:Kf Tryz.prog 49:=⟨_,Tryz.func49,by kernel_rfl,by kernel_rfl⟩
theorem en_54:Kf Tryz.prog 54:=⟨_,Tryz.func54,by kernel_rfl,by kernel_rfl⟩
theorem en_55:Kf Tryz.prog 55:=⟨_,Tryz.func55,by kernel_rfl,by kernel_rfl⟩
theorem en_56:Kf Tryz.prog 56:=⟨_,Tryz.func56,by kernel_rfl,by kernel_rfl⟩
theorem en_57:Kf Tryz.prog 57:=⟨_,Tryz.func57,by kernel_rfl,by kernel_rfl⟩
theorem en_58:Kf Tryz.prog 58:=⟨_,Tryz.func58,by kernel_rfl,by kernel_rfl⟩
theorem en_62:Kf Tryz.prog 62:=⟨_,Tryz.func62,by kernel_rfl,by kernel_rfl⟩
theorem en_63:Kf Tryz.prog 63:=⟨_,Tryz.func63,by kernel_rfl,by kernel_rfl⟩
theorem en_64:Kf Tryz.prog 64:=⟨_,Tryz.func64,by kernel_rfl,by kernel_rfl⟩
theorem en_65:Kf Tryz.prog 65:=⟨_,Tryz.func65,by kernel_rfl,by kernel_rfl⟩
theorem en_66:Kf Tryz.prog 66:=⟨_,Tryz.func66,by kernel_rfl,by kernel_rfl⟩
theorem en_67:Kf Tryz.prog 67:=⟨_,Tryz.func67,by kernel_rfl,by kernel_rfl⟩
theorem en_68:Kf Tryz.prog 68:=⟨_,Tryz.func68,by kernel_rfl,by kernel_rfl⟩
theorem en_75:Kf Tryz.prog 75:=⟨_,Tryz.func75,by kernel_rfl,by kernel_rfl⟩
theorem en_76:Kf Tryz.prog 76:=⟨_,Tryz.func76,by kernel_rfl,by kernel_rfl⟩
theorem en_77:Kf Tryz.prog 77:=⟨_,Tryz.func77,by kernel_rfl,by kernel_rfl⟩
theorem en_78:Kf Tryz.prog 78:=⟨_,Tryz.func78,by kernel_rfl,by kernel_rfl⟩
theorem en_79:Kf Tryz.prog 79:=⟨_,Tryz.func79,by kernel_rfl,by kernel_rfl⟩
theorem en_80:Kf Tryz.prog 80:=⟨_,Tryz.func80,by kernel_rfl,by kernel_rfl⟩
theorem en_81:Kf Tryz.prog 81:=⟨_,Tryz.func81,by kernel_rfl,by kernel_rfl⟩
theorem en_82:Kf Tryz.prog 82:=⟨_,Tryz.func82,by kernel_rfl,by kernel_rfl⟩
theorem en_83:Kf Tryz.prog 83:=⟨_,Tryz.func83,by kernel_rfl,by kernel_rfl⟩
theorem en_84:Kf Tryz.prog 84:=⟨_,Tryz.func84,by kernel_rfl,by kernel_rfl⟩
theorem en_85:Kf Tryz.prog 85:=⟨_,Tryz.func85,by kernel_rfl,by kernel_rfl⟩
theorem en_86:Kf Tryz.prog 86:=⟨_,Tryz.func86,by kernel_rfl,by kernel_rfl⟩
theorem en_87:Kf Tryz.prog 87:=⟨_,Tryz.func87,by kernel_rfl,by kernel_rfl⟩
theorem en_88:Kf Tryz.prog 88:=⟨_,Tryz.func88,by kernel_rfl,by kernel_rfl⟩
theorem en_89:Kf Tryz.prog 89:=⟨_,Tryz.func89,by kernel_rfl,by kernel_rfl⟩
theorem en_90:Kf Tryz.prog 90:=⟨_,Tryz.func90,by kernel_rfl,by kernel_rfl⟩
theorem en_91:Kf Tryz.prog 91:=⟨_,Tryz.func91,by kernel_rfl,by kernel_rfl⟩
theorem en_92:Kf Tryz.prog 92:=⟨_,Tryz.func92,by kernel_rfl,by kernel_rfl⟩
theorem en_93:Kf Tryz.prog 93:=⟨_,Tryz.func93,by kernel_rfl,by kernel_rfl⟩
theorem en_96:Kf Tryz.prog 96:=⟨_,Tryz.func96,by kernel_rfl,by kernel_rfl⟩
theorem en_97:Kf Tryz.prog 97:=⟨_,Tryz.func97,by kernel_rfl,by kernel_rfl⟩
theorem en_98:Kf Tryz.prog 98:=⟨_,Tryz.func98,by kernel_rfl,by kernel_rfl⟩
theorem en_99:Kf Tryz.prog 99:=⟨_,Tryz.func99,by kernel_rfl,by kernel_rfl⟩
theorem en_100:Kf Tryz.prog 100:=⟨_,Tryz.func100,by kernel_rfl,by kernel_rfl⟩
theorem en_119:Kf Tryz.prog 119:=⟨_,Tryz.func119,by kernel_rfl,by kernel_rfl⟩
theorem en_120:Kf Tryz.prog 120:=⟨_,Tryz.func120,by kernel_rfl,by kernel_rfl⟩
theorem en_121:Kf Tryz.prog 121:=⟨_,Tryz.func121,by kernel_rfl,by kernel_rfl⟩
theorem en_123:Kf Tryz.prog 123:=⟨_,Tryz.func123,by kernel_rfl,by kernel_rfl⟩
theorem en_127:Kf Tryz.prog 127:=⟨_,Tryz.func127,by kernel_rfl,by kernel_rfl⟩
theorem en_128:Kf Tryz.prog 128:=⟨_,Tryz.func128,by kernel_rfl,by kernel_rfl⟩
theorem en_129:Kf Tryz.prog 129:=⟨_,Tryz.func129,by kernel_rfl,by kernel_rfl⟩
theorem ex_130:Extern1 Tryz.prog 130 sub64Entry:=⟨_,Tryz.func130,by kernel_rfl,by kernel_rfl,by kernel_rfl,by kernel_rfl⟩
theorem en_131:Kf Tryz.prog 131:=⟨_,Tryz.func131,by kernel_rfl,by kernel_rfl⟩
theorem en_132:Kf Tryz.prog 132:=⟨_,Tryz.func132,by kernel_rfl,by kernel_rfl⟩
theorem en_133:Kf Tryz.prog 133:=⟨_,Tryz.func133,by kernel_rfl,by kernel_rfl⟩
theorem en_134:Kf Tryz.prog 134:=⟨_,Tryz.func134,by kernel_rfl,by kernel_rfl⟩
theorem en_135:Kf Tryz.prog 135:=⟨_,Tryz.func135,by kernel_rfl,by kernel_rfl⟩
theorem en_136:Kf Tryz.prog 136:=⟨_,Tryz.func136,by kernel_rfl,by kernel_rfl⟩
theorem en_137:Kf Tryz.prog 137:=⟨_,Tryz.func137,by kernel_rfl,by kernel_rfl⟩
theorem en_138:Kf Tryz.prog 138:=⟨_,Tryz.func138,by kernel_rfl,by kernel_rfl⟩
theorem en_139:Kf Tryz.prog 139:=⟨_,Tryz.func139,by kernel_rfl,by kernel_rfl⟩
theorem en_140:Kf Tryz.prog 140:=⟨_,Tryz.func140,by kernel_rfl,by kernel_rfl⟩
theorem en_141:Kf Tryz.prog 141:=⟨_,Tryz.func141,by kernel_rfl,by kernel_rfl⟩
theorem en_142:Kf Tryz.prog 142:=⟨_,Tryz.func142,by kernel_rfl,by kernel_rfl⟩
theorem en_143:Kf Tryz.prog 143:=⟨_,Tryz.func143,by kernel_rfl,by kernel_rfl⟩
theorem en_144:Kf Tryz.prog 144:=⟨_,Tryz.func144,by kernel_rfl,by kernel_rfl⟩
theorem ex_145:Extern1 Tryz.prog 145 add64Entry:=⟨_,Tryz.func145,by kernel_rfl,by kernel_rfl,by kernel_rfl,by kernel_rfl⟩
theorem en_146:Kf Tryz.prog 146:=⟨_,Tryz.func146,by kernel_rfl,by kernel_rfl⟩
theorem en_159:Kf Tryz.prog 159:=⟨_,Tryz.func159,by kernel_rfl,by kernel_rfl⟩
theorem en_160:Kf Tryz.prog 160:=⟨_,Tryz.func160,by kernel_rfl,by kernel_rfl⟩
theorem en_161:Kf Tryz.prog 161:=⟨_,Tryz.func161,by kernel_rfl,by kernel_rfl⟩
theorem en_162:Kf Tryz.prog 162:=⟨_,Tryz.func162,by kernel_rfl,by kernel_rfl⟩
theorem en_165:Kf Tryz.prog 165:=⟨_,Tryz.func165,by kernel_rfl,by kernel_rfl⟩
theorem en_166:Kf Tryz.prog 166:=⟨_,Tryz.func166,by kernel_rfl,by kernel_rfl⟩
theorem en_167:Kf Tryz.prog 167:=⟨_,Tryz.func167,by kernel_rfl,by kernel_rfl⟩
theorem en_168:Kf Tryz.prog 168:=⟨_,Tryz.func168,by kernel_rfl,by kernel_rfl⟩
theorem en_169:Kf Tryz.prog 169:=⟨_,Tryz.func169,by kernel_rfl,by kernel_rfl⟩
theorem en_170:Kf Tryz.prog 170:=⟨_,Tryz.func170,by kernel_rfl,by kernel_rfl⟩
theorem en_171:Kf Tryz.prog 171:=⟨_,Tryz.func171,by kernel_rfl,by kernel_rfl⟩
theorem en_172:Kf Tryz.prog 172:=⟨_,Tryz.func172,by kernel_rfl,by kernel_rfl⟩
theorem en_173:Kf Tryz.prog 173:=⟨_,Tryz.func173,by kernel_rfl,by kernel_rfl⟩
theorem en_174:Kf Tryz.prog 174:=⟨_,Tryz.func174,by kernel_rfl,by kernel_rfl⟩
theorem en_175:Kf Tryz.prog 175:=⟨_,Tryz.func175,by kernel_rfl,by kernel_rfl⟩
theorem en_176:Kf Tryz.prog 176:=⟨_,Tryz.func176,by kernel_rfl,by kernel_rfl⟩
theorem en_177:Kf Tryz.prog 177:=⟨_,Tryz.func177,by kernel_rfl,by kernel_rfl⟩
theorem en_178:Kf Tryz.prog 178:=⟨_,Tryz.func178,by kernel_rfl,by kernel_rfl⟩
theorem en_179:Kf Tryz.prog 179:=⟨_,Tryz.func179,by kernel_rfl,by kernel_rfl⟩
theorem en_180:Kf Tryz.prog 180:=⟨_,Tryz.func180,by kernel_rfl,by kernel_rfl⟩
theorem en_181:Kf Tryz.prog 181:=⟨_,Tryz.func181,by kernel_rfl,by kernel_rfl⟩
theorem en_182:Kf Tryz.prog 182:=⟨_,Tryz.func182,by kernel_rfl,by kernel_rfl⟩
theorem en_183:Kf Tryz.prog 183:=⟨_,Tryz.func183,by kernel_rfl,by kernel_rfl⟩
theorem en_184:Kf Tryz.prog 184:=⟨_,Tryz.func184,by kernel_rfl,by kernel_rfl⟩
theorem en_185:Kf Tryz.prog 185:=⟨_,Tryz.func185,by kernel_rfl,by kernel_rfl⟩
theorem en_186:Kf Tryz.prog 186:=⟨_,Tryz.func186,by kernel_rfl,by kernel_rfl⟩
theorem en_192:Kf Tryz.prog 192:=⟨_,Tryz.func192,by kernel_rfl,by kernel_rfl⟩
theorem en_193:Kf Tryz.prog 193:=⟨_,Tryz.func193,by kernel_rfl,by kernel_rfl⟩
theorem en_194:Kf Tryz.prog 194:=⟨_,Tryz.func194,by kernel_rfl,by kernel_rfl⟩
theorem en_195:Kf Tryz.prog 195:=⟨_,Tryz.func195,by kernel_rfl,by kernel_rfl⟩
theorem en_196:Kf Tryz.prog 196:=⟨_,Tryz.func196,by kernel_rfl,by kernel_rfl⟩
theorem en_197:Kf Tryz.prog 197:=⟨_,Tryz.func197,by kernel_rfl,by kernel_rfl⟩
theorem en_198:Kf Tryz.prog 198:=⟨_,Tryz.func198,by kernel_rfl,by kernel_rfl⟩
theorem en_199:Kf Tryz.prog 199:=⟨_,Tryz.func199,by kernel_rfl,by kernel_rfl⟩
theorem en_200:Kf Tryz.prog 200:=⟨_,Tryz.func200,by kernel_rfl,by kernel_rfl⟩
theorem en_201:Kf Tryz.prog 201:=⟨_,Tryz.func201,by kernel_rfl,by kernel_rfl⟩
theorem en_202:Kf Tryz.prog 202:=⟨_,Tryz.func202,by kernel_rfl,by kernel_rfl⟩
theorem en_203:Kf Tryz.prog 203:=⟨_,Tryz.func203,by kernel_rfl,by kernel_rfl⟩
theorem en_204:Kf Tryz.prog 204:=⟨_,Tryz.func204,by kernel_rfl,by kernel_rfl⟩
theorem en_205:Kf Tryz.prog 205:=⟨_,Tryz.func205,by kernel_rfl,by kernel_rfl⟩
theorem en_206:Kf Tryz.prog 206:=⟨_,Tryz.func206,by kernel_rfl,by kernel_rfl⟩
theorem en_207:Kf Tryz.prog 207:=⟨_,Tryz.func207,by kernel_rfl,by kernel_rfl⟩
theorem en_208:Kf Tryz.prog 208:=⟨_,Tryz.func208,by kernel_rfl,by kernel_rfl⟩
theorem en_209:Kf Tryz.prog 209:=⟨_,Tryz.func209,by kernel_rfl,by kernel_rfl⟩
theorem en_220:Kf Tryz.prog 220:=⟨_,Tryz.func220,by kernel_rfl,by kernel_rfl⟩
theorem en_221:Kf Tryz.prog 221:=⟨_,Tryz.func221,by kernel_rfl,by kernel_rfl⟩
theorem en_222:Kf Tryz.prog 222:=⟨_,Tryz.func222,by kernel_rfl,by kernel_rfl⟩
theorem en_223:Kf Tryz.prog 223:=⟨_,Tryz.func223,by kernel_rfl,by kernel_rfl⟩
theorem en_224:Kf Tryz.prog 224:=⟨_,Tryz.func224,by kernel_rfl,by kernel_rfl⟩
theorem en_232:Kf Tryz.prog 232:=⟨_,Tryz.func232,by kernel_rfl,by kernel_rfl⟩
theorem en_233:Kf Tryz.prog 233:=⟨_,Tryz.func233,by kernel_rfl,by kernel_rfl⟩
end Go.Proofs.YtnpeokiboiclfaaGreat
set_option linter.unusedVariables false
set_option linter.unusedSimpArgs false
set_option maxRecDepth 20000
namespace Go.Proofs.YtnpeokiboiclfaaGreat
open Go Go.RowKit
abbrev u3:=@Tryz.underlying3
abbrev u4:=@Tryz.underlying4
abbrev u5:=@Tryz.underlying5
abbrev u9:=@Tryz.underlying9
abbrev u24:=@Tryz.underlying24
abbrev u30:=@Tryz.underlying30
abbrev u31:=@Tryz.underlying31
abbrev u33:=@Tryz.underlying33
abbrev u37:=@Tryz.underlying37
abbrev u47:=@Tryz.underlying47
abbrev u53:=@Tryz.underlying53
abbrev u56:=@Tryz.underlying56
abbrev u70:=@Tryz.underlying70
abbrev u76:=@Tryz.underlying76
abbrev u79:=@Tryz.underlying79
abbrev u81:=@Tryz.underlying81
abbrev u86:=@Tryz.underlying86
abbrev u88:=@Tryz.underlying88
abbrev u90:=@Tryz.underlying90
abbrev u98:=@Tryz.underlying98
abbrev u100:=@Tryz.underlying100
abbrev u132:=@Tryz.underlying132
abbrev u135:=@Tryz.underlying135
abbrev u140:=@Tryz.underlying140
abbrev u143:=@Tryz.underlying143
abbrev u159:=@Tryz.underlying159
abbrev u161:=@Tryz.underlying161
abbrev u163:=@Tryz.underlying163
abbrev u165:=@Tryz.underlying165
abbrev u177:=@Tryz.underlying177
abbrev u183:=@Tryz.underlying183
abbrev u188:=@Tryz.underlying188
abbrev u201:=@Tryz.underlying201
abbrev u202:=@Tryz.underlying202
abbrev u204:=@Tryz.underlying204
abbrev u205:=@Tryz.underlying205
abbrev u207:=@Tryz.underlying207
abbrev u218:=@Tryz.underlying218
abbrev u220:=@Tryz.underlying220
abbrev u222:=@Tryz.underlying222
abbrev u224:=@Tryz.underlying224
abbrev u246:=@Tryz.underlying246
abbrev u251:=@Tryz.underlying251
abbrev u252:=@Tryz.underlying252
abbrev u254:=@Tryz.underlying254
abbrev u255:=@Tryz.underlying255
abbrev u260:=@Tryz.underlying260
abbrev u261:=@Tryz.underlying261
abbrev u262:=@Tryz.underlying262
abbrev u266:=@Tryz.underlying266
abbrev u267:=@Tryz.underlying267
abbrev u269:=@Tryz.underlying269
abbrev u270:=@Tryz.underlying270
abbrev u278:=@Tryz.underlying278
abbrev u279:=@Tryz.underlying279
abbrev u295:=@Tryz.underlying295
abbrev u296:=@Tryz.underlying296
abbrev u299:=@Tryz.underlying299
abbrev u302:=@Tryz.underlying302
abbrev u305:=@Tryz.underlying305
abbrev u308:=@Tryz.underlying308
abbrev u311:=@Tryz.underlying311
abbrev u317:=@Tryz.underlying317
theorem dNa {C:Ctx} {t:TypeId} {x:Operand} {ty:TypeId} {pos:String} {aft:Array Edge} {g:Option (Nat×Bool)} {v:Value} {T:List (Nat×Value)} {H:List Item} {b o:Nat} {B:Blk} {dd:Option Tmp} (hx:evT T x = some (.pointer (some ⟨b,o,none⟩)):=by exact rfl) (hm:Item.blk b B∈H:=by repeat (first|exact List.Mem.head _|apply List.Mem.tail)) (hv:LoadV Tryz.prog t B o v:=by exact KD Tryz.underlying33 rfl sz_33):Det Tryz.prog C ⟨dd,.load t x,ty,pos,aft,g⟩ ⟨T,H⟩ v:=Det.load hx hm hv
theorem dNb {C:Ctx} {t:TypeId} {x:Operand} {ty:TypeId} {pos:String} {aft:Array Edge} {g:Option (Nat×Bool)} {v:Value} {T:List (Nat×Value)} {H:List Item} {b o:Nat} {B:Blk} {dd:Option Tmp} (hx:evT T x = some (.pointer (some ⟨b,o,none⟩)):=by exact rfl) (hm:Item.blk b B∈H:=by repeat (first|exact List.Mem.head _|apply List.Mem.tail)) (hv:LoadV Tryz.prog t B o v:=by exact KD Tryz.underlying47 rfl sz_47):Det Tryz.prog C ⟨dd,.load t x,ty,pos,aft,g⟩ ⟨T,H⟩ v:=Det.load hx hm hv
theorem c_nat_Add (A B:Nat) (hA:A<W9) (hB:B<W9) (w:World)  : Calls Tryz.prog 91 ([natV A,natV B]:List Value).toArray w (fun e w'=>e = .returned (.tuple #[natV ((A+B)%W9),.bool (decide (W9≤A+B))])∧Below w.heap.size w w'):=by
  refine KX (N:=31) (rs:=[.cell 4 33,.tmp 5]) [] Tryz.func91 rfl Tryz.ntmps91 Tryz.results91 (Nb rfl) trivial rfl ?_
  refine KB (KA ?_);refine oS (mB (fun b2=>?_));refine oS (mB (fun b3=>?_));refine oS (mk (KL zr_33) (fun b4=>?_));refine oA (KC (KB (KA ?_)));refine oP (KO (v:=.int .u64 ((0:Nat):Int)) rfl) ?_;refine KC (KB (KB (KA ?_)));refine oP (Ki (v:=.int .i64 ((0:Nat):Int)) rfl) ?_;refine KC (LCode.block ?_);refine Ke (α:=Nat) (fun x=>x≤9) (fun x=>⟨[(2,.pointer (some ⟨b2,0,none⟩)),(3,.pointer (some ⟨b3,0,none⟩)),(4,.pointer (some ⟨b4,0,none⟩)),(6,.int .u64 ((carry A B x:Nat):Int)),(8,.int .i64 ((x:Nat):Int))],[.blk b4 ⟨true,vec .u64 9 (fun _=>0),33,(0,0)⟩,.blk b3 ⟨true,natL B,33,(0,0)⟩,.blk b2 ⟨true,vec .u64 9 (fun j=>if j<x then limb (A+B) j else limb A j),33,(0,0)⟩]⟩) (fun x=>9-x) (0) om (Ka ⟨rfl,rfl,rfl,by rw [carry_zero]; rfl,rfl,trivial⟩ mS) ?_
  intro x hx
  have hc:=carry_le A B x
  have ha:=add_limb A B x
  have hl:=limb_lt (A+B) x
  refine KB (KA ?_);refine oP (KF rfl rfl (KAF (b:=9))) ?_;refine KC (KB ?_)
  first|refine KR rfl (fun h9=>?_) (fun h9=>?_)|refine KS rfl (fun h9=>?_) (fun h9=>?_)
  ·
   have h9:x<9:=h9
   refine KN (KB (LCode.block (KB (KA (oM (oA (KC ?_)))))));refine rD [16] ?_;refine aM 0 ?_;refine aM 1 ?_;refine aP 2 rfl (KE (o':=0) u33 rfl rfl rfl sz_31 dc) ?_;refine aP 3 rfl (KP u31 sz_30 rfl rfl om) ?_;refine aD 4 rfl (dL rfl (hv:=KJ u30 rfl (by exact KU _ _ _ om))) ?_;refine aM 5 ?_;refine aP 6 rfl (KE (o':=0) u33 rfl rfl rfl sz_31 dc) ?_;refine aP 7 rfl (KP u31 sz_30 rfl rfl om) ?_;refine aD 8 rfl (dL rfl (hv:=KJ u30 rfl (by exact KY _ om))) ?_;refine aM 9 ?_;refine aP 10 rfl (Det.add64 ex_145 rfl rfl rfl om) ?_;refine aM 11 ?_;refine aP 12 rfl (Det.extract rfl rfl) ?_;refine aP 13 rfl (Det.extract rfl rfl) ?_;refine aP 14 rfl (KE (o':=0) u33 rfl rfl rfl sz_31 dc) ?_;refine aP 15 rfl (KP u31 sz_30 rfl rfl om) ?_;refine aL 16 rfl (KZ rfl rfl rfl sz_30 (by repeat (first|exact Sh _|apply St_)) (by first|(simp only [KQ,KI,Kh,Ks]; omega)|(simp; done)|(simp; omega)) (by first|exact KAG _ _ _ _ _|exact KAM _ _ _ _ om|exact KAL _ _ _ _|rfl) (by simp) ?_)
   refine aA 17 ?_;refine aE ?_;refine KA ?_;refine oP (KF rfl rfl (Ko (b:=1) om)) ?_;refine oM (KC ?_);refine ⟨x+1,by omega,by omega,KAC (Sub.cells (b:=b2) (cs':=vec .u64 9 (fun j=>if j<x+1 then limb (A+B) j else limb A j)) (by repeat (first|exact Sh _|apply St_)) ?_) (Ka ⟨rfl,rfl,rfl,congrArg (fun n:Nat=>some (Value.int .u64 (n:Int))) ?_,rfl,trivial⟩ mS)⟩
   · apply Kr
     intro j hj
     by_cases e:j = x
     · subst e
       simp
       omega
     · simp only [e,if_false]
       by_cases e2:j<x
       · rw [if_pos e2,if_pos om]
       · rw [if_neg e2,if_neg om]
   · simp
     omega
  have h9:¬ x<9:=h9
  refine Kc (KB (KA ?_));refine oD dNa ?_;refine oM ?_;refine oP (KF rfl rfl (Kz (b:=1))) ?_;refine LOps.step rfl (sA rfl rfl sz_33 mO (hl:=mL) (h:=?_));refine oA (KC (KM ?_))
  obtain rfl:x = 9:=by omega
  refine ⟨[_,_],.cons ⟨_,_,_,rfl,mM,by exact KD u33 rfl sz_33⟩ (.cons rfl .nil),fun a w' hr=>⟨?_,hr.fr.below⟩⟩
  rw [natV_mod]
  have h1:(vec IntKind.u64 9 fun j=>if j<9 then limb (A+B) j else limb A j) = natL (A+B):=Kr (fun i hi=>if_pos hi)
  have h2:decide (carry A B 9 = 1) = decide (W9≤A+B):=by
    rw [carry_nine A B 9 rfl hA hB]
    by_cases h:W9≤A+B <;> simp [h]
  show Ending.returned (.tuple #[.agg (vec IntKind.u64 9 fun j=>if j<9 then limb (A+B) j else limb A j).toArray,.bool (decide (carry A B 9 = 1))]) = _
  rw [h1,h2]
  rfl
theorem c_nat_Sub (A B:Nat) (hA:A<W9) (hB:B<W9) (w:World)  : Calls Tryz.prog 79 ([natV A,natV B]:List Value).toArray w (fun e w'=>e = .returned (.tuple #[natV (dif A B),.bool (decide (A<B))])∧Below w.heap.size w w'):=by
  refine KX (N:=31) (rs:=[.cell 4 33,.tmp 5]) [] Tryz.func79 rfl Tryz.ntmps79 Tryz.results79 (Nb rfl) trivial rfl ?_
  refine KB (KA ?_);refine oS (mB (fun b2=>?_));refine oS (mB (fun b3=>?_));refine oS (mk (KL zr_33) (fun b4=>?_));refine oA (KC (KB (KA ?_)));refine oP (KO (v:=.int .u64 ((0:Nat):Int)) rfl) ?_;refine KC (KB (KB (KA ?_)));refine oP (Ki (v:=.int .i64 ((0:Nat):Int)) rfl) ?_;refine KC (LCode.block ?_);refine Ke (α:=Nat) (fun x=>x≤9) (fun x=>⟨[(2,.pointer (some ⟨b2,0,none⟩)),(3,.pointer (some ⟨b3,0,none⟩)),(4,.pointer (some ⟨b4,0,none⟩)),(6,.int .u64 ((borrow A B x:Nat):Int)),(8,.int .i64 ((x:Nat):Int))],[.blk b4 ⟨true,vec .u64 9 (fun _=>0),33,(0,0)⟩,.blk b3 ⟨true,natL B,33,(0,0)⟩,.blk b2 ⟨true,vec .u64 9 (fun j=>if j<x then limb (dif A B) j else limb A j),33,(0,0)⟩]⟩) (fun x=>9-x) (0) om (Ka ⟨rfl,rfl,rfl,by rw [borrow_zero]; rfl,rfl,trivial⟩ mS) ?_
  intro x hx
  have hc:=borrow_le A B x
  refine KB (KA ?_);refine oP (KF rfl rfl (KAF (b:=9))) ?_;refine KC (KB ?_)
  first|refine KR rfl (fun h9=>?_) (fun h9=>?_)|refine KS rfl (fun h9=>?_) (fun h9=>?_)
  ·
   have h9:x<9:=h9
   have ha:=sub_limb A B x hA hB h9
   have hb:=borrow_succ A B x
   refine KN (KB (LCode.block (KB (KA (oM (oA (KC ?_)))))));refine rD [16] ?_;refine aM 0 ?_;refine aM 1 ?_;refine aP 2 rfl (KE (o':=0) u33 rfl rfl rfl sz_31 dc) ?_;refine aP 3 rfl (KP u31 sz_30 rfl rfl om) ?_;refine aD 4 rfl (dL rfl (hv:=KJ u30 rfl (by exact KU _ _ _ om))) ?_;refine aM 5 ?_;refine aP 6 rfl (KE (o':=0) u33 rfl rfl rfl sz_31 dc) ?_;refine aP 7 rfl (KP u31 sz_30 rfl rfl om) ?_;refine aD 8 rfl (dL rfl (hv:=KJ u30 rfl (by exact KY _ om))) ?_;refine aM 9 ?_;refine aP 10 rfl (Det.sub64 ex_130 rfl rfl rfl om) ?_;refine aM 11 ?_;refine aP 12 rfl (Det.extract rfl rfl) ?_;refine aP 13 rfl (Det.extract rfl rfl) ?_;refine aP 14 rfl (KE (o':=0) u33 rfl rfl rfl sz_31 dc) ?_;refine aP 15 rfl (KP u31 sz_30 rfl rfl om) ?_;refine aL 16 rfl (KZ rfl rfl rfl sz_30 (by repeat (first|exact Sh _|apply St_)) (by first|(simp only [KQ,KI,Kh,Ks]; omega)|(simp; done)|(simp; omega)) (by first|exact KAG _ _ _ _ _|exact KAM _ _ _ _ om|exact KAL _ _ _ _|rfl) (by simp) ?_)
   refine aA 17 ?_;refine aE ?_;refine KA ?_;refine oP (KF rfl rfl (Ko (b:=1) om)) ?_;refine oM (KC ?_);refine ⟨x+1,by omega,by omega,KAC (Sub.cells (b:=b2) (cs':=vec .u64 9 (fun j=>if j<x+1 then limb (dif A B) j else limb A j)) (by repeat (first|exact Sh _|apply St_)) ?_) (Ka ⟨rfl,rfl,rfl,congrArg (fun n:Nat=>some (Value.int .u64 (n:Int))) ?_,rfl,trivial⟩ mS)⟩
   · apply Kr
     intro j hj
     by_cases e:j = x
     · subst e
       simp
       omega
     · simp only [e,if_false]
       by_cases e2:j<x
       · rw [if_pos e2,if_pos om]
       · rw [if_neg e2,if_neg om]
   · simp
     omega
  have h9:¬ x<9:=h9
  refine Kc (KB (KA ?_));refine oD dNa ?_;refine oM ?_;refine oP (KF rfl rfl (Kz (b:=1))) ?_;refine LOps.step rfl (sA rfl rfl sz_33 mO (hl:=mL) (h:=?_));refine oA (KC (KM ?_))
  obtain rfl:x = 9:=by omega
  refine ⟨[_,_],.cons ⟨_,_,_,rfl,mM,by exact KD u33 rfl sz_33⟩ (.cons rfl .nil),fun a w' hr=>⟨?_,hr.fr.below⟩⟩
  have h1:(vec IntKind.u64 9 fun j=>if j<9 then limb (dif A B) j else limb A j) = natL (dif A B):=Kr (fun i hi=>if_pos hi)
  have h2:decide (borrow A B 9 = 1) = decide (A<B):=by
    rw [borrow_nine A B 9 rfl hA hB]
    by_cases h:A<B <;> simp [h]
  show Ending.returned (.tuple #[.agg (vec IntKind.u64 9 fun j=>if j<9 then limb (dif A B) j else limb A j).toArray,.bool (decide (borrow A B 9 = 1))]) = _
  rw [h1,h2]
  rfl
theorem c_nat_used (A b:Nat) (wr:Bool) (w:World) (hb:(Item.blk b ⟨wr,natL A,33,(0,0)⟩).holds w) (hA:A<W9):Calls Tryz.prog 131 ([.pointer (some ⟨b,0,none⟩)]:List Value).toArray w (fun e w'=>e = .returned (.int .i64 ((nw A:Nat):Int))∧Below w.heap.size w w'):=by
  refine KX (N:=19) (rs:=[.tmp 2]) [.blk b ⟨false,natL A,33,(0,0)⟩] Tryz.func131 rfl Tryz.ntmps131 Tryz.results131 (Nb rfl) ⟨hb,trivial⟩ rfl ?_
  refine KB (KA ?_);refine oP (KO (v:=.int .i64 ((0:Nat):Int)) rfl) ?_;refine KC (KB (KA ?_));refine oP (KO (v:=.int .i64 ((9:Nat):Int)) rfl) ?_;refine KC (KB (LCode.block ?_));refine Ke (α:=Nat) (fun x=>x≤9∧A<2^(64*x)) (fun x=>⟨[(0,.pointer (some ⟨b,0,none⟩)),(3,.int .i64 ((x:Nat):Int))],[.blk b ⟨false,natL A,33,(0,0)⟩]⟩) (fun x=>x) (9) (⟨by omega,lt_w9_pow hA 9 rfl⟩) (Ka ⟨rfl,rfl,trivial⟩ mS) ?_
  rintro x ⟨hx,hlt⟩
  refine KB (KB ?_)
  by_cases h0:0<x
  ·
   refine KA (oM ?_);refine oP (KF rfl rfl (br_t (br_gtr (b:=0)) h0)) ?_;refine oM ?_;refine oGM ?_;refine oGM ?_;refine oGP (KF rfl rfl (KAb (b:=1) om om)) ?_;refine oGP (KG rfl) ?_;refine oGP (KE (o':=0) u33 rfl rfl rfl sz_31 dc) ?_;refine oGP (KP u31 sz_30 rfl rfl om) ?_;refine KAA rfl rfl (dL rfl (hv:=KJ u30 rfl (by exact KY _ (show x-1<9 by omega)))) (Nb rfl) ?_;refine oGP (KF rfl rfl (Kz (b:=0))) ?_;refine oP (Kj rfl rfl) ?_;refine KC ?_
   first|refine KR rfl (fun h15=>?_) (fun h15=>?_)|refine KS rfl (fun h15=>?_) (fun h15=>?_)
   ·
    have h15:limb A (x-1) = 0:=by have:=h15; simpa using this
    refine KN (LCode.block (KA (oM ?_)));refine oP (KF rfl rfl (KAb (b:=1) om om)) ?_;refine oA (KC ?_);refine ⟨x-1,⟨by omega,?_⟩,by omega,Ka ⟨rfl,rfl,trivial⟩ mS⟩
    exact lt_of_limb_zero (A:=A) (n:=x-1) (by rw [show x-1+1 = x by omega]; exact hlt) h15
   have h15:¬ limb A (x-1) = 0:=by have:=h15; simpa using this
   refine Kc (KB (KA (oM (oA (KC (KM ?_))))))
   have he:nw A = x:=nw_eq hlt (.inr (le_of_limb (A:=A) (n:=x-1) (by rw [show x-1+1 = x by omega]; exact hlt) h15))
   refine ⟨[_],.cons rfl .nil,fun a w' hr=>⟨?_,hr.fr.below⟩⟩
   rw [he]; rfl
  refine KA (oM ?_);refine oP (KF rfl rfl (br_f (br_gtr (b:=0)) h0)) ?_;refine oM ?_;refine oK ?_;refine oK ?_;refine oK ?_;refine oK ?_;refine oK ?_;refine oK ?_;refine oK ?_;refine oK ?_;refine oP (KV rfl rfl) ?_;refine KC ?_;refine KH rfl ?_;refine Kc (KB (KA (oM (oA (KC (KM ?_))))))
  have he:nw A = x:=nw_eq hlt (.inl om)
  refine ⟨[_],.cons rfl .nil,fun a w' hr=>⟨?_,hr.fr.below⟩⟩
  rw [he]; rfl
theorem c_nat_Cmp (A B:Nat) (hA:A<W9) (hB:B<W9) (w:World)  : Calls Tryz.prog 46 ([natV A,natV B]:List Value).toArray w (fun e w'=>e = .returned (.int .i64 (cmpI A B))∧Below w.heap.size w w'):=by
  refine KX (N:=30) (rs:=[.tmp 4]) [] Tryz.func46 rfl Tryz.ntmps46 Tryz.results46 (Nb rfl) trivial rfl ?_
  refine KB (KA ?_);refine oS (mB (fun b2=>?_));refine oS (mB (fun b3=>?_));refine oP (KO (v:=.int .i64 ((0:Nat):Int)) rfl) ?_;refine KC (KB (KB (KA ?_)));refine oP (KO (v:=.int .i64 ((8:Nat):Int)) rfl) ?_;refine KC (LCode.block ?_);refine Ke (α:=Nat) (fun x=>x≤9∧A/2^(64*x) = B/2^(64*x)) (fun x=>⟨[(2,.pointer (some ⟨b2,0,none⟩)),(3,.pointer (some ⟨b3,0,none⟩)),(5,.int .i64 ((x:Int)-1))],[.blk b3 ⟨true,natL B,33,(0,0)⟩,.blk b2 ⟨true,natL A,33,(0,0)⟩]⟩) (fun x=>x) (9) (⟨by omega,by rw [Nat.div_eq_of_lt (lt_w9_pow hA 9 rfl),Nat.div_eq_of_lt (lt_w9_pow hB 9 rfl)]⟩) (Ka ⟨rfl,rfl,rfl,trivial⟩ mS) ?_
  rintro x ⟨hx,hab⟩
  refine KB (KB ?_)
  rcases Nat.eq_zero_or_pos x with h0|h0
  ·
   refine KA (oM ?_);refine oP (KF (v:=.bool false) rfl rfl (by subst h0; rfl)) ?_;refine KC ?_;refine KH rfl ?_;refine Kc (KB (KA ?_));refine oP (KO (v:=.int .i64 ((0:Nat):Int)) rfl) ?_;refine KC (KM ?_)
   have he:A = B:=by subst h0; simpa using hab
   refine ⟨[_],.cons rfl .nil,fun a w' hr=>⟨?_,hr.fr.below⟩⟩
   simp [resOf,cmpI,he]
  obtain ⟨x,rfl⟩:∃ y,x = y+1:=⟨x-1,by omega⟩
  refine KA (oM ?_);refine oP (KF (v:=.bool true) rfl rfl (by simp [Kt])) ?_;refine KC ?_;refine KT rfl ?_;refine KN (KB (LCode.block (LCode.block (KB ?_))));refine rD [] ?_;refine aP 0 rfl (Ki (v:=.int .i64 ((x:Nat):Int)) (by show some _ = some _; congr 2; omega)) ?_;refine aP 1 rfl (KE (o':=0) u33 rfl rfl rfl sz_31 dc) ?_;refine aP 2 rfl (KP u31 sz_30 rfl rfl om) ?_;refine aD 3 rfl (dL rfl (hv:=KJ u30 rfl (by exact KY _ (show x<9 by omega)))) ?_;refine aP 4 rfl (Ki (v:=.int .i64 ((x:Nat):Int)) (by show some _ = some _; congr 2; omega)) ?_;refine aP 5 rfl (KE (o':=0) u33 rfl rfl rfl sz_31 dc) ?_;refine aP 6 rfl (KP u31 sz_30 rfl rfl om) ?_;refine aD 7 rfl (dL rfl (hv:=KJ u30 rfl (by exact KY _ (show x<9 by omega)))) ?_;refine aP 8 rfl (KF rfl rfl (KAF)) ?_;refine aA 9 ?_;refine aE ?_
  first|refine KR rfl (fun h10=>?_) (fun h10=>?_)|refine KS rfl (fun h10=>?_) (fun h10=>?_)
  ·
   refine KB (KA (oA (KC (KM ?_))))
   have he:A<B:=lt_of_limb hab h10
   refine ⟨[_],.cons rfl .nil,fun a w' hr=>⟨?_,hr.fr.below⟩⟩
   simp [resOf,cmpI,he]
  refine KB ?_;refine rD [] ?_;refine aP 0 rfl (Ki (v:=.int .i64 ((x:Nat):Int)) (by show some _ = some _; congr 2; omega)) ?_;refine aP 1 rfl (KE (o':=0) u33 rfl rfl rfl sz_31 dc) ?_;refine aP 2 rfl (KP u31 sz_30 rfl rfl om) ?_;refine aD 3 rfl (dL rfl (hv:=KJ u30 rfl (by exact KY _ (show x<9 by omega)))) ?_;refine aP 4 rfl (Ki (v:=.int .i64 ((x:Nat):Int)) (by show some _ = some _; congr 2; omega)) ?_;refine aP 5 rfl (KE (o':=0) u33 rfl rfl rfl sz_31 dc) ?_;refine aP 6 rfl (KP u31 sz_30 rfl rfl om) ?_;refine aD 7 rfl (dL rfl (hv:=KJ u30 rfl (by exact KY _ (show x<9 by omega)))) ?_;refine aP 8 rfl (KF rfl rfl (br_gtr)) ?_;refine aA 9 ?_;refine aE ?_
  first|refine KR rfl (fun h20=>?_) (fun h20=>?_)|refine KS rfl (fun h20=>?_) (fun h20=>?_)
  ·
   refine KB (KA ?_);refine oP (KO (v:=.int .i64 ((1:Nat):Int)) rfl) ?_;refine KC (KM ?_)
   have he:B<A:=lt_of_limb hab.symm h20
   have he2:¬ A<B:=by omega
   refine ⟨[_],.cons rfl .nil,fun a w' hr=>⟨?_,hr.fr.below⟩⟩
   simp [resOf,cmpI,he,he2]
  refine KN (KA ?_);refine oP (Ki (v:=.int .i64 ((x:Nat):Int)) (by show some _ = some _; congr 2; omega)) ?_;refine oP (KF rfl rfl rfl) ?_;refine oA (KC ?_);refine ⟨x,⟨by omega,?_⟩,by omega,Ka ⟨rfl,rfl,?_,trivial⟩ mS⟩
  · have h1:limb A x = limb B x:=by omega
    exact (div_eq_iff_limb A B x).2 ⟨hab,h1⟩
  · exact congrArg (fun i:Int=>some (Value.int .i64 i)) (wrap_i64 om om)
theorem c_Mul64 (x y:Nat) (hx:x<18446744073709551616) (hy:y<18446744073709551616) (w:World)  : Calls Tryz.prog 123 ([.int .u64 ((x:Nat):Int),.int .u64 ((y:Nat):Int)]:List Value).toArray w (fun e w'=>e = .returned (.tuple #[.int .u64 ((x*y/18446744073709551616:Nat):Int),.int .u64 ((x*y%18446744073709551616:Nat):Int)])∧Below w.heap.size w w'):=by
  refine KX (N:=51) (rs:=[.tmp 4,.tmp 5]) [] Tryz.func123 rfl Tryz.ntmps123 Tryz.results123 (Nb rfl) trivial rfl ?_
  refine KB (KA ?_);refine oP (KO (v:=.int .u64 ((0:Nat):Int)) rfl) ?_;refine oP (KO (v:=.int .u64 ((0:Nat):Int)) rfl) ?_;refine KC (KB (KA (oM ?_)));refine oP (KF rfl rfl (br_and64 (b:=4294967295) om om)) ?_;refine oA (KC (KB (KA (oM ?_))));refine oP (KF rfl rfl (br_shr64 (b:=32) om)) ?_;refine oA (KC (KB (KA (oM ?_))));refine oP (KF rfl rfl (br_and64 (b:=4294967295) om om)) ?_;refine oA (KC (KB (KA (oM ?_))));refine oP (KF rfl rfl (br_shr64 (b:=32) om)) ?_;refine oA (KC (KB (KA (oM (oM ?_)))));refine oP (KF rfl rfl (br_mul64)) ?_;refine oA (KC (KB (KA (oM (oM ?_)))));refine oP (KF rfl rfl (br_mul64)) ?_;refine oM ?_;refine oP (KF rfl rfl (br_shr64 (b:=32) om)) ?_;refine oP (KF rfl rfl (KAX)) ?_;refine oA (KC (KB (KA (oM ?_))));refine oP (KF rfl rfl (br_and64 (b:=4294967295) om om)) ?_;refine oA (KC (KB (KA (oM ?_))));refine oP (KF rfl rfl (br_shr64 (b:=32) om)) ?_;refine oA (KC (KB (KA (oM (oM (oM ?_))))))
  refine oP (KF rfl rfl (br_mul64)) ?_;refine oP (KF rfl rfl (KAX)) ?_;refine oA (KC (KB (KA (oM (oM ?_)))));refine oP (KF rfl rfl (br_mul64)) ?_;refine oM ?_;refine oP (KF rfl rfl (KAX)) ?_;refine oM ?_;refine oP (KF rfl rfl (br_shr64 (b:=32) om)) ?_;refine oP (KF rfl rfl (KAX)) ?_;refine oA (KC (KB (KA (oM (oM ?_)))));refine oP (KF rfl rfl (br_mul64)) ?_;refine oA (KC (KM ?_));refine ⟨[_,_],.cons rfl (.cons rfl .nil),fun a w' hr=>⟨?_,hr.fr.below⟩⟩
  have h:=mul64_hi x y hx hy
  rw [← h]
  rfl
def lenTab:List UInt8:=[0,1,2,2,3,3,3,3,4,4,4,4,4,4,4,4,5,5,5,5,5,5,5,5,5,5,5,5,5,5,5,5,6,6,6,6,6,6,6,6,6,6,6,6,6,6,6,6,6,6,6,6,6,6,6,6,6,6,6,6,6,6,6,6,7,7,7,7,7,7,7,7,7,7,7,7,7,7,7,7,7,7,7,7,7,7,7,7,7,7,7,7,7,7,7,7,7,7,7,7,7,7,7,7,7,7,7,7,7,7,7,7,7,7,7,7,7,7,7,7,7,7,7,7,7,7,7,7,8,8,8,8,8,8,8,8,8,8,8,8,8,8,8,8,8,8,8,8,8,8,8,8,8,8,8,8,8,8,8,8,8,8,8,8,8,8,8,8,8,8,8,8,8,8,8,8,8,8,8,8,8,8,8,8,8,8,8,8,8,8,8,8,8,8,8,8,8,8,8,8,8,8,8,8,8,8,8,8,8,8,8,8,8,8,8,8,8,8,8,8,8,8,8,8,8,8,8,8,8,8,8,8,8,8,8,8,8,8,8,8,8,8,8,8,8,8,8,8,8,8,8,8,8,8,8,8]
theorem len_tab:∀ i,i<256→(lenTab.getD i 0).toNat = blen i:=by decide +kernel
theorem len_tab_int (i:Nat) (h:i<256):(Value.int .u8 ((lenTab.getD ((i:Int).toNat) 0).toNat:Int)) = .int .u8 ((blen i:Nat):Int):=by rw [Int.toNat_natCast,len_tab i h]
theorem blen_m8 (z:Nat):blen (z%256)≤8:=blen_le (Nat.mod_lt _ dc)
theorem c_Len64 (x:Nat) (hx:x<18446744073709551616) (w:World)  : Calls Tryz.prog 132 ([.int .u64 ((x:Nat):Int)]:List Value).toArray w (fun e w'=>e = .returned (.int .i64 ((blen x:Nat):Int))∧Below w.heap.size w w'):=by
  refine KX (N:=25) (rs:=[.tmp 2]) [] Tryz.func132 rfl Tryz.ntmps132 Tryz.results132 (Nb rfl) trivial rfl ?_
  refine KB (KA ?_);refine oP (KO (v:=.int .i64 ((0:Nat):Int)) rfl) ?_;refine KC (KB (KB (KA (oM ?_))));refine oP (KF rfl rfl (br_geq (b:=4294967296))) ?_;refine KC ?_
  first|refine KR rfl (fun h4=>?_) (fun h4=>?_)|refine KS rfl (fun h4=>?_) (fun h4=>?_)
  ·
   refine KB (KA (oM ?_));refine oP (KF rfl rfl (br_shr64 (b:=32) om)) ?_;refine oA (KC (KA ?_));refine oP (KO (v:=.int .i64 ((32:Nat):Int)) rfl) ?_;refine KC (KB (KB (KA (oM ?_))));refine oP (KF rfl rfl (br_geq (b:=65536))) ?_;refine KC ?_
   first|refine KR rfl (fun h8=>?_) (fun h8=>?_)|refine KS rfl (fun h8=>?_) (fun h8=>?_)
   ·
    refine KB (KA (oM ?_));refine oP (KF rfl rfl (br_shr64 (b:=16) om)) ?_;refine oA (KC (KA (oM ?_)));refine oP (KF rfl rfl (Ko (b:=16) om)) ?_;refine oA (KC (KB (KB (KA (oM ?_)))));refine oP (KF rfl rfl (br_geq (b:=256))) ?_;refine KC ?_
    first|refine KR rfl (fun h14=>?_) (fun h14=>?_)|refine KS rfl (fun h14=>?_) (fun h14=>?_)
    ·
     refine KB (KA (oM ?_));refine oP (KF rfl rfl (br_shr64 (b:=8) om)) ?_;refine oA (KC (KA (oM ?_)));refine oP (KF rfl rfl (Ko (b:=8) om)) ?_;refine oA (KC (KB (KA (oM (oM ?_)))));refine oP (Det.conv8 u30 u5 rfl) ?_;refine oP (KK (KAI u9 rfl rfl om (by show ((_%256:Nat):Int)<256; omega)) (len_tab_int _ (Nat.mod_lt _ dc))) ?_;refine oP (Det.convi u5 u3 rfl (Nat.lt_of_le_of_lt (blen_m8 _) dc)) ?_;refine oP (KF rfl rfl (Ko (Nat.lt_of_le_of_lt (Nat.add_le_add_left (blen_m8 _) _) om))) ?_;refine oA (KC (KM ?_))
     have hm:∀ z:Nat,z<256→blen (z%256) = blen z:=fun z hz=>by rw [Nat.mod_eq_of_lt hz]
     refine ⟨[_],.cons rfl .nil,fun a w' hr=>⟨?_,hr.fr.below⟩⟩;refine congrArg (fun n:Nat=>Ending.returned (.int .i64 (n:Int))) ?_
     have e32:=blen_shr (k:=32) (show 2^32≤x by omega)
     have e16:=blen_shr (k:=16) (show 2^16≤(x/2^32) by omega)
     have e8:=blen_shr (k:=8) (show 2^8≤((x/2^32)/2^16) by omega)
     rw [hm (((x/2^32)/2^16)/2^8) om]
     omega
    refine KN (KB (KA (oM (oM ?_))));refine oP (Det.conv8 u30 u5 rfl) ?_;refine oP (KK (KAI u9 rfl rfl om (by show ((_%256:Nat):Int)<256; omega)) (len_tab_int _ (Nat.mod_lt _ dc))) ?_;refine oP (Det.convi u5 u3 rfl (Nat.lt_of_le_of_lt (blen_m8 _) dc)) ?_;refine oP (KF rfl rfl (Ko (Nat.lt_of_le_of_lt (Nat.add_le_add_left (blen_m8 _) _) om))) ?_;refine oA (KC (KM ?_))
    have hm:∀ z:Nat,z<256→blen (z%256) = blen z:=fun z hz=>by rw [Nat.mod_eq_of_lt hz]
    refine ⟨[_],.cons rfl .nil,fun a w' hr=>⟨?_,hr.fr.below⟩⟩;refine congrArg (fun n:Nat=>Ending.returned (.int .i64 (n:Int))) ?_
    have e32:=blen_shr (k:=32) (show 2^32≤x by omega)
    have e16:=blen_shr (k:=16) (show 2^16≤(x/2^32) by omega)
    rw [hm ((x/2^32)/2^16) om]
    omega
   refine KN (KB (KB (KA (oM ?_))));refine oP (KF rfl rfl (br_geq (b:=256))) ?_;refine KC ?_
   first|refine KR rfl (fun h14=>?_) (fun h14=>?_)|refine KS rfl (fun h14=>?_) (fun h14=>?_)
   ·
    refine KB (KA (oM ?_));refine oP (KF rfl rfl (br_shr64 (b:=8) om)) ?_;refine oA (KC (KA (oM ?_)));refine oP (KF rfl rfl (Ko (b:=8) om)) ?_;refine oA (KC (KB (KA (oM (oM ?_)))));refine oP (Det.conv8 u30 u5 rfl) ?_;refine oP (KK (KAI u9 rfl rfl om (by show ((_%256:Nat):Int)<256; omega)) (len_tab_int _ (Nat.mod_lt _ dc))) ?_;refine oP (Det.convi u5 u3 rfl (Nat.lt_of_le_of_lt (blen_m8 _) dc)) ?_;refine oP (KF rfl rfl (Ko (Nat.lt_of_le_of_lt (Nat.add_le_add_left (blen_m8 _) _) om))) ?_;refine oA (KC (KM ?_))
    have hm:∀ z:Nat,z<256→blen (z%256) = blen z:=fun z hz=>by rw [Nat.mod_eq_of_lt hz]
    refine ⟨[_],.cons rfl .nil,fun a w' hr=>⟨?_,hr.fr.below⟩⟩;refine congrArg (fun n:Nat=>Ending.returned (.int .i64 (n:Int))) ?_
    have e32:=blen_shr (k:=32) (show 2^32≤x by omega)
    have e8:=blen_shr (k:=8) (show 2^8≤(x/2^32) by omega)
    rw [hm ((x/2^32)/2^8) om]
    omega
   refine KN (KB (KA (oM (oM ?_))));refine oP (Det.conv8 u30 u5 rfl) ?_;refine oP (KK (KAI u9 rfl rfl om (by show ((_%256:Nat):Int)<256; omega)) (len_tab_int _ (Nat.mod_lt _ dc))) ?_;refine oP (Det.convi u5 u3 rfl (Nat.lt_of_le_of_lt (blen_m8 _) dc)) ?_;refine oP (KF rfl rfl (Ko (Nat.lt_of_le_of_lt (Nat.add_le_add_left (blen_m8 _) _) om))) ?_;refine oA (KC (KM ?_))
   have hm:∀ z:Nat,z<256→blen (z%256) = blen z:=fun z hz=>by rw [Nat.mod_eq_of_lt hz]
   refine ⟨[_],.cons rfl .nil,fun a w' hr=>⟨?_,hr.fr.below⟩⟩;refine congrArg (fun n:Nat=>Ending.returned (.int .i64 (n:Int))) ?_
   have e32:=blen_shr (k:=32) (show 2^32≤x by omega)
   rw [hm (x/2^32) om]
   omega
  refine KN (KB (KB (KA (oM ?_))));refine oP (KF rfl rfl (br_geq (b:=65536))) ?_;refine KC ?_
  first|refine KR rfl (fun h8=>?_) (fun h8=>?_)|refine KS rfl (fun h8=>?_) (fun h8=>?_)
  ·
   refine KB (KA (oM ?_));refine oP (KF rfl rfl (br_shr64 (b:=16) om)) ?_;refine oA (KC (KA (oM ?_)));refine oP (KF rfl rfl (Ko (b:=16) om)) ?_;refine oA (KC (KB (KB (KA (oM ?_)))));refine oP (KF rfl rfl (br_geq (b:=256))) ?_;refine KC ?_
   first|refine KR rfl (fun h14=>?_) (fun h14=>?_)|refine KS rfl (fun h14=>?_) (fun h14=>?_)
   ·
    refine KB (KA (oM ?_));refine oP (KF rfl rfl (br_shr64 (b:=8) om)) ?_;refine oA (KC (KA (oM ?_)));refine oP (KF rfl rfl (Ko (b:=8) om)) ?_;refine oA (KC (KB (KA (oM (oM ?_)))));refine oP (Det.conv8 u30 u5 rfl) ?_;refine oP (KK (KAI u9 rfl rfl om (by show ((_%256:Nat):Int)<256; omega)) (len_tab_int _ (Nat.mod_lt _ dc))) ?_;refine oP (Det.convi u5 u3 rfl (Nat.lt_of_le_of_lt (blen_m8 _) dc)) ?_;refine oP (KF rfl rfl (Ko (Nat.lt_of_le_of_lt (Nat.add_le_add_left (blen_m8 _) _) om))) ?_;refine oA (KC (KM ?_))
    have hm:∀ z:Nat,z<256→blen (z%256) = blen z:=fun z hz=>by rw [Nat.mod_eq_of_lt hz]
    refine ⟨[_],.cons rfl .nil,fun a w' hr=>⟨?_,hr.fr.below⟩⟩;refine congrArg (fun n:Nat=>Ending.returned (.int .i64 (n:Int))) ?_
    have e16:=blen_shr (k:=16) (show 2^16≤x by omega)
    have e8:=blen_shr (k:=8) (show 2^8≤(x/2^16) by omega)
    rw [hm ((x/2^16)/2^8) om]
    omega
   refine KN (KB (KA (oM (oM ?_))));refine oP (Det.conv8 u30 u5 rfl) ?_;refine oP (KK (KAI u9 rfl rfl om (by show ((_%256:Nat):Int)<256; omega)) (len_tab_int _ (Nat.mod_lt _ dc))) ?_;refine oP (Det.convi u5 u3 rfl (Nat.lt_of_le_of_lt (blen_m8 _) dc)) ?_;refine oP (KF rfl rfl (Ko (Nat.lt_of_le_of_lt (Nat.add_le_add_left (blen_m8 _) _) om))) ?_;refine oA (KC (KM ?_))
   have hm:∀ z:Nat,z<256→blen (z%256) = blen z:=fun z hz=>by rw [Nat.mod_eq_of_lt hz]
   refine ⟨[_],.cons rfl .nil,fun a w' hr=>⟨?_,hr.fr.below⟩⟩;refine congrArg (fun n:Nat=>Ending.returned (.int .i64 (n:Int))) ?_
   have e16:=blen_shr (k:=16) (show 2^16≤x by omega)
   rw [hm (x/2^16) om]
   omega
  refine KN (KB (KB (KA (oM ?_))));refine oP (KF rfl rfl (br_geq (b:=256))) ?_;refine KC ?_
  first|refine KR rfl (fun h14=>?_) (fun h14=>?_)|refine KS rfl (fun h14=>?_) (fun h14=>?_)
  ·
   refine KB (KA (oM ?_));refine oP (KF rfl rfl (br_shr64 (b:=8) om)) ?_;refine oA (KC (KA (oM ?_)));refine oP (KF rfl rfl (Ko (b:=8) om)) ?_;refine oA (KC (KB (KA (oM (oM ?_)))));refine oP (Det.conv8 u30 u5 rfl) ?_;refine oP (KK (KAI u9 rfl rfl om (by show ((_%256:Nat):Int)<256; omega)) (len_tab_int _ (Nat.mod_lt _ dc))) ?_;refine oP (Det.convi u5 u3 rfl (Nat.lt_of_le_of_lt (blen_m8 _) dc)) ?_;refine oP (KF rfl rfl (Ko (Nat.lt_of_le_of_lt (Nat.add_le_add_left (blen_m8 _) _) om))) ?_;refine oA (KC (KM ?_))
   have hm:∀ z:Nat,z<256→blen (z%256) = blen z:=fun z hz=>by rw [Nat.mod_eq_of_lt hz]
   refine ⟨[_],.cons rfl .nil,fun a w' hr=>⟨?_,hr.fr.below⟩⟩;refine congrArg (fun n:Nat=>Ending.returned (.int .i64 (n:Int))) ?_
   have e8:=blen_shr (k:=8) (show 2^8≤x by omega)
   rw [hm (x/2^8) om]
   omega
  refine KN (KB (KA (oM (oM ?_))));refine oP (Det.conv8 u30 u5 rfl) ?_;refine oP (KK (KAI u9 rfl rfl om (by show ((_%256:Nat):Int)<256; omega)) (len_tab_int _ (Nat.mod_lt _ dc))) ?_;refine oP (Det.convi u5 u3 rfl (Nat.lt_of_le_of_lt (blen_m8 _) dc)) ?_;refine oP (KF rfl rfl (Ko (Nat.lt_of_le_of_lt (Nat.add_le_add_left (blen_m8 _) _) om))) ?_;refine oA (KC (KM ?_))
  have hm:∀ z:Nat,z<256→blen (z%256) = blen z:=fun z hz=>by rw [Nat.mod_eq_of_lt hz]
  refine ⟨[_],.cons rfl .nil,fun a w' hr=>⟨?_,hr.fr.below⟩⟩;refine congrArg (fun n:Nat=>Ending.returned (.int .i64 (n:Int))) ?_
  rw [hm x om]
  omega
theorem c_LeadingZeros64 (x:Nat) (hx:x<18446744073709551616) (w:World)  : Calls Tryz.prog 178 ([.int .u64 ((x:Nat):Int)]:List Value).toArray w (fun e w'=>e = .returned (.int .i64 ((64-blen x:Nat):Int))∧Below w.heap.size w w'):=by
  refine KX (N:=6) (rs:=[.tmp 2]) [] Tryz.func178 rfl Tryz.ntmps178 Tryz.results178 (Nb rfl) trivial rfl ?_
  refine KB (KA ?_);refine oP (KO (v:=.int .i64 ((0:Nat):Int)) rfl) ?_;refine KC (KB (KA (oM ?_)));refine oS (cF rfl en_132 rfl (fun w hw=>c_Len64 _ om w) ?_);refine oP (KF rfl rfl (KAb (a:=64) (blen_le hx) om)) ?_;refine oA (KC (KM ?_));refine ⟨[_],.cons rfl .nil,fun a w' hr=>⟨?_,hr.fr.below⟩⟩
  rfl
theorem c_Div64 (hi lo y:Nat) (hlo:lo<18446744073709551616) (hy:9223372036854775808≤y) (hy2:y<18446744073709551616) (hh:hi<y) (w:World)  : Calls Tryz.prog 206 ([.int .u64 ((hi:Nat):Int),.int .u64 ((lo:Nat):Int),.int .u64 ((y:Nat):Int)]:List Value).toArray w (fun e w'=>e = .returned (.tuple #[.int .u64 (((hi*18446744073709551616+lo)/y:Nat):Int),.int .u64 (((hi*18446744073709551616+lo)%y:Nat):Int)])∧Below w.heap.size w w'):=by
  have hb:64-blen y = 0:=by have:=le_blen (A:=y) (n:=63) om; omega
  refine KX (N:=135) (rs:=[.tmp 6,.tmp 7]) [] Tryz.func206 rfl Tryz.ntmps206 Tryz.results206 (Nb rfl) trivial rfl ?_
  refine KB (KA ?_);refine oP (KO (v:=.int .u64 ((0:Nat):Int)) rfl) ?_;refine oP (KO (v:=.int .u64 ((0:Nat):Int)) rfl) ?_;refine KC (KB (KB (KA (oM ?_))));refine oP (KF rfl rfl (br_f (Kz (b:=0)) om)) ?_;refine KC ?_;refine KH rfl ?_;refine KN (KB (KB (KA (oM (oM ?_)))));refine oP (KF rfl rfl (br_f br_leq om)) ?_;refine KC ?_;refine KH rfl ?_;refine KN (KB (KB (KA (oM ?_))));refine oP (KF rfl rfl (Kz (b:=0))) ?_;refine KC ?_
  first|refine KR rfl (fun h27=>?_) (fun h27=>?_)|refine KS rfl (fun h27=>?_) (fun h27=>?_)
  ·
   refine KB ?_;refine rD [] ?_;refine aM 0 ?_;refine aM 1 ?_;refine aP 2 rfl (KF rfl rfl (br_quo64 om om)) ?_;refine aM 3 ?_;refine aM 4 ?_;refine aP 5 rfl (KF rfl rfl (br_rem64 om)) ?_;refine aA 6 ?_;refine aA 7 ?_;refine aE ?_;refine KM ?_;refine ⟨[_,_],.cons rfl (.cons rfl .nil),fun a w' hr=>⟨?_,hr.fr.below⟩⟩
   subst h27
   rw [Nat.zero_mul,Nat.zero_add]
   rfl
  refine KN (KB (KA (oM ?_)));refine oS (cF rfl en_178 rfl (fun w hw=>c_LeadingZeros64 _ om w) ?_);refine oP (KK (v:=.int .u64 ((64-blen y:Nat):Int)) (Det.conv64 u3 u56 rfl om) (by rw [hb])) ?_;refine oA (KC (KB (KA (oM (oM ?_)))));refine oP (KK (KF rfl rfl (br_shl64 (b:=0))) (vi (b:=y) om)) ?_;refine oA (KC (KB (KA (oM ?_))));refine oP (KF rfl rfl (br_shr64 (b:=32) om)) ?_;refine oA (KC (KB (KA (oM ?_))));refine oP (KK (KF rfl rfl (br_and64 (b:=4294967295) om om)) (vi (b:=y%4294967296) (by rw [and32]))) ?_;refine oA (KC (KB (KA (oM (oM ?_)))));refine oP (KK (KF rfl rfl (br_shl64 (b:=0))) (vi (b:=hi) om)) ?_;refine oM (oM ?_);refine oP (KF (v:=.int .u64 ((64:Nat):Int)) rfl rfl rfl) ?_;refine oP (KK (KF rfl rfl (br_shr64 (b:=64) om)) (vi (b:=0) om)) ?_;refine oP (KK (KF rfl rfl (br_or64 om om)) (vi (b:=hi) (by rw [Nat.or_zero]))) ?_;refine oA (KC (KB (KA (oM (oM ?_)))))
  refine oP (KK (KF rfl rfl (br_shl64 (b:=0))) (vi (b:=lo) om)) ?_;refine oA (KC (KB (KA (oM ?_))));refine oP (KF rfl rfl (br_shr64 (b:=32) om)) ?_;refine oA (KC (KB (KA (oM ?_))));refine oP (KK (KF rfl rfl (br_and64 (b:=4294967295) om om)) (vi (b:=lo%4294967296) (by rw [and32]))) ?_;refine oA (KC (KB (KA (oM (oM ?_)))));refine oP (KF rfl rfl (br_quo64 om om)) ?_;refine oA (KC (KB (KA (oM (oM (oM ?_))))));refine oP (KF rfl rfl (br_mul64)) ?_;refine oP (KK (KF rfl rfl (br_sub64 (Nat.mod_lt _ dc))) (vi (b:=hi%(y/2^32)) (minus_div om))) ?_;refine oA (KC ?_);refine LCode.cut (α:=Unit) (fun _=>True) (fun _=>⟨[(2,.int .u64 ((y:Nat):Int)),(9,.int .u64 ((y/2^32:Nat):Int)),(10,.int .u64 ((y%4294967296:Nat):Int)),(11,.int .u64 ((hi:Nat):Int)),(12,.int .u64 ((lo:Nat):Int)),(13,.int .u64 ((lo/2^32:Nat):Int)),(14,.int .u64 ((lo%4294967296:Nat):Int)),(8,.int .u64 ((0:Nat):Int)),(15,.int .u64 (((hi*4294967296+lo/2^32)/y:Nat):Int))],[]⟩) ?_ ?_
  ·
   refine LCode.block ?_;refine Ke (α:=Nat×Nat) (fun x=>x.1*(y/2^32)+x.2 = hi∧(hi*4294967296+lo/2^32)/y≤x.1∧x.2<4294967296) (fun x=>⟨[(2,.int .u64 ((y:Nat):Int)),(9,.int .u64 ((y/2^32:Nat):Int)),(10,.int .u64 ((y%4294967296:Nat):Int)),(11,.int .u64 ((hi:Nat):Int)),(12,.int .u64 ((lo:Nat):Int)),(13,.int .u64 ((lo/2^32:Nat):Int)),(14,.int .u64 ((lo%4294967296:Nat):Int)),(8,.int .u64 ((0:Nat):Int)),(15,.int .u64 ((x.1:Nat):Int)),(16,.int .u64 ((x.2:Nat):Int))],[]⟩) (fun x=>x.1) ((hi/(y/2^32),hi%(y/2^32))) (half_init _ _ _ hy hy2 (by first|assumption|exact Nat.mod_lt _ om) om) (Ka (by exact ⟨rfl,rfl,rfl,rfl,rfl,rfl,rfl,rfl,rfl,rfl,trivial⟩) mS) ?_
   rintro x ⟨hq1,hq2,hq3⟩
   have hql:x.1<18446744073709551616:=by
     have h1:x.1*1≤x.1*(y/2^32):=Nat.mul_le_mul_left _ om
     have h2:hi<y:=by first|assumption|exact Nat.mod_lt _ om
     generalize x.1*(y/2^32) = z at *
     omega
   refine KB (KB ?_)
   rcases Nat.lt_or_ge x.1 4294967296 with hge|hge
   rotate_left
   ·
    refine KA (oM ?_);refine oP (KF rfl rfl (br_t (br_geq (b:=4294967296)) hge)) ?_;refine oM ?_;refine oK ?_;refine oK ?_;refine oK ?_;refine oK ?_;refine oK ?_;refine oK ?_;refine oK ?_;refine oK ?_;refine oP (Kj rfl rfl) ?_;refine KC ?_
    have hcont:4294967296≤x.1∨(x.1<4294967296∧4294967296*x.2+(lo/2^32)<x.1*(y%4294967296)):=.inl hge
    have hm:=half_more om (by first|assumption|exact Nat.mod_lt _ om) om hq1 hq2 hcont
    refine KT rfl ?_;refine KN (LCode.block (KB (KA (oM ?_))));refine oP (KK (KF rfl rfl (br_sub64 (b:=1) om)) (vi (b:=x.1-1) (by have:=hm.1; have:x.1<18446744073709551616:=hql; omega))) ?_;refine oA (KC (KB (KA (oM (oM ?_)))));refine oP (KK (KF rfl rfl KAX) (vi (b:=x.2+y/2^32) om)) ?_;refine oA (KC (KB (KA (oM ?_))));refine oP (KF rfl rfl (br_geq (b:=4294967296))) ?_;refine KC ?_
    first|refine KR rfl (fun hbrk=>?_) (fun hbrk=>?_)|refine KS rfl (fun hbrk=>?_) (fun hbrk=>?_)
    ·
     refine Kc ?_
     have hqq:=half_break hy (by first|assumption|exact Nat.mod_lt _ om) hm.2.1 hm.2.2 hbrk
     rw [hqq]
     exact ⟨(),trivial,Ka (by exact ⟨rfl,rfl,rfl,rfl,rfl,rfl,rfl,rfl,rfl,trivial⟩) mS⟩
    refine KN ?_;refine ⟨(x.1-1,x.2+y/2^32),⟨hm.2.1,hm.2.2,Nat.lt_of_not_le hbrk⟩,?_,Ka (by exact ⟨rfl,rfl,rfl,rfl,rfl,rfl,rfl,rfl,rfl,rfl,trivial⟩) mS⟩
    show x.1-1<x.1
    have:=hm.1
    omega
   refine KA (oM ?_);refine oP (KF rfl rfl (br_f (br_geq (b:=4294967296)) (Nat.not_le_of_lt hge))) ?_;refine oM ?_;refine oGM ?_;refine oGM ?_;refine oGP (KK (KF rfl rfl br_mul64) (vi (b:=x.1*(y%4294967296)) (by exact Nat.mod_eq_of_lt (by have:=Nat.mul_le_mul (show x.1≤4294967295 by omega) (show y%4294967296≤4294967295 by omega); omega)))) ?_;refine oGM ?_;refine oGP (KF rfl rfl (br_mul64 (a:=4294967296))) ?_;refine oGM ?_;refine oGP (KK (KF rfl rfl KAX) (vi (b:=4294967296*x.2+(lo/2^32)) om)) ?_;refine oGP (KF rfl rfl (br_gtr)) ?_;refine oP (KV rfl rfl) ?_;refine KC ?_
   first|refine KR rfl (fun hgt=>?_) (fun hgt=>?_)|refine KS rfl (fun hgt=>?_) (fun hgt=>?_)
   ·
    have hcont:4294967296≤x.1∨(x.1<4294967296∧4294967296*x.2+(lo/2^32)<x.1*(y%4294967296)):=.inr ⟨by omega,hgt⟩
    have hm:=half_more om (by first|assumption|exact Nat.mod_lt _ om) om hq1 hq2 hcont
    refine KN (LCode.block (KB (KA (oM ?_))));refine oP (KK (KF rfl rfl (br_sub64 (b:=1) om)) (vi (b:=x.1-1) (by have:=hm.1; have:x.1<18446744073709551616:=hql; omega))) ?_;refine oA (KC (KB (KA (oM (oM ?_)))));refine oP (KK (KF rfl rfl KAX) (vi (b:=x.2+y/2^32) om)) ?_;refine oA (KC (KB (KA (oM ?_))));refine oP (KF rfl rfl (br_geq (b:=4294967296))) ?_;refine KC ?_
    first|refine KR rfl (fun hbrk=>?_) (fun hbrk=>?_)|refine KS rfl (fun hbrk=>?_) (fun hbrk=>?_)
    ·
     refine Kc ?_
     have hqq:=half_break hy (by first|assumption|exact Nat.mod_lt _ om) hm.2.1 hm.2.2 hbrk
     rw [hqq]
     exact ⟨(),trivial,Ka (by exact ⟨rfl,rfl,rfl,rfl,rfl,rfl,rfl,rfl,rfl,trivial⟩) mS⟩
    refine KN ?_;refine ⟨(x.1-1,x.2+y/2^32),⟨hm.2.1,hm.2.2,Nat.lt_of_not_le hbrk⟩,?_,Ka (by exact ⟨rfl,rfl,rfl,rfl,rfl,rfl,rfl,rfl,rfl,rfl,trivial⟩) mS⟩
    show x.1-1<x.1
    have:=hm.1
    omega
   have hle:x.1*(y%4294967296)≤4294967296*x.2+(lo/2^32):=Nat.le_of_not_lt hgt
   refine Kc ?_
   have hqq:=half_quit om hq1 hq2 hle
   rw [hqq]
   exact ⟨(),trivial,Ka (by exact ⟨rfl,rfl,rfl,rfl,rfl,rfl,rfl,rfl,rfl,trivial⟩) mS⟩
  intro _ _
  refine KB (KA (oM ?_));refine oP (KF rfl rfl (br_mul64 (b:=4294967296))) ?_;refine oM ?_;refine oP (KF rfl rfl (KAX)) ?_;refine oM (oM ?_);refine oP (KF rfl rfl (br_mul64)) ?_;refine oP (KK (KF rfl rfl (br_sub64 (Nat.mod_lt _ dc))) (vi (b:=(hi*4294967296+lo/2^32)%y) (by exact half_rest om hy2))) ?_;refine oA (KC (KB ?_))
  have hrr:(hi*4294967296+lo/2^32)%y<y:=Nat.mod_lt _ om
  refine KA (oM (oM ?_));refine oP (KF rfl rfl (br_quo64 om om)) ?_;refine oA (KC (KB (KA (oM (oM (oM ?_))))));refine oP (KF rfl rfl (br_mul64)) ?_;refine oP (KK (KF rfl rfl (br_sub64 (Nat.mod_lt _ dc))) (vi (b:=((hi*4294967296+lo/2^32)%y)%(y/2^32)) (minus_div om))) ?_;refine oA (KC ?_);refine LCode.cut (α:=Unit) (fun _=>True) (fun _=>⟨[(2,.int .u64 ((y:Nat):Int)),(9,.int .u64 ((y/2^32:Nat):Int)),(10,.int .u64 ((y%4294967296:Nat):Int)),(14,.int .u64 ((lo%4294967296:Nat):Int)),(8,.int .u64 ((0:Nat):Int)),(15,.int .u64 (((hi*4294967296+lo/2^32)/y:Nat):Int)),(17,.int .u64 (((hi*4294967296+lo/2^32)%y:Nat):Int)),(18,.int .u64 ((((hi*4294967296+lo/2^32)%y*4294967296+lo%4294967296)/y:Nat):Int))],[]⟩) ?_ ?_
  ·
   refine LCode.block ?_;refine Ke (α:=Nat×Nat) (fun x=>x.1*(y/2^32)+x.2 = ((hi*4294967296+lo/2^32)%y)∧(((hi*4294967296+lo/2^32)%y)*4294967296+lo%4294967296)/y≤x.1∧x.2<4294967296) (fun x=>⟨[(2,.int .u64 ((y:Nat):Int)),(9,.int .u64 ((y/2^32:Nat):Int)),(10,.int .u64 ((y%4294967296:Nat):Int)),(14,.int .u64 ((lo%4294967296:Nat):Int)),(8,.int .u64 ((0:Nat):Int)),(15,.int .u64 (((hi*4294967296+lo/2^32)/y:Nat):Int)),(17,.int .u64 (((hi*4294967296+lo/2^32)%y:Nat):Int)),(18,.int .u64 ((x.1:Nat):Int)),(16,.int .u64 ((x.2:Nat):Int))],[]⟩) (fun x=>x.1) ((((hi*4294967296+lo/2^32)%y)/(y/2^32),((hi*4294967296+lo/2^32)%y)%(y/2^32))) (half_init _ _ _ hy hy2 (by first|assumption|exact Nat.mod_lt _ om) om) (Ka (by exact ⟨rfl,rfl,rfl,rfl,rfl,rfl,rfl,rfl,rfl,trivial⟩) mS) ?_
   rintro x ⟨hq1,hq2,hq3⟩
   have hql:x.1<18446744073709551616:=by
     have h1:x.1*1≤x.1*(y/2^32):=Nat.mul_le_mul_left _ om
     have h2:((hi*4294967296+lo/2^32)%y)<y:=by first|assumption|exact Nat.mod_lt _ om
     generalize x.1*(y/2^32) = z at *
     omega
   refine KB (KB ?_)
   rcases Nat.lt_or_ge x.1 4294967296 with hge|hge
   rotate_left
   ·
    refine KA (oM ?_);refine oP (KF rfl rfl (br_t (br_geq (b:=4294967296)) hge)) ?_;refine oM ?_;refine oK ?_;refine oK ?_;refine oK ?_;refine oK ?_;refine oK ?_;refine oK ?_;refine oK ?_;refine oK ?_;refine oP (Kj rfl rfl) ?_;refine KC ?_
    have hcont:4294967296≤x.1∨(x.1<4294967296∧4294967296*x.2+(lo%4294967296)<x.1*(y%4294967296)):=.inl hge
    have hm:=half_more om (by first|assumption|exact Nat.mod_lt _ om) om hq1 hq2 hcont
    refine KT rfl ?_;refine KN (LCode.block (KB (KA (oM ?_))));refine oP (KK (KF rfl rfl (br_sub64 (b:=1) om)) (vi (b:=x.1-1) (by have:=hm.1; have:x.1<18446744073709551616:=hql; omega))) ?_;refine oA (KC (KB (KA (oM (oM ?_)))));refine oP (KK (KF rfl rfl KAX) (vi (b:=x.2+y/2^32) om)) ?_;refine oA (KC (KB (KA (oM ?_))));refine oP (KF rfl rfl (br_geq (b:=4294967296))) ?_;refine KC ?_
    first|refine KR rfl (fun hbrk=>?_) (fun hbrk=>?_)|refine KS rfl (fun hbrk=>?_) (fun hbrk=>?_)
    ·
     refine Kc ?_
     have hqq:=half_break hy (by first|assumption|exact Nat.mod_lt _ om) hm.2.1 hm.2.2 hbrk
     rw [hqq]
     exact ⟨(),trivial,Ka (by exact ⟨rfl,rfl,rfl,rfl,rfl,rfl,rfl,rfl,trivial⟩) mS⟩
    refine KN ?_;refine ⟨(x.1-1,x.2+y/2^32),⟨hm.2.1,hm.2.2,Nat.lt_of_not_le hbrk⟩,?_,Ka (by exact ⟨rfl,rfl,rfl,rfl,rfl,rfl,rfl,rfl,rfl,trivial⟩) mS⟩
    show x.1-1<x.1
    have:=hm.1
    omega
   refine KA (oM ?_);refine oP (KF rfl rfl (br_f (br_geq (b:=4294967296)) (Nat.not_le_of_lt hge))) ?_;refine oM ?_;refine oGM ?_;refine oGM ?_;refine oGP (KK (KF rfl rfl br_mul64) (vi (b:=x.1*(y%4294967296)) (by exact Nat.mod_eq_of_lt (by have:=Nat.mul_le_mul (show x.1≤4294967295 by omega) (show y%4294967296≤4294967295 by omega); omega)))) ?_;refine oGM ?_;refine oGP (KF rfl rfl (br_mul64 (a:=4294967296))) ?_;refine oGM ?_;refine oGP (KK (KF rfl rfl KAX) (vi (b:=4294967296*x.2+(lo%4294967296)) om)) ?_;refine oGP (KF rfl rfl (br_gtr)) ?_;refine oP (KV rfl rfl) ?_;refine KC ?_
   first|refine KR rfl (fun hgt=>?_) (fun hgt=>?_)|refine KS rfl (fun hgt=>?_) (fun hgt=>?_)
   ·
    have hcont:4294967296≤x.1∨(x.1<4294967296∧4294967296*x.2+(lo%4294967296)<x.1*(y%4294967296)):=.inr ⟨by omega,hgt⟩
    have hm:=half_more om (by first|assumption|exact Nat.mod_lt _ om) om hq1 hq2 hcont
    refine KN (LCode.block (KB (KA (oM ?_))));refine oP (KK (KF rfl rfl (br_sub64 (b:=1) om)) (vi (b:=x.1-1) (by have:=hm.1; have:x.1<18446744073709551616:=hql; omega))) ?_;refine oA (KC (KB (KA (oM (oM ?_)))));refine oP (KK (KF rfl rfl KAX) (vi (b:=x.2+y/2^32) om)) ?_;refine oA (KC (KB (KA (oM ?_))));refine oP (KF rfl rfl (br_geq (b:=4294967296))) ?_;refine KC ?_
    first|refine KR rfl (fun hbrk=>?_) (fun hbrk=>?_)|refine KS rfl (fun hbrk=>?_) (fun hbrk=>?_)
    ·
     refine Kc ?_
     have hqq:=half_break hy (by first|assumption|exact Nat.mod_lt _ om) hm.2.1 hm.2.2 hbrk
     rw [hqq]
     exact ⟨(),trivial,Ka (by exact ⟨rfl,rfl,rfl,rfl,rfl,rfl,rfl,rfl,trivial⟩) mS⟩
    refine KN ?_;refine ⟨(x.1-1,x.2+y/2^32),⟨hm.2.1,hm.2.2,Nat.lt_of_not_le hbrk⟩,?_,Ka (by exact ⟨rfl,rfl,rfl,rfl,rfl,rfl,rfl,rfl,rfl,trivial⟩) mS⟩
    show x.1-1<x.1
    have:=hm.1
    omega
   have hle:x.1*(y%4294967296)≤4294967296*x.2+(lo%4294967296):=Nat.le_of_not_lt hgt
   refine Kc ?_
   have hqq:=half_quit om hq1 hq2 hle
   rw [hqq]
   exact ⟨(),trivial,Ka (by exact ⟨rfl,rfl,rfl,rfl,rfl,rfl,rfl,rfl,trivial⟩) mS⟩
  intro _ _
  refine KB (KA (oM ?_));refine oP (KF rfl rfl (br_mul64 (b:=4294967296))) ?_;refine oM ?_;refine oP (KF rfl rfl (KAX)) ?_;refine oM ?_;refine oP (KF rfl rfl (br_mul64 (b:=4294967296))) ?_;refine oM ?_;refine oP (KF rfl rfl (KAX)) ?_;refine oM (oM ?_);refine oP (KF rfl rfl (br_mul64)) ?_;refine oP (KK (KF rfl rfl (br_sub64 (Nat.mod_lt _ dc))) (vi (b:=(((hi*4294967296+lo/2^32)%y)*4294967296+lo%4294967296)%y) (by exact half_rest om hy2))) ?_;refine oM ?_;refine oP (KK (KF rfl rfl (br_shr64 (b:=0) (Nat.lt_trans (Nat.mod_lt _ om) hy2))) (vi (b:=(((hi*4294967296+lo/2^32)%y)*4294967296+lo%4294967296)%y) (by rw [Nat.pow_zero,Nat.div_one]))) ?_;refine oA (oA (KC (KM ?_)))
  have hv:=halves (hi:=hi) (lo:=lo) (show 0<y by omega)
  have hq9:(hi*18446744073709551616+lo)/y<18446744073709551616:=by
    rw [Nat.div_lt_iff_lt_mul om,Nat.mul_comm]
    omega
  refine ⟨[_,_],.cons rfl (.cons rfl .nil),fun a w' hr=>⟨?_,hr.fr.below⟩⟩
  rw [← hv.1,← hv.2]
  rw [← hv.1] at hq9
  refine congrArg (fun n:Nat=>Ending.returned (.tuple #[.int .u64 (n:Int),_])) ?_
  exact wrap_sum hq9
theorem nw_ne {A:Nat} (h:nw A≠0):2^(64*(nw A-1))≤A:=by
  have h0:A≠0:=by intro e; subst e; exact h rfl
  refine Nat.le_trans (Nat.pow_le_pow_right dc ?_) (blen_pos h0)
  unfold nw at *; omega
theorem bits_words {A:Nat} (h:nw A≠0):(nw A-1)*64+blen (limb A (nw A-1)) = blen A:=by
  have h1:=nw_ne h
  rw [limb_top (A:=A) (n:=nw A-1) (by rw [show nw A-1+1 = nw A by omega]; exact lt_nw A)]
  have:=blen_shr h1
  omega
theorem mod_nw (A:Nat):A%2^(64*nw A) = A:=Nat.mod_eq_of_lt (lt_nw A)
theorem mod_zero_word (A B:Nat):A%2^(64*0)*B = 0:=by rw [Nat.mul_zero,Nat.pow_zero,Nat.mod_one,Nat.zero_mul]
theorem row_end {X c A B i : Nat} (h : X + c * 2 ^ (64 * (i + nw B)) = A % 2 ^ (64 * i) * B + limb A i * (B % 2 ^ (64 * nw B)) * 2 ^ (64 * i)) (hX : X < 2 ^ (64 * (i + nw B))) :
    setl X (i+nw B) c = A%2^(64*(i+1))*B:=by
  have h0:=limb_high hX (Nat.le_refl _)
  have h1:=setl_eq X (i+nw B) c
  rw [h0,Nat.zero_mul,Nat.add_zero] at h1
  rw [h1,h,mod_nw,mod_succ_limb,Nat.add_mul]
  congr 1
  rw [Nat.mul_assoc,Nat.mul_comm,Nat.mul_assoc,Nat.mul_assoc,Nat.mul_comm B]
  exact Nat.mul_assoc _ _ _
theorem row_zero (A B i:Nat):A%2^(64*i)*B+0*2^(64*(i+0)) = A%2^(64*i)*B+limb A i*(B%2^(64*0))*2^(64*i):=by
  rw [Nat.mul_zero,Nat.pow_zero,Nat.mod_one,Nat.mul_zero,Nat.zero_mul,Nat.zero_mul]
theorem row_lt (A B i:Nat):A%2^(64*i)*B<2^(64*(i+nw B)):=by
  rw [pow64_add]
  exact Nat.mul_lt_mul_of_lt_of_le (Nat.mod_lt _ (pow64_pos i)) (Nat.le_of_lt (lt_nw B)) (pow64_pos _)
theorem bit_of (A i:Nat):(limb A (i/64)/2^(i%64) &&& 1) = A/2^i%2:=by
  rw [Nat.and_one_is_mod]
  have h1:A/2^i = A/2^(64*(i/64))/2^(i%64):=by
    rw [Nat.div_div_eq_div_mul,← Nat.pow_add]; congr 2; omega
  rw [h1]
  unfold limb
  generalize A/2^(64*(i/64)) = q
  have hr:i%64<64:=Nat.mod_lt _ dc
  generalize i%64 = r at *
  have e:(18446744073709551616:Nat) = 2^r*(2*2^(63-r)):=by
    rw [← Nat.pow_succ',← Nat.pow_add,show r+(63-r+1) = 64 by omega]
  rw [e,Nat.mod_mul_right_div_self,Nat.mod_mul_right_mod]
theorem c_nat_Mul (A B:Nat) (hA:A<W9) (hB:B<W9) (w:World)  : Calls Tryz.prog 168 ([natV A,natV B]:List Value).toArray w (fun e w'=>e = .returned (wideV (A*B))∧Below w.heap.size w w'):=by
  refine KX (N:=74) (rs:=[.cell 4 204]) [] Tryz.func168 rfl Tryz.ntmps168 Tryz.results168 (Nb rfl) trivial rfl ?_
  refine KB (KA ?_);refine oS (mB (fun b2=>?_));refine oS (mB (fun b3=>?_));refine oS (mk (KL zr_204) (fun b4=>?_));refine KC (KB (KA ?_));refine oS (mk (KL zr_204) (fun b5=>?_));refine KC (KB (KA ?_));refine oS (cF rfl en_131 rfl (fun w hw=>c_nat_used _ _ _ w (mC hw) om) ?_);refine oS (cF rfl en_131 rfl (fun w hw=>c_nat_used _ _ _ w (mC hw) om) ?_);refine oA (oA (KC (KB (KB (KA (oM ?_))))));refine oP (Ki (v:=.int .i64 ((0:Nat):Int)) rfl) ?_;refine KC (LCode.block ?_);refine Ke (α:=Nat) (fun x=>x≤nw A) (fun x=>⟨[(2,.pointer (some ⟨b2,0,none⟩)),(3,.pointer (some ⟨b3,0,none⟩)),(4,.pointer (some ⟨b4,0,none⟩)),(5,.pointer (some ⟨b5,0,none⟩)),(7,.int .i64 ((nw B:Nat):Int)),(16,.int .i64 ((nw A:Nat):Int)),(17,.int .i64 ((x:Nat):Int))],[.blk b5 ⟨true,wideL (A%2^(64*x)*B),204,(0,0)⟩,.blk b4 ⟨true,vec .u64 18 (fun _=>0),204,(0,0)⟩,.blk b3 ⟨true,natL B,33,(0,0)⟩,.blk b2 ⟨true,natL A,33,(0,0)⟩]⟩) (fun x=>nw A-x) (0) (Nat.zero_le _) (KAC (Sub.cells (b:=b5) (cs':=wideL (A%2^(64*0)*B)) (by repeat (first|exact Sh _|apply St_)) (by rw [mod_zero_word]; exact vec_zeros 18)) (Ka ⟨rfl,rfl,rfl,rfl,rfl,rfl,rfl,trivial⟩ mS)) ?_
  intro i hi
  refine KB ?_
  have hA9:=nw_w9 hA
  have hB9:=nw_w9 hB
  refine KA ?_;refine oP (KF rfl rfl (KAF)) ?_;refine KC (KB ?_)
  first|refine KR rfl (fun h18=>?_) (fun h18=>?_)|refine KS rfl (fun h18=>?_) (fun h18=>?_)
  ·
   refine KN (KB (LCode.block (KB (KA (oM (oA (KC (KB (KA ?_)))))))));refine oP (KO (v:=.int .u64 ((0:Nat):Int)) rfl) ?_;refine KC (KB (KB (KA (oM ?_))));refine oP (Ki (v:=.int .i64 ((0:Nat):Int)) rfl) ?_;refine KC (LCode.block ?_);refine Ke (α:=Nat×Nat×Nat) (fun x=>x.1≤nw B∧x.2.2<18446744073709551616∧x.2.1<2^(64*(i+nw B))∧x.2.1+x.2.2*2^(64*(i+x.1)) = A%2^(64*i)*B+limb A i*(B%2^(64*x.1))*2^(64*i)) (fun x=>⟨[(2,.pointer (some ⟨b2,0,none⟩)),(3,.pointer (some ⟨b3,0,none⟩)),(4,.pointer (some ⟨b4,0,none⟩)),(5,.pointer (some ⟨b5,0,none⟩)),(7,.int .i64 ((nw B:Nat):Int)),(8,.int .i64 ((i:Nat):Int)),(9,.int .u64 ((x.2.2:Nat):Int)),(16,.int .i64 ((nw A:Nat):Int)),(17,.int .i64 ((i:Nat):Int)),(20,.int .i64 ((nw B:Nat):Int)),(21,.int .i64 ((x.1:Nat):Int))],[.blk b5 ⟨true,wideL x.2.1,204,(0,0)⟩,.blk b4 ⟨true,vec .u64 18 (fun _=>0),204,(0,0)⟩,.blk b3 ⟨true,natL B,33,(0,0)⟩,.blk b2 ⟨true,natL A,33,(0,0)⟩]⟩) (fun x=>nw B-x.1) ((0,A%2^(64*i)*B,0)) (⟨Nat.zero_le _,show (0:Nat)<18446744073709551616 by decide,row_lt A B i,row_zero A B i⟩) (Ka ⟨rfl,rfl,rfl,rfl,rfl,rfl,rfl,rfl,rfl,rfl,rfl,trivial⟩ mS) ?_
   intro x ⟨hx1,hx2,hx3,hx4⟩
   refine KB (KA ?_);refine oP (KF rfl rfl (KAF)) ?_;refine KC (KB ?_)
   first|refine KR rfl (fun h22=>?_) (fun h22=>?_)|refine KS rfl (fun h22=>?_) (fun h22=>?_)
   ·
    refine KN (KB (LCode.block (KB (KA (oM (oA (KC (KB ?_))))))))
    have hla:=limb_lt A i
    have hlb:=limb_lt B x.1
    have hlx:=limb_lt x.2.1 (i+x.1)
    have h18:i<nw A:=h18
    have h22:x.1<nw B:=h22
    refine rD [] ?_;refine aM 0 ?_;refine aP 1 rfl (KE (o':=0) u33 rfl rfl rfl sz_31 dc) ?_;refine aP 2 rfl (KP u31 sz_30 rfl rfl om) ?_;refine aD 3 rfl (dL rfl (hv:=KJ u30 rfl (by exact KY _ (show i<9 by omega)))) ?_;refine aM 4 ?_;refine aP 5 rfl (KE (o':=0) u33 rfl rfl rfl sz_31 dc) ?_;refine aP 6 rfl (KP u31 sz_30 rfl rfl om) ?_;refine aD 7 rfl (dL rfl (hv:=KJ u30 rfl (by exact KY _ (show x.1<9 by omega)))) ?_;refine aO 8 rfl (cF rfl en_123 rfl (fun w hw=>c_Mul64 _ _ om om w) ?_);refine aM 9 ?_;refine aP 10 rfl (Det.extract rfl rfl) ?_;refine aP 11 rfl (Det.extract rfl rfl) ?_;refine aA 12 ?_;refine aA 13 ?_;refine aE ?_;refine KB (KA ?_);refine oP (KO (v:=.int .u64 ((0:Nat):Int)) rfl) ?_;refine KC (KB (KA (oM (oM (oM ?_)))));refine oP (KF rfl rfl (Ko om)) ?_;refine oP (KE (o':=0) u204 rfl rfl rfl sz_202 dc) ?_
    refine oP (KP u202 sz_30 rfl rfl om) ?_;refine oD (dL rfl (hv:=KJ u30 rfl (by exact Kb _ (show i+x.1<18 by omega)))) ?_;refine oP (Det.add64 (c:=0) ex_145 rfl rfl rfl om) ?_;refine oM ?_;refine oP (Det.extract rfl rfl) ?_;refine oP (Det.extract rfl rfl) ?_;refine oA (oA (KC (KB (KA (oM (oM ?_))))));refine oP (KF rfl rfl (KAX)) ?_;refine oA (KC (KB (KA (oM (oM ?_)))));refine oP (Det.add64 (c:=0) ex_145 rfl rfl rfl om) ?_;refine oM ?_;refine oP (Det.extract rfl rfl) ?_;refine oP (Det.extract rfl rfl) ?_;refine oA (oA (KC (KA (oM (oM ?_)))));refine oP (KF rfl rfl (Ko om)) ?_;refine oM (oM (oM ?_));refine oP (KF rfl rfl (KAX)) ?_;refine oP (KE (o':=0) u204 rfl rfl rfl sz_202 dc) ?_;refine oP (KP u202 sz_30 rfl rfl om) ?_;refine LOps.step rfl (KZ rfl rfl rfl sz_30 (by repeat (first|exact Sh _|apply St_)) (by first|(simp only [KQ,KI,Kh,Ks]; omega)|(simp; done)|(simp; omega)) (by first|exact KAG _ _ _ _ _|exact KAM _ _ _ _ om|exact KAL _ _ _ _|rfl) (by simp) ?_)
    refine oA (KC (KA ?_));refine oP (KF rfl rfl (Ko (b:=1) om)) ?_;refine oM (KC ?_)
    have hw:=row_word (limb_lt A i) (limb_lt B x.1) (limb_lt x.2.1 (i+x.1)) hx2
    have hp:=row_parts (limb_lt x.2.1 (i+x.1)) hx2 hw
    refine ⟨(x.1+1,setl x.2.1 (i+x.1) ((limb A i*limb B x.1+limb x.2.1 (i+x.1)+x.2.2)%18446744073709551616),(limb A i*limb B x.1+limb x.2.1 (i+x.1)+x.2.2)/18446744073709551616),⟨by omega,by dsimp only; omega,setl_lt hx3 om (Nat.mod_lt _ dc),row_step hx4 rfl rfl⟩,by dsimp only; omega,
      KAC (Sub.cells (b:=b5) (cs':=wideL (setl x.2.1 (i+x.1) ((limb A i*limb B x.1+limb x.2.1 (i+x.1)+x.2.2)%18446744073709551616))) (by repeat (first|exact Sh _|apply St_)) ?_) (Ka ⟨rfl,rfl,rfl,rfl,rfl,rfl,congrArg some (vi hp.2),rfl,rfl,rfl,rfl,trivial⟩ mS)⟩
    rw [hp.1]
    exact vec_setl (Nat.mod_lt _ dc)
   refine Kc ?_
   have h18:i<nw A:=h18
   refine KA (oM (oM ?_));refine oP (KF rfl rfl (Ko om)) ?_;refine oM ?_;refine oP (KE (o':=0) u204 rfl rfl rfl sz_202 dc) ?_;refine oP (KP u202 sz_30 rfl rfl om) ?_;refine LOps.step rfl (KZ rfl rfl rfl sz_30 (by repeat (first|exact Sh _|apply St_)) (by first|(simp only [KQ,KI,Kh,Ks]; omega)|(simp; done)|(simp; omega)) (by first|exact KAG _ _ _ _ _|exact KAM _ _ _ _ om|exact KAL _ _ _ _|rfl) (by simp) ?_);refine KC (KA ?_);refine oP (KF rfl rfl (Ko (b:=1) om)) ?_;refine oM (KC ?_);refine ⟨i+1,by omega,by omega,KAC (Sub.cells (b:=b5) (cs':=wideL (A%2^(64*(i+1))*B)) (by repeat (first|exact Sh _|apply St_)) ?_) (Ka ⟨rfl,rfl,rfl,rfl,rfl,rfl,rfl,trivial⟩ mS)⟩
   have hk:x.1 = nw B:=by omega
   rw [hk] at hx4
   rw [← row_end hx4 hx3]
   exact vec_setl hx2
  refine Kc (KB (KA ?_));refine oD (dL rfl (hv:=by exact KD u204 rfl sz_204)) ?_;refine LOps.step rfl (sA rfl rfl sz_204 mO (hl:=mL) (h:=?_));refine KC (KM ?_)
  have hi9:i = nw A:=by omega
  subst hi9
  refine ⟨[_],.cons ⟨_,_,_,rfl,mM,by exact KD u204 rfl sz_204⟩ .nil,fun a w' hr=>⟨?_,hr.fr.below⟩⟩
  rw [mod_nw]
  rfl
theorem c_nat_Bits (A:Nat) (hA:A<W9) (w:World)  : Calls Tryz.prog 81 ([natV A]:List Value).toArray w (fun e w'=>e = .returned (.int .i64 ((blen A:Nat):Int))∧Below w.heap.size w w'):=by
  refine KX (N:=17) (rs:=[.tmp 2]) [] Tryz.func81 rfl Tryz.ntmps81 Tryz.results81 (Nb rfl) trivial rfl ?_
  refine KB (KA ?_);refine oS (mB (fun b1=>?_));refine oP (KO (v:=.int .i64 ((0:Nat):Int)) rfl) ?_;refine KC (KB (KA ?_));refine oS (cF rfl en_131 rfl (fun w hw=>c_nat_used _ _ _ w (mC hw) om) ?_);refine oA (KC (KB (KB (KA (oM ?_)))));refine oP (KF rfl rfl (Kz (b:=0))) ?_;refine KC ?_
  first|refine KR rfl (fun h6=>?_) (fun h6=>?_)|refine KS rfl (fun h6=>?_) (fun h6=>?_)
  ·
   refine KB (KA ?_);refine oP (KO (v:=.int .i64 ((0:Nat):Int)) rfl) ?_;refine KC (KM ?_)
   have hz:blen A = 0:=by
     unfold nw at h6
     omega
   refine ⟨[_],.cons rfl .nil,fun a w' hr=>⟨?_,hr.fr.below⟩⟩
   rw [hz]
   rfl
  have hA9:=nw_w9 hA
  have hbl:blen (limb A (nw A-1))≤64:=blen_le (limb_lt _ _)
  have hll:=limb_lt A (nw A-1)
  refine KN (KB (KA (oM ?_)));refine oP (KF rfl rfl (KAb (b:=1) om om)) ?_;refine oP (KF rfl rfl (br_mul (b:=64) om)) ?_;refine oM ?_;refine oP (KF rfl rfl (KAb (b:=1) om om)) ?_;refine oP (KE (o':=0) u33 rfl rfl rfl sz_31 dc) ?_;refine oP (KP u31 sz_30 rfl rfl om) ?_;refine oD (dL rfl (hv:=KJ u30 rfl (by exact KY _ (show nw A-1<9 by omega)))) ?_;refine oS (cF rfl en_132 rfl (fun w hw=>c_Len64 _ om w) ?_);refine oP (KF rfl rfl (Ko om)) ?_;refine oA (KC (KM ?_));refine ⟨[_],.cons rfl .nil,fun a w' hr=>⟨?_,hr.fr.below⟩⟩
  rw [← bits_words h6]
  rfl
theorem c_nat_Bit (A i:Nat) (hA:A<W9) (hi:i<576) (w:World)  : Calls Tryz.prog 57 ([natV A,.int .i64 ((i:Nat):Int)]:List Value).toArray w (fun e w'=>e = .returned (.int .i64 ((A/2^i%2:Nat):Int))∧Below w.heap.size w w'):=by
  refine KX (N:=21) (rs:=[.tmp 4]) [] Tryz.func57 rfl Tryz.ntmps57 Tryz.results57 (Nb rfl) trivial rfl ?_
  refine KB (KA ?_);refine oS (mB (fun b2=>?_));refine oP (KO (v:=.int .i64 ((0:Nat):Int)) rfl) ?_;refine KC (KB (KB (KA (oM ?_))));refine oP (KF rfl rfl (br_f (KAF (b:=0)) (Nat.not_lt_zero _))) ?_;refine oM ?_;refine oGM ?_;refine oGP (KF rfl rfl (br_f (br_geq (b:=576)) om)) ?_;refine oP (KV rfl rfl) ?_;refine KC ?_;refine KH rfl ?_;refine KN (KB (KA (oM ?_)));refine oP (KF rfl rfl (br_quo (b:=64) om om)) ?_;refine oP (KE (o':=0) u33 rfl rfl rfl sz_31 dc) ?_;refine oP (KP u31 sz_30 rfl rfl om) ?_;refine oD (dL rfl (hv:=KJ u30 rfl (by exact KY _ (show i/64<9 by omega)))) ?_;refine oM ?_;refine oP (KF rfl rfl (br_rem (b:=64) om)) ?_;refine oP (KF rfl rfl (br_shr64 (limb_lt _ _))) ?_;refine oP (KK (KF rfl rfl (br_and64 (b:=1) (Nat.lt_of_le_of_lt (Nat.div_le_self _ _) (limb_lt _ _)) dc)) (vi (bit_of A i))) ?_;refine oP (Det.convi u30 u3 rfl (Nat.lt_trans (Nat.mod_lt _ dc) dc)) ?_
  refine oA (KC (KM ?_));refine ⟨[_],.cons rfl .nil,fun a w' hr=>⟨?_,hr.fr.below⟩⟩
  rfl
theorem c_nat_Shr (A k:Nat) (hA:A<W9) (hk:k≤576) (w:World)  : Calls Tryz.prog 83 ([natV A,.int .i64 ((k:Nat):Int)]:List Value).toArray w (fun e w'=>e = .returned (.tuple #[natV (A/2^k),.int .i64 ((0:Nat):Int)])∧Below w.heap.size w w'):=by
  refine KX (N:=61) (rs:=[.cell 4 33,.tmp 5]) [] Tryz.func83 rfl Tryz.ntmps83 Tryz.results83 (Nb rfl) trivial rfl ?_
  refine KB (KA ?_);refine oS (mB (fun b2=>?_));refine oS (mk (KL zr_33) (fun b4=>?_));refine oP (KO (v:=.int .i64 ((0:Nat):Int)) rfl) ?_;refine KC (KB (KB (KA (oM ?_))));refine oP (KF rfl rfl (br_f (KAF (b:=0)) (Nat.not_lt_zero _))) ?_;refine oM ?_;refine oGM ?_;refine oGP (KF rfl rfl (br_f (br_gtr (b:=576)) om)) ?_;refine oP (KV rfl rfl) ?_;refine KC ?_;refine KH rfl ?_;refine KN (KB (KA ?_));refine oS (mk (KL zr_33) (fun b6=>?_));refine KC (KB (KA (oM ?_)));refine oP (KF rfl rfl (br_quo (b:=64) om om)) ?_;refine oM ?_;refine oP (KF rfl rfl (br_rem (b:=64) om)) ?_;refine oA (oA (KC (KB (KB (KA (oM ?_))))));refine oP (KF rfl rfl (KAb (a:=9) om om)) ?_;refine oP (Ki (v:=.int .i64 ((0:Nat):Int)) rfl) ?_;refine KC (LCode.block ?_);refine Ke (α:=Nat) (fun x=>x≤9-k/64) (fun x=>⟨[(2,.pointer (some ⟨b2,0,none⟩)),(4,.pointer (some ⟨b4,0,none⟩)),(6,.pointer (some ⟨b6,0,none⟩)),(7,.int .i64 ((k/64:Nat):Int)),(8,.int .i64 ((k%64:Nat):Int)),(22,.int .i64 ((9-k/64:Nat):Int)),(23,.int .i64 ((x:Nat):Int))],[.blk b6 ⟨true,vec .u64 9 (fun j=>if j<x then limb (A/2^k) j else 0),33,(0,0)⟩,.blk b4 ⟨true,vec .u64 9 (fun _=>0),33,(0,0)⟩,.blk b2 ⟨true,natL A,33,(0,0)⟩]⟩) (fun x=>9-k/64-x) (0) (Nat.zero_le _) (Ka ⟨rfl,rfl,rfl,rfl,rfl,rfl,rfl,trivial⟩ mS) ?_
  intro x hx
  refine KB (KA ?_);refine oP (KF rfl rfl (KAF)) ?_;refine KC (KB ?_)
  first|refine KR rfl (fun h24=>?_) (fun h24=>?_)|refine KS rfl (fun h24=>?_) (fun h24=>?_)
  ·
   have h24:x<9-k/64:=h24
   refine KN (KB (LCode.block (KB (KA (oM (oA (KC (KB (KA (oM (oM (oM ?_))))))))))));refine oP (KF rfl rfl (Ko om)) ?_;refine oP (KE (o':=0) u33 rfl rfl rfl sz_31 dc) ?_;refine oP (KP u31 sz_30 rfl rfl om) ?_;refine oD (dL rfl (hv:=KJ u30 rfl (by exact KY _ (show x+k/64<9 by omega)))) ?_;refine oM ?_;refine oP (KF rfl rfl (br_shr64 (limb_lt _ _))) ?_;refine oP (KE (o':=0) u33 rfl rfl rfl sz_31 dc) ?_;refine oP (KP u31 sz_30 rfl rfl om) ?_;refine LOps.step rfl (KZ rfl rfl rfl sz_30 (by repeat (first|exact Sh _|apply St_)) (by first|(simp only [KQ,KI,Kh,Ks]; omega)|(simp; done)|(simp; omega)) (by first|exact KAG _ _ _ _ _|exact KAM _ _ _ _ om|exact KAL _ _ _ _|rfl) (by simp) ?_);refine KC (KB (KA (oM (oM ?_))));refine oP (KF rfl rfl (Ko om)) ?_;refine oP (KF rfl rfl (Ko (b:=1) om)) ?_;refine oP (KF rfl rfl (KAF (b:=9))) ?_
   refine KC ?_
   first|refine KR rfl (fun h41=>?_) (fun h41=>?_)|refine KS rfl (fun h41=>?_) (fun h41=>?_)
   ·
    have h41:x+k/64+1<9:=h41
    refine rD [17] ?_;refine aM 0 ?_;refine aP 1 rfl (KE (o':=0) u33 rfl rfl rfl sz_31 dc) ?_;refine aP 2 rfl (KP u31 sz_30 rfl rfl om) ?_;refine aD 3 rfl (Det.load (v:=.int .u64 ((limb A (x+k/64)/2^(k%64):Nat):Int)) rfl mM (KJ u30 rfl (by exact (KU _ _ _ om).trans (by simp)))) ?_;refine aM 4 ?_;refine aM 5 ?_;refine aP 6 rfl (KF rfl rfl (Ko om)) ?_;refine aP 7 rfl (KF rfl rfl (Ko (b:=1) om)) ?_;refine aP 8 rfl (KE (o':=0) u33 rfl rfl rfl sz_31 dc) ?_;refine aP 9 rfl (KP u31 sz_30 rfl rfl om) ?_;refine aD 10 rfl (dL rfl (hv:=KJ u30 rfl (by exact KY _ (show x+k/64+1<9 by omega)))) ?_;refine aM 11 ?_;refine aP 12 rfl (KF rfl rfl (KAb (a:=64) om om)) ?_;refine aP 13 rfl (KF rfl rfl (br_shl64)) ?_;refine aP 14 rfl (KF rfl rfl (br_or64 (Nat.lt_of_le_of_lt (Nat.div_le_self _ _) (limb_lt _ _)) (Nat.mod_lt _ dc))) ?_
    refine aP 15 rfl (KE (o':=0) u33 rfl rfl rfl sz_31 dc) ?_;refine aP 16 rfl (KP u31 sz_30 rfl rfl om) ?_;refine aL 17 rfl (KZ rfl rfl rfl sz_30 (by repeat (first|exact Sh _|apply St_)) (by first|(simp only [KQ,KI,Kh,Ks]; omega)|(simp; done)|(simp; omega)) (by first|exact KAG _ _ _ _ _|exact KAM _ _ _ _ om|exact KAL _ _ _ _|rfl) (by simp) ?_);refine aE ?_;refine KA ?_;refine oP (KF rfl rfl (Ko (b:=1) om)) ?_;refine oM (KC ?_);refine ⟨x+1,by omega,by omega,KAC (Sub.cells (b:=b6) (cs':=vec .u64 9 (fun j=>if j<x+1 then limb (A/2^k) j else 0)) (by repeat (first|exact Sh _|apply St_)) ?_) (Ka ⟨rfl,rfl,rfl,rfl,rfl,rfl,rfl,trivial⟩ mS)⟩
    apply Kr
    intro j hj
    have hs:=shr_or (A:=A) (w:=k/64) (r:=k%64) (i:=j) (Nat.mod_lt _ dc)
    rw [Nat.div_add_mod] at hs
    by_cases e:j = x
    · subst e; rw [if_pos rfl,if_pos om]; exact hs
    · rw [if_neg e,if_neg e]
      by_cases e2:j<x
      · rw [if_pos e2,if_pos om]
      · rw [if_neg e2,if_neg om]
   have h41:¬ x+k/64+1<9:=h41
   refine KN (KA ?_);refine oP (KF rfl rfl (Ko (b:=1) om)) ?_;refine oM (KC ?_);refine ⟨x+1,by omega,by omega,KAC (Sub.cells (b:=b6) (cs':=vec .u64 9 (fun j=>if j<x+1 then limb (A/2^k) j else 0)) (by repeat (first|exact Sh _|apply St_)) ?_) (Ka ⟨rfl,rfl,rfl,rfl,rfl,rfl,rfl,trivial⟩ mS)⟩
   apply Kr
   intro j hj
   have hs:=shr_or (A:=A) (w:=k/64) (r:=k%64) (i:=j) (Nat.mod_lt _ dc)
   rw [Nat.div_add_mod] at hs
   by_cases e:j = x
   · subst e
     rw [if_pos rfl,if_pos om,← hs,limb_high (lt_w9_pow hA 9 rfl) (show 9≤j+k/64+1 by omega),Nat.zero_mul,Nat.zero_mod,Nat.or_zero]
   · rw [if_neg e]
     by_cases e2:j<x
     · rw [if_pos e2,if_pos om]
     · rw [if_neg e2,if_neg om]
  have h24:¬ x<9-k/64:=h24
  refine Kc (KB (KA ?_));refine oD dNa ?_;refine LOps.step rfl (sA rfl rfl sz_33 mO (hl:=mL) (h:=?_));refine oP (KO (v:=.int .i64 ((0:Nat):Int)) rfl) ?_;refine KC (KM ?_)
  have hx9:x = 9-k/64:=by omega
  subst hx9
  refine ⟨[_,_],.cons ⟨_,_,_,rfl,mM,by exact KD u33 rfl sz_33⟩ (.cons rfl .nil),fun a w' hr=>⟨?_,hr.fr.below⟩⟩
  have h1:(vec IntKind.u64 9 fun j=>if j<9-k/64 then limb (A/2^k) j else 0) = natL (A/2^k):=by
    apply Kr
    intro j hj
    by_cases e:j<9-k/64
    · rw [if_pos e]
    · rw [if_neg e]
      have hs:=limb_shr A (k/64) (k%64) j (Nat.mod_lt _ dc)
      rw [Nat.div_add_mod,limb_high (lt_w9_pow hA 9 rfl) (show 9≤j+k/64 by omega),limb_high (lt_w9_pow hA 9 rfl) (show 9≤j+k/64+1 by omega)] at hs
      rw [hs]; simp
  show Ending.returned (.tuple #[.agg (vec IntKind.u64 9 fun j=>if j<9-k/64 then limb (A/2^k) j else 0).toArray,_]) = _
  rw [h1]
  rfl
theorem KAU (x:Nat) (hx:x<9223372036854775808) (w:World)  : Calls Tryz.prog 80 ([.int .i64 ((x:Nat):Int)]:List Value).toArray w (fun e w'=>e = .returned (natV x)∧Below w.heap.size w w'):=by
  refine KX (N:=8) (rs:=[.cell 2 33]) [] Tryz.func80 rfl Tryz.ntmps80 Tryz.results80 (Nb rfl) trivial rfl ?_
  refine KB (KA ?_);refine oS (mk (KL zr_33) (fun b2=>?_));refine KC (KB (KA (oM ?_)));refine oP (Det.max0 rfl rfl) ?_;refine oP (Det.conv64 u3 u30 rfl (by first|omega|exact Nat.lt_trans (D.limb_lt _ _) dc)) ?_;refine oP (Kd pl_31 zr_31 rfl (by exact fill_small om)) ?_;refine oP (Kd pl_33 zr_33 rfl (by exact fillL_whole (KQ _ _ _) (KI _))) ?_;refine LOps.step rfl (sA rfl rfl sz_33 mO (hl:=mL) (h:=?_));refine KC (KM ?_);refine ⟨[_],.cons ⟨_,_,_,rfl,mM,by exact KD u33 rfl sz_33⟩ .nil,fun a w' hr=>⟨?_,hr.fr.below⟩⟩
  rfl
theorem drop_step {l:List UInt8} {x:Nat} (h:x<l.length):l.drop (l.length-(x+1)) = l.getD (l.length-1-x) 0 :: l.drop (l.length-x):=by
  rw [show l.length-x = l.length-(x+1)+1 by omega,List.drop_eq_getElem_cons om]
  congr 1
  rw [List.getD_eq_getElem?_getD,List.getElem?_eq_getElem om]
  simp only [Option.getD_some]
  congr 1
  omega
theorem beVal_step {l:List UInt8} {x:Nat} (h:x<l.length):beVal (l.drop (l.length-(x+1))) = (l.getD (l.length-1-x) 0).toNat*256^x+beVal (l.drop (l.length-x)):=by
  rw [drop_step h,beVal,List.length_drop,show l.length-(l.length-x) = x by omega]
theorem beVal_drop (l:List UInt8) (x:Nat) (h:x≤l.length):beVal (l.drop (l.length-x))<256^x:=by
  have:=beVal_lt (l.drop (l.length-x))
  rwa [List.length_drop,show l.length-(l.length-x) = x by omega] at this
theorem size_list (s:ByteArray):s.data.toList.length = s.size:=rfl
theorem pow256_w9 {n:Nat} (h:n≤72):256^n≤W9:=by
  obtain ⟨j,hj⟩:∃ j:Nat,j = 9:=⟨9,rfl⟩
  rw [← w9 hj,pow256]
  exact Nat.pow_le_pow_right dc om
theorem beVal_w9 {l:List UInt8} (h:l.length≤72):beVal l<W9:=Nat.lt_of_lt_of_le (beVal_lt l) (pow256_w9 h)
theorem c_nat_Of (s:ByteArray) (hs:s.size<9223372036854775808) (w:World)  : Calls Tryz.prog 49 ([.string s]:List Value).toArray w (fun e w'=>e = .returned (if 72<s.size then .tuple #[natV 0,.int .i64 ((100:Nat):Int)] else .tuple #[natV (beVal s.data.toList),.int .i64 ((0:Nat):Int)])∧Below w.heap.size w w'):=by
  refine KX (N:=39) (rs:=[.cell 2 33,.tmp 3]) [] Tryz.func49 rfl Tryz.ntmps49 Tryz.results49 (Nb rfl) trivial rfl ?_
  refine KB (KA ?_);refine oS (mk (KL zr_33) (fun b2=>?_));refine oP (KO (v:=.int .i64 ((0:Nat):Int)) rfl) ?_;refine KC (KB (KB ?_))
  have hsz:s.size<9223372036854775808:=by omega
  refine KA (oM ?_);refine oP (KAZ u9 rfl) ?_;refine oP (KF rfl rfl (br_gtr (b:=72))) ?_;refine KC ?_
  first|refine KR rfl (fun h9=>?_) (fun h9=>?_)|refine KS rfl (fun h9=>?_) (fun h9=>?_)
  ·
   have h9:72<s.size:=h9
   refine KB (KA ?_);refine oP (Kd pl_33 zr_33 rfl rfl) ?_;refine LOps.step rfl (sA rfl rfl sz_33 mO (hl:=mL) (h:=?_));refine oP (KO (v:=.int .i64 ((100:Nat):Int)) rfl) ?_;refine KC (KM ?_);refine ⟨[_,_],.cons ⟨_,_,_,rfl,mM,by exact KD u33 rfl sz_33⟩ (.cons rfl .nil),fun a w' hr=>⟨?_,hr.fr.below⟩⟩
   rw [if_pos h9]
   refine congrArg (fun l:List Value=>Ending.returned (.tuple #[.agg l.toArray,_])) ?_
   exact vec_zeros 9
  have h9:¬ 72<s.size:=h9
  refine KN (KB (KA ?_));refine oS (mk (KL zr_33) (fun b4=>?_));refine KC (KB (KB (KA (oM ?_))));refine oP (KAZ u9 rfl) ?_;refine oP (Ki (v:=.int .i64 ((0:Nat):Int)) rfl) ?_;refine KC (LCode.block ?_);refine Ke (α:=Nat) (fun x=>x≤s.size) (fun x=>⟨[(0,.string s),(2,.pointer (some ⟨b2,0,none⟩)),(4,.pointer (some ⟨b4,0,none⟩)),(12,.int .i64 ((s.size:Nat):Int)),(13,.int .i64 ((x:Nat):Int))],[.blk b4 ⟨true,natL (beVal (s.data.toList.drop (s.size-x))),33,(0,0)⟩,.blk b2 ⟨true,vec .u64 9 (fun _=>0),33,(0,0)⟩]⟩) (fun x=>s.size-x) (0) (Nat.zero_le _) (KAC (Sub.cells (b:=b4) (cs':=natL (beVal (s.data.toList.drop (s.size-0)))) (by repeat (first|exact Sh _|apply St_)) (by rw [Nat.sub_zero,← size_list,List.drop_length]; exact vec_zeros 9)) (Ka ⟨rfl,rfl,rfl,rfl,rfl,trivial⟩ mS)) ?_
  intro x hx
  refine KB (KA ?_);refine oP (KF rfl rfl (KAF)) ?_;refine KC (KB ?_)
  first|refine KR rfl (fun h14=>?_) (fun h14=>?_)|refine KS rfl (fun h14=>?_) (fun h14=>?_)
  ·
   have h14:x<s.size:=h14
   refine KN (KB (LCode.block (KB (KA (oM (oA (KC (KB (KA (oM ?_))))))))));refine oP (KAZ u9 rfl) ?_;refine oP (KF rfl rfl (KAb (b:=1) om om)) ?_;refine oM ?_;refine oP (KF rfl rfl (KAb om om)) ?_;refine oA (KC ?_);refine rD [16] ?_;refine aM 0 ?_;refine aP 1 rfl (KF rfl rfl (br_quo (b:=8) om om)) ?_;refine aP 2 rfl (KE (o':=0) u33 rfl rfl rfl sz_31 dc) ?_;refine aP 3 rfl (KP u31 sz_30 rfl rfl om) ?_;refine aD 4 rfl (dL rfl (hv:=KJ u30 rfl (by exact KY _ (show x/8<9 by omega)))) ?_;refine aM 5 ?_;refine aM 6 ?_;refine aP 7 rfl (KK (KAI u9 rfl rfl om om) (vi (b:=(s.data.toList.getD (s.size-1-x) 0).toNat) (by rw [Int.toNat_natCast]))) ?_;refine aP 8 rfl (Det.conv64 u5 u30 rfl (Nat.lt_trans (UInt8.toNat_lt _) dc)) ?_;refine aM 9 ?_;refine aP 10 rfl (KF rfl rfl (br_rem (b:=8) om)) ?_;refine aP 11 rfl (KF rfl rfl (br_mul (a:=8) om)) ?_
   refine aP 12 rfl (KF rfl rfl (br_shl64)) ?_;refine aP 13 rfl (KF rfl rfl (br_or64 (limb_lt _ _) (Nat.mod_lt _ dc))) ?_;refine aP 14 rfl (KE (o':=0) u33 rfl rfl rfl sz_31 dc) ?_;refine aP 15 rfl (KP u31 sz_30 rfl rfl om) ?_;refine aL 16 rfl (KZ rfl rfl rfl sz_30 (by repeat (first|exact Sh _|apply St_)) (by first|(simp only [KQ,KI,Kh,Ks]; omega)|(simp; done)|(simp; omega)) (by first|exact KAG _ _ _ _ _|exact KAM _ _ _ _ om|exact KAL _ _ _ _|rfl) (by simp) ?_);refine aE ?_;refine KA ?_;refine oP (KF rfl rfl (Ko (b:=1) om)) ?_;refine oM (KC ?_)
   have hb:=limb_byte (i:=x) (beVal_drop s.data.toList x hx) (UInt8.toNat_lt (s.data.toList.getD (s.data.toList.length-1-x) 0))
   refine ⟨x+1,by omega,by omega,KAC (Sub.cells (b:=b4) (cs':=natL (beVal (s.data.toList.drop (s.size-(x+1))))) (by repeat (first|exact Sh _|apply St_)) ?_) (Ka ⟨rfl,rfl,rfl,rfl,rfl,trivial⟩ mS)⟩
   have hs:=beVal_step (l:=s.data.toList) (x:=x) h14
   rw [size_list] at hs hb
   rw [hs]
   exact Kr fun j _=>(hb.2 j).symm
  have h14:¬ x<s.size:=h14
  refine Kc (KB (KA ?_));refine oD dNa ?_;refine LOps.step rfl (sA rfl rfl sz_33 mO (hl:=mL) (h:=?_));refine oP (KO (v:=.int .i64 ((0:Nat):Int)) rfl) ?_;refine KC (KM ?_)
  have hx9:x = s.size:=by omega
  subst hx9
  refine ⟨[_,_],.cons ⟨_,_,_,rfl,mM,by exact KD u33 rfl sz_33⟩ (.cons rfl .nil),fun a w' hr=>⟨?_,hr.fr.below⟩⟩
  rw [if_neg h9,Nat.sub_self,List.drop_zero]
  rfl
theorem c_nat_Bytes (A n:Nat) (hA:A<W9) (hn:n≤72) (w:World)  : Calls Tryz.prog 47 ([natV A,.int .i64 ((n:Nat):Int)]:List Value).toArray w (fun e w'=>e = .returned (if 8*n<blen A then .tuple #[.string ⟨#[]⟩,.int .i64 ((101:Nat):Int)] else .tuple #[.string (strOf (beBytes n A)),.int .i64 ((0:Nat):Int)])∧Below w.heap.size w w'):=by
  refine KX (N:=47) (rs:=[.tmp 4,.tmp 5]) [] Tryz.func47 rfl Tryz.ntmps47 Tryz.results47 (Nb rfl) trivial rfl ?_
  refine KB (KA ?_);refine oS (mB (fun b2=>?_));refine oA ?_;refine oP (KO (v:=.int .i64 ((0:Nat):Int)) rfl) ?_;refine KC (KB (KB (KA (oM ?_))));refine oP (KF rfl rfl (br_f (KAF (b:=0)) (Nat.not_lt_zero _))) ?_;refine oM ?_;refine oGM ?_;refine oGP (KF rfl rfl (br_f (br_gtr (b:=72)) om)) ?_;refine oP (KV rfl rfl) ?_;refine oM ?_;refine KAA rfl rfl dNa (Nb rfl) ?_;refine oGS (cF rfl en_81 rfl (fun w hw=>c_nat_Bits _ om w) ?_);refine oGM ?_;refine oGP (KF rfl rfl (br_mul (a:=8) om)) ?_;refine oGP (KF rfl rfl (br_gtr)) ?_;refine oP (KV rfl rfl) ?_;refine KC ?_
  first|refine KR rfl (fun h20=>?_) (fun h20=>?_)|refine KS rfl (fun h20=>?_) (fun h20=>?_)
  ·
   have h20:8*n<blen A:=h20
   refine KB (KA (oA ?_));refine oP (KO (v:=.int .i64 ((101:Nat):Int)) rfl) ?_;refine KC (KM ?_);refine ⟨[_,_],.cons rfl (.cons rfl .nil),fun a w' hr=>⟨?_,hr.fr.below⟩⟩
   rw [if_pos h20]
   rfl
  have h20:¬ 8*n<blen A:=h20
  refine KN (KB (KA (oM ?_)));refine oS (mk (Makes.mkV u70 inf_5 rfl rfl om om) (fun b22=>?_));refine oA (KC (KB (KB (KA (oM ?_)))));refine oP (Det.len u70 rfl) ?_;refine oP (Ki (v:=.int .i64 ((0:Nat):Int)) rfl) ?_;refine KC (LCode.block ?_);refine Ke (α:=Nat) (fun x=>x≤n) (fun x=>⟨[(1,.int .i64 ((n:Nat):Int)),(2,.pointer (some ⟨b2,0,none⟩)),(6,.slice (some ⟨b22,0,none⟩) n n),(24,.int .i64 ((n:Nat):Int)),(25,.int .i64 ((x:Nat):Int))],[.blk b22 ⟨true,vec .u8 n (fun j=>if n-x≤j then A/256^(n-1-j)%256 else 0),5,(0,0)⟩,.blk b2 ⟨true,natL A,33,(0,0)⟩]⟩) (fun x=>n-x) (0) (Nat.zero_le _) (KAC (Sub.cells (b:=b22) (cs':=vec .u8 n (fun j=>if n-0≤j then A/256^(n-1-j)%256 else 0)) (by repeat (first|exact Sh _|apply St_)) (Kr fun j hj=>by rw [if_neg om])) (Ka ⟨rfl,rfl,rfl,rfl,rfl,trivial⟩ mS)) ?_
  intro x hx
  refine KB (KA ?_);refine oP (KF rfl rfl (KAF)) ?_;refine KC (KB ?_)
  first|refine KR rfl (fun h26=>?_) (fun h26=>?_)|refine KS rfl (fun h26=>?_) (fun h26=>?_)
  ·
   have h26:x<n:=h26
   refine KN (KB (LCode.block (KB (KA (oM (oA (KC (KA (oM (oM ?_))))))))));refine oP (KF rfl rfl (KAb (b:=1) om om)) ?_;refine oM ?_;refine oP (KF rfl rfl (KAb om om)) ?_;refine oM ?_;refine oP (KF rfl rfl (br_quo (b:=8) om om)) ?_;refine oP (KE (o':=0) u33 rfl rfl rfl sz_31 dc) ?_;refine oP (KP u31 sz_30 rfl rfl om) ?_;refine oD (dL rfl (hv:=KJ u30 rfl (by exact KY _ (show x/8<9 by omega)))) ?_;refine oM ?_;refine oP (KF rfl rfl (br_rem (b:=8) om)) ?_;refine oP (KF rfl rfl (br_mul (a:=8) om)) ?_;refine oP (KF rfl rfl (br_shr64 (limb_lt _ _))) ?_;refine oP (Det.conv8 u30 u5 rfl) ?_;refine oP (KAV u70 sz_5 rfl rfl om) ?_;refine LOps.step rfl (KZ rfl rfl rfl sz_5 (by repeat (first|exact Sh _|apply St_)) (by first|(simp only [KQ,KI,Kh,Ks]; omega)|(simp; done)|(simp; omega)) (by first|exact KAG _ _ _ _ _|exact KAM _ _ _ _ om|exact KAL _ _ _ _|rfl) (by simp) ?_)
   refine KC (KA ?_);refine oP (KF rfl rfl (Ko (b:=1) om)) ?_;refine oM (KC ?_);refine ⟨x+1,by omega,by omega,KAC (Sub.cells (b:=b22) (cs':=vec .u8 n (fun j=>if n-(x+1)≤j then A/256^(n-1-j)%256 else 0)) (by repeat (first|exact Sh _|apply St_)) (Kr fun j hj=>?_)) (Ka ⟨rfl,rfl,rfl,rfl,rfl,trivial⟩ mS)⟩
   by_cases e:j = n-1-x
   · rw [if_pos e,if_pos om,byte_of,show n-1-j = x by omega]
   · rw [if_neg e]
     by_cases e2:n-x≤j
     · rw [if_pos e2,if_pos om]
     · rw [if_neg e2,if_neg om]
  have h26:¬ x<n:=h26
  refine Kc (KB (KA (oM ?_)));refine oD (Det.bytesStr u70 u5 u9 rfl mM (by exact (List.take_of_length_le (by simp [KQ])).trans (List.drop_zero))) ?_;refine oA ?_;refine oP (KO (v:=.int .i64 ((0:Nat):Int)) rfl) ?_;refine KC (KM ?_)
  have hx9:x = n:=by omega
  subst hx9
  refine ⟨[_,_],.cons rfl (.cons rfl .nil),fun a w' hr=>⟨?_,hr.fr.below⟩⟩
  rw [if_neg h20]
  have e:((List.range x).map fun i=>UInt8.ofNat ((fun j=>if x-x≤j then A/256^(x-1-j)%256 else 0) i)) = beBytes x A:=by
    apply List.map_congr_left
    intro i hi
    dsimp only
    rw [if_pos om]
  rw [e]
  rfl
theorem c_length (A b l c:Nat) (ty:TypeId) (wr:Bool) (w:World) (hb:(Item.blk b ⟨wr,vec .u64 c (limb A),ty,(0,0)⟩).holds w) (hlc:l≤c) (hc:c<9223372036854775808) (hA:A<2^(64*l)):Calls Tryz.prog 169 ([.slice (some ⟨b,0,none⟩) l c]:List Value).toArray w (fun e w'=>e = .returned (.int .i64 ((nw A:Nat):Int))∧Below w.heap.size w w'):=by
  refine KX (N:=19) (rs:=[.tmp 2]) [.blk b ⟨false,vec .u64 c (limb A),ty,(0,0)⟩] Tryz.func169 rfl Tryz.ntmps169 Tryz.results169 (Nb rfl) ⟨hb,trivial⟩ rfl ?_
  refine KB (KA ?_);refine oP (KO (v:=.int .i64 ((0:Nat):Int)) rfl) ?_;refine KC (KB (KA (oM ?_)));refine oP (Det.len u205 rfl) ?_;refine oA (KC (KB (LCode.block ?_)));refine Ke (α:=Nat) (fun x=>x≤l∧A<2^(64*x)) (fun x=>⟨[(0,.slice (some ⟨b,0,none⟩) l c),(3,.int .i64 ((x:Nat):Int))],[.blk b ⟨false,vec .u64 c (limb A),ty,(0,0)⟩]⟩) (fun x=>x) (l) (⟨Nat.le_refl _,hA⟩) (Ka ⟨rfl,rfl,trivial⟩ mS) ?_
  rintro x ⟨hx,hlt⟩
  refine KB (KB ?_)
  by_cases h0:0<x
  ·
   refine KA (oM ?_);refine oP (KF rfl rfl (br_t (br_gtr (b:=0)) h0)) ?_;refine oM ?_;refine oGM ?_;refine oGM ?_;refine oGP (KF rfl rfl (KAb (b:=1) om om)) ?_;refine oGP (KAV u205 sz_30 rfl rfl om) ?_;refine KAA rfl rfl (dL rfl (hv:=KJ u30 rfl (by exact KU _ _ _ (show x-1<c by omega)))) (Nb rfl) ?_;refine oGP (KF rfl rfl (Kz (b:=0))) ?_;refine oP (Kj rfl rfl) ?_;refine KC ?_
   first|refine KR rfl (fun h15=>?_) (fun h15=>?_)|refine KS rfl (fun h15=>?_) (fun h15=>?_)
   ·
    have h15:limb A (x-1) = 0:=by have:=h15; simpa using this
    refine KN (LCode.block (KA (oM ?_)));refine oP (KF rfl rfl (KAb (b:=1) om om)) ?_;refine oA (KC ?_);refine ⟨x-1,⟨by omega,?_⟩,by omega,Ka ⟨rfl,rfl,trivial⟩ mS⟩
    exact lt_of_limb_zero (A:=A) (n:=x-1) (by rw [show x-1+1 = x by omega]; exact hlt) h15
   have h15:¬ limb A (x-1) = 0:=by have:=h15; simpa using this
   refine Kc (KB (KA (oM (oA (KC (KM ?_))))))
   have he:nw A = x:=nw_eq hlt (.inr (le_of_limb (A:=A) (n:=x-1) (by rw [show x-1+1 = x by omega]; exact hlt) h15))
   refine ⟨[_],.cons rfl .nil,fun a w' hr=>⟨?_,hr.fr.below⟩⟩
   rw [he]; rfl
  refine KA (oM ?_);refine oP (KF rfl rfl (br_f (br_gtr (b:=0)) h0)) ?_;refine oM ?_;refine oK ?_;refine oK ?_;refine oK ?_;refine oK ?_;refine oK ?_;refine oK ?_;refine oP (KV rfl rfl) ?_;refine KC ?_;refine KH rfl ?_;refine Kc (KB (KA (oM (oA (KC (KM ?_))))))
  have he:nw A = x:=nw_eq hlt (.inl om)
  refine ⟨[_],.cons rfl .nil,fun a w' hr=>⟨?_,hr.fr.below⟩⟩
  rw [he]; rfl
def dvL (m:Nat):List Value:=dv (limb (dnm m)) (nw m) (dsh m)
theorem Brings.blk1 {w w':World} {H:List Item} {b:Nat} {B:Blk} (hb:Below w.heap.size w w') (hn:w.heap.size≤b) (hh:(Item.blk b B).holds w'):Brings w H [.blk b B] w' :=
  ⟨hb,fun x hx=>by simp at hx; subst hx; exact hh,fun x hx k hk=>by simp at hx; subst hx; simp [Item.fp] at hk; subst hk; exact .inl hn,
    fun x hx _ k hk=>by simp at hx; subst hx; simp [Item.fp] at hk; subst hk; exact hn,List.pairwise_singleton _ _⟩
theorem of_word {m x:Nat} (h0:0<dsh m) (hm:m≠0) (hx:0<x):(limb m x*2^dsh m%18446744073709551616 ||| limb m (x-1)/2^(64-dsh m)) = limb (dnm m) x:=by
  unfold dnm
  rw [limb_shl m (dsh m) x (dsh_lt hm) h0,if_neg om,or_low (limb_lt _ _) h0 (dsh_lt hm)]
theorem of_word0 {m x:Nat} (hm:m≠0) (h:x = 0∨dsh m = 0):limb m x*2^dsh m%18446744073709551616 = limb (dnm m) x:=by
  rcases Nat.eq_zero_or_pos (dsh m) with h0|h0
  · unfold dnm
    rw [h0,Nat.pow_zero,Nat.mul_one,Nat.mul_one,Nat.mod_eq_of_lt (limb_lt _ _)]
  · unfold dnm
    rw [limb_shl m (dsh m) x (dsh_lt hm) h0,if_pos om,Nat.add_zero]
theorem lz_top {m:Nat} (hm:m≠0):64-blen (limb m (nw m-1)) = dsh m:=by
  have h:=bits_words (A:=m) (by have:=nw_pos hm; omega)
  have:=blen_le (n:=64) (limb_lt m (nw m-1))
  have:=nw_pos hm
  unfold dsh; omega
theorem c_of (m bm:Nat) (wr:Bool) (hm0:m≠0) (w:World) (hb:(Item.blk bm ⟨wr,natL m,33,(0,0)⟩).holds w) (hm:m<W9):Calls Tryz.prog 139 ([.pointer (some ⟨bm,0,none⟩)]:List Value).toArray w (fun e w'=>∃ b,e = .returned (.pointer (some ⟨b,0,none⟩))∧w.heap.size≤b∧(Item.blk b ⟨false,dvL m,269,(0,0)⟩).holds w'∧Below w.heap.size w w'):=by
  refine KX (N:=86) (rs:=[.tmp 2]) [.blk bm ⟨false,natL m,33,(0,0)⟩] Tryz.func139 rfl Tryz.ntmps139 Tryz.results139 (Nb rfl) ⟨hb,trivial⟩ rfl ?_
  refine KB (KA (oA (KC (KB ?_))));refine rD [] ?_;refine aM 0 ?_;refine aP 1 rfl (KG rfl) ?_;refine aP 2 rfl (KE (o':=0) u33 rfl rfl rfl sz_31 dc) ?_;refine aD 3 rfl (dL rfl (hv:=by exact KD u31 rfl sz_31)) ?_;refine aM 4 ?_;refine aP 5 rfl (KG rfl) ?_;refine aP 6 rfl (KE (o':=0) u33 rfl rfl rfl sz_31 dc) ?_;refine aP 7 rfl (Det.slArr u31 sz_30 rfl) ?_;refine aO 8 rfl (cF rfl en_169 rfl (fun w hw=>c_length m bm 9 9 _ false w (mC hw) (Nat.le_refl _) dc (lt_w9_pow hm 9 rfl)) ?_);refine aP 9 rfl (Kd pl_269 zr_269 rfl (show fillL _ _ _ = some (dv (limb m) (nw m) 0) from (KAH (A:=[]) (B:=vec .u64 9 (fun _=>0)) (D:=[.int .i64 ((0:Nat):Int),.int .i64 ((0:Nat):Int)]) (cs:=natL m) rfl rfl (KI _) rfl rfl (KQ _ _ _) ((KAH (A:=natL m) (B:=[.int .i64 ((0:Nat):Int)]) (D:=[.int .i64 ((0:Nat):Int)]) (cs:=[.int .i64 ((nw m:Nat):Int)]) rfl rfl rfl rfl (KI _) rfl rfl).trans rfl)))) ?_
  refine aO 10 rfl (mB (fun b15=>?_));refine aA 11 ?_;refine aE ?_;refine KB ?_
  have hn0:=nw_pos hm0
  have hn9:=nw_w9 hm
  have hs64:=dsh_lt hm0
  refine rD [14] ?_;refine aM 0 ?_;refine aM 1 ?_;refine aM 2 ?_;refine aP 3 rfl (KG rfl) ?_;refine aP 4 rfl (KE (o':=9) u269 rfl rfl rfl sz_3 dc) ?_;refine aD 5 rfl (dL rfl (hv:=KJ u3 rfl (by first|rfl|exact KU _ _ _ om|exact KY _ om|exact Kb _ om|exact dv_m _ _ _ om))) ?_;refine aP 6 rfl (KF rfl rfl (KAb (b:=1) om om)) ?_;refine aP 7 rfl (KG rfl) ?_;refine aP 8 rfl (KE (o':=0) u269 rfl rfl rfl sz_31 dc) ?_;refine aP 9 rfl (KP u31 sz_30 rfl rfl om) ?_;refine aD 10 rfl (dL rfl (hv:=KJ u30 rfl (by exact dv_m _ _ _ (show nw m-1<9 by omega)))) ?_;refine aO 11 rfl (cF rfl en_178 rfl (fun w hw=>c_LeadingZeros64 _ (limb_lt _ _) w) ?_);refine aP 12 rfl (KG rfl) ?_;refine aP 13 rfl (KE (o':=10) u269 rfl rfl rfl sz_3 dc) ?_;refine aL 14 rfl (KZ rfl rfl rfl sz_3 (by repeat (first|exact Sh _|apply St_)) (by simp only [Ks]; omega) (show (dv (limb m) (nw m) 0).set 10 _ = dv (limb m) (nw m) (dsh m) by rw [← lz_top hm0]; exact KAL _ _ _ _) (by simp) ?_)
  refine aE ?_;refine KB (KB (KA (oM ?_)));refine oP (KG rfl) ?_;refine oP (KE (o':=9) u269 rfl rfl rfl sz_3 dc) ?_;refine oD (dL rfl (hv:=KJ u3 rfl (by first|rfl|exact KU _ _ _ om|exact KY _ om|exact Kb _ om|exact dv_m _ _ _ om))) ?_;refine oP (KF rfl rfl (KAb (b:=1) om om)) ?_;refine oA (KC (LCode.block ?_))
  refine Ke (α:=Nat) (fun x=>x≤nw m) (fun x=>⟨[(3,.pointer (some ⟨b15,0,none⟩)),(4,.int .i64 ((x:Int)-1))],[.blk b15 ⟨true,dv (fun j=>if x≤j then limb (dnm m) j else limb m j) (nw m) (dsh m),269,(0,0)⟩]⟩) (fun x=>x) (nw m) (Nat.le_refl _) (KAC (Sub.cells (b:=b15) (cs':=dv (fun j=>if nw m≤j then limb (dnm m) j else limb m j) (nw m) (dsh m)) (by repeat (first|exact Sh _|apply St_)) (dv_congr fun j _=>by
    by_cases e:nw m≤j
    · rw [if_pos e,limb_high (lt_nw m) e,limb_high (dnm_lt m) e]
    · rw [if_neg e])) (Ka ⟨rfl,congrArg (fun i:Int=>some (Value.int .i64 i)) om,trivial⟩ mS)) ?_
  intro x hx
  refine KB (KB ?_)
  rcases Nat.eq_zero_or_pos x with h0|h0
  ·
   refine KA (oM ?_);refine oP (KF (v:=.bool false) rfl rfl (by subst h0; rfl)) ?_;refine KC ?_;refine KH rfl ?_;refine Kc (KB (KA (oM (oA (KC (KM ?_))))))
   have e0:(dv (fun j=>if 0≤j then limb (dnm m) j else limb m j) (nw m) (dsh m)) = dvL m:=dv_congr fun j _=>if_pos (Nat.zero_le _)
   refine ⟨[_],.cons rfl .nil,fun a w' hr=>⟨b15,rfl,hr.new mM rfl,?_,hr.fr.below⟩⟩
   have:=hr.hp _ mM
   rw [← e0]
   subst h0
   exact this
  obtain ⟨y,rfl⟩:∃ y,x = y+1:=⟨x-1,by omega⟩
  refine KA (oM ?_);refine oP (KF (v:=.bool true) rfl rfl (by simp [Kt])) ?_;refine KC ?_;refine KT rfl ?_;refine KN (KB (LCode.block (KB ?_)));refine rD [14] ?_;refine aM 0 ?_;refine aP 1 rfl (Ki (v:=.int .i64 ((y:Nat):Int)) (by show some _ = some _; congr 2; omega)) ?_;refine aP 2 rfl (KG rfl) ?_;refine aP 3 rfl (KE (o':=0) u269 rfl rfl rfl sz_31 dc) ?_;refine aP 4 rfl (KP u31 sz_30 rfl rfl om) ?_;refine aD 5 rfl (dL rfl (hv:=KJ u30 rfl (by exact (dv_m _ _ _ (show y<9 by omega)).trans (congrArg some (vi (b:=limb m y) (if_neg om)))))) ?_;refine aM 6 ?_;refine aP 7 rfl (KG rfl) ?_;refine aP 8 rfl (KE (o':=10) u269 rfl rfl rfl sz_3 dc) ?_;refine aD 9 rfl (dL rfl (hv:=KJ u3 rfl (by first|rfl|exact KU _ _ _ om|exact KY _ om|exact Kb _ om|exact dv_m _ _ _ om))) ?_;refine aP 10 rfl (KF rfl rfl (br_shl64)) ?_;refine aP 11 rfl (KG rfl) ?_
  refine aP 12 rfl (KE (o':=0) u269 rfl rfl rfl sz_31 dc) ?_;refine aP 13 rfl (KP u31 sz_30 rfl rfl om) ?_;refine aL 14 rfl (KZ rfl rfl rfl sz_30 (by repeat (first|exact Sh _|apply St_)) (by first|(simp only [KQ,KI,Kh,Ks]; omega)|(simp; done)|(simp; omega)) (by first|exact KAG _ _ _ _ _|exact KAM _ _ _ _ om|exact KAL _ _ _ _|rfl) (by simp) ?_);refine aE ?_;refine KB ?_
  rcases Nat.eq_zero_or_pos y with hy0|hy0
  rotate_left
  rcases Nat.eq_zero_or_pos (dsh m) with hs0|hs0
  ·
   refine KA ?_;refine oP (Ki (v:=.int .i64 ((y:Nat):Int)) (by show some _ = some _; congr 2; omega)) ?_;refine oP (KF rfl rfl (br_t (br_gtr (b:=0)) hy0)) ?_;refine oM ?_;refine oGM ?_;refine oGP (KG rfl) ?_;refine oGP (KE (o':=10) u269 rfl rfl rfl sz_3 dc) ?_;refine KAA rfl rfl (dL rfl (hv:=KJ u3 rfl (by first|rfl|exact KU _ _ _ om|exact KY _ om|exact Kb _ om|exact dv_m _ _ _ om))) (Nb rfl) ?_;refine oGP (KF rfl rfl (br_f (br_gtr (b:=0)) om)) ?_;refine oP (Kj rfl rfl) ?_;refine KC ?_;refine KH rfl ?_;refine KN (KA ?_);refine oP (Ki (v:=.int .i64 ((y:Nat):Int)) (by show some _ = some _; congr 2; omega)) ?_;refine oP (KF rfl rfl rfl) ?_;refine oA (KC ?_);refine ⟨y,by omega,by omega,KAC (Sub.cells (b:=b15) (cs':=dv (fun j=>if y≤j then limb (dnm m) j else limb m j) (nw m) (dsh m)) (by repeat (first|exact Sh _|apply St_)) (dv_congr fun j hj=>?_)) (Ka ⟨rfl,?_,trivial⟩ mS)⟩
   · by_cases e:j = y
     · subst e
       rw [if_pos rfl,if_pos (Nat.le_refl _)]
       exact of_word0 hm0 (.inr hs0)
     · simp only [e,if_false]
       by_cases e2:y+1≤j
       · rw [if_pos e2,if_pos om]
       · rw [if_neg e2,if_neg om]
   · exact congrArg (fun i:Int=>some (Value.int .i64 i)) (wrap_i64 om om)
  ·
   refine KA ?_;refine oP (Ki (v:=.int .i64 ((y:Nat):Int)) (by show some _ = some _; congr 2; omega)) ?_;refine oP (KF rfl rfl (br_t (br_gtr (b:=0)) hy0)) ?_;refine oM ?_;refine oGM ?_;refine oGP (KG rfl) ?_;refine oGP (KE (o':=10) u269 rfl rfl rfl sz_3 dc) ?_;refine KAA rfl rfl (dL rfl (hv:=KJ u3 rfl (by first|rfl|exact KU _ _ _ om|exact KY _ om|exact Kb _ om|exact dv_m _ _ _ om))) (Nb rfl) ?_;refine oGP (KF rfl rfl (br_t (br_gtr (b:=0)) hs0)) ?_;refine oP (Kj rfl rfl) ?_;refine KC ?_;refine KT rfl ?_;refine rD [23] ?_;refine aM 0 ?_;refine aP 1 rfl (Ki (v:=.int .i64 ((y:Nat):Int)) (by show some _ = some _; congr 2; omega)) ?_;refine aP 2 rfl (KG rfl) ?_;refine aP 3 rfl (KE (o':=0) u269 rfl rfl rfl sz_31 dc) ?_;refine aP 4 rfl (KP u31 sz_30 rfl rfl om) ?_;refine aD 5 rfl (dL rfl (hv:=KJ u30 rfl (by exact (dv_m _ _ _ (show y<9 by omega)).trans (congrArg some (vi (b:=limb m y*2^dsh m%18446744073709551616) (if_pos rfl)))))) ?_
   refine aM 6 ?_;refine aP 7 rfl (Ki (v:=.int .i64 ((y:Nat):Int)) (by show some _ = some _; congr 2; omega)) ?_;refine aP 8 rfl (KF rfl rfl (KAb (b:=1) om om)) ?_;refine aP 9 rfl (KG rfl) ?_;refine aP 10 rfl (KE (o':=0) u269 rfl rfl rfl sz_31 dc) ?_;refine aP 11 rfl (KP u31 sz_30 rfl rfl om) ?_;refine aD 12 rfl (dL rfl (hv:=KJ u30 rfl (by exact (dv_m _ _ _ (show y-1<9 by omega)).trans (congrArg some (vi (b:=limb m (y-1)) (by rw [if_neg om,if_neg om])))))) ?_;refine aM 13 ?_;refine aP 14 rfl (KG rfl) ?_;refine aP 15 rfl (KE (o':=10) u269 rfl rfl rfl sz_3 dc) ?_;refine aD 16 rfl (dL rfl (hv:=KJ u3 rfl (by first|rfl|exact KU _ _ _ om|exact KY _ om|exact Kb _ om|exact dv_m _ _ _ om))) ?_;refine aP 17 rfl (KF rfl rfl (KAb (a:=64) om om)) ?_;refine aP 18 rfl (KF rfl rfl (br_shr64 (limb_lt _ _))) ?_;refine aP 19 rfl (KF rfl rfl (br_or64 (Nat.mod_lt _ dc) (Nat.lt_of_le_of_lt (Nat.div_le_self _ _) (limb_lt _ _)))) ?_
   refine aP 20 rfl (KG rfl) ?_;refine aP 21 rfl (KE (o':=0) u269 rfl rfl rfl sz_31 dc) ?_;refine aP 22 rfl (KP u31 sz_30 rfl rfl om) ?_;refine aL 23 rfl (KZ rfl rfl rfl sz_30 (by repeat (first|exact Sh _|apply St_)) (by first|(simp only [KQ,KI,Kh,Ks]; omega)|(simp; done)|(simp; omega)) (by first|exact KAG _ _ _ _ _|exact KAM _ _ _ _ om|exact KAL _ _ _ _|rfl) (by simp) ?_);refine aE ?_;refine KA ?_;refine oP (Ki (v:=.int .i64 ((y:Nat):Int)) (by show some _ = some _; congr 2; omega)) ?_;refine oP (KF rfl rfl rfl) ?_;refine oA (KC ?_);refine ⟨y,by omega,by omega,KAC (Sub.cells (b:=b15) (cs':=dv (fun j=>if y≤j then limb (dnm m) j else limb m j) (nw m) (dsh m)) (by repeat (first|exact Sh _|apply St_)) (dv_congr fun j hj=>?_)) (Ka ⟨rfl,?_,trivial⟩ mS)⟩
   · by_cases e:j = y
     · subst e
       rw [if_pos rfl,if_pos (Nat.le_refl _)]
       exact of_word hs0 hm0 hy0
     · simp only [e,if_false]
       by_cases e2:y+1≤j
       · rw [if_pos e2,if_pos om]
       · rw [if_neg e2,if_neg om]
   · exact congrArg (fun i:Int=>some (Value.int .i64 i)) (wrap_i64 om om)
  refine KA ?_;refine oP (Ki (v:=.int .i64 ((y:Nat):Int)) (by show some _ = some _; congr 2; omega)) ?_;refine oP (KF rfl rfl (br_f (br_gtr (b:=0)) om)) ?_;refine oM ?_;refine oK ?_;refine oK ?_;refine oK ?_;refine oK ?_;refine oK ?_;refine oP (KV rfl rfl) ?_;refine KC ?_;refine KH rfl ?_;refine KN (KA ?_);refine oP (Ki (v:=.int .i64 ((y:Nat):Int)) (by show some _ = some _; congr 2; omega)) ?_;refine oP (KF rfl rfl rfl) ?_;refine oA (KC ?_);refine ⟨y,by omega,by omega,KAC (Sub.cells (b:=b15) (cs':=dv (fun j=>if y≤j then limb (dnm m) j else limb m j) (nw m) (dsh m)) (by repeat (first|exact Sh _|apply St_)) (dv_congr fun j hj=>?_)) (Ka ⟨rfl,?_,trivial⟩ mS)⟩
  · by_cases e:j = y
    · subst e
      rw [if_pos rfl,if_pos (Nat.le_refl _)]
      exact of_word0 hm0 (.inl hy0)
    · simp only [e,if_false]
      by_cases e2:y+1≤j
      · rw [if_pos e2,if_pos om]
      · rw [if_neg e2,if_neg om]
  · exact congrArg (fun i:Int=>some (Value.int .i64 i)) (wrap_i64 om om)
theorem dvL_m (m:Nat) {i:Nat} (h:i<9):(dvL m)[i]? = some (.int .u64 (limb (dnm m) i:Int)):=dv_m _ _ _ h
theorem dvL_n (m:Nat):(dvL m)[9]? = some (.int .i64 (nw m:Int)):=dv_n _ _ _
theorem dvL_s (m:Nat):(dvL m)[10]? = some (.int .i64 (dsh m:Int)):=dv_s _ _ _
theorem guess_facts {U m a : Nat} (hm : m ≠ 0) (hU : U < dnm m * 2 ^ (64 * (a + 1))) :
    limb U (a+nw m)*18446744073709551616+limb U (a+nw m-1) = U/2^(64*a)/2^(64*(nw m-1))∧limb (dnm m) (nw m-1) = dnm m/2^(64*(nw m-1))∧9223372036854775808≤limb (dnm m) (nw m-1) ∧
    U/2^(64*a)/dnm m≤U/2^(64*a)/2^(64*(nw m-1))/limb (dnm m) (nw m-1):=by
  have hn:=nw_pos hm
  have h1:=win_lt (dnm_lt m) hU
  rw [Nat.add_assoc] at h1
  have h2:=win_div h1
  obtain ⟨h3,h4⟩:=dnm_top hm
  refine ⟨?_,h3,h4,?_⟩
  · rw [show a+nw m-1 = a+(nw m-1) by omega,← limb_div,← limb_div]
    have:=two_words (R:=U/2^(64*a)) (j:=nw m-1) (by rw [show nw m-1+2 = nw m+1 by omega]; exact h2)
    rw [this,show nw m-1+1 = nw m by omega]
  · rw [h3]
    apply div_cut (pow64_pos _)
    rw [← h3]; omega
theorem guess_step {U m a q r : Nat} (hm : m ≠ 0) (hn : 2 ≤ nw m) (h1 : q * limb (dnm m) (nw m - 1) + r = U / 2 ^ (64 * a) / 2 ^ (64 * (nw m - 1)))
    (h2:r*18446744073709551616+limb U (a+nw m-2)<q*limb (dnm m) (nw m-2)):U/2^(64*a)/dnm m<q:=by
  refine guess_more (k:=2^(64*(nw m-2))) (M:=18446744073709551616) (pow64_pos _) (dnm_pos hm) (top:=limb (dnm m) (nw m-1)) (d2:=limb (dnm m) (nw m-2)) ?_ (R2:=U/2^(64*a)/2^(64*(nw m-1))) (u2:=limb U (a+nw m-2)) ?_ h1 h2
  · have:=two_words (R:=dnm m) (j:=nw m-2) (by rw [show nw m-2+2 = nw m by omega]; exact dnm_lt m)
    rw [this,show nw m-2+1 = nw m-1 by omega]
  · have:=next_word (U/2^(64*a)) (nw m-2)
    rw [this,limb_div,show nw m-2+1 = nw m-1 by omega,show a+(nw m-2) = a+nw m-2 by omega]
theorem two_le {a b r u:Nat} (hb:b<18446744073709551616) (hu:u<18446744073709551616) (h:r<a∨(a = r∧u<b)):r*18446744073709551616+u<a*18446744073709551616+b:=by omega
theorem prod_parts (p:Nat):p/18446744073709551616*18446744073709551616+p%18446744073709551616 = p:=by omega
theorem guess_next {top r q d2 u R2:Nat} (h1:q*top+r = R2) (h0:0<q):(q-1)*top+(r+top) = R2:=by
  obtain ⟨p,rfl⟩:∃ p,q = p+1:=⟨q-1,by omega⟩
  rw [Nat.add_mul] at h1
  rw [Nat.add_sub_cancel]; omega
theorem c_guess (m U bd bu at_:Nat) (wu:Bool) (hm0:m≠0) (w:World) (hbd:(Item.blk bd ⟨false,dvL m,269,(0,0)⟩).holds w) (hbu:(Item.blk bu ⟨wu,vec .u64 19 (limb U),270,(0,0)⟩).holds w) (hm:m<W9) (hat:at_+nw m<19) (hU:U<dnm m*2^(64*(at_+1))):Calls Tryz.prog 179 ([.pointer (some ⟨bd,0,none⟩),.slice (some ⟨bu,0,none⟩) 19 19,.int .i64 ((at_:Nat):Int)]:List Value).toArray w (fun e w'=>∃ q,(q<18446744073709551616∧U/2^(64*at_)/dnm m≤q)∧e = .returned (.int .u64 ((q:Nat):Int))∧Below w.heap.size w w'):=by
  refine KX (N:=108) (rs:=[.tmp 6]) [.blk bd ⟨false,dvL m,269,(0,0)⟩,.blk bu ⟨false,vec .u64 19 (limb U),270,(0,0)⟩] Tryz.func179 rfl Tryz.ntmps179 Tryz.results179 (Nb rfl) ⟨hbd,hbu,trivial⟩ rfl ?_
  refine KB (KA ?_);refine oP (KO (v:=.int .u64 ((0:Nat):Int)) rfl) ?_;refine KC (KB ?_)
  have hn0:=nw_pos hm0
  have hn9:=nw_w9 hm
  obtain ⟨hf1,hf2,hf3,hf4⟩:=guess_facts hm0 hU
  have hlt:=limb_lt (dnm m) (nw m-1)
  have hlu:=limb_lt U (at_+nw m-1)
  refine rD [] ?_;refine aM 0 ?_;refine aM 1 ?_;refine aP 2 rfl (KG rfl) ?_;refine aP 3 rfl (KE (o':=9) u269 rfl rfl rfl sz_3 dc) ?_;refine aD 4 rfl (dL rfl (hv:=KJ u3 rfl (dvL_n _))) ?_;refine aP 5 rfl (KF rfl rfl (KAb (b:=1) om om)) ?_;refine aP 6 rfl (KG rfl) ?_;refine aP 7 rfl (KE (o':=0) u269 rfl rfl rfl sz_31 dc) ?_;refine aP 8 rfl (KP u31 sz_30 rfl rfl om) ?_;refine aD 9 rfl (dL rfl (hv:=KJ u30 rfl (by exact dvL_m _ (show nw m-1<9 by omega)))) ?_;refine aA 10 ?_;refine aE ?_;refine KB ?_;refine rD [] ?_;refine aM 0 ?_;refine aM 1 ?_;refine aM 2 ?_;refine aP 3 rfl (KG rfl) ?_;refine aP 4 rfl (KE (o':=9) u269 rfl rfl rfl sz_3 dc) ?_;refine aD 5 rfl (dL rfl (hv:=KJ u3 rfl (dvL_n _))) ?_;refine aP 6 rfl (KF rfl rfl (Ko om)) ?_;refine aP 7 rfl (KAV u205 sz_30 rfl rfl om) ?_;refine aD 8 rfl (dL rfl (hv:=KJ u30 rfl (by exact KU _ _ _ (show at_+nw m<19 by omega)))) ?_
  refine aM 9 ?_;refine aM 10 ?_;refine aM 11 ?_;refine aP 12 rfl (KG rfl) ?_;refine aP 13 rfl (KE (o':=9) u269 rfl rfl rfl sz_3 dc) ?_;refine aD 14 rfl (dL rfl (hv:=KJ u3 rfl (dvL_n _))) ?_;refine aP 15 rfl (KF rfl rfl (Ko om)) ?_;refine aP 16 rfl (KF rfl rfl (KAb (b:=1) om om)) ?_;refine aP 17 rfl (KAV u205 sz_30 rfl rfl om) ?_;refine aD 18 rfl (dL rfl (hv:=KJ u30 rfl (by exact KU _ _ _ (show at_+nw m-1<19 by omega)))) ?_;refine aA 19 ?_;refine aA 20 ?_;refine aE ?_;refine KB (KB (KA (oM (oM ?_))));refine oP (KF rfl rfl (br_geq)) ?_;refine KC ?_
  first|refine KR rfl (fun h46=>?_) (fun h46=>?_)|refine KS rfl (fun h46=>?_) (fun h46=>?_)
  ·
   refine KB (KA ?_);refine oP (KO (v:=.int .u64 ((18446744073709551615:Nat):Int)) rfl) ?_;refine KC (KM ?_);refine ⟨[_],.cons rfl .nil,fun a w' hr=>⟨18446744073709551615,?_,rfl,hr.fr.below⟩⟩
   exact ⟨by decide,by have:=quo_lt (dnm_pos hm0) hU; omega⟩
  have h46:limb U (at_+nw m)<limb (dnm m) (nw m-1):=Nat.lt_of_not_le h46
  have hq9:U/2^(64*at_)/2^(64*(nw m-1))/limb (dnm m) (nw m-1)<18446744073709551616:=by
    rw [← hf1,Nat.div_lt_iff_lt_mul om,Nat.mul_comm]
    omega
  refine KN (KB (KA (oM (oM (oM ?_)))));refine oS (Ky (v:=.tuple #[.int .u64 ((U/2^(64*at_)/2^(64*(nw m-1))/limb (dnm m) (nw m-1):Nat):Int),.int .u64 ((U/2^(64*at_)/2^(64*(nw m-1))%limb (dnm m) (nw m-1):Nat):Int)]) (first:=[]) rfl en_206 rfl (Nb rfl) (fun w hw=>by have h:=c_Div64 (limb U (at_+nw m)) (limb U (at_+nw m-1)) _ (limb_lt _ _) hf3 hlt h46 w; rw [hf1] at h; exact h) ?_);refine oM ?_;refine oP (Det.extract rfl rfl) ?_;refine oP (Det.extract rfl rfl) ?_;refine oA (oA (KC (KB (KB (KA (oM ?_))))));refine oP (KG rfl) ?_;refine oP (KE (o':=9) u269 rfl rfl rfl sz_3 dc) ?_;refine oD (dL rfl (hv:=KJ u3 rfl (dvL_n _))) ?_;refine oP (KF rfl rfl (Kz (b:=1))) ?_;refine KC ?_
  first|refine KR rfl (fun h58=>?_) (fun h58=>?_)|refine KS rfl (fun h58=>?_) (fun h58=>?_)
  ·
   refine KB (KA (oM (oA (KC (KM ?_)))));refine ⟨[_],.cons rfl .nil,fun a w' hr=>⟨(U/2^(64*at_)/2^(64*(nw m-1)))/limb (dnm m) (nw m-1),?_,rfl,hr.fr.below⟩⟩
   exact ⟨hq9,hf4⟩
  refine KN (LCode.block ?_);refine Ke (α:=Nat×Nat) (fun x=>x.1*limb (dnm m) (nw m-1)+x.2 = U/2^(64*at_)/2^(64*(nw m-1))∧U/2^(64*at_)/dnm m≤x.1∧x.1<18446744073709551616∧x.2<18446744073709551616) (fun x=>⟨[(0,.pointer (some ⟨bd,0,none⟩)),(1,.slice (some ⟨bu,0,none⟩) 19 19),(2,.int .i64 ((at_:Nat):Int)),(7,.int .u64 ((limb (dnm m) (nw m-1):Nat):Int)),(10,.int .u64 ((x.1:Nat):Int)),(11,.int .u64 ((x.2:Nat):Int))],[.blk bd ⟨false,dvL m,269,(0,0)⟩,.blk bu ⟨false,vec .u64 19 (limb U),270,(0,0)⟩]⟩) (fun x=>x.1) (((U/2^(64*at_)/2^(64*(nw m-1)))/limb (dnm m) (nw m-1),(U/2^(64*at_)/2^(64*(nw m-1)))%limb (dnm m) (nw m-1))) (⟨by rw [Nat.mul_comm]; exact Nat.div_add_mod _ _,hf4,hq9,Nat.lt_trans (Nat.mod_lt _ om) hlt⟩) (Ka ⟨rfl,rfl,rfl,rfl,rfl,rfl,trivial⟩ mS) ?_
  intro x ⟨hx1,hx2,hx3,hx4⟩
  have h58:¬ nw m = 1:=h58
  refine LCode.block (KB ?_);refine rD [] ?_;refine aM 0 ?_;refine aM 1 ?_;refine aM 2 ?_;refine aP 3 rfl (KG rfl) ?_;refine aP 4 rfl (KE (o':=9) u269 rfl rfl rfl sz_3 dc) ?_;refine aD 5 rfl (dL rfl (hv:=KJ u3 rfl (dvL_n _))) ?_;refine aP 6 rfl (KF rfl rfl (KAb (b:=2) om om)) ?_;refine aP 7 rfl (KG rfl) ?_;refine aP 8 rfl (KE (o':=0) u269 rfl rfl rfl sz_31 dc) ?_;refine aP 9 rfl (KP u31 sz_30 rfl rfl om) ?_;refine aD 10 rfl (dL rfl (hv:=KJ u30 rfl (by exact dvL_m _ (show nw m-2<9 by omega)))) ?_;refine aO 11 rfl (cF rfl en_123 rfl (fun w hw=>c_Mul64 _ _ hx3 (limb_lt _ _) w) ?_);refine aM 12 ?_;refine aP 13 rfl (Det.extract rfl rfl) ?_;refine aP 14 rfl (Det.extract rfl rfl) ?_;refine aA 15 ?_;refine aA 16 ?_;refine aE ?_;refine KB (KB ?_)
  rcases Nat.lt_trichotomy (x.1*limb (dnm m) (nw m-2)/18446744073709551616) x.2 with h9|h9|h9
  ·
   refine KA (oM (oM ?_));refine oP (KF rfl rfl (br_t KAF h9)) ?_;refine oM ?_;refine oK ?_;refine oK ?_;refine oK ?_;refine oK ?_;refine LOps.skipU rfl rfl (Nb rfl) ?_;refine LOps.skipU rfl rfl (Nb rfl) ?_;refine LOps.skipU rfl rfl (Nb rfl) ?_;refine LOps.skipU rfl rfl (Nb rfl) ?_;refine LOps.skipU rfl rfl (Nb rfl) ?_;refine LOps.skipU rfl rfl (Nb rfl) ?_;refine LOps.skipU rfl rfl (Nb rfl) ?_;refine LOps.skipU rfl rfl (Nb rfl) ?_;refine LOps.skipU rfl rfl (Nb rfl) ?_;refine LOps.skipU rfl rfl (Nb rfl) ?_;refine LOps.skipU rfl rfl (Nb rfl) ?_;refine LOps.skipU rfl rfl (Nb rfl) ?_;refine oK ?_;refine oP (Kj rfl rfl) ?_;refine KC ?_;refine KT rfl ?_;refine KB (KA (oM (oA (KC (KM ?_)))));refine ⟨[_],.cons rfl .nil,fun a w' hr=>⟨x.1,?_,rfl,hr.fr.below⟩⟩
   exact ⟨hx3,hx2⟩
  ·
   refine KA (oM (oM ?_));refine oP (KF rfl rfl (br_f KAF om)) ?_;refine oM ?_;refine oGM ?_;refine oGM ?_;refine oGP (KF rfl rfl (br_t Kz h9)) ?_;refine oGM ?_;refine oGM ?_;refine oGM ?_;refine oGM ?_;refine oGM ?_;refine oGP (KG rfl) ?_;refine oGP (KE (o':=9) u269 rfl rfl rfl sz_3 dc) ?_;refine KAA rfl rfl (dL rfl (hv:=KJ u3 rfl (dvL_n _))) (Nb rfl) ?_;refine oGP (KF rfl rfl (Ko om)) ?_;refine oGP (KF rfl rfl (KAb (b:=2) om om)) ?_;refine oGP (KAV u205 sz_30 rfl rfl om) ?_;refine KAA rfl rfl (dL rfl (hv:=KJ u30 rfl (by exact KU _ _ _ (show at_+nw m-2<19 by omega)))) (Nb rfl) ?_;refine oGP (KF rfl rfl (br_leq)) ?_;refine oGP (Kj rfl rfl) ?_;refine oP (KV rfl rfl) ?_;refine KC ?_
   first|refine KR rfl (fun h96=>?_) (fun h96=>?_)|refine KS rfl (fun h96=>?_) (fun h96=>?_)
   ·
    refine KB (KA (oM (oA (KC (KM ?_)))));refine ⟨[_],.cons rfl .nil,fun a w' hr=>⟨x.1,?_,rfl,hr.fr.below⟩⟩
    exact ⟨hx3,hx2⟩
   have h96:¬ x.1*limb (dnm m) (nw m-2)%18446744073709551616≤limb U (at_+nw m-2):=h96
   have hq:=guess_step hm0 om hx1 (by rw [← prod_parts (x.1*limb (dnm m) (nw m-2))]; exact two_le (Nat.mod_lt _ dc) (limb_lt _ _) (.inr ⟨h9,by omega⟩))
   have hq0:=Nat.lt_of_le_of_lt (Nat.zero_le _) hq
   refine KN (KB (KA (oM ?_)));refine oP (KK (KF rfl rfl (br_sub64 (b:=1) dc)) (vi (b:=x.1-1) om)) ?_;refine oA (KC (KB (KA (oM (oM ?_)))));refine oP (KF rfl rfl (KAX)) ?_;refine oA (KC (KB (KB (KA (oM (oM ?_))))));refine oP (KF rfl rfl (KAF)) ?_;refine KC ?_
   first|refine KR rfl (fun h105=>?_) (fun h105=>?_)|refine KS rfl (fun h105=>?_) (fun h105=>?_)
   ·
    have h105:(x.2+limb (dnm m) (nw m-1))%18446744073709551616<x.2:=h105
    refine KB (KA (oM (oA (KC (KM ?_)))));refine ⟨[_],.cons rfl .nil,fun a w' hr=>⟨x.1-1,?_,rfl,hr.fr.below⟩⟩
    exact ⟨by omega,Nat.le_sub_one_of_lt hq⟩
   have h105:¬ (x.2+limb (dnm m) (nw m-1))%18446744073709551616<x.2:=h105
   refine KN (KA (oM (oA (KC ?_))));refine ⟨(x.1-1,x.2+limb (dnm m) (nw m-1)),⟨guess_next (d2:=0) (u:=0) hx1 hq0,Nat.le_sub_one_of_lt hq,by dsimp only; omega,by dsimp only; omega⟩,by dsimp only; omega,Ka ⟨rfl,rfl,rfl,rfl,rfl,congrArg some (vi (by dsimp only; omega)),trivial⟩ mS⟩
  refine KA (oM (oM ?_));refine oP (KF rfl rfl (br_f KAF om)) ?_;refine oM ?_;refine oGM ?_;refine oGM ?_;refine oGP (KF rfl rfl (br_f Kz om)) ?_;refine oGM ?_;refine oK ?_;refine oK ?_;refine oK ?_;refine oK ?_;refine oK ?_;refine oK ?_;refine oK ?_;refine oK ?_;refine oK ?_;refine oK ?_;refine oK ?_;refine oK ?_;refine oGP (KV rfl rfl) ?_;refine oP (KV rfl rfl) ?_;refine KC ?_
  have hq:=guess_step hm0 om hx1 (by rw [← prod_parts (x.1*limb (dnm m) (nw m-2))]; exact two_le (Nat.mod_lt _ dc) (limb_lt _ _) (.inl h9))
  have hq0:=Nat.lt_of_le_of_lt (Nat.zero_le _) hq
  refine KH rfl ?_;refine KN (KB (KA (oM ?_)));refine oP (KK (KF rfl rfl (br_sub64 (b:=1) dc)) (vi (b:=x.1-1) om)) ?_;refine oA (KC (KB (KA (oM (oM ?_)))));refine oP (KF rfl rfl (KAX)) ?_;refine oA (KC (KB (KB (KA (oM (oM ?_))))));refine oP (KF rfl rfl (KAF)) ?_;refine KC ?_
  first|refine KR rfl (fun h105=>?_) (fun h105=>?_)|refine KS rfl (fun h105=>?_) (fun h105=>?_)
  ·
   have h105:(x.2+limb (dnm m) (nw m-1))%18446744073709551616<x.2:=h105
   refine KB (KA (oM (oA (KC (KM ?_)))));refine ⟨[_],.cons rfl .nil,fun a w' hr=>⟨x.1-1,?_,rfl,hr.fr.below⟩⟩
   exact ⟨by omega,Nat.le_sub_one_of_lt hq⟩
  have h105:¬ (x.2+limb (dnm m) (nw m-1))%18446744073709551616<x.2:=h105
  refine KN (KA (oM (oA (KC ?_))));refine ⟨(x.1-1,x.2+limb (dnm m) (nw m-1)),⟨guess_next (d2:=0) (u:=0) hx1 hq0,Nat.le_sub_one_of_lt hq,by dsimp only; omega,by dsimp only; omega⟩,by dsimp only; omega,Ka ⟨rfl,rfl,rfl,rfl,rfl,congrArg some (vi (by dsimp only; omega)),trivial⟩ mS⟩
theorem take_pre {U q D a:Nat}:U+q*(D%2^(64*0))*2^(64*a) = U+(0+0)*2^(64*(a+0)):=by
  rw [Nat.mul_zero,Nat.pow_zero,Nat.mod_one,Nat.mul_zero,Nat.zero_mul,Nat.zero_mul]
theorem back_pre {U D a:Nat}:U+0*2^(64*(a+0)) = U+(D%2^(64*0))*2^(64*a):=by
  rw [Nat.mul_zero,Nat.pow_zero,Nat.mod_one,Nat.zero_mul,Nat.zero_mul]
theorem c_take (m U bd bu at_ q:Nat) (hq:q<18446744073709551616) (w:World) (hbd:(Item.blk bd ⟨false,dvL m,269,(0,0)⟩).holds w) (hbu:(Item.blk bu ⟨true,vec .u64 19 (limb U),270,(0,0)⟩).holds w) (hne:bd≠bu) (hm:m<W9) (hat:at_+nw m<19) (hU:U<2^(64*(at_+nw m+1))):Calls Tryz.prog 180 ([.pointer (some ⟨bd,0,none⟩),.slice (some ⟨bu,0,none⟩) 19 19,.int .i64 ((at_:Nat):Int),.int .u64 ((q:Nat):Int)]:List Value).toArray w (fun e w'=>∃ v cs',(∃ U' bw,bw≤1∧U' < 2^(64*(at_+nw m+1))∧U'+q*dnm m*2^(64*at_) = U+bw*2^(64*(at_+nw m+1))∧v = .bool (decide (bw = 1))∧cs' = vec .u64 19 (limb U'))∧e = .returned v∧(Item.blk bu ⟨true,cs',270,(0,0)⟩).holds w'∧Fr (fun k=>k = bu) w w'):=by
  refine calls_w1 (N:=85) (rs:=[.tmp 8]) bu (vec .u64 19 (limb U)) 270 (0,0) [.blk bd ⟨false,dvL m,269,(0,0)⟩] Tryz.func180 rfl Tryz.ntmps180 Tryz.results180 (Nb rfl) hbu ⟨hbd,trivial⟩ rfl (by intro x hx; simp at hx; subst hx; simp [Item.fp]; exact fun e=>hne e.symm) ?_
  refine KB ?_
  have hn9:=nw_w9 hm
  refine KA (oA (KC (KB (KA ?_))));refine oP (KO (v:=.int .u64 ((0:Nat):Int)) rfl) ?_;refine oP (KO (v:=.int .u64 ((0:Nat):Int)) rfl) ?_;refine KC (KB (KB (KA (oM ?_))));refine oP (KG rfl) ?_;refine oP (KE (o':=9) u269 rfl rfl rfl sz_3 dc) ?_;refine oD (dL rfl (hv:=KJ u3 rfl (dvL_n _))) ?_;refine oP (Ki (v:=.int .i64 ((0:Nat):Int)) rfl) ?_;refine KC (LCode.block ?_);refine Ke (α:=Nat×Nat×Nat×Nat) (fun x=>x.1≤nw m∧x.2.2.1≤1∧x.2.2.2<18446744073709551616∧x.2.1<2^(64*(at_+nw m+1))∧x.2.1+q*(dnm m%2^(64*x.1))*2^(64*at_) = U+(x.2.2.1+x.2.2.2)*2^(64*(at_+x.1))) (fun x=>⟨[(0,.pointer (some ⟨bd,0,none⟩)),(1,.slice (some ⟨bu,0,none⟩) 19 19),(2,.int .i64 ((at_:Nat):Int)),(3,.int .u64 ((q:Nat):Int)),(9,.int .u64 ((x.2.2.1:Nat):Int)),(10,.int .u64 ((x.2.2.2:Nat):Int)),(18,.int .i64 ((nw m:Nat):Int)),(19,.int .i64 ((x.1:Nat):Int))],[.blk bu ⟨true,vec .u64 19 (limb x.2.1),270,(0,0)⟩,.blk bd ⟨false,dvL m,269,(0,0)⟩]⟩) (fun x=>nw m-x.1) ((0,U,0,0)) (⟨Nat.zero_le _,Nat.zero_le _,show (0:Nat)<18446744073709551616 by decide,hU,take_pre⟩) (Ka ⟨rfl,rfl,rfl,rfl,rfl,rfl,rfl,rfl,trivial⟩ mS) ?_
  intro x ⟨hx1,hx2,hx3,hx4,hx5⟩
  refine KB (KA ?_);refine oP (KF rfl rfl (KAF)) ?_;refine KC (KB ?_)
  first|refine KR rfl (fun h20=>?_) (fun h20=>?_)|refine KS rfl (fun h20=>?_) (fun h20=>?_)
  ·
   have h20:x.1<nw m:=h20
   refine KN (KB (LCode.block (KB (KA (oM (oA (KC (KB (KA (oM (oM (oM ?_))))))))))));refine oP (KG rfl) ?_;refine oP (KE (o':=0) u269 rfl rfl rfl sz_31 dc) ?_;refine oP (KP u31 sz_30 rfl rfl om) ?_;refine oD (dL rfl (hv:=KJ u30 rfl (by exact dvL_m _ (show x.1<9 by omega)))) ?_;refine oS (cF rfl en_123 rfl (fun w hw=>c_Mul64 _ _ hq (limb_lt _ _) w) ?_);refine oM ?_;refine oP (Det.extract rfl rfl) ?_;refine oP (Det.extract rfl rfl) ?_;refine oA (oA (KC (KB (KA ?_))));refine oP (KO (v:=.int .u64 ((0:Nat):Int)) rfl) ?_;refine KC (KB (KA (oM (oM ?_))));refine oP (Det.add64 (c:=0) ex_145 rfl rfl rfl om) ?_;refine oM ?_;refine oP (Det.extract rfl rfl) ?_;refine oP (Det.extract rfl rfl) ?_;refine oA (oA (KC (KB (KA (oM (oM ?_))))));refine oP (KF rfl rfl (KAX)) ?_;refine oA (KC (KA (oM (oM (oM ?_)))));refine oP (KF rfl rfl (Ko om)) ?_;refine oM (oM (oM ?_))
   refine oP (KF rfl rfl (Ko om)) ?_;refine oP (KAV u205 sz_30 rfl rfl om) ?_;refine oD (dL rfl (hv:=KJ u30 rfl (by exact KU _ _ _ (show at_+x.1<19 by omega)))) ?_;refine oM (oM ?_);refine oP (Det.sub64 ex_130 rfl rfl rfl om) ?_;refine oM ?_;refine oP (Det.extract rfl rfl) ?_;refine oP (Det.extract rfl rfl) ?_;refine oP (KAV u205 sz_30 rfl rfl om) ?_;refine LOps.step rfl (KZ rfl rfl rfl sz_30 (by repeat (first|exact Sh _|apply St_)) (by first|(simp only [KQ,KI,Kh,Ks]; omega)|(simp; done)|(simp; omega)) (by first|exact KAG _ _ _ _ _|exact KAM _ _ _ _ om|exact KAL _ _ _ _|rfl) (by simp) ?_);refine oA (KC (KA ?_));refine oP (KF rfl rfl (Ko (b:=1) om)) ?_;refine oM (KC ?_)
   have hw:=mul_word hq (limb_lt (dnm m) x.1) hx3
   have hp:=mul_parts hx3 hw
   refine ⟨(x.1+1,setl x.2.1 (at_+x.1) ((limb x.2.1 (at_+x.1)+18446744073709551616-(q*limb (dnm m) x.1+x.2.2.2)%18446744073709551616-x.2.2.1)%18446744073709551616),(if limb x.2.1 (at_+x.1)<(q*limb (dnm m) x.1+x.2.2.2)%18446744073709551616+x.2.2.1 then 1 else 0),(q*limb (dnm m) x.1+x.2.2.2)/18446744073709551616),⟨by dsimp only; omega,by dsimp only; split <;> omega,by dsimp only; omega,setl_lt hx4 om (Nat.mod_lt _ dc),take_step hx5 rfl (sub_word (limb_lt _ _) (Nat.mod_lt _ dc) hx2)⟩,by dsimp only; omega,
     KAC (Sub.cells (b:=bu) (cs':=vec .u64 19 (limb (setl x.2.1 (at_+x.1) ((limb x.2.1 (at_+x.1)+18446744073709551616-(q*limb (dnm m) x.1+x.2.2.2)%18446744073709551616-x.2.2.1)%18446744073709551616)))) (by repeat (first|exact Sh _|apply St_)) ?_) (Ka ⟨rfl,rfl,rfl,rfl,congrArg some (vi (by dsimp only; rw [hp.1])),congrArg some (vi hp.2),rfl,rfl,trivial⟩ mS)⟩
   rw [hp.1]
   exact vec_setl (Nat.mod_lt _ dc)
  have h20:¬ x.1<nw m:=h20
  have he:x.1 = nw m:=by omega
  rw [he] at hx5
  refine Kc (KB ?_);refine rD [23] ?_;refine aM 0 ?_;refine aM 1 ?_;refine aM 2 ?_;refine aP 3 rfl (KG rfl) ?_;refine aP 4 rfl (KE (o':=9) u269 rfl rfl rfl sz_3 dc) ?_;refine aD 5 rfl (dL rfl (hv:=KJ u3 rfl (dvL_n _))) ?_;refine aP 6 rfl (KF rfl rfl (Ko om)) ?_;refine aM 7 ?_;refine aM 8 ?_;refine aM 9 ?_;refine aP 10 rfl (KG rfl) ?_;refine aP 11 rfl (KE (o':=9) u269 rfl rfl rfl sz_3 dc) ?_;refine aD 12 rfl (dL rfl (hv:=KJ u3 rfl (dvL_n _))) ?_;refine aP 13 rfl (KF rfl rfl (Ko om)) ?_;refine aP 14 rfl (KAV u205 sz_30 rfl rfl om) ?_;refine aD 15 rfl (dL rfl (hv:=KJ u30 rfl (by exact KU _ _ _ (show at_+nw m<19 by omega)))) ?_;refine aM 16 ?_;refine aM 17 ?_;refine aP 18 rfl (Det.sub64 ex_130 rfl rfl rfl om) ?_;refine aM 19 ?_;refine aP 20 rfl (Det.extract rfl rfl) ?_;refine aP 21 rfl (Det.extract rfl rfl) ?_
  refine aP 22 rfl (KAV u205 sz_30 rfl rfl om) ?_;refine aL 23 rfl (KZ rfl rfl rfl sz_30 (by repeat (first|exact Sh _|apply St_)) (by first|(simp only [KQ,KI,Kh,Ks]; omega)|(simp; done)|(simp; omega)) (by first|exact KAG _ _ _ _ _|exact KAM _ _ _ _ om|exact KAL _ _ _ _|rfl) (by simp) ?_);refine aA 24 ?_;refine aE ?_;refine KB (KA (oM ?_));refine oP (KF rfl rfl (Kz (b:=1))) ?_;refine oA (KC (KM ?_));refine ⟨[_],.cons rfl .nil,fun a w' hr=>⟨_,_,⟨setl x.2.1 (at_+nw m) ((limb x.2.1 (at_+nw m)+18446744073709551616-x.2.2.2-x.2.2.1)%18446744073709551616),(if limb x.2.1 (at_+nw m)<x.2.2.2+x.2.2.1 then 1 else 0),by split <;> omega,setl_lt hx4 om (Nat.mod_lt _ dc),take_last (dnm_lt m) hx5 (sub_word (limb_lt _ _) hx3 hx2),rfl,vec_setl (Nat.mod_lt _ dc)⟩,rfl,hr.hp _ mM,hr.fr⟩⟩
theorem c_back (m U bd bu at_:Nat) (w:World) (hbd:(Item.blk bd ⟨false,dvL m,269,(0,0)⟩).holds w) (hbu:(Item.blk bu ⟨true,vec .u64 19 (limb U),270,(0,0)⟩).holds w) (hne:bd≠bu) (hm:m<W9) (hat:at_+nw m<19) (hU:U<2^(64*(at_+nw m+1))):Calls Tryz.prog 181 ([.pointer (some ⟨bd,0,none⟩),.slice (some ⟨bu,0,none⟩) 19 19,.int .i64 ((at_:Nat):Int)]:List Value).toArray w (fun e w'=>∃ v cs',(∃ U' c,c≤1∧U' < 2^(64*(at_+nw m+1))∧U'+c*2^(64*(at_+(nw m+1))) = U+dnm m*2^(64*at_)∧v = .bool (decide (c = 1))∧cs' = vec .u64 19 (limb U'))∧e = .returned v∧(Item.blk bu ⟨true,cs',270,(0,0)⟩).holds w'∧Fr (fun k=>k = bu) w w'):=by
  refine calls_w1 (N:=63) (rs:=[.tmp 6]) bu (vec .u64 19 (limb U)) 270 (0,0) [.blk bd ⟨false,dvL m,269,(0,0)⟩] Tryz.func181 rfl Tryz.ntmps181 Tryz.results181 (Nb rfl) hbu ⟨hbd,trivial⟩ rfl (by intro x hx; simp at hx; subst hx; simp [Item.fp]; exact fun e=>hne e.symm) ?_
  refine KB ?_
  have hn9:=nw_w9 hm
  refine KA (oA (KC (KB (KA ?_))));refine oP (KO (v:=.int .u64 ((0:Nat):Int)) rfl) ?_;refine KC (KB (KB (KA (oM ?_))));refine oP (KG rfl) ?_;refine oP (KE (o':=9) u269 rfl rfl rfl sz_3 dc) ?_;refine oD (dL rfl (hv:=KJ u3 rfl (dvL_n _))) ?_;refine oP (Ki (v:=.int .i64 ((0:Nat):Int)) rfl) ?_;refine KC (LCode.block ?_);refine Ke (α:=Nat×Nat×Nat) (fun x=>x.1≤nw m∧x.2.2≤1∧x.2.1<2^(64*(at_+nw m+1))∧x.2.1+x.2.2*2^(64*(at_+x.1)) = U+(dnm m%2^(64*x.1))*2^(64*at_)) (fun x=>⟨[(0,.pointer (some ⟨bd,0,none⟩)),(1,.slice (some ⟨bu,0,none⟩) 19 19),(2,.int .i64 ((at_:Nat):Int)),(7,.int .u64 ((x.2.2:Nat):Int)),(12,.int .i64 ((nw m:Nat):Int)),(13,.int .i64 ((x.1:Nat):Int))],[.blk bu ⟨true,vec .u64 19 (limb x.2.1),270,(0,0)⟩,.blk bd ⟨false,dvL m,269,(0,0)⟩]⟩) (fun x=>nw m-x.1) ((0,U,0)) (⟨Nat.zero_le _,Nat.zero_le _,hU,back_pre⟩) (Ka ⟨rfl,rfl,rfl,rfl,rfl,rfl,trivial⟩ mS) ?_
  intro x ⟨hx1,hx2,hx4,hx5⟩
  refine KB (KA ?_);refine oP (KF rfl rfl (KAF)) ?_;refine KC (KB ?_)
  first|refine KR rfl (fun h20=>?_) (fun h20=>?_)|refine KS rfl (fun h20=>?_) (fun h20=>?_)
  ·
   have h20:x.1<nw m:=h20
   refine KN (KB (LCode.block (KB (KA (oM (oA (KC ?_)))))));refine rD [22] ?_;refine aM 0 ?_;refine aM 1 ?_;refine aM 2 ?_;refine aP 3 rfl (KF rfl rfl (Ko om)) ?_;refine aM 4 ?_;refine aM 5 ?_;refine aM 6 ?_;refine aP 7 rfl (KF rfl rfl (Ko om)) ?_;refine aP 8 rfl (KAV u205 sz_30 rfl rfl om) ?_;refine aD 9 rfl (dL rfl (hv:=KJ u30 rfl (by exact KU _ _ _ (show at_+x.1<19 by omega)))) ?_;refine aM 10 ?_;refine aM 11 ?_;refine aP 12 rfl (KG rfl) ?_;refine aP 13 rfl (KE (o':=0) u269 rfl rfl rfl sz_31 dc) ?_;refine aP 14 rfl (KP u31 sz_30 rfl rfl om) ?_;refine aD 15 rfl (dL rfl (hv:=KJ u30 rfl (by exact dvL_m _ (show x.1<9 by omega)))) ?_;refine aM 16 ?_;refine aP 17 rfl (Det.add64 ex_145 rfl rfl rfl om) ?_;refine aM 18 ?_;refine aP 19 rfl (Det.extract rfl rfl) ?_;refine aP 20 rfl (Det.extract rfl rfl) ?_;refine aP 21 rfl (KAV u205 sz_30 rfl rfl om) ?_
   refine aL 22 rfl (KZ rfl rfl rfl sz_30 (by repeat (first|exact Sh _|apply St_)) (by first|(simp only [KQ,KI,Kh,Ks]; omega)|(simp; done)|(simp; omega)) (by first|exact KAG _ _ _ _ _|exact KAM _ _ _ _ om|exact KAL _ _ _ _|rfl) (by simp) ?_);refine aA 23 ?_;refine aE ?_;refine KA ?_;refine oP (KF rfl rfl (Ko (b:=1) om)) ?_;refine oM (KC ?_)
   refine ⟨(x.1+1,setl x.2.1 (at_+x.1) ((limb x.2.1 (at_+x.1)+limb (dnm m) x.1+x.2.2)%18446744073709551616),(limb x.2.1 (at_+x.1)+limb (dnm m) x.1+x.2.2)/18446744073709551616),⟨by dsimp only; omega,add_carry (limb_lt _ _) (limb_lt _ _) hx2,setl_lt hx4 om (Nat.mod_lt _ dc),back_step hx5 add_word⟩,by dsimp only; omega,
     KAC (Sub.cells (b:=bu) (cs':=vec .u64 19 (limb (setl x.2.1 (at_+x.1) ((limb x.2.1 (at_+x.1)+limb (dnm m) x.1+x.2.2)%18446744073709551616)))) (by repeat (first|exact Sh _|apply St_)) (vec_setl (Nat.mod_lt _ dc))) (Ka ⟨rfl,rfl,rfl,rfl,rfl,rfl,trivial⟩ mS)⟩
  have h20:¬ x.1<nw m:=h20
  have he:x.1 = nw m:=by omega
  rw [he] at hx5
  refine Kc (KB ?_);refine rD [22] ?_;refine aM 0 ?_;refine aM 1 ?_;refine aM 2 ?_;refine aP 3 rfl (KG rfl) ?_;refine aP 4 rfl (KE (o':=9) u269 rfl rfl rfl sz_3 dc) ?_;refine aD 5 rfl (dL rfl (hv:=KJ u3 rfl (dvL_n _))) ?_;refine aP 6 rfl (KF rfl rfl (Ko om)) ?_;refine aM 7 ?_;refine aM 8 ?_;refine aM 9 ?_;refine aP 10 rfl (KG rfl) ?_;refine aP 11 rfl (KE (o':=9) u269 rfl rfl rfl sz_3 dc) ?_;refine aD 12 rfl (dL rfl (hv:=KJ u3 rfl (dvL_n _))) ?_;refine aP 13 rfl (KF rfl rfl (Ko om)) ?_;refine aP 14 rfl (KAV u205 sz_30 rfl rfl om) ?_;refine aD 15 rfl (dL rfl (hv:=KJ u30 rfl (by exact KU _ _ _ (show at_+nw m<19 by omega)))) ?_;refine aM 16 ?_;refine aP 17 rfl (Det.add64 (j:=0) ex_145 rfl rfl rfl om) ?_;refine aM 18 ?_;refine aP 19 rfl (Det.extract rfl rfl) ?_;refine aP 20 rfl (Det.extract rfl rfl) ?_;refine aP 21 rfl (KAV u205 sz_30 rfl rfl om) ?_
  refine aL 22 rfl (KZ rfl rfl rfl sz_30 (by repeat (first|exact Sh _|apply St_)) (by first|(simp only [KQ,KI,Kh,Ks]; omega)|(simp; done)|(simp; omega)) (by first|exact KAG _ _ _ _ _|exact KAM _ _ _ _ om|exact KAL _ _ _ _|rfl) (by simp) ?_);refine aA 23 ?_;refine aE ?_;refine KB (KA (oM ?_));refine oP (KF rfl rfl (Kz (b:=1))) ?_;refine oA (KC (KM ?_))
  have hb:=back_step (a:=at_) (i:=nw m) (D:=dnm m) hx5 (lo:=(limb x.2.1 (at_+nw m)+0+x.2.2)%18446744073709551616) (c':=(limb x.2.1 (at_+nw m)+0+x.2.2)/18446744073709551616) (by rw [limb_high (dnm_lt m) (Nat.le_refl _)]; exact add_word)
  rw [Nat.mod_eq_of_lt (Nat.lt_of_lt_of_le (dnm_lt m) (Nat.pow_le_pow_right dc om))] at hb
  refine ⟨[_],.cons rfl .nil,fun a w' hr=>⟨_,_,⟨setl x.2.1 (at_+nw m) ((limb x.2.1 (at_+nw m)+0+x.2.2)%18446744073709551616),(limb x.2.1 (at_+nw m)+0+x.2.2)/18446744073709551616,add_carry (limb_lt _ _) dc hx2,setl_lt hx4 om (Nat.mod_lt _ dc),hb,rfl,vec_setl (Nat.mod_lt _ dc)⟩,rfl,hr.hp _ mM,hr.fr⟩⟩
theorem fill_zero (W s:Nat):W%2^(64*0)*2^s = 0:=by rw [Nat.mul_zero,Nat.pow_zero,Nat.mod_one,Nat.zero_mul]
theorem rest_or {U s i:Nat} (hs:s<64):(limb U i/2^s ||| limb U (i+1)*2^(64-s)%18446744073709551616) = limb (U/2^s) i:=by
  have:=shr_or (A:=U) (w:=0) (r:=s) (i:=i) hs
  rwa [Nat.add_zero,Nat.mul_zero,Nat.zero_add] at this
theorem quo_store {K x y:Nat} (hx:x<18446744073709551616) (j:Nat):(if j = y then x else limb (K*2^(64*(y+1))) j) = limb ((K*18446744073709551616+x)*2^(64*y)) j:=by
  have h0:limb (K*2^(64*(y+1))) y = 0:=by
    unfold limb
    rw [pow64_succ,← Nat.mul_assoc,Nat.mul_div_cancel _ (pow64_pos y),Nat.mul_mod_left]
  have:=limb_addl (K*2^(64*(y+1))) x y j (by rw [h0]; omega)
  rw [h0,Nat.zero_add] at this
  rw [← this,Nat.add_mul,pow64_succ,Nat.mul_assoc]
theorem quo_sum {U U0 K x y D V:Nat} (h1:U+x*D*2^(64*y) = U0) (h2:U0+K*2^(64*(y+1))*D = V):U+(K*18446744073709551616+x)*2^(64*y)*D = V:=by
  rw [← h2,← h1,pow64_succ]
  generalize 2^(64*y) = A
  grind
theorem c_divide (m W bd bw l c:Nat) (tw:TypeId) (ww:Bool) (hm0:m≠0) (w:World) (hbd:(Item.blk bd ⟨false,dvL m,269,(0,0)⟩).holds w) (hbw:(Item.blk bw ⟨ww,vec .u64 c (limb W),tw,(0,0)⟩).holds w) (hm:m<W9) (hlc:l≤c) (hc:c≤18) (hW:W<2^(64*l)):Calls Tryz.prog 140 ([.pointer (some ⟨bd,0,none⟩),.slice (some ⟨bw,0,none⟩) l c]:List Value).toArray w (fun e w'=>e = .returned (.tuple #[wideV (W/m),natV (W%m)])∧Below w.heap.size w w'):=by
  refine KX (N:=124) (rs:=[.cell 4 204,.cell 5 33]) [.blk bd ⟨false,dvL m,269,(0,0)⟩,.blk bw ⟨false,vec .u64 c (limb W),tw,(0,0)⟩] Tryz.func140 rfl Tryz.ntmps140 Tryz.results140 (Nb rfl) ⟨hbd,hbw,trivial⟩ rfl ?_
  refine KB ?_
  have hn0:=nw_pos hm0
  have hn9:=nw_w9 hm
  have hs64:=dsh_lt hm0
  refine KA ?_;refine oS (mk (KL zr_204) (fun b4=>?_));refine oS (mk (KL zr_33) (fun b5=>?_));refine KC (KB (KA ?_));refine oS (mk (KL zr_270) (fun b6=>?_));refine KC (KB (KA ?_));refine oS (mk (KL zr_204) (fun b7=>?_));refine KC (KB (KB (KA (oM ?_))));refine oP (Det.len u205 rfl) ?_;refine oP (Ki (v:=.int .i64 ((0:Nat):Int)) rfl) ?_;refine KC (LCode.block ?_);refine Ke (α:=Nat) (fun x=>x≤l) (fun x=>⟨[(0,.pointer (some ⟨bd,0,none⟩)),(1,.slice (some ⟨bw,0,none⟩) l c),(4,.pointer (some ⟨b4,0,none⟩)),(5,.pointer (some ⟨b5,0,none⟩)),(6,.pointer (some ⟨b6,0,none⟩)),(7,.pointer (some ⟨b7,0,none⟩)),(15,.slice (some ⟨bw,0,none⟩) l c),(16,.int .i64 ((l:Nat):Int)),(17,.int .i64 ((x:Nat):Int))],[.blk b6 ⟨true,vec .u64 19 (limb (W%2^(64*x)*2^dsh m)),270,(0,0)⟩,.blk b7 ⟨true,vec .u64 18 (fun _=>0),204,(0,0)⟩,.blk b5 ⟨true,vec .u64 9 (fun _=>0),33,(0,0)⟩,.blk b4 ⟨true,vec .u64 18 (fun _=>0),204,(0,0)⟩,.blk bd ⟨false,dvL m,269,(0,0)⟩,.blk bw ⟨false,vec .u64 c (limb W),tw,(0,0)⟩]⟩) (fun x=>l-x) (0) (Nat.zero_le _) (KAC (Sub.cells (b:=b6) (cs':=vec .u64 19 (limb (W%2^(64*0)*2^dsh m))) (by repeat (first|exact Sh _|apply St_)) (by rw [fill_zero]; exact vec_zeros 19)) (Ka ⟨rfl,rfl,rfl,rfl,rfl,rfl,rfl,rfl,rfl,trivial⟩ mS)) ?_
  intro x hx
  refine KB (KA ?_);refine oP (KF rfl rfl (KAF)) ?_;refine KC (KB ?_)
  first|refine KR rfl (fun h18=>?_) (fun h18=>?_)|refine KS rfl (fun h18=>?_) (fun h18=>?_)
  ·
   have h18:x<l:=h18
   refine KN (KB (LCode.block (KB (KA (oM ?_)))));refine oP (KAV u205 sz_30 rfl rfl om) ?_;refine oD (dL rfl (hv:=KJ u30 rfl (by exact KU _ _ _ (show x<c by omega)))) ?_;refine oA (oA (KC (KB ?_)));refine rD [11] ?_;refine aM 0 ?_;refine aP 1 rfl (KP u270 sz_30 rfl rfl om) ?_;refine aD 2 rfl (dL rfl (hv:=KJ u30 rfl (by exact KU _ _ _ (show x<19 by omega)))) ?_;refine aM 3 ?_;refine aM 4 ?_;refine aP 5 rfl (KG rfl) ?_;refine aP 6 rfl (KE (o':=10) u269 rfl rfl rfl sz_3 dc) ?_;refine aD 7 rfl (dL rfl (hv:=KJ u3 rfl (dvL_s _))) ?_;refine aP 8 rfl (KF rfl rfl (br_shl64)) ?_;refine aP 9 rfl (KF rfl rfl (br_or64 (limb_lt _ _) (Nat.mod_lt _ dc))) ?_;refine aP 10 rfl (KP u270 sz_30 rfl rfl om) ?_;refine aL 11 rfl (KZ rfl rfl rfl sz_30 (by repeat (first|exact Sh _|apply St_)) (by first|(simp only [KQ,KI,Kh,Ks]; omega)|(simp; done)|(simp; omega)) (by first|exact KAG _ _ _ _ _|exact KAM _ _ _ _ om|exact KAL _ _ _ _|rfl) (by simp) ?_)
   refine aE ?_;refine KB (KA (oM ?_));refine oP (KG rfl) ?_;refine oP (KE (o':=10) u269 rfl rfl rfl sz_3 dc) ?_;refine oD (dL rfl (hv:=KJ u3 rfl (dvL_s _))) ?_;refine oP (KF rfl rfl (br_gtr (b:=0))) ?_;refine KC ?_
   first|refine KR rfl (fun h37=>?_) (fun h37=>?_)|refine KS rfl (fun h37=>?_) (fun h37=>?_)
   ·
    have h37:0<dsh m:=h37
    refine KA (oM ?_);refine oP (KF rfl rfl (Ko (b:=1) om)) ?_;refine oM (oM ?_);refine oP (KG rfl) ?_;refine oP (KE (o':=10) u269 rfl rfl rfl sz_3 dc) ?_;refine oD (dL rfl (hv:=KJ u3 rfl (dvL_s _))) ?_;refine oP (KF rfl rfl (KAb (a:=64) om om)) ?_;refine oP (KF rfl rfl (br_shr64 (limb_lt _ _))) ?_;refine oP (KP u270 sz_30 rfl rfl om) ?_;refine LOps.step rfl (KZ rfl rfl rfl sz_30 (by repeat (first|exact Sh _|apply St_)) (by first|(simp only [KQ,KI,Kh,Ks]; omega)|(simp; done)|(simp; omega)) (by first|exact KAG _ _ _ _ _|exact KAM _ _ _ _ om|exact KAL _ _ _ _|rfl) (by simp) ?_);refine KC (KA ?_);refine oP (KF rfl rfl (Ko (b:=1) om)) ?_;refine oM (KC ?_);refine ⟨x+1,by omega,by omega,KAC (Sub.cells (b:=b6) (cs':=vec .u64 19 (limb (W%2^(64*(x+1))*2^dsh m))) (by repeat (first|exact Sh _|apply St_)) (Kr fun j _=>(fill_step hs64 j).symm)) (Ka ⟨rfl,rfl,rfl,rfl,rfl,rfl,rfl,rfl,rfl,trivial⟩ mS)⟩
   have h37:¬ 0<dsh m:=h37
   refine KN (KA ?_);refine oP (KF rfl rfl (Ko (b:=1) om)) ?_;refine oM (KC ?_);refine ⟨x+1,by omega,by omega,KAC (Sub.cells (b:=b6) (cs':=vec .u64 19 (limb (W%2^(64*(x+1))*2^dsh m))) (by repeat (first|exact Sh _|apply St_)) (Kr fun j _=>?_)) (Ka ⟨rfl,rfl,rfl,rfl,rfl,rfl,rfl,rfl,rfl,trivial⟩ mS)⟩
   rw [fill_step hs64 j]
   by_cases e:j = x+1
   · rw [if_pos e,if_neg om,e,(fill_word hs64).2,show 64-dsh m = 64 by omega]
     exact (Nat.div_eq_of_lt (limb_lt W x)).symm
   · rw [if_neg e]
  have h18:¬ x<l:=h18
  have hxl:x = l:=by omega
  subst hxl
  refine Kc (KB (KB (KA (oM ?_))));refine oP (Det.len u205 rfl) ?_;refine oM ?_;refine oP (KG rfl) ?_;refine oP (KE (o':=9) u269 rfl rfl rfl sz_3 dc) ?_;refine oD (dL rfl (hv:=KJ u3 rfl (dvL_n _))) ?_;refine oP (KF (v:=.int .i64 ((x:Int)-(nw m:Int))) rfl rfl (br_subI om om)) ?_;refine oA (KC (LCode.block ?_))
  refine Ke (α:=Int×Nat×Nat) (fun x=>(-20≤x.1∧x.1+nw m≤18)∧x.2.1+x.2.2*2^(64*(x.1+1).toNat)*dnm m = W*2^dsh m∧x.2.1<dnm m*2^(64*(x.1+1).toNat)) (fun x=>⟨[(0,.pointer (some ⟨bd,0,none⟩)),(4,.pointer (some ⟨b4,0,none⟩)),(5,.pointer (some ⟨b5,0,none⟩)),(6,.pointer (some ⟨b6,0,none⟩)),(7,.pointer (some ⟨b7,0,none⟩)),(10,.int .i64 x.1)],[.blk b6 ⟨true,vec .u64 19 (limb x.2.1),270,(0,0)⟩,.blk b7 ⟨true,wideL (x.2.2*2^(64*(x.1+1).toNat)),204,(0,0)⟩,.blk b5 ⟨true,vec .u64 9 (fun _=>0),33,(0,0)⟩,.blk b4 ⟨true,vec .u64 18 (fun _=>0),204,(0,0)⟩,.blk bd ⟨false,dvL m,269,(0,0)⟩]⟩) (fun x=>(x.1+1).toNat) (((x:Int)-nw m,W*2^dsh m,0)) (⟨⟨by dsimp only; omega,by dsimp only; omega⟩,by dsimp only; rw [Nat.zero_mul,Nat.zero_mul,Nat.add_zero],by
    dsimp only
    rcases Nat.lt_or_ge x (nw m) with hlt|hge
    · rw [show ((x:Int)-nw m+1).toNat = 0 by omega,Nat.mul_zero,Nat.pow_zero,Nat.mul_one]
      exact div_short hm0 hlt hW
    · rw [show ((x:Int)-nw m+1).toNat = x-nw m+1 by omega]
      exact div_begin hm0 hge hW⟩) (KAC (Sub.cells (b:=b6) (cs':=vec .u64 19 (limb (W*2^dsh m))) (by repeat (first|exact Sh _|apply St_)) (by rw [Nat.mod_eq_of_lt hW])) (KAC (Sub.cells (b:=b7) (cs':=wideL (0*2^(64*((x:Int)-nw m+1).toNat))) (by repeat (first|exact Sh _|apply St_)) (by rw [Nat.zero_mul]; exact vec_zeros 18)) (Ka ⟨rfl,rfl,rfl,rfl,rfl,rfl,trivial⟩ mS))) ?_
  intro x ⟨⟨hx1,hx2⟩,hx3,hx4⟩
  refine KB (KB ?_)
  rcases Int.lt_or_le x.1 0 with hz|hz
  ·
   refine KA (oM ?_);refine oP (KF (v:=.bool false) rfl rfl (by simp [Kt]; omega)) ?_;refine KC ?_
   have ha0:(x.1+1).toNat = 0:=by omega
   rw [ha0,Nat.mul_zero,Nat.pow_zero,Nat.mul_one] at hx3
   rw [ha0,Nat.mul_zero,Nat.pow_zero,Nat.mul_one] at hx4
   have hend:=div_end hm0 hx3 hx4
   refine KH rfl ?_;refine Kc (KB (KA ?_));refine oS (mk (KL zr_33) (fun b13=>?_));refine KC (KB (KB (KA (oM ?_))));refine oP (KG rfl) ?_;refine oP (KE (o':=9) u269 rfl rfl rfl sz_3 dc) ?_;refine oD (dL rfl (hv:=KJ u3 rfl (dvL_n _))) ?_;refine oP (Ki (v:=.int .i64 ((0:Nat):Int)) rfl) ?_;refine KC (LCode.block ?_);refine Ke (α:=Nat) (fun i=>i≤nw m) (fun i=>⟨[(0,.pointer (some ⟨bd,0,none⟩)),(4,.pointer (some ⟨b4,0,none⟩)),(5,.pointer (some ⟨b5,0,none⟩)),(6,.pointer (some ⟨b6,0,none⟩)),(7,.pointer (some ⟨b7,0,none⟩)),(13,.pointer (some ⟨b13,0,none⟩)),(84,.int .i64 ((nw m:Nat):Int)),(85,.int .i64 ((i:Nat):Int))],[.blk b13 ⟨true,vec .u64 9 (fun j=>if j<i then limb (x.2.1/2^dsh m) j else 0),33,(0,0)⟩,.blk b6 ⟨true,vec .u64 19 (limb x.2.1),270,(0,0)⟩,.blk b7 ⟨true,wideL (x.2.2*2^(64*(x.1+1).toNat)),204,(0,0)⟩,.blk b5 ⟨true,vec .u64 9 (fun _=>0),33,(0,0)⟩,.blk b4 ⟨true,vec .u64 18 (fun _=>0),204,(0,0)⟩,.blk bd ⟨false,dvL m,269,(0,0)⟩]⟩) (fun i=>nw m-i) (0) (Nat.zero_le _) (Ka ⟨rfl,rfl,rfl,rfl,rfl,rfl,rfl,rfl,trivial⟩ mS) ?_
   intro i hi
   refine KB (KA ?_);refine oP (KF rfl rfl (KAF)) ?_;refine KC (KB ?_)
   first|refine KR rfl (fun h86=>?_) (fun h86=>?_)|refine KS rfl (fun h86=>?_) (fun h86=>?_)
   ·
    have h86:i<nw m:=h86
    refine KN (KB (LCode.block (KB (KA (oM (oA (KC (KB ?_))))))));refine rD [11] ?_;refine aM 0 ?_;refine aM 1 ?_;refine aP 2 rfl (KP u270 sz_30 rfl rfl om) ?_;refine aD 3 rfl (dL rfl (hv:=KJ u30 rfl (by exact KU _ _ _ (show i<19 by omega)))) ?_;refine aM 4 ?_;refine aP 5 rfl (KG rfl) ?_;refine aP 6 rfl (KE (o':=10) u269 rfl rfl rfl sz_3 dc) ?_;refine aD 7 rfl (dL rfl (hv:=KJ u3 rfl (dvL_s _))) ?_;refine aP 8 rfl (KF rfl rfl (br_shr64 (limb_lt _ _))) ?_;refine aP 9 rfl (KE (o':=0) u33 rfl rfl rfl sz_31 dc) ?_;refine aP 10 rfl (KP u31 sz_30 rfl rfl om) ?_;refine aL 11 rfl (KZ rfl rfl rfl sz_30 (by repeat (first|exact Sh _|apply St_)) (by first|(simp only [KQ,KI,Kh,Ks]; omega)|(simp; done)|(simp; omega)) (by first|exact KAG _ _ _ _ _|exact KAM _ _ _ _ om|exact KAL _ _ _ _|rfl) (by simp) ?_);refine aE ?_;refine KB (KA (oM ?_))
    refine oP (KG rfl) ?_;refine oP (KE (o':=10) u269 rfl rfl rfl sz_3 dc) ?_;refine oD (dL rfl (hv:=KJ u3 rfl (dvL_s _))) ?_;refine oP (KF rfl rfl (br_gtr (b:=0))) ?_;refine KC ?_
    first|refine KR rfl (fun h103=>?_) (fun h103=>?_)|refine KS rfl (fun h103=>?_) (fun h103=>?_)
    ·
     have h103:0<dsh m:=h103
     refine rD [17] ?_;refine aM 0 ?_;refine aP 1 rfl (KE (o':=0) u33 rfl rfl rfl sz_31 dc) ?_;refine aP 2 rfl (KP u31 sz_30 rfl rfl om) ?_;refine aD 3 rfl (Det.load (v:=.int .u64 ((limb x.2.1 i/2^dsh m:Nat):Int)) rfl mM (KJ u30 rfl (by exact (KU .u64 9 (fun j=>if j = i then limb x.2.1 i/2^dsh m else if j<i then limb (x.2.1/2^dsh m) j else 0) (show i<9 by omega)).trans (by show some (Value.int .u64 ((if i = i then _ else _:Nat):Int)) = _; rw [if_pos rfl])))) ?_;refine aM 4 ?_;refine aP 5 rfl (KF rfl rfl (Ko (b:=1) om)) ?_;refine aP 6 rfl (KP u270 sz_30 rfl rfl om) ?_;refine aD 7 rfl (dL rfl (hv:=KJ u30 rfl (by exact KU _ _ _ (show i+1<19 by omega)))) ?_;refine aM 8 ?_;refine aP 9 rfl (KG rfl) ?_;refine aP 10 rfl (KE (o':=10) u269 rfl rfl rfl sz_3 dc) ?_;refine aD 11 rfl (dL rfl (hv:=KJ u3 rfl (dvL_s _))) ?_
     refine aP 12 rfl (KF rfl rfl (KAb (a:=64) om om)) ?_;refine aP 13 rfl (KF rfl rfl (br_shl64)) ?_;refine aP 14 rfl (KF rfl rfl (br_or64 (Nat.lt_of_le_of_lt (Nat.div_le_self _ _) (limb_lt _ _)) (Nat.mod_lt _ dc))) ?_;refine aP 15 rfl (KE (o':=0) u33 rfl rfl rfl sz_31 dc) ?_;refine aP 16 rfl (KP u31 sz_30 rfl rfl om) ?_;refine aL 17 rfl (KZ rfl rfl rfl sz_30 (by repeat (first|exact Sh _|apply St_)) (by first|(simp only [KQ,KI,Kh,Ks]; omega)|(simp; done)|(simp; omega)) (by first|exact KAG _ _ _ _ _|exact KAM _ _ _ _ om|exact KAL _ _ _ _|rfl) (by simp) ?_);refine aE ?_;refine KA ?_;refine oP (KF rfl rfl (Ko (b:=1) om)) ?_;refine oM (KC ?_);refine ⟨i+1,by omega,by omega,KAC (Sub.cells (b:=b13) (cs':=vec .u64 9 (fun j=>if j<i+1 then limb (x.2.1/2^dsh m) j else 0)) (by repeat (first|exact Sh _|apply St_)) (Kr fun j _=>?_)) (Ka ⟨rfl,rfl,rfl,rfl,rfl,rfl,rfl,rfl,trivial⟩ mS)⟩
     by_cases e:j = i
     · subst e
       rw [if_pos rfl,if_pos om]
       exact rest_or hs64
     · rw [if_neg e,if_neg e]
       by_cases e2:j<i
       · rw [if_pos e2,if_pos om]
       · rw [if_neg e2,if_neg om]
    have h103:¬ 0<dsh m:=h103
    refine KN (KA ?_);refine oP (KF rfl rfl (Ko (b:=1) om)) ?_;refine oM (KC ?_);refine ⟨i+1,by omega,by omega,KAC (Sub.cells (b:=b13) (cs':=vec .u64 9 (fun j=>if j<i+1 then limb (x.2.1/2^dsh m) j else 0)) (by repeat (first|exact Sh _|apply St_)) (Kr fun j _=>?_)) (Ka ⟨rfl,rfl,rfl,rfl,rfl,rfl,rfl,rfl,trivial⟩ mS)⟩
    by_cases e:j = i
    · subst e
      rw [if_pos rfl,if_pos om,show dsh m = 0 by omega,Nat.pow_zero,Nat.div_one,Nat.div_one]
    · rw [if_neg e]
      by_cases e2:j<i
      · rw [if_pos e2,if_pos om]
      · rw [if_neg e2,if_neg om]
   have h86:¬ i<nw m:=h86
   have hin:i = nw m:=by omega
   subst hin
   refine Kc (KB ?_);refine rD [2,3] ?_;refine aD 0 rfl (dL rfl (hv:=by exact KD u204 rfl sz_204)) ?_;refine LAny.twoX 1 2 rfl rfl rfl rfl (by kernel_rfl) (.inr (LStep.det dNa (Nb rfl) ?_)) (.inl ⟨rfl,sA rfl rfl sz_204 mO (hl:=mL) (h:=?_)⟩)
   ·
    refine aL 2 rfl (sA rfl rfl sz_204 mO (hl:=mL) (h:=?_));refine aL 3 rfl (sA rfl rfl sz_33 mO (hl:=mL) (h:=?_));refine aE ?_;refine KM ?_
    have hr9:(vec IntKind.u64 9 fun j=>if j<nw m then limb (x.2.1/2^dsh m) j else 0) = natL (W%m):=by
      rw [← hend.2]
      apply Kr
      intro j hj
      by_cases e:j<nw m
      · rw [if_pos e]
      · rw [if_neg e,limb_high (Nat.lt_of_le_of_lt (Nat.div_le_self _ _) (Nat.lt_trans hx4 (dnm_lt m))) om]
    have hq9:wideL (x.2.2*2^(64*(x.1+1).toNat)) = wideL (W/m):=by rw [ha0,Nat.mul_zero,Nat.pow_zero,Nat.mul_one,hend.1]
    refine ⟨[_,_],.cons ⟨_,_,_,rfl,mM,by exact KD u204 rfl sz_204⟩ (.cons ⟨_,_,_,rfl,mM,by exact KD u33 rfl sz_33⟩ .nil),fun a w' hr=>⟨?_,hr.fr.below⟩⟩
    show Ending.returned (.tuple #[.agg (wideL (x.2.2*2^(64*(x.1+1).toNat))).toArray,.agg (vec IntKind.u64 9 fun j=>if j<nw m then limb (x.2.1/2^dsh m) j else 0).toArray]) = _
    rw [hr9,hq9]
    rfl
   refine aD 1 rfl dNa ?_;refine aL 3 rfl (sA rfl rfl sz_33 mO (hl:=mL) (h:=?_));refine aE ?_;refine KM ?_
   have hr9:(vec IntKind.u64 9 fun j=>if j<nw m then limb (x.2.1/2^dsh m) j else 0) = natL (W%m):=by
     rw [← hend.2]
     apply Kr
     intro j hj
     by_cases e:j<nw m
     · rw [if_pos e]
     · rw [if_neg e,limb_high (Nat.lt_of_le_of_lt (Nat.div_le_self _ _) (Nat.lt_trans hx4 (dnm_lt m))) om]
   have hq9:wideL (x.2.2*2^(64*(x.1+1).toNat)) = wideL (W/m):=by rw [ha0,Nat.mul_zero,Nat.pow_zero,Nat.mul_one,hend.1]
   refine ⟨[_,_],.cons ⟨_,_,_,rfl,mM,by exact KD u204 rfl sz_204⟩ (.cons ⟨_,_,_,rfl,mM,by exact KD u33 rfl sz_33⟩ .nil),fun a w' hr=>⟨?_,hr.fr.below⟩⟩
   show Ending.returned (.tuple #[.agg (wideL (x.2.2*2^(64*(x.1+1).toNat))).toArray,.agg (vec IntKind.u64 9 fun j=>if j<nw m then limb (x.2.1/2^dsh m) j else 0).toArray]) = _
   rw [hr9,hq9]
   rfl
  refine KA (oM ?_);refine oP (KF (v:=.bool true) rfl rfl (by simp [Kt]; omega)) ?_;refine KC ?_
  obtain ⟨y,hy⟩:∃ y:Nat,x.1 = y:=⟨x.1.toNat,by omega⟩
  have ha1:(x.1+1).toNat = y+1:=by omega
  rw [ha1] at hx3
  rw [ha1] at hx4
  refine KT rfl ?_;refine KN (KB (LCode.block (KB (KA (oM ?_)))));refine oP (Det.slArr u270 sz_30 rfl) ?_;refine oP (Ki (v:=.int .i64 ((y:Nat):Int)) (by show some _ = some _; rw [hy])) ?_;refine oS (LStep.callV (Post:=fun v=>∃ q:Nat,(q<18446744073709551616∧x.2.1/2^(64*y)/dnm m≤q)∧v = .int .u64 ((q:Nat):Int)) (first:=[]) rfl en_179 rfl (Nb rfl) (fun w hw=>(c_guess m x.2.1 bd b6 y true hm0 w (mC hw) (mC hw) hm om hx4).mono fun e w' ⟨q,h,h1,h2⟩=>⟨_,⟨q,h,rfl⟩,h1,h2⟩) ?_)
  rintro _ ⟨q,⟨hq1,hq2⟩,rfl⟩
  refine oA (KC (KB (KB (KA (oM ?_)))));refine oP (Det.slArr u270 sz_30 rfl) ?_;refine oP (Ki (v:=.int .i64 ((y:Nat):Int)) (by show some _ = some _; rw [hy])) ?_;refine oM ?_;refine LOps.step rfl (LStepW.callWF (Post:=fun v cs'=>∃ U' bw,bw≤1∧U' < 2^(64*(y+nw m+1))∧U'+q*dnm m*2^(64*y) = x.2.1+bw*2^(64*(y+nw m+1))∧v = .bool (decide (bw = 1))∧cs' = vec .u64 19 (limb U')) (first:=[]) rfl en_180 rfl (Nb rfl) (fun cs'=>(by repeat (first|exact Sh _|apply St_))) (fun w hw hap=>c_take m x.2.1 bd b6 y q hq1 w (mC hw) (mC hw) (apart_blk hap (b:=b6) mM (c:=bd) mM rfl rfl) hm om (win_lt (dnm_lt m) hx4)) ?_)
  rintro _ _ ⟨U1,bw1,ht1,ht2,ht3,rfl,rfl⟩
  refine oA (KC (LCode.block ?_));refine Ke (α:=Nat×Nat×Nat) (fun k=>k.2.2≤1∧k.2.1<2^(64*(y+nw m+1))∧k.2.1+k.1*dnm m*2^(64*y) = x.2.1+k.2.2*2^(64*(y+nw m+1))∧x.2.1/2^(64*y)/dnm m≤k.1∧k.1<18446744073709551616) (fun k=>⟨[(0,.pointer (some ⟨bd,0,none⟩)),(4,.pointer (some ⟨b4,0,none⟩)),(5,.pointer (some ⟨b5,0,none⟩)),(6,.pointer (some ⟨b6,0,none⟩)),(7,.pointer (some ⟨b7,0,none⟩)),(10,.int .i64 ((y:Nat):Int)),(11,.int .u64 ((k.1:Nat):Int)),(12,.bool (decide (k.2.2 = 1)))],[.blk b6 ⟨true,vec .u64 19 (limb k.2.1),270,(0,0)⟩,.blk b7 ⟨true,wideL (x.2.2*2^(64*(x.1+1).toNat)),204,(0,0)⟩,.blk b5 ⟨true,vec .u64 9 (fun _=>0),33,(0,0)⟩,.blk b4 ⟨true,vec .u64 18 (fun _=>0),204,(0,0)⟩,.blk bd ⟨false,dvL m,269,(0,0)⟩]⟩) (fun k=>k.1) ((q,U1,bw1)) (⟨ht1,ht2,ht3,hq2,hq1⟩) (Ka ⟨rfl,rfl,rfl,rfl,rfl,congrArg (fun i:Int=>some (Value.int .i64 i)) hy,rfl,rfl,trivial⟩ mS) ?_
  intro k ⟨hk1,hk2,hk3,hk4,hk5⟩
  refine KB (KB (KA (oM (KC ?_))))
  first|refine KR rfl (fun h69=>?_) (fun h69=>?_)|refine KS rfl (fun h69=>?_) (fun h69=>?_)
  ·
   have h69:k.2.2 = 1:=h69
   rw [h69,Nat.one_mul] at hk3
   have hqw:=quo_word hk2 hk3 hk4 (dnm_pos hm0)
   refine KN (KB (LCode.block (KA (oM ?_))));refine oP (KK (KF rfl rfl (br_sub64 (b:=1) dc)) (vi (b:=k.1-1) om)) ?_;refine oA (KC (KA (oM ?_)));refine oP (Det.slArr u270 sz_30 rfl) ?_;refine oM ?_;refine LOps.step rfl (LStepW.callWF (Post:=fun v cs'=>∃ U' c,c≤1∧U' < 2^(64*(y+nw m+1))∧U'+c*2^(64*(y+(nw m+1))) = k.2.1+dnm m*2^(64*y)∧v = .bool (decide (c = 1))∧cs' = vec .u64 19 (limb U')) (first:=[]) rfl en_181 rfl (Nb rfl) (fun cs'=>(by repeat (first|exact Sh _|apply St_))) (fun w hw hap=>c_back m k.2.1 bd b6 y w (mC hw) (mC hw) (apart_blk hap (b:=b6) mM (c:=bd) mM rfl rfl) hm om hk2) ?_)
   rintro _ _ ⟨U2,c2,hb1,hb2,hb3,rfl,rfl⟩
   refine oP (KAK rfl) ?_;refine oA (KC ?_);refine ⟨(k.1-1,U2,1-c2),⟨by dsimp only; omega,hb2,quo_back hqw.2 hk3 (by rw [← Nat.add_assoc] at hb3; exact hb3) hb1,hqw.1,by dsimp only; omega⟩,by have:=hqw.2; dsimp only; omega,Ka ⟨rfl,rfl,rfl,rfl,rfl,rfl,rfl,?_,trivial⟩ mS⟩;refine congrArg (fun b:Bool=>some (Value.bool b)) ?_
   rcases Nat.le_one_iff_eq_zero_or_eq_one.1 hb1 with h|h <;> subst h <;> rfl
  have h69:¬ k.2.2 = 1:=h69
  have hk0:k.2.2 = 0:=by omega
  rw [hk0,Nat.zero_mul,Nat.add_zero] at hk3
  have hdn:=quo_done (dnm_pos hm0) hk3 hk4
  refine Kc (KA (oM (oM ?_)));refine oP (KE (o':=0) u204 rfl rfl rfl sz_202 dc) ?_;refine oP (KP u202 sz_30 rfl rfl om) ?_;refine LOps.step rfl (KZ rfl rfl rfl sz_30 (by repeat (first|exact Sh _|apply St_)) (by first|(simp only [KQ,KI,Kh,Ks]; omega)|(simp; done)|(simp; omega)) (by first|exact KAG _ _ _ _ _|exact KAM _ _ _ _ om|exact KAL _ _ _ _|rfl) (by simp) ?_);refine KC (KA (oM ?_));refine oP (KF (v:=.int .i64 ((y:Int)-1)) rfl rfl (br_subI om om)) ?_;refine oA (KC ?_);refine ⟨((y:Int)-1,k.2.1,x.2.2*18446744073709551616+k.1),⟨⟨by dsimp only; omega,by dsimp only; omega⟩,?_,?_⟩,by dsimp only; omega,KAC (Sub.cells (b:=b7) (cs':=wideL ((x.2.2*18446744073709551616+k.1)*2^(64*((y:Int)-1+1).toNat))) (by repeat (first|exact Sh _|apply St_)) (Kr fun j _=>?_)) (Ka ⟨rfl,rfl,rfl,rfl,rfl,rfl,trivial⟩ mS)⟩
  · dsimp only
    rw [show ((y:Int)-1+1).toNat = y by omega]
    exact quo_sum hk3 hx3
  · dsimp only
    rw [show ((y:Int)-1+1).toNat = y by omega]
    exact hdn
  · rw [show ((y:Int)-1+1).toNat = y by omega,ha1]
    exact quo_store hk5 j
theorem nat_eq_iff {A B:Nat} (hA:A<W9) (hB:B<W9):(decide (A = B)) = true↔∀ i,i<9→limb A i = limb B i:=by
  constructor
  · intro h i _; rw [of_decide_eq_true h]
  · intro h; exact decide_eq_true (limb_ext hA hB h)
theorem take_all (A:Nat):(natL A).take 9 = natL A:=List.take_of_length_le (by rw [KI]; exact Nat.le_refl _)
theorem eq_nat (A B:Nat) (hA:A<W9) (hB:B<W9):EqD 3 Tryz.prog 33 (natV A) (natV B) (decide (A = B)):=by
  rw [← Bool.and_true (decide (A = B))]
  exact EqD.struct (fs:=[_]) u33 (by kernel_rfl) (EqFs.cons dc (PartOf.agg u31 rfl sz_31 (take_all A)) (PartOf.agg u31 rfl sz_31 (take_all B)) (EqD.nums (nat_eq_iff hA hB) u31 u30 sz_30) EqFs.nil)
theorem blen_w9e {E:Nat} (h:E<W9):blen E≤576:=by
  have h1:∀ n,n = 9→blen E≤64*n:=fun n hn=>blen_le (lt_w9_pow h n hn)
  have:=h1 9 rfl
  omega
theorem mul_pow18 {A B:Nat} (hA:A<W9) (hB:B<W9):∀ i,i = 18→A*B<2^(64*i):=fun i h=>by
  rw [w18 h]; exact mul_w18 hA hB
theorem nw_mul {A B:Nat} (hA:A<W9) (hB:B<W9):nw (A*B)≤18:=nw_le (mul_pow18 hA hB 18 rfl)
theorem one_w9:1<W9:=Nat.one_lt_pow dc dc
theorem mod_w9 {A m:Nat} (hm0:m≠0) (hm:m<W9):A%m<W9:=Nat.lt_trans (Nat.mod_lt _ (Nat.pos_of_ne_zero hm0)) hm
theorem wide_take {Q:Nat}:((wideL Q).drop 0).take 9 = natL Q:=by
  unfold wideL natL vec
  rw [List.drop_zero,← List.map_take,List.take_range]
  rfl
theorem pow_bit (a e i m:Nat):(if e/2^i%2 = 1 then (a^(e/2^(i+1))%m*(a^(e/2^(i+1))%m)%m*a)%m else (a^(e/2^(i+1))%m*(a^(e/2^(i+1))%m))%m) = a^(e/2^i)%m:=by
  have h1:e/2^i = 2*(e/2^(i+1))+e/2^i%2:=by
    rw [Nat.pow_succ,← Nat.div_div_eq_div_mul]; omega
  have h2:=Nat.mod_two_eq_zero_or_one (e/2^i)
  generalize e/2^(i+1) = k at *
  rw [← Nat.mul_mod]
  rcases h2 with h2|h2
  · rw [h2] at h1 ⊢
    rw [if_neg dc,h1,Nat.add_zero,Nat.two_mul,Nat.pow_add]
  · rw [h2] at h1 ⊢
    rw [if_pos rfl,h1,Nat.pow_add,Nat.two_mul,Nat.pow_add,Nat.pow_one,Nat.mod_mul_mod]
theorem c_zero (m bm:Nat) (wr:Bool) (w:World) (hb:(Item.blk bm ⟨wr,natL m,33,(0,0)⟩).holds w) (hm:m<W9):Calls Tryz.prog 138 ([.pointer (some ⟨bm,0,none⟩)]:List Value).toArray w (fun e w'=>e = .returned (.bool (decide (m = 0)))∧Below w.heap.size w w'):=by
  refine KX (N:=8) (rs:=[.tmp 2]) [.blk bm ⟨false,natL m,33,(0,0)⟩] Tryz.func138 rfl Tryz.ntmps138 Tryz.results138 (Nb rfl) ⟨hb,trivial⟩ rfl ?_
  refine KB (KA (oA (KC (KB (KA (oM ?_))))));refine oP (KG rfl) ?_;refine oD dNa ?_;refine oP (KK (Kd pl_33 zr_33 rfl rfl) (show _ = natV 0 by unfold natV natL; rw [← vec_zeros 9])) ?_;refine oP (Det.eqa (by kernel_rfl) (fun w=>eq_nat m 0 hm (by exact w9_pos) 10000 dc w) rfl rfl) ?_;refine oA (KC (KM ?_));refine ⟨[_],.cons rfl .nil,fun a w' hr=>⟨?_,hr.fr.below⟩⟩
  rfl
theorem c_zeroN (m bm:Nat) (wr:Bool) (hm0:m≠0) (w:World) (hb:(Item.blk bm ⟨wr,natL m,33,(0,0)⟩).holds w) (hm:m<W9):Calls Tryz.prog 138 ([.pointer (some ⟨bm,0,none⟩)]:List Value).toArray w (fun e w'=>e = .returned (.bool false)∧Below w.heap.size w w'):=by
  have h:=c_zero m bm wr w hb hm
  rw [decide_eq_false hm0] at h
  exact h
theorem c_By (m:Nat) (hm0:m≠0) (hm:m<W9) (w:World)  : Calls Tryz.prog 129 ([natV m]:List Value).toArray w (fun e w'=>∃ b,e = .returned (.agg [.pointer (some ⟨b,0,none⟩)].toArray)∧w.heap.size≤b∧(Item.blk b ⟨false,dvL m,269,(0,0)⟩).holds w'∧Below w.heap.size w w'):=by
  refine KX (N:=5) (rs:=[.cell 2 163]) [] Tryz.func129 rfl Tryz.ntmps129 Tryz.results129 (Nb rfl) trivial rfl ?_
  refine KB (KA ?_);refine oS (mB (fun b1=>?_));refine oS (mk (KL zr_163) (fun b2=>?_));refine KC (KB (KA ?_));refine oS (LStep.call (Post:=fun v its=>∃ b,v = .pointer (some ⟨b,0,none⟩)∧its = [.blk b ⟨true,dvL m,269,(0,0)⟩]) (first:=[]) rfl en_139 rfl (Nb rfl) (fun w hw=>(c_of m b1 _ hm0 w (mC hw) hm).mono fun e w' ⟨b,h1,h2,h3,h4⟩=>⟨_,_,⟨b,rfl,rfl⟩,h1,Brings.blk1 h4 h2 h3⟩) ?_)
  rintro _ _ ⟨bd,rfl,rfl⟩
  refine oP (Kd pl_163 zr_163 rfl (fT (r':=([.pointer (some ⟨bd,0,none⟩)])) (fS (A:=([]:List Value)) (B:=([Value.pointer none])) (D:=([]:List Value)) (cs:=[.pointer (some ⟨bd,0,none⟩)]) rfl))) ?_;refine LOps.step rfl (sA rfl rfl sz_163 mO (hl:=mL) (h:=?_));refine KC (KM ?_);refine ⟨[_],.cons ⟨_,_,_,rfl,mM,by exact KD u163 rfl sz_163⟩ .nil,fun a w' hr=>⟨bd,rfl,hr.new (B:=⟨true,dvL m,269,(0,0)⟩) mM rfl,(show (Item.blk bd ⟨true,dvL m,269,(0,0)⟩).holds w' from hr.hp _ mM),hr.fr.below⟩⟩
theorem c_Mul (m A B bd:Nat) (hm0:m≠0) (hm:m<W9) (w:World) (hbd:(Item.blk bd ⟨false,dvL m,269,(0,0)⟩).holds w) (hA:A<W9) (hB:B<W9):Calls Tryz.prog 133 ([.agg [.pointer (some ⟨bd,0,none⟩)].toArray,natV A,natV B]:List Value).toArray w (fun e w'=>e = .returned (natV (A*B%m))∧Below w.heap.size w w'):=by
  refine KX (N:=25) (rs:=[.cell 6 33]) [.blk bd ⟨false,dvL m,269,(0,0)⟩] Tryz.func133 rfl Tryz.ntmps133 Tryz.results133 (Nb rfl) ⟨hbd,trivial⟩ rfl ?_
  refine KB (KA ?_);refine oS (mB (fun b3=>?_));refine oS (mB (fun b4=>?_));refine oS (mB (fun b5=>?_));refine oS (mk (KL zr_33) (fun b6=>?_));refine KC (KB (KA ?_));refine oD dNa ?_;refine oD dNa ?_;refine oS (cF rfl en_168 rfl (fun w hw=>c_nat_Mul A B hA hB w) ?_);refine oS (mk (KL zr_204) (fun b7=>?_));refine LOps.step rfl (sA rfl rfl sz_204 mO (hl:=mL) (h:=?_));refine KC (KB ?_);refine rD [13,14] ?_;refine aP 0 rfl (KE (o':=0) u163 rfl rfl rfl sz_161 dc) ?_;refine aD 1 rfl (dL rfl (hv:=KJ u161 rfl (by first|rfl|exact KU _ _ _ om|exact KY _ om|exact Kb _ om|exact dv_m _ _ _ om))) ?_;refine aP 2 rfl (KE (o':=0) u204 rfl rfl rfl sz_202 dc) ?_;refine aP 3 rfl (KE (o':=0) u204 rfl rfl rfl sz_202 dc) ?_;refine aP 4 rfl (Det.slArr u202 sz_30 rfl) ?_
  refine KAR ?_;refine Kp 11 rfl (.inl zr_204) (Nb rfl) rfl rfl rfl ?_;refine Kp 12 rfl (.inl zr_33) (Nb rfl) rfl rfl rfl ?_;refine LAnyP.step 5 rfl rfl rfl (Nb rfl) (by kernel_rfl) rfl (Kg (first:=[]) rfl en_169 rfl (fun w hw=>c_length (A*B) b7 18 18 _ true w (mC hw) (Nat.le_refl _) dc (mul_pow18 hA hB 18 rfl))) ?_
  rintro _ _ ⟨rfl,rfl⟩
  refine pP 6 rfl (Det.slArrH u202 sz_30 rfl rfl om (by have:=nw_mul hA hB; omega)) ?_;refine LAnyP.step 7 rfl rfl rfl (Nb rfl) (by kernel_rfl) rfl (Kg (first:=[]) rfl en_140 rfl (fun w hw=>c_divide m (A*B) bd b7 (nw (A*B)) 18 _ true hm0 w (mC hw) (mC hw) hm (nw_mul hA hB) dc (lt_nw _))) ?_
  rintro _ _ ⟨rfl,rfl⟩
  refine pM 8 ?_;refine pP 9 rfl (Det.extract rfl rfl) ?_;refine pP 10 rfl (Det.extract rfl rfl) ?_;refine pE (fun b9=>?_);refine pE (fun b8=>?_);refine Kw ?_;refine aL 13 rfl (sA rfl rfl sz_204 mO (hl:=mL) (h:=?_));refine aL 14 rfl (sA rfl rfl sz_33 mO (hl:=mL) (h:=?_));refine aE ?_;refine KB (KA ?_);refine oD dNa ?_;refine LOps.step rfl (sA rfl rfl sz_33 mO (hl:=mL) (h:=?_));refine KC (KM ?_);refine ⟨[_],.cons ⟨_,_,_,rfl,mM,by exact KD u33 rfl sz_33⟩ .nil,fun a w' hr=>⟨?_,hr.fr.below⟩⟩
  rfl
theorem c_Div (A m:Nat) (hm0:m≠0) (w:World) (hA:A<W9) (hm:m<W9):Calls Tryz.prog 86 ([natV A,natV m]:List Value).toArray w (fun e w'=>e = .returned (.tuple #[natV (A/m),natV (A%m),.int .i64 ((0:Nat):Int)])∧Below w.heap.size w w'):=by
  refine KX (N:=25) (rs:=[.cell 4 33,.cell 5 33,.tmp 6]) [] Tryz.func86 rfl Tryz.ntmps86 Tryz.results86 (Nb rfl) trivial rfl ?_
  refine KB (KA ?_);refine oS (mB (fun b2=>?_));refine oS (mB (fun b3=>?_));refine oS (mk (KL zr_33) (fun b4=>?_));refine oS (mk (KL zr_33) (fun b5=>?_));refine oP (KO (v:=.int .i64 ((0:Nat):Int)) rfl) ?_;refine KC (KB (KB (KA ?_)));refine oS (cF rfl en_138 rfl (fun w hw=>c_zeroN m b3 _ hm0 w (mC hw) hm) ?_);refine KC ?_;refine KH rfl ?_;refine KN (KB ?_);refine rD [9,10] ?_;refine aP 1 rfl (KE (o':=0) u33 rfl rfl rfl sz_31 dc) ?_;refine aP 2 rfl (Det.slArr u31 sz_30 rfl) ?_;refine KAR ?_;refine Kp 7 rfl (.inl zr_204) (Nb rfl) rfl rfl rfl ?_;refine Kp 8 rfl (.inl zr_33) (Nb rfl) rfl rfl rfl ?_;refine LAnyP.step 0 rfl rfl rfl (Nb rfl) (by kernel_rfl) rfl (LExt.call (Post:=fun v its=>∃ b,v = .pointer (some ⟨b,0,none⟩)∧its = [.blk b ⟨false,dvL m,269,(0,0)⟩]) (first:=[]) rfl en_139 rfl (fun w hw=>(c_of m b3 _ hm0 w (mC hw) hm).mono fun e w' ⟨b,h1,h2,h3,h4⟩=>⟨_,_,⟨b,rfl,rfl⟩,h1,Brings.blk1 h4 h2 h3⟩)) ?_
  rintro _ _ ⟨bd,rfl,rfl⟩
  refine LAnyP.step 3 rfl rfl rfl (Nb rfl) (by kernel_rfl) rfl (Kg (first:=[]) rfl en_140 rfl (fun w hw=>c_divide m A bd b2 9 9 _ true hm0 w (mC hw) (mC hw) hm (Nat.le_refl _) dc (lt_w9_pow hA 9 rfl))) ?_
  rintro _ _ ⟨rfl,rfl⟩
  refine pM 4 ?_;refine pP 5 rfl (Det.extract rfl rfl) ?_;refine pP 6 rfl (Det.extract rfl rfl) ?_;refine pE (fun b8=>?_);refine pE (fun b7=>?_);refine Kw ?_;refine aL 9 rfl (sA rfl rfl sz_204 mO (hl:=mL) (h:=?_));refine aL 10 rfl (sA rfl rfl sz_33 mO (hl:=mL) (h:=?_));refine aE ?_;refine KB ?_;refine rD [6,7] ?_;refine aP 0 rfl (KE (o':=0) u204 rfl rfl rfl sz_202 dc) ?_;refine aP 1 rfl (Det.slArrH u202 sz_30 rfl rfl om om) ?_;refine aP 2 rfl (Det.s2a u31 rfl om) ?_;refine aD 3 rfl (Det.load (v:=.agg (natL (A/m)).toArray) rfl mM (LoadV.many u31 rfl sz_31 wide_take (by simp only [Kh]; decide))) ?_;refine aP 4 rfl (Kd pl_33 zr_33 rfl (fT (r':=(natL (A/m))) (fS (A:=([]:List Value)) (B:=(vec .u64 9 (fun _=>0))) (D:=([]:List Value)) (cs:=natL (A/m)) rfl))) ?_;refine LAny.twoX 5 6 rfl rfl rfl rfl (by kernel_rfl) (.inr (LStep.det dNa (Nb rfl) ?_)) (.inl ⟨rfl,sA rfl rfl sz_33 mO (hl:=mL) (h:=?_)⟩)
  ·
   refine aL 6 rfl (sA rfl rfl sz_33 mO (hl:=mL) (h:=?_));refine aL 7 rfl (sA rfl rfl sz_33 mO (hl:=mL) (h:=?_));refine aP 8 rfl (KO (v:=.int .i64 ((0:Nat):Int)) rfl) ?_;refine aE ?_;refine KM ?_;refine ⟨[_,_,_],.cons ⟨_,_,_,rfl,mM,by exact KD u33 rfl sz_33⟩ (.cons ⟨_,_,_,rfl,mM,by exact KD u33 rfl sz_33⟩ (.cons rfl .nil)),fun a w' hr=>⟨?_,hr.fr.below⟩⟩
   rfl
  refine aD 5 rfl dNa ?_;refine aL 7 rfl (sA rfl rfl sz_33 mO (hl:=mL) (h:=?_));refine aP 8 rfl (KO (v:=.int .i64 ((0:Nat):Int)) rfl) ?_;refine aE ?_;refine KM ?_;refine ⟨[_,_,_],.cons ⟨_,_,_,rfl,mM,by exact KD u33 rfl sz_33⟩ (.cons ⟨_,_,_,rfl,mM,by exact KD u33 rfl sz_33⟩ (.cons rfl .nil)),fun a w' hr=>⟨?_,hr.fr.below⟩⟩
  rfl
theorem c_Pow (m A E bd:Nat) (hm0:m≠0) (hm:m<W9) (w:World) (hbd:(Item.blk bd ⟨false,dvL m,269,(0,0)⟩).holds w) (hA:A<W9) (hE:E<W9):Calls Tryz.prog 160 ([.agg [.pointer (some ⟨bd,0,none⟩)].toArray,natV A,natV E]:List Value).toArray w (fun e w'=>e = .returned (natV (A^E%m))∧Below w.heap.size w w'):=by
  refine KX (N:=33) (rs:=[.cell 6 33]) [.blk bd ⟨false,dvL m,269,(0,0)⟩] Tryz.func160 rfl Tryz.ntmps160 Tryz.results160 (Nb rfl) ⟨hbd,trivial⟩ rfl ?_
  refine KB (KA ?_);refine oS (mB (fun b3=>?_));refine oS (mB (fun b4=>?_));refine oS (mB (fun b5=>?_));refine oS (mk (KL zr_33) (fun b6=>?_));refine KC (KB ?_);refine rD [5] ?_;refine aD 0 rfl (dL rfl (hv:=by exact KD u163 rfl sz_163)) ?_;refine KAR ?_;refine Kp 4 rfl (.inl zr_33) (Nb rfl) rfl rfl rfl ?_;refine LAnyP.step 1 rfl rfl rfl (Nb rfl) (by kernel_rfl) rfl (Kg (first:=[]) rfl en_80 rfl (fun w hw=>KAU 1 dc w)) ?_
  rintro _ _ ⟨rfl,rfl⟩
  refine LAnyP.step 2 rfl rfl rfl (Nb rfl) (by kernel_rfl) rfl (Kg (first:=[]) rfl en_80 rfl (fun w hw=>KAU 1 dc w)) ?_
  rintro _ _ ⟨rfl,rfl⟩
  refine LAnyP.step 3 rfl rfl rfl (Nb rfl) (by kernel_rfl) rfl (Kg (first:=[]) rfl en_133 rfl (fun w hw=>c_Mul m 1 1 bd hm0 hm w (mC hw) one_w9 one_w9)) ?_
  rintro _ _ ⟨rfl,rfl⟩
  refine pE (fun b7=>?_);refine Kw ?_;refine aL 5 rfl (sA rfl rfl sz_33 mO (hl:=mL) (h:=?_));refine aE ?_;refine KB (KB ?_)
  have hbl:blen E≤576:=blen_w9e hE
  refine KA ?_;refine oD dNa ?_;refine oS (cF rfl en_81 rfl (fun w hw=>c_nat_Bits E hE w) ?_);refine oP (KF (v:=.int .i64 ((blen E:Int)-1)) rfl rfl (br_subI om om)) ?_;refine oA (KC (LCode.block ?_));refine Ke (α:=Nat) (fun x=>x≤blen E) (fun x=>⟨[(3,.pointer (some ⟨b3,0,none⟩)),(4,.pointer (some ⟨b4,0,none⟩)),(5,.pointer (some ⟨b5,0,none⟩)),(6,.pointer (some ⟨b6,0,none⟩)),(7,.pointer (some ⟨b7,0,none⟩)),(8,.int .i64 ((x:Int)-1))],[.blk b7 ⟨true,natL (A^(E/2^x)%m),33,(0,0)⟩,.blk b6 ⟨true,vec .u64 9 (fun _=>0),33,(0,0)⟩,.blk b5 ⟨true,natL E,33,(0,0)⟩,.blk b4 ⟨true,natL A,33,(0,0)⟩,.blk b3 ⟨true,[.pointer (some ⟨bd,0,none⟩)],163,(0,0)⟩,.blk bd ⟨false,dvL m,269,(0,0)⟩]⟩) (fun x=>x) (blen E) (Nat.le_refl _) (KAC (Sub.cells (b:=b7) (cs':=natL (A^(E/2^(blen E))%m)) (by repeat (first|exact Sh _|apply St_)) (by rw [Nat.div_eq_of_lt (lt_blen E),Nat.pow_zero,Nat.mul_one])) (Ka ⟨rfl,rfl,rfl,rfl,rfl,rfl,trivial⟩ mS)) ?_
  intro x hx
  refine KB (KB ?_)
  rcases Nat.eq_zero_or_pos x with h0|h0
  ·
   refine KA (oM ?_);refine oP (KF (v:=.bool false) rfl rfl (by subst h0; rfl)) ?_;refine KC ?_
   subst h0
   refine KH rfl ?_;refine Kc (KB (KA ?_));refine oD dNa ?_;refine LOps.step rfl (sA rfl rfl sz_33 mO (hl:=mL) (h:=?_));refine KC (KM ?_);refine ⟨[_],.cons ⟨_,_,_,rfl,mM,by exact KD u33 rfl sz_33⟩ .nil,fun a w' hr=>⟨?_,hr.fr.below⟩⟩
   rw [Nat.pow_zero,Nat.div_one]
   rfl
  refine KA (oM ?_);refine oP (KF (v:=.bool true) rfl rfl (by simp [Kt]; omega)) ?_;refine KC ?_
  obtain ⟨y,rfl⟩:∃ y,x = y+1:=⟨x-1,by omega⟩
  refine KT rfl ?_;refine KN (KB (LCode.block (KB (KA ?_))));refine oD (dL rfl (hv:=by exact KD u163 rfl sz_163)) ?_;refine oD dNa ?_;refine oD dNa ?_;refine oS (cF rfl en_133 rfl (fun w hw=>c_Mul m _ _ bd hm0 hm w (mC hw) (mod_w9 hm0 hm) (mod_w9 hm0 hm)) ?_);refine LOps.step rfl (sA rfl rfl sz_33 mO (hl:=mL) (h:=?_));refine KC (KB (KA ?_));refine oD dNa ?_;refine oP (Ki (v:=.int .i64 ((y:Nat):Int)) (by show some _ = some _; congr 2; omega)) ?_;refine oS (cF rfl en_57 rfl (fun w hw=>c_nat_Bit E y hE om w) ?_);refine oP (KF rfl rfl (Kz (b:=1))) ?_;refine KC ?_
  first|refine KR rfl (fun h27=>?_) (fun h27=>?_)|refine KS rfl (fun h27=>?_) (fun h27=>?_)
  ·
   have h27:E/2^y%2 = 1:=h27
   refine KA ?_;refine oD (dL rfl (hv:=by exact KD u163 rfl sz_163)) ?_;refine oD dNa ?_;refine oD dNa ?_;refine oS (cF rfl en_133 rfl (fun w hw=>c_Mul m _ _ bd hm0 hm w (mC hw) (mod_w9 hm0 hm) hA) ?_);refine LOps.step rfl (sA rfl rfl sz_33 mO (hl:=mL) (h:=?_));refine KC (KA ?_);refine oP (Ki (v:=.int .i64 ((y:Nat):Int)) (by show some _ = some _; congr 2; omega)) ?_;refine oP (KF rfl rfl rfl) ?_;refine oA (KC ?_)
   have hpb:=pow_bit A E y m
   rw [if_pos h27] at hpb
   refine ⟨y,by omega,by omega,KAC (Sub.cells (b:=b7) (cs':=natL (A^(E/2^y)%m)) (by repeat (first|exact Sh _|apply St_)) (by rw [hpb])) (Ka ⟨rfl,rfl,rfl,rfl,rfl,congrArg (fun i:Int=>some (Value.int .i64 i)) (wrap_i64 om om),trivial⟩ mS)⟩
  have h27:¬ E/2^y%2 = 1:=h27
  refine KN (KA ?_);refine oP (Ki (v:=.int .i64 ((y:Nat):Int)) (by show some _ = some _; congr 2; omega)) ?_;refine oP (KF rfl rfl rfl) ?_;refine oA (KC ?_)
  have hpb:=pow_bit A E y m
  rw [if_neg h27] at hpb
  refine ⟨y,by omega,by omega,KAC (Sub.cells (b:=b7) (cs':=natL (A^(E/2^y)%m)) (by repeat (first|exact Sh _|apply St_)) (by rw [hpb])) (Ka ⟨rfl,rfl,rfl,rfl,rfl,congrArg (fun i:Int=>some (Value.int .i64 i)) (wrap_i64 om om),trivial⟩ mS)⟩
end Go.Proofs.YtnpeokiboiclfaaGreat
set_option linter.unusedVariables false
namespace Go.Proofs.YtnpeokiboiclfaaGreat
open Go Go.RowKit
namespace D
theorem limb_zero (i:Nat):limb 0 i = 0:=by simp [limb]
theorem nw_ne {A:Nat} (h:nw A≠0):2^(32*(nw A-1))≤A:=by
  have hA:A≠0:=fun e=>h (by rw [e]; rfl)
  have h1:=blen_pos hA
  have h2:=blen_ne hA
  exact Nat.le_trans (Nat.pow_le_pow_right (by decide) (by unfold nw; omega)) h1
theorem bits_words {A:Nat} (h:nw A≠0):32*(nw A-1)+blen (limb A (nw A-1)) = blen A:=by
  have h1:=nw_ne h
  rw [limb_top (A:=A) (n:=nw A-1) (by rw [show nw A-1+1 = nw A by omega]; exact lt_nw A)]
  have:=blen_shr h1
  omega
theorem nw_mono {A B:Nat} (h:A≤B):nw A≤nw B:=nw_le (Nat.lt_of_le_of_lt h (lt_nw B))
theorem carry_borrow {A B:Nat} (h:B≤A) (i:Nat):carry B (A-B) i = borrow A B i:=by
  have hp:=pow64_pos i
  have h0:(B%2^(32*i)+(A-B)%2^(32*i))%2^(32*i) = A%2^(32*i):=by rw [← Nat.add_mod]; congr 1; omega
  unfold carry borrow
  have h1:=Nat.mod_lt B hp
  have h2:=Nat.mod_lt (A-B) hp
  generalize B%2^(32*i) = b at *
  generalize (A-B)%2^(32*i) = d at *
  generalize A%2^(32*i) = a at *
  generalize 2^(32*i) = M at *
  by_cases hc:b+d<M
  · rw [Nat.mod_eq_of_lt hc] at h0
    rw [Nat.div_eq_of_lt hc,if_neg (by omega)]
  · have e:b+d = (b+d-M)+M:=by omega
    rw [e,Nat.add_mod_right,Nat.mod_eq_of_lt (by omega)] at h0
    rw [e,Nat.add_div_right _ hp,Nat.div_eq_of_lt (by omega),if_pos (by omega)]
theorem sub_limb {A B:Nat} (h:B≤A) (i:Nat):(limb A i+4294967296-limb B i-borrow A B i)%4294967296 = limb (A-B) i∧1-(limb A i+4294967296-limb B i-borrow A B i)/4294967296 = borrow A B (i+1):=by
  have h1:=add_limb B (A-B) i
  rw [carry_borrow h,carry_borrow h,show B+(A-B) = A by omega] at h1
  have h2:=limb_lt A i
  have h3:=limb_lt B i
  have h4:=limb_lt (A-B) i
  have h5:=borrow_le A B i
  have h6:=borrow_le A B (i+1)
  omega
theorem ext {n A B:Nat} (hA:A<2^(32*n)) (hB:B<2^(32*n)) (h:∀ i,i<n→limb A i = limb B i):A = B:=by
  have key:∀ k,k≤n→A/2^(32*(n-k)) = B/2^(32*(n-k)):=by
    intro k
    induction k with
    | zero=>intro _; rw [Nat.sub_zero,Nat.div_eq_of_lt hA,Nat.div_eq_of_lt hB]
    | succ k ih =>
      intro hk
      refine (div_eq_iff_limb A B (n-(k+1))).2 ⟨?_,h _ (by omega)⟩
      rw [show n-(k+1)+1 = n-k by omega]
      exact ih (by omega)
  have:=key n (Nat.le_refl _)
  simpa using this
theorem byte_of (A i:Nat):limb A (i/4)/2^(8*(i%4))%256 = A/256^i%256:=by
  have h1:A/256^i = A/2^(32*(i/4))/2^(8*(i%4)):=by
    rw [pow256,Nat.div_div_eq_div_mul,← Nat.pow_add]; congr 2; omega
  rw [h1]
  unfold limb
  generalize A/2^(32*(i/4)) = q
  have hr:i%4<4:=Nat.mod_lt _ (by decide)
  generalize i%4 = r at *
  have:∀ r,r<4→q%4294967296/2^(8*r)%256 = q/2^(8*r)%256:=by
    intro r hr
    have hc:r = 0∨r = 1∨r = 2∨r = 3:=by omega
    rcases hc with h|h|h|h <;> subst h <;> simp only [Nat.reduceMul,Nat.reducePow] <;> omega
  exact this r hr
end D
theorem limb_piece64 {V y s i k w : Nat} (hs : s * w = 64) (hk : k < w) (hi : V < 2 ^ (s * (w * i + k))) (hy : y < 2 ^ s) : (limb V i ||| y * 2 ^ (s * k) % 18446744073709551616) < 18446744073709551616 ∧
    ∀ j,limb (y*2^(s*(w*i+k))+V) j = if j = i then (limb V i ||| y*2^(s*k)%18446744073709551616) else limb V j:=by
  have h1:2^(s*(w*i+k)) = 2^(s*k)*2^(64*i):=by
    rw [← Nat.pow_add,Nat.mul_add,← Nat.mul_assoc,hs]; congr 1; omega
  have hl:limb V i<2^(s*k):=by
    have:V/2^(64*i)<2^(s*k):=by
      rw [Nat.div_lt_iff_lt_mul (pow64_pos _),← h1]; exact hi
    exact Nat.lt_of_le_of_lt (Nat.mod_le _ _) this
  have hle:s*k+s≤64:=by
    have:s*(k+1)≤s*w:=Nat.mul_le_mul_left _ hk
    rw [Nat.mul_succ] at this
    omega
  have hlt:y*2^(s*k)+2^(s*k)≤18446744073709551616:=by
    have h2:(y+1)*2^(s*k)≤2^s*2^(s*k):=Nat.mul_le_mul_right _ hy
    have h3:2^s*2^(s*k)≤2^64:=by rw [← Nat.pow_add]; exact Nat.pow_le_pow_right (by decide) (by omega)
    rw [Nat.add_mul] at h2
    have h4:(2:Nat)^64 = 18446744073709551616:=rfl
    omega
  have hpos:0<2^(s*k):=Nat.pow_pos (by decide)
  have ho:(limb V i ||| y*2^(s*k)%18446744073709551616) = limb V i+y*2^(s*k):=by
    rw [or_high hl (by omega),Nat.mod_eq_of_lt (by omega)]
  rw [ho]
  refine ⟨by omega,fun j=>?_⟩
  have:=limb_addl V (y*2^(s*k)) i j (by omega)
  rw [← this,h1,Nat.mul_assoc,Nat.add_comm]
end Go.Proofs.YtnpeokiboiclfaaGreat
set_option linter.unusedVariables false
set_option linter.unusedSimpArgs false
set_option maxRecDepth 20000
namespace Go.Proofs.YtnpeokiboiclfaaGreat
open Go Go.RowKit


theorem D.bit_of (A i:Nat):D.limb A (i/32)/2^(i%32)%2 = A/2^i%2:=by
  have h1:A/2^i = A/2^(32*(i/32))/2^(i%32):=by
    rw [Nat.div_div_eq_div_mul,← Nat.pow_add]; congr 2; omega
  rw [h1]
  unfold D.limb
  generalize A/2^(32*(i/32)) = q
  have hr:i%32<32:=Nat.mod_lt _ dc
  generalize i%32 = r at *
  have e:(4294967296:Nat) = 2^r*(2^(31-r)*2):=by
    rw [← Nat.pow_succ,← Nat.pow_add,show r+(31-r).succ = 32 by omega]
  rw [e,Nat.mod_mul_right_div_self,Nat.mod_mul_left_mod]

end Go.Proofs.YtnpeokiboiclfaaGreat
set_option linter.unusedVariables false
namespace Go.Proofs.YtnpeokiboiclfaaGreat.D
open Go Go.RowKit
theorem mod_nw (A:Nat):A%2^(32*nw A) = A:=Nat.mod_eq_of_lt (lt_nw A)
theorem mod_zero_word (A B:Nat):A%2^(32*0)*B = 0:=by rw [Nat.mul_zero,Nat.pow_zero,Nat.mod_one,Nat.zero_mul]
theorem row_end {X c A B i : Nat} (h : X + c * 2 ^ (32 * (i + nw B)) = A % 2 ^ (32 * i) * B + limb A i * (B % 2 ^ (32 * nw B)) * 2 ^ (32 * i)) (hX : X < 2 ^ (32 * (i + nw B))) :
    setl X (i+nw B) c = A%2^(32*(i+1))*B:=by
  have h0:=limb_high hX (Nat.le_refl _)
  have h1:=setl_eq X (i+nw B) c
  rw [h0,Nat.zero_mul,Nat.add_zero] at h1
  rw [h1,h,mod_nw,mod_succ_limb,Nat.add_mul]
  congr 1
  rw [Nat.mul_assoc,Nat.mul_comm,Nat.mul_assoc,Nat.mul_assoc,Nat.mul_comm B]
  exact Nat.mul_assoc _ _ _
theorem row_zero (A B i:Nat):A%2^(32*i)*B+0*2^(32*(i+0)) = A%2^(32*i)*B+limb A i*(B%2^(32*0))*2^(32*i):=by
  rw [Nat.mul_zero,Nat.pow_zero,Nat.mod_one,Nat.mul_zero,Nat.zero_mul,Nat.zero_mul]
theorem row_lt (A B i:Nat):A%2^(32*i)*B<2^(32*(i+nw B)):=by
  rw [pow64_add]
  exact Nat.mul_lt_mul_of_lt_of_le (Nat.mod_lt _ (pow64_pos i)) (Nat.le_of_lt (lt_nw B)) (pow64_pos _)
theorem guess_facts {U m a : Nat} (hm : m ≠ 0) (hU : U < dnm m * 2 ^ (32 * (a + 1))) :
    limb U (a+nw m)*4294967296+limb U (a+nw m-1) = U/2^(32*a)/2^(32*(nw m-1))∧limb (dnm m) (nw m-1) = dnm m/2^(32*(nw m-1))∧2147483648≤limb (dnm m) (nw m-1) ∧
    U/2^(32*a)/dnm m≤U/2^(32*a)/2^(32*(nw m-1))/limb (dnm m) (nw m-1):=by
  have hn:=nw_pos hm
  have h1:=win_lt (dnm_lt m) hU
  rw [Nat.add_assoc] at h1
  have h2:=win_div h1
  obtain ⟨h3,h4⟩:=dnm_top hm
  refine ⟨?_,h3,h4,?_⟩
  · rw [show a+nw m-1 = a+(nw m-1) by omega,← limb_div,← limb_div]
    have:=two_words (R:=U/2^(32*a)) (j:=nw m-1) (by rw [show nw m-1+2 = nw m+1 by omega]; exact h2)
    rw [this,show nw m-1+1 = nw m by omega]
  · rw [h3]
    apply div_cut (pow64_pos _)
    rw [← h3]; omega
theorem guess_step {U m a q r : Nat} (hm : m ≠ 0) (hn : 2 ≤ nw m) (h1 : q * limb (dnm m) (nw m - 1) + r = U / 2 ^ (32 * a) / 2 ^ (32 * (nw m - 1)))
    (h2:r*4294967296+limb U (a+nw m-2)<q*limb (dnm m) (nw m-2)):U/2^(32*a)/dnm m<q:=by
  refine guess_more (k:=2^(32*(nw m-2))) (M:=4294967296) (pow64_pos _) (dnm_pos hm) (top:=limb (dnm m) (nw m-1)) (d2:=limb (dnm m) (nw m-2)) ?_ (R2:=U/2^(32*a)/2^(32*(nw m-1))) (u2:=limb U (a+nw m-2)) ?_ h1 h2
  · have:=two_words (R:=dnm m) (j:=nw m-2) (by rw [show nw m-2+2 = nw m by omega]; exact dnm_lt m)
    rw [this,show nw m-2+1 = nw m-1 by omega]
  · have:=next_word (U/2^(32*a)) (nw m-2)
    rw [this,limb_div,show nw m-2+1 = nw m-1 by omega,show a+(nw m-2) = a+nw m-2 by omega]
theorem two_le {a b r u:Nat} (hb:b<4294967296) (hu:u<4294967296) (h:r<a∨(a = r∧u<b)):r*4294967296+u<a*4294967296+b:=by omega
theorem guess_next {top r q d2 u R2:Nat} (h1:q*top+r = R2) (h0:0<q):(q-1)*top+(r+top) = R2:=by
  obtain ⟨p,rfl⟩:∃ p,q = p+1:=⟨q-1,by omega⟩
  rw [Nat.add_mul] at h1
  rw [Nat.add_sub_cancel]; omega
theorem take_pre {U q D a:Nat}:U+q*(D%2^(32*0))*2^(32*a) = U+(0+0)*2^(32*(a+0)):=by
  rw [Nat.mul_zero,Nat.pow_zero,Nat.mod_one,Nat.mul_zero,Nat.zero_mul,Nat.zero_mul]
theorem back_pre {U D a:Nat}:U+0*2^(32*(a+0)) = U+(D%2^(32*0))*2^(32*a):=by
  rw [Nat.mul_zero,Nat.pow_zero,Nat.mod_one,Nat.zero_mul,Nat.zero_mul]
theorem fill_zero (W s:Nat):W%2^(32*0)*2^s = 0:=by rw [Nat.mul_zero,Nat.pow_zero,Nat.mod_one,Nat.zero_mul]
theorem quo_store {K x y:Nat} (hx:x<4294967296) (j:Nat):(if j = y then x else limb (K*2^(32*(y+1))) j) = limb ((K*4294967296+x)*2^(32*y)) j:=by
  have h0:limb (K*2^(32*(y+1))) y = 0:=by
    unfold limb
    rw [pow64_succ,← Nat.mul_assoc,Nat.mul_div_cancel _ (pow64_pos y),Nat.mul_mod_left]
  have:=limb_addl (K*2^(32*(y+1))) x y j (by rw [h0]; omega)
  rw [h0,Nat.zero_add] at this
  rw [← this,Nat.add_mul,pow64_succ,Nat.mul_assoc]
theorem quo_sum {U U0 K x y D V:Nat} (h1:U+x*D*2^(32*y) = U0) (h2:U0+K*2^(32*(y+1))*D = V):U+(K*4294967296+x)*2^(32*y)*D = V:=by
  rw [← h2,← h1,pow64_succ]
  generalize 2^(32*y) = A
  grind
end Go.Proofs.YtnpeokiboiclfaaGreat.D
set_option linter.unusedVariables false
set_option linter.unusedSimpArgs false
namespace Go.Proofs.YtnpeokiboiclfaaGreat
open Go Go.RowKit
theorem cellOf {w:World} {b:Nat} {cs:List Value} {e:TypeId} {fz:Nat×Nat} (h:w.heap[b]? = some (.cells cs.toArray e fz)) (o:Nat):w.cell? ⟨b,o,none⟩ = cs[o]?:=cell_of (B:=⟨true,cs,e,fz⟩) h o
theorem exec_append {P : Program} {a : Act} {w w' : World} {x y : Operand} {v u r : Value} {t : TypeId} {d : Nat} {ty : TypeId} {pos : String} {aft : Array Edge} {g : Option (Nat × Bool)} (hx : a.eval x = v) (hy : a.eval y = u)
    (h:(Builtin.append_ #[t,t] ty #[v,u]).run P w = .ok r w'):(execOp a.eval ⟨some d,.call { callee:=.builtin .append,args:=#[x,y],argTypes:=#[t,t] },ty,pos,aft,g⟩).run P w = .ok (.value r) w':=by
  simp only [execOp,resolve,invoke,builtin,Sem.run_bind,Sem.run_pure,Result.andThen_ok,List.map_toArray,List.map_cons,List.map_nil,hx,hy,h]
section
variable {P:Program} {C:Ctx} {ty:TypeId} {pos:String} {aft:Array Edge} {d:Nat} {x y z:Operand} {v u:Value} {t s e:TypeId} {K:St→Prop}
theorem LStepW.append {T : List (Nat × Value)} {H H0 : List Item} {b a0 c0 n cap m bytes : Nat} {zv : Value} {xs rest news : List Value} {wr : Bool} {ea : TypeId} {fz : Nat × Nat} {g : Option (Nat × Bool)} (hx : evT T x = some (.slice (some ⟨b, 0, none⟩) n cap)) (hy : evT T y = some (.slice (some ⟨a0, 0, none⟩) m c0))
    (ht:P.underlying t = some (.slice e)) (hi:infOf P e = some (zv,1,bytes)) (h1:one zv = true) (hp:Pick (.blk b ⟨true,xs++rest,e,(0,0)⟩) H H0) (hm:Item.blk a0 ⟨wr,news,ea,fz⟩∈H0) (hxl:xs.length = n) (hcl:xs.length+rest.length = cap) (hml:news.length = m) (ho:AllOne news)
    (hn:(n+m)*bytes≤140737488355328) (hn2:n+m≤1000000000) (hd:d<C.N)
    (h:∀ b' cap' rest',xs.length+news.length+rest'.length = cap'→K ⟨(d,.slice (some ⟨b',0,none⟩) (n+m) cap') :: T,.blk b' ⟨true,(xs++news)++rest',e,(0,0)⟩ :: H0⟩):LStepW P C ⟨some d,.call { callee:=.builtin .append,args:=#[x,y],argTypes:=#[t,t] },ty,pos,aft,g⟩ ⟨T,H⟩ K:=by
  unfold LStepW
  intro a w hr Qr
  obtain ⟨i,hi1,hi3,hi2,hi4⟩:=inf_spec hi
  have hpm:=hp.perm
  have hin:Item.blk b ⟨true,xs++rest,e,(0,0)⟩∈H:=hpm.mem_iff.2 (.head _)
  have hb:w.heap[b]? = some (.cells (xs++rest).toArray e (0,0)):=hr.hp _ hin
  have ha:w.heap[a0]? = some (.cells news.toArray ea fz):=hr.hp _ (hpm.mem_iff.2 (.tail _ hm))
  have hpos:=hr.own _ hin rfl b (by simp [Item.fp])
  have hdd:(Item.blk b ⟨true,xs++rest,e,(0,0)⟩ :: H0).Pairwise Apart:=(List.Perm.pairwise_iff (fun h=>Apart.symm h) hpm).1 hr.dist
  obtain ⟨hd1,hd2⟩:=List.pairwise_cons.1 hdd
  have hmm:∀ x,x∈H0→x∈H:=fun x hx=>hpm.mem_iff.2 (.tail _ hx)
  have hnews:∀ j u,news[j]? = some u→w.cell? ((⟨a0,0,none⟩:Addr).add j) = some u:=fun j u hj=>by
    have hadd:(⟨a0,0,none⟩:Addr).add j = ⟨a0,0+j,none⟩:=by unfold Addr.add; split <;> simp_all
    rw [hadd,cellOf ha,Nat.zero_add]; exact hj
  have hsel:Rel C ⟨T,H0⟩ a w:=⟨hr.size,hr.defers,hr.tm,fun x hx=>hr.hp x (hmm x hx),fun x hx=>hr.own x (hmm x hx),hd2,hr.fr⟩
  unfold Oper.wp
  by_cases hroom:n+m≤cap
  · have hrr:=run_append_room (P:=P) w t ty e i ht hi1 b n cap (xs++rest).toArray hb ⟨a0,0,none⟩ m c0 news (by rw [hi2,Nat.mul_one]; exact hml) hnews (fun u hu=>by have:=ho u hu; cases u <;> simp_all [one,Value.oneCell']) hroom (by simp [hi2]; omega)
    rw [exec_append (hr.ev hx) (hr.ev hy) hrr]
    have e1:((xs++rest).toArray.toList.take (n*i.size)++news++(xs++rest).toArray.toList.drop (n*i.size+news.length)) = (xs++news)++rest.drop m:=by
      rw [hi2,Nat.mul_one,hml,← hxl]
      simp
    rw [e1]
    have hK:=h b cap (rest.drop m) (by simp; omega)
    refine ⟨_,hK,?_⟩
    have hnew:(w.setRow b ((xs++news)++rest.drop m).toArray).heap[b]? = some (.cells ((xs++news)++rest.drop m).toArray e (0,0)):=setRow_heap w b _ _ e _ hb
    have hoth:∀ k,k≠b→(w.setRow b ((xs++news)++rest.drop m).toArray).heap[k]? = w.heap[k]?:=fun k hk=>setRow_other w b k _ hk
    have hr2:Rel C ⟨T,.blk b ⟨true,xs++rest,e,(0,0)⟩ :: H0⟩ a w:=⟨hr.size,hr.defers,hr.tm,fun x hx=>hr.hp x (hpm.mem_iff.2 hx),fun x hx=>hr.own x (hpm.mem_iff.2 hx),hdd,hr.fr⟩
    exact (hr2.setBlk (B':=⟨true,(xs++news)++rest.drop m,e,(0,0)⟩) (SetAt.head _) rfl hnew hoth (by simp [World.setRow]) rfl rfl rfl).put hd _
  · have hrr := run_append_grow (P := P) w t ty e i zv ht hi1 hi3 ⟨b, 0, none⟩ n cap xs (by rw [hi2, Nat.mul_one]; exact hxl) (fun j u hj => by
      have hadd:(⟨b,0,none⟩:Addr).add j = ⟨b,0+j,none⟩:=by unfold Addr.add; split <;> simp_all
      rw [hadd,cellOf hb,Nat.zero_add]
      rcases Nat.lt_or_ge j xs.length with h'|h'
      · rw [List.getElem?_append_left h']; exact hj
      · rw [List.getElem?_eq_none h'] at hj; cases hj) ⟨a0,0,none⟩ m c0 news (by rw [hi2,Nat.mul_one]; exact hml) hnews (by omega) (by omega) (growslice_fits (by omega) (by rw [hi4]; exact hn))
    rw [exec_append (hr.ev hx) (hr.ev hy) hrr]
    have hge:=grownCap_ge w (n+m) cap e
    have hz0:zv.cells.size = 1:=by rw [one_cells h1]; rfl
    have hK:=h w.heap.size (grownCap w (n+m) cap e) (Builtin.zeroCells zv.cells (grownCap w (n+m) cap e-(n+m))).toList (by
      have hzz:=size_zeroCells zv.cells (grownCap w (n+m) cap e-(n+m))
      rw [hz0] at hzz
      rw [← Array.length_toList] at hzz
      omega)
    refine ⟨_,hK,?_⟩
    have hal:=hsel.drew.alloc ((xs++news)++(Builtin.zeroCells zv.cells (grownCap w (n+m) cap e-(n+m))).toList) e
    have hcs:((xs++news)++(Builtin.zeroCells zv.cells (grownCap w (n+m) cap e-(n+m))).toList).toArray = xs.toArray++news.toArray++Builtin.zeroCells zv.cells (grownCap w (n+m) cap e-(n+m)):=by
      apply Array.ext'
      simp
    rw [hcs] at hal
    exact hal.put hd _
theorem LStepW.appendNil {T : List (Nat × Value)} {H : List Item} {a0 c0 m bytes : Nat} {zv : Value} {news : List Value} {wr : Bool} {ea : TypeId} {fz : Nat × Nat} {g : Option (Nat × Bool)} (hx : evT T x = some (.slice none 0 0)) (hy : evT T y = some (.slice (some ⟨a0, 0, none⟩) m c0))
    (ht:P.underlying t = some (.slice e)) (hi:infOf P e = some (zv,1,bytes)) (h1:one zv = true) (hm:Item.blk a0 ⟨wr,news,ea,fz⟩∈H) (hml:news.length = m) (h0:0<m)
    (hn:m*bytes≤140737488355328) (hn2:m≤1000000000) (hd:d<C.N)
    (h:∀ b' cap' rest',news.length+rest'.length = cap'→K ⟨(d,.slice (some ⟨b',0,none⟩) m cap') :: T,.blk b' ⟨true,news++rest',e,(0,0)⟩ :: H⟩):LStepW P C ⟨some d,.call { callee:=.builtin .append,args:=#[x,y],argTypes:=#[t,t] },ty,pos,aft,g⟩ ⟨T,H⟩ K:=by
  unfold LStepW
  intro a w hr Qr
  obtain ⟨i,hi1,hi3,hi2,hi4⟩:=inf_spec hi
  have ha:w.heap[a0]? = some (.cells news.toArray ea fz):=hr.hp _ hm
  have hnews:∀ j u,news[j]? = some u→w.cell? ((⟨a0,0,none⟩:Addr).add j) = some u:=fun j u hj=>by
    have hadd:(⟨a0,0,none⟩:Addr).add j = ⟨a0,0+j,none⟩:=by unfold Addr.add; split <;> simp_all
    rw [hadd,cellOf ha,Nat.zero_add]; exact hj
  unfold Oper.wp
  have hrr:=run_append_nil (P:=P) w t ty e i zv ht hi1 hi3 ⟨a0,0,none⟩ m c0 news (by rw [hi2,Nat.mul_one]; exact hml) hnews h0 (by omega) (by rw [hi4]; omega)
  rw [exec_append (hr.ev hx) (hr.ev hy) hrr]
  have hge:=grownCap_ge w m 0 e
  have hz0:zv.cells.size = 1:=by rw [one_cells h1]; rfl
  have hK:=h w.heap.size (grownCap w m 0 e) (Builtin.zeroCells zv.cells (grownCap w m 0 e-m)).toList (by
    have hzz:=size_zeroCells zv.cells (grownCap w m 0 e-m)
    rw [hz0] at hzz
    rw [← Array.length_toList] at hzz
    omega)
  refine ⟨_,hK,?_⟩
  have hal:=hr.drew.alloc (news++(Builtin.zeroCells zv.cells (grownCap w m 0 e-m)).toList) e
  have hcs:(news++(Builtin.zeroCells zv.cells (grownCap w m 0 e-m)).toList).toArray = news.toArray++Builtin.zeroCells zv.cells (grownCap w m 0 e-m):=by
    apply Array.ext'
    simp
  rw [hcs] at hal
  exact hal.put hd _
end
end Go.Proofs.YtnpeokiboiclfaaGreat
set_option linter.unusedVariables false
set_option linter.unusedSimpArgs false
set_option maxRecDepth 20000
namespace Go.Proofs.YtnpeokiboiclfaaGreat
open Go Go.RowKit


theorem cmp_geq {A B:Nat}:Kt .geq .i64 (cmpI A B) .i64 0 = some (.bool (decide (B≤A))):=by
  unfold cmpI
  by_cases h:A<B
  · rw [if_pos h,decide_eq_false (Nat.not_le_of_lt h)]; rfl
  · rw [if_neg h,decide_eq_true (Nat.le_of_not_lt h)]
    split <;> rfl

end Go.Proofs.YtnpeokiboiclfaaGreat
set_option linter.unusedVariables false
namespace Go.Proofs.YtnpeokiboiclfaaGreat.Grp
section
variable {p:Nat} [NeZero p]
abbrev F (p:Nat):=Fin p
theorem eq_of_sub {x y:Fin p} (h:x-y = 0):x = y:=by grind -lia
theorem sub_of_eq {x y:Fin p} (h:x = y):x-y = 0:=by grind -lia
theorem lin1 {x c1 e1:Fin p} (h:x = c1*e1) (h1:e1 = 0):x = 0:=by rw [h,h1]; grind -lia
theorem lin2 {x c1 e1 c2 e2:Fin p} (h:x = c1*e1+c2*e2) (h1:e1 = 0) (h2:e2 = 0):x = 0:=by rw [h,h1,h2]; grind -lia
theorem lin3 {x c1 e1 c2 e2 c3 e3:Fin p} (h:x = c1*e1+c2*e2+c3*e3) (h1:e1 = 0) (h2:e2 = 0) (h3:e3 = 0):x = 0:=by rw [h,h1,h2,h3]; grind -lia
theorem lin4 {x c1 e1 c2 e2 c3 e3 c4 e4:Fin p} (h:x = c1*e1+c2*e2+c3*e3+c4*e4) (h1:e1 = 0) (h2:e2 = 0) (h3:e3 = 0) (h4:e4 = 0):x = 0:=by rw [h,h1,h2,h3,h4]; grind -lia
def Dom (p:Nat) [NeZero p]:Prop:=∀ x y:Fin p,x*y = 0→x = 0∨y = 0
theorem Dom.cancel (hd:Dom p) {x y c:Fin p} (hc:c≠0) (h:(x-y)*c = 0):x = y:=by
  rcases hd _ _ h with h|h
  · exact eq_of_sub h
  · exact absurd h hc
structure Slope (a x1 y1 x2 y2 l:Fin p):Prop where
  chord:l*(x1-x2)-(y1-y2) = 0
  tang:l*(y1+y2)-(x1*x1+x1*x2+x2*x2+a) = 0
theorem Slope.symm {a x1 y1 x2 y2 l:Fin p} (h:Slope a x1 y1 x2 y2 l):Slope a x2 y2 x1 y1 l :=
  ⟨lin1 (c1:=-1) (by grind -lia) h.chord,lin1 (c1:=1) (by grind -lia) h.tang⟩
def Opp (x1 y1 x2 y2:Fin p):Prop:=x1-x2 = 0∧y1+y2 = 0
theorem Slope.unique (hd:Dom p) {a x1 y1 x2 y2 l m:Fin p} (hn:¬ Opp x1 y1 x2 y2) (hl:Slope a x1 y1 x2 y2 l) (hm:Slope a x1 y1 x2 y2 m):l = m:=by
  by_cases h:x1-x2 = 0
  · have h2:y1+y2≠0:=fun e=>hn ⟨h,e⟩
    exact hd.cancel h2 (lin2 (c1:=1) (c2:=-1) (by grind -lia) hl.tang hm.tang)
  · exact hd.cancel h (lin2 (c1:=1) (c2:=-1) (by grind -lia) hl.chord hm.chord)
theorem slope_next (hd : Dom p) {a x1 y1 x2 y2 x3 y3 l m s x4 y4 : Fin p} (hA : Slope a x1 y1 x2 y2 l) (hC : Slope a x3 y3 x2 y2 m) (h4 : x4 - (l * l - x1 - x2) = 0) (h5 : y4 - (l * (x1 - x4) - y1) = 0)
    (hs:Slope a x3 y3 x4 y4 s) (hlm:l-m≠0) (hn:¬ Opp x3 y3 x4 y4):(s+l)*(l-m) = x1-x3:=by
  obtain ⟨hA1,hA2⟩:=hA
  obtain ⟨hC1,hC2⟩:=hC
  obtain ⟨hs1,hs2⟩:=hs
  obtain rfl:y1 = y2+l*(x1-x2):=eq_of_sub (lin1 (c1:=-1) (by grind -lia) hA1)
  obtain rfl:y3 = y2+m*(x3-x2):=eq_of_sub (lin1 (c1:=-1) (by grind -lia) hC1)
  obtain rfl:x4 = l*l-x1-x2:=eq_of_sub h4
  obtain rfl:y4 = _:=eq_of_sub h5
  have hK1:(s*(l-m)-(l*m-l*l+x1-x3))*(x3-(l*l-x1-x2)) = 0 :=
    lin3 (c1:=l-m) (c2:=1) (c3:=-1) (by clear hA1 hA2 hC1 hC2 hs1 hs2 h4 h5 hlm hn; grind -lia) hs1 hA2 hC2
  have hK2:(s*(l-m)-(l*m-l*l+x1-x3))*(y2+m*(x3-x2)+(l*(x1-(l*l-x1-x2))-(y2+l*(x1-x2)))) = 0 :=
    lin3 (c1:=l-m) (c2:=m) (c3:=-l) (by clear hA1 hA2 hC1 hC2 hs1 hs2 h4 h5 hlm hn hK1; grind -lia) hs2 hA2 hC2
  have hK:s*(l-m) = l*m-l*l+x1-x3:=by
    by_cases h:x3-(l*l-x1-x2) = 0
    · exact hd.cancel (fun e=>hn ⟨h,e⟩) hK2
    · exact hd.cancel h hK1
  clear hA1 hA2 hC1 hC2 hs1 hs2 h4 h5 hlm hn hK1 hK2
  have:(s+l)*(l-m) = s*(l-m)+l*(l-m):=by clear hK; grind -lia
  rw [this,hK]; clear hK this; grind -lia
inductive Pt (p:Nat) where
  | inf
  | aff (x y:Fin p)
def Pt.neg:Pt p→Pt p
  | .inf=>.inf
  | .aff x y=>.aff x (-y)
inductive Add (a:Fin p):Pt p→Pt p→Pt p→Prop where
  | left (q:Pt p):Add a .inf q q
  | right (q:Pt p):Add a q .inf q
  | opp {x1 y1 x2 y2:Fin p}:Opp x1 y1 x2 y2→Add a (.aff x1 y1) (.aff x2 y2) .inf
  | line {x1 y1 x2 y2:Fin p} (l x y:Fin p):¬ Opp x1 y1 x2 y2→Slope a x1 y1 x2 y2 l→x-(l*l-x1-x2) = 0→y-(l*(x1-x)-y1) = 0→Add a (.aff x1 y1) (.aff x2 y2) (.aff x y)
theorem Opp.symm {x1 y1 x2 y2:Fin p} (h:Opp x1 y1 x2 y2):Opp x2 y2 x1 y1:=⟨lin1 (c1:=-1) (by grind -lia) h.1,lin1 (c1:=1) (by grind -lia) h.2⟩
theorem Add.symm {a:Fin p} {A B R:Pt p} (h:Add a A B R):Add a B A R:=by
  cases h with
  | left q=>exact .right _
  | right q=>exact .left _
  | opp h=>exact .opp h.symm
  | line l x y hn hs hx hy =>
    refine .line l x y (fun h=>hn h.symm) hs.symm ?_ ?_
    · exact lin1 (c1:=1) (by clear hs hx hy hn; grind -lia) hx
    · exact lin2 (c1:=1) (c2:=1) (by clear hs hx hy hn; grind -lia) hy hs.chord
theorem Add.unique (hd:Dom p) {a:Fin p} {A B R S:Pt p} (h:Add a A B R) (k:Add a A B S):R = S:=by
  cases h with
  | left q=>cases k <;> rfl
  | right q=>cases k <;> rfl
  | opp h=>cases k with
    | opp _=>rfl
    | line _ _ _ hn _ _ _=>exact absurd h hn
  | line l x y hn hs hx hy=>cases k with
    | opp h=>exact absurd h hn
    | line m x' y' hn' hs' hx' hy' =>
      obtain rfl:=hs.unique hd hn hs'
      obtain rfl:=eq_of_sub hx
      obtain rfl:=eq_of_sub hy
      obtain rfl:=eq_of_sub hx'
      obtain rfl:=eq_of_sub hy'
      rfl
def On (a b:Fin p):Pt p→Prop
  | .inf=>True
  | .aff x y=>y*y-(x*x*x+a*x+b) = 0
theorem Add.on {a b:Fin p} {A B R:Pt p} (h:Add a A B R) (hA:On a b A) (hB:On a b B):On a b R:=by
  cases h with
  | left q=>exact hB
  | right q=>exact hA
  | opp h=>trivial
  | @line x1 y1 x2 y2 l x y hn hs hx hy =>
    obtain ⟨h1,h2⟩:=hs
    simp only [On] at hA hB ⊢
    obtain rfl:=eq_of_sub hy
    have hx':l*l-x1-x2-x = 0:=lin1 (c1:=-1) (by clear h1 h2 hA hB hn hx; grind -lia) hx
    exact lin4 (c1:=1) (c2:=x-x1) (c3:=-((x-x1)*l)) (c4:=(x-x1)*(x-x2)) (by clear h1 h2 hA hB hn hx hx'; grind -lia) hA h2 h1 hx'
structure Fine (a b:Fin p):Prop where
  dom:Dom p
  two:∀ y:Fin p,y+y = 0→y = 0
  sing:∀ x:Fin p,On a b (.aff x 0)→x*x+x*x+x*x+a = 0→False
theorem Opp.eq {x1 y1 x2 y2:Fin p} (h:Opp x1 y1 x2 y2):(.aff x2 y2:Pt p) = .aff x1 (-y1):=by
  have e1:x2 = x1:=eq_of_sub (lin1 (c1:=-1) (by grind -lia) h.1)
  have e2:y2 = -y1:=eq_of_sub (lin1 (c1:=1) (by grind -lia) h.2)
  rw [e1,e2]
theorem opp_neg (x y:Fin p):Opp x (-y) x y:=⟨by grind -lia,by grind -lia⟩
theorem opp_neg' (x y:Fin p):Opp x y x (-y):=⟨by grind -lia,by grind -lia⟩
theorem Pt.neg_neg (A:Pt p):A.neg.neg = A:=by
  cases A with
  | inf=>rfl
  | aff x y=>simp only [Pt.neg]; congr 1; grind -lia
theorem Add.cancel {a b:Fin p} (hf:Fine a b) {B C E:Pt p} (hB:On a b B) (h:Add a B C E):Add a B.neg E C:=by
  cases h with
  | left q=>exact .left _
  | right q =>
    cases B with
    | inf=>exact .right _
    | aff x y=>exact .opp (opp_neg x y)
  | opp h=>rw [h.eq]; exact .right _
  | @line x2 y2 x3 y3 m x y hn hs hx hy =>
    obtain ⟨h1,h2⟩:=hs
    have ht:-m*(-y2+y)-(x2*x2+x2*x+x*x+a) = 0:=by
      clear hB hn
      obtain rfl:y3 = y2-m*(x2-x3):=eq_of_sub (lin1 (c1:=1) (by clear h1 h2 hx hy; grind -lia) h1)
      obtain rfl:=eq_of_sub hx
      obtain rfl:=eq_of_sub hy
      exact lin1 (c1:=1) (by clear h1 h2 hx hy; grind -lia) h2
    refine .line (-m) x3 y3 ?_ ⟨?_,ht⟩ ?_ ?_
    · rintro ⟨o1,o2⟩
      obtain rfl:=eq_of_sub o1
      have e1:y2+y2 = 0:=lin2 (c1:=-1) (c2:=1) (by clear h1 h2 hx hy hB hn ht o1 o2; grind -lia) o2 hy
      have e2:=hf.two _ e1
      subst e2
      have e3:y = 0:=by
        have:y-0 = 0:=lin1 (c1:=1) (by clear h1 h2 hx hy hB hn ht o1 o2 e1; grind -lia) o2
        exact eq_of_sub this
      subst e3
      exact hf.sing _ hB (lin1 (c1:=-1) (by clear h1 h2 hx hy hB hn ht o1 o2 e1; grind -lia) ht)
    · exact lin1 (c1:=1) (by clear h1 h2 hx hB hn ht hy; grind -lia) hy
    · exact lin1 (c1:=1) (by clear h1 h2 hx hB hn ht hy; grind -lia) hx
    · exact lin1 (c1:=1) (by clear h1 h2 hx hB hn ht hy; grind -lia) h1
theorem Add.neg {a:Fin p} {A B R:Pt p} (h:Add a A B R):Add a A.neg B.neg R.neg:=by
  cases h with
  | left q=>exact .left _
  | right q=>exact .right _
  | opp h=>exact .opp ⟨h.1,lin1 (c1:=-1) (by grind -lia) h.2⟩
  | @line x1 y1 x2 y2 l x y hn hs hx hy =>
    refine .line (-l) x (-y) (fun h=>hn ⟨h.1,lin1 (c1:=-1) (by grind -lia) h.2⟩) ⟨lin1 (c1:=-1) (by clear hn hx hy; grind -lia) hs.1,lin1 (c1:=1) (by clear hn hx hy; grind -lia) hs.2⟩ ?_ ?_
    · exact lin1 (c1:=1) (by clear hn hx hy hs; grind -lia) hx
    · exact lin1 (c1:=-1) (by clear hn hx hy hs; grind -lia) hy
theorem neg_on {a b:Fin p} {A:Pt p} (h:On a b A):On a b A.neg:=by
  cases A with
  | inf=>trivial
  | aff x y =>
    simp only [On,Pt.neg] at h ⊢
    exact lin1 (c1:=1) (by clear h; grind -lia) h
theorem add_neg (a:Fin p) (A:Pt p):Add a A A.neg .inf:=by
  cases A with
  | inf=>exact .left _
  | aff x y=>exact .opp (opp_neg' x y)
theorem Add.assoc {a b:Fin p} (hf:Fine a b) {A B C D E R S:Pt p} (hA:On a b A) (hB:On a b B) (hC:On a b C) (h1:Add a A B D) (h2:Add a D C R) (h3:Add a B C E) (h4:Add a A E S):R = S:=by
  have hd:=hf.dom
  have hnA:∀ {A' B' D':Pt p},Add a A' B' D'→On a b A'→On a b B'→Add a B' D'.neg A'.neg:=by
    intro A' B' D' h hA hB
    have:=(Add.cancel hf hB h.symm).neg
    rwa [Pt.neg_neg] at this
  cases h1 with
  | left q =>
    have:=h2.unique hd h3
    subst this
    cases h4 <;> rfl
  | right q =>
    cases h3 <;> exact h2.unique hd h4
  | @opp x1 y1 x2 y2 h =>
    have e:R = C:=by cases h2 <;> rfl
    subst e
    have e2:=Add.cancel hf hB h3
    have e3:(Pt.aff x2 y2).neg = .aff x1 y1:=by
      have:=h.symm.eq
      simp only [Pt.neg]; exact this.symm
    rw [e3] at e2
    exact e2.unique hd h4
  | @line x1 y1 x2 y2 l x4 y4 hn hs hx hy =>
    have hAB:Add a (.aff x1 y1) (.aff x2 y2) (.aff x4 y4):=.line l x4 y4 hn hs hx hy
    cases h3 with
    | right q =>
      have e:R = .aff x4 y4:=by cases h2; rfl
      subst e
      exact hAB.unique hd h4
    | @opp _ _ x3 y3 h =>
      have e:S = .aff x1 y1:=by cases h4; rfl
      subst e
      have e2:=Add.cancel hf hB hAB.symm
      rw [show (Pt.aff x2 y2).neg = .aff x3 y3 from h.eq.symm] at e2
      exact h2.unique hd e2.symm
    | @line _ _ x3 y3 m x6 y6 hn' hs' hx' hy' =>
      have hBC:Add a (.aff x2 y2) (.aff x3 y3) (.aff x6 y6):=.line m x6 y6 hn' hs' hx' hy'
      cases h2 with
      | opp h =>
        have e:=hnA hAB hA hB
        rw [show (Pt.aff x4 y4).neg = .aff x3 y3 from h.eq.symm] at e
        have e2:=e.unique hd hBC
        rw [← e2] at h4
        exact (add_neg a _).unique hd h4
      | @line _ _ _ _ s xr yr ns ss hxr hyr =>
        cases h4 with
        | opp h =>
          have e:=Add.cancel hf hB hBC
          have e1:=e.neg
          rw [Pt.neg_neg,show (Pt.aff x6 y6).neg = Pt.aff x1 y1 from h.symm.eq.symm] at e1
          have e2:=hAB.unique hd e1.symm
          exact absurd (show Opp x4 y4 x3 y3 by injection e2 with e3 e4; rw [e3,e4]; exact opp_neg _ _) ns
        | @line _ _ _ _ t xs ys nt st hxs hys =>
          by_cases hlm:l-m = 0
          · obtain rfl:=eq_of_sub hlm
            clear hlm
            have hz:(x1-x3)*(x1+x3+x2-l*l) = 0:=by
              obtain rfl:y1 = y2+l*(x1-x2):=eq_of_sub (lin1 (c1:=-1) (by clear hA hB hC hAB hBC hn hs hx hy hn' hs' hx' hy' ns ss hxr hyr nt st hxs hys; grind -lia) hs.1)
              obtain rfl:y3 = y2-l*(x2-x3):=eq_of_sub (lin1 (c1:=1) (by clear hA hB hC hAB hBC hn hs hx hy hn' hs' hx' hy' ns ss hxr hyr nt st hxs hys; grind -lia) hs'.1)
              exact lin2 (c1:=-1) (c2:=1) (by clear hA hB hC hAB hBC hn hs hx hy hn' hs' hx' hy' ns ss hxr hyr nt st hxs hys; grind -lia) hs.2 hs'.2
            rcases hd _ _ hz with h|h
            · have hac : (Pt.aff x3 y3) = .aff x1 y1 := by
                obtain rfl:=eq_of_sub h
                have:y3-y1 = 0:=lin2 (c1:=1) (c2:=1) (by clear hA hB hC hAB hBC hn hs hx hy hn' hs' hx' hy' ns ss hxr hyr nt st hxs hys hz h; grind -lia) hs.1 hs'.1
                rw [eq_of_sub this]
              have h2':Add a (.aff x4 y4) (.aff x3 y3) (.aff xr yr):=.line s xr yr ns ss hxr hyr
              have h4':Add a (.aff x1 y1) (.aff x6 y6) (.aff xs ys):=.line t xs ys nt st hxs hys
              rw [hac] at hBC h2'
              have e:=hAB.symm.unique hd hBC
              rw [e] at h2'
              exact h2'.symm.unique hd h4'
            · have h':x4-x3 = 0:=lin2 (c1:=1) (c2:=-1) (by clear hA hB hC hAB hBC hn hs hx hy hn' hs' hx' hy' ns ss hxr hyr nt st hxs hys hz h; grind -lia) hx h
              exact absurd (show Opp x4 y4 x3 y3 from ⟨h',lin4 (c1:=1) (c2:=1) (c3:=1) (c4:=-l) (by clear hA hB hC hAB hBC hn hs hx hy hn' hs' hx' hy' ns ss hxr hyr nt st hxs hys hz h; clear h'; grind -lia) hy hs.1 hs'.1 h'⟩) ns
          · have e1:=slope_next hd hs hs'.symm hx hy ss.symm hlm (fun h=>ns h.symm)
            have hs3:Slope a x3 y3 x2 y2 m:=hs'.symm
            have hx3:x6-(m*m-x3-x2) = 0:=lin1 (c1:=1) (by clear hA hB hC hAB hBC hn hs hx hy hn' hs' hx' hy' ns ss hxr hyr nt st hxs hys hlm; grind -lia) hx'
            have hy3:y6-(m*(x3-x6)-y3) = 0:=lin2 (c1:=1) (c2:=1) (by clear hA hB hC hAB hBC hn hs hx hy hn' hs' hx' hy' ns ss hxr hyr nt st hxs hys hlm; clear hx3; grind -lia) hy' hs'.1
            have hml:m-l≠0:=fun e=>hlm (lin1 (c1:=-1) (by clear hA hB hC hAB hBC hn hs hx hy hn' hs' hx' hy' ns ss hxr hyr nt st hxs hys hlm; clear hx3 hy3 e; grind -lia) e)
            have e2:=slope_next hd hs3 hs hx3 hy3 st hml nt
            have e3:s = t+m-l:=by
              refine hd.cancel hlm (lin2 (c1:=1) (c2:=1) (by clear hA hB hC hAB hBC hn hs hx hy hn' hs' hx' hy' ns ss hxr hyr nt st hxs hys hlm; clear hx3 hy3 hml e1 e2; grind -lia) (sub_of_eq e1) (sub_of_eq e2))
            have e4:=sub_of_eq e2
            clear e1 e2 hx3 hy3 hml hs3
            subst e3
            have z0:=lin2 (c1:=1) (c2:=2) rfl hx' e4
            have hxx:xr = xs:=eq_of_sub (lin4 (c1:=1) (c2:=-1) (c3:=-1) (c4:=1) (by clear hA hB hC hAB hBC hn hs hx hy hn' hs' hx' hy' ns ss hxr hyr nt st hxs hys hlm e4; clear z0; grind -lia) hxr hxs hx z0)
            clear z0
            subst hxx
            have z1:=lin4 (c1:=1) (c2:=-1) (c3:=1) (c4:=-1) rfl hyr hys ss.1 hs.1
            have z2:=lin4 (c1:=-1) (c2:=m-l) (c3:=-(m-l)) (c4:=-(t-m)) rfl hs'.1 hx' hxs e4
            have hyy:yr = ys:=eq_of_sub (lin2 (c1:=1) (c2:=1) (by clear hA hB hC hAB hBC hn hs hx hy hn' hs' hx' hy' ns ss hxr hyr nt st hxs hys hlm e4; clear z1 z2; grind -lia) z1 z2)
            rw [hyy]
end
end Go.Proofs.YtnpeokiboiclfaaGreat.Grp
set_option linter.unusedVariables false
namespace Go.Proofs.YtnpeokiboiclfaaGreat.Grp
section
variable {p:Nat} [NeZero p]
def sum3 (A T X1 Y1 Z1 X2 Y2 Z2:Fin p):Fin p×Fin p×Fin p :=
  let t0:=X1*X2
  let t1:=Y1*Y2
  let t2:=Z1*Z2
  let t3:=(X1+Y1)*(X2+Y2)-(t0+t1)
  let t4:=(X1+Z1)*(X2+Z2)-(t0+t2)
  let t5:=(Y1+Z1)*(Y2+Z2)-(t1+t2)
  let z:=T*t2+A*t4
  let x:=t1-z
  let z:=t1+z
  let y:=x*z
  let t1:=t0+t0+t0
  let t2:=A*t2
  let t4:=T*t4
  let t1:=t1+t2
  let t2:=A*(t0-t2)
  let t4:=t4+t2
  let y:=y+t1*t4
  let x:=t3*x-t5*t4
  let z:=t5*z+t3*t1
  (x,y,z)
inductive Rep:Fin p→Fin p→Fin p→Pt p→Prop where
  | inf {Y:Fin p}:Y≠0→Rep 0 Y 0 .inf
  | aff {Z:Fin p} (x y:Fin p):Z≠0→Rep (x*Z) (y*Z) Z (.aff x y)
theorem sum3_scale (A T x1 y1 Z1 x2 y2 Z2 : Fin p) : sum3 A T (x1 * Z1) (y1 * Z1) Z1 (x2 * Z2) (y2 * Z2) Z2 =
    ((sum3 A T x1 y1 1 x2 y2 1).1*(Z1*Z1*(Z2*Z2)),(sum3 A T x1 y1 1 x2 y2 1).2.1*(Z1*Z1*(Z2*Z2)),(sum3 A T x1 y1 1 x2 y2 1).2.2*(Z1*Z1*(Z2*Z2))):=by
  simp only [sum3]
  refine Prod.ext ?_ (Prod.ext ?_ ?_)
  · dsimp only; grind -lia
  · dsimp only; grind -lia
  · dsimp only; grind -lia
theorem sum3_line {x1 x2 y2 l A B : Fin p} (hA : A = l * (y2 + l * (x1 - x2) + y2) - (x1 * x1 + x1 * x2 + x2 * x2)) (hB : B = (y2 + l * (x1 - x2)) * (y2 + l * (x1 - x2)) - x1 * x1 * x1 - A * x1) :
    (sum3 A (B+B+B) x1 (y2+l*(x1-x2)) 1 x2 y2 1).1 = (l*l-x1-x2)*(sum3 A (B+B+B) x1 (y2+l*(x1-x2)) 1 x2 y2 1).2.2 ∧
    (sum3 A (B+B+B) x1 (y2+l*(x1-x2)) 1 x2 y2 1).2.1 = (l*(x1-(l*l-x1-x2))-(y2+l*(x1-x2)))*(sum3 A (B+B+B) x1 (y2+l*(x1-x2)) 1 x2 y2 1).2.2 ∧
    (sum3 A (B+B+B) x1 (y2+l*(x1-x2)) 1 x2 y2 1).2.2 = -((y2+l*(x1-x2)+y2)*(x1*(x1-x2)*(x1-x2)-((y2+l*(x1-x2)+y2)*(y2+l*(x1-x2)+y2)-(x1+x2)*((x1-x2)*(x1-x2))))-(y2+l*(x1-x2))*((x1-x2)*(x1-x2)*(x1-x2))):=by
  subst hB hA
  simp only [sum3]
  refine ⟨?_,?_,?_⟩ <;> grind -lia
theorem sum3_opp {x y A B : Fin p} (hB : B = y * y - x * x * x - A * x) : sum3 A (B + B + B) x y 1 x (-y) 1 =
    (0,-(8*(y*y*(y*y))-12*x*(y*y)*(3*(x*x)+A)+(3*(x*x)+A)*(3*(x*x)+A)*(3*(x*x)+A)),0):=by
  subst hB
  simp only [sum3]
  refine Prod.ext ?_ (Prod.ext ?_ ?_)
  · dsimp only; grind -lia
  · dsimp only; grind -lia
  · dsimp only; grind -lia
theorem sum3_left (A T Y1 x2 y2 Z2:Fin p):sum3 A T 0 Y1 0 (x2*Z2) (y2*Z2) Z2 = (x2*(Y1*Y1*(y2*Z2)*Z2),y2*(Y1*Y1*(y2*Z2)*Z2),Y1*Y1*(y2*Z2)*Z2):=by
  simp only [sum3]
  refine Prod.ext ?_ (Prod.ext ?_ ?_)
  · dsimp only; grind -lia
  · dsimp only; grind -lia
  · dsimp only; grind -lia
theorem sum3_right (A T Y1 x2 y2 Z2:Fin p):sum3 A T (x2*Z2) (y2*Z2) Z2 0 Y1 0 = (x2*(Y1*Y1*(y2*Z2)*Z2),y2*(Y1*Y1*(y2*Z2)*Z2),Y1*Y1*(y2*Z2)*Z2):=by
  simp only [sum3]
  refine Prod.ext ?_ (Prod.ext ?_ ?_)
  · dsimp only; grind -lia
  · dsimp only; grind -lia
  · dsimp only; grind -lia
theorem sum3_none (A T Y1 Y2:Fin p):sum3 A T 0 Y1 0 0 Y2 0 = (0,Y1*Y2*(Y1*Y2),0):=by
  simp only [sum3]
  refine Prod.ext ?_ (Prod.ext ?_ ?_)
  · dsimp only; grind -lia
  · dsimp only; grind -lia
  · dsimp only; grind -lia
theorem Dom.mul (hd:Dom p) {x y:Fin p} (hx:x≠0) (hy:y≠0):x*y≠0:=fun h=>(hd _ _ h).elim hx hy
theorem neg_ne {x : Fin p} (h : x ≠ 0) : -x ≠ 0 := fun e => h (by have : x = -(-x) := by grind -lia
                                                                  rw [this,e]; grind -lia)
structure Good (a b:Fin p):Prop where
  dom:Dom p
  inv:∀ x:Fin p,x≠0→∃ y,x*y = 1
  two:∀ y:Fin p,y+y = 0→y = 0
  root:∀ x:Fin p,¬ On a b (.aff x 0)
theorem Good.fine {a b:Fin p} (h:Good a b):Fine a b:=⟨h.dom,h.two,fun x hx _=>h.root x hx⟩
theorem Good.y_ne {a b x y:Fin p} (h:Good a b) (hP:On a b (.aff x y)):y≠0:=fun e=>h.root x (e ▸ hP)
theorem Good.quot {a b:Fin p} (h:Good a b) {x:Fin p} (hx:x≠0) (y:Fin p):∃ l,l*x = y:=by
  obtain ⟨i,hi⟩:=h.inv x hx
  refine ⟨y*i,?_⟩
  have e:y*i*x = y*(x*i):=by clear hi; grind -lia
  rw [e,hi]; clear hi e; grind -lia
theorem Good.sum {a b:Fin p} (h:Good a b) {A B:Pt p} (hA:On a b A) (hB:On a b B):∃ R,Add a A B R:=by
  cases A with
  | inf=>exact ⟨_,.left _⟩
  | aff x1 y1=>cases B with
    | inf=>exact ⟨_,.right _⟩
    | aff x2 y2 =>
      by_cases ho:Opp x1 y1 x2 y2
      · exact ⟨_,.opp ho⟩
      · have key : ∃ l, Slope a x1 y1 x2 y2 l := by
          simp only [On] at hA hB
          by_cases hx:x1-x2 = 0
          · have hs:y1+y2≠0:=fun e=>ho ⟨hx,e⟩
            obtain ⟨l,hl⟩:=h.quot hs (x1*x1+x1*x2+x2*x2+a)
            refine ⟨l,?_,sub_of_eq hl⟩
            obtain rfl:=eq_of_sub hx
            have e:(y1-y2)*(y1+y2) = 0:=lin2 (c1:=1) (c2:=-1) (by clear hl hs hx ho hA hB; grind -lia) hA hB
            have e2:y1-y2 = 0:=(h.dom _ _ e).elim id (fun e=>absurd e hs)
            exact lin1 (c1:=-1) (by clear hl hs hx ho hA hB e e2; grind -lia) e2
          · obtain ⟨l,hl⟩:=h.quot hx (y1-y2)
            refine ⟨l,sub_of_eq hl,?_⟩
            have e:(l*(y1+y2)-(x1*x1+x1*x2+x2*x2+a))*(x1-x2) = 0:=lin3 (c1:=y1+y2) (c2:=1) (c3:=-1) (by clear hl hx ho hA hB; grind -lia) (sub_of_eq hl) hA hB
            exact (h.dom _ _ e).elim id (fun e=>absurd e hx)
        obtain ⟨l,hl⟩:=key
        exact ⟨_,.line l (l*l-x1-x2) (l*(x1-(l*l-x1-x2))-y1) ho hl (by clear hl ho hA hB; grind -lia) (by clear hl ho hA hB; grind -lia)⟩
theorem rep_scale {X Y Z k:Fin p} {P:Pt p} (hd:Dom p) (h:Rep X Y Z P) (hk:k≠0):Rep (X*k) (Y*k) (Z*k) P:=by
  cases h with
  | inf h =>
    have e:(0:Fin p)*k = 0:=by clear h hk; grind -lia
    rw [e]
    exact .inf (hd.mul h hk)
  | aff x y h =>
    have e1:x*Z*k = x*(Z*k):=by clear h hk; grind -lia
    have e2:y*Z*k = y*(Z*k):=by clear h hk; grind -lia
    rw [e1,e2]
    exact .aff x y (hd.mul h hk)
theorem Rep.sum {a b X1 Y1 Z1 X2 Y2 Z2 : Fin p} (h : Good a b) {P Q R : Pt p} (hP : Rep X1 Y1 Z1 P) (hQ : Rep X2 Y2 Z2 Q) (oP : On a b P) (oQ : On a b Q) (hR : Add a P Q R) :
    Rep (sum3 a (b+b+b) X1 Y1 Z1 X2 Y2 Z2).1 (sum3 a (b+b+b) X1 Y1 Z1 X2 Y2 Z2).2.1 (sum3 a (b+b+b) X1 Y1 Z1 X2 Y2 Z2).2.2 R:=by
  have hd:=h.dom
  cases hP with
  | inf h1=>cases hQ with
    | inf h2 =>
      have e:R = .inf:=by cases hR <;> rfl
      subst e
      rw [sum3_none]
      exact .inf (hd.mul (hd.mul h1 h2) (hd.mul h1 h2))
    | aff x2 y2 h2 =>
      have e:R = .aff x2 y2:=by cases hR; rfl
      subst e
      rw [sum3_left]
      exact .aff x2 y2 (hd.mul (hd.mul (hd.mul h1 h1) (hd.mul (h.y_ne oQ) h2)) h2)
  | aff x1 y1 h1=>cases hQ with
    | inf h2 =>
      have e:R = .aff x1 y1:=by cases hR; rfl
      subst e
      rw [sum3_right]
      exact .aff x1 y1 (hd.mul (hd.mul (hd.mul h2 h2) (hd.mul (h.y_ne oP) h1)) h1)
    | aff x2 y2 h2 =>
      rw [sum3_scale]
      refine rep_scale hd ?_ (hd.mul (hd.mul h1 h1) (hd.mul h2 h2))
      have hb:=oP
      simp only [On] at hb
      cases hR with
      | opp ho =>
        have e:=ho.eq
        injection e with e1 e2
        subst e1 e2
        have hB:b = y1*y1-x2*x2*x2-a*x2:=eq_of_sub (lin1 (c1:=-1) (by clear hb ho oP oQ h1 h2; grind -lia) hb)
        rw [sum3_opp hB]
        refine .inf (neg_ne ?_)
        intro hV
        have hy:=h.y_ne oP
        have hyy:y1+y1≠0:=fun e=>hy (h.two _ e)
        obtain ⟨l,hl⟩:=h.quot hyy (3*(x2*x2)+a)
        have hs:Slope a x2 y1 x2 y1 l:=⟨by clear hl hV hB hb; grind -lia,lin1 (c1:=1) (by clear hl hV hB hb; grind -lia) (sub_of_eq hl)⟩
        have hA:Add a (.aff x2 y1) (.aff x2 y1) (.aff (l*l-x2-x2) (l*(x2-(l*l-x2-x2))-y1)):=.line l _ _ (fun e=>hyy e.2) hs (by clear hl hV hB hb; grind -lia) (by clear hl hV hB hb; grind -lia)
        have hO:=hA.on oP oP
        have hy4:=h.y_ne hO
        apply hd.mul hy4 (hd.mul hyy (hd.mul hyy hyy))
        have hl':=hl.symm
        rw [hl'] at hV
        refine lin1 (c1:=-1) ?_ hV
        clear hV hl' hl hB hb hs hA hO hy4 hyy hy oP oQ ho
        grind -lia
      | line l x y hn hs hx hy =>
        obtain rfl:=eq_of_sub hx
        obtain rfl:=eq_of_sub hy
        have hs1:=hs.chord
        have hs2:=hs.tang
        obtain rfl:y1 = y2+l*(x1-x2):=eq_of_sub (lin1 (c1:=-1) (by clear hs1 hs2 hb hx hy oP oQ; grind -lia) hs1)
        have hA:a = l*(y2+l*(x1-x2)+y2)-(x1*x1+x1*x2+x2*x2):=eq_of_sub (lin1 (c1:=-1) (by clear hs1 hs2 hb hx hy oP oQ; grind -lia) hs2)
        have hB:b = (y2+l*(x1-x2))*(y2+l*(x1-x2))-x1*x1*x1-a*x1:=eq_of_sub (lin1 (c1:=-1) (by clear hs1 hs2 hb hx hy oP oQ hA; grind -lia) hb)
        obtain ⟨e1,e2,e3⟩:=sum3_line hA hB
        rw [e1,e2]
        refine .aff _ _ ?_
        rw [e3]
        refine neg_ne ?_
        clear e1 e2 e3
        by_cases hxx:x1-x2 = 0
        · have hss:y2+l*(x1-x2)+y2≠0:=fun e=>hn ⟨hxx,e⟩
          intro hV
          obtain rfl:=eq_of_sub hxx
          apply hd.mul hss (hd.mul hss hss)
          refine lin1 (c1:=-1) ?_ hV
          clear hV hss hA hB hb hs hs1 hs2 hx hy oP oQ hxx hn
          grind -lia
        · obtain ⟨n,hn'⟩:=h.quot hxx (y2+l*(x1-x2)+y2)
          have oQ':On a b (.aff x2 (-y2)):=neg_on oQ
          have hs':Slope a x1 (y2+l*(x1-x2)) x2 (-y2) n:=by
            have c1:n*(x1-x2)-(y2+l*(x1-x2) - -y2) = 0:=lin1 (c1:=1) (by clear hn' hA hB hb hs hs1 hs2 hx hy oP oQ oQ' hxx hn; grind -lia) (sub_of_eq hn')
            refine ⟨c1,?_⟩
            have e:(n*(y2+l*(x1-x2)+-y2)-(x1*x1+x1*x2+x2*x2+a))*(x1-x2) = 0:=lin2 (c1:=l*(x1-x2)) (c2:=x1-x2) (by clear hn' hA hB hb hs hs1 hs2 hx hy oP oQ oQ' hxx hn; grind -lia) (sub_of_eq hn') hs2
            exact (hd _ _ e).elim id (fun e=>absurd e hxx)
          have hA':Add a (.aff x1 (y2+l*(x1-x2))) (.aff x2 (-y2)) (.aff (n*n-x1-x2) (n*(x1-(n*n-x1-x2))-(y2+l*(x1-x2)))):=.line n _ _ (fun e=>hxx e.1) hs' (by clear hn' hA hB hb hs hs1 hs2 hx hy oP oQ oQ' hxx hn hs'; grind -lia) (by clear hn' hA hB hb hs hs1 hs2 hx hy oP oQ oQ' hxx hn hs'; grind -lia)
          have hO:=hA'.on oP oQ'
          have hy4:=h.y_ne hO
          intro hV
          apply hd.mul hy4 (hd.mul hxx (hd.mul hxx hxx))
          rw [← hn'] at hV
          refine lin1 (c1:=1) ?_ hV
          clear hV hA hB hb hs hs1 hs2 hx hy oP oQ oQ' hxx hn hs' hA' hO hy4 hn'
          grind -lia
end
end Go.Proofs.YtnpeokiboiclfaaGreat.Grp
set_option linter.unusedVariables false
set_option linter.unusedSectionVars false
namespace Go.Proofs.YtnpeokiboiclfaaGreat.Grp
section
def Pr (p:Nat):Prop:=2≤p∧∀ d,d ∣ p→d = 1∨d = p
theorem bez (a m:Nat):∃ s t:Int,(a:Int)*s+(m:Int)*t = ((Nat.gcd a m:Nat):Int):=by
  induction a,m using Nat.gcd.induction with
  | H0 n=>exact ⟨0,1,by simp⟩
  | H1 m n hm ih =>
    obtain ⟨s,t,h⟩:=ih
    refine ⟨t-((n/m:Nat):Int)*s,s,?_⟩
    rw [Nat.gcd_rec m n,← h]
    have e:((n:Nat):Int) = (m:Int)*((n/m:Nat):Int)+((n%m:Nat):Int):=by
      rw [← Int.natCast_mul,← Int.natCast_add,Nat.div_add_mod]
    generalize ((n/m:Nat):Int) = q at *
    generalize ((n%m:Nat):Int) = r at *
    rw [e]
    grind
theorem inv_mod {a m:Nat} (h:Nat.gcd a m = 1) (hm:1<m):∃ s,s<m∧a*s%m = 1:=by
  obtain ⟨s,t,e⟩:=bez a m
  rw [h] at e
  have hm':(m:Int)≠0:=by omega
  refine ⟨(s%(m:Int)).toNat,?_,?_⟩
  · have:=Int.emod_lt_of_pos s (show (0:Int)<m by omega)
    have:=Int.emod_nonneg s hm'
    omega
  · have h0:=Int.emod_nonneg s hm'
    have h1:((a*(s%(m:Int)).toNat%m:Nat):Int) = 1:=by
      rw [Int.natCast_emod,Int.natCast_mul,Int.toNat_of_nonneg h0,Int.mul_emod,Int.emod_emod,← Int.mul_emod]
      have e2:(a:Int)*s = 1+(m:Int)*(-t):=by
        rw [Int.mul_neg]; simp at e; omega
      rw [e2,Int.add_mul_emod_self_left]
      exact Int.emod_eq_of_lt (by decide) (by omega)
    omega
theorem Pr.cop {p x:Nat} (h:Pr p) (hx:¬ p ∣ x):Nat.gcd x p = 1:=by
  rcases h.2 _ (Nat.gcd_dvd_right x p) with e|e
  · exact e
  · exact absurd (e ▸ Nat.gcd_dvd_left x p) hx
theorem Pr.mul {p x y:Nat} (h:Pr p) (hd:p ∣ x*y):p ∣ x∨p ∣ y:=by
  by_cases hx:p ∣ x
  · exact .inl hx
  · refine .inr (Nat.Coprime.dvd_of_dvd_mul_left ?_ hd)
    rw [Nat.coprime_comm]
    exact h.cop hx
variable {p:Nat} [NeZero p]
structure Fld (p:Nat) [NeZero p]:Prop where
  dom:Dom p
  inv:∀ x:Fin p,x≠0→∃ y,x*y = 1
  two:∀ y:Fin p,y+y = 0→y = 0
theorem Pr.fld (h:Pr p) (h2:p≠2):Fld p:=by
  have hp:=h.1
  have zero_of:∀ x:Fin p,p ∣ x.val→x = 0:=fun x hx=>by
    apply Fin.ext
    rw [Fin.val_zero]
    exact Nat.eq_zero_of_dvd_of_lt hx x.isLt
  refine ⟨fun x y e=>?_,fun x hx=>?_,fun y e=>?_⟩
  · have e1:x.val*y.val%p = 0:=by rw [← Fin.val_mul,e,Fin.val_zero]
    exact (h.mul (Nat.dvd_of_mod_eq_zero e1)).imp (zero_of x) (zero_of y)
  · obtain ⟨s,hs,e⟩:=inv_mod (a:=x.val) (h.cop (fun hd=>hx (zero_of x hd))) (show 1<p by omega)
    refine ⟨⟨s,hs⟩,Fin.ext ?_⟩
    rw [Fin.val_mul]
    show x.val*s%p = _
    rw [e]
    have:(1:Fin p).val = 1%p:=rfl
    rw [this,Nat.mod_eq_of_lt (by omega)]
  · have e1:(y.val+y.val)%p = 0:=by rw [← Fin.val_add,e,Fin.val_zero]
    have e2:p ∣ 2*y.val:=by rw [Nat.two_mul]; exact Nat.dvd_of_mod_eq_zero e1
    rcases h.mul e2 with e3|e3
    · have:=Nat.le_of_dvd (by decide) e3
      exact absurd (show p = 2 by omega) h2
    · exact zero_of y e3
structure Crv (a b:Fin p):Prop where
  fld:Fld p
  sing:∀ x:Fin p,On a b (.aff x 0)→x*x+x*x+x*x+a = 0→False
theorem Crv.fine {a b:Fin p} (h:Crv a b):Fine a b:=⟨h.fld.dom,h.fld.two,h.sing⟩
theorem Fld.quot (h:Fld p) {x:Fin p} (hx:x≠0) (y:Fin p):∃ l,l*x = y:=by
  obtain ⟨i,hi⟩:=h.inv x hx
  refine ⟨y*i,?_⟩
  have e:y*i*x = y*(x*i):=by clear hi; grind -lia
  rw [e,hi]; clear hi e; grind -lia
theorem Fld.sum (h:Fld p) {a b:Fin p} {A B:Pt p} (hA:On a b A) (hB:On a b B):∃ R,Add a A B R:=by
  cases A with
  | inf=>exact ⟨_,.left _⟩
  | aff x1 y1=>cases B with
    | inf=>exact ⟨_,.right _⟩
    | aff x2 y2 =>
      by_cases ho:Opp x1 y1 x2 y2
      · exact ⟨_,.opp ho⟩
      · have key : ∃ l, Slope a x1 y1 x2 y2 l := by
          simp only [On] at hA hB
          by_cases hx:x1-x2 = 0
          · have hs:y1+y2≠0:=fun e=>ho ⟨hx,e⟩
            obtain ⟨l,hl⟩:=h.quot hs (x1*x1+x1*x2+x2*x2+a)
            refine ⟨l,?_,sub_of_eq hl⟩
            obtain rfl:=eq_of_sub hx
            have e:(y1-y2)*(y1+y2) = 0:=lin2 (c1:=1) (c2:=-1) (by clear hl hs hx ho hA hB; grind -lia) hA hB
            have e2:y1-y2 = 0:=(h.dom _ _ e).elim id (fun e=>absurd e hs)
            exact lin1 (c1:=-1) (by clear hl hs hx ho hA hB e e2; grind -lia) e2
          · obtain ⟨l,hl⟩:=h.quot hx (y1-y2)
            refine ⟨l,sub_of_eq hl,?_⟩
            have e:(l*(y1+y2)-(x1*x1+x1*x2+x2*x2+a))*(x1-x2) = 0:=lin3 (c1:=y1+y2) (c2:=1) (c3:=-1) (by clear hl hx ho hA hB; grind -lia) (sub_of_eq hl) hA hB
            exact (h.dom _ _ e).elim id (fun e=>absurd e hx)
        obtain ⟨l,hl⟩:=key
        exact ⟨_,.line l (l*l-x1-x2) (l*(x1-(l*l-x1-x2))-y1) ho hl (by clear hl ho hA hB; grind -lia) (by clear hl ho hA hB; grind -lia)⟩
instance:Nonempty (Pt p):=⟨.inf⟩
noncomputable def padd (a:Fin p) (A B:Pt p):Pt p:=Classical.epsilon (fun R=>Add a A B R)
theorem padd_spec (h:Fld p) {a b:Fin p} {A B:Pt p} (hA:On a b A) (hB:On a b B):Add a A B (padd a A B):=Classical.epsilon_spec (h.sum hA hB)
theorem padd_eq (h:Fld p) {a b:Fin p} {A B R:Pt p} (hA:On a b A) (hB:On a b B) (hR:Add a A B R):padd a A B = R:=(padd_spec h hA hB).unique h.dom hR
theorem padd_on (h:Fld p) {a b:Fin p} {A B:Pt p} (hA:On a b A) (hB:On a b B):On a b (padd a A B):=(padd_spec h hA hB).on hA hB
theorem padd_comm (h:Fld p) {a b:Fin p} {A B:Pt p} (hA:On a b A) (hB:On a b B):padd a A B = padd a B A:=padd_eq h hA hB (padd_spec h hB hA).symm
theorem padd_assoc {a b:Fin p} (h:Crv a b) {A B C:Pt p} (hA:On a b A) (hB:On a b B) (hC:On a b C):padd a (padd a A B) C = padd a A (padd a B C) :=
  Add.assoc h.fine hA hB hC (padd_spec h.fld hA hB) (padd_spec h.fld (padd_on h.fld hA hB) hC) (padd_spec h.fld hB hC) (padd_spec h.fld hA (padd_on h.fld hB hC))
theorem padd_inf (h:Fld p) {a b:Fin p} {A:Pt p} (hA:On a b A):padd a A .inf = A:=padd_eq h hA (b:=b) trivial (.right _)
theorem inf_padd (h:Fld p) {a b:Fin p} {A:Pt p} (hA:On a b A):padd a .inf A = A:=padd_eq h (b:=b) trivial hA (.left _)
theorem padd_neg (h:Fld p) {a b:Fin p} {A:Pt p} (hA:On a b A):padd a A A.neg = .inf:=padd_eq h hA (neg_on hA) (add_neg a A)
theorem padd_cancel {a b:Fin p} (h:Crv a b) {A B C:Pt p} (hA:On a b A) (hB:On a b B) (hC:On a b C) (e:padd a A C = padd a B C):A = B:=by
  have e1:=congrArg (fun X=>padd a X C.neg) e
  simp only [padd_assoc h hA hC (neg_on hC),padd_assoc h hB hC (neg_on hC),padd_neg h.fld hC,padd_inf h.fld hA,padd_inf h.fld hB] at e1
  exact e1
noncomputable def pmul (a:Fin p) (P:Pt p):Nat→Pt p
  | 0=>.inf
  | k+1=>padd a (pmul a P k) P
theorem pmul_on (h:Fld p) {a b:Fin p} {P:Pt p} (hP:On a b P):∀ k,On a b (pmul a P k)
  | 0=>trivial
  | k+1=>padd_on h (pmul_on h hP k) hP
theorem pmul_one (h:Fld p) {a b:Fin p} {P:Pt p} (hP:On a b P):pmul a P 1 = P:=inf_padd h hP
theorem pmul_add {a b:Fin p} (h:Crv a b) {P:Pt p} (hP:On a b P) (i:Nat):∀ j,pmul a P (i+j) = padd a (pmul a P i) (pmul a P j)
  | 0=>(padd_inf h.fld (pmul_on h.fld hP i)).symm
  | j+1=>by
    show padd a (pmul a P (i+j)) P = _
    rw [pmul_add h hP i j,padd_assoc h (pmul_on h.fld hP i) (pmul_on h.fld hP j) hP]
    rfl
theorem pmul_mul {a b:Fin p} (h:Crv a b) {P:Pt p} (hP:On a b P) (i:Nat):∀ j,pmul a P (i*j) = pmul a (pmul a P i) j
  | 0=>rfl
  | j+1=>by
    rw [Nat.mul_succ,pmul_add h hP,pmul_mul h hP i j]
    rfl
theorem pmul_inf {a b:Fin p} (h:Fld p):∀ j,pmul a (.inf:Pt p) j = .inf
  | 0=>rfl
  | j+1=>by
    show padd a (pmul a .inf j) .inf = _
    rw [pmul_inf (b:=b) h j,padd_inf h (show On a b (.inf:Pt p) from trivial)]
theorem pmul_order {a b:Fin p} (h:Crv a b) {P:Pt p} (hP:On a b P) {q:Nat} (hq:Pr q) (h0:P≠.inf) (hqP:pmul a P q = .inf) {k:Nat} (hk:pmul a P k = .inf):q ∣ k:=by
  refine Classical.byContradiction fun hn=>h0 ?_
  have hq2:=hq.1
  obtain ⟨s,_,hs⟩:=inv_mod (hq.cop hn) (show 1<q by omega)
  have e1:k*s = q*(k*s/q)+1:=by
    have:=Nat.div_add_mod (k*s) q
    omega
  have e2:pmul a P (k*s) = .inf:=by rw [pmul_mul h hP,hk,pmul_inf (b:=b) h.fld]
  rw [e1,pmul_add h hP,pmul_mul h hP,hqP,pmul_inf (b:=b) h.fld,pmul_one h.fld hP,inf_padd h.fld hP] at e2
  exact e2
theorem pmul_mod {a b:Fin p} (h:Crv a b) {P:Pt p} (hP:On a b P) {q:Nat} (hqP:pmul a P q = .inf) (k:Nat):pmul a P k = pmul a P (k%q):=by
  have e:=Nat.div_add_mod k q
  have e2:pmul a P k = pmul a P (q*(k/q)+k%q):=by rw [e]
  rw [e2,pmul_add h hP,pmul_mul h hP,hqP,pmul_inf (b:=b) h.fld,inf_padd h.fld (pmul_on h.fld hP _)]
theorem pmul_inj {a b:Fin p} (h:Crv a b) {P:Pt p} (hP:On a b P) {q:Nat} (hq:Pr q) (h0:P≠.inf) (hqP:pmul a P q = .inf) {i j:Nat} (hj:j<q) (hi:i≤j) (e:pmul a P i = pmul a P j):i = j:=by
  have e1:pmul a P j = padd a (pmul a P (j-i)) (pmul a P i):=by rw [← pmul_add h hP,Nat.sub_add_cancel hi]
  have e2:padd a .inf (pmul a P i) = padd a (pmul a P (j-i)) (pmul a P i):=by rw [inf_padd h.fld (pmul_on h.fld hP i),← e1,e]
  have e3:=padd_cancel h (show On a b (.inf:Pt p) from trivial) (pmul_on h.fld hP _) (pmul_on h.fld hP i) e2
  have e4:=pmul_order h hP hq h0 hqP e3.symm
  have:=Nat.eq_zero_of_dvd_of_lt e4 (by omega)
  omega
theorem doves:∀ (M N:Nat) (f:Nat→Nat),(∀ i,i<N→f i<M)→(∀ i j,i<j→j<N→f i≠f j)→N≤M
  | 0,N,f,h,_=>Nat.le_of_not_lt fun hN=>Nat.not_lt_zero _ (h 0 hN)
  | M+1,N,f,h,hi=>by
    by_cases hex:∃ i0,i0<N∧f i0 = M
    · obtain ⟨i0,h0,e0⟩:=hex
      have:=doves M (N-1) (fun i=>if i<i0 then f i else f (i+1)) (fun i hiN=>by
        split
        · have:=h i (by omega)
          have:=hi i i0 (by omega) h0
          omega
        · have:=h (i+1) (by omega)
          have:=hi i0 (i+1) (by omega) (by omega)
          omega) (fun i j hij hj=>by
        split
        · split
          · exact hi i j hij (by omega)
          · exact hi i (j+1) (by omega) (by omega)
        · split
          · omega
          · exact hi (i+1) (j+1) (by omega) (by omega))
      omega
    · have := doves M N f (fun i hiN => by
        have:=h i hiN
        have:f i≠M:=fun e=>hex ⟨i,hiN,e⟩
        omega) hi
      omega
def pcode:Pt p→Nat
  | .inf=>2*p
  | .aff x y=>2*x.val+(if 2*y.val<p then 0 else 1)
theorem pcode_lt (P:Pt p):pcode P<2*p+1:=by
  cases P with
  | inf=>simp [pcode]
  | aff x y=>have:=x.isLt; simp only [pcode]; split <;> omega
theorem pcode_inj (h:Fld p) {a b:Fin p} {P Q:Pt p} (hP:On a b P) (hQ:On a b Q) (e:pcode P = pcode Q):P = Q:=by
  cases P with
  | inf=>cases Q with
    | inf=>rfl
    | aff x y=>have:=x.isLt; simp only [pcode] at e; split at e <;> omega
  | aff x y=>cases Q with
    | inf=>have:=x.isLt; simp only [pcode] at e; split at e <;> omega
    | aff x' y' =>
      simp only [pcode] at e
      have hx:x = x':=Fin.ext (by split at e <;> split at e <;> omega)
      subst hx
      simp only [On] at hP hQ
      have hm:(y-y')*(y+y') = 0:=lin2 (c1:=1) (c2:=-1) (by clear hP hQ e; grind -lia) hP hQ
      rcases h.dom _ _ hm with h1|h1
      · rw [eq_of_sub h1]
      · have h2:(y.val+y'.val)%p = 0:=by rw [← Fin.val_add,h1,Fin.val_zero]
        have h3:=y.isLt
        have h4:=y'.isLt
        have h5:y.val+y'.val = 0∨y.val+y'.val = p:=by
          rcases Nat.lt_or_ge (y.val+y'.val) p with h6|h6
          · rw [Nat.mod_eq_of_lt h6] at h2; exact .inl h2
          · have:(y.val+y'.val-p)%p = 0:=by rw [← Nat.mod_eq_sub_mod h6]; exact h2
            rw [Nat.mod_eq_of_lt (by omega)] at this
            omega
        have h7:y = y':=Fin.ext (by split at e <;> split at e <;> omega)
        rw [h7]
theorem order_le {a b:Fin p} (h:Crv a b) {P:Pt p} (hP:On a b P) {q:Nat} (hq:Pr q) (h0:P≠.inf) (hqP:pmul a P q = .inf):q≤2*p+1 :=
  doves (2*p+1) q (fun i=>pcode (pmul a P i)) (fun i _=>pcode_lt _) (fun i j hij hj e =>
    absurd (pmul_inj h hP hq h0 hqP hj (Nat.le_of_lt hij) (pcode_inj h.fld (pmul_on h.fld hP i) (pmul_on h.fld hP j) e)) (by omega))
end
end Go.Proofs.YtnpeokiboiclfaaGreat.Grp
set_option linter.unusedVariables false
set_option linter.unusedSectionVars false
namespace Go.Proofs.YtnpeokiboiclfaaGreat.Grp
section
variable {p:Nat} [NeZero p]
def c (p:Nat) [NeZero p] (k:Nat):Fin p:=Fin.ofNat p k
theorem c_val (k:Nat):(c p k).val = k%p:=rfl
theorem c_add (i j:Nat):c p (i+j) = c p i+c p j:=Fin.ext (by rw [Fin.val_add,c_val,c_val,c_val,← Nat.add_mod])
theorem c_mul (i j:Nat):c p (i*j) = c p i*c p j:=Fin.ext (by rw [Fin.val_mul,c_val,c_val,c_val,← Nat.mul_mod])
theorem c_mod {n:Nat} (hn:p ∣ n) (i:Nat):c p (i%n) = c p i:=Fin.ext (by rw [c_val,c_val,Nat.mod_mod_of_dvd _ hn])
theorem c_zero_iff {k:Nat}:c p k = 0↔p ∣ k:=by
  constructor
  · intro h
    have:=congrArg Fin.val h
    rw [c_val,Fin.val_zero] at this
    exact Nat.dvd_of_mod_eq_zero this
  · intro h
    apply Fin.ext
    rw [c_val,Fin.val_zero]
    exact Nat.mod_eq_zero_of_dvd h
theorem c_sub {n j:Nat} (hn:p ∣ n) (hj:j≤n):c p (n-j) = -c p j:=by
  have h1:c p (n-j)+c p j = 0:=by rw [← c_add,Nat.sub_add_cancel hj]; exact c_zero_iff.2 hn
  have h2:c p (n-j) - -c p j = 0:=by rw [← h1]; grind -lia
  exact eq_of_sub h2
theorem c_one:c p 1 = 1:=rfl
theorem c_two:c p 2 = 2:=rfl
theorem c_three:c p 3 = 3:=rfl
theorem c_four:c p 4 = 4:=rfl
theorem c_six:c p 6 = 6:=rfl
def RZ (X Y Z:Fin p) (A:Pt p):Prop:=Z≠0→∃ x y,A = .aff x y∧X = x*Z∧Y = y*Z
theorem RZ.dbl {a b X Y Z W S : Fin p} {A : Pt p} (h : Fld p) (hA : On a b A) (hr : RZ X Y Z A) (hW : W = 3 * X * X + a * (Z * Z)) (hS : S = 2 * Y * Z) :
    RZ (S*(W*W-4*(X*Y*S))) (W*(6*(X*Y*S)-W*W)-2*(Y*S)*(Y*S)) (S*S*S) (padd a A A):=by
  intro hz
  have hS0:S≠0:=fun e=>hz (by rw [e]; clear hr hW hS e hz; grind -lia)
  have hZ0:Z≠0:=fun e=>hS0 (by rw [hS,e]; clear hr hW hS e hz hS0; grind -lia)
  obtain ⟨x,y,rfl,hX,hY⟩:=hr hZ0
  have hy0:y≠0:=fun e=>hS0 (by rw [hS,hY,e]; clear hr hW hS e hz hS0 hX hY; grind -lia)
  have hsp:=padd_spec h hA hA
  generalize padd a (.aff x y) (.aff x y) = R at hsp
  cases hsp with
  | opp ho=>exact absurd (h.two _ ho.2) hy0
  | line l x4 y4 hn hs hx hy =>
    have ha:a = l*(y+y)-(x*x+x*x+x*x):=eq_of_sub (lin1 (c1:=-1) (by clear hr hW hS hz hS0 hX hY hx hy hs hA; grind -lia) hs.tang)
    obtain rfl:=eq_of_sub hx
    obtain rfl:=eq_of_sub hy
    refine ⟨_,_,rfl,?_,?_⟩
    · rw [hW,hS,hX,hY,ha]; clear hr hW hS hz hS0 hX hY hx hy hs hA ha; grind -lia
    · rw [hW,hS,hX,hY,ha]; clear hr hW hS hz hS0 hX hY hx hy hs hA ha; grind -lia
theorem RZ.add {a b X Y Z x2 y2 u v : Fin p} {A : Pt p} (h : Fld p) (hA : On a b A) (hQ : On a b (.aff x2 y2)) (hr : RZ X Y Z A) (hu : u = y2 * Z - Y) (hv : v = x2 * Z - X) :
    RZ (v*(u*u*Z-v*v*v-2*(v*v*X))) (u*(v*v*X-(u*u*Z-v*v*v-2*(v*v*X)))-v*v*v*Y) (v*v*v*Z) (padd a A (.aff x2 y2)):=by
  intro hz
  have hv0:v≠0:=fun e=>hz (by rw [e]; clear hr hu hv e hz; grind -lia)
  have hZ0:Z≠0:=fun e=>hz (by rw [e]; clear hr hu hv e hz hv0; grind -lia)
  obtain ⟨x,y,rfl,hX,hY⟩:=hr hZ0
  have hx0:x-x2≠0:=fun e=>hv0 (by
    obtain rfl:=eq_of_sub e
    rw [hv,hX]; clear hr hu hv e hz hv0 hX hY; grind -lia)
  have hsp:=padd_spec h hA hQ
  generalize padd a (.aff x y) (.aff x2 y2) = R at hsp
  cases hsp with
  | opp ho=>exact absurd ho.1 hx0
  | line l x4 y4 hn hs hx hy =>
    have e:y = y2+l*(x-x2):=eq_of_sub (lin1 (c1:=-1) (by clear hr hu hv hz hv0 hX hY hx hy hs hA hQ; grind -lia) hs.chord)
    obtain rfl:=eq_of_sub hx
    obtain rfl:=eq_of_sub hy
    refine ⟨_,_,rfl,?_,?_⟩
    · rw [hu,hv,hX,hY,e]; clear hr hu hv hz hv0 hX hY hx hy hs hA hQ e; grind -lia
    · rw [hu,hv,hX,hY,e]; clear hr hu hv hz hv0 hX hY hx hy hs hA hQ e; grind -lia
end
@[reducible] noncomputable def force (m:Nat) (f:Nat→Bool):Bool:=Nat.rec (motive:=fun _=>Bool) (f 0) (fun m _=>f (Nat.succ m)) m
theorem force_eq (m:Nat) (f:Nat→Bool):force m f = f m:=by cases m <;> rfl
noncomputable def lad (n a x y k:Nat) (fin:Nat→Nat→Nat→Bool):Nat→Nat→Nat→Nat→Bool :=
  Nat.rec (motive:=fun _=>Nat→Nat→Nat→Bool) fin (fun i ih X Y Z =>
    force ((3*X*X+a*(Z*Z))%n) fun W=>force (2*Y*Z%n) fun S=>force (X*Y%n*S%n) fun B=>force (Y*S%n) fun E =>
    force (S*(W*W+4*(n-B))%n) fun X1=>force ((W*(6*B+(n-W)*W)+2*(n-E)*E)%n) fun Y1=>force (S*S%n*S%n) fun Z1 =>
    Bool.rec (ih X1 Y1 Z1) (
      force ((y*Z1+(n-Y1))%n) fun u=>force ((x*Z1+(n-X1))%n) fun v=>force (v*v%n) fun vv=>force (vv*v%n) fun v3 =>
      force (vv*X1%n) fun R=>force ((u*u%n*Z1+(n-v3)+2*(n-R))%n) fun A =>
      force (v*A%n) fun X2=>force ((u*(R+(n-A))+(n-v3)*Y1)%n) fun Y2=>force (v3*Z1%n) fun Z2=>ih X2 Y2 Z2)
      (Nat.testBit k i))
theorem lad_unf (n a x y k : Nat) (fin : Nat → Nat → Nat → Bool) (i X Y Z : Nat) : lad n a x y k fin (i + 1) X Y Z =
    force ((3*X*X+a*(Z*Z))%n) fun W=>force (2*Y*Z%n) fun S=>force (X*Y%n*S%n) fun B=>force (Y*S%n) fun E =>
    force (S*(W*W+4*(n-B))%n) fun X1=>force ((W*(6*B+(n-W)*W)+2*(n-E)*E)%n) fun Y1=>force (S*S%n*S%n) fun Z1 =>
    Bool.rec (lad n a x y k fin i X1 Y1 Z1) (
      force ((y*Z1+(n-Y1))%n) fun u=>force ((x*Z1+(n-X1))%n) fun v=>force (v*v%n) fun vv=>force (vv*v%n) fun v3 =>
      force (vv*X1%n) fun R=>force ((u*u%n*Z1+(n-v3)+2*(n-R))%n) fun A =>
      force (v*A%n) fun X2=>force ((u*(R+(n-A))+(n-v3)*Y1)%n) fun Y2=>force (v3*Z1%n) fun Z2=>lad n a x y k fin i X2 Y2 Z2)
      (Nat.testBit k i):=rfl
theorem lad_succ (n a x y k : Nat) (fin : Nat → Nat → Nat → Bool) (i X Y Z W S B E X1 Y1 Z1 u v vv v3 R A : Nat) (hW : W = (3 * X * X + a * (Z * Z)) % n) (hS : S = 2 * Y * Z % n) (hB : B = X * Y % n * S % n) (hE : E = Y * S % n)
    (hX1:X1 = S*(W*W+4*(n-B))%n) (hY1:Y1 = (W*(6*B+(n-W)*W)+2*(n-E)*E)%n) (hZ1:Z1 = S*S%n*S%n)
    (hu:u = (y*Z1+(n-Y1))%n) (hv:v = (x*Z1+(n-X1))%n) (hvv:vv = v*v%n) (hv3:v3 = vv*v%n) (hR:R = vv*X1%n) (hA:A = (u*u%n*Z1+(n-v3)+2*(n-R))%n) :
    lad n a x y k fin (i+1) X Y Z = if k.testBit i then lad n a x y k fin i (v*A%n) ((u*(R+(n-A))+(n-v3)*Y1)%n) (v3*Z1%n) else lad n a x y k fin i X1 Y1 Z1:=by
  subst hA hR hv3 hvv hv hu hZ1 hY1 hX1 hE hB hS hW
  rw [lad_unf]
  simp only [force_eq]
  cases k.testBit i <;> rfl
section
variable {p:Nat} [NeZero p]
theorem lad_spec {n a b x y k : Nat} {fin : Nat → Nat → Nat → Bool} (hn : 0 < n) : ∀ (i X Y Z : Nat), lad n a x y k fin i X Y Z = true → ∃ X' Y' Z', fin X' Y' Z' = true ∧
    ∀ (p:Nat) [NeZero p],p ∣ n→Crv (c p a) (c p b)→On (c p a) (c p b) (.aff (c p x) (c p y))→RZ (c p X) (c p Y) (c p Z) (pmul (c p a) (.aff (c p x) (c p y)) (k >>> i))→RZ (c p X') (c p Y') (c p Z') (pmul (c p a) (.aff (c p x) (c p y)) k)
  | 0,X,Y,Z,h=>⟨X,Y,Z,h,fun p _ _ _ _ hr=>by simpa using hr⟩
  | i+1,X,Y,Z,h=>by
    have hlt:∀ z,z%n≤n:=fun z=>Nat.le_of_lt (Nat.mod_lt _ hn)
    obtain ⟨W,hW⟩:∃ W,W = (3*X*X+a*(Z*Z))%n:=⟨_,rfl⟩
    obtain ⟨S,hS⟩:∃ S,S = 2*Y*Z%n:=⟨_,rfl⟩
    obtain ⟨B,hB⟩:∃ B,B = X*Y%n*S%n:=⟨_,rfl⟩
    obtain ⟨E,hE⟩:∃ E,E = Y*S%n:=⟨_,rfl⟩
    obtain ⟨X1,hX1⟩:∃ X1,X1 = S*(W*W+4*(n-B))%n:=⟨_,rfl⟩
    obtain ⟨Y1,hY1⟩:∃ Y1,Y1 = (W*(6*B+(n-W)*W)+2*(n-E)*E)%n:=⟨_,rfl⟩
    obtain ⟨Z1,hZ1⟩:∃ Z1,Z1 = S*S%n*S%n:=⟨_,rfl⟩
    obtain ⟨u,hu⟩:∃ u,u = (y*Z1+(n-Y1))%n:=⟨_,rfl⟩
    obtain ⟨v,hv⟩:∃ v,v = (x*Z1+(n-X1))%n:=⟨_,rfl⟩
    obtain ⟨vv,hvv⟩:∃ vv,vv = v*v%n:=⟨_,rfl⟩
    obtain ⟨v3,hv3⟩:∃ v3,v3 = vv*v%n:=⟨_,rfl⟩
    obtain ⟨R,hR⟩:∃ R,R = vv*X1%n:=⟨_,rfl⟩
    obtain ⟨A,hA⟩:∃ A,A = (u*u%n*Z1+(n-v3)+2*(n-R))%n:=⟨_,rfl⟩
    rw [lad_succ n a x y k fin i X Y Z W S B E X1 Y1 Z1 u v vv v3 R A hW hS hB hE hX1 hY1 hZ1 hu hv hvv hv3 hR hA] at h
    have key1 : ∀ (p : Nat) [NeZero p], p ∣ n → Crv (c p a) (c p b) → On (c p a) (c p b) (.aff (c p x) (c p y)) → RZ (c p X) (c p Y) (c p Z) (pmul (c p a) (.aff (c p x) (c p y)) (k >>> (i + 1))) →
        RZ (c p X1) (c p Y1) (c p Z1) (pmul (c p a) (.aff (c p x) (c p y)) (k >>> (i+1)+k >>> (i+1))):=by
      intro p _ hp hc hP hr
      rw [pmul_add hc hP]
      have h1:=RZ.dbl (W:=c p W) (S:=c p S) hc.fld (pmul_on hc.fld hP _) hr (by rw [hW,c_mod hp]; simp only [c_add,c_mul,c_three]) (by rw [hS,c_mod hp]; simp only [c_mul,c_two])
      have eB:c p B = c p X*c p Y*c p S:=by rw [hB,c_mod hp,c_mul,c_mod hp,c_mul]
      have eE:c p E = c p Y*c p S:=by rw [hE,c_mod hp,c_mul]
      have e1:c p X1 = c p S*(c p W*c p W-4*(c p X*c p Y*c p S)):=by
        rw [hX1,c_mod hp]; simp only [c_add,c_mul,c_four,c_sub hp (show B≤n by rw [hB]; exact hlt _),eB]
        clear h1 eB eE hr hP; grind -lia
      have e2:c p Y1 = c p W*(6*(c p X*c p Y*c p S)-c p W*c p W)-2*(c p Y*c p S)*(c p Y*c p S):=by
        rw [hY1,c_mod hp]; simp only [c_add,c_mul,c_six,c_two,c_sub hp (show W≤n by rw [hW]; exact hlt _),c_sub hp (show E≤n by rw [hE]; exact hlt _),eB,eE]
        clear h1 eB eE hr hP e1; grind -lia
      have e3:c p Z1 = c p S*c p S*c p S:=by rw [hZ1,c_mod hp,c_mul,c_mod hp,c_mul]
      rw [e1,e2,e3]
      exact h1
    have hsh:k >>> i = k >>> (i+1)+k >>> (i+1)+(if k.testBit i then 1 else 0):=by
      have e1:k >>> (i+1) = k >>> i/2:=by rw [Nat.shiftRight_add]; rfl
      have e2:k.testBit i = decide (k >>> i%2 = 1):=by rw [Nat.testBit_eq_decide_div_mod_eq,Nat.shiftRight_eq_div_pow]
      rw [e1,e2]
      generalize k >>> i = z
      have:=Nat.mod_two_eq_zero_or_one z
      have:=Nat.div_add_mod z 2
      by_cases hz:z%2 = 1
      · rw [if_pos (by rw [hz]; rfl)]; omega
      · rw [if_neg (by simp [hz])]; omega
    by_cases hb:k.testBit i = true
    · rw [if_pos hb] at h hsh
      obtain ⟨X',Y',Z',hf,hk⟩:=lad_spec hn i _ _ _ h
      refine ⟨X',Y',Z',hf,fun p _ hp hc hP hr=>hk p hp hc hP ?_⟩
      have h1:=key1 p hp hc hP hr
      rw [hsh,pmul_add hc hP,pmul_one hc.fld hP]
      have h2:=RZ.add (u:=c p u) (v:=c p v) hc.fld (pmul_on hc.fld hP _) hP h1 (by rw [hu,c_mod hp]; simp only [c_add,c_mul,c_sub hp (show Y1≤n by rw [hY1]; exact hlt _)]; clear h1 hr hP; grind -lia)
        (by rw [hv,c_mod hp]; simp only [c_add,c_mul,c_sub hp (show X1≤n by rw [hX1]; exact hlt _)]; clear h1 hr hP; grind -lia)
      have evv:c p vv = c p v*c p v:=by rw [hvv,c_mod hp,c_mul]
      have ev3:c p v3 = c p v*c p v*c p v:=by rw [hv3,c_mod hp,c_mul,evv]
      have eR:c p R = c p v*c p v*c p X1:=by rw [hR,c_mod hp,c_mul,evv]
      have eA:c p A = c p u*c p u*c p Z1-c p v*c p v*c p v-2*(c p v*c p v*c p X1):=by
        rw [hA,c_mod hp]; simp only [c_add,c_mul,c_mod hp,c_two,c_sub hp (show v3≤n by rw [hv3]; exact hlt _),c_sub hp (show R≤n by rw [hR]; exact hlt _),ev3,eR]
        clear h1 h2 hr hP evv ev3 eR; grind -lia
      have e1:c p (v*A%n) = c p v*(c p u*c p u*c p Z1-c p v*c p v*c p v-2*(c p v*c p v*c p X1)):=by rw [c_mod hp,c_mul,eA]
      have e2:c p ((u*(R+(n-A))+(n-v3)*Y1)%n) = c p u*(c p v*c p v*c p X1-(c p u*c p u*c p Z1-c p v*c p v*c p v-2*(c p v*c p v*c p X1)))-c p v*c p v*c p v*c p Y1:=by
        rw [c_mod hp]; simp only [c_add,c_mul,c_sub hp (show A≤n by rw [hA]; exact hlt _),c_sub hp (show v3≤n by rw [hv3]; exact hlt _),ev3,eR,eA]
        clear h1 h2 hr hP evv ev3 eR eA e1; grind -lia
      have e3:c p (v3*Z1%n) = c p v*c p v*c p v*c p Z1:=by rw [c_mod hp,c_mul,ev3]
      rw [e1,e2,e3]
      exact h2
    · rw [if_neg hb] at h hsh
      obtain ⟨X',Y',Z',hf,hk⟩:=lad_spec hn i _ _ _ h
      refine ⟨X',Y',Z',hf,fun p _ hp hc hP hr=>hk p hp hc hP ?_⟩
      rw [hsh,Nat.add_zero]
      exact key1 p hp hc hP hr
noncomputable def gkOK (n a b x y q l:Nat):Bool :=
  Nat.ble 2 n && Nat.beq (Nat.gcd 6 n) 1 && Nat.beq (Nat.gcd (4*(a*(a*a))+27*(b*b)) n) 1 && Nat.beq (y*y%n) ((x*x*x+a*x+b)%n) && Nat.ble (4*n+1) ((q-1)*(q-1)) && Nat.beq ((q-1) >>> l) 1 &&
    lad n a x y (q-1) (fun X Y Z=>Nat.beq (Nat.gcd Z n) 1 && Nat.beq (X%n) (x*Z%n) && Nat.beq ((Y+y*Z)%n) 0) l x y 1
theorem prime_of {n:Nat} (hn:1<n) (h:∀ p,Pr p→p ∣ n→n<p*p):Pr n:=by
  refine ⟨hn,fun d hd=>?_⟩
  refine Classical.byContradiction fun hne=>?_
  have hd0:d≠0:=fun e=>by rw [e] at hd; have:=Nat.eq_zero_of_zero_dvd hd; omega
  have hd2:2≤d:=by omega
  have least:∃ e,(2≤e∧e ∣ n)∧∀ f,2≤f→f ∣ n→e≤f:=by
    have main:∀ m e,e≤m→2≤e→e ∣ n→∃ e,(2≤e∧e ∣ n)∧∀ f,2≤f→f ∣ n→e≤f:=by
      intro m
      induction m with
      | zero=>intro e h1 h2; omega
      | succ m ih =>
        intro e h1 h2 h3
        by_cases hx:∃ f,2≤f∧f ∣ n∧f<e
        · obtain ⟨f,f1,f2,f3⟩:=hx
          exact ih f (by omega) f1 f2
        · exact ⟨e,⟨h2,h3⟩,fun f f1 f2=>Nat.le_of_not_lt fun f3=>hx ⟨f,f1,f2,f3⟩⟩
    exact main d d (Nat.le_refl _) hd2 hd
  obtain ⟨e,⟨e1,e2⟩,e3⟩:=least
  have hp:Pr e:=⟨e1,fun f hf=>by
    have hf0:f≠0:=fun z=>by rw [z] at hf; have:=Nat.eq_zero_of_zero_dvd hf; omega
    by_cases h1:f = 1
    · exact .inl h1
    · have h2:=e3 f (by omega) (Nat.dvd_trans hf e2)
      have h3:=Nat.le_of_dvd (by omega) hf
      exact .inr (by omega)⟩
  have h1:=h e hp e2
  obtain ⟨g,rfl⟩:=hd
  have hg2:2≤g:=by
    have:g≠0:=fun z=>by rw [z] at hn; omega
    have:g≠1:=fun z=>by rw [z] at hne; omega
    omega
  have h2:=e3 d hd2 (Nat.dvd_mul_right d g)
  have h3:=e3 g hg2 (Nat.dvd_mul_left g d)
  have:=Nat.mul_le_mul h2 h3
  omega
theorem crv_of {n a b p:Nat} [NeZero p] (hp:Pr p) (hd:p ∣ n) (h6:Nat.gcd 6 n = 1) (hg:Nat.gcd (4*(a*(a*a))+27*(b*b)) n = 1):Crv (c p a) (c p b):=by
  have no:∀ z,Nat.gcd z n = 1→¬ p ∣ z:=fun z hz hpz=>by
    have:=Nat.dvd_gcd hpz hd
    rw [hz] at this
    have:=Nat.le_of_dvd (by decide) this
    have:=hp.1
    omega
  have h2:p≠2:=fun e=>no 6 h6 (by rw [e]; decide)
  refine ⟨hp.fld h2,fun x hx h3=>no _ hg (c_zero_iff.1 ?_)⟩
  simp only [On] at hx
  have e4:c p (4*(a*(a*a))+27*(b*b)) = 4*(c p a*(c p a*c p a))+27*(c p b*c p b):=by simp only [c_add,c_mul]; rfl
  rw [e4]
  generalize c p a = A at *
  generalize c p b = B at *
  have hA:A = -(x*x+x*x+x*x):=eq_of_sub (lin1 (c1:=1) (by clear hx h3 e4; grind -lia) h3)
  subst hA
  have hB:B = x*x*x+x*x*x:=eq_of_sub (lin1 (c1:=-1) (by clear hx h3 e4; grind -lia) hx)
  subst hB
  clear hx h3 e4
  grind -lia
theorem beq_eq {i j:Nat} (h:Nat.beq i j = true):i = j:=Nat.eq_of_beq_eq_true h
theorem gk_mul {n a b x y q l:Nat} (h:gkOK n a b x y q l = true) (hn:0<n):∀ (p:Nat) [NeZero p],Pr p→p ∣ n→Crv (c p a) (c p b)∧On (c p a) (c p b) (.aff (c p x) (c p y))∧pmul (c p a) (.aff (c p x) (c p y)) q = .inf:=by
  intro p _ hp hd
  simp only [gkOK,Bool.and_eq_true] at h
  obtain ⟨⟨⟨⟨⟨⟨_,h1⟩,h2⟩,h3⟩,h4⟩,h5⟩,h6⟩:=h
  have hc:=crv_of hp hd (beq_eq h1) (beq_eq h2)
  have hP:On (c p a) (c p b) (.aff (c p x) (c p y)):=by
    have:=congrArg (c p) (beq_eq h3)
    rw [c_mod hd,c_mod hd] at this
    simp only [c_add,c_mul] at this
    exact sub_of_eq this
  refine ⟨hc,hP,?_⟩
  obtain ⟨X,Y,Z,hf,hk⟩:=lad_spec (b:=b) hn _ _ _ _ h6
  simp only [Bool.and_eq_true] at hf
  obtain ⟨⟨f1,f2⟩,f3⟩:=hf
  have hZ:c p Z≠0:=fun e=>by
    have h1:=Nat.dvd_gcd (c_zero_iff.1 e) hd
    rw [beq_eq f1] at h1
    have h2:=Nat.le_of_dvd (by decide) h1
    have h3:=hp.1
    omega
  have hr:=hk p hd hc hP (by
    rw [beq_eq h5,pmul_one hc.fld hP]
    intro _
    refine ⟨_,_,rfl,?_,?_⟩ <;> rw [c_one] <;> grind -lia)
  obtain ⟨x',y',e1,e2,e3⟩:=hr hZ
  have g2:=congrArg (c p) (beq_eq f2)
  rw [c_mod hd,c_mod hd,c_mul,e2] at g2
  have g3:=congrArg (c p) (beq_eq f3)
  rw [c_mod hd,c_add,c_mul,e3] at g3
  have hx:x' = c p x:=hc.fld.dom.cancel hZ (lin1 (c1:=1) (by clear g2 g3 e1 e2 e3 hZ hk hP; grind -lia) (sub_of_eq g2))
  have hy:y' = -c p y:=hc.fld.dom.cancel hZ (lin1 (c1:=1) (by clear g2 g3 e1 e2 e3 hZ hk hP hx; grind -lia) (show y'*c p Z+c p y*c p Z = 0 from g3))
  have hq:q = q-1+1:=by
    have:q≠0:=fun e=>by rw [e] at h5; simp at h5
    omega
  rw [hq]
  show padd (c p a) (pmul _ _ (q-1)) _ = _
  rw [e1,hx,hy]
  exact (padd_comm hc.fld (neg_on hP) hP).trans (padd_neg hc.fld hP)
theorem gk {n a b x y q l:Nat} (h:gkOK n a b x y q l = true) (hq:Pr q):Pr n:=by
  have h':=h
  simp only [gkOK,Bool.and_eq_true] at h'
  obtain ⟨⟨⟨⟨⟨⟨h0,h1⟩,h2⟩,h3⟩,h4⟩,h5⟩,h6⟩:=h'
  have h4:=Nb h4
  have hn2:=Nb h0
  · refine prime_of hn2 fun p hp hd=>?_
    have:NeZero p:=⟨by have:=hp.1; omega⟩
    obtain ⟨hc,hP,hm⟩:=gk_mul h (by omega) p hp hd
    have:=order_le hc hP hq (fun e=>by cases e) hm
    refine Nat.lt_of_not_le fun hle=>?_
    have h7:(q-1)*(q-1)≤(2*p)*(2*p):=Nat.mul_le_mul (by omega) (by omega)
    have h8:(2*p)*(2*p) = 4*(p*p):=by rw [Nat.mul_mul_mul_comm]
    omega
end
end Go.Proofs.YtnpeokiboiclfaaGreat.Grp
set_option linter.unusedVariables false
set_option linter.unusedSectionVars false
namespace Go.Proofs.YtnpeokiboiclfaaGreat.Grp
section
variable {p:Nat} [NeZero p]
def fpow (x:Fin p):Nat→Fin p
  | 0=>1
  | k+1=>fpow x k*x
theorem fpow_one (x:Fin p):fpow x 1 = x:=by show (1:Fin p)*x = x; grind -lia
theorem fpow_add (x:Fin p) (i:Nat):∀ j,fpow x (i+j) = fpow x i*fpow x j
  | 0=>by show fpow x i = fpow x i*1; grind -lia
  | j+1=>by
    show fpow x (i+j)*x = fpow x i*(fpow x j*x)
    rw [fpow_add x i j]; grind -lia
theorem fpow_mul (x:Fin p) (i:Nat):∀ j,fpow x (i*j) = fpow (fpow x i) j
  | 0=>rfl
  | j+1=>by
    rw [Nat.mul_succ,fpow_add,fpow_mul x i j]; rfl
theorem mul_fpow (x y:Fin p):∀ j,fpow (x*y) j = fpow x j*fpow y j
  | 0=>by show (1:Fin p) = 1*1; grind -lia
  | j+1=>by
    show fpow (x*y) j*(x*y) = fpow x j*x*(fpow y j*y)
    rw [mul_fpow x y j]; grind -lia
theorem c_pow (A:Nat):∀ E,c p (A^E) = fpow (c p A) E
  | 0=>rfl
  | E+1=>by rw [Nat.pow_succ,c_mul,c_pow A E]; rfl
def prodL:List (Fin p)→Fin p
  | []=>1
  | x :: l=>x*prodL l
theorem prodL_perm {l m:List (Fin p)} (h:l.Perm m):prodL l = prodL m:=by
  induction h with
  | nil=>rfl
  | cons x _ ih=>simp only [prodL,ih]
  | swap x y l=>simp only [prodL]; grind -lia
  | trans _ _ ih1 ih2=>exact ih1.trans ih2
theorem prodL_map (x:Fin p):∀ l:List (Fin p),prodL (l.map fun y=>x*y) = fpow x l.length*prodL l
  | []=>by show (1:Fin p) = 1*1; grind -lia
  | y :: l=>by
    show x*y*prodL (l.map fun y=>x*y) = fpow x l.length*x*(y*prodL l)
    rw [prodL_map x l]; grind -lia
theorem prodL_ne (hd:Dom p) (h1:(1:Fin p)≠0):∀ l:List (Fin p),(∀ x,x∈l→x≠0)→prodL l≠0
  | [],_=>h1
  | x :: l,h=>hd.mul (h x (.head _)) (prodL_ne hd h1 l fun y hy=>h y (.tail _ hy))
end
theorem one_ne {p:Nat} [NeZero p] (hp:2≤p):(1:Fin p)≠0:=fun e=>by
  have:=congrArg Fin.val e
  rw [Fin.val_zero] at this
  have h1:(1:Fin p).val = 1%p:=rfl
  rw [h1,Nat.mod_eq_of_lt (by omega)] at this
  cases this
theorem fermat {p:Nat} [NeZero p] (h:Fld p) (hp:2≤p) {x:Fin p} (hx:x≠0):fpow x (p-1) = 1:=by
  obtain ⟨k,rfl⟩:∃ k,p = k+1:=⟨p-1,by omega⟩
  have hd:=h.dom
  obtain ⟨xi,hxi⟩:=h.inv x hx
  have hU:∀ y:Fin (k+1),y∈(List.finRange k).map Fin.succ↔y≠0:=fun y=>by
    constructor
    · intro hy e
      obtain ⟨z,_,hz⟩:=List.mem_map.1 hy
      exact Fin.succ_ne_zero z (hz.trans e)
    · intro hy
      obtain ⟨z,hz⟩:∃ z:Fin k,z.succ = y:=⟨y.pred hy,Fin.succ_pred y hy⟩
      exact List.mem_map.2 ⟨z,List.mem_finRange z,hz⟩
  have hn:((List.finRange k).map Fin.succ).Nodup:=by
    have:=List.nodup_finRange (k+1)
    rw [List.finRange_succ] at this
    exact (List.nodup_cons.1 this).2
  have hcan:∀ y z:Fin (k+1),x*y = x*z→y = z:=fun y z e=>by
    have:(y-z)*x = 0:=lin1 (c1:=1) (by clear hU hn hxi e; grind -lia) (sub_of_eq e)
    exact hd.cancel hx this
  have hn2:(((List.finRange k).map Fin.succ).map fun y=>x*y).Nodup:=by
    rw [List.nodup_iff_pairwise_ne] at hn ⊢
    exact List.Pairwise.map _ (fun y z hne e=>hne (hcan y z e)) hn
  have hperm:(((List.finRange k).map Fin.succ).map fun y=>x*y).Perm ((List.finRange k).map Fin.succ):=by
    rw [List.perm_ext_iff_of_nodup hn2 hn]
    intro y
    rw [hU]
    constructor
    · intro hy e
      obtain ⟨z,hz,e2⟩:=List.mem_map.1 hy
      exact hd.mul hx ((hU z).1 hz) (e2.trans e)
    · intro hy
      refine List.mem_map.2 ⟨xi*y,(hU _).2 ?_,?_⟩
      · refine hd.mul (fun e=>?_) hy
        rw [e] at hxi
        exact one_ne hp (by rw [← hxi]; clear hU hn hcan hn2 hxi; grind -lia)
      · have:x*(xi*y) = x*xi*y:=by clear hU hn hcan hn2 hxi; grind -lia
        rw [this,hxi]; clear this hU hn hcan hn2 hxi; grind -lia
  have e:=prodL_perm hperm
  rw [prodL_map,List.length_map,List.length_finRange] at e
  have hP:=prodL_ne hd (one_ne hp) _ fun y hy=>(hU y).1 hy
  generalize prodL ((List.finRange k).map Fin.succ) = P at e hP
  rw [Nat.add_sub_cancel]
  exact hd.cancel hP (lin1 (c1:=1) (by clear hU hn hcan hn2 hperm hxi hP e; grind -lia) (sub_of_eq e))
theorem fermat' {p:Nat} [NeZero p] (h:Fld p) (hp:2≤p) (x:Fin p):fpow x p = x:=by
  by_cases hx:x = 0
  · obtain ⟨k,rfl⟩:∃ k,p = k+1:=⟨p-1,by omega⟩
    rw [hx]
    show fpow 0 k*0 = 0
    grind -lia
  · have e:=fermat h hp hx
    obtain ⟨k,rfl⟩:∃ k,p = k+1:=⟨p-1,by omega⟩
    show fpow x k*x = x
    rw [Nat.add_sub_cancel] at e
    rw [e]; clear e hx; grind -lia
end Go.Proofs.YtnpeokiboiclfaaGreat.Grp
set_option linter.unusedVariables false
set_option linter.unusedSectionVars false
namespace Go.Proofs.YtnpeokiboiclfaaGreat.Grp
noncomputable def lad3 (p a b k:Nat) (fin:Nat→Nat→Nat→Bool):Nat→Nat→Nat→Nat→Bool :=
  Nat.rec (motive:=fun _=>Nat→Nat→Nat→Bool) fin (fun i ih A B C =>
    force (A*A%p) fun AA=>force (A*B%p) fun AB =>
    force ((B*B+2*A*C+a*(p-AA))%p) fun A1=>force ((2*B*C+b*(p-AA)+2*a*(p-AB))%p) fun B1=>force ((C*C+2*b*(p-AB))%p) fun C1 =>
    Bool.rec (ih A1 B1 C1) (force ((C1+a*(p-A1))%p) fun B2=>force (b*(p-A1)%p) fun C2=>ih B1 B2 C2) (Nat.testBit k i))
theorem lad3_unf (p a b k : Nat) (fin : Nat → Nat → Nat → Bool) (i A B C : Nat) : lad3 p a b k fin (i + 1) A B C =
    force (A*A%p) fun AA=>force (A*B%p) fun AB =>
    force ((B*B+2*A*C+a*(p-AA))%p) fun A1=>force ((2*B*C+b*(p-AA)+2*a*(p-AB))%p) fun B1=>force ((C*C+2*b*(p-AB))%p) fun C1 =>
    Bool.rec (lad3 p a b k fin i A1 B1 C1) (force ((C1+a*(p-A1))%p) fun B2=>force (b*(p-A1)%p) fun C2=>lad3 p a b k fin i B1 B2 C2) (Nat.testBit k i):=rfl
theorem lad3_succ (p a b k : Nat) (fin : Nat → Nat → Nat → Bool) (i A B C AA AB A1 B1 C1 : Nat) (hAA : AA = A * A % p) (hAB : AB = A * B % p) (hA1 : A1 = (B * B + 2 * A * C + a * (p - AA)) % p) (hB1 : B1 = (2 * B * C + b * (p - AA) + 2 * a * (p - AB)) % p) (hC1 : C1 = (C * C + 2 * b * (p - AB)) % p) :
    lad3 p a b k fin (i+1) A B C = if k.testBit i then lad3 p a b k fin i B1 ((C1+a*(p-A1))%p) (b*(p-A1)%p) else lad3 p a b k fin i A1 B1 C1:=by
  subst hC1 hB1 hA1 hAB hAA
  rw [lad3_unf]
  simp only [force_eq]
  cases k.testBit i <;> rfl
theorem shift_bit (k i:Nat):k >>> i = k >>> (i+1)+k >>> (i+1)+(if k.testBit i then 1 else 0):=by
  have e1:k >>> (i+1) = k >>> i/2:=by rw [Nat.shiftRight_add]; rfl
  have e2:k.testBit i = decide (k >>> i%2 = 1):=by rw [Nat.testBit_eq_decide_div_mod_eq,Nat.shiftRight_eq_div_pow]
  rw [e1,e2]
  generalize k >>> i = z
  have:=Nat.mod_two_eq_zero_or_one z
  have:=Nat.div_add_mod z 2
  by_cases hz:z%2 = 1
  · rw [if_pos (by rw [hz]; rfl)]; omega
  · rw [if_neg (by simp [hz])]; omega
section
variable {p:Nat} [NeZero p]
theorem lad3_spec {a b k : Nat} {fin : Nat → Nat → Nat → Bool} (hp : 0 < p) {r : Fin p} (hr : r * r * r + c p a * r + c p b = 0) : ∀ (i A B C : Nat), lad3 p a b k fin i A B C = true → c p A * (r * r) + c p B * r + c p C = fpow r (k >>> i) →
    ∃ A' B' C',fin A' B' C' = true∧c p A'*(r*r)+c p B'*r+c p C' = fpow r k
  | 0,A,B,C,h,e=>⟨A,B,C,h,by simpa using e⟩
  | i+1,A,B,C,h,e=>by
    have hlt:∀ z,z%p≤p:=fun z=>Nat.le_of_lt (Nat.mod_lt _ hp)
    have hd:p ∣ p:=Nat.dvd_refl p
    obtain ⟨AA,hAA⟩:∃ z,z = A*A%p:=⟨_,rfl⟩
    obtain ⟨AB,hAB⟩:∃ z,z = A*B%p:=⟨_,rfl⟩
    obtain ⟨A1,hA1⟩:∃ z,z = (B*B+2*A*C+a*(p-AA))%p:=⟨_,rfl⟩
    obtain ⟨B1,hB1⟩:∃ z,z = (2*B*C+b*(p-AA)+2*a*(p-AB))%p:=⟨_,rfl⟩
    obtain ⟨C1,hC1⟩:∃ z,z = (C*C+2*b*(p-AB))%p:=⟨_,rfl⟩
    rw [lad3_succ p a b k fin i A B C AA AB A1 B1 C1 hAA hAB hA1 hB1 hC1] at h
    have eAA:c p AA = c p A*c p A:=by rw [hAA,c_mod hd,c_mul]
    have eAB:c p AB = c p A*c p B:=by rw [hAB,c_mod hd,c_mul]
    have eA1:c p A1 = c p B*c p B+2*c p A*c p C-c p a*(c p A*c p A):=by
      rw [hA1,c_mod hd]; simp only [c_add,c_mul,c_two,c_sub hd (show AA≤p by rw [hAA]; exact hlt _),eAA]
      clear eAA eAB hr e; grind -lia
    have eB1:c p B1 = 2*c p B*c p C-c p b*(c p A*c p A)-2*c p a*(c p A*c p B):=by
      rw [hB1,c_mod hd]; simp only [c_add,c_mul,c_two,c_sub hd (show AA≤p by rw [hAA]; exact hlt _),c_sub hd (show AB≤p by rw [hAB]; exact hlt _),eAA,eAB]
      clear eAA eAB hr e eA1; grind -lia
    have eC1:c p C1 = c p C*c p C-2*c p b*(c p A*c p B):=by
      rw [hC1,c_mod hd]; simp only [c_add,c_mul,c_two,c_sub hd (show AB≤p by rw [hAB]; exact hlt _),eAB]
      clear eAA eAB hr e eA1 eB1; grind -lia
    have key:c p A1*(r*r)+c p B1*r+c p C1 = fpow r (k >>> (i+1)+k >>> (i+1)):=by
      rw [fpow_add,← e,eA1,eB1,eC1]
      clear eAA eAB e eA1 eB1 eC1 h
      refine eq_of_sub (lin1 (c1:=-(c p A*c p A*r+2*c p A*c p B)) ?_ hr)
      clear hr; grind -lia
    have hsh:=shift_bit k i
    by_cases hb:k.testBit i = true
    · rw [if_pos hb] at h hsh
      refine lad3_spec hp hr i _ _ _ h ?_
      rw [hsh,fpow_add,← key,fpow_one,c_mod hd,c_mod hd,c_add,c_mul,c_mul,c_sub hd (show A1≤p by rw [hA1]; exact hlt _)]
      generalize c p A1 = A1' at *
      generalize c p B1 = B1' at *
      generalize c p C1 = C1' at *
      clear eAA eAB e eA1 eB1 eC1 h key
      refine eq_of_sub (lin1 (c1:=-A1') ?_ hr)
      clear hr; grind -lia
    · rw [if_neg hb] at h hsh
      rw [Nat.add_zero] at hsh
      exact lad3_spec hp hr i _ _ _ h (by rw [hsh]; exact key)
noncomputable def rootOK (p a b l u1 u0 v2 v1 v0:Nat):Bool:=Nat.beq (p >>> l) 1 &&
  lad3 p a b p (fun A B C=>Nat.beq ((u1+v2*A)%p) 0 && Nat.beq ((u0+v2*(B+(p-1))+v1*A)%p) 0 && Nat.beq ((u1*a+v2*C+v1*(B+(p-1))+v0*A)%p) 0 &&
    Nat.beq ((u1*b+u0*a+v1*C+v0*(B+(p-1)))%p) 0 && Nat.beq ((u0*b+v0*C)%p) 1) l 0 1 0
theorem noroot {a b l u1 u0 v2 v1 v0:Nat} (h:Fld p) (hp:2≤p) (hok:rootOK p a b l u1 u0 v2 v1 v0 = true) (x:Fin p):¬ On (c p a) (c p b) (.aff x 0):=by
  intro hx
  simp only [On] at hx
  have hr:x*x*x+c p a*x+c p b = 0:=lin1 (c1:=-1) (by clear hx; grind -lia) hx
  simp only [rootOK,Bool.and_eq_true] at hok
  obtain ⟨h1,h2⟩:=hok
  obtain ⟨A,B,C,hf,e⟩:=lad3_spec (by omega) hr _ _ _ _ h2 (by
    rw [beq_eq h1,fpow_one,c_one]
    have:c p 0 = 0:=c_zero_iff.2 (Nat.dvd_zero p)
    rw [this]; clear hx hr; grind -lia)
  rw [fermat' h hp] at e
  simp only [Bool.and_eq_true] at hf
  obtain ⟨⟨⟨⟨f1,f2⟩,f3⟩,f4⟩,f5⟩:=hf
  have hd:p ∣ p:=Nat.dvd_refl p
  have z:c p 0 = 0:=c_zero_iff.2 (Nat.dvd_zero p)
  have g1:=congrArg (c p) (beq_eq f1)
  have g2:=congrArg (c p) (beq_eq f2)
  have g3:=congrArg (c p) (beq_eq f3)
  have g4:=congrArg (c p) (beq_eq f4)
  have g5:=congrArg (c p) (beq_eq f5)
  rw [c_mod hd] at g1 g2 g3 g4 g5
  simp only [c_add,c_mul,c_sub hd (show 1≤p by omega),c_one,z] at g1 g2 g3 g4 g5
  generalize c p A = A' at *
  generalize c p B = B' at *
  generalize c p C = C' at *
  generalize c p u1 = U1 at *
  generalize c p u0 = U0 at *
  generalize c p v2 = V2 at *
  generalize c p v1 = V1 at *
  generalize c p v0 = V0 at *
  generalize c p a = a' at *
  generalize c p b = b' at *
  clear h1 h2 f1 f2 f3 f4 f5 hx
  apply one_ne hp
  have s1:=lin4 (c1:=x*x*x*x) (c2:=x*x*x) (c3:=x*x) (c4:=x) rfl g1 g2 g3 g4
  have s2:=lin2 (c1:=U1*x+U0) (c2:=V2*(x*x)+V1*x+V0) rfl hr (sub_of_eq e)
  have s3:=sub_of_eq g5
  refine lin3 (c1:=1) (c2:=-1) (c3:=-1) ?_ s2 s1 s3
  clear s1 s2 s3 g1 g2 g3 g4 g5 e hr z
  grind -lia
end
end Go.Proofs.YtnpeokiboiclfaaGreat.Grp
