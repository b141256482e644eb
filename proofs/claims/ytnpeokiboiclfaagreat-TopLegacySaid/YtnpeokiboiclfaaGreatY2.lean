/- Part 2 of what the proof leans on: a symbolic execution of the model, walks of the program's functions, and the mathematics. No condition. -/
import Derived.WalkKit
import Derived.Orders
import Derived.Laws.StructEq
import Derived.WalkSpells
import Derived.OrdersHeld
import Derived.KernelRfl
import Derived.Laws.Externs
import Derived.Laws.Bits64
import Derived.Laws.MakeOwn
import Derived.Laws.BytesString
import Derived.Carry
import Derived.WideShapes
import GoSem.Claim
import Derived.Test.YtnpeokiboiclfaaGreatProg
import Derived.Deep.Upon
import Derived.Shelf.Strings.Repeat
import Derived.Ground.NamesProg
import Derived.Lib.Agree
import Derived.Shelf.Strings.Builder1
import Derived.Laws.AppendOwn
import Derived.Lib.ConvBytes
import Derived.Laws.CopyRow
import Derived.MapKept
import Derived.Test.YtnpeokiboiclfaaGreatRows
import Derived.ProofKit
import Derived.OpenShut
import Derived.SizedLaws
import Derived.ChangeMaps5
import Derived.Test.YtnpeokiboiclfaaGreatY1
namespace Go.Proofs.YtnpeokiboiclfaaGreat
open Go Go.RowKit
theorem sz_3:szOf Tryz.prog 3 = some 1:=kr
theorem inf_3:infOf Tryz.prog 3 = some (Value.int .i64 ((0:Nat):Int),1,8):=kr
theorem sz_4:szOf Tryz.prog 4 = some 1:=kr
theorem sz_5:szOf Tryz.prog 5 = some 1:=kr
theorem inf_5:infOf Tryz.prog 5 = some (Value.int .u8 ((0:Nat):Int),1,1):=kr
theorem sz_9:szOf Tryz.prog 9 = some 1:=kr
theorem inf_9:infOf Tryz.prog 9 = some (Value.string ⟨#[]⟩,1,16):=kr
theorem sz_24:szOf Tryz.prog 24 = some 1:=kr
theorem sz_30:szOf Tryz.prog 30 = some 1:=kr
theorem sz_31:szOf Tryz.prog 31 = some 9:=kr
theorem pl_31:plc Tryz.prog 31 = some ((List.range 9).map fun i=>(i*1,1)):=kr
theorem zr_31:zrOf Tryz.prog 31 = some (.agg (vec .u64 9 (fun _=>0)).toArray):=kr
theorem sz_33:szOf Tryz.prog 33 = some 9:=kr
theorem pl_33:plc Tryz.prog 33 = some [(0,9)]:=kr
theorem zr_33:zrOf Tryz.prog 33 = some (.agg (vec .u64 9 (fun _=>0)).toArray):=kr
theorem sz_37:szOf Tryz.prog 37 = some 18:=kr
theorem pl_37:plc Tryz.prog 37 = some [(0,9),(9,9)]:=kr
theorem zr_37:zrOf Tryz.prog 37 = some (.agg (vec .u64 9 (fun _=>0)++(vec .u64 9 (fun _=>0))).toArray):=kr
theorem sz_47:szOf Tryz.prog 47 = some 19:=kr
theorem pl_47:plc Tryz.prog 47 = some [(0,9),(9,9),(18,1)]:=kr
theorem zr_47:zrOf Tryz.prog 47 = some (.agg (vec .u64 9 (fun _=>0)++(vec .u64 9 (fun _=>0)++([Value.bool false]))).toArray):=kr
theorem sz_53:szOf Tryz.prog 53 = some 59:=kr
theorem zr_53:zrOf Tryz.prog 53 = some (.agg ([Value.int .i64 ((0:Nat):Int)]++(vec .u64 9 (fun _=>0)++(vec .u64 9 (fun _=>0)++(vec .u64 9 (fun _=>0)++(vec .u64 9 (fun _=>0)++(vec .u64 9 (fun _=>0)++(vec .u64 9 (fun _=>0)++([Value.bool false,Value.int .i64 ((0:Nat):Int),Value.int .i64 ((0:Nat):Int),Value.bool false])))))))).toArray):=kr
theorem sz_65:szOf Tryz.prog 65 = some 4:=kr
theorem pl_65:plc Tryz.prog 65 = some [(0,1),(1,1),(2,1),(3,1)]:=kr
theorem zr_65:zrOf Tryz.prog 65 = some (.agg ([Value.int .i64 ((0:Nat):Int),Value.string ⟨#[]⟩,Value.int .i64 ((0:Nat):Int),Value.bool false]).toArray):=kr
theorem pl_68:plc Tryz.prog 68 = some [(0,1),(1,1),(2,1),(3,1),(4,1),(5,1),(6,1),(7,1)]:=kr
theorem zr_68:zrOf Tryz.prog 68 = some (.agg ([Value.int .i64 ((0:Nat):Int),Value.int .i64 ((0:Nat):Int),Value.int .i64 ((0:Nat):Int),Value.int .i64 ((0:Nat):Int),Value.int .i64 ((0:Nat):Int),Value.string ⟨#[]⟩,Value.string ⟨#[]⟩,Value.string ⟨#[]⟩]).toArray):=kr
theorem sz_70:szOf Tryz.prog 70 = some 1:=kr
theorem pl_79:plc Tryz.prog 79 = some [(0,1),(1,1),(2,1),(3,1)]:=kr
theorem zr_79:zrOf Tryz.prog 79 = some (.agg ([Value.int .i64 ((0:Nat):Int),Value.string ⟨#[]⟩,Value.string ⟨#[]⟩,Value.int .i64 ((0:Nat):Int)]).toArray):=kr
theorem sz_81:szOf Tryz.prog 81 = some 1:=kr
theorem sz_88:szOf Tryz.prog 88 = some 1:=kr
theorem sz_90:szOf Tryz.prog 90 = some 2:=kr
theorem pl_90:plc Tryz.prog 90 = some [(0,1),(1,1)]:=kr
theorem zr_90:zrOf Tryz.prog 90 = some (.agg ([Value.pointer none,Value.pointer none]).toArray):=kr
theorem sz_98:szOf Tryz.prog 98 = some 1:=kr
theorem pl_100:plc Tryz.prog 100 = some [(0,59),(59,1),(60,9)]:=kr
theorem zr_100:zrOf Tryz.prog 100 = some (.agg ([Value.int .i64 ((0:Nat):Int)]++(vec .u64 9 (fun _=>0)++(vec .u64 9 (fun _=>0)++(vec .u64 9 (fun _=>0)++(vec .u64 9 (fun _=>0)++(vec .u64 9 (fun _=>0)++(vec .u64 9 (fun _=>0)++([Value.bool false,Value.int .i64 ((0:Nat):Int),Value.int .i64 ((0:Nat):Int),Value.bool false,Value.pointer none]++(vec .u64 9 (fun _=>0)))))))))).toArray):=kr
theorem sz_121:szOf Tryz.prog 121 = some 1:=kr
theorem sz_122:szOf Tryz.prog 122 = some 1:=kr
theorem pl_124:plc Tryz.prog 124 = some [(0,1),(1,1),(2,1),(3,1),(4,1)]:=kr
theorem zr_124:zrOf Tryz.prog 124 = some (.agg ([Value.int .i64 ((0:Nat):Int),Value.pointer none,Value.slice none 0 0,Value.map none,Value.pointer none]).toArray):=kr
theorem sz_126:szOf Tryz.prog 126 = some 1:=kr
theorem inf_126:infOf Tryz.prog 126 = some (Value.nilFunc,1,8):=kr
theorem sz_132:szOf Tryz.prog 132 = some 1:=kr
theorem pl_132:plc Tryz.prog 132 = some [(0,1)]:=kr
theorem zr_132:zrOf Tryz.prog 132 = some (.agg ([Value.pointer none]).toArray):=kr
theorem KAN:szOf Tryz.prog 135 = some 27:=kr
theorem pl_135:plc Tryz.prog 135 = some [(0,9),(9,9),(18,9)]:=kr
theorem KDO:zrOf Tryz.prog 135 = some (.agg (vec .u64 9 (fun _=>0)++(vec .u64 9 (fun _=>0)++(vec .u64 9 (fun _=>0)))).toArray):=kr
theorem sz_140:szOf Tryz.prog 140 = some 3:=kr
theorem pl_140:plc Tryz.prog 140 = some [(0,1),(1,1),(2,1)]:=kr
theorem zr_140:zrOf Tryz.prog 140 = some (.agg ([Value.int .i64 ((0:Nat):Int),Value.int .i64 ((0:Nat):Int),Value.int .i64 ((0:Nat):Int)]).toArray):=kr
theorem zr_149:zrOf Tryz.prog 149 = some (.agg ([Value.pointer none,Value.slice none 0 0]).toArray):=kr
theorem sz_155:szOf Tryz.prog 155 = some 1:=kr
theorem sz_159:szOf Tryz.prog 159 = some 5:=kr
theorem pl_159:plc Tryz.prog 159 = some [(0,1),(1,1),(2,1),(3,1),(4,1)]:=kr
theorem zr_159:zrOf Tryz.prog 159 = some (.agg ([Value.string ⟨#[]⟩,Value.string ⟨#[]⟩,Value.string ⟨#[]⟩,Value.string ⟨#[]⟩,Value.string ⟨#[]⟩]).toArray):=kr
theorem sz_161:szOf Tryz.prog 161 = some 1:=kr
theorem KBo:szOf Tryz.prog 163 = some 1:=kr
theorem pl_163:plc Tryz.prog 163 = some [(0,1)]:=kr
theorem zr_163:zrOf Tryz.prog 163 = some (.agg ([Value.pointer none]).toArray):=kr
theorem pl_165:plc Tryz.prog 165 = some [(0,9),(9,1)]:=kr
theorem zr_165:zrOf Tryz.prog 165 = some (.agg (vec .u64 9 (fun _=>0)++([Value.pointer none])).toArray):=kr
theorem sz_183:szOf Tryz.prog 183 = some 108:=kr
theorem pl_183:plc Tryz.prog 183 = some ((List.range 4).map fun i=>(i*27,27)):=kr
theorem zr_183:zrOf Tryz.prog 183 = some (.agg (vec .u64 9 (fun _=>0)++(vec .u64 9 (fun _=>0)++(vec .u64 9 (fun _=>0)++(vec .u64 9 (fun _=>0)++(vec .u64 9 (fun _=>0)++(vec .u64 9 (fun _=>0)++(vec .u64 9 (fun _=>0)++(vec .u64 9 (fun _=>0)++(vec .u64 9 (fun _=>0)++(vec .u64 9 (fun _=>0)++(vec .u64 9 (fun _=>0)++(vec .u64 9 (fun _=>0))))))))))))).toArray):=kr
theorem KAi:szOf Tryz.prog 188 = some 1:=kr
theorem pl_201:plc Tryz.prog 201 = some [(0,9),(9,1),(10,1),(11,9)]:=kr
theorem zr_201:zrOf Tryz.prog 201 = some (.agg (vec .u64 9 (fun _=>0)++([Value.int .i64 ((0:Nat):Int),Value.int .u64 ((0:Nat):Int)]++(vec .u64 9 (fun _=>0)))).toArray):=kr
theorem sz_202:szOf Tryz.prog 202 = some 18:=kr
theorem KDV:szOf Tryz.prog 204 = some 18:=kr
theorem zr_204:zrOf Tryz.prog 204 = some (.agg (vec .u64 18 (fun _=>0)).toArray):=kr
theorem sz_207:szOf Tryz.prog 207 = some 1:=kr
theorem sz_218:szOf Tryz.prog 218 = some 1:=kr
theorem pl_220:plc Tryz.prog 220 = some [(0,1)]:=kr
theorem zr_220:zrOf Tryz.prog 220 = some (.agg ([Value.slice none 0 0]).toArray):=kr
theorem sz_222:szOf Tryz.prog 222 = some 1:=kr
theorem pl_224:plc Tryz.prog 224 = some [(0,1)]:=kr
theorem zr_224:zrOf Tryz.prog 224 = some (.agg ([Value.slice none 0 0]).toArray):=kr
theorem sz_251:szOf Tryz.prog 251 = some 1:=kr
theorem sz_252:szOf Tryz.prog 252 = some 1:=kr
theorem pl_254:plc Tryz.prog 254 = some [(0,1),(1,1)]:=kr
theorem zr_254:zrOf Tryz.prog 254 = some (.agg ([Value.nilFunc,Value.nilFunc]).toArray):=kr
theorem pl_269:plc Tryz.prog 269 = some [(0,9),(9,1),(10,1)]:=kr
theorem zr_269:zrOf Tryz.prog 269 = some (.agg (vec .u64 9 (fun _=>0)++([Value.int .i64 ((0:Nat):Int),Value.int .i64 ((0:Nat):Int)])).toArray):=kr
theorem zr_270:zrOf Tryz.prog 270 = some (.agg (vec .u64 19 (fun _=>0)).toArray):=kr
theorem zr_279:zrOf Tryz.prog 279 = some (.agg (vec .u64 11 (fun _=>0)).toArray):=kr
theorem sz_288:szOf Tryz.prog 288 = some 3:=kr
theorem pl_288:plc Tryz.prog 288 = some [(0,1),(1,1),(2,1)]:=kr
theorem zr_288:zrOf Tryz.prog 288 = some (.agg ([Value.int .i64 ((0:Nat):Int),Value.nilFunc,Value.string ⟨#[]⟩]).toArray):=kr
theorem pl_295:plc Tryz.prog 295 = some [(0,1),(1,1),(2,1)]:=kr
theorem zr_295:zrOf Tryz.prog 295 = some (.agg ([Value.int .i64 ((0:Nat):Int),Value.string ⟨#[]⟩,Value.pointer none]).toArray):=kr
theorem KCv:szOf Tryz.prog 296 = some 8:=kr
theorem pl_296:plc Tryz.prog 296 = some ((List.range 8).map fun i=>(i*1,1)):=kr
theorem zr_296:zrOf Tryz.prog 296 = some (.agg (vec .u32 8 (fun _=>0)).toArray):=kr
theorem sz_299:szOf Tryz.prog 299 = some 64:=kr
theorem pl_299:plc Tryz.prog 299 = some ((List.range 64).map fun i=>(i*1,1)):=kr
theorem zr_299:zrOf Tryz.prog 299 = some (.agg (vec .u32 64 (fun _=>0)).toArray):=kr
theorem sz_302:szOf Tryz.prog 302 = some 75:=kr
theorem pl_302:plc Tryz.prog 302 = some [(0,1),(1,8),(9,64),(73,1),(74,1)]:=kr
theorem zr_302:zrOf Tryz.prog 302 = some (.agg ([Value.int .i64 ((0:Nat):Int)]++(vec .u32 8 (fun _=>0)++(vec .u32 64 (fun _=>0)++([Value.slice none 0 0,Value.int .u64 ((0:Nat):Int)])))).toArray):=kr
theorem KCu:szOf Tryz.prog 305 = some 8:=kr
theorem pl_305:plc Tryz.prog 305 = some ((List.range 8).map fun i=>(i*1,1)):=kr
theorem zr_305:zrOf Tryz.prog 305 = some (.agg (vec .u64 8 (fun _=>0)).toArray):=kr
theorem sz_308:szOf Tryz.prog 308 = some 80:=kr
theorem pl_308:plc Tryz.prog 308 = some ((List.range 80).map fun i=>(i*1,1)):=kr
theorem zr_308:zrOf Tryz.prog 308 = some (.agg (vec .u64 80 (fun _=>0)).toArray):=kr
theorem sz_311:szOf Tryz.prog 311 = some 91:=kr
theorem pl_311:plc Tryz.prog 311 = some [(0,1),(1,8),(9,80),(89,1),(90,1)]:=kr
theorem zr_311:zrOf Tryz.prog 311 = some (.agg ([Value.int .i64 ((0:Nat):Int)]++(vec .u64 8 (fun _=>0)++(vec .u64 80 (fun _=>0)++([Value.slice none 0 0,Value.int .u64 ((0:Nat):Int)])))).toArray):=kr
theorem pl_313:plc Tryz.prog 313 = some [(0,1),(1,1)]:=kr
theorem zr_313:zrOf Tryz.prog 313 = some (.agg ([Value.int .i64 ((0:Nat):Int),Value.int .i64 ((0:Nat):Int)]).toArray):=kr
theorem pl_317:plc Tryz.prog 317 = some [(0,1)]:=kr
theorem zr_317:zrOf Tryz.prog 317 = some (.agg ([Value.int .u64 ((0:Nat):Int)]).toArray):=kr
theorem sz_320:szOf Tryz.prog 320 = some 0:=kr
theorem zr_320:zrOf Tryz.prog 320 = some (.agg ([]).toArray):=kr
theorem en_9:KY Tryz.prog 9:=enF Tryz.func9
theorem en_11:KY Tryz.prog 11:=enF Tryz.func11
theorem en_12:KY Tryz.prog 12:=enF Tryz.func12
theorem en_13:KY Tryz.prog 13:=enF Tryz.func13
theorem en_15:KY Tryz.prog 15:=enF Tryz.func15
theorem en_16:KY Tryz.prog 16:=enF Tryz.func16
theorem en_17:KY Tryz.prog 17:=enF Tryz.func17
theorem en_20:KY Tryz.prog 20:=enF Tryz.func20
theorem en_21:KY Tryz.prog 21:=enF Tryz.func21
theorem en_22:KY Tryz.prog 22:=enF Tryz.func22
theorem en_23:KY Tryz.prog 23:=enF Tryz.func23
theorem en_24:KY Tryz.prog 24:=enF Tryz.func24
theorem en_25:KY Tryz.prog 25:=enF Tryz.func25
theorem en_26:KY Tryz.prog 26:=enF Tryz.func26
theorem en_27:KY Tryz.prog 27:=enF Tryz.func27
theorem en_28:KY Tryz.prog 28:=enF Tryz.func28
theorem en_29:KY Tryz.prog 29:=enF Tryz.func29
theorem en_30:KY Tryz.prog 30:=enF Tryz.func30
theorem en_31:KY Tryz.prog 31:=enF Tryz.func31
theorem en_32:KY Tryz.prog 32:=enF Tryz.func32
theorem en_33:KY Tryz.prog 33:=enF Tryz.func33
theorem en_34:KY Tryz.prog 34:=enF Tryz.func34
theorem en_35:KY Tryz.prog 35:=enF Tryz.func35
theorem en_36:KY Tryz.prog 36:=enF Tryz.func36
theorem en_37:KY Tryz.prog 37:=enF Tryz.func37
theorem en_38:KY Tryz.prog 38:=enF Tryz.func38
theorem en_39:KY Tryz.prog 39:=enF Tryz.func39
theorem en_40:KY Tryz.prog 40:=enF Tryz.func40
theorem en_41:KY Tryz.prog 41:=enF Tryz.func41
theorem en_42:KY Tryz.prog 42:=enF Tryz.func42
theorem en_43:KY Tryz.prog 43:=enF Tryz.func43
theorem en_44:KY Tryz.prog 44:=enF Tryz.func44
theorem en_45:KY Tryz.prog 45:=enF Tryz.func45
theorem en_46:KY Tryz.prog 46:=enF Tryz.func46
theorem en_47:KY Tryz.prog 47:=enF Tryz.func47
theorem en_48:KY Tryz.prog 48:=enF Tryz.func48
theorem en_49:KY Tryz.prog 49:=enF Tryz.func49
theorem en_54:KY Tryz.prog 54:=enF Tryz.func54
theorem en_55:KY Tryz.prog 55:=enF Tryz.func55
theorem en_56:KY Tryz.prog 56:=enF Tryz.func56
theorem en_57:KY Tryz.prog 57:=enF Tryz.func57
theorem en_58:KY Tryz.prog 58:=enF Tryz.func58
theorem en_59:KY Tryz.prog 59:=enF Tryz.func59
theorem en_60:KY Tryz.prog 60:=enF Tryz.func60
theorem en_61:KY Tryz.prog 61:=enF Tryz.func61
theorem en_62:KY Tryz.prog 62:=enF Tryz.func62
theorem en_63:KY Tryz.prog 63:=enF Tryz.func63
theorem en_64:KY Tryz.prog 64:=enF Tryz.func64
theorem en_65:KY Tryz.prog 65:=enF Tryz.func65
theorem en_66:KY Tryz.prog 66:=enF Tryz.func66
theorem en_67:KY Tryz.prog 67:=enF Tryz.func67
theorem en_68:KY Tryz.prog 68:=enF Tryz.func68
theorem en_74:KY Tryz.prog 74:=enF Tryz.func74
theorem en_75:KY Tryz.prog 75:=enF Tryz.func75
theorem en_76:KY Tryz.prog 76:=enF Tryz.func76
theorem en_77:KY Tryz.prog 77:=enF Tryz.func77
theorem en_78:KY Tryz.prog 78:=enF Tryz.func78
theorem en_79:KY Tryz.prog 79:=enF Tryz.func79
theorem en_80:KY Tryz.prog 80:=enF Tryz.func80
theorem en_81:KY Tryz.prog 81:=enF Tryz.func81
theorem en_82:KY Tryz.prog 82:=enF Tryz.func82
theorem en_83:KY Tryz.prog 83:=enF Tryz.func83
theorem en_84:KY Tryz.prog 84:=enF Tryz.func84
theorem en_85:KY Tryz.prog 85:=enF Tryz.func85
theorem en_86:KY Tryz.prog 86:=enF Tryz.func86
theorem en_87:KY Tryz.prog 87:=enF Tryz.func87
theorem en_88:KY Tryz.prog 88:=enF Tryz.func88
theorem en_89:KY Tryz.prog 89:=enF Tryz.func89
theorem en_90:KY Tryz.prog 90:=enF Tryz.func90
theorem en_91:KY Tryz.prog 91:=enF Tryz.func91
theorem en_92:KY Tryz.prog 92:=enF Tryz.func92
theorem en_93:KY Tryz.prog 93:=enF Tryz.func93
theorem en_96:KY Tryz.prog 96:=enF Tryz.func96
theorem en_97:KY Tryz.prog 97:=enF Tryz.func97
theorem en_98:KY Tryz.prog 98:=enF Tryz.func98
theorem en_99:KY Tryz.prog 99:=enF Tryz.func99
theorem en_100:KY Tryz.prog 100:=enF Tryz.func100
theorem en_101:KY Tryz.prog 101:=enF Tryz.func101
theorem en_102:KY Tryz.prog 102:=enF Tryz.func102
theorem en_103:KY Tryz.prog 103:=enF Tryz.func103
theorem en_104:KY Tryz.prog 104:=enF Tryz.func104
theorem en_106:KY Tryz.prog 106:=enF Tryz.func106
theorem en_108:KY Tryz.prog 108:=enF Tryz.func108
theorem en_112:KY Tryz.prog 112:=enF Tryz.func112
theorem en_119:KY Tryz.prog 119:=enF Tryz.func119
theorem KDG:KY Tryz.prog 120:=enF Tryz.func120
theorem en_121:KY Tryz.prog 121:=enF Tryz.func121
theorem en_123:KY Tryz.prog 123:=enF Tryz.func123
theorem en_127:KY Tryz.prog 127:=enF Tryz.func127
theorem en_128:KY Tryz.prog 128:=enF Tryz.func128
theorem en_129:KY Tryz.prog 129:=enF Tryz.func129
theorem ex_130:Extern1 Tryz.prog 130 sub64Entry:=⟨_,Tryz.func130,by kernel_rfl,by kernel_rfl,by kernel_rfl,by kernel_rfl⟩
theorem en_131:KY Tryz.prog 131:=enF Tryz.func131
theorem en_132:KY Tryz.prog 132:=enF Tryz.func132
theorem en_133:KY Tryz.prog 133:=enF Tryz.func133
theorem en_134:KY Tryz.prog 134:=enF Tryz.func134
theorem en_135:KY Tryz.prog 135:=enF Tryz.func135
theorem en_136:KY Tryz.prog 136:=enF Tryz.func136
theorem en_137:KY Tryz.prog 137:=enF Tryz.func137
theorem en_138:KY Tryz.prog 138:=enF Tryz.func138
theorem en_139:KY Tryz.prog 139:=enF Tryz.func139
theorem en_140:KY Tryz.prog 140:=enF Tryz.func140
theorem en_141:KY Tryz.prog 141:=enF Tryz.func141
theorem en_142:KY Tryz.prog 142:=enF Tryz.func142
theorem en_143:KY Tryz.prog 143:=enF Tryz.func143
theorem en_144:KY Tryz.prog 144:=enF Tryz.func144
theorem ex_145:Extern1 Tryz.prog 145 add64Entry:=⟨_,Tryz.func145,by kernel_rfl,by kernel_rfl,by kernel_rfl,by kernel_rfl⟩
theorem en_146:KY Tryz.prog 146:=enF Tryz.func146
theorem en_147:KY Tryz.prog 147:=enF Tryz.func147
theorem en_148:KY Tryz.prog 148:=enF Tryz.func148
theorem en_150:KY Tryz.prog 150:=enF Tryz.func150
theorem en_155:KY Tryz.prog 155:=enF Tryz.func155
theorem en_156:KY Tryz.prog 156:=enF Tryz.func156
theorem en_157:KY Tryz.prog 157:=enF Tryz.func157
theorem en_159:KY Tryz.prog 159:=enF Tryz.func159
theorem en_160:KY Tryz.prog 160:=enF Tryz.func160
theorem en_161:KY Tryz.prog 161:=enF Tryz.func161
theorem en_162:KY Tryz.prog 162:=enF Tryz.func162
theorem en_165:KY Tryz.prog 165:=enF Tryz.func165
theorem en_166:KY Tryz.prog 166:=enF Tryz.func166
theorem en_167:KY Tryz.prog 167:=enF Tryz.func167
theorem en_168:KY Tryz.prog 168:=enF Tryz.func168
theorem en_169:KY Tryz.prog 169:=enF Tryz.func169
theorem en_170:KY Tryz.prog 170:=enF Tryz.func170
theorem en_171:KY Tryz.prog 171:=enF Tryz.func171
theorem en_172:KY Tryz.prog 172:=enF Tryz.func172
theorem en_173:KY Tryz.prog 173:=enF Tryz.func173
theorem en_174:KY Tryz.prog 174:=enF Tryz.func174
theorem en_175:KY Tryz.prog 175:=enF Tryz.func175
theorem en_176:KY Tryz.prog 176:=enF Tryz.func176
theorem en_177:KY Tryz.prog 177:=enF Tryz.func177
theorem en_178:KY Tryz.prog 178:=enF Tryz.func178
theorem en_179:KY Tryz.prog 179:=enF Tryz.func179
theorem en_180:KY Tryz.prog 180:=enF Tryz.func180
theorem en_181:KY Tryz.prog 181:=enF Tryz.func181
theorem en_182:KY Tryz.prog 182:=enF Tryz.func182
theorem en_183:KY Tryz.prog 183:=enF Tryz.func183
theorem en_184:KY Tryz.prog 184:=enF Tryz.func184
theorem en_185:KY Tryz.prog 185:=enF Tryz.func185
theorem en_186:KY Tryz.prog 186:=enF Tryz.func186
theorem en_187:KY Tryz.prog 187:=enF Tryz.func187
theorem en_188:KY Tryz.prog 188:=enF Tryz.func188
theorem en_189:KY Tryz.prog 189:=enF Tryz.func189
theorem en_192:KY Tryz.prog 192:=enF Tryz.func192
theorem en_193:KY Tryz.prog 193:=enF Tryz.func193
theorem en_194:KY Tryz.prog 194:=enF Tryz.func194
theorem en_195:KY Tryz.prog 195:=enF Tryz.func195
theorem en_196:KY Tryz.prog 196:=enF Tryz.func196
theorem en_197:KY Tryz.prog 197:=enF Tryz.func197
theorem en_198:KY Tryz.prog 198:=enF Tryz.func198
theorem en_199:KY Tryz.prog 199:=enF Tryz.func199
theorem en_200:KY Tryz.prog 200:=enF Tryz.func200
theorem en_201:KY Tryz.prog 201:=enF Tryz.func201
theorem en_202:KY Tryz.prog 202:=enF Tryz.func202
theorem en_203:KY Tryz.prog 203:=enF Tryz.func203
theorem en_204:KY Tryz.prog 204:=enF Tryz.func204
theorem en_205:KY Tryz.prog 205:=enF Tryz.func205
theorem en_206:KY Tryz.prog 206:=enF Tryz.func206
theorem en_207:KY Tryz.prog 207:=enF Tryz.func207
theorem en_208:KY Tryz.prog 208:=enF Tryz.func208
theorem en_209:KY Tryz.prog 209:=enF Tryz.func209
theorem en_210:KY Tryz.prog 210:=enF Tryz.func210
theorem en_211:KY Tryz.prog 211:=enF Tryz.func211
theorem en_212:KY Tryz.prog 212:=enF Tryz.func212
theorem en_213:KY Tryz.prog 213:=enF Tryz.func213
theorem en_214:KY Tryz.prog 214:=enF Tryz.func214
theorem en_215:KY Tryz.prog 215:=enF Tryz.func215
theorem en_216:KY Tryz.prog 216:=enF Tryz.func216
theorem en_217:KY Tryz.prog 217:=enF Tryz.func217
theorem en_218:KY Tryz.prog 218:=enF Tryz.func218
theorem en_219:KY Tryz.prog 219:=enF Tryz.func219
theorem en_220:KY Tryz.prog 220:=enF Tryz.func220
theorem en_221:KY Tryz.prog 221:=enF Tryz.func221
theorem en_222:KY Tryz.prog 222:=enF Tryz.func222
theorem en_223:KY Tryz.prog 223:=enF Tryz.func223
theorem en_224:KY Tryz.prog 224:=enF Tryz.func224
theorem en_225:KY Tryz.prog 225:=enF Tryz.func225
theorem en_226:KY Tryz.prog 226:=enF Tryz.func226
theorem en_227:KY Tryz.prog 227:=enF Tryz.func227
theorem en_228:KY Tryz.prog 228:=enF Tryz.func228
theorem en_229:KY Tryz.prog 229:=enF Tryz.func229
theorem en_230:KY Tryz.prog 230:=enF Tryz.func230
theorem en_231:KY Tryz.prog 231:=enF Tryz.func231
theorem en_232:KY Tryz.prog 232:=enF Tryz.func232
theorem en_233:KY Tryz.prog 233:=enF Tryz.func233
theorem en_234:KY Tryz.prog 234:=enF Tryz.func234
theorem en_235:KY Tryz.prog 235:=enF Tryz.func235
theorem en_236:KY Tryz.prog 236:=enF Tryz.func236
theorem en_257:KY Tryz.prog 257:=enF Tryz.func257
end Go.Proofs.YtnpeokiboiclfaaGreat
set_option linter.unusedVariables false
set_option linter.unusedSimpArgs false
namespace Go.Proofs.YtnpeokiboiclfaaGreat
open Go Go.RowKit
inductive SelR:List Item→List Item→List Item→Prop where
  | nil (l:List Item):SelR l [] l
  | cons {x:Item} {l l' m r:List Item}:Pick x l l'→SelR l' m r→SelR l (x :: m) r
theorem SelR.perm {l m r:List Item} (h:SelR l m r):l.Perm (m++r):=by
  induction h with
  | nil l=>exact .refl _
  | cons hp _ ih=>exact hp.perm.trans (.cons _ ih)
def WX (X:List Item) (k:Nat):Prop:=∃ y,y∈X∧y.wr = true∧k∈y.fp
structure Outcome (w:World) (X X':List Item) (w':World):Prop where
  hp:∀ x,x∈X'→x.holds w'
  wr:∀ x,x∈X'→x.wr = true
  new:∀ x,x∈X'→∀ k,k∈x.fp→w.heap.size≤k∨WX X k
  dist:X'.Pairwise Apart
  fr:Fr (WX X) w w'
theorem Rel.out {w w':World} {X X':List Item} {N:Nat} {st:St} {a:Act} (h:Rel ⟨w,WX X,N⟩ st a w') (hs:Sel st.H X') (hw:X'.all (·.wr) = true):Outcome w X X' w':=by
  obtain ⟨r,hr⟩:=hs.spec
  have hd:(X'++r).Pairwise Apart:=(List.Perm.pairwise_iff (fun h=>Apart.symm h) hr).1 h.dist
  have hm:∀ x,x∈X'→x∈st.H:=fun x hx=>hr.mem_iff.2 (List.mem_append.2 (.inl hx))
  have hx:∀ x,x∈X'→x.wr = true:=fun x hx=>List.all_eq_true.1 hw x hx
  exact ⟨fun x q=>h.hp x (hm x q),hx,fun x q k hk=>h.own x (hm x q) (hx x q) k hk,(List.pairwise_append.1 hd).1,h.fr⟩
def CallsM (P:Program) (f:FuncId) (vs:List Value) (X:List Item) (w:World) (Post:Value→List Item→Prop):Prop :=
  Calls P f vs.toArray w (fun e w'=>∃ v X',Post v X'∧e = .returned v∧Outcome w X X' w')
theorem KAO {P : Program} {f : FuncId} {fn : Func} {c : Code} {vs : List Value} {w : World} {X RO : List Item} (L : List Item) {rs : List ResultVar} {N : Nat} {R : Ending → World → Prop} (hf : P.funcs[f]? = some fn) (hb : fn.body = some c) (hn : fn.ntmps = N) (hs : fn.results = rs.toArray)
    (hlen:vs.length≤N) (hH:∀ x,x∈X++RO→x.holds w) (hd:(X++RO).Pairwise Apart) (hro:RO.all (fun x=>!x.wr) = true) (hL:X++RO = L)
    (h:LCode P ⟨w,WX X,N⟩ c ⟨argT 0 vs,L⟩ (LEnd P ⟨w,WX X,N⟩ rs fun v _ w'=>R (.returned v) w')):Calls P f vs.toArray w R:=by
  subst hL
  refine KDc hf hb hn hs hlen hH (fun x hx hw k hk=>?_) hd h
  rcases List.mem_append.1 hx with hx|hx
  · exact ⟨x,hx,hw,hk⟩
  · have:=List.all_eq_true.1 hro x hx
    rw [hw] at this; cases this
theorem Rel.outcome {C:Ctx} {st:St} {a:Act} {w w':World} {X R X':List Item} (h:Rel C st a w) (hs:SelR st.H X R) (ho:Outcome w X X' w'):Rel C ⟨st.T,X'++R⟩ a w':=by
  have hpm:=hs.perm
  have hdist:(X++R).Pairwise Apart:=(hpm.pairwise_iff (fun h=>Apart.symm h)).1 h.dist
  obtain ⟨_,hR,hXR⟩:=List.pairwise_append.1 hdist
  have inR:∀ y,y∈R→y∈st.H:=fun y hy=>hpm.mem_iff.2 (List.mem_append.2 (.inr hy))
  have inX:∀ y,y∈X→y∈st.H:=fun y hy=>hpm.mem_iff.2 (List.mem_append.2 (.inl hy))
  have off:∀ y,y∈R→∀ k,k∈y.fp→¬ WX X k:=by
    rintro y hy k hk ⟨x,hx,hw,hk'⟩
    exact hXR x hx y hy (.inl hw) k hk' hk
  refine ⟨h.size,h.defers,h.tm,fun y hy=>?_,fun y hy hw k hk=>?_,?_,?_⟩
  · rcases List.mem_append.1 hy with hy|hy
    · exact ho.hp y hy
    · have hold:=h.hp y (inR y hy)
      exact KAr hold (fun k hk=>ho.fr.block k (Item.lt hold k hk) (off y hy k hk)) ho.fr.size
  · rcases List.mem_append.1 hy with hy|hy
    · rcases ho.new y hy k hk with h1|⟨x,hx,hw',hk'⟩
      · exact .inl (Nat.le_trans h.fr.size h1)
      · exact h.own x (inX x hx) hw' k hk'
    · exact h.own y (inR y hy) hw k hk
  · refine List.pairwise_append.2 ⟨ho.dist,hR,fun x hx y hy _ k hk hk'=>?_⟩
    rcases ho.new x hx k hk with h1|h1
    · have:=Item.lt (h.hp y (inR y hy)) k hk'
      omega
    · exact off y hy k hk' h1
  · refine ⟨ho.fr.os.trans h.fr.os,ho.fr.tape.trans h.fr.tape,ho.fr.output.trans h.fr.output,Nat.le_trans h.fr.size ho.fr.size,fun k hk1 hk2=>?_⟩
    refine (ho.fr.block k (Nat.lt_of_lt_of_le hk1 h.fr.size) ?_).trans (h.fr.block k hk1 hk2)
    rintro ⟨x,hx,hw,hkx⟩
    rcases h.own x (inX x hx) hw k hkx with h1|h1
    · omega
    · exact hk2 h1
structure Weak (x y:Item):Prop where
  holds:∀ w,x.holds w→y.holds w
  fp:∀ k,k∈y.fp→k∈x.fp
  ro:y.wr = false
def Weaks (R RO:List Item):Prop:=∀ y,y∈RO→∃ x,x∈R∧Weak x y
theorem Weaks.nil (R:List Item):Weaks R []:=fun y hy=>by cases hy
theorem Weaks.cons {R RO:List Item} {x y:Item} (hx:x∈R) (h:Weak x y) (hs:Weaks R RO):Weaks R (y :: RO):=by
  intro z hz
  rcases List.mem_cons.1 hz with rfl|hz
  · exact ⟨x,hx,h⟩
  · exact hs z hz
theorem Weak.blk {b:Nat} {wr:Bool} {cs:List Value} {e:TypeId} {fz:Nat×Nat}:Weak (.blk b ⟨wr,cs,e,fz⟩) (.blk b ⟨false,cs,e,fz⟩):=⟨fun _ h=>h,fun _ h=>h,rfl⟩
theorem Weak.fact {fp:List Nat} {φ:World→Prop}:Weak (.fact fp φ) (.fact fp φ):=⟨fun _ h=>h,fun _ h=>h,rfl⟩
theorem Weak.own {fp:List Nat} {φ:World→Prop}:Weak (.own fp φ) (.fact fp φ):=⟨fun _ h=>h,fun _ h=>h,rfl⟩
section
variable {P:Program} {C:Ctx} {ty:TypeId} {pos:String} {aft:Array Edge} {K:St→Prop} {x:Operand} {v:Value}
theorem call_meets {T : List (Nat × Value)} {H X R RO : List Item} {f : FuncId} {xs : List Operand} {vs first caps : List Value} {ats : Array TypeId} {g : Option (Nat × Bool)} {Post : Value → List Item → Prop} {dd : Option Tmp} {K2 : Act → World → Prop} {Qr : Exit → Act → World → Prop} {a : Act} {w : World}
    (hf:evT T x = some (.func (.func f) first.toArray caps.toArray)) (he:KY P f) (ha:evL T xs = some vs) (hs:SelR H X R) (hro:Weaks R RO)
    (hc:∀ w,(∀ x,x∈X++RO→x.holds w)→(X++RO).Pairwise Apart→CallsM P f (first++vs++caps) X w Post) (hr:Rel C ⟨T,H⟩ a w)
    (hK:∀ v X' w',Post v X'→Outcome w X X' w'→K2 (a.put dd v) w') :
    (⟨dd,.call { callee:=.value x,args:=xs.toArray,argTypes:=ats },ty,pos,aft,g⟩:Oper).wp P a w K2 Qr:=by
  obtain ⟨fn,h1,h2,h3⟩:=he
  have hpm:=hs.perm
  have hdd:(X++R).Pairwise Apart:=(hpm.pairwise_iff (fun h=>Apart.symm h)).1 hr.dist
  obtain ⟨hdX,hdR,hXR⟩:=List.pairwise_append.1 hdd
  refine wp_callee (vs:=first++vs++caps) ?_ (hc w (fun z hz=>?_) (List.pairwise_append.2 ⟨hdX,?_,fun z hz y hy=>?_⟩)) ?_
  · have:=hr.evs ha
    simp [execOp,resolve,hr.ev hf,Deferred.ofValue,invoke,run_call h1 h2 h3,this]
  · rcases List.mem_append.1 hz with hz|hz
    · exact hr.hp z (hpm.mem_iff.2 (List.mem_append.2 (.inl hz)))
    · obtain ⟨u,hu,hw⟩:=hro z hz
      exact hw.holds w (hr.hp u (hpm.mem_iff.2 (List.mem_append.2 (.inr hu))))
  · refine List.pairwise_of_forall_mem_list fun y hy z hz hyz=>?_
    obtain ⟨u,_,hw⟩:=hro y hy
    obtain ⟨u',_,hw'⟩:=hro z hz
    rw [hw.ro,hw'.ro] at hyz
    rcases hyz with h|h <;> cases h
  · obtain ⟨u,hu,hw⟩:=hro y hy
    intro hzy k hk hk'
    rcases hzy with h|h
    · exact hXR z hz u hu (.inl h) k hk (hw.fp k hk')
    · rw [hw.ro] at h; cases h
  · rintro e' w' ⟨v,X',hp,rfl,ho⟩
    exact ⟨v,rfl,hK v X' w' hp ho⟩
theorem LStepW.callM {d : Nat} {T : List (Nat × Value)} {H X R RO : List Item} {f : FuncId} {xs : List Operand} {vs first caps : List Value} {ats : Array TypeId} {g : Option (Nat × Bool)} {Post : Value → List Item → Prop} (hf : evT T x = some (.func (.func f) first.toArray caps.toArray)) (he : KY P f) (ha : evL T xs = some vs) (hd : d < C.N)
    (hs:SelR H X R) (hro:Weaks R RO) (hc:∀ w,(∀ x,x∈X++RO→x.holds w)→(X++RO).Pairwise Apart→CallsM P f (first++vs++caps) X w Post)
    (h:∀ v X',Post v X'→K ⟨(d,v) :: T,X'++R⟩):KAX P C ⟨some d,.call { callee:=.value x,args:=xs.toArray,argTypes:=ats },ty,pos,aft,g⟩ ⟨T,H⟩ K:=by
  unfold KAX
  intro a w hr Qr
  exact call_meets hf he ha hs hro hc hr fun v X' w' hp ho=>⟨_,h v X' hp,(hr.outcome hs ho).put hd v⟩
theorem Kg {d : Nat} {T : List (Nat × Value)} {H X R RO : List Item} {f : FuncId} {xs : List Operand} {vs first caps : List Value} {ats : Array TypeId} {g : Option (Nat × Bool)} {Post : Value → Item → Prop} (hf : evT T x = some (.func (.func f) first.toArray caps.toArray)) (he : KY P f) (ha : evL T xs = some vs) (hd : d < C.N)
    (hs:SelR H X R) (hro:Weaks R RO) (hc:∀ w,(∀ x,x∈X++RO→x.holds w)→(X++RO).Pairwise Apart→Calls P f (first++vs++caps).toArray w (fun e w'=>∃ v x',Post v x'∧e = .returned v∧Outcome w X [x'] w'))
    (h:∀ v x',Post v x'→K ⟨(d,v) :: T,x' :: R⟩):KAX P C ⟨some d,.call { callee:=.value x,args:=xs.toArray,argTypes:=ats },ty,pos,aft,g⟩ ⟨T,H⟩ K :=
  LStepW.callM (Post:=fun v X'=>∃ x',X' = [x']∧Post v x') hf he ha hd hs hro (fun w h1 h2=>(hc w h1 h2).mono fun e w' ⟨v,x',hp,he,ho⟩=>⟨v,[x'],⟨x',rfl,hp⟩,he,ho⟩) (fun v X' ⟨x',he,hp⟩=>by subst he; exact h v x' hp)
theorem KAJ {d : Nat} {T : List (Nat × Value)} {H X R RO : List Item} {f : FuncId} {xs : List Operand} {vs first caps : List Value} {ats : Array TypeId} {g : Option (Nat × Bool)} {Post : Value → Item → Item → Prop} (hf : evT T x = some (.func (.func f) first.toArray caps.toArray)) (he : KY P f) (ha : evL T xs = some vs) (hd : d < C.N)
    (hs:SelR H X R) (hro:Weaks R RO) (hc:∀ w,(∀ x,x∈X++RO→x.holds w)→(X++RO).Pairwise Apart→Calls P f (first++vs++caps).toArray w (fun e w'=>∃ v x' y',Post v x' y'∧e = .returned v∧Outcome w X [x',y'] w'))
    (h:∀ v x' y',Post v x' y'→K ⟨(d,v) :: T,x' :: y' :: R⟩):KAX P C ⟨some d,.call { callee:=.value x,args:=xs.toArray,argTypes:=ats },ty,pos,aft,g⟩ ⟨T,H⟩ K :=
  LStepW.callM (Post:=fun v X'=>∃ x' y',X' = [x',y']∧Post v x' y') hf he ha hd hs hro (fun w h1 h2=>(hc w h1 h2).mono fun e w' ⟨v,x',y',hp,he,ho⟩=>⟨v,[x',y'],⟨x',y',rfl,hp⟩,he,ho⟩) (fun v X' ⟨x',y',he,hp⟩=>by subst he; exact h v x' y' hp)
theorem LStepW.callM3 {d : Nat} {T : List (Nat × Value)} {H X R RO : List Item} {f : FuncId} {xs : List Operand} {vs first caps : List Value} {ats : Array TypeId} {g : Option (Nat × Bool)} {Post : Value → Item → Item → Item → Prop} (hf : evT T x = some (.func (.func f) first.toArray caps.toArray)) (he : KY P f) (ha : evL T xs = some vs) (hd : d < C.N)
    (hs:SelR H X R) (hro:Weaks R RO) (hc:∀ w,(∀ x,x∈X++RO→x.holds w)→(X++RO).Pairwise Apart→Calls P f (first++vs++caps).toArray w (fun e w'=>∃ v x' y' z',Post v x' y' z'∧e = .returned v∧Outcome w X [x',y',z'] w'))
    (h:∀ v x' y' z',Post v x' y' z'→K ⟨(d,v) :: T,x' :: y' :: z' :: R⟩):KAX P C ⟨some d,.call { callee:=.value x,args:=xs.toArray,argTypes:=ats },ty,pos,aft,g⟩ ⟨T,H⟩ K :=
  LStepW.callM (Post:=fun v X'=>∃ x' y' z',X' = [x',y',z']∧Post v x' y' z') hf he ha hd hs hro (fun w h1 h2=>(hc w h1 h2).mono fun e w' ⟨v,x',y',z',hp,he,ho⟩=>⟨v,[x',y',z'],⟨x',y',z',rfl,hp⟩,he,ho⟩) (fun v X' ⟨x',y',z',he,hp⟩=>by subst he; exact h v x' y' z' hp)
end
theorem LCode.regroup {P:Program} {C:Ctx} {c:Code} {Q:Exit→St→Prop} {T:List (Nat×Value)} {H X R X' L:List Item} (hs:SelR H X R) (ho:∀ w,(∀ x,x∈X→x.holds w)→X.Pairwise Apart→Outcome w X X' w) (hL:X'++R = L) (h:LCode P C c ⟨T,L⟩ Q):LCode P C c ⟨T,H⟩ Q:=by
  subst hL
  refine LCode.sub ?_ h
  unfold Sub
  intro a w hr
  have hpm:=hs.perm
  have hdd:(X++R).Pairwise Apart:=(hpm.pairwise_iff (fun h=>Apart.symm h)).1 hr.dist
  exact hr.outcome hs (ho w (fun z hz=>hr.hp z (hpm.mem_iff.2 (List.mem_append.2 (.inl hz)))) (List.pairwise_append.1 hdd).1)
theorem Rel.cons {C:Ctx} {T:List (Nat×Value)} {H:List Item} {x:Item} {a:Act} {w:World} (h:Rel C ⟨T,H⟩ a w) (hx:x.holds w) (hf:x.fp = []):Rel C ⟨T,x :: H⟩ a w:=by
  refine ⟨h.size,h.defers,h.tm,fun y hy=>?_,fun y hy hw k hk=>?_,List.pairwise_cons.2 ⟨fun y _ _ k hk=>(by rw [hf] at hk; cases hk),h.dist⟩,h.fr⟩
  · rcases List.mem_cons.1 hy with rfl|hy
    · exact hx
    · exact h.hp y hy
  · rcases List.mem_cons.1 hy with rfl|hy
    · rw [hf] at hk; cases hk
    · exact h.own y hy hw k hk
theorem Rel.turn {C:Ctx} {T:List (Nat×Value)} {H R:List Item} {x y:Item} {a:Act} {w:World} (h:Rel C ⟨T,H⟩ a w) (hp:Pick x H R) (hx:x.holds w→y.holds w) (hf:∀ k,k∈y.fp→k∈x.fp) (hw:y.wr = true→x.wr = true):Rel C ⟨T,y :: R⟩ a w:=by
  have hpm:=hp.perm
  have hdist:(x :: R).Pairwise Apart:=(hpm.pairwise_iff (fun h=>Apart.symm h)).1 h.dist
  obtain ⟨h1,h2⟩:=List.pairwise_cons.1 hdist
  refine ⟨h.size,h.defers,h.tm,fun z hz=>?_,fun z hz hw' k hk=>?_,List.pairwise_cons.2 ⟨fun z hz hwz k hk hk'=>?_,h2⟩,h.fr⟩
  · rcases List.mem_cons.1 hz with rfl|hz
    · exact hx (h.hp x (hpm.mem_iff.2 (.head _)))
    · exact h.hp z (hpm.mem_iff.2 (.tail _ hz))
  · rcases List.mem_cons.1 hz with rfl|hz
    · exact h.own x (hpm.mem_iff.2 (.head _)) (hw hw') k (hf k hk)
    · exact h.own z (hpm.mem_iff.2 (.tail _ hz)) hw' k hk
  · exact h1 z hz (hwz.elim (fun q=>.inl (hw q)) .inr) k (hf k hk) hk'
theorem Sub.turn {C:Ctx} {T:List (Nat×Value)} {H R:List Item} {x y:Item} (hp:Pick x H R) (hx:∀ w,x.holds w→y.holds w) (hf:∀ k,k∈y.fp→k∈x.fp) (hw:y.wr = true→x.wr = true):Sub C ⟨T,y :: R⟩ ⟨T,H⟩:=by
  unfold Sub; intro a w h; exact h.turn hp (hx w) hf hw
theorem Sub.add {C:Ctx} {T:List (Nat×Value)} {H:List Item} {x:Item} (hx:∀ w,x.holds w) (hf:x.fp = []):Sub C ⟨T,x :: H⟩ ⟨T,H⟩:=by
  unfold Sub; intro a w h; exact h.cons (hx w) hf
def gpI (X:List Item):Item:=.own (X.flatMap Item.fp) (fun w=>(∀ x,x∈X→x.holds w)∧X.Pairwise Apart)
theorem gpI_P {X:List Item} {w:World} (h:(gpI X).holds w):(∀ x,x∈X→x.holds w)∧X.Pairwise Apart:=h.2 w (KDC _ _)
theorem agree_lt {w w':World} {k:Nat} (h1:k<w.heap.size) (h2:w'.heap[k]? = w.heap[k]?):k<w'.heap.size:=by
  rcases Nat.lt_or_ge k w'.heap.size with h3|h3
  · exact h3
  · rw [Array.getElem?_eq_none h3,Array.getElem?_eq_getElem h1] at h2
    cases h2
theorem gpI_of {X:List Item} {w:World} (h:∀ x,x∈X→x.holds w) (hd:X.Pairwise Apart):(gpI X).holds w:=by
  refine ⟨fun k hk=>?_,fun w' ha=>⟨fun x hx=>?_,hd⟩⟩
  · obtain ⟨x,hx,hk⟩:=List.mem_flatMap.1 hk
    exact Item.lt (h x hx) k hk
  · have hh:=h x hx
    have hag:Agree x.fp w w':=fun k hk=>ha k (List.mem_flatMap.2 ⟨x,hx,hk⟩)
    cases x with
    | blk b B =>
      have:w'.heap[b]? = w.heap[b]?:=hag b (by simp [Item.fp])
      exact this.trans hh
    | fact fp φ=>exact ⟨fun k hk=>agree_lt (hh.1 k hk) (hag k hk),fun w'' h2=>hh.2 w'' (Agree.trans hag h2)⟩
    | own fp φ=>exact ⟨fun k hk=>agree_lt (hh.1 k hk) (hag k hk),fun w'' h2=>hh.2 w'' (Agree.trans hag h2)⟩
theorem gpI_open {X:List Item} {w:World} (hx:X.all (·.wr) = true) (h:∀ x,x∈[gpI X]→x.holds w):Outcome w [gpI X] X w:=by
  have hg:=gpI_P (h _ (.head _))
  exact ⟨hg.1,fun x hxx=>List.all_eq_true.1 hx x hxx,fun x hxx k hk=>.inr ⟨_,.head _,rfl,List.mem_flatMap.2 ⟨x,hxx,hk⟩⟩,hg.2,Fr.refl _ _⟩
theorem gpI_close {X:List Item} {w:World} (hx:X.all (·.wr) = true) (h:∀ x,x∈X→x.holds w) (hd:X.Pairwise Apart):Outcome w X [gpI X] w:=by
  have one:∀ y,y∈[gpI X]→y = gpI X:=fun y hy=>List.mem_singleton.1 hy
  refine ⟨fun y hy=>by rw [one y hy]; exact gpI_of h hd,fun y hy=>by rw [one y hy]; rfl,fun y hy k hk=>?_,List.pairwise_cons.2 ⟨fun y hy=>(by cases hy),.nil⟩,Fr.refl _ _⟩
  rw [one y hy] at hk
  obtain ⟨x,hxx,hk⟩:=List.mem_flatMap.1 hk
  exact .inr ⟨x,hxx,List.all_eq_true.1 hx x hxx,hk⟩
theorem LCode.opn {P:Program} {C:Ctx} {c:Code} {Q:Exit→St→Prop} {T:List (Nat×Value)} {H R L:List Item} (X:List Item) (hp:SelR H [gpI X] R) (hw:X.all (·.wr) = true) (hL:X++R = L) (h:LCode P C c ⟨T,L⟩ Q):LCode P C c ⟨T,H⟩ Q :=
  LCode.regroup hp (fun w h1 _=>gpI_open hw h1) hL h
theorem LCode.cls {P:Program} {C:Ctx} {c:Code} {Q:Exit→St→Prop} {T:List (Nat×Value)} {H R:List Item} (X:List Item) (hp:SelR H X R) (hw:X.all (·.wr) = true) (h:LCode P C c ⟨T,gpI X :: R⟩ Q):LCode P C c ⟨T,H⟩ Q :=
  LCode.regroup (L:=gpI X :: R) hp (fun w h1 h2=>gpI_close hw h1 h2) rfl h
theorem LOps.cls {P:Program} {C:Ctx} {ops:Array Oper} {rest:List Oper} {Q:Exit→St→Prop} {T:List (Nat×Value)} {H R:List Item} (X:List Item) (hp:SelR H X R) (hw:X.all (·.wr) = true) (h:LOps P C ops rest ⟨T,gpI X :: R⟩ Q):LOps P C ops rest ⟨T,H⟩ Q:=by
  refine LOps.sub ?_ h
  unfold Sub
  intro a w hr
  have hpm:=hp.perm
  have hdd:(X++R).Pairwise Apart:=(hpm.pairwise_iff (fun h=>Apart.symm h)).1 hr.dist
  exact hr.outcome hp (gpI_close hw (fun z hz=>hr.hp z (hpm.mem_iff.2 (List.mem_append.2 (.inl hz)))) (List.pairwise_append.1 hdd).1)
section
variable {P:Program} {C:Ctx} {d:Nat} {ty:TypeId} {pos:String} {aft:Array Edge} {K:St→Prop} {x:Operand} {v:Value}
theorem LStep.callC {T : List (Nat × Value)} {H : List Item} {f : FuncId} {xs : List Operand} {vs caps : List Value} {ats : Array TypeId} {g : Option (Nat × Bool)} (hf : evT T x = some (.func (.func f) #[] caps.toArray)) (he : KY P f) (ha : evL T xs = some vs) (hd : d < C.N)
    (hc:∀ w,(∀ x,x∈H→x.holds w)→Calls P f (vs++caps).toArray w (fun e w'=>e = .returned v∧Below w.heap.size w w'))
    (h:K ⟨(d,v) :: T,H⟩):LStep P C ⟨some d,.call { callee:=.value x,args:=xs.toArray,argTypes:=ats },ty,pos,aft,g⟩ ⟨T,H⟩ K:=by
  unfold LStep; intro a w hr Qr
  obtain ⟨fn,h1,h2,h3⟩:=he
  refine wp_callee (vs:=vs++caps) ?_ (hc w hr.hp) ?_
  · have:=hr.evs ha
    simp [execOp,resolve,hr.ev hf,Deferred.ofValue,invoke,run_call h1 h2 h3,this]
  · rintro e w' ⟨rfl,hb⟩
    exact ⟨v,rfl,hb,_,h,(hr.below hb).put hd v⟩
end
abbrev BsRow:=Option (Nat×List Value×List Value×List Value)
def numL (l:List Nat):List Value:=l.map fun (n:Nat)=>Value.int .u8 (n:Int)
theorem KAj (l:List Nat):(numL l).length = l.length:=by simp [numL]
theorem numL_append (l m:List Nat):numL (l++m) = numL l++numL m:=by simp [numL]
theorem numL_one (l:List Nat):KBT (numL l):=by
  intro c hc
  obtain ⟨_,_,rfl⟩:=List.mem_map.1 hc
  rfl
def bsA:BsRow→Option Addr
  | none=>none
  | some r=>some ⟨r.1,r.2.1.length,none⟩
def bsM:BsRow→Nat
  | none=>0
  | some r=>r.2.2.1.length
def bsV (r:BsRow) (n:Nat):Value:=.slice (bsA r) n (n+bsM r)
def bsFp:BsRow→List Nat
  | none=>[]
  | some r=>[r.1]
def bsP (E:TypeId) (r:BsRow) (l:List Nat) (w:World):Prop:=match r with
  | none=>l = []
  | some r=>w.heap[r.1]? = some (.cells (r.2.1++(numL l++(r.2.2.1++r.2.2.2))).toArray E (0,0))
def bsI (E:TypeId) (r:BsRow) (l:List Nat):Item:=.own (bsFp r) (bsP E r l)
theorem bsI_P {E:TypeId} {r:BsRow} {l:List Nat} {w:World} (h:(bsI E r l).holds w):bsP E r l w:=h.2 w (KDC _ _)
theorem bsI_of {E:TypeId} {r:BsRow} {l:List Nat} {w:World} (h:bsP E r l w):(bsI E r l).holds w:=by
  rcases r with _|r
  · exact ⟨fun k hk=>(by cases hk),fun _ _=>h⟩
  · refine ⟨fun k hk=>?_,fun w' ha=>(ha r.1 (.head _)).trans h⟩
    have:k = r.1:=by simpa [bsFp] using hk
    subst this; exact KDF h
theorem bsI_nil (E:TypeId) (w:World):(bsI E none []).holds w:=bsI_of rfl
def roI (E:TypeId) (r:BsRow) (l:List Nat):Item:=.fact (bsFp r) (bsP E r l)
theorem roI_P {E:TypeId} {r:BsRow} {l:List Nat} {w:World} (h:(roI E r l).holds w):bsP E r l w:=h.2 w (KDC _ _)
theorem Weak.bs {E:TypeId} {r:BsRow} {l:List Nat}:Weak (bsI E r l) (roI E r l):=⟨fun _ h=>h,fun _ h=>h,rfl⟩
theorem Weak.ro' {E:TypeId} {r:BsRow} {l:List Nat}:Weak (roI E r l) (roI E r l):=⟨fun _ h=>h,fun _ h=>h,rfl⟩
theorem bsI_blk {E:TypeId} {b:Nat} {pre more ex:List Value} {l:List Nat} {w:World}:(bsI E (some (b,pre,more,ex)) l).holds w↔(Item.blk b ⟨true,pre++(numL l++(more++ex)),E,(0,0)⟩).holds w :=
  ⟨fun h=>bsI_P h,fun h=>bsI_of h⟩
def ofS (s:ByteArray):List Nat:=s.data.toList.map (·.toNat)
theorem KBG (s:ByteArray):(ofS s).length = s.size:=by unfold ofS; rw [List.length_map,Array.length_toList]; rfl
theorem byteCells_num (s:ByteArray):byteCells s = numL (ofS s):=by simp [byteCells,numL,ofS]
theorem one_cell' {u:Value} (h:one u = true):u.oneCell' = true:=by cases u <;> simp_all [one,Value.oneCell']
section
variable {P:Program} {C:Ctx} {ty:TypeId} {pos:String} {aft:Array Edge} {d:Nat} {K:St→Prop} {x y:Operand} {t t2 e:TypeId}
theorem cell_at {w:World} {b:Nat} {cs:Array Value} {E:TypeId} {fz:Nat×Nat} (h:w.heap[b]? = some (.cells cs E fz)) (o j:Nat):w.cell? ((⟨b,o,none⟩:Addr).add j) = cs[o+j]?:=by
  have hadd:(⟨b,o,none⟩:Addr).add j = ⟨b,o+j,none⟩:=by unfold Addr.add; split <;> simp_all
  rw [hadd]
  simp [World.cell?,h]
theorem mid_get {pre xs more:List Value} (j:Nat) (u:Value) (h:xs[j]? = some u):(pre++(xs++more)).toArray[pre.length+j]? = some u:=by
  have hj:j<xs.length:=by
    rcases Nat.lt_or_ge j xs.length with h'|h'
    · exact h'
    · rw [List.getElem?_eq_none h'] at h; cases h
  rw [List.getElem?_toArray,List.getElem?_append_right (by omega),Nat.add_sub_cancel_left,List.getElem?_append_left hj]
  exact h
theorem src_bs {E E':TypeId} {r:BsRow} {l:List Nat} {w:World} (ht:P.underlying t2 = some (.slice E')) (h:(bsI E r l).holds w):Src P 1 t2 (bsV r l.length) l.length (numL l) w:=by
  rcases r with _|⟨b,pre,more,ex⟩
  · have:l = []:=bsI_P h
    subst this
    exact Src.ofNil (size:=1) w ht 0
  · have hb:=bsI_P h
    refine Src.ofSlice w ht _ _ _ _ (by rw [KAj,Nat.mul_one]) (fun j u hj=>?_) (fun u hu=>one_cell' (numL_one l u hu))
    rw [cell_at hb]
    exact mid_get j u hj
theorem KDQ {E E':TypeId} {b c:Nat} {l:List Nat} {wr:Bool} {fz:Nat×Nat} {w:World} (ht:P.underlying t2 = some (.slice E')) (h:(Item.blk b ⟨wr,numL l,E,fz⟩).holds w):Src P 1 t2 (.slice (some ⟨b,0,none⟩) l.length c) l.length (numL l) w:=by
  refine Src.ofSlice w ht _ _ _ _ (by rw [KAj,Nat.mul_one]) (fun j u hj=>?_) (fun u hu=>one_cell' (numL_one l u hu))
  rw [cell_at h,Nat.zero_add,List.getElem?_toArray]
  exact hj
theorem src_str {s:ByteArray} {w:World} (ht:P.underlying t2 = some .string):Src P 1 t2 (.string s) (ofS s).length (numL (ofS s)) w:=by
  rw [KBG,← byteCells_num]
  exact Src.ofString w ht s
theorem exec_append2 {a : Act} {w w' : World} {x y : Operand} {u v r : Value} {dd : Option Tmp} {g : Option (Nat × Bool)} (hx : a.eval x = u) (hy : a.eval y = v) (h : (Builtin.append_ #[t, t2] ty #[u, v]).run P w = .ok r w') :
    (execOp a.eval ⟨dd,.call { callee:=.builtin .append,args:=#[x,y],argTypes:=#[t,t2] },ty,pos,aft,g⟩).run P w = .ok (.value r) w':=by
  have:#[x,y].map a.eval = #[u,v]:=by simp [hx,hy]
  simp [execOp,resolve,this,invoke,builtin,h]
theorem KAS {T : List (Nat × Value)} {H R : List Item} {r : BsRow} {l news : List Nat} {yv : Value} {g : Option (Nat × Bool)} (hx : evT T x = some (bsV r l.length)) (hy : evT T y = some yv) (ht : P.underlying t = some (.slice e)) (hi : infOf P e = some (.int .u8 ((0 : Nat) : Int), 1, 1))
    (hp:Pick (bsI e r l) H R) (hsrc:∀ w,(∀ z,z∈R→z.holds w)→Src P 1 t2 yv news.length (numL news) w) (hn:l.length+news.length≤140737488355328) (hd:d<C.N)
    (h:∀ r',K ⟨(d,bsV r' (l++news).length) :: T,bsI e r' (l++news) :: R⟩):KAX P C ⟨some d,.call { callee:=.builtin .append,args:=#[x,y],argTypes:=#[t,t2] },ty,pos,aft,g⟩ ⟨T,H⟩ K:=by
  unfold KAX
  intro a w hr Qr
  obtain ⟨i,hi1,hi3,hi2,hi4⟩:=inf_spec hi
  have hpm:=hp.perm
  have hin:bsI e r l∈H:=hpm.mem_iff.2 (.head _)
  have hmm:∀ z,z∈R→z∈H:=fun z hz=>hpm.mem_iff.2 (.tail _ hz)
  have hS:=hsrc w (fun z hz=>hr.hp z (hmm z hz))
  have hdd:(bsI e r l :: R).Pairwise Apart:=(List.Perm.pairwise_iff (fun h=>Apart.symm h) hpm).1 hr.dist
  obtain ⟨hd1,hd2⟩:=List.pairwise_cons.1 hdd
  have hsel:Rel C ⟨T,R⟩ a w:=⟨hr.size,hr.defers,hr.tm,fun z hz=>hr.hp z (hmm z hz),fun z hz=>hr.own z (hmm z hz),hd2,hr.fr⟩
  have hl:(l++news).length = l.length+news.length:=List.length_append
  have grow : ∀ (base : Option Addr) (cap : Nat), evT T x = some (.slice base l.length cap) → (Builtin.firstCells i.size l.length (.slice base l.length cap)).run P w.drew = .ok (numL l).toArray w.drew → cap < l.length + news.length → 
      ∃ r' w',(execOp a.eval ⟨some d,.call { callee:=.builtin .append,args:=#[x,y],argTypes:=#[t,t2] },ty,pos,aft,g⟩).run P w = .ok (.value (bsV r' (l++news).length)) w'∧Rel C ⟨T,bsI e r' (l++news) :: R⟩ a w':=by
    intro base cap hx' hold hc
    have hrr:=run_append_grow_src (P:=P) w t t2 ty e i (.int .u8 ((0:Nat):Int)) ht hi1 hi3 base l.length cap (numL l) hold yv news.length (numL news) (by rw [hi2]; exact hS) hc (by omega) (growslice_fits hc (by rw [hi4]; omega))
    rw [exec_append2 (hr.ev hx') (hr.ev hy) hrr]
    have hge:=grownCap_ge w (l.length+news.length) cap e
    have e1:∀ n,Builtin.zeroCells (Value.int .u8 ((0:Nat):Int)).cells n = (List.replicate n (Value.int .u8 ((0:Nat):Int))).toArray:=by
      intro n
      apply Array.ext
      · simp [Builtin.zeroCells,Value.cells]
      · intro k h1 h2
        simp [Builtin.zeroCells,Value.cells,Nat.mod_one]
    refine ⟨some (w.heap.size,[],List.replicate (grownCap w (l.length+news.length) cap e-(l.length+news.length)) (Value.int .u8 ((0:Nat):Int)),[]),w.drew.alloc (.cells ((numL l++numL news).toArray++Builtin.zeroCells (Value.int .u8 ((0:Nat):Int)).cells (grownCap w (l.length+news.length) cap e-(l.length+news.length))) e),?_,?_⟩
    · simp only [bsV,bsA,bsM,List.length_nil,List.length_replicate,hl]
      rw [show l.length+news.length+(grownCap w (l.length+news.length) cap e-(l.length+news.length)) = grownCap w (l.length+news.length) cap e by omega]
    · have hal:=hsel.drew.alloc ((numL l++numL news)++List.replicate (grownCap w (l.length+news.length) cap e-(l.length+news.length)) (Value.int .u8 ((0:Nat):Int))) e
      have hcs:((numL l++numL news)++List.replicate (grownCap w (l.length+news.length) cap e-(l.length+news.length)) (Value.int .u8 ((0:Nat):Int))).toArray = (numL l++numL news).toArray++Builtin.zeroCells (Value.int .u8 ((0:Nat):Int)).cells (grownCap w (l.length+news.length) cap e-(l.length+news.length)):=by
        rw [e1]; simp
      rw [hcs] at hal
      refine hal.turn (.head _) (fun hh=>bsI_of ?_) (fun k hk=>hk) (fun _=>rfl)
      simp only [bsP,List.nil_append,List.append_nil,numL_append]
      exact hh
  have fin:(∃ r' w',(execOp a.eval ⟨some d,.call { callee:=.builtin .append,args:=#[x,y],argTypes:=#[t,t2] },ty,pos,aft,g⟩).run P w = .ok (.value (bsV r' (l++news).length)) w'∧Rel C ⟨T,bsI e r' (l++news) :: R⟩ a w')→(⟨some d,.call { callee:=.builtin .append,args:=#[x,y],argTypes:=#[t,t2] },ty,pos,aft,g⟩:Oper).wp P a w (fun a' w'=>∃ s,K s∧Rel C s a' w') Qr:=by
    rintro ⟨r',w',h1,h2⟩
    unfold Oper.wp
    rw [h1]
    exact ⟨_,h r',h2.put hd _⟩
  apply fin
  rcases r with _|⟨b,pre,more,ex⟩
  · have hl0:l = []:=bsI_P (hr.hp _ hin)
    subst hl0
    rcases news with _|⟨n0,ns⟩
    · have hrr:=run_append_nothing (P:=P) w t t2 ty e i ht hi1 none 0 0 (Nat.le_refl _) yv (by rw [hi2]; exact hS)
      refine ⟨none,w,exec_append2 (hr.ev hx) (hr.ev hy) hrr,hsel.cons (bsI_nil e w) rfl⟩
    · exact grow none 0 hx (run_firstCells_none w.drew i.size 0 0 0) (by simp)
  · have hb:w.heap[b]? = some (.cells (pre++(numL l++(more++ex))).toArray e (0,0)):=bsI_P (hr.hp _ hin)
    have hcl:∀ j,j<more.length→(w.cell? ⟨b,pre.length+l.length+j,none⟩).isSome = true:=by
      intro j hj
      rw [cell_of (B:=⟨true,pre++(numL l++(more++ex)),e,(0,0)⟩) hb]
      have hlt:pre.length+l.length+j<(pre++(numL l++(more++ex))).length:=by simp [KAj]; omega
      rw [List.getElem?_eq_getElem hlt]; rfl
    have hfz:∀ j,w.frozen? ⟨b,j,none⟩ = false:=by intro j; simp [World.frozen?,hb]
    by_cases hroom:news.length≤more.length
    · have hrr:=run_append_room_src (P:=P) w t t2 ty e i ht hi1 b pre.length l.length (l.length+more.length) yv news.length (numL news) (by rw [hi2]; exact hS) (by omega) (fun j hj=>by rw [hi2,Nat.mul_one]; exact hcl j (by rw [KAj] at hj; omega)) (fun j hj=>hfz _)
      · have hK:(execOp a.eval ⟨some d,.call { callee:=.builtin .append,args:=#[x,y],argTypes:=#[t,t2] },ty,pos,aft,g⟩).run P w = _:=exec_append2 (hr.ev hx) (hr.ev hy) hrr
        have hpos:=hr.own _ hin rfl b (by simp [bsI,Item.fp,bsFp])
        have hset:=KDR (P:=P) b e (0,0) (numL news) 0 (pre.length+l.length) (pre++(numL l++(more++ex))) w hb (numL_one news) (by simp [KAj]; omega) (fun j _=>by omega)
        obtain ⟨w2,hw2,hb2,ho2,hz2,hos2,htp2,hout2⟩:=hset
        have hst:=run_storeCells_cells (P:=P) b (pre.length+l.length) (numL news) 0 w (fun j hj=>by rw [Nat.add_zero]; exact hcl j (by rw [KAj] at hj; omega)) (fun j hj=>hfz _) (fun u hu=>one_cell' (numL_one news u hu))
        · rw [hst] at hw2
          simp only [Nat.add_zero] at hw2 hb2
          have hww:w.setCells b (pre.length+l.length) (numL news) = w2:=by injection hw2
          subst hww
          rw [hi2,Nat.mul_one] at hK
          refine ⟨some (b,pre,more.drop news.length,ex),w.setCells b (pre.length+l.length) (numL news),hK.trans ?_,?_⟩
          · simp only [bsV,bsA,bsM,hl,List.length_drop]
            rw [show l.length+news.length+(more.length-news.length) = l.length+more.length by omega]
          · have hr2:Rel C ⟨T,bsI e (some (b,pre,more,ex)) l :: R⟩ a w:=⟨hr.size,hr.defers,hr.tm,fun z hz=>hr.hp z (hpm.mem_iff.2 hz),fun z hz=>hr.own z (hpm.mem_iff.2 hz),hdd,hr.fr⟩
            have hr3:Rel C ⟨T,.blk b ⟨true,pre++(numL l++(more++ex)),e,(0,0)⟩ :: R⟩ a w:=hr2.turn (.head _) (fun hh=>bsI_blk.1 hh) (fun k hk=>hk) (fun _=>rfl)
            have hr4:=hr3.setBlk (B':=⟨true,pre++(numL (l++news)++(more.drop news.length++ex)),e,(0,0)⟩) (SetAt.head _) rfl (by
              show _ = _
              rw [hb2]
              congr 3
              unfold KAZ
              rw [numL_append,KAj]
              have h1:(pre++(numL l++(more++ex))).take (pre.length+l.length) = pre++numL l:=by
                rw [← List.append_assoc,List.take_left' (by rw [List.length_append,KAj])]
              have h2:(pre++(numL l++(more++ex))).drop (pre.length+l.length+news.length) = more.drop news.length++ex:=by
                rw [← List.append_assoc,← List.append_assoc,List.append_assoc _ more ex,Nat.add_assoc,← Nat.add_assoc,List.drop_append,List.drop_eq_nil_of_le (by rw [List.length_append,KAj]; omega),List.nil_append,List.length_append,KAj,Nat.add_sub_cancel_left,List.drop_append_of_le_length hroom]
              rw [h1,h2]
              simp) ho2 hz2 hos2 htp2 hout2
            exact hr4.turn (.head _) (fun hh=>bsI_blk.2 hh) (fun k hk=>hk) (fun _=>rfl)
    · refine grow (some ⟨b,pre.length,none⟩) (l.length+more.length) hx ?_ (by omega)
      rw [hi2]
      refine run_firstCells_some w.drew 1 l.length ⟨b,pre.length,none⟩ l.length _ (numL l) (by rw [KAj,Nat.mul_one]) (fun j u hj=>?_)
      have:w.drew.heap[b]? = w.heap[b]?:=rfl
      rw [cell_at (this.trans hb)]
      exact mid_get j u hj
theorem KBa {T : List (Nat × Value)} {H : List Item} {news : List Nat} {yv : Value} {g : Option (Nat × Bool)} (hx : evT T x = some (.slice none 0 0)) (hy : evT T y = some yv) (ht : P.underlying t = some (.slice e)) (hi : infOf P e = some (.int .u8 ((0 : Nat) : Int), 1, 1))
    (hsrc:∀ w,(∀ z,z∈H→z.holds w)→Src P 1 t2 yv news.length (numL news) w) (hn:news.length≤140737488355328) (hd:d<C.N)
    (h:∀ r',K ⟨(d,bsV r' news.length) :: T,bsI e r' news :: H⟩):KAX P C ⟨some d,.call { callee:=.builtin .append,args:=#[x,y],argTypes:=#[t,t2] },ty,pos,aft,g⟩ ⟨T,H⟩ K:=by
  have:=KAS (P:=P) (C:=C) (ty:=ty) (pos:=pos) (aft:=aft) (d:=d) (K:=K) (x:=x) (y:=y) (t:=t) (t2:=t2) (e:=e) (T:=T) (H:=bsI e none [] :: H) (R:=H) (r:=none) (l:=[]) (news:=news) (g:=g) hx hy ht hi (.head _) hsrc (by simpa using hn) hd (by simpa using h)
  unfold KAX at this ⊢
  intro a w hr Qr
  exact this a w (hr.cons (bsI_nil e w) rfl) Qr
end
theorem Weak.roblk {E:TypeId} {b:Nat} {pre more ex:List Value} {l:List Nat}:Weak (roI E (some (b,pre,more,ex)) l) (.blk b ⟨false,pre++(numL l++(more++ex)),E,(0,0)⟩):=⟨fun _ h=>roI_P h,fun _ h=>h,rfl⟩
theorem Weak.bsblk {E:TypeId} {b:Nat} {pre more ex:List Value} {l:List Nat}:Weak (bsI E (some (b,pre,more,ex)) l) (.blk b ⟨false,pre++(numL l++(more++ex)),E,(0,0)⟩):=⟨fun _ h=>bsI_P h,fun _ h=>h,rfl⟩
theorem sR {p:Prop} (h:p:=by first
  | exact SelR.nil _
  | exact SelR.cons (by repeat (first|exact Pick.head _|apply Pick.tail)) (SelR.nil _)
  | exact SelR.cons (by repeat (first|exact Pick.head _|apply Pick.tail)) (SelR.cons (by repeat (first|exact Pick.head _|apply Pick.tail)) (SelR.nil _))
  | exact SelR.cons (by repeat (first|exact Pick.head _|apply Pick.tail)) (SelR.cons (by repeat (first|exact Pick.head _|apply Pick.tail)) (SelR.cons (by repeat (first|exact Pick.head _|apply Pick.tail)) (SelR.nil _)))
  | exact SelR.cons (by repeat (first|exact Pick.head _|apply Pick.tail)) (SelR.cons (by repeat (first|exact Pick.head _|apply Pick.tail)) (SelR.cons (by repeat (first|exact Pick.head _|apply Pick.tail)) (SelR.cons (by repeat (first|exact Pick.head _|apply Pick.tail)) (SelR.nil _))))
  | exact SelR.cons (by repeat (first|exact Pick.head _|apply Pick.tail)) (SelR.cons (by repeat (first|exact Pick.head _|apply Pick.tail)) (SelR.cons (by repeat (first|exact Pick.head _|apply Pick.tail)) (SelR.cons (by repeat (first|exact Pick.head _|apply Pick.tail)) (SelR.cons (by repeat (first|exact Pick.head _|apply Pick.tail)) (SelR.nil _)))))
  | exact SelR.cons (by repeat (first|exact Pick.head _|apply Pick.tail)) (SelR.cons (by repeat (first|exact Pick.head _|apply Pick.tail)) (SelR.cons (by repeat (first|exact Pick.head _|apply Pick.tail)) (SelR.cons (by repeat (first|exact Pick.head _|apply Pick.tail)) (SelR.cons (by repeat (first|exact Pick.head _|apply Pick.tail)) (SelR.cons (by repeat (first|exact Pick.head _|apply Pick.tail)) (SelR.nil _))))))):p:=h
theorem wK {p:Prop} (h:p:=by repeat (first
  | exact Weaks.nil _
  | refine Weaks.cons (by repeat (first|exact Mh _|apply Mt)) Weak.blk ?_
  | refine Weaks.cons (by repeat (first|exact Mh _|apply Mt)) Weak.bs ?_
  | refine Weaks.cons (by repeat (first|exact Mh _|apply Mt)) Weak.ro' ?_
  | refine Weaks.cons (by repeat (first|exact Mh _|apply Mt)) Weak.roblk ?_
  | refine Weaks.cons (by repeat (first|exact Mh _|apply Mt)) Weak.bsblk ?_
  | refine Weaks.cons (by repeat (first|exact Mh _|apply Mt)) Weak.fact ?_
  | refine Weaks.cons (by repeat (first|exact Mh _|apply Mt)) Weak.own ?_)):p:=h
def KDP (r:BsRow) (l:List Nat) (k:Nat):BsRow:=match r with
  | none=>none
  | some (b,pre,more,ex)=>if l.length+more.length = k then some (b,pre,[],numL l++(more++ex)) else some (b,pre++numL (l.take k),more,ex)
theorem bsDrop_P {E:TypeId} {r:BsRow} {l:List Nat} {k:Nat} {w:World} (hk:k≤l.length) (h:bsP E r l w):bsP E (KDP r l k) (l.drop k) w:=by
  rcases r with _|⟨b,pre,more,ex⟩
  · have:l = []:=h
    subst this
    simp [KDP,bsP]
  · unfold KDP
    simp only
    split
    · rename_i he
      have:k = l.length:=by omega
      subst this
      rw [List.drop_length]
      simpa [bsP,numL] using h
    · have e:numL l = numL (l.take k)++numL (l.drop k):=by rw [← numL_append,List.take_append_drop]
      simp only [bsP] at h ⊢
      rw [h,e]
      simp [List.append_assoc]
theorem bsDrop_fp {r:BsRow} {l:List Nat} {k:Nat}:bsFp (KDP r l k) = bsFp r:=by
  rcases r with _|⟨b,pre,more,ex⟩
  · rfl
  · unfold KDP; simp only; split <;> rfl
theorem bsDrop_ro {E:TypeId} {r:BsRow} {l:List Nat} {k:Nat} (hk:k≤l.length) (w:World) (h:(roI E r l).holds w):(roI E (KDP r l k) (l.drop k)).holds w :=
  ⟨by rw [bsDrop_fp]; exact h.1,fun w' ha=>bsDrop_P hk (h.2 w' (by rwa [bsDrop_fp] at ha))⟩
theorem Sub.drop {C:Ctx} {T:List (Nat×Value)} {H R:List Item} {E:TypeId} {r:BsRow} {l:List Nat} {k:Nat} (hk:k≤l.length) (hp:Pick (roI E r l) H R):Sub C ⟨T,roI E (KDP r l k) (l.drop k) :: R⟩ ⟨T,H⟩ :=
  Sub.turn hp (fun w h=>bsDrop_ro hk w h) (fun k' h=>by rwa [show (roI E (KDP r l k) (l.drop k)).fp = bsFp (KDP r l k) from rfl,bsDrop_fp] at h) (fun h=>by cases h)
def nthN' (l:List Nat) (i:Nat):Nat:=l.getD i 0
theorem LCode.know {P:Program} {C:Ctx} {c:Code} {Q:Exit→St→Prop} {T:List (Nat×Value)} {H:List Item} {x:Item} {φ:Prop} (hm:x∈H) (hφ:∀ w,x.holds w→φ) (h:φ→LCode P C c ⟨T,H⟩ Q):LCode P C c ⟨T,H⟩ Q:=by
  unfold LCode at h ⊢
  intro a w hr
  exact h (hφ w (hr.hp x hm)) a w hr
section
variable {P:Program} {C:Ctx} {d:Option Tmp} {ty:TypeId} {pos:String} {aft:Array Edge} {g:Option (Nat×Bool)} {st:St} {x y z:Operand} {t e:TypeId}
theorem Det.slL {p : Option Addr} {l c k m : Nat} {kk : IntKind} (ht : P.underlying t = some (.slice e)) (he : szOf P e = some m) (hx : evT st.T x = some (.slice p l c)) (hz : evT st.T z = some (.int kk (k : Int))) (h1 : k ≤ l) :
    Slots P C ⟨d,.slice t x (some z) none none,ty,pos,aft,g⟩ st (.slice (if c = k then p else p.map (·.add (k*m))) (l-k) (c-k)):=by
  unfold Slots
  intro a w hr
  have h0:(0:Int)≤(k:Int):=Int.natCast_nonneg k
  have h1':((k:Int)≤(l:Int)):=by exact_mod_cast h1
  simp [execOp,hr _ _ hx,hr _ _ hz,Instr.sliceAt,Instr.slice,run_underlying ht,Instr.sliceBounds,run_sliceBound,h0,h1',h1,KBA he]
theorem Det.slDrop {r : BsRow} {l : List Nat} {k : Nat} {kk : IntKind} (ht : P.underlying t = some (.slice e)) (he : szOf P e = some 1) (hx : evT st.T x = some (bsV r l.length)) (hz : evT st.T z = some (.int kk (k : Int))) (hk : k ≤ l.length) (hr : r ≠ none) :
    Slots P C ⟨d,.slice t x (some z) none none,ty,pos,aft,g⟩ st (bsV (KDP r l k) (l.drop k).length):=by
  rcases r with _|⟨b,pre,more,ex⟩
  · exact absurd rfl hr
  have hb:(⟨b,pre.length,none⟩:Addr).add k = ⟨b,pre.length+k,none⟩:=by simp [Addr.add]
  have h1:=Det.slL (P:=P) (C:=C) (d:=d) (ty:=ty) (pos:=pos) (aft:=aft) (g:=g) (st:=st) (x:=x) (z:=z) (t:=t) (e:=e) (p:=some ⟨b,pre.length,none⟩) (l:=l.length) (c:=l.length+more.length) ht he hx hz hk
  refine KJ h1 ?_
  by_cases hq:l.length+more.length = k
  · have e1:KDP (some (b,pre,more,ex)) l k = some (b,pre,[],numL l++(more++ex)):=if_pos hq
    rw [if_pos hq,e1,List.length_drop]
    show Value.slice (some ⟨b,pre.length,none⟩) (l.length-k) (l.length+more.length-k) = .slice (some ⟨b,pre.length,none⟩) (l.length-k) (l.length-k+0)
    congr 1
    omega
  · have e1:KDP (some (b,pre,more,ex)) l k = some (b,pre++numL (l.take k),more,ex):=if_neg hq
    rw [if_neg hq,e1,List.length_drop]
    show Value.slice (some ((⟨b,pre.length,none⟩:Addr).add (k*1))) (l.length-k) (l.length+more.length-k) = .slice (some ⟨b,(pre++numL (l.take k)).length,none⟩) (l.length-k) (l.length-k+more.length)
    rw [Nat.mul_one,hb]
    congr 1
    · rw [List.length_append,KAj,List.length_take,Nat.min_eq_left hk]
    · omega
theorem Det.indexAgg {n i : Nat} {k : IntKind} {D : TypeDesc} {cs : List Value} {v : Value} (ht : P.underlying t = some (.array n e)) (hu : P.underlying e = some D) (hD : KCl D = true) (he : szOf P e = some 1) (hx : evT st.T x = some (.agg cs.toArray)) (hz : evT st.T z = some (.int k (i : Int))) (h1 : i < n) (hv : cs[i]? = some v) :
    Slots P C ⟨d,.index t x z,ty,pos,aft,g⟩ st v:=by
  unfold Slots
  intro a w hr
  have hb:(0≤(i:Int)∧(i:Int)<(n:Int)):=⟨by omega,by omega⟩
  have hp:=KBO (P:=P) (t:=e) (cs:=cs) (o:=i) hu hD hv w
  simp [execOp,hr _ _ hx,hr _ _ hz,Instr.index,asIntOf,run_underlying ht,hb,KBA he,hp,h1]
theorem Det.field {fs : Array Field} {n : Nat} {f : Field} {cs : List Value} {v : Value} (ht : P.underlying t = some (.struct fs)) (hf : fs[n]? = some f) (hx : evT st.T x = some (.agg cs.toArray)) (hp : PartOf P f.type cs.toArray f.offset v) :
    Slots P C ⟨d,.field t x n,ty,pos,aft,g⟩ st v:=by
  unfold Slots
  intro a w hr
  have:=hp w
  simp [execOp,hr _ _ hx,Instr.field,run_underlying ht,hf,asAgg,this]
def toS (l:List Nat):ByteArray:=strOf (l.map UInt8.ofNat)
theorem Det.bsStr {r : BsRow} {l : List Nat} {k c : Nat} {H : List Item} {T : List (Nat × Value)} {E : TypeId} {s : TypeId} (hs : P.underlying s = some (.slice e)) (he : P.underlying e = some (.int .u8)) (ht : P.underlying t = some .string) (hx : evT T x = some (.slice (bsA r) k c))
    (hm:bsI E r l∈H) (hk:k≤l.length):Det P C ⟨d,.convert s t x,ty,pos,aft,g⟩ ⟨T,H⟩ (.string (toS (l.take k))):=by
  rcases r with _|⟨b,pre,more,ex⟩
  · unfold Det
    intro a w hr
    have h0:l = []:=bsI_P (hr.hp _ hm)
    subst h0
    have hk0:k = 0:=by simpa using hk
    subst hk0
    have hx':evT T x = some (.slice none 0 c):=hx
    have hcv:=run_convert_bytes_string (P:=P) w s t e none 0 c hs he ht
    simp [execOp,hr.ev hx',hcv,Conv.bytesToString,toS,strOf]
    rfl
  · have key : ∀ a w, Rel C ⟨T, H⟩ a w → Rel C ⟨T, .blk b ⟨true, pre ++ (numL l ++ (more ++ ex)), E, (0, 0)⟩ :: []⟩ a w := by
      intro a w hr
      have one:∀ y,y∈[Item.blk b ⟨true,pre++(numL l++(more++ex)),E,(0,0)⟩]→y = Item.blk b ⟨true,pre++(numL l++(more++ex)),E,(0,0)⟩:=fun y hy=>List.mem_singleton.1 hy
      refine ⟨hr.size,hr.defers,hr.tm,fun y hy=>?_,fun y hy _ q hq=>?_,List.pairwise_cons.2 ⟨fun y hy=>(by cases hy),.nil⟩,hr.fr⟩
      · rw [one y hy]; exact bsI_P (hr.hp _ hm)
      · rw [one y hy] at hq; exact hr.own _ hm rfl q hq
    have hd:=KBS (P:=P) (C:=C) (d:=d) (ty:=ty) (pos:=pos) (aft:=aft) (g:=g) (st:=⟨T,.blk b ⟨true,pre++(numL l++(more++ex)),E,(0,0)⟩ :: []⟩) (x:=x) (t:=t) (s:=s) (e:=e) (b:=b) (o:=pre.length) (l:=k) (c:=c) (B:=⟨true,pre++(numL l++(more++ex)),E,(0,0)⟩) (f:=nthN' l) hs he ht hx (.head _) (by
      rw [List.drop_left,List.take_append_of_le_length (by rw [KAj]; exact hk)]
      unfold numL vec nthN'
      apply List.ext_getElem
      · simp; omega
      · intro i h1 h2
        simp at h1 h2
        have h3:i<l.length:=by omega
        simp [List.getD,h3])
    have e1:strOf ((List.range k).map fun i=>UInt8.ofNat (nthN' l i)) = toS (l.take k):=by
      unfold toS nthN'
      congr 1
      apply List.ext_getElem
      · simp; omega
      · intro i h1 h2
        simp at h1 h2
        have h3:i<l.length:=by omega
        simp [List.getD,h3]
    rw [e1] at hd
    unfold Det at hd ⊢
    exact fun a w hr=>hd a w (key a w hr)
theorem KCk {fn:Fn} {v1 v2:Value} (hx:evT st.T x = some v1) (hy:evT st.T y = some v2):Slots P C ⟨d,.makeFunc fn #[] #[x,y],ty,pos,aft,g⟩ st (.func fn #[] #[v1,v2]):=by
  unfold Slots; intro a w hr
  simp [execOp,Instr.makeFunc,hr _ _ hx,hr _ _ hy]
theorem run_equalIn_fn (P:Program) (w:World) (n:Nat) (fn:Fn) (xs ys:Array Value) {ps rs:Array TypeId} {vv:Bool} {t:TypeId} (ht:P.underlying t = some (.func ps rs vv)):(Op.equalIn (n+1) t (.func fn xs ys) .nilFunc).run P w = .ok false w:=by
  simp [Op.equalIn,run_underlying ht]
theorem Det.eqfn {fn : Fn} {xs ys : Array Value} {ps rs : Array TypeId} {vv : Bool} {yt : TypeId} (ht : P.underlying t = some (.func ps rs vv)) (hx : evT st.T x = some (.func fn xs ys)) (hy : evT st.T y = some .nilFunc) :
    Slots P C ⟨d,.binOp .eql t x y yt,ty,pos,aft,g⟩ st (.bool false):=by
  unfold Slots; intro a w hr
  simp [execOp,eqGuard,hr _ _ hx,hr _ _ hy,binOp,Op.equal,Op.maxDepth,run_equalIn_fn P w 9999 fn xs ys ht]
end
theorem KAL (l:List Nat):(toS l).size = l.length:=by
  show (l.map UInt8.ofNat).toArray.size = _
  simp
theorem ofS_toS {l:List Nat} (h:∀ x,x∈l→x<256):ofS (toS l) = l:=by
  unfold ofS toS strOf
  rw [List.map_map]
  conv=>rhs; rw [← List.map_id l]
  refine List.map_congr_left fun x hx=>?_
  show (UInt8.ofNat x).toNat = x
  rw [UInt8.toNat_ofNat']
  exact Nat.mod_eq_of_lt (h x hx)
end Go.Proofs.YtnpeokiboiclfaaGreat
set_option linter.unusedVariables false
set_option linter.unusedSimpArgs false
namespace Go.Proofs.YtnpeokiboiclfaaGreat
open Go Go.RowKit
structure Hp where
  bits:Nat
  M:Nat
  wb:Nat
  R:Nat
  e1:Nat
  e2:Nat
  e3:Nat
  a1:Nat
  a2:Nat
  a3:Nat
  s1:Nat
  s2:Nat
  s3:Nat
  t1:Nat
  t2:Nat
  t3:Nat
  K:List Nat
  blk:Nat
def orM (M a b:Nat):Nat:=Nat.lor (Nat.mod a M) (Nat.mod b M)
def xorM (M a b:Nat):Nat:=Nat.xor (Nat.mod a M) (Nat.mod b M)
def andM (M a b:Nat):Nat:=Nat.land (Nat.mod a M) (Nat.mod b M)
def cplM (M a:Nat):Nat:=Nat.xor (Nat.sub M 1) (Nat.mod a M)
def addM (M a b:Nat):Nat:=Nat.mod (Nat.add a b) M
def Hp.rot (p:Hp) (x k:Nat):Nat:=orM p.M (Nat.mod (Nat.mul x (Nat.pow 2 (Nat.sub p.bits k))) p.M) (Nat.div x (Nat.pow 2 k))
def Hp.sg (p:Hp) (x a b c:Nat):Nat:=xorM p.M (xorM p.M (p.rot x a) (p.rot x b)) (p.rot x c)
def Hp.sh (p:Hp) (x a b c:Nat):Nat:=xorM p.M (xorM p.M (p.rot x a) (p.rot x b)) (Nat.div x (Nat.pow 2 c))
def nthN:List Nat→Nat→Nat
  | [],_=>0
  | x :: _,0=>x
  | _ :: l,n+1=>nthN l n
def Hp.beW (p:Hp) (f:Nat→Nat) (i:Nat):Nat→Nat
  | 0=>0
  | k+1=>orM p.M (Nat.mod (Nat.mul (p.beW f i k) 256) p.M) (Nat.mod (f (Nat.add (Nat.mul p.wb i) k)) p.M)
def Hp.m0 (p:Hp) (f:Nat→Nat):List Nat:=(List.range 16).map fun j=>p.beW f (15-j) p.wb
def Hp.ext (p:Hp) (l:List Nat):Nat:=addM p.M (addM p.M (addM p.M (nthN l 15) (p.sh (nthN l 14) p.s1 p.s2 p.s3)) (nthN l 6)) (p.sh (nthN l 1) p.t1 p.t2 p.t3)
def Hp.schl (p:Hp) (f:Nat→Nat):Nat→List Nat
  | 0=>p.m0 f
  | n+1=>p.ext (p.schl f n) :: p.schl f n
def Hp.wd (p:Hp) (f:Nat→Nat) (i j:Nat):Nat:=if j<i then nthN (p.schl f (i-16)) (i-1-j) else 0
structure S8 where
  a:Nat
  b:Nat
  c:Nat
  d:Nat
  e:Nat
  f:Nat
  g:Nat
  h:Nat
def S8.at (s:S8):Nat→Nat
  | 0=>s.a
  | 1=>s.b
  | 2=>s.c
  | 3=>s.d
  | 4=>s.e
  | 5=>s.f
  | 6=>s.g
  | _=>s.h
def Hp.ch (p:Hp) (e f g:Nat):Nat:=xorM p.M (andM p.M e f) (andM p.M (cplM p.M e) g)
def Hp.maj (p:Hp) (a b c:Nat):Nat:=xorM p.M (xorM p.M (andM p.M a b) (andM p.M a c)) (andM p.M b c)
def Hp.T1 (p:Hp) (s:S8) (k w:Nat):Nat:=addM p.M (addM p.M (addM p.M (addM p.M s.h (p.sg s.e p.e1 p.e2 p.e3)) (p.ch s.e s.f s.g)) k) w
def Hp.stp (p:Hp) (s:S8) (k w:Nat):S8:=⟨addM p.M (addM p.M (p.T1 s k w) (p.sg s.a p.a1 p.a2 p.a3)) (p.maj s.a s.b s.c),s.a,s.b,s.c,addM p.M s.d (p.T1 s k w),s.e,s.f,s.g⟩
def Hp.rnds (p:Hp) (W:Nat→Nat) (h:S8):Nat→S8
  | 0=>h
  | i+1=>p.stp (p.rnds W h i) (nthN p.K i) (W i)
def Hp.fin (p:Hp) (h s:S8):S8:=⟨addM p.M h.a s.a,addM p.M h.b s.b,addM p.M h.c s.c,addM p.M h.d s.d,addM p.M h.e s.e,addM p.M h.f s.f,addM p.M h.g s.g,addM p.M h.h s.h⟩
def Hp.turn (p:Hp) (h:S8) (f:Nat→Nat):S8:=p.fin h (p.rnds (p.wd f p.R) h p.R)
def Hp.blks (p:Hp) (l:List Nat):Nat→S8→S8
  | 0,h=>h
  | q+1,h=>p.turn (p.blks l q h) (fun j=>nthN (l.drop (p.blk*q)) j)
structure ShS where
  h:S8
  rest:List Nat
  n:Nat
def Hp.write (p:Hp) (s:ShS) (x:List Nat):ShS :=
  let all:=s.rest++x
  let q:=all.length/p.blk
  ⟨p.blks all q s.h,all.drop (p.blk*q),(s.n+x.length)%18446744073709551616⟩
def Hp.zs (p:Hp) (r:Nat):Nat:=(p.blk+(p.blk-2*p.wb)-(r+1)%p.blk)%p.blk
def lenP (n i:Nat):List Nat:=(List.range i).map fun i=>n*2^3%18446744073709551616/2^(56-8*i)%256
def Hp.last (p:Hp) (s:ShS):List Nat:=(((s.rest++[128])++List.replicate (p.zs s.rest.length) 0)++List.replicate (2*p.wb-8) 0)++lenP s.n 8
def Hp.wbP (p:Hp) (x k:Nat):List Nat:=(List.range k).map fun k=>x/2^(p.bits-8-8*k)%256
def Hp.outP (p:Hp) (h:S8) (i:Nat):List Nat:=(List.range i).flatMap fun i=>p.wbP (h.at i) p.wb
def Hp.sum (p:Hp) (s:ShS) (size:Nat):List Nat:=(p.outP (p.blks (p.last s) ((p.last s).length/p.blk) s.h) 8).take size
theorem lenP_succ (n i:Nat):lenP n (i+1) = lenP n i++[n*2^3%18446744073709551616/2^(56-8*i)%256]:=by simp [lenP,List.range_succ]
theorem Hp.wbP_succ (p:Hp) (x k:Nat):p.wbP x (k+1) = p.wbP x k++[x/2^(p.bits-8-8*k)%256]:=by simp [Hp.wbP,List.range_succ]
theorem Hp.outP_succ (p:Hp) (h:S8) (i:Nat):p.outP h (i+1) = p.outP h i++p.wbP (h.at i) p.wb:=by simp [Hp.outP,List.range_succ]
theorem KBU (n i:Nat):(lenP n i).length = i:=by simp [lenP]
theorem Hp.wbP_length (p:Hp) (x k:Nat):(p.wbP x k).length = k:=by simp [Hp.wbP]
theorem Hp.outP_length (p:Hp) (h:S8):∀ i,(p.outP h i).length = i*p.wb
  | 0=>by simp [Hp.outP]
  | i+1=>by rw [p.outP_succ,List.length_append,p.outP_length h i,p.wbP_length,Nat.succ_mul]
theorem Hp.write_rest (p:Hp) (s:ShS) (x:List Nat) (h:0<p.blk):(p.write s x).rest.length<p.blk:=by
  show ((s.rest++x).drop (p.blk*((s.rest++x).length/p.blk))).length<p.blk
  rw [List.length_drop]
  have h1:=Nat.div_add_mod (s.rest++x).length p.blk
  have h2:=Nat.mod_lt (s.rest++x).length h
  omega
theorem rep_succ (A:List Nat) (j:Nat):(A++List.replicate j 0)++[0] = A++List.replicate (j+1) 0:=by rw [List.append_assoc,← List.replicate_succ']
theorem nthN_get:∀ (l:List Nat) (i:Nat),nthN l i = l.getD i 0
  | [],_=>by simp [nthN]
  | x :: _,0=>by simp [nthN]
  | _ :: l,n+1=>by simp [nthN,nthN_get l n]
theorem numL_vec (l:List Nat):numL l = vec .u8 l.length (nthN l):=by
  unfold numL vec
  apply List.ext_getElem
  · simp
  · intro i h1 h2
    simp at h1
    simp [nthN_get,List.getD,h1]
theorem bs_cell {pre more ex:List Value} {l:List Nat} {j:Nat} (h:j<l.length):(pre++(numL l++(more++ex)))[j+pre.length]? = some (.int .u8 (nthN l j:Int)):=by
  rw [List.getElem?_append_right (by omega),Nat.add_sub_cancel,List.getElem?_append_left (by rw [KAj]; exact h),numL_vec,Ki _ _ _ h]
theorem Hp.m0_at (p:Hp) (f:Nat→Nat) {j:Nat} (h:j<16):nthN (p.m0 f) (15-j) = p.beW f j p.wb:=by
  rw [nthN_get]
  unfold Hp.m0
  have h1:15-j<16:=by omega
  simp [List.getD,h1]
  rw [show 15-(15-j) = j by omega]
theorem Hp.wd_16 (p:Hp) (f:Nat→Nat) {j:Nat} (h:j<16):p.wd f 16 j = p.beW f j p.wb:=by
  unfold Hp.wd
  rw [if_pos h]
  exact p.m0_at f h
theorem Hp.wd_lt (p:Hp) (f:Nat→Nat) {i d:Nat} (h1:16≤i) (h2:0<d) (h3:d≤i):p.wd f i (i-d) = nthN (p.schl f (i-16)) (d-1):=by
  unfold Hp.wd
  rw [if_pos (by omega),show i-1-(i-d) = d-1 by omega]
theorem Hp.wd_next (p:Hp) (f:Nat→Nat) {i:Nat} (h:16≤i) (j:Nat):(if j = i then p.ext (p.schl f (i-16)) else p.wd f i j) = p.wd f (i+1) j:=by
  have e:i+1-16 = (i-16)+1:=by omega
  unfold Hp.wd
  rw [e]
  by_cases h1:j = i
  · rw [if_pos h1,if_pos (by omega),show i+1-1-j = 0 by omega]; rfl
  · rw [if_neg h1]
    by_cases h2:j<i
    · rw [if_pos h2,if_pos (by omega),show i+1-1-j = (i-1-j)+1 by omega]; rfl
    · rw [if_neg h2,if_neg (by omega)]
def Hp.wb0 (p:Hp) (f:Nat→Nat) (i k j:Nat):Nat:=if j<i then p.beW f j p.wb else if j = i then p.beW f i k else 0
theorem Hp.wb0_next (p:Hp) (f:Nat→Nat) (i k j:Nat):(if j = i then p.beW f i (k+1) else p.wb0 f i k j) = p.wb0 f i (k+1) j:=by
  unfold Hp.wb0
  by_cases h1:j = i
  · rw [if_pos h1,if_neg (by omega),if_pos h1]
  · rw [if_neg h1,if_neg h1,if_neg h1]
theorem Hp.wb0_row (p:Hp) (f:Nat→Nat) (i j:Nat):p.wb0 f i p.wb j = p.wb0 f (i+1) 0 j:=by
  unfold Hp.wb0
  by_cases h1:j<i
  · rw [if_pos h1,if_pos (by omega)]
  · by_cases h2:j = i
    · rw [if_neg h1,if_pos h2,if_pos (by omega),h2]
    · rw [if_neg h1,if_neg h2,if_neg (by omega)]
      split <;> rfl
theorem Hp.wb0_start (p:Hp) (f:Nat→Nat) (j:Nat):0 = p.wb0 f 0 0 j:=by
  unfold Hp.wb0
  rw [if_neg (by omega)]
  split <;> rfl
theorem Hp.wb0_end (p:Hp) (f:Nat→Nat) (j:Nat):p.wb0 f 16 0 j = p.wd f 16 j:=by
  by_cases h:j<16
  · rw [p.wd_16 f h]; unfold Hp.wb0; rw [if_pos h]
  · unfold Hp.wb0 Hp.wd
    rw [if_neg h,if_neg h]
    split <;> rfl
theorem Hp.wb0_here (p:Hp) (f:Nat→Nat) (i k:Nat):p.wb0 f i k i = p.beW f i k:=by
  unfold Hp.wb0
  rw [if_neg (by omega),if_pos rfl]
theorem Hp.beW_step (p:Hp) (f:Nat→Nat) (i k b:Nat) (h:b = f (p.wb*i+k)):orM p.M (p.wb0 f i k i*2^8%p.M) (b%p.M) = p.beW f i (k+1):=by
  rw [p.wb0_here,h]; rfl
theorem Hp.fin_at (p:Hp) (h s:S8):∀ i,i<8→addM p.M (h.at i) (s.at i) = (p.fin h s).at i
  | 0,_=>rfl
  | 1,_=>rfl
  | 2,_=>rfl
  | 3,_=>rfl
  | 4,_=>rfl
  | 5,_=>rfl
  | 6,_=>rfl
  | 7,_=>rfl
  | n+8,h=>absurd h (by omega)
def mixF (y:Nat) (a b:Nat→Nat) (j:Nat):Nat:=if j<y then a j else b j
theorem Hp.fin_next (p:Hp) (h s:S8) {y:Nat} (hy:y<8) (j:Nat):(if j = y then addM p.M (mixF y (p.fin h s).at h.at y) (s.at y) else mixF y (p.fin h s).at h.at j) = mixF (y+1) (p.fin h s).at h.at j:=by
  unfold mixF
  by_cases h1:j = y
  · subst h1
    rw [if_pos rfl,if_neg (Nat.lt_irrefl j),if_pos (Nat.lt_succ_self j)]
    exact p.fin_at h s j hy
  · rw [if_neg h1]
    by_cases h2:j<y
    · rw [if_pos h2,if_pos (by omega)]
    · rw [if_neg h2,if_neg (by omega)]
theorem mixF_0 (a b:Nat→Nat) (j:Nat):b j = mixF 0 a b j:=(if_neg (Nat.not_lt_zero j)).symm
theorem mixF_8 (a b:Nat→Nat) {j:Nat} (h:j<8):mixF 8 a b j = a j:=if_pos h
section
variable {a b:Nat} {k:IntKind}
theorem br_or32m:Kp .or .u32 a .u32 b = some (.int .u32 ((orM 4294967296 a b:Nat):Int)):=by
  simp only [Kp,if_true,KAy,KBm]
  congr 3
  simp only [BitVec.toNat_or,BitVec.toNat_ofNat]
  exact Nat.mod_eq_of_lt (Nat.or_lt_two_pow (n:=32) (Nat.mod_lt _ (by decide)) (Nat.mod_lt _ (by decide)))
theorem KBr:Kp .xor .u32 a .u32 b = some (.int .u32 ((xorM 4294967296 a b:Nat):Int)):=by
  simp only [Kp,if_true,KAy,KBm]
  congr 3
  simp only [BitVec.toNat_xor,BitVec.toNat_ofNat]
  exact Nat.mod_eq_of_lt (Nat.xor_lt_two_pow (n:=32) (Nat.mod_lt _ (by decide)) (Nat.mod_lt _ (by decide)))
theorem br_and32m:Kp .and .u32 a .u32 b = some (.int .u32 ((andM 4294967296 a b:Nat):Int)):=by
  simp only [Kp,if_true,KAy,KBm]
  congr 3
  simp only [BitVec.toNat_and,BitVec.toNat_ofNat]
  exact Nat.mod_eq_of_lt (Nat.and_lt_two_pow (n:=32) _ (Nat.mod_lt _ (by decide)))
theorem KBu:Kp .add .u32 a .u32 b = some (.int .u32 ((addM 4294967296 a b:Nat):Int)):=by
  simp only [Kp,if_true,← Int.natCast_add,KBm]; rfl
theorem br_shr32m (h:b≤32):Kp .shr .u32 a k b = some (.int .u32 ((a/2^b:Nat):Int)):=by
  have h1:¬ ((b:Int)<0):=by omega
  simp only [Kp,if_neg h1,Int.toNat_natCast]
  rw [show min b IntKind.u32.bits = b from Nat.min_eq_left h,Int.fdiv_eq_ediv_of_nonneg _ (by exact_mod_cast Nat.zero_le _)]
  congr 2
theorem br_shl32m (h:b≤32):Kp .shl .u32 a k b = some (.int .u32 ((a*2^b%4294967296:Nat):Int)):=by
  have h1:¬ ((b:Int)<0):=by omega
  simp only [Kp,if_neg h1,Int.toNat_natCast]
  rw [show min b IntKind.u32.bits = b from Nat.min_eq_left h,show ((a:Int)*2^b) = ((a*2^b:Nat):Int) by simp,KBm]
theorem br_or64m:Kp .or .u64 a .u64 b = some (.int .u64 ((orM 18446744073709551616 a b:Nat):Int)):=by
  simp only [Kp,if_true,KAy,KAT]
  congr 3
  simp only [BitVec.toNat_or,BitVec.toNat_ofNat]
  exact Nat.mod_eq_of_lt (Nat.or_lt_two_pow (n:=64) (Nat.mod_lt _ (by decide)) (Nat.mod_lt _ (by decide)))
theorem KBq:Kp .xor .u64 a .u64 b = some (.int .u64 ((xorM 18446744073709551616 a b:Nat):Int)):=by
  simp only [Kp,if_true,KAy,KAT]
  congr 3
  simp only [BitVec.toNat_xor,BitVec.toNat_ofNat]
  exact Nat.mod_eq_of_lt (Nat.xor_lt_two_pow (n:=64) (Nat.mod_lt _ (by decide)) (Nat.mod_lt _ (by decide)))
theorem br_and64m:Kp .and .u64 a .u64 b = some (.int .u64 ((andM 18446744073709551616 a b:Nat):Int)):=by
  simp only [Kp,if_true,KAy,KAT]
  congr 3
  simp only [BitVec.toNat_and,BitVec.toNat_ofNat]
  exact Nat.mod_eq_of_lt (Nat.and_lt_two_pow (n:=64) _ (Nat.mod_lt _ (by decide)))
theorem KBt:Kp .add .u64 a .u64 b = some (.int .u64 ((addM 18446744073709551616 a b:Nat):Int)):=by
  simp only [Kp,if_true,← Int.natCast_add,KAT]; rfl
theorem KDf (h:b≤64):Kp .shr .u64 a k b = some (.int .u64 ((a/2^b:Nat):Int)):=by
  have h1:¬ ((b:Int)<0):=by omega
  simp only [Kp,if_neg h1,Int.toNat_natCast]
  rw [show min b IntKind.u64.bits = b from Nat.min_eq_left h,Int.fdiv_eq_ediv_of_nonneg _ (by exact_mod_cast Nat.zero_le _)]
  congr 2
theorem br_shl64m (h:b≤64):Kp .shl .u64 a k b = some (.int .u64 ((a*2^b%18446744073709551616:Nat):Int)):=by
  have h1:¬ ((b:Int)<0):=by omega
  simp only [Kp,if_neg h1,Int.toNat_natCast]
  rw [show min b IntKind.u64.bits = b from Nat.min_eq_left h,show ((a:Int)*2^b) = ((a*2^b:Nat):Int) by simp,KAT]
end
section
variable {P:Program} {C:Ctx} {d:Option Tmp} {ty:TypeId} {pos:String} {aft:Array Edge} {g:Option (Nat×Bool)} {st:St} {x y z:Operand} {t s:TypeId} {i:Nat}
theorem Det.cpl32 (hx:evT st.T x = some (.int .u32 (i:Int))):Slots P C ⟨d,.unOp .xor t x,ty,pos,aft,g⟩ st (.int .u32 ((cplM 4294967296 i:Nat):Int)):=by
  refine KJ (Det.cpl hx rfl) ?_
  congr 1
  rw [KAy,KBm]
  congr 1
  simp only [BitVec.toNat_xor,BitVec.toNat_ofNat]
  exact Nat.mod_eq_of_lt (Nat.xor_lt_two_pow (n:=32) (by decide) (Nat.mod_lt _ (by decide)))
theorem Det.cpl64 (hx:evT st.T x = some (.int .u64 (i:Int))):Slots P C ⟨d,.unOp .xor t x,ty,pos,aft,g⟩ st (.int .u64 ((cplM 18446744073709551616 i:Nat):Int)):=by
  refine KJ (Det.cpl hx rfl) ?_
  congr 1
  rw [KAy,KAT]
  congr 1
  simp only [BitVec.toNat_xor,BitVec.toNat_ofNat]
  exact Nat.mod_eq_of_lt (Nat.xor_lt_two_pow (n:=64) (by decide) (Nat.mod_lt _ (by decide)))
theorem Det.conv64m {k:IntKind} {src:TypeDesc} (hs:P.underlying s = some src) (ht:P.underlying t = some (.int .u64)) (hx:evT st.T x = some (.int k (i:Int))):Slots P C ⟨d,.convert s t x,ty,pos,aft,g⟩ st (.int .u64 ((i%18446744073709551616:Nat):Int)) :=
  KJ (Det.conv hs ht hx) (by rw [KAT])
end
theorem KBV {pl:List (Nat×Nat)} {z:List Value} {i:Nat} {v:Value} {rest:List (Nat×Value)} (hp:pl[i]? = some (i,1)) (h1:one v = true) (hi:i<z.length):fillL pl z ((i,v) :: rest) = fillL pl (z.set i v) rest:=by
  have hc:v.cells = #[v]:=KDD h1
  simp only [fillL,hp,hc]
  rw [if_neg (by simp; omega),splice_one _ _ _ hi]
theorem fill8_32 (a b c d e f g h:Nat):fillL ((List.range 8).map fun i=>(i*1,1)) (vec .u32 8 (fun _=>0)) [(0,.int .u32 (a:Int)),(1,.int .u32 (b:Int)),(2,.int .u32 (c:Int)),(3,.int .u32 (d:Int)),(4,.int .u32 (e:Int)),(5,.int .u32 (f:Int)),(6,.int .u32 (g:Int)),(7,.int .u32 (h:Int))] = some (vec .u32 8 (S8.at ⟨a,b,c,d,e,f,g,h⟩)):=by
  rw [KBV rfl rfl (by simp [KU]),KBV rfl rfl (by simp [KU]),KBV rfl rfl (by simp [KU]),KBV rfl rfl (by simp [KU]),KBV rfl rfl (by simp [KU]),KBV rfl rfl (by simp [KU]),KBV rfl rfl (by simp [KU]),KBV rfl rfl (by simp [KU])]
  rfl
theorem fill8_64 (a b c d e f g h:Nat):fillL ((List.range 8).map fun i=>(i*1,1)) (vec .u64 8 (fun _=>0)) [(0,.int .u64 (a:Int)),(1,.int .u64 (b:Int)),(2,.int .u64 (c:Int)),(3,.int .u64 (d:Int)),(4,.int .u64 (e:Int)),(5,.int .u64 (f:Int)),(6,.int .u64 (g:Int)),(7,.int .u64 (h:Int))] = some (vec .u64 8 (S8.at ⟨a,b,c,d,e,f,g,h⟩)):=by
  rw [KBV rfl rfl (by simp [KU]),KBV rfl rfl (by simp [KU]),KBV rfl rfl (by simp [KU]),KBV rfl rfl (by simp [KU]),KBV rfl rfl (by simp [KU]),KBV rfl rfl (by simp [KU]),KBV rfl rfl (by simp [KU]),KBV rfl rfl (by simp [KU])]
  rfl
def shL (k:IntKind) (p:Hp) (size:Nat) (h:Nat→Nat) (v:Value) (n:Nat):List Value:=.int .i64 (size:Int) :: (vec k 8 h++(vec k p.R (nthN p.K)++[v,.int .u64 (n:Int)]))
section
variable {k:IntKind} {p:Hp} {size:Nat} {h:Nat→Nat} {v:Value} {n:Nat}
theorem KAp:(shL k p size h v n).length = p.R+11:=by simp [shL,KU]; omega
theorem shL_one (hv:one v = true):KBT (shL k p size h v n):=Km rfl (KAd (vec_one _ _ _) (KAd (vec_one _ _ _) (Km hv (Km rfl Kz))))
theorem shL_h {i:Nat} (hi:i<8):(shL k p size h v n)[i+1]? = some (.int k (h i:Int)):=by
  unfold shL
  rw [List.getElem?_cons_succ,List.getElem?_append_left (by rw [KU]; exact hi),Ki _ _ _ hi]
theorem shL_k {i:Nat} (hi:i<p.R):(shL k p size h v n)[i+9]? = some (.int k (nthN p.K i:Int)):=by
  unfold shL
  rw [List.getElem?_cons_succ,List.getElem?_append_right (by rw [KU]; omega),KU,Nat.add_sub_cancel,List.getElem?_append_left (by rw [KU]; exact hi),Ki _ _ _ hi]
theorem shL_r:(shL k p size h v n)[p.R+9]? = some v:=by
  unfold shL
  rw [List.getElem?_cons_succ,List.getElem?_append_right (by rw [KU]; omega),KU,Nat.add_sub_cancel,List.getElem?_append_right (by rw [KU]; exact Nat.le_refl _),KU,Nat.sub_self]; rfl
theorem shL_n:(shL k p size h v n)[p.R+10]? = some (.int .u64 (n:Int)):=by
  unfold shL
  rw [List.getElem?_cons_succ,List.getElem?_append_right (by rw [KU]; omega),KU,show p.R+9-8 = p.R+1 by omega,List.getElem?_append_right (by rw [KU]; omega),KU,Nat.add_sub_cancel_left]; rfl
theorem set_front {A B:List Value} {i:Nat} {x:Value} (hi:i<A.length):(A++B).set i x = A.set i x++B:=by rw [List.set_append_left _ _ hi]
theorem set_back {A B:List Value} {i m:Nat} {x:Value} (hm:A.length = m):(A++B).set (m+i) x = A++B.set i x:=by rw [List.set_append_right _ _ (by omega),hm,Nat.add_sub_cancel_left]
theorem shL_seth {i x:Nat} (hi:i<8):(shL k p size h v n).set (i+1) (.int k (x:Int)) = shL k p size (fun j=>if j = i then x else h j) v n:=by
  unfold shL
  rw [List.set_cons_succ,set_front (by rw [KU]; exact hi),vec_set]
theorem shL_setr {v':Value}:(shL k p size h v n).set (p.R+9) v' = shL k p size h v' n:=by
  unfold shL
  rw [List.set_cons_succ,Nat.add_comm p.R 8,set_back (KU _ _ _)]
  have:=set_back (A:=vec k p.R (nthN p.K)) (B:=[v,.int .u64 (n:Int)]) (i:=0) (x:=v') (KU _ _ _)
  rw [Nat.add_zero] at this
  rw [this]; rfl
theorem shL_setn {n':Nat}:(shL k p size h v n).set (p.R+10) (.int .u64 (n':Int)) = shL k p size h v n':=by
  unfold shL
  rw [List.set_cons_succ,show p.R+9 = 8+(p.R+1) by omega,set_back (KU _ _ _),set_back (KU _ _ _)]; rfl
theorem shL_hs:((shL k p size h v n).drop 1).take 8 = vec k 8 h:=by
  unfold shL
  rw [List.drop_succ_cons,List.drop_zero,List.take_left' (KU _ _ _)]
theorem KDW {h':Nat→Nat} (e:∀ i,i<8→h i = h' i):shL k p size h v n = shL k p size h' v n:=by
  unfold shL; rw [Kq e]
end
theorem Hp.sum_length (p:Hp) (s:ShS) {size:Nat} (h:size≤8*p.wb):(p.sum s size).length = size:=by
  unfold Hp.sum
  rw [List.length_take,p.outP_length,Nat.min_eq_left h]
theorem br_xor8m {a b:Nat}:Kp .xor .u8 a .u8 b = some (.int .u8 ((xorM 256 a b:Nat):Int)):=by
  simp only [Kp,if_true,KAy,wrap_u8_nat]
  congr 3
  simp only [BitVec.toNat_xor,BitVec.toNat_ofNat]
  exact Nat.mod_eq_of_lt (Nat.xor_lt_two_pow (n:=8) (Nat.mod_lt _ (by decide)) (Nat.mod_lt _ (by decide)))
end Go.Proofs.YtnpeokiboiclfaaGreat
set_option linter.unusedVariables false
set_option linter.unusedSimpArgs false
set_option maxRecDepth 20000
namespace Go.Proofs.YtnpeokiboiclfaaGreat
open Go Go.RowKit
abbrev u3:=@Tryz.underlying3
abbrev u4:=@Tryz.underlying4
abbrev u5:=@Tryz.underlying5
abbrev u9:=@Tryz.underlying9
abbrev u24:=@Tryz.underlying24
abbrev u30:=@Tryz.underlying30
abbrev u31:=@Tryz.underlying31
abbrev u33:=@Tryz.underlying33
abbrev u37:=@Tryz.underlying37
abbrev u47:=@Tryz.underlying47
abbrev u53:=@Tryz.underlying53
abbrev u56:=@Tryz.underlying56
abbrev u61:=@Tryz.underlying61
abbrev u65:=@Tryz.underlying65
abbrev u68:=@Tryz.underlying68
abbrev u70:=@Tryz.underlying70
abbrev u76:=@Tryz.underlying76
abbrev u79:=@Tryz.underlying79
abbrev u81:=@Tryz.underlying81
abbrev u86:=@Tryz.underlying86
abbrev u88:=@Tryz.underlying88
abbrev u90:=@Tryz.underlying90
abbrev u98:=@Tryz.underlying98
abbrev u100:=@Tryz.underlying100
abbrev u118:=@Tryz.underlying118
abbrev u121:=@Tryz.underlying121
abbrev u124:=@Tryz.underlying124
abbrev u126:=@Tryz.underlying126
abbrev u132:=@Tryz.underlying132
abbrev u135:=@Tryz.underlying135
abbrev u140:=@Tryz.underlying140
abbrev u143:=@Tryz.underlying143
abbrev u155:=@Tryz.underlying155
abbrev u159:=@Tryz.underlying159
abbrev u161:=@Tryz.underlying161
abbrev u163:=@Tryz.underlying163
abbrev u165:=@Tryz.underlying165
abbrev u177:=@Tryz.underlying177
abbrev u183:=@Tryz.underlying183
abbrev u188:=@Tryz.underlying188
abbrev u201:=@Tryz.underlying201
abbrev u202:=@Tryz.underlying202
abbrev u204:=@Tryz.underlying204
abbrev u205:=@Tryz.underlying205
abbrev u207:=@Tryz.underlying207
abbrev u218:=@Tryz.underlying218
abbrev u220:=@Tryz.underlying220
abbrev u222:=@Tryz.underlying222
abbrev u224:=@Tryz.underlying224
abbrev u226:=@Tryz.underlying226
abbrev u246:=@Tryz.underlying246
abbrev u251:=@Tryz.underlying251
abbrev u252:=@Tryz.underlying252
abbrev u254:=@Tryz.underlying254
abbrev u255:=@Tryz.underlying255
abbrev u260:=@Tryz.underlying260
abbrev u261:=@Tryz.underlying261
abbrev u262:=@Tryz.underlying262
abbrev u266:=@Tryz.underlying266
abbrev u267:=@Tryz.underlying267
abbrev u269:=@Tryz.underlying269
abbrev u270:=@Tryz.underlying270
abbrev u278:=@Tryz.underlying278
abbrev u279:=@Tryz.underlying279
abbrev u285:=@Tryz.underlying285
abbrev u288:=@Tryz.underlying288
abbrev u295:=@Tryz.underlying295
abbrev u296:=@Tryz.underlying296
abbrev u299:=@Tryz.underlying299
abbrev u302:=@Tryz.underlying302
abbrev u305:=@Tryz.underlying305
abbrev u308:=@Tryz.underlying308
abbrev u311:=@Tryz.underlying311
abbrev u317:=@Tryz.underlying317
abbrev u320:=@Tryz.underlying320
theorem dNa {C:Ctx} {t:TypeId} {x:Operand} {ty:TypeId} {pos:String} {aft:Array Edge} {g:Option (Nat×Bool)} {v:Value} {T:List (Nat×Value)} {H:List Item} {b o:Nat} {B:Blk} {dd:Option Tmp} (hx:evT T x = some (.pointer (some ⟨b,o,none⟩)):=by exact rfl) (hm:Item.blk b B∈H:=by repeat (first|exact List.Mem.head _|apply List.Mem.tail)) (hv:LoadV Tryz.prog t B o v:=by exact KD Tryz.underlying33 rfl sz_33):Det Tryz.prog C ⟨dd,.load t x,ty,pos,aft,g⟩ ⟨T,H⟩ v:=Det.load hx hm hv
theorem dNb {C:Ctx} {t:TypeId} {x:Operand} {ty:TypeId} {pos:String} {aft:Array Edge} {g:Option (Nat×Bool)} {v:Value} {T:List (Nat×Value)} {H:List Item} {b o:Nat} {B:Blk} {dd:Option Tmp} (hx:evT T x = some (.pointer (some ⟨b,o,none⟩)):=by exact rfl) (hm:Item.blk b B∈H:=by repeat (first|exact List.Mem.head _|apply List.Mem.tail)) (hv:LoadV Tryz.prog t B o v:=by exact KD Tryz.underlying47 rfl sz_47):Det Tryz.prog C ⟨dd,.load t x,ty,pos,aft,g⟩ ⟨T,H⟩ v:=Det.load hx hm hv
theorem c_nat_Add (A B:Nat) (hA:A<W9) (hB:B<W9) (w:World)  : CF Tryz.prog 91 [natV A,natV B] w (.tuple #[natV ((A+B)%W9),.bool (decide (W9≤A+B))]):=by
  refine KV (N:=31) (rs:=[.cell 4 33,.tmp 5]) [] Tryz.func91 rfl Tryz.ntmps91 Tryz.results91 (Nb rfl) trivial rfl ?_
  refine KB (KA (oS (mB (fun b2=>?_))));refine oS (mB (fun b3=>?_));refine oS (mk (KK zr_33) (fun b4=>?_));refine oA (KC (KB (KA ?_)));refine oP (KO (v:=.int .u64 ((0:Nat):Int)) rfl) (KC (KB (KB (KA (oP (Kf (v:=Iz 0) rfl) (KC (LCode.block ?_)))))));refine Kc (α:=Nat) (fun x=>x≤9) (fun x=>⟨[(2,Pz b2),(3,Pz b3),(4,Pz b4),(6,.int .u64 ((carry A B x:Nat):Int)),(8,Iz x)],[.blk b4 ⟨true,vec .u64 9 (fun _=>0),33,(0,0)⟩,.blk b3 ⟨true,natL B,33,(0,0)⟩,.blk b2 ⟨true,vec .u64 9 (fun j=>if j<x then limb (A+B) j else limb A j),33,(0,0)⟩]⟩) (fun x=>9-x) (0) om (Ka ⟨rfl,rfl,rfl,by rw [carry_zero]; rfl,rfl,trivial⟩ mS) ?_
  intro x hx
  have hc:=carry_le A B x
  have ha:=add_limb A B x
  have hl:=limb_lt (A+B) x
  refine KB (KA (oP (KG rfl rfl (KAA (b:=9))) (KC (KB ?_))))
  first|refine KQ rfl (fun h9=>?_) (fun h9=>?_)|refine KR rfl (fun h9=>?_) (fun h9=>?_)
  ·
   have h9:x<9:=h9
   refine KM (KB (LCode.block (KB (KA (oM (oA (KC (rD [16] ?_))))))));refine aM 0 ?_;refine aM 1 ?_;refine aP 2 rfl (KE (o':=0) u33 rfl rfl rfl sz_31 dc) (aP 3 rfl (KP u31 sz_30 rfl rfl om) (aD 4 rfl (dL rfl (hv:=KI u30 rfl (by exact Ki _ _ _ om))) ?_));refine aM 5 ?_;refine aP 6 rfl (KE (o':=0) u33 rfl rfl rfl sz_31 dc) (aP 7 rfl (KP u31 sz_30 rfl rfl om) (aD 8 rfl (dL rfl (hv:=KI u30 rfl (by exact KAY _ om))) ?_));refine aM 9 ?_;refine aP 10 rfl (KCV ex_145 rfl rfl rfl om) (aM 11 ?_);refine aP 12 rfl (Det.extract rfl rfl) (aP 13 rfl (Det.extract rfl rfl) (aP 14 rfl (KE (o':=0) u33 rfl rfl rfl sz_31 dc) (aP 15 rfl (KP u31 sz_30 rfl rfl om) (aL 16 rfl (KZ rfl rfl rfl sz_30 mT lT sT (by simp) ?_)))));refine aA 17 ?_;refine aE (KA (oP (KG rfl rfl (Kj (b:=1) om)) (oM (KC ?_))));refine ⟨x+1,by omega,by omega,KAD (Sub.cells (b:=b2) (cs':=vec .u64 9 (fun j=>if j<x+1 then limb (A+B) j else limb A j)) mT ?_) (Ka ⟨rfl,rfl,rfl,congrArg (fun n:Nat=>some (Value.int .u64 (n:Int))) ?_,rfl,trivial⟩ mS)⟩
   · apply Kq
     intro j hj
     by_cases e:j = x
     · subst e
       simp
       omega
     · simp only [e,if_false]
       by_cases e2:j<x
       · rw [if_pos e2,if_pos om]
       · rw [if_neg e2,if_neg om]
   · simp
     omega
  have h9:¬ x<9:=h9
  refine Kb (KB (KA (oD dNa ?_)));refine oM ?_;refine oP (KG rfl rfl (Ku (b:=1))) (oT rfl rfl sz_33 ?_);refine oA (KC (KN ?_))
  obtain rfl:x = 9:=by omega
  refine eN (.cons ⟨_,_,_,rfl,mM,by exact KD u33 rfl sz_33⟩ (.cons rfl .nil)) ?_
  rw [natV_mod]
  have h1:(vec IntKind.u64 9 fun j=>if j<9 then limb (A+B) j else limb A j) = natL (A+B):=Kq (fun i hi=>if_pos hi)
  have h2:decide (carry A B 9 = 1) = decide (W9≤A+B):=by
    rw [carry_nine A B 9 rfl hA hB]
    by_cases h:W9≤A+B <;> simp [h]
  show Ending.returned (.tuple #[.agg (vec IntKind.u64 9 fun j=>if j<9 then limb (A+B) j else limb A j).toArray,.bool (decide (carry A B 9 = 1))]) = _
  rw [h1,h2]
  rfl
theorem c_nat_Sub (A B:Nat) (hA:A<W9) (hB:B<W9) (w:World)  : CF Tryz.prog 79 [natV A,natV B] w (.tuple #[natV (dif A B),.bool (decide (A<B))]):=by
  refine KV (N:=31) (rs:=[.cell 4 33,.tmp 5]) [] Tryz.func79 rfl Tryz.ntmps79 Tryz.results79 (Nb rfl) trivial rfl ?_
  refine KB (KA (oS (mB (fun b2=>?_))));refine oS (mB (fun b3=>?_));refine oS (mk (KK zr_33) (fun b4=>?_));refine oA (KC (KB (KA ?_)));refine oP (KO (v:=.int .u64 ((0:Nat):Int)) rfl) (KC (KB (KB (KA (oP (Kf (v:=Iz 0) rfl) (KC (LCode.block ?_)))))));refine Kc (α:=Nat) (fun x=>x≤9) (fun x=>⟨[(2,Pz b2),(3,Pz b3),(4,Pz b4),(6,.int .u64 ((borrow A B x:Nat):Int)),(8,Iz x)],[.blk b4 ⟨true,vec .u64 9 (fun _=>0),33,(0,0)⟩,.blk b3 ⟨true,natL B,33,(0,0)⟩,.blk b2 ⟨true,vec .u64 9 (fun j=>if j<x then limb (dif A B) j else limb A j),33,(0,0)⟩]⟩) (fun x=>9-x) (0) om (Ka ⟨rfl,rfl,rfl,by rw [borrow_zero]; rfl,rfl,trivial⟩ mS) ?_
  intro x hx
  have hc:=borrow_le A B x
  refine KB (KA (oP (KG rfl rfl (KAA (b:=9))) (KC (KB ?_))))
  first|refine KQ rfl (fun h9=>?_) (fun h9=>?_)|refine KR rfl (fun h9=>?_) (fun h9=>?_)
  ·
   have h9:x<9:=h9
   have ha:=sub_limb A B x hA hB h9
   have hb:=borrow_succ A B x
   refine KM (KB (LCode.block (KB (KA (oM (oA (KC (rD [16] ?_))))))));refine aM 0 ?_;refine aM 1 ?_;refine aP 2 rfl (KE (o':=0) u33 rfl rfl rfl sz_31 dc) (aP 3 rfl (KP u31 sz_30 rfl rfl om) (aD 4 rfl (dL rfl (hv:=KI u30 rfl (by exact Ki _ _ _ om))) ?_));refine aM 5 ?_;refine aP 6 rfl (KE (o':=0) u33 rfl rfl rfl sz_31 dc) (aP 7 rfl (KP u31 sz_30 rfl rfl om) (aD 8 rfl (dL rfl (hv:=KI u30 rfl (by exact KAY _ om))) ?_));refine aM 9 ?_;refine aP 10 rfl (Det.sub64 ex_130 rfl rfl rfl om) (aM 11 ?_);refine aP 12 rfl (Det.extract rfl rfl) (aP 13 rfl (Det.extract rfl rfl) (aP 14 rfl (KE (o':=0) u33 rfl rfl rfl sz_31 dc) (aP 15 rfl (KP u31 sz_30 rfl rfl om) (aL 16 rfl (KZ rfl rfl rfl sz_30 mT lT sT (by simp) ?_)))));refine aA 17 ?_;refine aE (KA (oP (KG rfl rfl (Kj (b:=1) om)) (oM (KC ?_))))
   refine ⟨x+1,by omega,by omega,KAD (Sub.cells (b:=b2) (cs':=vec .u64 9 (fun j=>if j<x+1 then limb (dif A B) j else limb A j)) mT ?_) (Ka ⟨rfl,rfl,rfl,congrArg (fun n:Nat=>some (Value.int .u64 (n:Int))) ?_,rfl,trivial⟩ mS)⟩
   · apply Kq
     intro j hj
     by_cases e:j = x
     · subst e
       simp
       omega
     · simp only [e,if_false]
       by_cases e2:j<x
       · rw [if_pos e2,if_pos om]
       · rw [if_neg e2,if_neg om]
   · simp
     omega
  have h9:¬ x<9:=h9
  refine Kb (KB (KA (oD dNa ?_)));refine oM ?_;refine oP (KG rfl rfl (Ku (b:=1))) (oT rfl rfl sz_33 ?_);refine oA (KC (KN ?_))
  obtain rfl:x = 9:=by omega
  refine eN (.cons ⟨_,_,_,rfl,mM,by exact KD u33 rfl sz_33⟩ (.cons rfl .nil)) ?_
  have h1:(vec IntKind.u64 9 fun j=>if j<9 then limb (dif A B) j else limb A j) = natL (dif A B):=Kq (fun i hi=>if_pos hi)
  have h2:decide (borrow A B 9 = 1) = decide (A<B):=by
    rw [borrow_nine A B 9 rfl hA hB]
    by_cases h:A<B <;> simp [h]
  show Ending.returned (.tuple #[.agg (vec IntKind.u64 9 fun j=>if j<9 then limb (dif A B) j else limb A j).toArray,.bool (decide (borrow A B 9 = 1))]) = _
  rw [h1,h2]
  rfl
theorem c_nat_used (A b:Nat) (wr:Bool) (w:World) (hb:(Item.blk b ⟨wr,natL A,33,(0,0)⟩).holds w) (hA:A<W9):CF Tryz.prog 131 [Pz b] w (Iz (nw A)):=by
  refine KV (N:=19) (rs:=[.tmp 2]) [.blk b ⟨false,natL A,33,(0,0)⟩] Tryz.func131 rfl Tryz.ntmps131 Tryz.results131 (Nb rfl) ⟨hb,trivial⟩ rfl ?_
  refine KB (KA (oP (KO (v:=Iz 0) rfl) (KC (KB (KA (oP (KO (v:=Iz 9) rfl) (KC (KB (LCode.block (Kc (α:=Nat) (fun x=>x≤9∧A<2^(64*x)) (fun x=>⟨[(0,Pz b),(3,Iz x)],[.blk b ⟨false,natL A,33,(0,0)⟩]⟩) (fun x=>x) (9) (⟨by omega,KBQ hA 9 rfl⟩) (Ka ⟨rfl,rfl,trivial⟩ mS) ?_))))))))))
  rintro x ⟨hx,hlt⟩
  refine KB (KB ?_)
  by_cases h0:0<x
  ·
   refine KA (oM ?_);refine oP (KG rfl rfl (br_t (KAb (b:=0)) h0)) (oM ?_);refine oGM ?_;refine oGM ?_;refine oGP (KG rfl rfl (KAe (b:=1) om om)) (oGP (KF rfl) (oGP (KE (o':=0) u33 rfl rfl rfl sz_31 dc) (oGP (KP u31 sz_30 rfl rfl om) (Kt rfl rfl (dL rfl (hv:=KI u30 rfl (by exact KAY _ (show x-1<9 by omega)))) (Nb rfl) ?_))));refine oGP (KG rfl rfl (Ku (b:=0))) (oP (Kd rfl rfl) (KC ?_))
   first|refine KQ rfl (fun h15=>?_) (fun h15=>?_)|refine KR rfl (fun h15=>?_) (fun h15=>?_)
   ·
    have h15:limb A (x-1) = 0:=by have:=h15; simpa using this
    refine KM (LCode.block (KA (oM ?_)));refine oP (KG rfl rfl (KAe (b:=1) om om)) (oA (KC ?_));refine ⟨x-1,⟨by omega,?_⟩,by omega,Ka ⟨rfl,rfl,trivial⟩ mS⟩
    exact lt_of_limb_zero (A:=A) (n:=x-1) (by rw [show x-1+1 = x by omega]; exact hlt) h15
   have h15:¬ limb A (x-1) = 0:=by have:=h15; simpa using this
   refine Kb (KB (KA (oM (oA (KC (KN ?_))))))
   have he:nw A = x:=nw_eq hlt (.inr (le_of_limb (A:=A) (n:=x-1) (by rw [show x-1+1 = x by omega]; exact hlt) h15))
   refine eN (.cons rfl .nil) ?_
   rw [he]; rfl
  refine KA (oM ?_);refine oP (KG rfl rfl (br_f (KAb (b:=0)) h0)) (oM ?_);refine oK (oK (oK (oK (oK (oK (oK (oK (oP (KT rfl rfl) (KC (KH rfl (Kb (KB (KA (oM ?_))))))))))))));refine oA (KC (KN ?_))
  have he:nw A = x:=nw_eq hlt (.inl om)
  refine eN (.cons rfl .nil) ?_
  rw [he]; rfl
theorem KAz (A B:Nat) (hA:A<W9) (hB:B<W9) (w:World)  : CF Tryz.prog 46 [natV A,natV B] w (.int .i64 (cmpI A B)):=by
  refine KV (N:=30) (rs:=[.tmp 4]) [] Tryz.func46 rfl Tryz.ntmps46 Tryz.results46 (Nb rfl) trivial rfl ?_
  refine KB (KA (oS (mB (fun b2=>?_))));refine oS (mB (fun b3=>?_));refine oP (KO (v:=Iz 0) rfl) (KC (KB (KB (KA (oP (KO (v:=Iz 8) rfl) (KC (LCode.block (Kc (α:=Nat) (fun x=>x≤9∧A/2^(64*x) = B/2^(64*x)) (fun x=>⟨[(2,Pz b2),(3,Pz b3),(5,.int .i64 ((x:Int)-1))],[.blk b3 ⟨true,natL B,33,(0,0)⟩,.blk b2 ⟨true,natL A,33,(0,0)⟩]⟩) (fun x=>x) (9) (⟨by omega,by rw [Nat.div_eq_of_lt (KBQ hA 9 rfl),Nat.div_eq_of_lt (KBQ hB 9 rfl)]⟩) (Ka ⟨rfl,rfl,rfl,trivial⟩ mS) ?_))))))))
  rintro x ⟨hx,hab⟩
  refine KB (KB ?_)
  rcases Nat.eq_zero_or_pos x with h0|h0
  ·
   refine KA (oM ?_);refine oP (KG (v:=.bool false) rfl rfl (by subst h0; rfl)) ?_;refine KC (KH rfl (Kb (KB (KA (oP (KO (v:=Iz 0) rfl) (KC (KN ?_)))))))
   have he:A = B:=by subst h0; simpa using hab
   refine eN (.cons rfl .nil) ?_
   simp [resOf,cmpI,he]
  obtain ⟨x,rfl⟩:∃ y,x = y+1:=⟨x-1,by omega⟩
  refine KA (oM ?_);refine oP (KG (v:=.bool true) rfl rfl (by simp [Kp])) (KC (KS rfl (KM (KB (LCode.block (LCode.block (KB (rD [] ?_))))))));refine aP 0 rfl (Kf (v:=Iz x) (by show some _ = some _; congr 2; omega)) ?_;refine aP 1 rfl (KE (o':=0) u33 rfl rfl rfl sz_31 dc) (aP 2 rfl (KP u31 sz_30 rfl rfl om) (aD 3 rfl (dL rfl (hv:=KI u30 rfl (by exact KAY _ (show x<9 by omega)))) ?_));refine aP 4 rfl (Kf (v:=Iz x) (by show some _ = some _; congr 2; omega)) ?_;refine aP 5 rfl (KE (o':=0) u33 rfl rfl rfl sz_31 dc) (aP 6 rfl (KP u31 sz_30 rfl rfl om) (aD 7 rfl (dL rfl (hv:=KI u30 rfl (by exact KAY _ (show x<9 by omega)))) ?_));refine aP 8 rfl (KG rfl rfl (KAA)) (aA 9 ?_);refine aE ?_
  first|refine KQ rfl (fun h10=>?_) (fun h10=>?_)|refine KR rfl (fun h10=>?_) (fun h10=>?_)
  ·
   refine KB (KA (oA (KC (KN ?_))))
   have he:A<B:=lt_of_limb hab h10
   refine eN (.cons rfl .nil) ?_
   simp [resOf,cmpI,he]
  refine KB (rD [] ?_);refine aP 0 rfl (Kf (v:=Iz x) (by show some _ = some _; congr 2; omega)) ?_;refine aP 1 rfl (KE (o':=0) u33 rfl rfl rfl sz_31 dc) (aP 2 rfl (KP u31 sz_30 rfl rfl om) (aD 3 rfl (dL rfl (hv:=KI u30 rfl (by exact KAY _ (show x<9 by omega)))) ?_));refine aP 4 rfl (Kf (v:=Iz x) (by show some _ = some _; congr 2; omega)) ?_;refine aP 5 rfl (KE (o':=0) u33 rfl rfl rfl sz_31 dc) (aP 6 rfl (KP u31 sz_30 rfl rfl om) (aD 7 rfl (dL rfl (hv:=KI u30 rfl (by exact KAY _ (show x<9 by omega)))) ?_));refine aP 8 rfl (KG rfl rfl (KAb)) (aA 9 ?_);refine aE ?_
  first|refine KQ rfl (fun h20=>?_) (fun h20=>?_)|refine KR rfl (fun h20=>?_) (fun h20=>?_)
  ·
   refine KB (KA (oP (KO (v:=Iz 1) rfl) (KC (KN ?_))))
   have he:B<A:=lt_of_limb hab.symm h20
   have he2:¬ A<B:=by omega
   refine eN (.cons rfl .nil) ?_
   simp [resOf,cmpI,he,he2]
  refine KM (KA ?_);refine oP (Kf (v:=Iz x) (by show some _ = some _; congr 2; omega)) ?_;refine oP (KG rfl rfl rfl) (oA (KC ?_));refine ⟨x,⟨by omega,?_⟩,by omega,Ka ⟨rfl,rfl,?_,trivial⟩ mS⟩
  · have h1:limb A x = limb B x:=by omega
    exact (div_eq_iff_limb A B x).2 ⟨hab,h1⟩
  · exact congrArg (fun i:Int=>some (Value.int .i64 i)) (KBj om om)
theorem c_Mul64 (x y:Nat) (hx:x<18446744073709551616) (hy:y<18446744073709551616) (w:World)  : CF Tryz.prog 123 [.int .u64 ((x:Nat):Int),.int .u64 ((y:Nat):Int)] w (.tuple #[.int .u64 ((x*y/18446744073709551616:Nat):Int),.int .u64 ((x*y%18446744073709551616:Nat):Int)]):=by
  refine KV (N:=51) (rs:=[.tmp 4,.tmp 5]) [] Tryz.func123 rfl Tryz.ntmps123 Tryz.results123 (Nb rfl) trivial rfl ?_
  refine KB (KA (oP (KO (v:=.int .u64 ((0:Nat):Int)) rfl) (oP (KO (v:=.int .u64 ((0:Nat):Int)) rfl) (KC (KB (KA (oM ?_)))))));refine oP (KG rfl rfl (KBR (b:=4294967295) om om)) (oA (KC (KB (KA (oM ?_)))));refine oP (KG rfl rfl (KAm (b:=32) om)) (oA (KC (KB (KA (oM ?_)))));refine oP (KG rfl rfl (KBR (b:=4294967295) om om)) (oA (KC (KB (KA (oM ?_)))));refine oP (KG rfl rfl (KAm (b:=32) om)) (oA (KC (KB (KA (oM (oM ?_))))));refine oP (KG rfl rfl (KBD)) (oA (KC (KB (KA (oM (oM ?_))))));refine oP (KG rfl rfl (KBD)) (oM ?_);refine oP (KG rfl rfl (KAm (b:=32) om)) (oP (KG rfl rfl (KAc)) (oA (KC (KB (KA (oM ?_))))));refine oP (KG rfl rfl (KBR (b:=4294967295) om om)) (oA (KC (KB (KA (oM ?_)))));refine oP (KG rfl rfl (KAm (b:=32) om)) (oA (KC (KB (KA (oM (oM (oM ?_)))))));refine oP (KG rfl rfl (KBD)) (oP (KG rfl rfl (KAc)) (oA (KC (KB (KA (oM (oM ?_)))))));refine oP (KG rfl rfl (KBD)) (oM ?_);refine oP (KG rfl rfl (KAc)) (oM ?_)
  refine oP (KG rfl rfl (KAm (b:=32) om)) (oP (KG rfl rfl (KAc)) (oA (KC (KB (KA (oM (oM ?_)))))));refine oP (KG rfl rfl (KBD)) (oA (KC (KN ?_)));refine eN (.cons rfl (.cons rfl .nil)) ?_
  have h:=mul64_hi x y hx hy
  rw [← h]
  rfl
def lenTab:List UInt8:=[0,1,2,2,3,3,3,3,4,4,4,4,4,4,4,4,5,5,5,5,5,5,5,5,5,5,5,5,5,5,5,5,6,6,6,6,6,6,6,6,6,6,6,6,6,6,6,6,6,6,6,6,6,6,6,6,6,6,6,6,6,6,6,6,7,7,7,7,7,7,7,7,7,7,7,7,7,7,7,7,7,7,7,7,7,7,7,7,7,7,7,7,7,7,7,7,7,7,7,7,7,7,7,7,7,7,7,7,7,7,7,7,7,7,7,7,7,7,7,7,7,7,7,7,7,7,7,7,8,8,8,8,8,8,8,8,8,8,8,8,8,8,8,8,8,8,8,8,8,8,8,8,8,8,8,8,8,8,8,8,8,8,8,8,8,8,8,8,8,8,8,8,8,8,8,8,8,8,8,8,8,8,8,8,8,8,8,8,8,8,8,8,8,8,8,8,8,8,8,8,8,8,8,8,8,8,8,8,8,8,8,8,8,8,8,8,8,8,8,8,8,8,8,8,8,8,8,8,8,8,8,8,8,8,8,8,8,8,8,8,8,8,8,8,8,8,8,8,8,8,8,8,8,8,8,8]
theorem len_tab:∀ i,i<256→(lenTab.getD i 0).toNat = blen i:=by decide +kernel
theorem KBp (i:Nat) (h:i<256):(Value.int .u8 ((lenTab.getD ((i:Int).toNat) 0).toNat:Int)) = .int .u8 ((blen i:Nat):Int):=by rw [Int.toNat_natCast,len_tab i h]
theorem KCF (z:Nat):blen (z%256)≤8:=KBM (Nat.mod_lt _ dc)
theorem c_Len64 (x:Nat) (hx:x<18446744073709551616) (w:World)  : CF Tryz.prog 132 [.int .u64 ((x:Nat):Int)] w (Iz (blen x)):=by
  refine KV (N:=25) (rs:=[.tmp 2]) [] Tryz.func132 rfl Tryz.ntmps132 Tryz.results132 (Nb rfl) trivial rfl ?_
  refine KB (KA (oP (KO (v:=Iz 0) rfl) (KC (KB (KB (KA (oM ?_)))))));refine oP (KG rfl rfl (KBf (b:=4294967296))) (KC ?_)
  first|refine KQ rfl (fun h4=>?_) (fun h4=>?_)|refine KR rfl (fun h4=>?_) (fun h4=>?_)
  ·
   refine KB (KA (oM ?_));refine oP (KG rfl rfl (KAm (b:=32) om)) (oA (KC (KA ?_)));refine oP (KO (v:=Iz 32) rfl) (KC (KB (KB (KA (oM ?_)))));refine oP (KG rfl rfl (KBf (b:=65536))) (KC ?_)
   first|refine KQ rfl (fun h8=>?_) (fun h8=>?_)|refine KR rfl (fun h8=>?_) (fun h8=>?_)
   ·
    refine KB (KA (oM ?_));refine oP (KG rfl rfl (KAm (b:=16) om)) (oA (KC (KA (oM ?_))));refine oP (KG rfl rfl (Kj (b:=16) om)) (oA (KC (KB (KB (KA (oM ?_))))));refine oP (KG rfl rfl (KBf (b:=256))) (KC ?_)
    first|refine KQ rfl (fun h14=>?_) (fun h14=>?_)|refine KR rfl (fun h14=>?_) (fun h14=>?_)
    ·
     refine KB (KA (oM ?_));refine oP (KG rfl rfl (KAm (b:=8) om)) (oA (KC (KA (oM ?_))));refine oP (KG rfl rfl (Kj (b:=8) om)) (oA (KC (KB (KA (oM (oM ?_))))));refine oP (KAV u30 u5 rfl) ?_;refine oP (KJ (KAE u9 rfl rfl om (by show ((_%256:Nat):Int)<256; omega)) (KBp _ (Nat.mod_lt _ dc))) ?_;refine oP (KAo u5 u3 rfl (Nat.lt_of_le_of_lt (KCF _) dc)) (oP (KG rfl rfl (Kj (Nat.lt_of_le_of_lt (Nat.add_le_add_left (KCF _) _) om))) (oA (KC (KN ?_))))
     have hm:∀ z:Nat,z<256→blen (z%256) = blen z:=fun z hz=>by rw [Nat.mod_eq_of_lt hz]
     refine eN (.cons rfl .nil) ?_;refine congrArg (fun n:Nat=>Ending.returned (.int .i64 (n:Int))) ?_
     have e32:=KBl (k:=32) (show 2^32≤x by omega)
     have e16:=KBl (k:=16) (show 2^16≤(x/2^32) by omega)
     have e8:=KBl (k:=8) (show 2^8≤((x/2^32)/2^16) by omega)
     rw [hm (((x/2^32)/2^16)/2^8) om]
     omega
    refine KM (KB (KA (oM (oM ?_))));refine oP (KAV u30 u5 rfl) ?_;refine oP (KJ (KAE u9 rfl rfl om (by show ((_%256:Nat):Int)<256; omega)) (KBp _ (Nat.mod_lt _ dc))) ?_;refine oP (KAo u5 u3 rfl (Nat.lt_of_le_of_lt (KCF _) dc)) (oP (KG rfl rfl (Kj (Nat.lt_of_le_of_lt (Nat.add_le_add_left (KCF _) _) om))) (oA (KC (KN ?_))))
    have hm:∀ z:Nat,z<256→blen (z%256) = blen z:=fun z hz=>by rw [Nat.mod_eq_of_lt hz]
    refine eN (.cons rfl .nil) ?_;refine congrArg (fun n:Nat=>Ending.returned (.int .i64 (n:Int))) ?_
    have e32:=KBl (k:=32) (show 2^32≤x by omega)
    have e16:=KBl (k:=16) (show 2^16≤(x/2^32) by omega)
    rw [hm ((x/2^32)/2^16) om]
    omega
   refine KM (KB (KB (KA (oM ?_))));refine oP (KG rfl rfl (KBf (b:=256))) (KC ?_)
   first|refine KQ rfl (fun h14=>?_) (fun h14=>?_)|refine KR rfl (fun h14=>?_) (fun h14=>?_)
   ·
    refine KB (KA (oM ?_));refine oP (KG rfl rfl (KAm (b:=8) om)) (oA (KC (KA (oM ?_))));refine oP (KG rfl rfl (Kj (b:=8) om)) (oA (KC (KB (KA (oM (oM ?_))))));refine oP (KAV u30 u5 rfl) ?_;refine oP (KJ (KAE u9 rfl rfl om (by show ((_%256:Nat):Int)<256; omega)) (KBp _ (Nat.mod_lt _ dc))) ?_;refine oP (KAo u5 u3 rfl (Nat.lt_of_le_of_lt (KCF _) dc)) (oP (KG rfl rfl (Kj (Nat.lt_of_le_of_lt (Nat.add_le_add_left (KCF _) _) om))) (oA (KC (KN ?_))))
    have hm:∀ z:Nat,z<256→blen (z%256) = blen z:=fun z hz=>by rw [Nat.mod_eq_of_lt hz]
    refine eN (.cons rfl .nil) ?_;refine congrArg (fun n:Nat=>Ending.returned (.int .i64 (n:Int))) ?_
    have e32:=KBl (k:=32) (show 2^32≤x by omega)
    have e8:=KBl (k:=8) (show 2^8≤(x/2^32) by omega)
    rw [hm ((x/2^32)/2^8) om]
    omega
   refine KM (KB (KA (oM (oM ?_))));refine oP (KAV u30 u5 rfl) ?_;refine oP (KJ (KAE u9 rfl rfl om (by show ((_%256:Nat):Int)<256; omega)) (KBp _ (Nat.mod_lt _ dc))) ?_;refine oP (KAo u5 u3 rfl (Nat.lt_of_le_of_lt (KCF _) dc)) (oP (KG rfl rfl (Kj (Nat.lt_of_le_of_lt (Nat.add_le_add_left (KCF _) _) om))) (oA (KC (KN ?_))))
   have hm:∀ z:Nat,z<256→blen (z%256) = blen z:=fun z hz=>by rw [Nat.mod_eq_of_lt hz]
   refine eN (.cons rfl .nil) ?_;refine congrArg (fun n:Nat=>Ending.returned (.int .i64 (n:Int))) ?_
   have e32:=KBl (k:=32) (show 2^32≤x by omega)
   rw [hm (x/2^32) om]
   omega
  refine KM (KB (KB (KA (oM ?_))));refine oP (KG rfl rfl (KBf (b:=65536))) (KC ?_)
  first|refine KQ rfl (fun h8=>?_) (fun h8=>?_)|refine KR rfl (fun h8=>?_) (fun h8=>?_)
  ·
   refine KB (KA (oM ?_));refine oP (KG rfl rfl (KAm (b:=16) om)) (oA (KC (KA (oM ?_))));refine oP (KG rfl rfl (Kj (b:=16) om)) (oA (KC (KB (KB (KA (oM ?_))))));refine oP (KG rfl rfl (KBf (b:=256))) (KC ?_)
   first|refine KQ rfl (fun h14=>?_) (fun h14=>?_)|refine KR rfl (fun h14=>?_) (fun h14=>?_)
   ·
    refine KB (KA (oM ?_));refine oP (KG rfl rfl (KAm (b:=8) om)) (oA (KC (KA (oM ?_))));refine oP (KG rfl rfl (Kj (b:=8) om)) (oA (KC (KB (KA (oM (oM ?_))))));refine oP (KAV u30 u5 rfl) ?_;refine oP (KJ (KAE u9 rfl rfl om (by show ((_%256:Nat):Int)<256; omega)) (KBp _ (Nat.mod_lt _ dc))) ?_;refine oP (KAo u5 u3 rfl (Nat.lt_of_le_of_lt (KCF _) dc)) (oP (KG rfl rfl (Kj (Nat.lt_of_le_of_lt (Nat.add_le_add_left (KCF _) _) om))) (oA (KC (KN ?_))))
    have hm:∀ z:Nat,z<256→blen (z%256) = blen z:=fun z hz=>by rw [Nat.mod_eq_of_lt hz]
    refine eN (.cons rfl .nil) ?_;refine congrArg (fun n:Nat=>Ending.returned (.int .i64 (n:Int))) ?_
    have e16:=KBl (k:=16) (show 2^16≤x by omega)
    have e8:=KBl (k:=8) (show 2^8≤(x/2^16) by omega)
    rw [hm ((x/2^16)/2^8) om]
    omega
   refine KM (KB (KA (oM (oM ?_))));refine oP (KAV u30 u5 rfl) ?_;refine oP (KJ (KAE u9 rfl rfl om (by show ((_%256:Nat):Int)<256; omega)) (KBp _ (Nat.mod_lt _ dc))) ?_;refine oP (KAo u5 u3 rfl (Nat.lt_of_le_of_lt (KCF _) dc)) (oP (KG rfl rfl (Kj (Nat.lt_of_le_of_lt (Nat.add_le_add_left (KCF _) _) om))) (oA (KC (KN ?_))))
   have hm:∀ z:Nat,z<256→blen (z%256) = blen z:=fun z hz=>by rw [Nat.mod_eq_of_lt hz]
   refine eN (.cons rfl .nil) ?_;refine congrArg (fun n:Nat=>Ending.returned (.int .i64 (n:Int))) ?_
   have e16:=KBl (k:=16) (show 2^16≤x by omega)
   rw [hm (x/2^16) om]
   omega
  refine KM (KB (KB (KA (oM ?_))));refine oP (KG rfl rfl (KBf (b:=256))) (KC ?_)
  first|refine KQ rfl (fun h14=>?_) (fun h14=>?_)|refine KR rfl (fun h14=>?_) (fun h14=>?_)
  ·
   refine KB (KA (oM ?_));refine oP (KG rfl rfl (KAm (b:=8) om)) (oA (KC (KA (oM ?_))));refine oP (KG rfl rfl (Kj (b:=8) om)) (oA (KC (KB (KA (oM (oM ?_))))));refine oP (KAV u30 u5 rfl) ?_;refine oP (KJ (KAE u9 rfl rfl om (by show ((_%256:Nat):Int)<256; omega)) (KBp _ (Nat.mod_lt _ dc))) ?_;refine oP (KAo u5 u3 rfl (Nat.lt_of_le_of_lt (KCF _) dc)) (oP (KG rfl rfl (Kj (Nat.lt_of_le_of_lt (Nat.add_le_add_left (KCF _) _) om))) (oA (KC (KN ?_))))
   have hm:∀ z:Nat,z<256→blen (z%256) = blen z:=fun z hz=>by rw [Nat.mod_eq_of_lt hz]
   refine eN (.cons rfl .nil) ?_;refine congrArg (fun n:Nat=>Ending.returned (.int .i64 (n:Int))) ?_
   have e8:=KBl (k:=8) (show 2^8≤x by omega)
   rw [hm (x/2^8) om]
   omega
  refine KM (KB (KA (oM (oM ?_))));refine oP (KAV u30 u5 rfl) ?_;refine oP (KJ (KAE u9 rfl rfl om (by show ((_%256:Nat):Int)<256; omega)) (KBp _ (Nat.mod_lt _ dc))) ?_;refine oP (KAo u5 u3 rfl (Nat.lt_of_le_of_lt (KCF _) dc)) (oP (KG rfl rfl (Kj (Nat.lt_of_le_of_lt (Nat.add_le_add_left (KCF _) _) om))) (oA (KC (KN ?_))))
  have hm:∀ z:Nat,z<256→blen (z%256) = blen z:=fun z hz=>by rw [Nat.mod_eq_of_lt hz]
  refine eN (.cons rfl .nil) ?_;refine congrArg (fun n:Nat=>Ending.returned (.int .i64 (n:Int))) ?_
  rw [hm x om]
  omega
theorem c_LeadingZeros64 (x:Nat) (hx:x<18446744073709551616) (w:World)  : CF Tryz.prog 178 [.int .u64 ((x:Nat):Int)] w (Iz (64-blen x)):=by
  refine KV (N:=6) (rs:=[.tmp 2]) [] Tryz.func178 rfl Tryz.ntmps178 Tryz.results178 (Nb rfl) trivial rfl ?_
  refine KB (KA (oP (KO (v:=Iz 0) rfl) (KC (KB (KA (oM ?_))))));refine oS (cF rfl en_132 rfl (fun w hw=>c_Len64 _ om w) ?_);refine oP (KG rfl rfl (KAe (a:=64) (KBM hx) om)) (oA (KC (KN ?_)));refine eN (.cons rfl .nil) ?_
  rfl
theorem c_Div64 (hi lo y:Nat) (hlo:lo<18446744073709551616) (hy:9223372036854775808≤y) (hy2:y<18446744073709551616) (hh:hi<y) (w:World)  : CF Tryz.prog 206 [.int .u64 ((hi:Nat):Int),.int .u64 ((lo:Nat):Int),.int .u64 ((y:Nat):Int)] w (.tuple #[.int .u64 (((hi*18446744073709551616+lo)/y:Nat):Int),.int .u64 (((hi*18446744073709551616+lo)%y:Nat):Int)]):=by
  have hb:64-blen y = 0:=by have:=le_blen (A:=y) (n:=63) om; omega
  refine KV (N:=135) (rs:=[.tmp 6,.tmp 7]) [] Tryz.func206 rfl Tryz.ntmps206 Tryz.results206 (Nb rfl) trivial rfl ?_
  refine KB (KA (oP (KO (v:=.int .u64 ((0:Nat):Int)) rfl) (oP (KO (v:=.int .u64 ((0:Nat):Int)) rfl) (KC (KB (KB (KA (oM ?_))))))));refine oP (KG rfl rfl (br_f (Ku (b:=0)) om)) (KC (KH rfl (KM (KB (KB (KA (oM (oM ?_))))))));refine oP (KG rfl rfl (br_f br_leq om)) (KC (KH rfl (KM (KB (KB (KA (oM ?_)))))));refine oP (KG rfl rfl (Ku (b:=0))) (KC ?_)
  first|refine KQ rfl (fun h27=>?_) (fun h27=>?_)|refine KR rfl (fun h27=>?_) (fun h27=>?_)
  ·
   refine KB (rD [] (aM 0 ?_));refine aM 1 ?_;refine aP 2 rfl (KG rfl rfl (br_quo64 om om)) (aM 3 ?_);refine aM 4 ?_;refine aP 5 rfl (KG rfl rfl (br_rem64 om)) (aA 6 ?_);refine aA 7 ?_;refine aE (KN (eN (.cons rfl (.cons rfl .nil)) ?_))
   subst h27
   rw [Nat.zero_mul,Nat.zero_add]
   rfl
  refine KM (KB (KA (oM ?_)));refine oS (cF rfl en_178 rfl (fun w hw=>c_LeadingZeros64 _ om w) ?_);refine oP (KJ (v:=.int .u64 ((64-blen y:Nat):Int)) (KCA u3 u56 rfl om) (by rw [hb])) ?_;refine oA (KC (KB (KA (oM (oM ?_)))));refine oP (KJ (KG rfl rfl (KCK (b:=0))) (vi (b:=y) om)) (oA (KC (KB (KA (oM ?_)))));refine oP (KG rfl rfl (KAm (b:=32) om)) (oA (KC (KB (KA (oM ?_)))));refine oP (KJ (KG rfl rfl (KBR (b:=4294967295) om om)) (vi (b:=y%4294967296) (by rw [and32]))) ?_;refine oA (KC (KB (KA (oM (oM ?_)))));refine oP (KJ (KG rfl rfl (KCK (b:=0))) (vi (b:=hi) om)) (oM (oM ?_));refine oP (KG (v:=.int .u64 ((64:Nat):Int)) rfl rfl rfl) (oP (KJ (KG rfl rfl (KAm (b:=64) om)) (vi (b:=0) om)) (oP (KJ (KG rfl rfl (KCT om om)) (vi (b:=hi) (by rw [Nat.or_zero]))) ?_));refine oA (KC (KB (KA (oM (oM ?_)))));refine oP (KJ (KG rfl rfl (KCK (b:=0))) (vi (b:=lo) om)) (oA (KC (KB (KA (oM ?_)))))
  refine oP (KG rfl rfl (KAm (b:=32) om)) (oA (KC (KB (KA (oM ?_)))));refine oP (KJ (KG rfl rfl (KBR (b:=4294967295) om om)) (vi (b:=lo%4294967296) (by rw [and32]))) ?_;refine oA (KC (KB (KA (oM (oM ?_)))));refine oP (KG rfl rfl (br_quo64 om om)) (oA (KC (KB (KA (oM (oM (oM ?_)))))));refine oP (KG rfl rfl (KBD)) (oP (KJ (KG rfl rfl (KBW (Nat.mod_lt _ dc))) (vi (b:=hi%(y/2^32)) (minus_div om))) (oA (KC ?_)));refine KCr (α:=Unit) (fun _=>True) (fun _=>⟨[(2,.int .u64 ((y:Nat):Int)),(9,.int .u64 ((y/2^32:Nat):Int)),(10,.int .u64 ((y%4294967296:Nat):Int)),(11,.int .u64 ((hi:Nat):Int)),(12,.int .u64 ((lo:Nat):Int)),(13,.int .u64 ((lo/2^32:Nat):Int)),(14,.int .u64 ((lo%4294967296:Nat):Int)),(8,.int .u64 ((0:Nat):Int)),(15,.int .u64 (((hi*4294967296+lo/2^32)/y:Nat):Int))],[]⟩) ?_ ?_
  ·
   refine LCode.block ?_;refine Kc (α:=Nat×Nat) (fun x=>x.1*(y/2^32)+x.2 = hi∧(hi*4294967296+lo/2^32)/y≤x.1∧x.2<4294967296) (fun x=>⟨[(2,.int .u64 ((y:Nat):Int)),(9,.int .u64 ((y/2^32:Nat):Int)),(10,.int .u64 ((y%4294967296:Nat):Int)),(11,.int .u64 ((hi:Nat):Int)),(12,.int .u64 ((lo:Nat):Int)),(13,.int .u64 ((lo/2^32:Nat):Int)),(14,.int .u64 ((lo%4294967296:Nat):Int)),(8,.int .u64 ((0:Nat):Int)),(15,.int .u64 ((x.1:Nat):Int)),(16,.int .u64 ((x.2:Nat):Int))],[]⟩) (fun x=>x.1) ((hi/(y/2^32),hi%(y/2^32))) (half_init _ _ _ hy hy2 (by first|assumption|exact Nat.mod_lt _ om) om) (Ka (by exact ⟨rfl,rfl,rfl,rfl,rfl,rfl,rfl,rfl,rfl,rfl,trivial⟩) mS) ?_
   rintro x ⟨hq1,hq2,hq3⟩
   have hql:x.1<18446744073709551616:=by
     have h1:x.1*1≤x.1*(y/2^32):=Nat.mul_le_mul_left _ om
     have h2:hi<y:=by first|assumption|exact Nat.mod_lt _ om
     generalize x.1*(y/2^32) = z at *
     omega
   refine KB (KB ?_)
   rcases Nat.lt_or_ge x.1 4294967296 with hge|hge
   rotate_left
   ·
    refine KA (oM ?_);refine oP (KG rfl rfl (br_t (KBf (b:=4294967296)) hge)) (oM ?_);refine oK (oK (oK (oK (oK (oK (oK (oK (oP (Kd rfl rfl) (KC ?_)))))))))
    have hcont:4294967296≤x.1∨(x.1<4294967296∧4294967296*x.2+(lo/2^32)<x.1*(y%4294967296)):=.inl hge
    have hm:=half_more om (by first|assumption|exact Nat.mod_lt _ om) om hq1 hq2 hcont
    refine KS rfl (KM (LCode.block (KB (KA (oM ?_)))));refine oP (KJ (KG rfl rfl (KBW (b:=1) om)) (vi (b:=x.1-1) (by have:=hm.1; have:x.1<18446744073709551616:=hql; omega))) ?_;refine oA (KC (KB (KA (oM (oM ?_)))));refine oP (KJ (KG rfl rfl KAc) (vi (b:=x.2+y/2^32) om)) (oA (KC (KB (KA (oM ?_)))));refine oP (KG rfl rfl (KBf (b:=4294967296))) (KC ?_)
    first|refine KQ rfl (fun hbrk=>?_) (fun hbrk=>?_)|refine KR rfl (fun hbrk=>?_) (fun hbrk=>?_)
    ·
     refine Kb ?_
     have hqq:=half_break hy (by first|assumption|exact Nat.mod_lt _ om) hm.2.1 hm.2.2 hbrk
     rw [hqq]
     exact ⟨(),trivial,Ka (by exact ⟨rfl,rfl,rfl,rfl,rfl,rfl,rfl,rfl,rfl,trivial⟩) mS⟩
    refine KM (⟨(x.1-1,x.2+y/2^32),⟨hm.2.1,hm.2.2,Nat.lt_of_not_le hbrk⟩,?_,Ka (by exact ⟨rfl,rfl,rfl,rfl,rfl,rfl,rfl,rfl,rfl,rfl,trivial⟩) mS⟩)
    show x.1-1<x.1
    have:=hm.1
    omega
   refine KA (oM ?_);refine oP (KG rfl rfl (br_f (KBf (b:=4294967296)) (Nat.not_le_of_lt hge))) (oM ?_);refine oGM ?_;refine oGM ?_;refine oGP (KJ (KG rfl rfl KBD) (vi (b:=x.1*(y%4294967296)) (by exact Nat.mod_eq_of_lt (by have:=Nat.mul_le_mul (show x.1≤4294967295 by omega) (show y%4294967296≤4294967295 by omega); omega)))) ?_;refine oGM ?_;refine oGP (KG rfl rfl (KBD (a:=4294967296))) (oGM ?_);refine oGP (KJ (KG rfl rfl KAc) (vi (b:=4294967296*x.2+(lo/2^32)) om)) (oGP (KG rfl rfl (KAb)) (oP (KT rfl rfl) (KC ?_)))
   first|refine KQ rfl (fun hgt=>?_) (fun hgt=>?_)|refine KR rfl (fun hgt=>?_) (fun hgt=>?_)
   ·
    have hcont:4294967296≤x.1∨(x.1<4294967296∧4294967296*x.2+(lo/2^32)<x.1*(y%4294967296)):=.inr ⟨by omega,hgt⟩
    have hm:=half_more om (by first|assumption|exact Nat.mod_lt _ om) om hq1 hq2 hcont
    refine KM (LCode.block (KB (KA (oM ?_))));refine oP (KJ (KG rfl rfl (KBW (b:=1) om)) (vi (b:=x.1-1) (by have:=hm.1; have:x.1<18446744073709551616:=hql; omega))) ?_;refine oA (KC (KB (KA (oM (oM ?_)))));refine oP (KJ (KG rfl rfl KAc) (vi (b:=x.2+y/2^32) om)) (oA (KC (KB (KA (oM ?_)))));refine oP (KG rfl rfl (KBf (b:=4294967296))) (KC ?_)
    first|refine KQ rfl (fun hbrk=>?_) (fun hbrk=>?_)|refine KR rfl (fun hbrk=>?_) (fun hbrk=>?_)
    ·
     refine Kb ?_
     have hqq:=half_break hy (by first|assumption|exact Nat.mod_lt _ om) hm.2.1 hm.2.2 hbrk
     rw [hqq]
     exact ⟨(),trivial,Ka (by exact ⟨rfl,rfl,rfl,rfl,rfl,rfl,rfl,rfl,rfl,trivial⟩) mS⟩
    refine KM (⟨(x.1-1,x.2+y/2^32),⟨hm.2.1,hm.2.2,Nat.lt_of_not_le hbrk⟩,?_,Ka (by exact ⟨rfl,rfl,rfl,rfl,rfl,rfl,rfl,rfl,rfl,rfl,trivial⟩) mS⟩)
    show x.1-1<x.1
    have:=hm.1
    omega
   have hle:x.1*(y%4294967296)≤4294967296*x.2+(lo/2^32):=Nat.le_of_not_lt hgt
   refine Kb ?_
   have hqq:=half_quit om hq1 hq2 hle
   rw [hqq]
   exact ⟨(),trivial,Ka (by exact ⟨rfl,rfl,rfl,rfl,rfl,rfl,rfl,rfl,rfl,trivial⟩) mS⟩
  intro _ _
  refine KB (KA (oM ?_));refine oP (KG rfl rfl (KBD (b:=4294967296))) (oM ?_);refine oP (KG rfl rfl (KAc)) (oM (oM ?_));refine oP (KG rfl rfl (KBD)) (oP (KJ (KG rfl rfl (KBW (Nat.mod_lt _ dc))) (vi (b:=(hi*4294967296+lo/2^32)%y) (by exact half_rest om hy2))) ?_);refine oA (KC (KB ?_))
  have hrr:(hi*4294967296+lo/2^32)%y<y:=Nat.mod_lt _ om
  refine KA (oM (oM ?_));refine oP (KG rfl rfl (br_quo64 om om)) (oA (KC (KB (KA (oM (oM (oM ?_)))))));refine oP (KG rfl rfl (KBD)) (oP (KJ (KG rfl rfl (KBW (Nat.mod_lt _ dc))) (vi (b:=((hi*4294967296+lo/2^32)%y)%(y/2^32)) (minus_div om))) (oA (KC ?_)));refine KCr (α:=Unit) (fun _=>True) (fun _=>⟨[(2,.int .u64 ((y:Nat):Int)),(9,.int .u64 ((y/2^32:Nat):Int)),(10,.int .u64 ((y%4294967296:Nat):Int)),(14,.int .u64 ((lo%4294967296:Nat):Int)),(8,.int .u64 ((0:Nat):Int)),(15,.int .u64 (((hi*4294967296+lo/2^32)/y:Nat):Int)),(17,.int .u64 (((hi*4294967296+lo/2^32)%y:Nat):Int)),(18,.int .u64 ((((hi*4294967296+lo/2^32)%y*4294967296+lo%4294967296)/y:Nat):Int))],[]⟩) ?_ ?_
  ·
   refine LCode.block ?_;refine Kc (α:=Nat×Nat) (fun x=>x.1*(y/2^32)+x.2 = ((hi*4294967296+lo/2^32)%y)∧(((hi*4294967296+lo/2^32)%y)*4294967296+lo%4294967296)/y≤x.1∧x.2<4294967296) (fun x=>⟨[(2,.int .u64 ((y:Nat):Int)),(9,.int .u64 ((y/2^32:Nat):Int)),(10,.int .u64 ((y%4294967296:Nat):Int)),(14,.int .u64 ((lo%4294967296:Nat):Int)),(8,.int .u64 ((0:Nat):Int)),(15,.int .u64 (((hi*4294967296+lo/2^32)/y:Nat):Int)),(17,.int .u64 (((hi*4294967296+lo/2^32)%y:Nat):Int)),(18,.int .u64 ((x.1:Nat):Int)),(16,.int .u64 ((x.2:Nat):Int))],[]⟩) (fun x=>x.1) ((((hi*4294967296+lo/2^32)%y)/(y/2^32),((hi*4294967296+lo/2^32)%y)%(y/2^32))) (half_init _ _ _ hy hy2 (by first|assumption|exact Nat.mod_lt _ om) om) (Ka (by exact ⟨rfl,rfl,rfl,rfl,rfl,rfl,rfl,rfl,rfl,trivial⟩) mS) ?_
   rintro x ⟨hq1,hq2,hq3⟩
   have hql:x.1<18446744073709551616:=by
     have h1:x.1*1≤x.1*(y/2^32):=Nat.mul_le_mul_left _ om
     have h2:((hi*4294967296+lo/2^32)%y)<y:=by first|assumption|exact Nat.mod_lt _ om
     generalize x.1*(y/2^32) = z at *
     omega
   refine KB (KB ?_)
   rcases Nat.lt_or_ge x.1 4294967296 with hge|hge
   rotate_left
   ·
    refine KA (oM ?_);refine oP (KG rfl rfl (br_t (KBf (b:=4294967296)) hge)) (oM ?_);refine oK (oK (oK (oK (oK (oK (oK (oK (oP (Kd rfl rfl) (KC ?_)))))))))
    have hcont:4294967296≤x.1∨(x.1<4294967296∧4294967296*x.2+(lo%4294967296)<x.1*(y%4294967296)):=.inl hge
    have hm:=half_more om (by first|assumption|exact Nat.mod_lt _ om) om hq1 hq2 hcont
    refine KS rfl (KM (LCode.block (KB (KA (oM ?_)))));refine oP (KJ (KG rfl rfl (KBW (b:=1) om)) (vi (b:=x.1-1) (by have:=hm.1; have:x.1<18446744073709551616:=hql; omega))) ?_;refine oA (KC (KB (KA (oM (oM ?_)))));refine oP (KJ (KG rfl rfl KAc) (vi (b:=x.2+y/2^32) om)) (oA (KC (KB (KA (oM ?_)))));refine oP (KG rfl rfl (KBf (b:=4294967296))) (KC ?_)
    first|refine KQ rfl (fun hbrk=>?_) (fun hbrk=>?_)|refine KR rfl (fun hbrk=>?_) (fun hbrk=>?_)
    ·
     refine Kb ?_
     have hqq:=half_break hy (by first|assumption|exact Nat.mod_lt _ om) hm.2.1 hm.2.2 hbrk
     rw [hqq]
     exact ⟨(),trivial,Ka (by exact ⟨rfl,rfl,rfl,rfl,rfl,rfl,rfl,rfl,trivial⟩) mS⟩
    refine KM (⟨(x.1-1,x.2+y/2^32),⟨hm.2.1,hm.2.2,Nat.lt_of_not_le hbrk⟩,?_,Ka (by exact ⟨rfl,rfl,rfl,rfl,rfl,rfl,rfl,rfl,rfl,trivial⟩) mS⟩)
    show x.1-1<x.1
    have:=hm.1
    omega
   refine KA (oM ?_);refine oP (KG rfl rfl (br_f (KBf (b:=4294967296)) (Nat.not_le_of_lt hge))) (oM ?_);refine oGM ?_;refine oGM ?_;refine oGP (KJ (KG rfl rfl KBD) (vi (b:=x.1*(y%4294967296)) (by exact Nat.mod_eq_of_lt (by have:=Nat.mul_le_mul (show x.1≤4294967295 by omega) (show y%4294967296≤4294967295 by omega); omega)))) ?_;refine oGM ?_;refine oGP (KG rfl rfl (KBD (a:=4294967296))) (oGM ?_);refine oGP (KJ (KG rfl rfl KAc) (vi (b:=4294967296*x.2+(lo%4294967296)) om)) (oGP (KG rfl rfl (KAb)) (oP (KT rfl rfl) (KC ?_)))
   first|refine KQ rfl (fun hgt=>?_) (fun hgt=>?_)|refine KR rfl (fun hgt=>?_) (fun hgt=>?_)
   ·
    have hcont:4294967296≤x.1∨(x.1<4294967296∧4294967296*x.2+(lo%4294967296)<x.1*(y%4294967296)):=.inr ⟨by omega,hgt⟩
    have hm:=half_more om (by first|assumption|exact Nat.mod_lt _ om) om hq1 hq2 hcont
    refine KM (LCode.block (KB (KA (oM ?_))));refine oP (KJ (KG rfl rfl (KBW (b:=1) om)) (vi (b:=x.1-1) (by have:=hm.1; have:x.1<18446744073709551616:=hql; omega))) ?_;refine oA (KC (KB (KA (oM (oM ?_)))));refine oP (KJ (KG rfl rfl KAc) (vi (b:=x.2+y/2^32) om)) (oA (KC (KB (KA (oM ?_)))));refine oP (KG rfl rfl (KBf (b:=4294967296))) (KC ?_)
    first|refine KQ rfl (fun hbrk=>?_) (fun hbrk=>?_)|refine KR rfl (fun hbrk=>?_) (fun hbrk=>?_)
    ·
     refine Kb ?_
     have hqq:=half_break hy (by first|assumption|exact Nat.mod_lt _ om) hm.2.1 hm.2.2 hbrk
     rw [hqq]
     exact ⟨(),trivial,Ka (by exact ⟨rfl,rfl,rfl,rfl,rfl,rfl,rfl,rfl,trivial⟩) mS⟩
    refine KM (⟨(x.1-1,x.2+y/2^32),⟨hm.2.1,hm.2.2,Nat.lt_of_not_le hbrk⟩,?_,Ka (by exact ⟨rfl,rfl,rfl,rfl,rfl,rfl,rfl,rfl,rfl,trivial⟩) mS⟩)
    show x.1-1<x.1
    have:=hm.1
    omega
   have hle:x.1*(y%4294967296)≤4294967296*x.2+(lo%4294967296):=Nat.le_of_not_lt hgt
   refine Kb ?_
   have hqq:=half_quit om hq1 hq2 hle
   rw [hqq]
   exact ⟨(),trivial,Ka (by exact ⟨rfl,rfl,rfl,rfl,rfl,rfl,rfl,rfl,trivial⟩) mS⟩
  intro _ _
  refine KB (KA (oM ?_));refine oP (KG rfl rfl (KBD (b:=4294967296))) (oM ?_);refine oP (KG rfl rfl (KAc)) (oM ?_);refine oP (KG rfl rfl (KBD (b:=4294967296))) (oM ?_);refine oP (KG rfl rfl (KAc)) (oM (oM ?_));refine oP (KG rfl rfl (KBD)) (oP (KJ (KG rfl rfl (KBW (Nat.mod_lt _ dc))) (vi (b:=(((hi*4294967296+lo/2^32)%y)*4294967296+lo%4294967296)%y) (by exact half_rest om hy2))) ?_);refine oM ?_;refine oP (KJ (KG rfl rfl (KAm (b:=0) (Nat.lt_trans (Nat.mod_lt _ om) hy2))) (vi (b:=(((hi*4294967296+lo/2^32)%y)*4294967296+lo%4294967296)%y) (by rw [Nat.pow_zero,Nat.div_one]))) ?_;refine oA (oA (KC (KN ?_)))
  have hv:=halves (hi:=hi) (lo:=lo) (show 0<y by omega)
  have hq9:(hi*18446744073709551616+lo)/y<18446744073709551616:=by
    rw [Nat.div_lt_iff_lt_mul om,Nat.mul_comm]
    omega
  refine eN (.cons rfl (.cons rfl .nil)) ?_
  rw [← hv.1,← hv.2]
  rw [← hv.1] at hq9
  refine congrArg (fun n:Nat=>Ending.returned (.tuple #[.int .u64 (n:Int),_])) ?_
  exact wrap_sum hq9
theorem nw_ne {A:Nat} (h:nw A≠0):2^(64*(nw A-1))≤A:=by
  have h0:A≠0:=by intro e; subst e; exact h rfl
  refine Nat.le_trans (Nat.pow_le_pow_right dc ?_) (blen_pos h0)
  unfold nw at *; omega
theorem bits_words {A:Nat} (h:nw A≠0):(nw A-1)*64+blen (limb A (nw A-1)) = blen A:=by
  have h1:=nw_ne h
  rw [limb_top (A:=A) (n:=nw A-1) (by rw [show nw A-1+1 = nw A by omega]; exact lt_nw A)]
  have:=KBl h1
  omega
theorem mod_nw (A:Nat):A%2^(64*nw A) = A:=Nat.mod_eq_of_lt (lt_nw A)
theorem mod_zero_word (A B:Nat):A%2^(64*0)*B = 0:=by rw [Nat.mul_zero,Nat.pow_zero,Nat.mod_one,Nat.zero_mul]
theorem row_end {X c A B i : Nat} (h : X + c * 2 ^ (64 * (i + nw B)) = A % 2 ^ (64 * i) * B + limb A i * (B % 2 ^ (64 * nw B)) * 2 ^ (64 * i)) (hX : X < 2 ^ (64 * (i + nw B))) :
    setl X (i+nw B) c = A%2^(64*(i+1))*B:=by
  have h0:=limb_high hX (Nat.le_refl _)
  have h1:=setl_eq X (i+nw B) c
  rw [h0,Nat.zero_mul,Nat.add_zero] at h1
  rw [h1,h,mod_nw,mod_succ_limb,Nat.add_mul]
  congr 1
  rw [Nat.mul_assoc,Nat.mul_comm,Nat.mul_assoc,Nat.mul_assoc,Nat.mul_comm B]
  exact Nat.mul_assoc _ _ _
theorem row_zero (A B i:Nat):A%2^(64*i)*B+0*2^(64*(i+0)) = A%2^(64*i)*B+limb A i*(B%2^(64*0))*2^(64*i):=by
  rw [Nat.mul_zero,Nat.pow_zero,Nat.mod_one,Nat.mul_zero,Nat.zero_mul,Nat.zero_mul]
theorem row_lt (A B i:Nat):A%2^(64*i)*B<2^(64*(i+nw B)):=by
  rw [pow64_add]
  exact Nat.mul_lt_mul_of_lt_of_le (Nat.mod_lt _ (pow64_pos i)) (Nat.le_of_lt (lt_nw B)) (pow64_pos _)
theorem bit_of (A i:Nat):(limb A (i/64)/2^(i%64) &&& 1) = A/2^i%2:=by
  rw [Nat.and_one_is_mod]
  have h1:A/2^i = A/2^(64*(i/64))/2^(i%64):=by
    rw [Nat.div_div_eq_div_mul,← Nat.pow_add]; congr 2; omega
  rw [h1]
  unfold limb
  generalize A/2^(64*(i/64)) = q
  have hr:i%64<64:=Nat.mod_lt _ dc
  generalize i%64 = r at *
  have e:(18446744073709551616:Nat) = 2^r*(2*2^(63-r)):=by
    rw [← Nat.pow_succ',← Nat.pow_add,show r+(63-r+1) = 64 by omega]
  rw [e,Nat.mod_mul_right_div_self,Nat.mod_mul_right_mod]
theorem c_nat_Mul (A B:Nat) (hA:A<W9) (hB:B<W9) (w:World)  : CF Tryz.prog 168 [natV A,natV B] w (wideV (A*B)):=by
  refine KV (N:=74) (rs:=[.cell 4 204]) [] Tryz.func168 rfl Tryz.ntmps168 Tryz.results168 (Nb rfl) trivial rfl ?_
  refine KB (KA (oS (mB (fun b2=>?_))));refine oS (mB (fun b3=>?_));refine oS (mk (KK zr_204) (fun b4=>?_));refine KC (KB (KA (oS (mk (KK zr_204) (fun b5=>?_)))));refine KC (KB (KA (oS (cF rfl en_131 rfl (fun w hw=>c_nat_used _ _ _ w (mC hw) om) ?_))));refine oS (cF rfl en_131 rfl (fun w hw=>c_nat_used _ _ _ w (mC hw) om) ?_);refine oA (oA (KC (KB (KB (KA (oM ?_))))));refine oP (Kf (v:=Iz 0) rfl) (KC (LCode.block ?_));refine Kc (α:=Nat) (fun x=>x≤nw A) (fun x=>⟨[(2,Pz b2),(3,Pz b3),(4,Pz b4),(5,Pz b5),(7,Iz (nw B)),(16,Iz (nw A)),(17,Iz x)],[.blk b5 ⟨true,wideL (A%2^(64*x)*B),204,(0,0)⟩,.blk b4 ⟨true,vec .u64 18 (fun _=>0),204,(0,0)⟩,.blk b3 ⟨true,natL B,33,(0,0)⟩,.blk b2 ⟨true,natL A,33,(0,0)⟩]⟩) (fun x=>nw A-x) (0) (Nat.zero_le _) (KAD (Sub.cells (b:=b5) (cs':=wideL (A%2^(64*0)*B)) mT (by rw [mod_zero_word]; exact vec_zeros 18)) (Ka ⟨rfl,rfl,rfl,rfl,rfl,rfl,rfl,trivial⟩ mS)) ?_
  intro i hi
  refine KB ?_
  have hA9:=nw_w9 hA
  have hB9:=nw_w9 hB
  refine KA (oP (KG rfl rfl (KAA)) (KC (KB ?_)))
  first|refine KQ rfl (fun h18=>?_) (fun h18=>?_)|refine KR rfl (fun h18=>?_) (fun h18=>?_)
  ·
   refine KM (KB (LCode.block (KB (KA (oM (oA (KC (KB (KA ?_)))))))));refine oP (KO (v:=.int .u64 ((0:Nat):Int)) rfl) (KC (KB (KB (KA (oM ?_)))));refine oP (Kf (v:=Iz 0) rfl) (KC (LCode.block (Kc (α:=Nat×Nat×Nat) (fun x=>x.1≤nw B∧x.2.2<18446744073709551616∧x.2.1<2^(64*(i+nw B))∧x.2.1+x.2.2*2^(64*(i+x.1)) = A%2^(64*i)*B+limb A i*(B%2^(64*x.1))*2^(64*i)) (fun x=>⟨[(2,Pz b2),(3,Pz b3),(4,Pz b4),(5,Pz b5),(7,Iz (nw B)),(8,Iz i),(9,.int .u64 ((x.2.2:Nat):Int)),(16,Iz (nw A)),(17,Iz i),(20,Iz (nw B)),(21,Iz x.1)],[.blk b5 ⟨true,wideL x.2.1,204,(0,0)⟩,.blk b4 ⟨true,vec .u64 18 (fun _=>0),204,(0,0)⟩,.blk b3 ⟨true,natL B,33,(0,0)⟩,.blk b2 ⟨true,natL A,33,(0,0)⟩]⟩) (fun x=>nw B-x.1) ((0,A%2^(64*i)*B,0)) (⟨Nat.zero_le _,show (0:Nat)<18446744073709551616 by decide,row_lt A B i,row_zero A B i⟩) (Ka ⟨rfl,rfl,rfl,rfl,rfl,rfl,rfl,rfl,rfl,rfl,rfl,trivial⟩ mS) ?_)))
   intro x ⟨hx1,hx2,hx3,hx4⟩
   refine KB (KA (oP (KG rfl rfl (KAA)) (KC (KB ?_))))
   first|refine KQ rfl (fun h22=>?_) (fun h22=>?_)|refine KR rfl (fun h22=>?_) (fun h22=>?_)
   ·
    refine KM (KB (LCode.block (KB (KA (oM (oA (KC (KB ?_))))))))
    have hla:=limb_lt A i
    have hlb:=limb_lt B x.1
    have hlx:=limb_lt x.2.1 (i+x.1)
    have h18:i<nw A:=h18
    have h22:x.1<nw B:=h22
    refine rD [] (aM 0 ?_);refine aP 1 rfl (KE (o':=0) u33 rfl rfl rfl sz_31 dc) (aP 2 rfl (KP u31 sz_30 rfl rfl om) (aD 3 rfl (dL rfl (hv:=KI u30 rfl (by exact KAY _ (show i<9 by omega)))) ?_));refine aM 4 ?_;refine aP 5 rfl (KE (o':=0) u33 rfl rfl rfl sz_31 dc) (aP 6 rfl (KP u31 sz_30 rfl rfl om) (aD 7 rfl (dL rfl (hv:=KI u30 rfl (by exact KAY _ (show x.1<9 by omega)))) ?_));refine aO 8 rfl (cF rfl en_123 rfl (fun w hw=>c_Mul64 _ _ om om w) ?_);refine aM 9 ?_;refine aP 10 rfl (Det.extract rfl rfl) (aP 11 rfl (Det.extract rfl rfl) (aA 12 ?_));refine aA 13 ?_;refine aE (KB (KA (oP (KO (v:=.int .u64 ((0:Nat):Int)) rfl) (KC (KB (KA (oM (oM (oM ?_)))))))));refine oP (KG rfl rfl (Kj om)) (oP (KE (o':=0) u204 rfl rfl rfl sz_202 dc) (oP (KP u202 sz_30 rfl rfl om) (oD (dL rfl (hv:=KI u30 rfl (by exact wideL_get _ (show i+x.1<18 by omega)))) ?_)))
    refine oP (KCV (c:=0) ex_145 rfl rfl rfl om) (oM ?_);refine oX ?_;refine oX ?_;refine oA (oA (KC (KB (KA (oM (oM ?_))))));refine oP (KG rfl rfl (KAc)) (oA (KC (KB (KA (oM (oM ?_))))));refine oP (KCV (c:=0) ex_145 rfl rfl rfl om) (oM ?_);refine oX ?_;refine oX ?_;refine oA (oA (KC (KA (oM (oM ?_)))));refine oP (KG rfl rfl (Kj om)) (oM (oM (oM ?_)));refine oP (KG rfl rfl (KAc)) (oP (KE (o':=0) u204 rfl rfl rfl sz_202 dc) (oP (KP u202 sz_30 rfl rfl om) (LOps.step rfl (KZ rfl rfl rfl sz_30 mT lT sT (by simp) ?_))));refine oA (KC (KA ?_));refine oP (KG rfl rfl (Kj (b:=1) om)) (oM (KC ?_))
    have hw:=row_word (limb_lt A i) (limb_lt B x.1) (limb_lt x.2.1 (i+x.1)) hx2
    have hp:=row_parts (limb_lt x.2.1 (i+x.1)) hx2 hw
    refine ⟨(x.1+1,setl x.2.1 (i+x.1) ((limb A i*limb B x.1+limb x.2.1 (i+x.1)+x.2.2)%18446744073709551616),(limb A i*limb B x.1+limb x.2.1 (i+x.1)+x.2.2)/18446744073709551616),⟨by omega,by dsimp only; omega,setl_lt hx3 om (Nat.mod_lt _ dc),row_step hx4 rfl rfl⟩,by dsimp only; omega,
      KAD (Sub.cells (b:=b5) (cs':=wideL (setl x.2.1 (i+x.1) ((limb A i*limb B x.1+limb x.2.1 (i+x.1)+x.2.2)%18446744073709551616))) mT ?_) (Ka ⟨rfl,rfl,rfl,rfl,rfl,rfl,congrArg some (vi hp.2),rfl,rfl,rfl,rfl,trivial⟩ mS)⟩
    rw [hp.1]
    exact vec_setl (Nat.mod_lt _ dc)
   refine Kb ?_
   have h18:i<nw A:=h18
   refine KA (oM (oM ?_));refine oP (KG rfl rfl (Kj om)) (oM ?_);refine oP (KE (o':=0) u204 rfl rfl rfl sz_202 dc) (oP (KP u202 sz_30 rfl rfl om) (LOps.step rfl (KZ rfl rfl rfl sz_30 mT lT sT (by simp) ?_)));refine KC (KA (oP (KG rfl rfl (Kj (b:=1) om)) (oM (KC ?_))));refine ⟨i+1,by omega,by omega,KAD (Sub.cells (b:=b5) (cs':=wideL (A%2^(64*(i+1))*B)) mT ?_) (Ka ⟨rfl,rfl,rfl,rfl,rfl,rfl,rfl,trivial⟩ mS)⟩
   have hk:x.1 = nw B:=by omega
   rw [hk] at hx4
   rw [← row_end hx4 hx3]
   exact vec_setl hx2
  refine Kb (KB (KA (oD (dL rfl (hv:=by exact KD u204 rfl KDV)) ?_)));refine oT rfl rfl KDV ?_;refine KC (KN ?_)
  have hi9:i = nw A:=by omega
  subst hi9
  refine eN (.cons ⟨_,_,_,rfl,mM,by exact KD u204 rfl KDV⟩ .nil) ?_
  rw [mod_nw]
  rfl
theorem KBz (A:Nat) (hA:A<W9) (w:World)  : CF Tryz.prog 81 [natV A] w (Iz (blen A)):=by
  refine KV (N:=17) (rs:=[.tmp 2]) [] Tryz.func81 rfl Tryz.ntmps81 Tryz.results81 (Nb rfl) trivial rfl ?_
  refine KB (KA (oS (mB (fun b1=>?_))));refine oP (KO (v:=Iz 0) rfl) (KC (KB (KA (oS (cF rfl en_131 rfl (fun w hw=>c_nat_used _ _ _ w (mC hw) om) ?_)))));refine oA (KC (KB (KB (KA (oM ?_)))));refine oP (KG rfl rfl (Ku (b:=0))) (KC ?_)
  first|refine KQ rfl (fun h6=>?_) (fun h6=>?_)|refine KR rfl (fun h6=>?_) (fun h6=>?_)
  ·
   refine KB (KA (oP (KO (v:=Iz 0) rfl) (KC (KN ?_))))
   have hz:blen A = 0:=by
     unfold nw at h6
     omega
   refine eN (.cons rfl .nil) ?_
   rw [hz]
   rfl
  have hA9:=nw_w9 hA
  have hbl:blen (limb A (nw A-1))≤64:=KBM (limb_lt _ _)
  have hll:=limb_lt A (nw A-1)
  refine KM (KB (KA (oM ?_)));refine oP (KG rfl rfl (KAe (b:=1) om om)) (oP (KG rfl rfl (KCB (b:=64) om)) (oM ?_));refine oP (KG rfl rfl (KAe (b:=1) om om)) (oP (KE (o':=0) u33 rfl rfl rfl sz_31 dc) (oP (KP u31 sz_30 rfl rfl om) (oD (dL rfl (hv:=KI u30 rfl (by exact KAY _ (show nw A-1<9 by omega)))) ?_)));refine oS (cF rfl en_132 rfl (fun w hw=>c_Len64 _ om w) ?_);refine oP (KG rfl rfl (Kj om)) (oA (KC (KN ?_)));refine eN (.cons rfl .nil) ?_
  rw [← bits_words h6]
  rfl
theorem KCp (A i:Nat) (hA:A<W9) (hi:i<576) (w:World)  : CF Tryz.prog 57 [natV A,Iz i] w (Iz (A/2^i%2)):=by
  refine KV (N:=21) (rs:=[.tmp 4]) [] Tryz.func57 rfl Tryz.ntmps57 Tryz.results57 (Nb rfl) trivial rfl ?_
  refine KB (KA (oS (mB (fun b2=>?_))));refine oP (KO (v:=Iz 0) rfl) (KC (KB (KB (KA (oM ?_)))));refine oP (KG rfl rfl (br_f (KAA (b:=0)) (Nat.not_lt_zero _))) (oM ?_);refine oGM ?_;refine oGP (KG rfl rfl (br_f (KBf (b:=576)) om)) (oP (KT rfl rfl) (KC (KH rfl (KM (KB (KA (oM ?_)))))));refine oP (KG rfl rfl (KDI (b:=64) om om)) (oP (KE (o':=0) u33 rfl rfl rfl sz_31 dc) (oP (KP u31 sz_30 rfl rfl om) (oD (dL rfl (hv:=KI u30 rfl (by exact KAY _ (show i/64<9 by omega)))) ?_)));refine oM ?_;refine oP (KG rfl rfl (br_rem (b:=64) om)) (oP (KG rfl rfl (KAm (limb_lt _ _))) (oP (KJ (KG rfl rfl (KBR (b:=1) (Nat.lt_of_le_of_lt (Nat.div_le_self _ _) (limb_lt _ _)) dc)) (vi (bit_of A i))) (oP (KAo u30 u3 rfl (Nat.lt_trans (Nat.mod_lt _ dc) dc)) (oA (KC (KN ?_))))));refine eN (.cons rfl .nil) ?_
  rfl
theorem c_nat_Shr (A k:Nat) (hA:A<W9) (hk:k≤576) (w:World)  : CF Tryz.prog 83 [natV A,Iz k] w (.tuple #[natV (A/2^k),Iz 0]):=by
  refine KV (N:=61) (rs:=[.cell 4 33,.tmp 5]) [] Tryz.func83 rfl Tryz.ntmps83 Tryz.results83 (Nb rfl) trivial rfl ?_
  refine KB (KA (oS (mB (fun b2=>?_))));refine oS (mk (KK zr_33) (fun b4=>?_));refine oP (KO (v:=Iz 0) rfl) (KC (KB (KB (KA (oM ?_)))));refine oP (KG rfl rfl (br_f (KAA (b:=0)) (Nat.not_lt_zero _))) (oM ?_);refine oGM ?_;refine oGP (KG rfl rfl (br_f (KAb (b:=576)) om)) (oP (KT rfl rfl) (KC (KH rfl (KM (KB (KA (oS (mk (KK zr_33) (fun b6=>?_)))))))));refine KC (KB (KA (oM ?_)));refine oP (KG rfl rfl (KDI (b:=64) om om)) (oM ?_);refine oP (KG rfl rfl (br_rem (b:=64) om)) (oA (oA (KC (KB (KB (KA (oM ?_)))))));refine oP (KG rfl rfl (KAe (a:=9) om om)) (oP (Kf (v:=Iz 0) rfl) (KC (LCode.block (Kc (α:=Nat) (fun x=>x≤9-k/64) (fun x=>⟨[(2,Pz b2),(4,Pz b4),(6,Pz b6),(7,Iz (k/64)),(8,Iz (k%64)),(22,Iz (9-k/64)),(23,Iz x)],[.blk b6 ⟨true,vec .u64 9 (fun j=>if j<x then limb (A/2^k) j else 0),33,(0,0)⟩,.blk b4 ⟨true,vec .u64 9 (fun _=>0),33,(0,0)⟩,.blk b2 ⟨true,natL A,33,(0,0)⟩]⟩) (fun x=>9-k/64-x) (0) (Nat.zero_le _) (Ka ⟨rfl,rfl,rfl,rfl,rfl,rfl,rfl,trivial⟩ mS) ?_))))
  intro x hx
  refine KB (KA (oP (KG rfl rfl (KAA)) (KC (KB ?_))))
  first|refine KQ rfl (fun h24=>?_) (fun h24=>?_)|refine KR rfl (fun h24=>?_) (fun h24=>?_)
  ·
   have h24:x<9-k/64:=h24
   refine KM (KB (LCode.block (KB (KA (oM (oA (KC (KB (KA (oM (oM (oM ?_))))))))))));refine oP (KG rfl rfl (Kj om)) (oP (KE (o':=0) u33 rfl rfl rfl sz_31 dc) (oP (KP u31 sz_30 rfl rfl om) (oD (dL rfl (hv:=KI u30 rfl (by exact KAY _ (show x+k/64<9 by omega)))) ?_)));refine oM ?_;refine oP (KG rfl rfl (KAm (limb_lt _ _))) (oP (KE (o':=0) u33 rfl rfl rfl sz_31 dc) (oP (KP u31 sz_30 rfl rfl om) (LOps.step rfl (KZ rfl rfl rfl sz_30 mT lT sT (by simp) ?_))));refine KC (KB (KA (oM (oM ?_))));refine oP (KG rfl rfl (Kj om)) (oP (KG rfl rfl (Kj (b:=1) om)) (oP (KG rfl rfl (KAA (b:=9))) (KC ?_)))
   first|refine KQ rfl (fun h41=>?_) (fun h41=>?_)|refine KR rfl (fun h41=>?_) (fun h41=>?_)
   ·
    have h41:x+k/64+1<9:=h41
    refine rD [17] (aM 0 ?_);refine aP 1 rfl (KE (o':=0) u33 rfl rfl rfl sz_31 dc) (aP 2 rfl (KP u31 sz_30 rfl rfl om) (aD 3 rfl (Det.load (v:=.int .u64 ((limb A (x+k/64)/2^(k%64):Nat):Int)) rfl mM (KI u30 rfl (by exact (Ki _ _ _ om).trans (by simp)))) ?_));refine aM 4 ?_;refine aM 5 ?_;refine aP 6 rfl (KG rfl rfl (Kj om)) (aP 7 rfl (KG rfl rfl (Kj (b:=1) om)) (aP 8 rfl (KE (o':=0) u33 rfl rfl rfl sz_31 dc) (aP 9 rfl (KP u31 sz_30 rfl rfl om) (aD 10 rfl (dL rfl (hv:=KI u30 rfl (by exact KAY _ (show x+k/64+1<9 by omega)))) ?_))));refine aM 11 ?_;refine aP 12 rfl (KG rfl rfl (KAe (a:=64) om om)) (aP 13 rfl (KG rfl rfl (KCK)) (aP 14 rfl (KG rfl rfl (KCT (Nat.lt_of_le_of_lt (Nat.div_le_self _ _) (limb_lt _ _)) (Nat.mod_lt _ dc))) (aP 15 rfl (KE (o':=0) u33 rfl rfl rfl sz_31 dc) (aP 16 rfl (KP u31 sz_30 rfl rfl om) (aL 17 rfl (KZ rfl rfl rfl sz_30 mT lT sT (by simp) ?_))))))
    refine aE (KA (oP (KG rfl rfl (Kj (b:=1) om)) (oM (KC ?_))));refine ⟨x+1,by omega,by omega,KAD (Sub.cells (b:=b6) (cs':=vec .u64 9 (fun j=>if j<x+1 then limb (A/2^k) j else 0)) mT ?_) (Ka ⟨rfl,rfl,rfl,rfl,rfl,rfl,rfl,trivial⟩ mS)⟩
    apply Kq
    intro j hj
    have hs:=shr_or (A:=A) (w:=k/64) (r:=k%64) (i:=j) (Nat.mod_lt _ dc)
    rw [Nat.div_add_mod] at hs
    by_cases e:j = x
    · subst e; rw [if_pos rfl,if_pos om]; exact hs
    · rw [if_neg e,if_neg e]
      by_cases e2:j<x
      · rw [if_pos e2,if_pos om]
      · rw [if_neg e2,if_neg om]
   have h41:¬ x+k/64+1<9:=h41
   refine KM (KA (oP (KG rfl rfl (Kj (b:=1) om)) (oM (KC ?_))));refine ⟨x+1,by omega,by omega,KAD (Sub.cells (b:=b6) (cs':=vec .u64 9 (fun j=>if j<x+1 then limb (A/2^k) j else 0)) mT ?_) (Ka ⟨rfl,rfl,rfl,rfl,rfl,rfl,rfl,trivial⟩ mS)⟩
   apply Kq
   intro j hj
   have hs:=shr_or (A:=A) (w:=k/64) (r:=k%64) (i:=j) (Nat.mod_lt _ dc)
   rw [Nat.div_add_mod] at hs
   by_cases e:j = x
   · subst e
     rw [if_pos rfl,if_pos om,← hs,limb_high (KBQ hA 9 rfl) (show 9≤j+k/64+1 by omega),Nat.zero_mul,Nat.zero_mod,Nat.or_zero]
   · rw [if_neg e]
     by_cases e2:j<x
     · rw [if_pos e2,if_pos om]
     · rw [if_neg e2,if_neg om]
  have h24:¬ x<9-k/64:=h24
  refine Kb (KB (KA (oD dNa ?_)));refine oT rfl rfl sz_33 ?_;refine oP (KO (v:=Iz 0) rfl) (KC (KN ?_))
  have hx9:x = 9-k/64:=by omega
  subst hx9
  refine eN (.cons ⟨_,_,_,rfl,mM,by exact KD u33 rfl sz_33⟩ (.cons rfl .nil)) ?_
  have h1:(vec IntKind.u64 9 fun j=>if j<9-k/64 then limb (A/2^k) j else 0) = natL (A/2^k):=by
    apply Kq
    intro j hj
    by_cases e:j<9-k/64
    · rw [if_pos e]
    · rw [if_neg e]
      have hs:=limb_shr A (k/64) (k%64) j (Nat.mod_lt _ dc)
      rw [Nat.div_add_mod,limb_high (KBQ hA 9 rfl) (show 9≤j+k/64 by omega),limb_high (KBQ hA 9 rfl) (show 9≤j+k/64+1 by omega)] at hs
      rw [hs]; simp
  show Ending.returned (.tuple #[.agg (vec IntKind.u64 9 fun j=>if j<9-k/64 then limb (A/2^k) j else 0).toArray,_]) = _
  rw [h1]
  rfl
theorem KAU (x:Nat) (hx:x<9223372036854775808) (w:World)  : CF Tryz.prog 80 [Iz x] w (natV x):=by
  refine KV (N:=8) (rs:=[.cell 2 33]) [] Tryz.func80 rfl Tryz.ntmps80 Tryz.results80 (Nb rfl) trivial rfl ?_
  refine KB (KA (oS (mk (KK zr_33) (fun b2=>?_))));refine KC (KB (KA (oM ?_)));refine oP (Det.max0 rfl rfl) ?_;refine oP (KCA u3 u30 rfl (by first|omega|exact Nat.lt_trans (D.limb_lt _ _) dc)) ?_;refine oP (KX pl_31 zr_31 rfl (by exact fill_small om)) ?_;refine oP (KX pl_33 zr_33 rfl (by exact fillL_whole (KU _ _ _) (KL _))) ?_;refine oT rfl rfl sz_33 ?_;refine KC (KN (eN (.cons ⟨_,_,_,rfl,mM,by exact KD u33 rfl sz_33⟩ .nil) ?_))
  rfl
theorem drop_step {l:List UInt8} {x:Nat} (h:x<l.length):l.drop (l.length-(x+1)) = l.getD (l.length-1-x) 0 :: l.drop (l.length-x):=by
  rw [show l.length-x = l.length-(x+1)+1 by omega,List.drop_eq_getElem_cons om]
  congr 1
  rw [List.getD_eq_getElem?_getD,List.getElem?_eq_getElem om]
  simp only [Option.getD_some]
  congr 1
  omega
theorem beVal_step {l:List UInt8} {x:Nat} (h:x<l.length):beVal (l.drop (l.length-(x+1))) = (l.getD (l.length-1-x) 0).toNat*256^x+beVal (l.drop (l.length-x)):=by
  rw [drop_step h,beVal,List.length_drop,show l.length-(l.length-x) = x by omega]
theorem beVal_drop (l:List UInt8) (x:Nat) (h:x≤l.length):beVal (l.drop (l.length-x))<256^x:=by
  have:=beVal_lt (l.drop (l.length-x))
  rwa [List.length_drop,show l.length-(l.length-x) = x by omega] at this
theorem size_list (s:ByteArray):s.data.toList.length = s.size:=rfl
theorem pow256_w9 {n:Nat} (h:n≤72):256^n≤W9:=by
  obtain ⟨j,hj⟩:∃ j:Nat,j = 9:=⟨9,rfl⟩
  rw [← w9 hj,pow256]
  exact Nat.pow_le_pow_right dc om
theorem KCj {l:List UInt8} (h:l.length≤72):beVal l<W9:=Nat.lt_of_lt_of_le (beVal_lt l) (pow256_w9 h)
theorem c_nat_Of (s:ByteArray) (hs:s.size<9223372036854775808) (w:World)  : CF Tryz.prog 49 [.string s] w (if 72<s.size then .tuple #[natV 0,Iz 100] else .tuple #[natV (beVal s.data.toList),Iz 0]):=by
  refine KV (N:=39) (rs:=[.cell 2 33,.tmp 3]) [] Tryz.func49 rfl Tryz.ntmps49 Tryz.results49 (Nb rfl) trivial rfl ?_
  refine KB (KA (oS (mk (KK zr_33) (fun b2=>?_))));refine oP (KO (v:=Iz 0) rfl) (KC (KB (KB ?_)))
  have hsz:s.size<9223372036854775808:=by omega
  refine KA (oM ?_);refine oP (KAQ u9 rfl) (oP (KG rfl rfl (KAb (b:=72))) (KC ?_))
  first|refine KQ rfl (fun h9=>?_) (fun h9=>?_)|refine KR rfl (fun h9=>?_) (fun h9=>?_)
  ·
   have h9:72<s.size:=h9
   refine KB (KA (oP (KX pl_33 zr_33 rfl rfl) (oT rfl rfl sz_33 ?_)));refine oP (KO (v:=Iz 100) rfl) (KC (KN (eN (.cons ⟨_,_,_,rfl,mM,by exact KD u33 rfl sz_33⟩ (.cons rfl .nil)) ?_)))
   rw [if_pos h9]
   refine congrArg (fun l:List Value=>Ending.returned (.tuple #[.agg l.toArray,_])) ?_
   exact vec_zeros 9
  have h9:¬ 72<s.size:=h9
  refine KM (KB (KA (oS (mk (KK zr_33) (fun b4=>?_)))));refine KC (KB (KB (KA (oM ?_))));refine oP (KAQ u9 rfl) (oP (Kf (v:=Iz 0) rfl) (KC (LCode.block ?_)));refine Kc (α:=Nat) (fun x=>x≤s.size) (fun x=>⟨[(0,.string s),(2,Pz b2),(4,Pz b4),(12,Iz s.size),(13,Iz x)],[.blk b4 ⟨true,natL (beVal (s.data.toList.drop (s.size-x))),33,(0,0)⟩,.blk b2 ⟨true,vec .u64 9 (fun _=>0),33,(0,0)⟩]⟩) (fun x=>s.size-x) (0) (Nat.zero_le _) (KAD (Sub.cells (b:=b4) (cs':=natL (beVal (s.data.toList.drop (s.size-0)))) mT (by rw [Nat.sub_zero,← size_list,List.drop_length]; exact vec_zeros 9)) (Ka ⟨rfl,rfl,rfl,rfl,rfl,trivial⟩ mS)) ?_
  intro x hx
  refine KB (KA (oP (KG rfl rfl (KAA)) (KC (KB ?_))))
  first|refine KQ rfl (fun h14=>?_) (fun h14=>?_)|refine KR rfl (fun h14=>?_) (fun h14=>?_)
  ·
   have h14:x<s.size:=h14
   refine KM (KB (LCode.block (KB (KA (oM (oA (KC (KB (KA (oM ?_))))))))));refine oP (KAQ u9 rfl) (oP (KG rfl rfl (KAe (b:=1) om om)) (oM ?_));refine oP (KG rfl rfl (KAe om om)) (oA (KC (rD [16] ?_)));refine aM 0 ?_;refine aP 1 rfl (KG rfl rfl (KDI (b:=8) om om)) (aP 2 rfl (KE (o':=0) u33 rfl rfl rfl sz_31 dc) (aP 3 rfl (KP u31 sz_30 rfl rfl om) (aD 4 rfl (dL rfl (hv:=KI u30 rfl (by exact KAY _ (show x/8<9 by omega)))) ?_)));refine aM 5 ?_;refine aM 6 ?_;refine aP 7 rfl (KJ (KAE u9 rfl rfl om om) (vi (b:=(s.data.toList.getD (s.size-1-x) 0).toNat) (by rw [Int.toNat_natCast]))) ?_;refine aP 8 rfl (KCA u5 u30 rfl (Nat.lt_trans (UInt8.toNat_lt _) dc)) (aM 9 ?_);refine aP 10 rfl (KG rfl rfl (br_rem (b:=8) om)) (aP 11 rfl (KG rfl rfl (KCB (a:=8) om)) (aP 12 rfl (KG rfl rfl (KCK)) (aP 13 rfl (KG rfl rfl (KCT (limb_lt _ _) (Nat.mod_lt _ dc))) (aP 14 rfl (KE (o':=0) u33 rfl rfl rfl sz_31 dc) (aP 15 rfl (KP u31 sz_30 rfl rfl om) (aL 16 rfl (KZ rfl rfl rfl sz_30 mT lT sT (by simp) ?_)))))))
   refine aE (KA (oP (KG rfl rfl (Kj (b:=1) om)) (oM (KC ?_))))
   have hb:=limb_byte (i:=x) (beVal_drop s.data.toList x hx) (UInt8.toNat_lt (s.data.toList.getD (s.data.toList.length-1-x) 0))
   refine ⟨x+1,by omega,by omega,KAD (Sub.cells (b:=b4) (cs':=natL (beVal (s.data.toList.drop (s.size-(x+1))))) mT ?_) (Ka ⟨rfl,rfl,rfl,rfl,rfl,trivial⟩ mS)⟩
   have hs:=beVal_step (l:=s.data.toList) (x:=x) h14
   rw [size_list] at hs hb
   rw [hs]
   exact Kq fun j _=>(hb.2 j).symm
  have h14:¬ x<s.size:=h14
  refine Kb (KB (KA (oD dNa ?_)));refine oT rfl rfl sz_33 ?_;refine oP (KO (v:=Iz 0) rfl) (KC (KN ?_))
  have hx9:x = s.size:=by omega
  subst hx9
  refine eN (.cons ⟨_,_,_,rfl,mM,by exact KD u33 rfl sz_33⟩ (.cons rfl .nil)) ?_
  rw [if_neg h9,Nat.sub_self,List.drop_zero]
  rfl
theorem c_nat_Bytes (A n:Nat) (hA:A<W9) (hn:n≤72) (w:World)  : CF Tryz.prog 47 [natV A,Iz n] w (if 8*n<blen A then .tuple #[.string ⟨#[]⟩,Iz 101] else .tuple #[.string (strOf (Kr n A)),Iz 0]):=by
  refine KV (N:=47) (rs:=[.tmp 4,.tmp 5]) [] Tryz.func47 rfl Tryz.ntmps47 Tryz.results47 (Nb rfl) trivial rfl ?_
  refine KB (KA (oS (mB (fun b2=>?_))));refine oA ?_;refine oP (KO (v:=Iz 0) rfl) (KC (KB (KB (KA (oM ?_)))));refine oP (KG rfl rfl (br_f (KAA (b:=0)) (Nat.not_lt_zero _))) (oM ?_);refine oGM ?_;refine oGP (KG rfl rfl (br_f (KAb (b:=72)) om)) (oP (KT rfl rfl) (oM ?_));refine Kt rfl rfl dNa (Nb rfl) ?_;refine oGS (cF rfl en_81 rfl (fun w hw=>KBz _ om w) ?_);refine oGM ?_;refine oGP (KG rfl rfl (KCB (a:=8) om)) (oGP (KG rfl rfl (KAb)) (oP (KT rfl rfl) (KC ?_)))
  first|refine KQ rfl (fun h20=>?_) (fun h20=>?_)|refine KR rfl (fun h20=>?_) (fun h20=>?_)
  ·
   have h20:8*n<blen A:=h20
   refine KB (KA (oA ?_));refine oP (KO (v:=Iz 101) rfl) (KC (KN (eN (.cons rfl (.cons rfl .nil)) ?_)))
   rw [if_pos h20]
   rfl
  have h20:¬ 8*n<blen A:=h20
  refine KM (KB (KA (oM ?_)));refine oS (mk (Makes.mkV u70 inf_5 rfl rfl om om) (fun b22=>?_));refine oA (KC (KB (KB (KA (oM ?_)))));refine oP (KBc u70 rfl) (oP (Kf (v:=Iz 0) rfl) (KC (LCode.block (Kc (α:=Nat) (fun x=>x≤n) (fun x=>⟨[(1,Iz n),(2,Pz b2),(6,.slice (some ⟨b22,0,none⟩) n n),(24,Iz n),(25,Iz x)],[.blk b22 ⟨true,vec .u8 n (fun j=>if n-x≤j then A/256^(n-1-j)%256 else 0),5,(0,0)⟩,.blk b2 ⟨true,natL A,33,(0,0)⟩]⟩) (fun x=>n-x) (0) (Nat.zero_le _) (KAD (Sub.cells (b:=b22) (cs':=vec .u8 n (fun j=>if n-0≤j then A/256^(n-1-j)%256 else 0)) mT (Kq fun j hj=>by rw [if_neg om])) (Ka ⟨rfl,rfl,rfl,rfl,rfl,trivial⟩ mS)) ?_))))
  intro x hx
  refine KB (KA (oP (KG rfl rfl (KAA)) (KC (KB ?_))))
  first|refine KQ rfl (fun h26=>?_) (fun h26=>?_)|refine KR rfl (fun h26=>?_) (fun h26=>?_)
  ·
   have h26:x<n:=h26
   refine KM (KB (LCode.block (KB (KA (oM (oA (KC (KA (oM (oM ?_))))))))));refine oP (KG rfl rfl (KAe (b:=1) om om)) (oM ?_);refine oP (KG rfl rfl (KAe om om)) (oM ?_);refine oP (KG rfl rfl (KDI (b:=8) om om)) (oP (KE (o':=0) u33 rfl rfl rfl sz_31 dc) (oP (KP u31 sz_30 rfl rfl om) (oD (dL rfl (hv:=KI u30 rfl (by exact KAY _ (show x/8<9 by omega)))) ?_)));refine oM ?_;refine oP (KG rfl rfl (br_rem (b:=8) om)) (oP (KG rfl rfl (KCB (a:=8) om)) (oP (KG rfl rfl (KAm (limb_lt _ _))) (oP (KAV u30 u5 rfl) (oP (KAF u70 sz_5 rfl rfl om) (LOps.step rfl (KZ rfl rfl rfl sz_5 mT lT sT (by simp) ?_))))));refine KC (KA (oP (KG rfl rfl (Kj (b:=1) om)) (oM (KC ?_))));refine ⟨x+1,by omega,by omega,KAD (Sub.cells (b:=b22) (cs':=vec .u8 n (fun j=>if n-(x+1)≤j then A/256^(n-1-j)%256 else 0)) mT (Kq fun j hj=>?_)) (Ka ⟨rfl,rfl,rfl,rfl,rfl,trivial⟩ mS)⟩
   by_cases e:j = n-1-x
   · rw [if_pos e,if_pos om,byte_of,show n-1-j = x by omega]
   · rw [if_neg e]
     by_cases e2:n-x≤j
     · rw [if_pos e2,if_pos om]
     · rw [if_neg e2,if_neg om]
  have h26:¬ x<n:=h26
  refine Kb (KB (KA (oM ?_)));refine oD (KBS u70 u5 u9 rfl mM (by exact (List.take_of_length_le (by simp [KU])).trans (List.drop_zero))) ?_;refine oA ?_;refine oP (KO (v:=Iz 0) rfl) (KC (KN ?_))
  have hx9:x = n:=by omega
  subst hx9
  refine eN (.cons rfl (.cons rfl .nil)) ?_
  rw [if_neg h20]
  have e:((List.range x).map fun i=>UInt8.ofNat ((fun j=>if x-x≤j then A/256^(x-1-j)%256 else 0) i)) = Kr x A:=by
    apply List.map_congr_left
    intro i hi
    dsimp only
    rw [if_pos om]
  rw [e]
  rfl
def p256:Hp:=⟨32,4294967296,4,64,6,11,25,2,13,22,7,18,3,17,19,10,[1116352408,1899447441,3049323471,3921009573,961987163,1508970993,2453635748,2870763221,3624381080,310598401,607225278,1426881987,1925078388,2162078206,2614888103,3248222580,3835390401,4022224774,264347078,604807628,770255983,1249150122,1555081692,1996064986,2554220882,2821834349,2952996808,3210313671,3336571891,3584528711,113926993,338241895,666307205,773529912,1294757372,1396182291,1695183700,1986661051,2177026350,2456956037,2730485921,2820302411,3259730800,3345764771,3516065817,3600352804,4094571909,275423344,430227734,506948616,659060556,883997877,958139571,1322822218,1537002063,1747873779,1955562222,2024104815,2227730452,2361852424,2428436474,2756734187,3204031479,3329325298],64⟩
def iv224:S8:=⟨3238371032,914150663,812702999,4144912697,4290775857,1750603025,1694076839,3204075428⟩
def iv256:S8:=⟨1779033703,3144134277,1013904242,2773480762,1359893119,2600822924,528734635,1541459225⟩
theorem c_rl32 (x k:Nat) (hk:0<k) (hk2:k<32) (w:World)  : CF Tryz.prog 232 [.int .u32 ((x:Nat):Int),.int .i64 (-(k:Int))] w (.int .u32 ((p256.rot x k:Nat):Int)):=by
  refine KV (N:=17) (rs:=[.tmp 4]) [] Tryz.func232 rfl Tryz.ntmps232 Tryz.results232 (Nb rfl) trivial rfl ?_
  refine KB (KA (oP (KO (v:=.int .u32 ((0:Nat):Int)) rfl) (KC (KB (KA (oM ?_))))));refine oP (KJ (Det.conv u3 u56 rfl) (show _ = .int .u64 ((18446744073709551616-k:Nat):Int) by rw [wrap_u64]; congr 1; omega)) ?_;refine oP (KJ (KG rfl rfl (KBR (b:=31) om dc)) (show _ = .int .u64 ((32-k:Nat):Int) by rw [Nat.and_two_pow_sub_one_eq_mod _ 5]; congr 2; omega)) ?_;refine oA (KC (KB (KA (oM (oM ?_)))));refine oP (KG rfl rfl (br_shl32m om)) (oM (oM ?_));refine oP (KJ (KG rfl rfl (KBW (a:=32) om)) (show _ = .int .u64 ((k:Nat):Int) by congr 2; omega)) ?_;refine oP (KG rfl rfl (br_shr32m om)) (oP (KG rfl rfl (br_or32m)) (oA (KC (KN ?_))));refine eN (.cons rfl .nil) ?_
  rfl
theorem KCi (x k:Nat) (hk:0<k) (hk2:k<32) (w:World)  : CF Tryz.prog 221 [.int .u32 ((x:Nat):Int),Iz k] w (.int .u32 ((p256.rot x k:Nat):Int)):=by
  refine KV (N:=9) (rs:=[.tmp 4]) [] Tryz.func221 rfl Tryz.ntmps221 Tryz.results221 (Nb rfl) trivial rfl ?_
  refine KB (KA (oP (KO (v:=.int .u32 ((0:Nat):Int)) rfl) (KC (KB (KA (oM (oM ?_)))))));refine oP (KJ (Det.neg rfl) (show _ = Value.int .i64 (-(k:Int)) by rw [Int.zero_sub,KBj om om])) (oS (cF rfl en_232 rfl (fun w hw=>c_rl32 _ _ om om w) ?_));refine oA (KC (KN ?_));refine eN (.cons rfl .nil) ?_
  rfl
theorem c_cons256  (w:World)  : CF Tryz.prog 195 [] w (.agg (vec .u32 64 (nthN p256.K)).toArray):=by
  refine KV (N:=2) (rs:=[.cell 0 299]) [] Tryz.func195 rfl Tryz.ntmps195 Tryz.results195 (Nb rfl) trivial rfl ?_
  refine KB (KA (oS (mk (KK zr_299) (fun b0=>?_))));refine KC (KB (KA (oP (KJ (KX (cs:=vec .u32 64 (nthN p256.K)) pl_299 zr_299 rfl kr) rfl) (oT rfl rfl sz_299 ?_))));refine KC (KN (eN (.cons ⟨_,_,_,rfl,mM,by exact KD u299 rfl sz_299⟩ .nil) ?_))
  rfl
theorem c_beg224  (w:World)  : CF Tryz.prog 194 [Iz 224] w (.tuple #[.agg (vec .u32 8 (S8.at iv224)).toArray,.bool true]):=by
  refine KV (N:=12) (rs:=[.cell 2 296,.tmp 3]) [] Tryz.func194 rfl Tryz.ntmps194 Tryz.results194 (Nb rfl) trivial rfl ?_
  refine KB (KA (oS (mk (KK zr_296) (fun b2=>?_))));refine oA (KC (KB (KB (KA (oM (KC (LCode.block (KB (KA ?_)))))))));refine oP (bT rfl rfl (Ku (b:=224)) (rfl)) (oA (KC ?_));refine KS rfl (KB (KA (oP (KJ (KX (cs:=vec .u32 8 (S8.at iv224)) pl_296 zr_296 rfl kr) rfl) (oT rfl rfl KCv ?_))));refine oA (KC (KN ?_));refine eN (.cons ⟨_,_,_,rfl,mM,by exact KD u296 rfl KCv⟩ (.cons rfl .nil)) ?_
  rfl
theorem c_beg256  (w:World)  : CF Tryz.prog 194 [Iz 256] w (.tuple #[.agg (vec .u32 8 (S8.at iv256)).toArray,.bool true]):=by
  refine KV (N:=12) (rs:=[.cell 2 296,.tmp 3]) [] Tryz.func194 rfl Tryz.ntmps194 Tryz.results194 (Nb rfl) trivial rfl ?_
  refine KB (KA (oS (mk (KK zr_296) (fun b2=>?_))));refine oA (KC (KB (KB (KA (oM (KC (LCode.block (KB (KA ?_)))))))));refine oP (bF rfl rfl (Ku (b:=224)) dc) (oA (KC ?_));refine KH rfl (KB (KA (oP (bT rfl rfl (Ku (b:=256)) (rfl)) (oA (KC ?_)))));refine KS rfl (KB (KA (oP (KJ (KX (cs:=vec .u32 8 (S8.at iv256)) pl_296 zr_296 rfl kr) rfl) (oT rfl rfl KCv ?_))));refine oA (KC (KN ?_));refine eN (.cons ⟨_,_,_,rfl,mM,by exact KD u296 rfl KCv⟩ (.cons rfl .nil)) ?_
  rfl
theorem c_sched256 (f:Nat→Nat) (bb o sn sc:Nat) (cells:List Value) (fz:Nat×Nat) (hsn:sn = 64) (hc:∀ j,j<64→cells[j+o]? = some (.int .u8 (f j:Int))) (w:World) (hb:(Item.blk bb ⟨false,cells,5,fz⟩).holds w):CF Tryz.prog 220 [.slice (some ⟨bb,o,none⟩) sn sc] w (.agg (vec .u32 64 (p256.wd f 64)).toArray):=by
  refine KV (N:=78) (rs:=[.cell 2 299]) [.blk bb ⟨false,cells,5,fz⟩] Tryz.func220 rfl Tryz.ntmps220 Tryz.results220 (Nb rfl) ⟨hb,trivial⟩ rfl ?_
  refine KB (KA (oS (mk (KK zr_299) (fun b2=>?_))));refine KC (KB (KA (oS (mk (KK zr_299) (fun b3=>?_)))));refine KC (KB (KB (KA (oP (Kf (v:=Iz 0) rfl) (KC (LCode.block (Kc (α:=Nat) (fun x=>x≤16) (fun x=>⟨[(0,.slice (some ⟨bb,o,none⟩) sn sc),(2,Pz b2),(3,Pz b3),(11,Iz x)],[.blk bb ⟨false,cells,5,fz⟩,.blk b3 ⟨true,vec .u32 64 (p256.wb0 f x 0),299,(0,0)⟩,.blk b2 ⟨true,vec .u32 64 (fun _=>0),299,(0,0)⟩]⟩) (fun x=>16-x) (0) (Nat.zero_le _) (KAD (Sub.cells (b:=b3) (cs':=vec .u32 64 (p256.wb0 f 0 0)) mT (Kq fun i _=>p256.wb0_start f i)) (Ka ⟨rfl,rfl,rfl,rfl,trivial⟩ mS)) ?_)))))))
  intro x hx
  refine KB (KA (oP (KG rfl rfl (KAA (b:=16))) (KC (KB ?_))))
  first|refine KQ rfl (fun h12=>?_) (fun h12=>?_)|refine KR rfl (fun h12=>?_) (fun h12=>?_)
  ·
   have h12:x<16:=h12
   refine KM (KB (LCode.block (KB (KA (oM (oA (KC (KB (KA ?_)))))))));refine oP (Kf (v:=Iz 0) rfl) (KC (LCode.block (Kc (α:=Nat) (fun y=>y≤4) (fun y=>⟨[(0,.slice (some ⟨bb,o,none⟩) sn sc),(2,Pz b2),(3,Pz b3),(11,Iz x),(4,Iz x),(14,Iz y)],[.blk bb ⟨false,cells,5,fz⟩,.blk b3 ⟨true,vec .u32 64 (p256.wb0 f x y),299,(0,0)⟩,.blk b2 ⟨true,vec .u32 64 (fun _=>0),299,(0,0)⟩]⟩) (fun y=>4-y) (0) (Nat.zero_le _) (Ka ⟨rfl,rfl,rfl,rfl,rfl,rfl,trivial⟩ mS) ?_)))
   intro y hy
   refine KB (KA (oP (KG rfl rfl (KAA (b:=4))) (KC (KB ?_))))
   first|refine KQ rfl (fun h15=>?_) (fun h15=>?_)|refine KR rfl (fun h15=>?_) (fun h15=>?_)
   ·
    have h15:y<4:=h15
    refine KM (KB (LCode.block (KB (KA (oM (oA (KC (rD [15] ?_))))))));refine aM 0 ?_;refine aM 1 ?_;refine aP 2 rfl (KP u299 KAi rfl rfl om) (aD 3 rfl (dL rfl (hv:=KI u188 rfl gL)) ?_);refine aP 4 rfl (KG rfl rfl (br_shl32m (b:=8) dc)) (aM 5 ?_);refine aM 6 ?_;refine aP 7 rfl (KG rfl rfl (KCB (a:=4) om)) (aM 8 ?_);refine aP 9 rfl (KG rfl rfl (Kj om)) (aP 10 rfl (Det.indexS u70 sz_5 rfl rfl om) (aD 11 rfl (dL rfl (hv:=KI u5 rfl (by exact hc _ om))) ?_));refine aP 12 rfl (Det.conv32 u5 u188 rfl) (aP 13 rfl (KG rfl rfl (br_or32m)) (aP 14 rfl (KP u299 KAi rfl rfl om) (aL 15 rfl (KZ rfl rfl rfl KAi mT lT sT (by simp) ?_))));refine aE (KA (oP (KG rfl rfl (Kj (b:=1) om)) (oM (KC ?_))));refine ⟨y+1,by omega,by omega,KAD (Sub.cells (b:=b3) (cs':=vec .u32 64 (p256.wb0 f x (y+1))) mT (Kq fun i _=>?_)) (Ka ⟨rfl,rfl,rfl,rfl,rfl,rfl,trivial⟩ mS)⟩
    exact (congrArg (fun z=>if i = x then z else p256.wb0 f x y i) (p256.beW_step f x y _ rfl)).trans (p256.wb0_next f x y i)
   have h15:¬ y<4:=h15
   obtain rfl:y = 4:=by omega
   refine Kb (KA (oP (KG rfl rfl (Kj (b:=1) om)) (oM (KC ?_))));refine ⟨x+1,by omega,by omega,KAD (Sub.cells (b:=b3) (cs':=vec .u32 64 (p256.wb0 f (x+1) 0)) mT (Kq fun i _=>p256.wb0_row f x i)) (Ka ⟨rfl,rfl,rfl,rfl,trivial⟩ mS)⟩
  have h12:¬ x<16:=h12
  obtain rfl:x = 16:=by omega
  refine Kb (KB (KB (KA (oP (KO (v:=Iz 16) rfl) (KC (LCode.block (Kc (α:=Nat) (fun x=>16≤x∧x≤64) (fun x=>⟨[(0,.slice (some ⟨bb,o,none⟩) sn sc),(2,Pz b2),(3,Pz b3),(6,Iz x)],[.blk bb ⟨false,cells,5,fz⟩,.blk b3 ⟨true,vec .u32 64 (p256.wd f x),299,(0,0)⟩,.blk b2 ⟨true,vec .u32 64 (fun _=>0),299,(0,0)⟩]⟩) (fun x=>64-x) (16) (⟨Nat.le_refl _,by decide⟩) (KAD (Sub.cells (b:=b3) (cs':=vec .u32 64 (p256.wd f 16)) mT (Kq fun i _=>p256.wb0_end f i)) (Ka ⟨rfl,rfl,rfl,rfl,trivial⟩ mS)) ?_)))))))
  rintro x ⟨hx1,hx2⟩
  refine KB (KB (KA (oM ?_)));refine oP (KG rfl rfl (KAA (b:=64))) (KC ?_)
  first|refine KQ rfl (fun h35=>?_) (fun h35=>?_)|refine KR rfl (fun h35=>?_) (fun h35=>?_)
  ·
   have h35:x<64:=h35
   refine KM (KB (LCode.block (KB (rD [] (aM 0 ?_)))));refine aP 1 rfl (KG rfl rfl (KAe (b:=15) om om)) (aP 2 rfl (KP u299 KAi rfl rfl om) (aD 3 rfl (dL rfl (hv:=KI u188 rfl gL)) ?_));refine aM 4 ?_;refine aP 5 rfl (KG rfl rfl (KAe (b:=2) om om)) (aP 6 rfl (KP u299 KAi rfl rfl om) (aD 7 rfl (dL rfl (hv:=KI u188 rfl gL)) ?_));refine aA 8 ?_;refine aA 9 ?_;refine aE (KB (KA (oM ?_)));refine oS (cF rfl en_221 rfl (fun w hw=>KCi _ _ dc dc w) ?_);refine oM ?_;refine oS (cF rfl en_221 rfl (fun w hw=>KCi _ _ dc dc w) ?_);refine oP (KG rfl rfl (KBr)) (oM ?_);refine oP (KG rfl rfl (br_shr32m (b:=3) dc)) (oP (KG rfl rfl (KBr)) (oA (KC (KB (KA (oM ?_))))));refine oS (cF rfl en_221 rfl (fun w hw=>KCi _ _ dc dc w) ?_);refine oM ?_;refine oS (cF rfl en_221 rfl (fun w hw=>KCi _ _ dc dc w) ?_);refine oP (KG rfl rfl (KBr)) (oM ?_);refine oP (KG rfl rfl (br_shr32m (b:=10) dc)) (oP (KG rfl rfl (KBr)) (oA (KC (rD [15] ?_))))
   refine aM 0 ?_;refine aM 1 ?_;refine aP 2 rfl (KG rfl rfl (KAe (b:=16) om om)) (aP 3 rfl (KP u299 KAi rfl rfl om) (aD 4 rfl (dL rfl (hv:=KI u188 rfl gL)) ?_));refine aM 5 ?_;refine aP 6 rfl (KG rfl rfl (KBu)) (aM 7 ?_);refine aP 8 rfl (KG rfl rfl (KAe (b:=7) om om)) (aP 9 rfl (KP u299 KAi rfl rfl om) (aD 10 rfl (dL rfl (hv:=KI u188 rfl gL)) ?_));refine aP 11 rfl (KG rfl rfl (KBu)) (aM 12 ?_);refine aP 13 rfl (KG rfl rfl (KBu)) (aP 14 rfl (KP u299 KAi rfl rfl om) (aL 15 rfl (KZ rfl rfl rfl KAi mT lT sT (by simp) ?_)));refine aE (KA (oM ?_));refine oP (KG rfl rfl (Kj (b:=1) om)) (oA (KC ?_));refine ⟨x+1,by omega,by omega,KAD (Sub.cells (b:=b3) (cs':=vec .u32 64 (p256.wd f (x+1))) mT (Kq fun i _=>?_)) (Ka ⟨rfl,rfl,rfl,rfl,trivial⟩ mS)⟩
   rw [p256.wd_lt (d:=16) f hx1 dc om,p256.wd_lt (d:=15) f hx1 dc om,p256.wd_lt (d:=7) f hx1 dc om,p256.wd_lt (d:=2) f hx1 dc om]
   exact p256.wd_next f hx1 i
  have h35:¬ x<64:=h35
  obtain rfl:x = 64:=by omega
  refine Kb (KB (KA (oD (dL rfl (hv:=by exact KD u299 rfl sz_299)) ?_)));refine oT rfl rfl sz_299 ?_;refine KC (KN (eN (.cons ⟨_,_,_,rfl,mM,by exact KD u299 rfl sz_299⟩ .nil) ?_))
  rfl
def p512:Hp:=⟨64,18446744073709551616,8,80,14,18,41,28,34,39,1,8,7,19,61,6,[4794697086780616226,8158064640168781261,13096744586834688815,16840607885511220156,4131703408338449720,6480981068601479193,10538285296894168987,12329834152419229976,15566598209576043074,1334009975649890238,2608012711638119052,6128411473006802146,8268148722764581231,9286055187155687089,11230858885718282805,13951009754708518548,16472876342353939154,17275323862435702243,1135362057144423861,2597628984639134821,3308224258029322869,5365058923640841347,6679025012923562964,8573033837759648693,10970295158949994411,12119686244451234320,12683024718118986047,13788192230050041572,14330467153632333762,15395433587784984357,489312712824947311,1452737877330783856,2861767655752347644,3322285676063803686,5560940570517711597,5996557281743188959,7280758554555802590,8532644243296465576,9350256976987008742,10552545826968843579,11727347734174303076,12113106623233404929,14000437183269869457,14369950271660146224,15101387698204529176,15463397548674623760,17586052441742319658,1182934255886127544,1847814050463011016,2177327727835720531,2830643537854262169,3796741975233480872,4115178125766777443,5681478168544905931,6601373596472566643,7507060721942968483,8399075790359081724,8693463985226723168,9568029438360202098,10144078919501101548,10430055236837252648,11840083180663258601,13761210420658862357,14299343276471374635,14566680578165727644,15097957966210449927,16922976911328602910,17689382322260857208,500013540394364858,748580250866718886,1242879168328830382,1977374033974150939,2944078676154940804,3659926193048069267,4368137639120453308,4836135668995329356,5532061633213252278,6448918945643986474,6902733635092675308,7801388544844847127],128⟩
def iv384:S8:=⟨14680500436340154072,7105036623409894663,10473403895298186519,1526699215303891257,7436329637833083697,10282925794625328401,15784041429090275239,5167115440072839076⟩
def iv512:S8:=⟨7640891576956012808,13503953896175478587,4354685564936845355,11912009170470909681,5840696475078001361,11170449401992604703,2270897969802886507,6620516959819538809⟩
theorem c_rl64 (x k:Nat) (hk:0<k) (hk2:k<64) (w:World)  : CF Tryz.prog 233 [.int .u64 ((x:Nat):Int),.int .i64 (-(k:Int))] w (.int .u64 ((p512.rot x k:Nat):Int)):=by
  refine KV (N:=17) (rs:=[.tmp 4]) [] Tryz.func233 rfl Tryz.ntmps233 Tryz.results233 (Nb rfl) trivial rfl ?_
  refine KB (KA (oP (KO (v:=.int .u64 ((0:Nat):Int)) rfl) (KC (KB (KA (oM ?_))))));refine oP (KJ (Det.conv u3 u56 rfl) (show _ = .int .u64 ((18446744073709551616-k:Nat):Int) by rw [wrap_u64]; congr 1; omega)) ?_;refine oP (KJ (KG rfl rfl (KBR (b:=63) om dc)) (show _ = .int .u64 ((64-k:Nat):Int) by rw [Nat.and_two_pow_sub_one_eq_mod _ 6]; congr 2; omega)) ?_;refine oA (KC (KB (KA (oM (oM ?_)))));refine oP (KG rfl rfl (br_shl64m om)) (oM (oM ?_));refine oP (KJ (KG rfl rfl (KBW (a:=64) om)) (show _ = .int .u64 ((k:Nat):Int) by congr 2; omega)) ?_;refine oP (KG rfl rfl (KDf om)) (oP (KG rfl rfl (br_or64m)) (oA (KC (KN ?_))));refine eN (.cons rfl .nil) ?_
  rfl
theorem KCh (x k:Nat) (hk:0<k) (hk2:k<64) (w:World)  : CF Tryz.prog 223 [.int .u64 ((x:Nat):Int),Iz k] w (.int .u64 ((p512.rot x k:Nat):Int)):=by
  refine KV (N:=9) (rs:=[.tmp 4]) [] Tryz.func223 rfl Tryz.ntmps223 Tryz.results223 (Nb rfl) trivial rfl ?_
  refine KB (KA (oP (KO (v:=.int .u64 ((0:Nat):Int)) rfl) (KC (KB (KA (oM (oM ?_)))))));refine oP (KJ (Det.neg rfl) (show _ = Value.int .i64 (-(k:Int)) by rw [Int.zero_sub,KBj om om])) (oS (cF rfl en_233 rfl (fun w hw=>c_rl64 _ _ om om w) ?_));refine oA (KC (KN ?_));refine eN (.cons rfl .nil) ?_
  rfl
theorem c_cons512  (w:World)  : CF Tryz.prog 201 [] w (.agg (vec .u64 80 (nthN p512.K)).toArray):=by
  refine KV (N:=2) (rs:=[.cell 0 308]) [] Tryz.func201 rfl Tryz.ntmps201 Tryz.results201 (Nb rfl) trivial rfl ?_
  refine KB (KA (oS (mk (KK zr_308) (fun b0=>?_))));refine KC (KB (KA (oP (KJ (KX (cs:=vec .u64 80 (nthN p512.K)) pl_308 zr_308 rfl kr) rfl) (oT rfl rfl sz_308 ?_))));refine KC (KN (eN (.cons ⟨_,_,_,rfl,mM,by exact KD u308 rfl sz_308⟩ .nil) ?_))
  rfl
theorem c_beg384  (w:World)  : CF Tryz.prog 200 [Iz 384] w (.tuple #[.agg (vec .u64 8 (S8.at iv384)).toArray,.bool true]):=by
  refine KV (N:=12) (rs:=[.cell 2 305,.tmp 3]) [] Tryz.func200 rfl Tryz.ntmps200 Tryz.results200 (Nb rfl) trivial rfl ?_
  refine KB (KA (oS (mk (KK zr_305) (fun b2=>?_))));refine oA (KC (KB (KB (KA (oM (KC (LCode.block (KB (KA ?_)))))))));refine oP (bT rfl rfl (Ku (b:=384)) (rfl)) (oA (KC ?_));refine KS rfl (KB (KA (oP (KJ (KX (cs:=vec .u64 8 (S8.at iv384)) pl_305 zr_305 rfl kr) rfl) (oT rfl rfl KCu ?_))));refine oA (KC (KN ?_));refine eN (.cons ⟨_,_,_,rfl,mM,by exact KD u305 rfl KCu⟩ (.cons rfl .nil)) ?_
  rfl
theorem c_beg512  (w:World)  : CF Tryz.prog 200 [Iz 512] w (.tuple #[.agg (vec .u64 8 (S8.at iv512)).toArray,.bool true]):=by
  refine KV (N:=12) (rs:=[.cell 2 305,.tmp 3]) [] Tryz.func200 rfl Tryz.ntmps200 Tryz.results200 (Nb rfl) trivial rfl ?_
  refine KB (KA (oS (mk (KK zr_305) (fun b2=>?_))));refine oA (KC (KB (KB (KA (oM (KC (LCode.block (KB (KA ?_)))))))));refine oP (bF rfl rfl (Ku (b:=384)) dc) (oA (KC ?_));refine KH rfl (KB (KA (oP (bT rfl rfl (Ku (b:=512)) (rfl)) (oA (KC ?_)))));refine KS rfl (KB (KA (oP (KJ (KX (cs:=vec .u64 8 (S8.at iv512)) pl_305 zr_305 rfl kr) rfl) (oT rfl rfl KCu ?_))));refine oA (KC (KN ?_));refine eN (.cons ⟨_,_,_,rfl,mM,by exact KD u305 rfl KCu⟩ (.cons rfl .nil)) ?_
  rfl
theorem c_sched512 (f:Nat→Nat) (bb o sn sc:Nat) (cells:List Value) (fz:Nat×Nat) (hsn:sn = 128) (hc:∀ j,j<128→cells[j+o]? = some (.int .u8 (f j:Int))) (w:World) (hb:(Item.blk bb ⟨false,cells,5,fz⟩).holds w):CF Tryz.prog 222 [.slice (some ⟨bb,o,none⟩) sn sc] w (.agg (vec .u64 80 (p512.wd f 80)).toArray):=by
  refine KV (N:=78) (rs:=[.cell 2 308]) [.blk bb ⟨false,cells,5,fz⟩] Tryz.func222 rfl Tryz.ntmps222 Tryz.results222 (Nb rfl) ⟨hb,trivial⟩ rfl ?_
  refine KB (KA (oS (mk (KK zr_308) (fun b2=>?_))));refine KC (KB (KA (oS (mk (KK zr_308) (fun b3=>?_)))));refine KC (KB (KB (KA (oP (Kf (v:=Iz 0) rfl) (KC (LCode.block (Kc (α:=Nat) (fun x=>x≤16) (fun x=>⟨[(0,.slice (some ⟨bb,o,none⟩) sn sc),(2,Pz b2),(3,Pz b3),(11,Iz x)],[.blk bb ⟨false,cells,5,fz⟩,.blk b3 ⟨true,vec .u64 80 (p512.wb0 f x 0),308,(0,0)⟩,.blk b2 ⟨true,vec .u64 80 (fun _=>0),308,(0,0)⟩]⟩) (fun x=>16-x) (0) (Nat.zero_le _) (KAD (Sub.cells (b:=b3) (cs':=vec .u64 80 (p512.wb0 f 0 0)) mT (Kq fun i _=>p512.wb0_start f i)) (Ka ⟨rfl,rfl,rfl,rfl,trivial⟩ mS)) ?_)))))))
  intro x hx
  refine KB (KA (oP (KG rfl rfl (KAA (b:=16))) (KC (KB ?_))))
  first|refine KQ rfl (fun h12=>?_) (fun h12=>?_)|refine KR rfl (fun h12=>?_) (fun h12=>?_)
  ·
   have h12:x<16:=h12
   refine KM (KB (LCode.block (KB (KA (oM (oA (KC (KB (KA ?_)))))))));refine oP (Kf (v:=Iz 0) rfl) (KC (LCode.block (Kc (α:=Nat) (fun y=>y≤8) (fun y=>⟨[(0,.slice (some ⟨bb,o,none⟩) sn sc),(2,Pz b2),(3,Pz b3),(11,Iz x),(4,Iz x),(14,Iz y)],[.blk bb ⟨false,cells,5,fz⟩,.blk b3 ⟨true,vec .u64 80 (p512.wb0 f x y),308,(0,0)⟩,.blk b2 ⟨true,vec .u64 80 (fun _=>0),308,(0,0)⟩]⟩) (fun y=>8-y) (0) (Nat.zero_le _) (Ka ⟨rfl,rfl,rfl,rfl,rfl,rfl,trivial⟩ mS) ?_)))
   intro y hy
   refine KB (KA (oP (KG rfl rfl (KAA (b:=8))) (KC (KB ?_))))
   first|refine KQ rfl (fun h15=>?_) (fun h15=>?_)|refine KR rfl (fun h15=>?_) (fun h15=>?_)
   ·
    have h15:y<8:=h15
    refine KM (KB (LCode.block (KB (KA (oM (oA (KC (rD [15] ?_))))))));refine aM 0 ?_;refine aM 1 ?_;refine aP 2 rfl (KP u308 sz_30 rfl rfl om) (aD 3 rfl (dL rfl (hv:=KI u30 rfl gL)) ?_);refine aP 4 rfl (KG rfl rfl (br_shl64m (b:=8) dc)) (aM 5 ?_);refine aM 6 ?_;refine aP 7 rfl (KG rfl rfl (KCB (a:=8) om)) (aM 8 ?_);refine aP 9 rfl (KG rfl rfl (Kj om)) (aP 10 rfl (Det.indexS u70 sz_5 rfl rfl om) (aD 11 rfl (dL rfl (hv:=KI u5 rfl (by exact hc _ om))) ?_));refine aP 12 rfl (Det.conv64m u5 u30 rfl) (aP 13 rfl (KG rfl rfl (br_or64m)) (aP 14 rfl (KP u308 sz_30 rfl rfl om) (aL 15 rfl (KZ rfl rfl rfl sz_30 mT lT sT (by simp) ?_))));refine aE (KA (oP (KG rfl rfl (Kj (b:=1) om)) (oM (KC ?_))));refine ⟨y+1,by omega,by omega,KAD (Sub.cells (b:=b3) (cs':=vec .u64 80 (p512.wb0 f x (y+1))) mT (Kq fun i _=>?_)) (Ka ⟨rfl,rfl,rfl,rfl,rfl,rfl,trivial⟩ mS)⟩
    exact (congrArg (fun z=>if i = x then z else p512.wb0 f x y i) (p512.beW_step f x y _ rfl)).trans (p512.wb0_next f x y i)
   have h15:¬ y<8:=h15
   obtain rfl:y = 8:=by omega
   refine Kb (KA (oP (KG rfl rfl (Kj (b:=1) om)) (oM (KC ?_))));refine ⟨x+1,by omega,by omega,KAD (Sub.cells (b:=b3) (cs':=vec .u64 80 (p512.wb0 f (x+1) 0)) mT (Kq fun i _=>p512.wb0_row f x i)) (Ka ⟨rfl,rfl,rfl,rfl,trivial⟩ mS)⟩
  have h12:¬ x<16:=h12
  obtain rfl:x = 16:=by omega
  refine Kb (KB (KB (KA (oP (KO (v:=Iz 16) rfl) (KC (LCode.block (Kc (α:=Nat) (fun x=>16≤x∧x≤80) (fun x=>⟨[(0,.slice (some ⟨bb,o,none⟩) sn sc),(2,Pz b2),(3,Pz b3),(6,Iz x)],[.blk bb ⟨false,cells,5,fz⟩,.blk b3 ⟨true,vec .u64 80 (p512.wd f x),308,(0,0)⟩,.blk b2 ⟨true,vec .u64 80 (fun _=>0),308,(0,0)⟩]⟩) (fun x=>80-x) (16) (⟨Nat.le_refl _,by decide⟩) (KAD (Sub.cells (b:=b3) (cs':=vec .u64 80 (p512.wd f 16)) mT (Kq fun i _=>p512.wb0_end f i)) (Ka ⟨rfl,rfl,rfl,rfl,trivial⟩ mS)) ?_)))))))
  rintro x ⟨hx1,hx2⟩
  refine KB (KB (KA (oM ?_)));refine oP (KG rfl rfl (KAA (b:=80))) (KC ?_)
  first|refine KQ rfl (fun h35=>?_) (fun h35=>?_)|refine KR rfl (fun h35=>?_) (fun h35=>?_)
  ·
   have h35:x<80:=h35
   refine KM (KB (LCode.block (KB (rD [] (aM 0 ?_)))));refine aP 1 rfl (KG rfl rfl (KAe (b:=15) om om)) (aP 2 rfl (KP u308 sz_30 rfl rfl om) (aD 3 rfl (dL rfl (hv:=KI u30 rfl gL)) ?_));refine aM 4 ?_;refine aP 5 rfl (KG rfl rfl (KAe (b:=2) om om)) (aP 6 rfl (KP u308 sz_30 rfl rfl om) (aD 7 rfl (dL rfl (hv:=KI u30 rfl gL)) ?_));refine aA 8 ?_;refine aA 9 ?_;refine aE (KB (KA (oM ?_)));refine oS (cF rfl en_223 rfl (fun w hw=>KCh _ _ dc dc w) ?_);refine oM ?_;refine oS (cF rfl en_223 rfl (fun w hw=>KCh _ _ dc dc w) ?_);refine oP (KG rfl rfl (KBq)) (oM ?_);refine oP (KG rfl rfl (KDf (b:=7) dc)) (oP (KG rfl rfl (KBq)) (oA (KC (KB (KA (oM ?_))))));refine oS (cF rfl en_223 rfl (fun w hw=>KCh _ _ dc dc w) ?_);refine oM ?_;refine oS (cF rfl en_223 rfl (fun w hw=>KCh _ _ dc dc w) ?_);refine oP (KG rfl rfl (KBq)) (oM ?_);refine oP (KG rfl rfl (KDf (b:=6) dc)) (oP (KG rfl rfl (KBq)) (oA (KC (rD [15] ?_))))
   refine aM 0 ?_;refine aM 1 ?_;refine aP 2 rfl (KG rfl rfl (KAe (b:=16) om om)) (aP 3 rfl (KP u308 sz_30 rfl rfl om) (aD 4 rfl (dL rfl (hv:=KI u30 rfl gL)) ?_));refine aM 5 ?_;refine aP 6 rfl (KG rfl rfl (KBt)) (aM 7 ?_);refine aP 8 rfl (KG rfl rfl (KAe (b:=7) om om)) (aP 9 rfl (KP u308 sz_30 rfl rfl om) (aD 10 rfl (dL rfl (hv:=KI u30 rfl gL)) ?_));refine aP 11 rfl (KG rfl rfl (KBt)) (aM 12 ?_);refine aP 13 rfl (KG rfl rfl (KBt)) (aP 14 rfl (KP u308 sz_30 rfl rfl om) (aL 15 rfl (KZ rfl rfl rfl sz_30 mT lT sT (by simp) ?_)));refine aE (KA (oM ?_));refine oP (KG rfl rfl (Kj (b:=1) om)) (oA (KC ?_));refine ⟨x+1,by omega,by omega,KAD (Sub.cells (b:=b3) (cs':=vec .u64 80 (p512.wd f (x+1))) mT (Kq fun i _=>?_)) (Ka ⟨rfl,rfl,rfl,rfl,trivial⟩ mS)⟩
   rw [p512.wd_lt (d:=16) f hx1 dc om,p512.wd_lt (d:=15) f hx1 dc om,p512.wd_lt (d:=7) f hx1 dc om,p512.wd_lt (d:=2) f hx1 dc om]
   exact p512.wd_next f hx1 i
  have h35:¬ x<80:=h35
  obtain rfl:x = 80:=by omega
  refine Kb (KB (KA (oD (dL rfl (hv:=by exact KD u308 rfl sz_308)) ?_)));refine oT rfl rfl sz_308 ?_;refine KC (KN (eN (.cons ⟨_,_,_,rfl,mM,by exact KD u308 rfl sz_308⟩ .nil) ?_))
  rfl
theorem c_turn256 (f:Nat→Nat) (size n:Nat) (h:S8) (v:Value) (hb bb o sn sc:Nat) (cells:List Value) (fz:Nat×Nat) (hsn:sn = 64) (hc:∀ j,j<64→cells[j+o]? = some (.int .u8 (f j:Int))) (w:World) (hH:∀ x,x∈([.blk hb ⟨true,shL .u32 p256 size (h.at) v n,302,(0,0)⟩]++[.blk bb ⟨false,cells,5,fz⟩]:List Item)→x.holds w) (hd:([.blk hb ⟨true,shL .u32 p256 size (h.at) v n,302,(0,0)⟩]++[.blk bb ⟨false,cells,5,fz⟩]:List Item).Pairwise Apart)  : Calls Tryz.prog 199 ([Pz hb,.slice (some ⟨bb,o,none⟩) sn sc]:List Value).toArray w (fun e w'=>∃ (u:Value) (x':Item),(u = .tuple #[]∧x' = .blk hb ⟨true,shL .u32 p256 size ((p256.turn h f).at) v n,302,(0,0)⟩)∧e = .returned u∧Outcome w [.blk hb ⟨true,shL .u32 p256 size (h.at) v n,302,(0,0)⟩] [x'] w'):=by
  refine KAO [.blk hb ⟨true,shL .u32 p256 size (h.at) v n,302,(0,0)⟩,.blk bb ⟨false,cells,5,fz⟩] (N:=130) (rs:=[]) Tryz.func199 rfl Tryz.ntmps199 Tryz.results199 (Nb rfl) hH hd rfl rfl ?_
  refine KB (KA (oM ?_));refine oS (cF rfl en_220 rfl (fun w hw=>c_sched256 f bb o sn sc cells fz hsn hc w (show (Item.blk bb ⟨false,_,_,_⟩).holds w from hw _ mM)) ?_);refine oS (mk (KK zr_299) (fun b4=>?_));refine oT rfl rfl sz_299 ?_;refine KC (KB ?_)
  obtain ⟨W,hW⟩:∃ W,W = p256.wd f 64:=⟨_,rfl⟩
  rw [← hW]
  refine KA (oM ?_);refine oP (KF rfl) (oP (KE (o':=1) u302 rfl rfl rfl KCv dc) ?_);refine oD (dL rfl (hv:=by exact KBH u296 rfl KCv shL_hs (by rw [KAp]; decide))) ?_;refine oS (mk (KK zr_296) (fun b5=>?_));refine oT rfl rfl KCv ?_;refine KC (KB (KB (KA (oP (Kf (v:=Iz 0) rfl) (KC (LCode.block (Kc (α:=Nat) (fun x=>x≤64) (fun x=>⟨[(0,Pz hb),(4,Pz b4),(5,Pz b5),(19,Iz x)],[.blk hb ⟨true,shL .u32 p256 size (h.at) v n,302,(0,0)⟩,.blk b4 ⟨true,vec .u32 64 (W),299,(0,0)⟩,.blk b5 ⟨true,vec .u32 8 (S8.at (p256.rnds W h x)),296,(0,0)⟩]⟩) (fun x=>64-x) (0) (Nat.zero_le _) (Ka ⟨rfl,rfl,rfl,rfl,trivial⟩ mS) ?_)))))))
  intro x hx
  refine KB (KA (oP (KG rfl rfl (KAA (b:=64))) (KC (KB ?_))))
  first|refine KQ rfl (fun h20=>?_) (fun h20=>?_)|refine KR rfl (fun h20=>?_) (fun h20=>?_)
  ·
   have h20:x<64:=h20
   refine KM (KB (LCode.block (KB (KA (oM (oA (KC (KB (rD [] ?_)))))))));refine aP 0 rfl (KP (i:=4) u296 KAi rfl rfl om) (aD 1 rfl (dL rfl (hv:=KI u188 rfl (by exact Ki _ _ _ om))) ?_);refine aP 3 rfl (KP (i:=4) u296 KAi rfl rfl om) (aD 4 rfl (dL rfl (hv:=KI u188 rfl (by exact Ki _ _ _ om))) ?_);refine aP 7 rfl (KP (i:=4) u296 KAi rfl rfl om) (aD 8 rfl (dL rfl (hv:=KI u188 rfl (by exact Ki _ _ _ om))) ?_);refine aO 2 rfl (cF rfl en_221 rfl (fun w hw=>KCi _ _ dc dc w) ?_);refine aO 5 rfl (cF rfl en_221 rfl (fun w hw=>KCi _ _ dc dc w) ?_);refine aP 6 rfl (KG rfl rfl (KBr)) (aO 9 rfl (cF rfl en_221 rfl (fun w hw=>KCi _ _ dc dc w) ?_));refine aP 10 rfl (KG rfl rfl (KBr)) (aP 11 rfl (KJ (KO rfl) (show _ = .int .u32 ((p256.sg (p256.rnds W h x).e p256.e1 p256.e2 p256.e3:Nat):Int) from rfl)) (aE (KB (KA (oP (KP (i:=4) u296 KAi rfl rfl om) (oD (dL rfl (hv:=KI u188 rfl (by exact Ki _ _ _ om))) ?_))))))
   refine oP (KP (i:=5) u296 KAi rfl rfl om) (oD (dL rfl (hv:=KI u188 rfl (by exact Ki _ _ _ om))) ?_);refine oP (KG rfl rfl (br_and32m)) (oP (KP (i:=4) u296 KAi rfl rfl om) (oD (dL rfl (hv:=KI u188 rfl (by exact Ki _ _ _ om))) ?_));refine oP (Det.cpl32 rfl) (oP (KP (i:=6) u296 KAi rfl rfl om) (oD (dL rfl (hv:=KI u188 rfl (by exact Ki _ _ _ om))) ?_));refine oP (KG rfl rfl (br_and32m)) (oP (KG rfl rfl (KBr)) (oP (KJ (KO rfl) (show _ = .int .u32 ((p256.ch (p256.rnds W h x).e (p256.rnds W h x).f (p256.rnds W h x).g:Nat):Int) from rfl)) (KC (KB (rD [] (aP 0 rfl (KP (i:=7) u296 KAi rfl rfl om) (aD 1 rfl (dL rfl (hv:=KI u188 rfl (by exact Ki _ _ _ om))) ?_)))))));refine aM 2 ?_;refine aP 3 rfl (KG rfl rfl (KBu)) (aM 4 ?_);refine aP 5 rfl (KG rfl rfl (KBu)) (aM 6 ?_);refine aM 7 ?_;refine aP 8 rfl (KF rfl) (aP 9 rfl (KE (o':=9) u302 rfl rfl rfl sz_299 dc) (aP 10 rfl (KCg u299 KAi rfl rfl om) (aD 11 rfl (dL rfl (hv:=KI u188 rfl (by exact shL_k (show x<p256.R from h20)))) ?_)))
   refine aP 12 rfl (KG rfl rfl (KBu)) (aM 13 ?_);refine aP 14 rfl (KP u299 KAi rfl rfl om) (aD 15 rfl (dL rfl (hv:=KI u188 rfl (by exact Ki _ _ _ h20))) ?_);refine aP 16 rfl (KG rfl rfl (KBu)) (aP 17 rfl (KJ (KO rfl) (show _ = .int .u32 ((p256.T1 (p256.rnds W h x) (nthN p256.K x) (W x):Nat):Int) from rfl)) (aE (KB (rD [] (aP 0 rfl (KP (i:=0) u296 KAi rfl rfl om) (aD 1 rfl (dL rfl (hv:=KI u188 rfl (by exact Ki _ _ _ om))) ?_))))));refine aP 3 rfl (KP (i:=0) u296 KAi rfl rfl om) (aD 4 rfl (dL rfl (hv:=KI u188 rfl (by exact Ki _ _ _ om))) ?_);refine aP 7 rfl (KP (i:=0) u296 KAi rfl rfl om) (aD 8 rfl (dL rfl (hv:=KI u188 rfl (by exact Ki _ _ _ om))) ?_);refine aO 2 rfl (cF rfl en_221 rfl (fun w hw=>KCi _ _ dc dc w) ?_);refine aO 5 rfl (cF rfl en_221 rfl (fun w hw=>KCi _ _ dc dc w) ?_)
   refine aP 6 rfl (KG rfl rfl (KBr)) (aO 9 rfl (cF rfl en_221 rfl (fun w hw=>KCi _ _ dc dc w) ?_));refine aP 10 rfl (KG rfl rfl (KBr)) (aP 11 rfl (KJ (KO rfl) (show _ = .int .u32 ((p256.sg (p256.rnds W h x).a p256.a1 p256.a2 p256.a3:Nat):Int) from rfl)) (aE (KB (KA (oP (KP (i:=0) u296 KAi rfl rfl om) (oD (dL rfl (hv:=KI u188 rfl (by exact Ki _ _ _ om))) ?_))))));refine oP (KP (i:=1) u296 KAi rfl rfl om) (oD (dL rfl (hv:=KI u188 rfl (by exact Ki _ _ _ om))) ?_);refine oP (KG rfl rfl (br_and32m)) (oP (KP (i:=0) u296 KAi rfl rfl om) (oD (dL rfl (hv:=KI u188 rfl (by exact Ki _ _ _ om))) ?_));refine oP (KP (i:=2) u296 KAi rfl rfl om) (oD (dL rfl (hv:=KI u188 rfl (by exact Ki _ _ _ om))) ?_);refine oP (KG rfl rfl (br_and32m)) (oP (KG rfl rfl (KBr)) (oP (KP (i:=1) u296 KAi rfl rfl om) (oD (dL rfl (hv:=KI u188 rfl (by exact Ki _ _ _ om))) ?_)))
   refine oP (KP (i:=2) u296 KAi rfl rfl om) (oD (dL rfl (hv:=KI u188 rfl (by exact Ki _ _ _ om))) ?_);refine oP (KG rfl rfl (br_and32m)) (oP (KG rfl rfl (KBr)) (oP (KJ (KO rfl) (show _ = .int .u32 ((p256.maj (p256.rnds W h x).a (p256.rnds W h x).b (p256.rnds W h x).c:Nat):Int) from rfl)) (KC (KA (oM (oM ?_))))));refine oP (KG rfl rfl (KBu)) (oM ?_);refine oP (KG rfl rfl (KBu)) (oP (KP (i:=0) u296 KAi rfl rfl om) (oD (dL rfl (hv:=KI u188 rfl (by exact Ki _ _ _ om))) ?_));refine oP (KP (i:=1) u296 KAi rfl rfl om) (oD (dL rfl (hv:=KI u188 rfl (by exact Ki _ _ _ om))) ?_);refine oP (KP (i:=2) u296 KAi rfl rfl om) (oD (dL rfl (hv:=KI u188 rfl (by exact Ki _ _ _ om))) ?_);refine oP (KP (i:=3) u296 KAi rfl rfl om) (oD (dL rfl (hv:=KI u188 rfl (by exact Ki _ _ _ om))) ?_)
   refine oM ?_;refine oP (KG rfl rfl (KBu)) (oP (KP (i:=4) u296 KAi rfl rfl om) (oD (dL rfl (hv:=KI u188 rfl (by exact Ki _ _ _ om))) ?_));refine oP (KP (i:=5) u296 KAi rfl rfl om) (oD (dL rfl (hv:=KI u188 rfl (by exact Ki _ _ _ om))) ?_);refine oP (KP (i:=6) u296 KAi rfl rfl om) (oD (dL rfl (hv:=KI u188 rfl (by exact Ki _ _ _ om))) ?_);refine oP (KJ (KX pl_296 zr_296 rfl (fill8_32 _ _ _ _ _ _ _ _)) (show _ = Value.agg (vec .u32 8 (S8.at (p256.stp (p256.rnds W h x) (nthN p256.K x) (W x)))).toArray from rfl)) (oT rfl rfl KCv ?_);refine KC (KA (oP (KG rfl rfl (Kj (b:=1) om)) (oM (KC ?_))))
   exact ⟨x+1,by omega,by omega,KAD (Sub.cells (b:=b5) (cs':=vec .u32 8 (S8.at (p256.rnds W h (x+1)))) mT rfl) (Ka ⟨rfl,rfl,rfl,rfl,trivial⟩ mS)⟩
  have h20:¬ x<64:=h20
  obtain rfl:x = 64:=by omega
  refine Kb (KB ?_)
  obtain ⟨s,hs⟩:∃ s,s = p256.rnds W h 64:=⟨_,rfl⟩
  rw [← hs]
  refine KA (oP (Kf (v:=Iz 0) rfl) (KC (LCode.block (Kc (α:=Nat) (fun y=>y≤8) (fun y=>⟨[(0,Pz hb),(5,Pz b5),(113,Iz y)],[.blk hb ⟨true,shL .u32 p256 size (mixF y (p256.fin h s).at h.at) v n,302,(0,0)⟩,.blk b5 ⟨true,vec .u32 8 (S8.at s),296,(0,0)⟩]⟩) (fun y=>8-y) (0) (Nat.zero_le _) (KAD (Sub.cells (b:=hb) (cs':=shL .u32 p256 size (mixF 0 (p256.fin h s).at h.at) v n) mT (KDW fun i _=>mixF_0 _ _ i)) (Ka ⟨rfl,rfl,rfl,trivial⟩ mS)) ?_))))
  intro y hy
  refine KB (KA (oP (KG rfl rfl (KAA (b:=8))) (KC (KB ?_))))
  first|refine KQ rfl (fun h114=>?_) (fun h114=>?_)|refine KR rfl (fun h114=>?_) (fun h114=>?_)
  ·
   have h114:y<8:=h114
   refine KM (KB (LCode.block (KB (KA (oM (oA (KC (rD [13] ?_))))))));refine aM 0 ?_;refine aM 1 ?_;refine aP 2 rfl (KF rfl) (aP 3 rfl (KE (o':=1) u302 rfl rfl rfl KCv dc) (aP 4 rfl (KCg u296 KAi rfl rfl om) (aD 5 rfl (dL rfl (hv:=KI u188 rfl (by exact shL_h h114))) ?_)));refine aM 6 ?_;refine aP 7 rfl (KP u296 KAi rfl rfl om) (aD 8 rfl (dL rfl (hv:=KI u188 rfl (by exact Ki _ _ _ om))) ?_);refine aP 9 rfl (KG rfl rfl (KBu)) (aP 10 rfl (KF rfl) (aP 11 rfl (KE (o':=1) u302 rfl rfl rfl KCv dc) (aP 12 rfl (KCg u296 KAi rfl rfl om) ?_)));refine aL 13 rfl (KZ rfl rfl rfl KAi mT (by rw [KAp]; show _<75; omega) (shL_seth h114) (by simp) ?_);refine aE (KA (oP (KG rfl rfl (Kj (b:=1) om)) (oM (KC ?_))))
   exact ⟨y+1,by omega,by omega,KAD (Sub.cells (b:=hb) (cs':=shL .u32 p256 size (mixF (y+1) (p256.fin h s).at h.at) v n) mT (KDW fun i _=>p256.fin_next h s h114 i)) (Ka ⟨rfl,rfl,rfl,trivial⟩ mS)⟩
  have h114:¬ y<8:=h114
  obtain rfl:y = 8:=by omega
  refine Kb (⟨[],.nil,fun a w' hr=>⟨_,_,⟨rfl,rfl⟩,rfl,?_⟩⟩)
  have e8:shL .u32 p256 size (mixF 8 (p256.fin h s).at h.at) v n = shL .u32 p256 size ((p256.turn h f).at) v n:=KDW fun i hi=>(by rw [mixF_8 _ _ hi,hs,hW]; rfl)
  rw [← e8]
  exact hr.out mS rfl
theorem c_blocks256 (size n:Nat) (h:S8) (v:Value) (hb:Nat) (r:BsRow) (l:List Nat) (w:World) (hH:∀ x,x∈([.blk hb ⟨true,shL .u32 p256 size (h.at) v n,302,(0,0)⟩]++[roI 5 r l]:List Item)→x.holds w) (hd:([.blk hb ⟨true,shL .u32 p256 size (h.at) v n,302,(0,0)⟩]++[roI 5 r l]:List Item).Pairwise Apart)  : Calls Tryz.prog 198 ([.func (.func 199) #[Pz hb] #[],bsV r l.length]:List Value).toArray w (fun e w'=>∃ (u:Value) (x':Item),((∃ r',u = bsV r' (l.drop (64*(l.length/64))).length∧bsFp r' = bsFp r∧∀ w,(roI 5 r l).holds w→(roI 5 r' (l.drop (64*(l.length/64)))).holds w)∧x' = .blk hb ⟨true,shL .u32 p256 size ((p256.blks l (l.length/64) h).at) v n,302,(0,0)⟩)∧e = .returned u∧Outcome w [.blk hb ⟨true,shL .u32 p256 size (h.at) v n,302,(0,0)⟩] [x'] w'):=by
  refine KAO [.blk hb ⟨true,shL .u32 p256 size (h.at) v n,302,(0,0)⟩,roI 5 r l] (N:=15) (rs:=[.tmp 4]) Tryz.func198 rfl Tryz.ntmps198 Tryz.results198 (Nb rfl) hH hd rfl rfl ?_
  refine KB (KA (oA (KC (KB (LCode.block ?_)))));refine Kc (α:=Nat×BsRow) (fun x=>x.1≤l.length/64∧bsFp x.2 = bsFp r∧∀ w,(roI 5 r l).holds w→(roI 5 x.2 (l.drop (64*x.1))).holds w) (fun x=>⟨[(0,.func (.func 199) #[Pz hb] #[]),(1,bsV x.2 (l.drop (64*x.1)).length)],[.blk hb ⟨true,shL .u32 p256 size ((p256.blks l x.1 h).at) v n,302,(0,0)⟩,roI 5 x.2 (l.drop (64*x.1))]⟩) (fun x=>l.length/64-x.1) ((0,r)) (⟨Nat.zero_le _,rfl,fun w h=>h⟩) (Ka ⟨rfl,rfl,trivial⟩ mS) ?_
  rintro ⟨q,r2⟩ ⟨hq,hfp,hpw⟩
  dsimp only at hq hfp hpw ⊢
  have hlen:(l.drop (64*q)).length = l.length-64*q:=List.length_drop
  refine KB (KB (KA (oM ?_)));refine oP (KBc u70 rfl) (oP (KG rfl rfl (KBf (b:=64))) (KC ?_))
  first|refine KQ rfl (fun h7=>?_) (fun h7=>?_)|refine KR rfl (fun h7=>?_) (fun h7=>?_)
  ·
   have h7:64≤l.length-64*q:=hlen ▸ h7
   have hk:64≤(l.drop (64*q)).length:=by omega
   refine LCode.know (x:=roI 5 r2 (l.drop (64*q))) mM (φ:=r2≠none) (fun w hw e=>?_) (fun hne=>?_)
   · subst e
     have:(l.drop (64*q)) = []:=roI_P hw
     rw [this] at hk
     exact absurd hk dc
   obtain ⟨⟨b2,pre,more,ex⟩,rfl⟩:∃ z,r2 = some z:=by cases r2 with|none=>exact absurd rfl hne|some z=>exact ⟨z,rfl⟩
   refine KM (KB (LCode.block (KA (oM (oM ?_)))));refine oP (Det.slH u70 sz_5 rfl rfl om (by simp only [bsM]; omega)) ?_;refine LOps.step rfl (Kg (first:=[Pz hb]) (caps:=[]) rfl en_199 rfl (Nb rfl) sR wK (fun w hH hd=>c_turn256 (fun j=>nthN (l.drop (64*q)) j) size n (p256.blks l q h) v hb b2 pre.length 64 _ _ (0,0) rfl (fun j hj=>bs_cell (Nat.lt_of_lt_of_le hj hk)) w hH hd) ?_)
   rintro _ _ ⟨rfl,rfl⟩
   refine KC (KA (oM ?_));refine oP (Det.slDrop (l:=(l.drop (64*q))) (k:=64) u70 sz_5 rfl rfl hk (by simp)) ?_;refine oA (KC ?_);refine ⟨(q+1,KDP (some (b2,pre,more,ex)) (l.drop (64*q)) 64),⟨by dsimp only; omega,by dsimp only; rw [bsDrop_fp]; exact hfp,fun w hw=>?_⟩,by dsimp only; omega,KAD (Sub.drop (k:=64) hk mP) ?_⟩
   · have:=bsDrop_ro hk w (hpw w hw)
     dsimp only
     rw [List.drop_drop] at this
     exact this
   · dsimp only
     rw [List.drop_drop]
     exact Ka ⟨rfl,rfl,trivial⟩ mS
  have h7:¬ 64≤l.length-64*q:=hlen ▸ h7
  obtain rfl:q = l.length/64:=by omega
  refine Kb (KB (KA (oM (oA (KC (KN ?_))))));refine ⟨[_],.cons rfl .nil,fun a w' hr=>⟨_,_,⟨⟨_,rfl,hfp,hpw⟩,rfl⟩,rfl,hr.out mS rfl⟩⟩
theorem c_shaNew224  (w:World) (hH:∀ x,x∈([]++[]:List Item)→x.holds w) (hd:([]++[]:List Item).Pairwise Apart)  : Calls Tryz.prog 170 ([Iz 224]:List Value).toArray w (fun e w'=>∃ (u:Value) (x':Item),(∃ b,u = .tuple #[Pz b,Iz 0]∧x' = .blk b ⟨true,shL .u32 p256 224 (S8.at iv224) (.slice none 0 0) (0),302,(0,0)⟩)∧e = .returned u∧Outcome w [] [x'] w'):=by
  refine KAO [] (N:=18) (rs:=[.tmp 2,.tmp 3]) Tryz.func170 rfl Tryz.ntmps170 Tryz.results170 (Nb rfl) hH hd rfl rfl ?_
  refine KB (KA (oA ?_));refine oP (KO (v:=Iz 0) rfl) (KC (KB (KA (oM ?_))));refine oS (cF rfl en_194 rfl (fun w hw=>c_beg224 w) ?_);refine oM ?_;refine oX ?_;refine oX ?_;refine oS (mk (KK zr_296) (fun b4=>?_));refine oT rfl rfl KCv ?_;refine oA (KC (KB (KB (KA (oM ?_)))));refine oP (KJ (KAH rfl) (show _ = Value.bool false from rfl)) (KC (KH rfl (KM (KB (rD [] (aM 0 ?_))))));refine aD 1 rfl (dL rfl (hv:=by exact KD u296 rfl KCv)) ?_;refine aO 2 rfl (cF rfl en_195 rfl (fun w hw=>c_cons256 w) ?_);refine aP 3 rfl (KX pl_302 zr_302 rfl (fT (r':=([Iz 224]++(vec .u32 8 (S8.at iv224)++(vec .u32 64 (nthN p256.K)++([Value.slice none 0 0]++([Value.int .u64 ((0:Nat):Int)])))))) (fS (A:=([]:List Value)) (B:=([Iz 0])) (D:=(vec .u32 8 (fun _=>0)++(vec .u32 64 (fun _=>0)++([Value.slice none 0 0]++([Value.int .u64 ((0:Nat):Int)]))))) (cs:=[Iz 224]) (fS (A:=([Iz 224])) (B:=(vec .u32 8 (fun _=>0))) (D:=(vec .u32 64 (fun _=>0)++([Value.slice none 0 0]++([Value.int .u64 ((0:Nat):Int)])))) (cs:=vec .u32 8 (S8.at iv224)) (fS (A:=([Iz 224]++(vec .u32 8 (S8.at iv224)))) (B:=(vec .u32 64 (fun _=>0))) (D:=([Value.slice none 0 0]++([Value.int .u64 ((0:Nat):Int)]))) (cs:=vec .u32 64 (nthN p256.K)) rfl))))) ?_
  refine aO 4 rfl (mB (fun b17=>?_));refine aA 5 ?_;refine aP 6 rfl (KO (v:=Iz 0) rfl) (aE (KN (⟨[_,_],.cons rfl (.cons rfl .nil),fun a w' hr=>⟨_,_,⟨b17,rfl,rfl⟩,rfl,hr.out mS rfl⟩⟩)))
theorem c_shaNew256  (w:World) (hH:∀ x,x∈([]++[]:List Item)→x.holds w) (hd:([]++[]:List Item).Pairwise Apart)  : Calls Tryz.prog 170 ([Iz 256]:List Value).toArray w (fun e w'=>∃ (u:Value) (x':Item),(∃ b,u = .tuple #[Pz b,Iz 0]∧x' = .blk b ⟨true,shL .u32 p256 256 (S8.at iv256) (.slice none 0 0) (0),302,(0,0)⟩)∧e = .returned u∧Outcome w [] [x'] w'):=by
  refine KAO [] (N:=18) (rs:=[.tmp 2,.tmp 3]) Tryz.func170 rfl Tryz.ntmps170 Tryz.results170 (Nb rfl) hH hd rfl rfl ?_
  refine KB (KA (oA ?_));refine oP (KO (v:=Iz 0) rfl) (KC (KB (KA (oM ?_))));refine oS (cF rfl en_194 rfl (fun w hw=>c_beg256 w) ?_);refine oM ?_;refine oX ?_;refine oX ?_;refine oS (mk (KK zr_296) (fun b4=>?_));refine oT rfl rfl KCv ?_;refine oA (KC (KB (KB (KA (oM ?_)))));refine oP (KJ (KAH rfl) (show _ = Value.bool false from rfl)) (KC (KH rfl (KM (KB (rD [] (aM 0 ?_))))));refine aD 1 rfl (dL rfl (hv:=by exact KD u296 rfl KCv)) ?_;refine aO 2 rfl (cF rfl en_195 rfl (fun w hw=>c_cons256 w) ?_);refine aP 3 rfl (KX pl_302 zr_302 rfl (fT (r':=([Iz 256]++(vec .u32 8 (S8.at iv256)++(vec .u32 64 (nthN p256.K)++([Value.slice none 0 0]++([Value.int .u64 ((0:Nat):Int)])))))) (fS (A:=([]:List Value)) (B:=([Iz 0])) (D:=(vec .u32 8 (fun _=>0)++(vec .u32 64 (fun _=>0)++([Value.slice none 0 0]++([Value.int .u64 ((0:Nat):Int)]))))) (cs:=[Iz 256]) (fS (A:=([Iz 256])) (B:=(vec .u32 8 (fun _=>0))) (D:=(vec .u32 64 (fun _=>0)++([Value.slice none 0 0]++([Value.int .u64 ((0:Nat):Int)])))) (cs:=vec .u32 8 (S8.at iv256)) (fS (A:=([Iz 256]++(vec .u32 8 (S8.at iv256)))) (B:=(vec .u32 64 (fun _=>0))) (D:=([Value.slice none 0 0]++([Value.int .u64 ((0:Nat):Int)]))) (cs:=vec .u32 64 (nthN p256.K)) rfl))))) ?_
  refine aO 4 rfl (mB (fun b17=>?_));refine aA 5 ?_;refine aP 6 rfl (KO (v:=Iz 0) rfl) (aE (KN (⟨[_,_],.cons rfl (.cons rfl .nil),fun a w' hr=>⟨_,_,⟨b17,rfl,rfl⟩,rfl,hr.out mS rfl⟩⟩)))
theorem c_shaWrite256 (size n:Nat) (h:S8) (rest:List Nat) (r:BsRow) (hb:Nat) (s:ByteArray) (hrl:rest.length≤64) (hs:s.size≤140737488351232) (w:World) (hH:∀ x,x∈([.blk hb ⟨true,shL .u32 p256 size (h.at) (bsV r rest.length) (n),302,(0,0)⟩,bsI 5 r rest]++[]:List Item)→x.holds w) (hd:([.blk hb ⟨true,shL .u32 p256 size (h.at) (bsV r rest.length) (n),302,(0,0)⟩,bsI 5 r rest]++[]:List Item).Pairwise Apart)  : Calls Tryz.prog 172 ([Pz hb,.string s]:List Value).toArray w (fun e w'=>∃ (u:Value) (x':Item) (y':Item),(∃ r',u = Iz 0∧x' = .blk hb ⟨true,shL .u32 p256 size ((p256.write (⟨h,rest,n⟩:ShS) (ofS s)).h.at) (bsV r' (p256.write (⟨h,rest,n⟩:ShS) (ofS s)).rest.length) ((p256.write (⟨h,rest,n⟩:ShS) (ofS s)).n),302,(0,0)⟩∧y' = bsI 5 r' (p256.write (⟨h,rest,n⟩:ShS) (ofS s)).rest)∧e = .returned u∧Outcome w [.blk hb ⟨true,shL .u32 p256 size (h.at) (bsV r rest.length) (n),302,(0,0)⟩,bsI 5 r rest] [x',y'] w'):=by
  have hl:(ofS s).length≤140737488351232:=by rw [KBG]; exact hs
  refine KAO [.blk hb ⟨true,shL .u32 p256 size (h.at) (bsV r rest.length) (n),302,(0,0)⟩,bsI 5 r rest] (N:=33) (rs:=[.tmp 4]) Tryz.func172 rfl Tryz.ntmps172 Tryz.results172 (Nb rfl) hH hd rfl rfl ?_
  refine KB (KA (oP (KO (v:=Iz 0) rfl) (KC (KB (KB (KA (oM ?_)))))));refine oP (KAI u255 rfl rfl) (KC (KH rfl (KM (KB (KA (oM ?_))))));refine oP (KF rfl) (oP (KE (o':=74) u302 rfl rfl rfl sz_30 dc) (oD (dL rfl (hv:=KI u30 rfl (by exact shL_n))) ?_));refine oM ?_;refine oP (KJ (KAQ u9 rfl) (show _ = Iz ((ofS s).length) by rw [KBG])) ?_;refine oP (KCA u3 u30 rfl (by first|omega|exact Nat.lt_trans (D.limb_lt _ _) dc)) ?_;refine oP (KG rfl rfl (KAc)) (oP (KF rfl) (oP (KE (o':=74) u302 rfl rfl rfl sz_30 dc) ?_));refine LOps.step rfl (KZ rfl rfl rfl sz_30 mT (by rw [KAp]; decide) (shL_setn) (by simp) ?_);refine KC (KB (KA (oM ?_)));refine oP (KF rfl) (oP (KE (o':=73) u302 rfl rfl rfl sz_70 dc) (oD (dL rfl (hv:=KI u70 rfl (by exact shL_r))) ?_));refine LOps.step rfl (KBa (news:=rest) rfl rfl u70 inf_5 (fun w hw=>src_bs u70 (hw (bsI 5 r rest) mM)) om (Nb rfl) ?_)
  intro r1
  refine oM ?_;refine LOps.step rfl (KAS (news:=ofS s) rfl rfl u70 inf_5 mP (fun w hw=>src_str u9) om (Nb rfl) ?_)
  intro r2
  refine oA (KC (KB (KA (oM (oM ?_)))));refine oP (Kw rfl) (oM ?_);refine LOps.step rfl (Kg (first:=[]) (caps:=[]) rfl en_198 rfl (Nb rfl) sR wK (fun w hH hd=>c_blocks256 size _ h _ hb r2 (rest++ofS s) w hH hd) ?_)
  rintro _ _ ⟨⟨r3,rfl,hfp,hpw⟩,rfl⟩
  refine LOps.step rfl (KBa (news:=((rest++ofS s).drop (64*((rest++ofS s).length/64)))) rfl rfl u70 inf_5 (fun w hw=>src_bs u70 (show (bsI 5 r3 ((rest++ofS s).drop (64*((rest++ofS s).length/64)))).holds w from hpw w (hw (bsI 5 r2 (rest++ofS s)) mM))) (by rw [List.length_drop,List.length_append]; omega) (Nb rfl) ?_)
  intro r4
  refine oP (KF rfl) (oP (KE (o':=73) u302 rfl rfl rfl sz_70 dc) ?_);refine LOps.step rfl (KZ rfl rfl rfl sz_70 mT (by rw [KAp]; decide) (shL_setr) (by simp) ?_);refine KC (KB (KA (oP (KO (v:=Iz 0) rfl) (KC (KN (⟨[_],.cons rfl .nil,fun a w' hr=>⟨_,_,_,⟨r4,rfl,rfl,rfl⟩,rfl,hr.out mS rfl⟩⟩))))))
theorem c_shaSum256 (size n:Nat) (h:S8) (rest:List Nat) (r:BsRow) (hb:Nat) (hrl:rest.length<64) (hsz:size/8≤32) (hsz2:size<1000) (w:World) (h1:(Item.blk hb ⟨false,shL .u32 p256 size (h.at) (bsV r rest.length) (n),302,(0,0)⟩).holds w) (h2:(roI 5 r rest).holds w):CF Tryz.prog 173 [Pz hb] w (.string (toS (p256.sum (⟨h,rest,n⟩:ShS) (size/8)))):=by
  refine KV (N:=82) (rs:=[.tmp 2]) [.blk hb ⟨false,shL .u32 p256 size (h.at) (bsV r rest.length) (n),302,(0,0)⟩,roI 5 r rest] Tryz.func173 rfl Tryz.ntmps173 Tryz.results173 (Nb rfl) ⟨h1,h2,trivial⟩ rfl ?_
  refine KB (KA (oA (KC (KB (KB (KA (oM ?_)))))));refine oP (KAI u255 rfl rfl) (KC (KH rfl (KM (KB (KA (oM ?_))))));refine oP (KF rfl) ?_;refine oD (dL rfl (hv:=by exact KD u302 rfl (by rw [KAp]; exact sz_302))) ?_;refine oS (mk (KK zr_302) (fun b3=>?_));refine LOps.step rfl (sA rfl rfl (by rw [KAp]; exact sz_302) (shL_one rfl) (hl:=by rw [KAp]; rfl) (h:=?_));refine KC (KB (KA (oM ?_)));refine oP (KF rfl) (oP (KE (o':=73) u302 rfl rfl rfl sz_70 dc) (oD (dL rfl (hv:=KI u70 rfl (by exact shL_r))) ?_));refine LOps.step rfl (KBa (news:=rest) rfl rfl u70 inf_5 (fun w hw=>src_bs u70 (show (bsI 5 r rest).holds w from hw (roI 5 r rest) mM)) om (Nb rfl) ?_)
  intro r19
  refine oS (mk (KAP u70 inf_5 rfl rfl rfl rfl dc rfl) (fun b20=>?_));refine LOps.step rfl (KAS (news:=[128]) rfl rfl u70 inf_5 mP (fun w hw=>KDQ (l:=[128]) u70 (hw (.blk b20 ⟨true,numL [128],5,(0,0)⟩) mM)) (by first|omega|(simp only [List.length_append,List.length_replicate,List.length_cons,List.length_nil,KBU,Hp.outP_length,Hp.wbP_length]; omega)|(have hw:i*p256.wb≤32:=Nat.mul_le_mul_right 4 (Nat.le_of_lt h58); simp only [List.length_append,Hp.outP_length,Hp.wbP_length,List.length_cons,List.length_nil]; omega)) (Nb rfl) ?_)
  intro r21
  rw [show (rest++[128]) = ((rest++[128])++List.replicate (0) 0) from (List.append_nil _).symm]
  refine oA (KC (KB (LCode.block ?_)));refine Kc (α:=Nat×BsRow) (fun x=>x.1≤p256.zs rest.length) (fun x=>⟨[(0,Pz hb),(3,Pz b3),(4,bsV x.2 ((rest++[128])++List.replicate (x.1) 0).length)],[.blk hb ⟨false,shL .u32 p256 size (h.at) (bsV r rest.length) (n),302,(0,0)⟩,roI 5 r rest,.blk b3 ⟨true,shL .u32 p256 size (h.at) (bsV r rest.length) (n),302,(0,0)⟩,bsI 5 x.2 ((rest++[128])++List.replicate (x.1) 0)]⟩) (fun x=>p256.zs rest.length-x.1) ((0,r21)) (Nat.zero_le _) (Ka ⟨rfl,rfl,rfl,trivial⟩ mS) ?_
  rintro ⟨j,rj⟩ hj
  dsimp only at hj ⊢
  have hz:p256.zs rest.length = (64+56-(rest.length+1)%64)%64:=rfl
  have hlen:((rest++[128])++List.replicate (j) 0).length = rest.length+1+j:=by simp only [List.length_append,List.length_replicate,List.length_cons,List.length_nil]
  refine KB (KB (KA (oM ?_)));refine oP (KBc u70 rfl) (oP (KG rfl rfl (br_rem (b:=64) om)) (oP (KG rfl rfl (KAn (b:=56))) (KC ?_)))
  first|refine KQ rfl (fun h25=>?_) (fun h25=>?_)|refine KR rfl (fun h25=>?_) (fun h25=>?_)
  ·
   have h25:j<p256.zs rest.length:=by
     rw [hlen] at h25
     omega
   refine KM (LCode.block (KA (oM ?_)));refine oS (mk (KAP u70 inf_5 rfl rfl rfl rfl dc rfl) (fun b27=>?_));refine LOps.step rfl (KAS (news:=[0]) rfl rfl u70 inf_5 mP (fun w hw=>KDQ (l:=[0]) u70 (hw (.blk b27 ⟨true,numL [0],5,(0,0)⟩) mM)) (by first|omega|(simp only [List.length_append,List.length_replicate,List.length_cons,List.length_nil,KBU,Hp.outP_length,Hp.wbP_length]; omega)|(have hw:i*p256.wb≤32:=Nat.mul_le_mul_right 4 (Nat.le_of_lt h58); simp only [List.length_append,Hp.outP_length,Hp.wbP_length,List.length_cons,List.length_nil]; omega)) (Nb rfl) ?_)
   intro rk
   rw [rep_succ]
   refine oA (KC ?_)
   exact ⟨(j+1,rk),by dsimp only; omega,by dsimp only; omega,Ka ⟨rfl,rfl,rfl,trivial⟩ mS⟩
  obtain rfl:j = p256.zs rest.length:=by
    rw [hlen] at h25
    omega
  refine Kb (KB (KB ?_))
  rw [show ((rest++[128])++List.replicate (p256.zs rest.length) 0) = (((rest++[128])++List.replicate (p256.zs rest.length) 0)++List.replicate (0) 0) from (List.append_nil _).symm]
  refine KA (oP (Kf (v:=Iz 0) rfl) (KC (LCode.block (Kc (α:=Nat×BsRow) (fun x=>x.1≤0) (fun x=>⟨[(0,Pz hb),(3,Pz b3),(4,bsV x.2 (((rest++[128])++List.replicate (p256.zs rest.length) 0)++List.replicate (x.1) 0).length),(29,Iz x.1)],[.blk hb ⟨false,shL .u32 p256 size (h.at) (bsV r rest.length) (n),302,(0,0)⟩,roI 5 r rest,.blk b3 ⟨true,shL .u32 p256 size (h.at) (bsV r rest.length) (n),302,(0,0)⟩,bsI 5 x.2 (((rest++[128])++List.replicate (p256.zs rest.length) 0)++List.replicate (x.1) 0)]⟩) (fun x=>0-x.1) ((0,rj)) (Nat.zero_le _) (Ka ⟨rfl,rfl,rfl,rfl,trivial⟩ mS) ?_))))
  rintro ⟨j,rj⟩ hj
  dsimp only at hj ⊢
  refine KB (KA (oP (KG rfl rfl (KAA (b:=0))) (KC (KB ?_))))
  first|refine KQ rfl (fun h30=>?_) (fun h30=>?_)|refine KR rfl (fun h30=>?_) (fun h30=>?_)
  ·
   have h30:j<0:=h30
   refine KM (KB (LCode.block (KA (oM ?_))));refine oS (mk (KAP u70 inf_5 rfl rfl rfl rfl dc rfl) (fun b32=>?_));refine LOps.step rfl (KAS (news:=[0]) rfl rfl u70 inf_5 mP (fun w hw=>KDQ (l:=[0]) u70 (hw (.blk b32 ⟨true,numL [0],5,(0,0)⟩) mM)) (by first|omega|(simp only [List.length_append,List.length_replicate,List.length_cons,List.length_nil,KBU,Hp.outP_length,Hp.wbP_length]; omega)|(have hw:i*p256.wb≤32:=Nat.mul_le_mul_right 4 (Nat.le_of_lt h58); simp only [List.length_append,Hp.outP_length,Hp.wbP_length,List.length_cons,List.length_nil]; omega)) (Nb rfl) ?_)
   intro rk
   rw [rep_succ]
   refine oA (KC (KA ?_));refine oP (KG rfl rfl (Kj (b:=1) om)) (oM (KC ?_))
   exact ⟨(j+1,rk),by dsimp only; omega,by dsimp only; omega,Ka ⟨rfl,rfl,rfl,rfl,trivial⟩ mS⟩
  have h30:¬ j<0:=h30
  obtain rfl:j = 0:=by omega
  refine Kb (KB (KB ?_))
  rw [show (((rest++[128])++List.replicate (p256.zs rest.length) 0)++List.replicate (0) 0) = ((((rest++[128])++List.replicate (p256.zs rest.length) 0)++List.replicate (0) 0)++lenP n (0)) from (List.append_nil _).symm]
  refine KA (oP (Kf (v:=Iz 0) rfl) (KC (LCode.block (Kc (α:=Nat×BsRow) (fun x=>x.1≤8) (fun x=>⟨[(0,Pz hb),(3,Pz b3),(4,bsV x.2 ((((rest++[128])++List.replicate (p256.zs rest.length) 0)++List.replicate (0) 0)++lenP n (x.1)).length),(35,Iz x.1)],[.blk hb ⟨false,shL .u32 p256 size (h.at) (bsV r rest.length) (n),302,(0,0)⟩,roI 5 r rest,.blk b3 ⟨true,shL .u32 p256 size (h.at) (bsV r rest.length) (n),302,(0,0)⟩,bsI 5 x.2 ((((rest++[128])++List.replicate (p256.zs rest.length) 0)++List.replicate (0) 0)++lenP n (x.1))]⟩) (fun x=>8-x.1) ((0,rj)) (Nat.zero_le _) (Ka ⟨rfl,rfl,rfl,rfl,trivial⟩ mS) ?_))))
  rintro ⟨j,rj⟩ hj
  dsimp only at hj ⊢
  refine KB (KA (oP (KG rfl rfl (KAA (b:=8))) (KC (KB ?_))))
  first|refine KQ rfl (fun h36=>?_) (fun h36=>?_)|refine KR rfl (fun h36=>?_) (fun h36=>?_)
  ·
   have h36:j<8:=h36
   refine KM (KB (LCode.block (KB (KA (oM (oA (KC (KA (oM (oM ?_))))))))));refine oP (KF rfl) (oP (KE (o':=74) u302 rfl rfl rfl sz_30 dc) (oD (dL rfl (hv:=KI u30 rfl (by exact shL_n))) ?_));refine oP (KG rfl rfl (br_shl64m (b:=3) dc)) (oM ?_);refine oP (KG rfl rfl (KCB (a:=8) om)) (oP (KG rfl rfl (KAe (a:=56) om om)) (oP (KG rfl rfl (KDf om)) (oP (KAV u30 u5 rfl) (oS (mk (KAP u70 inf_5 rfl rfl rfl rfl dc rfl) (fun b49=>?_))))));refine LOps.step rfl (KAS (news:=[n*2^3%18446744073709551616/2^(56-8*j)%256]) rfl rfl u70 inf_5 mP (fun w hw=>KDQ (l:=[n*2^3%18446744073709551616/2^(56-8*j)%256]) u70 (hw (.blk b49 ⟨true,numL [n*2^3%18446744073709551616/2^(56-8*j)%256],5,(0,0)⟩) mM)) (by first|omega|(simp only [List.length_append,List.length_replicate,List.length_cons,List.length_nil,KBU,Hp.outP_length,Hp.wbP_length]; omega)|(have hw:i*p256.wb≤32:=Nat.mul_le_mul_right 4 (Nat.le_of_lt h58); simp only [List.length_append,Hp.outP_length,Hp.wbP_length,List.length_cons,List.length_nil]; omega)) (Nb rfl) ?_)
   intro rk
   rw [List.append_assoc,← lenP_succ]
   refine oA (KC (KA ?_));refine oP (KG rfl rfl (Kj (b:=1) om)) (oM (KC ?_))
   exact ⟨(j+1,rk),by dsimp only; omega,by dsimp only; omega,Ka ⟨rfl,rfl,rfl,rfl,trivial⟩ mS⟩
  have h36:¬ j<8:=h36
  obtain rfl:j = 8:=by omega
  refine Kb (KB (KA (oP (Kw rfl) (oM ?_))));refine LOps.step rfl (Kg (first:=[]) (caps:=[]) rfl en_198 rfl (Nb rfl) sR wK (fun w hH hd=>c_blocks256 size _ h _ b3 rj ((((rest++[128])++List.replicate (p256.zs rest.length) 0)++List.replicate (0) 0)++lenP n (8)) w hH hd) ?_)
  rintro _ _ ⟨⟨r5,rfl,hfp,hpw⟩,rfl⟩
  obtain ⟨g,hg⟩:∃ g,g = (p256.blks ((((rest++[128])++List.replicate (p256.zs rest.length) 0)++List.replicate (0) 0)++lenP n (8)) (((((rest++[128])++List.replicate (p256.zs rest.length) 0)++List.replicate (0) 0)++lenP n (8)).length/64) h):=⟨_,rfl⟩
  rw [← hg]
  refine KC (KB (KA (oA (KC (KB (KB (KA ?_)))))));refine oP (KE (o':=1) u302 rfl rfl rfl KCv dc) ?_;refine oD (dL rfl (hv:=by exact KBH u296 rfl KCv shL_hs (by rw [KAp]; decide))) ?_;refine oP (Kf (v:=Iz 0) rfl) (KC (LCode.block (Kc (α:=Nat×BsRow) (fun x=>x.1≤8) (fun x=>⟨[(0,Pz hb),(6,bsV x.2 (p256.outP g (x.1)).length),(56,.agg (vec .u32 8 (g.at)).toArray),(57,Iz x.1)],[.blk hb ⟨false,shL .u32 p256 size (h.at) (bsV r rest.length) (n),302,(0,0)⟩,roI 5 r rest,bsI 5 x.2 (p256.outP g (x.1))]⟩) (fun x=>8-x.1) ((0,none)) (Nat.zero_le _) (KAD (Sub.add (x:=bsI 5 none []) (bsI_nil 5) rfl) (Ka ⟨rfl,rfl,rfl,rfl,trivial⟩ mS)) ?_)))
  rintro ⟨i,ri⟩ hi
  dsimp only at hi ⊢
  refine KB (KA (oP (KG rfl rfl (KAA (b:=8))) (KC (KB ?_))))
  first|refine KQ rfl (fun h58=>?_) (fun h58=>?_)|refine KR rfl (fun h58=>?_) (fun h58=>?_)
  ·
   have h58:i<8:=h58
   refine KM (KB (LCode.block (KB (KA (oP (Det.indexAgg u296 u188 rfl KAi rfl rfl h58 (Ki _ _ _ h58)) (oA (KC (KB ?_))))))))
   rw [show (p256.outP g (i)) = (p256.outP g (i))++(p256.wbP (g.at i) 0) from (List.append_nil _).symm]
   refine KA (oP (Kf (v:=Iz 0) rfl) (KC (LCode.block (Kc (α:=Nat×BsRow) (fun x=>x.1≤4) (fun x=>⟨[(0,Pz hb),(6,bsV x.2 ((p256.outP g (i))++(p256.wbP (g.at i) x.1)).length),(56,.agg (vec .u32 8 (g.at)).toArray),(57,Iz i),(8,.int .u32 ((g.at i:Nat):Int)),(60,Iz x.1)],[.blk hb ⟨false,shL .u32 p256 size (h.at) (bsV r rest.length) (n),302,(0,0)⟩,roI 5 r rest,bsI 5 x.2 ((p256.outP g (i))++(p256.wbP (g.at i) x.1))]⟩) (fun x=>4-x.1) ((0,ri)) (Nat.zero_le _) (Ka ⟨rfl,rfl,rfl,rfl,rfl,rfl,trivial⟩ mS) ?_))))
   rintro ⟨j,rj⟩ hj
   dsimp only at hj ⊢
   refine KB (KA (oP (KG rfl rfl (KAA (b:=4))) (KC (KB ?_))))
   first|refine KQ rfl (fun h61=>?_) (fun h61=>?_)|refine KR rfl (fun h61=>?_) (fun h61=>?_)
   ·
    have h61:j<4:=h61
    refine KM (KB (LCode.block (KB (KA (oM (oA (KC (KA (oM (oM (oM ?_)))))))))));refine oP (KG rfl rfl (KCB (a:=8) om)) (oP (KG rfl rfl (KAe (a:=24) om om)) (oP (KG rfl rfl (br_shr32m om)) (oP (KAV u188 u5 rfl) (oS (mk (KAP u70 inf_5 rfl rfl rfl rfl dc rfl) (fun b70=>?_))))));refine LOps.step rfl (KAS (news:=[g.at i/2^(p256.bits-8-8*j)%256]) rfl rfl u70 inf_5 mP (fun w hw=>KDQ (l:=[g.at i/2^(p256.bits-8-8*j)%256]) u70 (hw (.blk b70 ⟨true,numL [g.at i/2^(p256.bits-8-8*j)%256],5,(0,0)⟩) mM)) (by first|omega|(simp only [List.length_append,List.length_replicate,List.length_cons,List.length_nil,KBU,Hp.outP_length,Hp.wbP_length]; omega)|(have hw:i*p256.wb≤32:=Nat.mul_le_mul_right 4 (Nat.le_of_lt h58); simp only [List.length_append,Hp.outP_length,Hp.wbP_length,List.length_cons,List.length_nil]; omega)) (Nb rfl) ?_)
    intro rk
    rw [List.append_assoc,← p256.wbP_succ]
    refine oA (KC (KA ?_));refine oP (KG rfl rfl (Kj (b:=1) om)) (oM (KC ?_))
    exact ⟨(j+1,rk),by dsimp only; omega,by dsimp only; omega,Ka ⟨rfl,rfl,rfl,rfl,rfl,rfl,trivial⟩ mS⟩
   have h61:¬ j<4:=h61
   obtain rfl:j = 4:=by omega
   refine Kb (KA (oP (KG rfl rfl (Kj (b:=1) om)) (oM (KC ?_))))
   exact ⟨(i+1,rj),by dsimp only; omega,by dsimp only; omega,by
     dsimp only
     rw [p256.outP_succ]
     exact Ka ⟨rfl,rfl,rfl,rfl,trivial⟩ mS⟩
  have h58:¬ i<8:=h58
  obtain rfl:i = 8:=by omega
  refine Kb (KB (KA (oM (oM ?_))));refine oP (KF rfl) (oP (KE (o':=0) u302 rfl rfl rfl sz_3 dc) (oD (dL rfl (hv:=KI u3 rfl gL)) ?_));refine oP (KG rfl rfl (KDI (b:=8) om om)) ?_;refine oP (Det.slH u70 sz_5 rfl rfl om (by rw [p256.outP_length]; exact Int.ofNat_le.2 (Nat.le_trans hsz (Nat.le_add_right _ _)))) ?_;refine oD (Det.bsStr (l:=(p256.outP g (8))) (k:=size/8) u70 u5 u9 rfl mM (by rw [p256.outP_length]; exact hsz)) ?_;refine oA (KC (KN ?_));refine eN (.cons rfl .nil) ?_
  rw [hg]
  rfl
theorem c_turn512 (f:Nat→Nat) (size n:Nat) (h:S8) (v:Value) (hb bb o sn sc:Nat) (cells:List Value) (fz:Nat×Nat) (hsn:sn = 128) (hc:∀ j,j<128→cells[j+o]? = some (.int .u8 (f j:Int))) (w:World) (hH:∀ x,x∈([.blk hb ⟨true,shL .u64 p512 size (h.at) v n,311,(0,0)⟩]++[.blk bb ⟨false,cells,5,fz⟩]:List Item)→x.holds w) (hd:([.blk hb ⟨true,shL .u64 p512 size (h.at) v n,311,(0,0)⟩]++[.blk bb ⟨false,cells,5,fz⟩]:List Item).Pairwise Apart)  : Calls Tryz.prog 205 ([Pz hb,.slice (some ⟨bb,o,none⟩) sn sc]:List Value).toArray w (fun e w'=>∃ (u:Value) (x':Item),(u = .tuple #[]∧x' = .blk hb ⟨true,shL .u64 p512 size ((p512.turn h f).at) v n,311,(0,0)⟩)∧e = .returned u∧Outcome w [.blk hb ⟨true,shL .u64 p512 size (h.at) v n,311,(0,0)⟩] [x'] w'):=by
  refine KAO [.blk hb ⟨true,shL .u64 p512 size (h.at) v n,311,(0,0)⟩,.blk bb ⟨false,cells,5,fz⟩] (N:=130) (rs:=[]) Tryz.func205 rfl Tryz.ntmps205 Tryz.results205 (Nb rfl) hH hd rfl rfl ?_
  refine KB (KA (oM ?_));refine oS (cF rfl en_222 rfl (fun w hw=>c_sched512 f bb o sn sc cells fz hsn hc w (show (Item.blk bb ⟨false,_,_,_⟩).holds w from hw _ mM)) ?_);refine oS (mk (KK zr_308) (fun b4=>?_));refine oT rfl rfl sz_308 ?_;refine KC (KB ?_)
  obtain ⟨W,hW⟩:∃ W,W = p512.wd f 80:=⟨_,rfl⟩
  rw [← hW]
  refine KA (oM ?_);refine oP (KF rfl) (oP (KE (o':=1) u311 rfl rfl rfl KCu dc) ?_);refine oD (dL rfl (hv:=by exact KBH u305 rfl KCu shL_hs (by rw [KAp]; decide))) ?_;refine oS (mk (KK zr_305) (fun b5=>?_));refine oT rfl rfl KCu ?_;refine KC (KB (KB (KA (oP (Kf (v:=Iz 0) rfl) (KC (LCode.block (Kc (α:=Nat) (fun x=>x≤80) (fun x=>⟨[(0,Pz hb),(4,Pz b4),(5,Pz b5),(19,Iz x)],[.blk hb ⟨true,shL .u64 p512 size (h.at) v n,311,(0,0)⟩,.blk b4 ⟨true,vec .u64 80 (W),308,(0,0)⟩,.blk b5 ⟨true,vec .u64 8 (S8.at (p512.rnds W h x)),305,(0,0)⟩]⟩) (fun x=>80-x) (0) (Nat.zero_le _) (Ka ⟨rfl,rfl,rfl,rfl,trivial⟩ mS) ?_)))))))
  intro x hx
  refine KB (KA (oP (KG rfl rfl (KAA (b:=80))) (KC (KB ?_))))
  first|refine KQ rfl (fun h20=>?_) (fun h20=>?_)|refine KR rfl (fun h20=>?_) (fun h20=>?_)
  ·
   have h20:x<80:=h20
   refine KM (KB (LCode.block (KB (KA (oM (oA (KC (KB (rD [] ?_)))))))));refine aP 0 rfl (KP (i:=4) u305 sz_30 rfl rfl om) (aD 1 rfl (dL rfl (hv:=KI u30 rfl (by exact Ki _ _ _ om))) ?_);refine aP 3 rfl (KP (i:=4) u305 sz_30 rfl rfl om) (aD 4 rfl (dL rfl (hv:=KI u30 rfl (by exact Ki _ _ _ om))) ?_);refine aP 7 rfl (KP (i:=4) u305 sz_30 rfl rfl om) (aD 8 rfl (dL rfl (hv:=KI u30 rfl (by exact Ki _ _ _ om))) ?_);refine aO 2 rfl (cF rfl en_223 rfl (fun w hw=>KCh _ _ dc dc w) ?_);refine aO 5 rfl (cF rfl en_223 rfl (fun w hw=>KCh _ _ dc dc w) ?_);refine aP 6 rfl (KG rfl rfl (KBq)) (aO 9 rfl (cF rfl en_223 rfl (fun w hw=>KCh _ _ dc dc w) ?_));refine aP 10 rfl (KG rfl rfl (KBq)) (aP 11 rfl (KJ (KO rfl) (show _ = .int .u64 ((p512.sg (p512.rnds W h x).e p512.e1 p512.e2 p512.e3:Nat):Int) from rfl)) (aE (KB (KA (oP (KP (i:=4) u305 sz_30 rfl rfl om) (oD (dL rfl (hv:=KI u30 rfl (by exact Ki _ _ _ om))) ?_))))))
   refine oP (KP (i:=5) u305 sz_30 rfl rfl om) (oD (dL rfl (hv:=KI u30 rfl (by exact Ki _ _ _ om))) ?_);refine oP (KG rfl rfl (br_and64m)) (oP (KP (i:=4) u305 sz_30 rfl rfl om) (oD (dL rfl (hv:=KI u30 rfl (by exact Ki _ _ _ om))) ?_));refine oP (Det.cpl64 rfl) (oP (KP (i:=6) u305 sz_30 rfl rfl om) (oD (dL rfl (hv:=KI u30 rfl (by exact Ki _ _ _ om))) ?_));refine oP (KG rfl rfl (br_and64m)) (oP (KG rfl rfl (KBq)) (oP (KJ (KO rfl) (show _ = .int .u64 ((p512.ch (p512.rnds W h x).e (p512.rnds W h x).f (p512.rnds W h x).g:Nat):Int) from rfl)) (KC (KB (rD [] (aP 0 rfl (KP (i:=7) u305 sz_30 rfl rfl om) (aD 1 rfl (dL rfl (hv:=KI u30 rfl (by exact Ki _ _ _ om))) ?_)))))));refine aM 2 ?_;refine aP 3 rfl (KG rfl rfl (KBt)) (aM 4 ?_);refine aP 5 rfl (KG rfl rfl (KBt)) (aM 6 ?_);refine aM 7 ?_
   refine aP 8 rfl (KF rfl) (aP 9 rfl (KE (o':=9) u311 rfl rfl rfl sz_308 dc) (aP 10 rfl (KCg u308 sz_30 rfl rfl om) (aD 11 rfl (dL rfl (hv:=KI u30 rfl (by exact shL_k (show x<p512.R from h20)))) ?_)));refine aP 12 rfl (KG rfl rfl (KBt)) (aM 13 ?_);refine aP 14 rfl (KP u308 sz_30 rfl rfl om) (aD 15 rfl (dL rfl (hv:=KI u30 rfl (by exact Ki _ _ _ h20))) ?_);refine aP 16 rfl (KG rfl rfl (KBt)) (aP 17 rfl (KJ (KO rfl) (show _ = .int .u64 ((p512.T1 (p512.rnds W h x) (nthN p512.K x) (W x):Nat):Int) from rfl)) (aE (KB (rD [] (aP 0 rfl (KP (i:=0) u305 sz_30 rfl rfl om) (aD 1 rfl (dL rfl (hv:=KI u30 rfl (by exact Ki _ _ _ om))) ?_))))));refine aP 3 rfl (KP (i:=0) u305 sz_30 rfl rfl om) (aD 4 rfl (dL rfl (hv:=KI u30 rfl (by exact Ki _ _ _ om))) ?_);refine aP 7 rfl (KP (i:=0) u305 sz_30 rfl rfl om) (aD 8 rfl (dL rfl (hv:=KI u30 rfl (by exact Ki _ _ _ om))) ?_)
   refine aO 2 rfl (cF rfl en_223 rfl (fun w hw=>KCh _ _ dc dc w) ?_);refine aO 5 rfl (cF rfl en_223 rfl (fun w hw=>KCh _ _ dc dc w) ?_);refine aP 6 rfl (KG rfl rfl (KBq)) (aO 9 rfl (cF rfl en_223 rfl (fun w hw=>KCh _ _ dc dc w) ?_));refine aP 10 rfl (KG rfl rfl (KBq)) (aP 11 rfl (KJ (KO rfl) (show _ = .int .u64 ((p512.sg (p512.rnds W h x).a p512.a1 p512.a2 p512.a3:Nat):Int) from rfl)) (aE (KB (KA (oP (KP (i:=0) u305 sz_30 rfl rfl om) (oD (dL rfl (hv:=KI u30 rfl (by exact Ki _ _ _ om))) ?_))))));refine oP (KP (i:=1) u305 sz_30 rfl rfl om) (oD (dL rfl (hv:=KI u30 rfl (by exact Ki _ _ _ om))) ?_);refine oP (KG rfl rfl (br_and64m)) (oP (KP (i:=0) u305 sz_30 rfl rfl om) (oD (dL rfl (hv:=KI u30 rfl (by exact Ki _ _ _ om))) ?_));refine oP (KP (i:=2) u305 sz_30 rfl rfl om) (oD (dL rfl (hv:=KI u30 rfl (by exact Ki _ _ _ om))) ?_)
   refine oP (KG rfl rfl (br_and64m)) (oP (KG rfl rfl (KBq)) (oP (KP (i:=1) u305 sz_30 rfl rfl om) (oD (dL rfl (hv:=KI u30 rfl (by exact Ki _ _ _ om))) ?_)));refine oP (KP (i:=2) u305 sz_30 rfl rfl om) (oD (dL rfl (hv:=KI u30 rfl (by exact Ki _ _ _ om))) ?_);refine oP (KG rfl rfl (br_and64m)) (oP (KG rfl rfl (KBq)) (oP (KJ (KO rfl) (show _ = .int .u64 ((p512.maj (p512.rnds W h x).a (p512.rnds W h x).b (p512.rnds W h x).c:Nat):Int) from rfl)) (KC (KA (oM (oM ?_))))));refine oP (KG rfl rfl (KBt)) (oM ?_);refine oP (KG rfl rfl (KBt)) (oP (KP (i:=0) u305 sz_30 rfl rfl om) (oD (dL rfl (hv:=KI u30 rfl (by exact Ki _ _ _ om))) ?_));refine oP (KP (i:=1) u305 sz_30 rfl rfl om) (oD (dL rfl (hv:=KI u30 rfl (by exact Ki _ _ _ om))) ?_);refine oP (KP (i:=2) u305 sz_30 rfl rfl om) (oD (dL rfl (hv:=KI u30 rfl (by exact Ki _ _ _ om))) ?_)
   refine oP (KP (i:=3) u305 sz_30 rfl rfl om) (oD (dL rfl (hv:=KI u30 rfl (by exact Ki _ _ _ om))) ?_);refine oM ?_;refine oP (KG rfl rfl (KBt)) (oP (KP (i:=4) u305 sz_30 rfl rfl om) (oD (dL rfl (hv:=KI u30 rfl (by exact Ki _ _ _ om))) ?_));refine oP (KP (i:=5) u305 sz_30 rfl rfl om) (oD (dL rfl (hv:=KI u30 rfl (by exact Ki _ _ _ om))) ?_);refine oP (KP (i:=6) u305 sz_30 rfl rfl om) (oD (dL rfl (hv:=KI u30 rfl (by exact Ki _ _ _ om))) ?_);refine oP (KJ (KX pl_305 zr_305 rfl (fill8_64 _ _ _ _ _ _ _ _)) (show _ = Value.agg (vec .u64 8 (S8.at (p512.stp (p512.rnds W h x) (nthN p512.K x) (W x)))).toArray from rfl)) (oT rfl rfl KCu ?_);refine KC (KA (oP (KG rfl rfl (Kj (b:=1) om)) (oM (KC ?_))))
   exact ⟨x+1,by omega,by omega,KAD (Sub.cells (b:=b5) (cs':=vec .u64 8 (S8.at (p512.rnds W h (x+1)))) mT rfl) (Ka ⟨rfl,rfl,rfl,rfl,trivial⟩ mS)⟩
  have h20:¬ x<80:=h20
  obtain rfl:x = 80:=by omega
  refine Kb (KB ?_)
  obtain ⟨s,hs⟩:∃ s,s = p512.rnds W h 80:=⟨_,rfl⟩
  rw [← hs]
  refine KA (oP (Kf (v:=Iz 0) rfl) (KC (LCode.block (Kc (α:=Nat) (fun y=>y≤8) (fun y=>⟨[(0,Pz hb),(5,Pz b5),(113,Iz y)],[.blk hb ⟨true,shL .u64 p512 size (mixF y (p512.fin h s).at h.at) v n,311,(0,0)⟩,.blk b5 ⟨true,vec .u64 8 (S8.at s),305,(0,0)⟩]⟩) (fun y=>8-y) (0) (Nat.zero_le _) (KAD (Sub.cells (b:=hb) (cs':=shL .u64 p512 size (mixF 0 (p512.fin h s).at h.at) v n) mT (KDW fun i _=>mixF_0 _ _ i)) (Ka ⟨rfl,rfl,rfl,trivial⟩ mS)) ?_))))
  intro y hy
  refine KB (KA (oP (KG rfl rfl (KAA (b:=8))) (KC (KB ?_))))
  first|refine KQ rfl (fun h114=>?_) (fun h114=>?_)|refine KR rfl (fun h114=>?_) (fun h114=>?_)
  ·
   have h114:y<8:=h114
   refine KM (KB (LCode.block (KB (KA (oM (oA (KC (rD [13] ?_))))))));refine aM 0 ?_;refine aM 1 ?_;refine aP 2 rfl (KF rfl) (aP 3 rfl (KE (o':=1) u311 rfl rfl rfl KCu dc) (aP 4 rfl (KCg u305 sz_30 rfl rfl om) (aD 5 rfl (dL rfl (hv:=KI u30 rfl (by exact shL_h h114))) ?_)));refine aM 6 ?_;refine aP 7 rfl (KP u305 sz_30 rfl rfl om) (aD 8 rfl (dL rfl (hv:=KI u30 rfl (by exact Ki _ _ _ om))) ?_);refine aP 9 rfl (KG rfl rfl (KBt)) (aP 10 rfl (KF rfl) (aP 11 rfl (KE (o':=1) u311 rfl rfl rfl KCu dc) (aP 12 rfl (KCg u305 sz_30 rfl rfl om) ?_)));refine aL 13 rfl (KZ rfl rfl rfl sz_30 mT (by rw [KAp]; show _<91; omega) (shL_seth h114) (by simp) ?_);refine aE (KA (oP (KG rfl rfl (Kj (b:=1) om)) (oM (KC ?_))))
   exact ⟨y+1,by omega,by omega,KAD (Sub.cells (b:=hb) (cs':=shL .u64 p512 size (mixF (y+1) (p512.fin h s).at h.at) v n) mT (KDW fun i _=>p512.fin_next h s h114 i)) (Ka ⟨rfl,rfl,rfl,trivial⟩ mS)⟩
  have h114:¬ y<8:=h114
  obtain rfl:y = 8:=by omega
  refine Kb (⟨[],.nil,fun a w' hr=>⟨_,_,⟨rfl,rfl⟩,rfl,?_⟩⟩)
  have e8:shL .u64 p512 size (mixF 8 (p512.fin h s).at h.at) v n = shL .u64 p512 size ((p512.turn h f).at) v n:=KDW fun i hi=>(by rw [mixF_8 _ _ hi,hs,hW]; rfl)
  rw [← e8]
  exact hr.out mS rfl
theorem c_blocks512 (size n:Nat) (h:S8) (v:Value) (hb:Nat) (r:BsRow) (l:List Nat) (w:World) (hH:∀ x,x∈([.blk hb ⟨true,shL .u64 p512 size (h.at) v n,311,(0,0)⟩]++[roI 5 r l]:List Item)→x.holds w) (hd:([.blk hb ⟨true,shL .u64 p512 size (h.at) v n,311,(0,0)⟩]++[roI 5 r l]:List Item).Pairwise Apart)  : Calls Tryz.prog 204 ([.func (.func 205) #[Pz hb] #[],bsV r l.length]:List Value).toArray w (fun e w'=>∃ (u:Value) (x':Item),((∃ r',u = bsV r' (l.drop (128*(l.length/128))).length∧bsFp r' = bsFp r∧∀ w,(roI 5 r l).holds w→(roI 5 r' (l.drop (128*(l.length/128)))).holds w)∧x' = .blk hb ⟨true,shL .u64 p512 size ((p512.blks l (l.length/128) h).at) v n,311,(0,0)⟩)∧e = .returned u∧Outcome w [.blk hb ⟨true,shL .u64 p512 size (h.at) v n,311,(0,0)⟩] [x'] w'):=by
  refine KAO [.blk hb ⟨true,shL .u64 p512 size (h.at) v n,311,(0,0)⟩,roI 5 r l] (N:=15) (rs:=[.tmp 4]) Tryz.func204 rfl Tryz.ntmps204 Tryz.results204 (Nb rfl) hH hd rfl rfl ?_
  refine KB (KA (oA (KC (KB (LCode.block ?_)))));refine Kc (α:=Nat×BsRow) (fun x=>x.1≤l.length/128∧bsFp x.2 = bsFp r∧∀ w,(roI 5 r l).holds w→(roI 5 x.2 (l.drop (128*x.1))).holds w) (fun x=>⟨[(0,.func (.func 205) #[Pz hb] #[]),(1,bsV x.2 (l.drop (128*x.1)).length)],[.blk hb ⟨true,shL .u64 p512 size ((p512.blks l x.1 h).at) v n,311,(0,0)⟩,roI 5 x.2 (l.drop (128*x.1))]⟩) (fun x=>l.length/128-x.1) ((0,r)) (⟨Nat.zero_le _,rfl,fun w h=>h⟩) (Ka ⟨rfl,rfl,trivial⟩ mS) ?_
  rintro ⟨q,r2⟩ ⟨hq,hfp,hpw⟩
  dsimp only at hq hfp hpw ⊢
  have hlen:(l.drop (128*q)).length = l.length-128*q:=List.length_drop
  refine KB (KB (KA (oM ?_)));refine oP (KBc u70 rfl) (oP (KG rfl rfl (KBf (b:=128))) (KC ?_))
  first|refine KQ rfl (fun h7=>?_) (fun h7=>?_)|refine KR rfl (fun h7=>?_) (fun h7=>?_)
  ·
   have h7:128≤l.length-128*q:=hlen ▸ h7
   have hk:128≤(l.drop (128*q)).length:=by omega
   refine LCode.know (x:=roI 5 r2 (l.drop (128*q))) mM (φ:=r2≠none) (fun w hw e=>?_) (fun hne=>?_)
   · subst e
     have:(l.drop (128*q)) = []:=roI_P hw
     rw [this] at hk
     exact absurd hk dc
   obtain ⟨⟨b2,pre,more,ex⟩,rfl⟩:∃ z,r2 = some z:=by cases r2 with|none=>exact absurd rfl hne|some z=>exact ⟨z,rfl⟩
   refine KM (KB (LCode.block (KA (oM (oM ?_)))));refine oP (Det.slH u70 sz_5 rfl rfl om (by simp only [bsM]; omega)) ?_;refine LOps.step rfl (Kg (first:=[Pz hb]) (caps:=[]) rfl en_205 rfl (Nb rfl) sR wK (fun w hH hd=>c_turn512 (fun j=>nthN (l.drop (128*q)) j) size n (p512.blks l q h) v hb b2 pre.length 128 _ _ (0,0) rfl (fun j hj=>bs_cell (Nat.lt_of_lt_of_le hj hk)) w hH hd) ?_)
   rintro _ _ ⟨rfl,rfl⟩
   refine KC (KA (oM ?_));refine oP (Det.slDrop (l:=(l.drop (128*q))) (k:=128) u70 sz_5 rfl rfl hk (by simp)) ?_;refine oA (KC ?_);refine ⟨(q+1,KDP (some (b2,pre,more,ex)) (l.drop (128*q)) 128),⟨by dsimp only; omega,by dsimp only; rw [bsDrop_fp]; exact hfp,fun w hw=>?_⟩,by dsimp only; omega,KAD (Sub.drop (k:=128) hk mP) ?_⟩
   · have:=bsDrop_ro hk w (hpw w hw)
     dsimp only
     rw [List.drop_drop] at this
     exact this
   · dsimp only
     rw [List.drop_drop]
     exact Ka ⟨rfl,rfl,trivial⟩ mS
  have h7:¬ 128≤l.length-128*q:=hlen ▸ h7
  obtain rfl:q = l.length/128:=by omega
  refine Kb (KB (KA (oM (oA (KC (KN ?_))))));refine ⟨[_],.cons rfl .nil,fun a w' hr=>⟨_,_,⟨⟨_,rfl,hfp,hpw⟩,rfl⟩,rfl,hr.out mS rfl⟩⟩
theorem c_shaNew384  (w:World) (hH:∀ x,x∈([]++[]:List Item)→x.holds w) (hd:([]++[]:List Item).Pairwise Apart)  : Calls Tryz.prog 174 ([Iz 384]:List Value).toArray w (fun e w'=>∃ (u:Value) (x':Item),(∃ b,u = .tuple #[Pz b,Iz 0]∧x' = .blk b ⟨true,shL .u64 p512 384 (S8.at iv384) (.slice none 0 0) (0),311,(0,0)⟩)∧e = .returned u∧Outcome w [] [x'] w'):=by
  refine KAO [] (N:=18) (rs:=[.tmp 2,.tmp 3]) Tryz.func174 rfl Tryz.ntmps174 Tryz.results174 (Nb rfl) hH hd rfl rfl ?_
  refine KB (KA (oA ?_));refine oP (KO (v:=Iz 0) rfl) (KC (KB (KA (oM ?_))));refine oS (cF rfl en_200 rfl (fun w hw=>c_beg384 w) ?_);refine oM ?_;refine oX ?_;refine oX ?_;refine oS (mk (KK zr_305) (fun b4=>?_));refine oT rfl rfl KCu ?_;refine oA (KC (KB (KB (KA (oM ?_)))));refine oP (KJ (KAH rfl) (show _ = Value.bool false from rfl)) (KC (KH rfl (KM (KB (rD [] (aM 0 ?_))))));refine aD 1 rfl (dL rfl (hv:=by exact KD u305 rfl KCu)) ?_;refine aO 2 rfl (cF rfl en_201 rfl (fun w hw=>c_cons512 w) ?_);refine aP 3 rfl (KX pl_311 zr_311 rfl (fT (r':=([Iz 384]++(vec .u64 8 (S8.at iv384)++(vec .u64 80 (nthN p512.K)++([Value.slice none 0 0]++([Value.int .u64 ((0:Nat):Int)])))))) (fS (A:=([]:List Value)) (B:=([Iz 0])) (D:=(vec .u64 8 (fun _=>0)++(vec .u64 80 (fun _=>0)++([Value.slice none 0 0]++([Value.int .u64 ((0:Nat):Int)]))))) (cs:=[Iz 384]) (fS (A:=([Iz 384])) (B:=(vec .u64 8 (fun _=>0))) (D:=(vec .u64 80 (fun _=>0)++([Value.slice none 0 0]++([Value.int .u64 ((0:Nat):Int)])))) (cs:=vec .u64 8 (S8.at iv384)) (fS (A:=([Iz 384]++(vec .u64 8 (S8.at iv384)))) (B:=(vec .u64 80 (fun _=>0))) (D:=([Value.slice none 0 0]++([Value.int .u64 ((0:Nat):Int)]))) (cs:=vec .u64 80 (nthN p512.K)) rfl))))) ?_
  refine aO 4 rfl (mB (fun b17=>?_));refine aA 5 ?_;refine aP 6 rfl (KO (v:=Iz 0) rfl) (aE (KN (⟨[_,_],.cons rfl (.cons rfl .nil),fun a w' hr=>⟨_,_,⟨b17,rfl,rfl⟩,rfl,hr.out mS rfl⟩⟩)))
theorem c_shaNew512  (w:World) (hH:∀ x,x∈([]++[]:List Item)→x.holds w) (hd:([]++[]:List Item).Pairwise Apart)  : Calls Tryz.prog 174 ([Iz 512]:List Value).toArray w (fun e w'=>∃ (u:Value) (x':Item),(∃ b,u = .tuple #[Pz b,Iz 0]∧x' = .blk b ⟨true,shL .u64 p512 512 (S8.at iv512) (.slice none 0 0) (0),311,(0,0)⟩)∧e = .returned u∧Outcome w [] [x'] w'):=by
  refine KAO [] (N:=18) (rs:=[.tmp 2,.tmp 3]) Tryz.func174 rfl Tryz.ntmps174 Tryz.results174 (Nb rfl) hH hd rfl rfl ?_
  refine KB (KA (oA ?_));refine oP (KO (v:=Iz 0) rfl) (KC (KB (KA (oM ?_))));refine oS (cF rfl en_200 rfl (fun w hw=>c_beg512 w) ?_);refine oM ?_;refine oX ?_;refine oX ?_;refine oS (mk (KK zr_305) (fun b4=>?_));refine oT rfl rfl KCu ?_;refine oA (KC (KB (KB (KA (oM ?_)))));refine oP (KJ (KAH rfl) (show _ = Value.bool false from rfl)) (KC (KH rfl (KM (KB (rD [] (aM 0 ?_))))));refine aD 1 rfl (dL rfl (hv:=by exact KD u305 rfl KCu)) ?_;refine aO 2 rfl (cF rfl en_201 rfl (fun w hw=>c_cons512 w) ?_);refine aP 3 rfl (KX pl_311 zr_311 rfl (fT (r':=([Iz 512]++(vec .u64 8 (S8.at iv512)++(vec .u64 80 (nthN p512.K)++([Value.slice none 0 0]++([Value.int .u64 ((0:Nat):Int)])))))) (fS (A:=([]:List Value)) (B:=([Iz 0])) (D:=(vec .u64 8 (fun _=>0)++(vec .u64 80 (fun _=>0)++([Value.slice none 0 0]++([Value.int .u64 ((0:Nat):Int)]))))) (cs:=[Iz 512]) (fS (A:=([Iz 512])) (B:=(vec .u64 8 (fun _=>0))) (D:=(vec .u64 80 (fun _=>0)++([Value.slice none 0 0]++([Value.int .u64 ((0:Nat):Int)])))) (cs:=vec .u64 8 (S8.at iv512)) (fS (A:=([Iz 512]++(vec .u64 8 (S8.at iv512)))) (B:=(vec .u64 80 (fun _=>0))) (D:=([Value.slice none 0 0]++([Value.int .u64 ((0:Nat):Int)]))) (cs:=vec .u64 80 (nthN p512.K)) rfl))))) ?_
  refine aO 4 rfl (mB (fun b17=>?_));refine aA 5 ?_;refine aP 6 rfl (KO (v:=Iz 0) rfl) (aE (KN (⟨[_,_],.cons rfl (.cons rfl .nil),fun a w' hr=>⟨_,_,⟨b17,rfl,rfl⟩,rfl,hr.out mS rfl⟩⟩)))
theorem c_shaWrite512 (size n:Nat) (h:S8) (rest:List Nat) (r:BsRow) (hb:Nat) (s:ByteArray) (hrl:rest.length≤128) (hs:s.size≤140737488351232) (w:World) (hH:∀ x,x∈([.blk hb ⟨true,shL .u64 p512 size (h.at) (bsV r rest.length) (n),311,(0,0)⟩,bsI 5 r rest]++[]:List Item)→x.holds w) (hd:([.blk hb ⟨true,shL .u64 p512 size (h.at) (bsV r rest.length) (n),311,(0,0)⟩,bsI 5 r rest]++[]:List Item).Pairwise Apart)  : Calls Tryz.prog 176 ([Pz hb,.string s]:List Value).toArray w (fun e w'=>∃ (u:Value) (x':Item) (y':Item),(∃ r',u = Iz 0∧x' = .blk hb ⟨true,shL .u64 p512 size ((p512.write (⟨h,rest,n⟩:ShS) (ofS s)).h.at) (bsV r' (p512.write (⟨h,rest,n⟩:ShS) (ofS s)).rest.length) ((p512.write (⟨h,rest,n⟩:ShS) (ofS s)).n),311,(0,0)⟩∧y' = bsI 5 r' (p512.write (⟨h,rest,n⟩:ShS) (ofS s)).rest)∧e = .returned u∧Outcome w [.blk hb ⟨true,shL .u64 p512 size (h.at) (bsV r rest.length) (n),311,(0,0)⟩,bsI 5 r rest] [x',y'] w'):=by
  have hl:(ofS s).length≤140737488351232:=by rw [KBG]; exact hs
  refine KAO [.blk hb ⟨true,shL .u64 p512 size (h.at) (bsV r rest.length) (n),311,(0,0)⟩,bsI 5 r rest] (N:=33) (rs:=[.tmp 4]) Tryz.func176 rfl Tryz.ntmps176 Tryz.results176 (Nb rfl) hH hd rfl rfl ?_
  refine KB (KA (oP (KO (v:=Iz 0) rfl) (KC (KB (KB (KA (oM ?_)))))));refine oP (KAI u262 rfl rfl) (KC (KH rfl (KM (KB (KA (oM ?_))))));refine oP (KF rfl) (oP (KE (o':=90) u311 rfl rfl rfl sz_30 dc) (oD (dL rfl (hv:=KI u30 rfl (by exact shL_n))) ?_));refine oM ?_;refine oP (KJ (KAQ u9 rfl) (show _ = Iz ((ofS s).length) by rw [KBG])) ?_;refine oP (KCA u3 u30 rfl (by first|omega|exact Nat.lt_trans (D.limb_lt _ _) dc)) ?_;refine oP (KG rfl rfl (KAc)) (oP (KF rfl) (oP (KE (o':=90) u311 rfl rfl rfl sz_30 dc) ?_));refine LOps.step rfl (KZ rfl rfl rfl sz_30 mT (by rw [KAp]; decide) (shL_setn) (by simp) ?_);refine KC (KB (KA (oM ?_)));refine oP (KF rfl) (oP (KE (o':=89) u311 rfl rfl rfl sz_70 dc) (oD (dL rfl (hv:=KI u70 rfl (by exact shL_r))) ?_));refine LOps.step rfl (KBa (news:=rest) rfl rfl u70 inf_5 (fun w hw=>src_bs u70 (hw (bsI 5 r rest) mM)) om (Nb rfl) ?_)
  intro r1
  refine oM ?_;refine LOps.step rfl (KAS (news:=ofS s) rfl rfl u70 inf_5 mP (fun w hw=>src_str u9) om (Nb rfl) ?_)
  intro r2
  refine oA (KC (KB (KA (oM (oM ?_)))));refine oP (Kw rfl) (oM ?_);refine LOps.step rfl (Kg (first:=[]) (caps:=[]) rfl en_204 rfl (Nb rfl) sR wK (fun w hH hd=>c_blocks512 size _ h _ hb r2 (rest++ofS s) w hH hd) ?_)
  rintro _ _ ⟨⟨r3,rfl,hfp,hpw⟩,rfl⟩
  refine LOps.step rfl (KBa (news:=((rest++ofS s).drop (128*((rest++ofS s).length/128)))) rfl rfl u70 inf_5 (fun w hw=>src_bs u70 (show (bsI 5 r3 ((rest++ofS s).drop (128*((rest++ofS s).length/128)))).holds w from hpw w (hw (bsI 5 r2 (rest++ofS s)) mM))) (by rw [List.length_drop,List.length_append]; omega) (Nb rfl) ?_)
  intro r4
  refine oP (KF rfl) (oP (KE (o':=89) u311 rfl rfl rfl sz_70 dc) ?_);refine LOps.step rfl (KZ rfl rfl rfl sz_70 mT (by rw [KAp]; decide) (shL_setr) (by simp) ?_);refine KC (KB (KA (oP (KO (v:=Iz 0) rfl) (KC (KN (⟨[_],.cons rfl .nil,fun a w' hr=>⟨_,_,_,⟨r4,rfl,rfl,rfl⟩,rfl,hr.out mS rfl⟩⟩))))))
theorem c_shaSum512 (size n:Nat) (h:S8) (rest:List Nat) (r:BsRow) (hb:Nat) (hrl:rest.length<128) (hsz:size/8≤64) (hsz2:size<1000) (w:World) (h1:(Item.blk hb ⟨false,shL .u64 p512 size (h.at) (bsV r rest.length) (n),311,(0,0)⟩).holds w) (h2:(roI 5 r rest).holds w):CF Tryz.prog 177 [Pz hb] w (.string (toS (p512.sum (⟨h,rest,n⟩:ShS) (size/8)))):=by
  refine KV (N:=82) (rs:=[.tmp 2]) [.blk hb ⟨false,shL .u64 p512 size (h.at) (bsV r rest.length) (n),311,(0,0)⟩,roI 5 r rest] Tryz.func177 rfl Tryz.ntmps177 Tryz.results177 (Nb rfl) ⟨h1,h2,trivial⟩ rfl ?_
  refine KB (KA (oA (KC (KB (KB (KA (oM ?_)))))));refine oP (KAI u262 rfl rfl) (KC (KH rfl (KM (KB (KA (oM ?_))))));refine oP (KF rfl) ?_;refine oD (dL rfl (hv:=by exact KD u311 rfl (by rw [KAp]; exact sz_311))) ?_;refine oS (mk (KK zr_311) (fun b3=>?_));refine LOps.step rfl (sA rfl rfl (by rw [KAp]; exact sz_311) (shL_one rfl) (hl:=by rw [KAp]; rfl) (h:=?_));refine KC (KB (KA (oM ?_)));refine oP (KF rfl) (oP (KE (o':=89) u311 rfl rfl rfl sz_70 dc) (oD (dL rfl (hv:=KI u70 rfl (by exact shL_r))) ?_));refine LOps.step rfl (KBa (news:=rest) rfl rfl u70 inf_5 (fun w hw=>src_bs u70 (show (bsI 5 r rest).holds w from hw (roI 5 r rest) mM)) om (Nb rfl) ?_)
  intro r19
  refine oS (mk (KAP u70 inf_5 rfl rfl rfl rfl dc rfl) (fun b20=>?_));refine LOps.step rfl (KAS (news:=[128]) rfl rfl u70 inf_5 mP (fun w hw=>KDQ (l:=[128]) u70 (hw (.blk b20 ⟨true,numL [128],5,(0,0)⟩) mM)) (by first|omega|(simp only [List.length_append,List.length_replicate,List.length_cons,List.length_nil,KBU,Hp.outP_length,Hp.wbP_length]; omega)|(have hw:i*p512.wb≤64:=Nat.mul_le_mul_right 8 (Nat.le_of_lt h58); simp only [List.length_append,Hp.outP_length,Hp.wbP_length,List.length_cons,List.length_nil]; omega)) (Nb rfl) ?_)
  intro r21
  rw [show (rest++[128]) = ((rest++[128])++List.replicate (0) 0) from (List.append_nil _).symm]
  refine oA (KC (KB (LCode.block ?_)));refine Kc (α:=Nat×BsRow) (fun x=>x.1≤p512.zs rest.length) (fun x=>⟨[(0,Pz hb),(3,Pz b3),(4,bsV x.2 ((rest++[128])++List.replicate (x.1) 0).length)],[.blk hb ⟨false,shL .u64 p512 size (h.at) (bsV r rest.length) (n),311,(0,0)⟩,roI 5 r rest,.blk b3 ⟨true,shL .u64 p512 size (h.at) (bsV r rest.length) (n),311,(0,0)⟩,bsI 5 x.2 ((rest++[128])++List.replicate (x.1) 0)]⟩) (fun x=>p512.zs rest.length-x.1) ((0,r21)) (Nat.zero_le _) (Ka ⟨rfl,rfl,rfl,trivial⟩ mS) ?_
  rintro ⟨j,rj⟩ hj
  dsimp only at hj ⊢
  have hz:p512.zs rest.length = (128+112-(rest.length+1)%128)%128:=rfl
  have hlen:((rest++[128])++List.replicate (j) 0).length = rest.length+1+j:=by simp only [List.length_append,List.length_replicate,List.length_cons,List.length_nil]
  refine KB (KB (KA (oM ?_)));refine oP (KBc u70 rfl) (oP (KG rfl rfl (br_rem (b:=128) om)) (oP (KG rfl rfl (KAn (b:=112))) (KC ?_)))
  first|refine KQ rfl (fun h25=>?_) (fun h25=>?_)|refine KR rfl (fun h25=>?_) (fun h25=>?_)
  ·
   have h25:j<p512.zs rest.length:=by
     rw [hlen] at h25
     omega
   refine KM (LCode.block (KA (oM ?_)));refine oS (mk (KAP u70 inf_5 rfl rfl rfl rfl dc rfl) (fun b27=>?_));refine LOps.step rfl (KAS (news:=[0]) rfl rfl u70 inf_5 mP (fun w hw=>KDQ (l:=[0]) u70 (hw (.blk b27 ⟨true,numL [0],5,(0,0)⟩) mM)) (by first|omega|(simp only [List.length_append,List.length_replicate,List.length_cons,List.length_nil,KBU,Hp.outP_length,Hp.wbP_length]; omega)|(have hw:i*p512.wb≤64:=Nat.mul_le_mul_right 8 (Nat.le_of_lt h58); simp only [List.length_append,Hp.outP_length,Hp.wbP_length,List.length_cons,List.length_nil]; omega)) (Nb rfl) ?_)
   intro rk
   rw [rep_succ]
   refine oA (KC ?_)
   exact ⟨(j+1,rk),by dsimp only; omega,by dsimp only; omega,Ka ⟨rfl,rfl,rfl,trivial⟩ mS⟩
  obtain rfl:j = p512.zs rest.length:=by
    rw [hlen] at h25
    omega
  refine Kb (KB (KB ?_))
  rw [show ((rest++[128])++List.replicate (p512.zs rest.length) 0) = (((rest++[128])++List.replicate (p512.zs rest.length) 0)++List.replicate (0) 0) from (List.append_nil _).symm]
  refine KA (oP (Kf (v:=Iz 0) rfl) (KC (LCode.block (Kc (α:=Nat×BsRow) (fun x=>x.1≤8) (fun x=>⟨[(0,Pz hb),(3,Pz b3),(4,bsV x.2 (((rest++[128])++List.replicate (p512.zs rest.length) 0)++List.replicate (x.1) 0).length),(29,Iz x.1)],[.blk hb ⟨false,shL .u64 p512 size (h.at) (bsV r rest.length) (n),311,(0,0)⟩,roI 5 r rest,.blk b3 ⟨true,shL .u64 p512 size (h.at) (bsV r rest.length) (n),311,(0,0)⟩,bsI 5 x.2 (((rest++[128])++List.replicate (p512.zs rest.length) 0)++List.replicate (x.1) 0)]⟩) (fun x=>8-x.1) ((0,rj)) (Nat.zero_le _) (Ka ⟨rfl,rfl,rfl,rfl,trivial⟩ mS) ?_))))
  rintro ⟨j,rj⟩ hj
  dsimp only at hj ⊢
  refine KB (KA (oP (KG rfl rfl (KAA (b:=8))) (KC (KB ?_))))
  first|refine KQ rfl (fun h30=>?_) (fun h30=>?_)|refine KR rfl (fun h30=>?_) (fun h30=>?_)
  ·
   have h30:j<8:=h30
   refine KM (KB (LCode.block (KA (oM ?_))));refine oS (mk (KAP u70 inf_5 rfl rfl rfl rfl dc rfl) (fun b32=>?_));refine LOps.step rfl (KAS (news:=[0]) rfl rfl u70 inf_5 mP (fun w hw=>KDQ (l:=[0]) u70 (hw (.blk b32 ⟨true,numL [0],5,(0,0)⟩) mM)) (by first|omega|(simp only [List.length_append,List.length_replicate,List.length_cons,List.length_nil,KBU,Hp.outP_length,Hp.wbP_length]; omega)|(have hw:i*p512.wb≤64:=Nat.mul_le_mul_right 8 (Nat.le_of_lt h58); simp only [List.length_append,Hp.outP_length,Hp.wbP_length,List.length_cons,List.length_nil]; omega)) (Nb rfl) ?_)
   intro rk
   rw [rep_succ]
   refine oA (KC (KA ?_));refine oP (KG rfl rfl (Kj (b:=1) om)) (oM (KC ?_))
   exact ⟨(j+1,rk),by dsimp only; omega,by dsimp only; omega,Ka ⟨rfl,rfl,rfl,rfl,trivial⟩ mS⟩
  have h30:¬ j<8:=h30
  obtain rfl:j = 8:=by omega
  refine Kb (KB (KB ?_))
  rw [show (((rest++[128])++List.replicate (p512.zs rest.length) 0)++List.replicate (8) 0) = ((((rest++[128])++List.replicate (p512.zs rest.length) 0)++List.replicate (8) 0)++lenP n (0)) from (List.append_nil _).symm]
  refine KA (oP (Kf (v:=Iz 0) rfl) (KC (LCode.block (Kc (α:=Nat×BsRow) (fun x=>x.1≤8) (fun x=>⟨[(0,Pz hb),(3,Pz b3),(4,bsV x.2 ((((rest++[128])++List.replicate (p512.zs rest.length) 0)++List.replicate (8) 0)++lenP n (x.1)).length),(35,Iz x.1)],[.blk hb ⟨false,shL .u64 p512 size (h.at) (bsV r rest.length) (n),311,(0,0)⟩,roI 5 r rest,.blk b3 ⟨true,shL .u64 p512 size (h.at) (bsV r rest.length) (n),311,(0,0)⟩,bsI 5 x.2 ((((rest++[128])++List.replicate (p512.zs rest.length) 0)++List.replicate (8) 0)++lenP n (x.1))]⟩) (fun x=>8-x.1) ((0,rj)) (Nat.zero_le _) (Ka ⟨rfl,rfl,rfl,rfl,trivial⟩ mS) ?_))))
  rintro ⟨j,rj⟩ hj
  dsimp only at hj ⊢
  refine KB (KA (oP (KG rfl rfl (KAA (b:=8))) (KC (KB ?_))))
  first|refine KQ rfl (fun h36=>?_) (fun h36=>?_)|refine KR rfl (fun h36=>?_) (fun h36=>?_)
  ·
   have h36:j<8:=h36
   refine KM (KB (LCode.block (KB (KA (oM (oA (KC (KA (oM (oM ?_))))))))));refine oP (KF rfl) (oP (KE (o':=90) u311 rfl rfl rfl sz_30 dc) (oD (dL rfl (hv:=KI u30 rfl (by exact shL_n))) ?_));refine oP (KG rfl rfl (br_shl64m (b:=3) dc)) (oM ?_);refine oP (KG rfl rfl (KCB (a:=8) om)) (oP (KG rfl rfl (KAe (a:=56) om om)) (oP (KG rfl rfl (KDf om)) (oP (KAV u30 u5 rfl) (oS (mk (KAP u70 inf_5 rfl rfl rfl rfl dc rfl) (fun b49=>?_))))));refine LOps.step rfl (KAS (news:=[n*2^3%18446744073709551616/2^(56-8*j)%256]) rfl rfl u70 inf_5 mP (fun w hw=>KDQ (l:=[n*2^3%18446744073709551616/2^(56-8*j)%256]) u70 (hw (.blk b49 ⟨true,numL [n*2^3%18446744073709551616/2^(56-8*j)%256],5,(0,0)⟩) mM)) (by first|omega|(simp only [List.length_append,List.length_replicate,List.length_cons,List.length_nil,KBU,Hp.outP_length,Hp.wbP_length]; omega)|(have hw:i*p512.wb≤64:=Nat.mul_le_mul_right 8 (Nat.le_of_lt h58); simp only [List.length_append,Hp.outP_length,Hp.wbP_length,List.length_cons,List.length_nil]; omega)) (Nb rfl) ?_)
   intro rk
   rw [List.append_assoc,← lenP_succ]
   refine oA (KC (KA ?_));refine oP (KG rfl rfl (Kj (b:=1) om)) (oM (KC ?_))
   exact ⟨(j+1,rk),by dsimp only; omega,by dsimp only; omega,Ka ⟨rfl,rfl,rfl,rfl,trivial⟩ mS⟩
  have h36:¬ j<8:=h36
  obtain rfl:j = 8:=by omega
  refine Kb (KB (KA (oP (Kw rfl) (oM ?_))));refine LOps.step rfl (Kg (first:=[]) (caps:=[]) rfl en_204 rfl (Nb rfl) sR wK (fun w hH hd=>c_blocks512 size _ h _ b3 rj ((((rest++[128])++List.replicate (p512.zs rest.length) 0)++List.replicate (8) 0)++lenP n (8)) w hH hd) ?_)
  rintro _ _ ⟨⟨r5,rfl,hfp,hpw⟩,rfl⟩
  obtain ⟨g,hg⟩:∃ g,g = (p512.blks ((((rest++[128])++List.replicate (p512.zs rest.length) 0)++List.replicate (8) 0)++lenP n (8)) (((((rest++[128])++List.replicate (p512.zs rest.length) 0)++List.replicate (8) 0)++lenP n (8)).length/128) h):=⟨_,rfl⟩
  rw [← hg]
  refine KC (KB (KA (oA (KC (KB (KB (KA ?_)))))));refine oP (KE (o':=1) u311 rfl rfl rfl KCu dc) ?_;refine oD (dL rfl (hv:=by exact KBH u305 rfl KCu shL_hs (by rw [KAp]; decide))) ?_;refine oP (Kf (v:=Iz 0) rfl) (KC (LCode.block (Kc (α:=Nat×BsRow) (fun x=>x.1≤8) (fun x=>⟨[(0,Pz hb),(6,bsV x.2 (p512.outP g (x.1)).length),(56,.agg (vec .u64 8 (g.at)).toArray),(57,Iz x.1)],[.blk hb ⟨false,shL .u64 p512 size (h.at) (bsV r rest.length) (n),311,(0,0)⟩,roI 5 r rest,bsI 5 x.2 (p512.outP g (x.1))]⟩) (fun x=>8-x.1) ((0,none)) (Nat.zero_le _) (KAD (Sub.add (x:=bsI 5 none []) (bsI_nil 5) rfl) (Ka ⟨rfl,rfl,rfl,rfl,trivial⟩ mS)) ?_)))
  rintro ⟨i,ri⟩ hi
  dsimp only at hi ⊢
  refine KB (KA (oP (KG rfl rfl (KAA (b:=8))) (KC (KB ?_))))
  first|refine KQ rfl (fun h58=>?_) (fun h58=>?_)|refine KR rfl (fun h58=>?_) (fun h58=>?_)
  ·
   have h58:i<8:=h58
   refine KM (KB (LCode.block (KB (KA (oP (Det.indexAgg u305 u30 rfl sz_30 rfl rfl h58 (Ki _ _ _ h58)) (oA (KC (KB ?_))))))))
   rw [show (p512.outP g (i)) = (p512.outP g (i))++(p512.wbP (g.at i) 0) from (List.append_nil _).symm]
   refine KA (oP (Kf (v:=Iz 0) rfl) (KC (LCode.block (Kc (α:=Nat×BsRow) (fun x=>x.1≤8) (fun x=>⟨[(0,Pz hb),(6,bsV x.2 ((p512.outP g (i))++(p512.wbP (g.at i) x.1)).length),(56,.agg (vec .u64 8 (g.at)).toArray),(57,Iz i),(8,.int .u64 ((g.at i:Nat):Int)),(60,Iz x.1)],[.blk hb ⟨false,shL .u64 p512 size (h.at) (bsV r rest.length) (n),311,(0,0)⟩,roI 5 r rest,bsI 5 x.2 ((p512.outP g (i))++(p512.wbP (g.at i) x.1))]⟩) (fun x=>8-x.1) ((0,ri)) (Nat.zero_le _) (Ka ⟨rfl,rfl,rfl,rfl,rfl,rfl,trivial⟩ mS) ?_))))
   rintro ⟨j,rj⟩ hj
   dsimp only at hj ⊢
   refine KB (KA (oP (KG rfl rfl (KAA (b:=8))) (KC (KB ?_))))
   first|refine KQ rfl (fun h61=>?_) (fun h61=>?_)|refine KR rfl (fun h61=>?_) (fun h61=>?_)
   ·
    have h61:j<8:=h61
    refine KM (KB (LCode.block (KB (KA (oM (oA (KC (KA (oM (oM (oM ?_)))))))))));refine oP (KG rfl rfl (KCB (a:=8) om)) (oP (KG rfl rfl (KAe (a:=56) om om)) (oP (KG rfl rfl (KDf om)) (oP (KAV u30 u5 rfl) (oS (mk (KAP u70 inf_5 rfl rfl rfl rfl dc rfl) (fun b70=>?_))))));refine LOps.step rfl (KAS (news:=[g.at i/2^(p512.bits-8-8*j)%256]) rfl rfl u70 inf_5 mP (fun w hw=>KDQ (l:=[g.at i/2^(p512.bits-8-8*j)%256]) u70 (hw (.blk b70 ⟨true,numL [g.at i/2^(p512.bits-8-8*j)%256],5,(0,0)⟩) mM)) (by first|omega|(simp only [List.length_append,List.length_replicate,List.length_cons,List.length_nil,KBU,Hp.outP_length,Hp.wbP_length]; omega)|(have hw:i*p512.wb≤64:=Nat.mul_le_mul_right 8 (Nat.le_of_lt h58); simp only [List.length_append,Hp.outP_length,Hp.wbP_length,List.length_cons,List.length_nil]; omega)) (Nb rfl) ?_)
    intro rk
    rw [List.append_assoc,← p512.wbP_succ]
    refine oA (KC (KA ?_));refine oP (KG rfl rfl (Kj (b:=1) om)) (oM (KC ?_))
    exact ⟨(j+1,rk),by dsimp only; omega,by dsimp only; omega,Ka ⟨rfl,rfl,rfl,rfl,rfl,rfl,trivial⟩ mS⟩
   have h61:¬ j<8:=h61
   obtain rfl:j = 8:=by omega
   refine Kb (KA (oP (KG rfl rfl (Kj (b:=1) om)) (oM (KC ?_))))
   exact ⟨(i+1,rj),by dsimp only; omega,by dsimp only; omega,by
     dsimp only
     rw [p512.outP_succ]
     exact Ka ⟨rfl,rfl,rfl,rfl,trivial⟩ mS⟩
  have h58:¬ i<8:=h58
  obtain rfl:i = 8:=by omega
  refine Kb (KB (KA (oM (oM ?_))));refine oP (KF rfl) (oP (KE (o':=0) u311 rfl rfl rfl sz_3 dc) (oD (dL rfl (hv:=KI u3 rfl gL)) ?_));refine oP (KG rfl rfl (KDI (b:=8) om om)) ?_;refine oP (Det.slH u70 sz_5 rfl rfl om (by rw [p512.outP_length]; exact Int.ofNat_le.2 (Nat.le_trans hsz (Nat.le_add_right _ _)))) ?_;refine oD (Det.bsStr (l:=(p512.outP g (8))) (k:=size/8) u70 u5 u9 rfl mM (by rw [p512.outP_length]; exact hsz)) ?_;refine oA (KC (KN ?_));refine eN (.cons rfl .nil) ?_
  rw [hg]
  rfl
end Go.Proofs.YtnpeokiboiclfaaGreat
set_option maxRecDepth 100000
namespace Go.Proofs
open Go.Shelf Go.RowKit
def Tryz.laysRepeat_ren:Go.Shelf.Ren:=⟨fun|105=>33|212=>69|99=>70|165=>71|166=>72|170=>73|169=>74|263=>122|264=>123|206=>124|240=>125|241=>126|276=>163|277=>164|n=>n,fun|9=>9|3=>3|4=>4|20=>20|0=>0|46=>56|109=>144|5=>5|72=>149|76=>153|51=>188|146=>189|53=>30|148=>191|70=>147|37=>70|75=>152|127=>193|164=>243|80=>155|n=>n,fun|n=>n⟩
theorem Tryz.laysRepeat:Go.Proofs.Lays.n105 Tryz.prog Tryz.laysRepeat_ren:={
  mixed:=by kernel_rfl
  f99:=Tryz.func70.trans (congrArg some (by kernel_rfl))
  f105:=Tryz.func33.trans (congrArg some (by kernel_rfl))
  f165:=Tryz.func71.trans (congrArg some (by kernel_rfl))
  f166:=Tryz.func72.trans (congrArg some (by kernel_rfl))
  f169:=Tryz.func74.trans (congrArg some (by kernel_rfl))
  f170:=Tryz.func73.trans (congrArg some (by kernel_rfl))
  f206:=Tryz.func124.trans (congrArg some (by kernel_rfl))
  f212:=Tryz.func69.trans (congrArg some (by kernel_rfl))
  f240:=Tryz.func125.trans (congrArg some (by kernel_rfl))
  f241:=Tryz.func126.trans (congrArg some (by kernel_rfl))
  f263:=Tryz.func122.trans (congrArg some (by kernel_rfl))
  f264:=Tryz.func123.trans (congrArg some (by kernel_rfl))
  f276:=Tryz.func163.trans (congrArg some (by kernel_rfl))
  f277:=Tryz.func164.trans (congrArg some (by kernel_rfl))
  t0:=Tryz.underlying0
  a0:=Tryz.isAgg0
  z0:=Tryz.sizeOf0
  v0:=Tryz.zeroValue0
  t3:=Tryz.underlying3
  a3:=Tryz.isAgg3
  z3:=Tryz.sizeOf3
  v3:=Tryz.zeroValue3
  t4:=Tryz.underlying4
  a4:=Tryz.isAgg4
  z4:=Tryz.sizeOf4
  v4:=Tryz.zeroValue4
  t5:=Tryz.underlying5
  a5:=Tryz.isAgg5
  z5:=Tryz.sizeOf5
  v5:=Tryz.zeroValue5
  t9:=Tryz.underlying9
  a9:=Tryz.isAgg9
  z9:=Tryz.sizeOf9
  v9:=Tryz.zeroValue9
  t20:=Tryz.underlying20
  a20:=Tryz.isAgg20
  z20:=Tryz.sizeOf20
  v20:=Tryz.zeroValue20
  t37:=Tryz.underlying70
  a37:=Tryz.isAgg70
  z37:=Tryz.sizeOf70
  v37:=Tryz.zeroValue70
  t46:=Tryz.underlying56
  a46:=Tryz.isAgg56
  z46:=Tryz.sizeOf56
  v46:=Tryz.zeroValue56
  t51:=Tryz.underlying188
  a51:=Tryz.isAgg188
  z51:=Tryz.sizeOf188
  v51:=Tryz.zeroValue188
  t53:=Tryz.underlying30
  a53:=Tryz.isAgg30
  z53:=Tryz.sizeOf30
  v53:=Tryz.zeroValue30
  t70:=Tryz.underlying147
  a70:=Tryz.isAgg147
  z70:=Tryz.sizeOf147
  v70:=Tryz.zeroValue147
  t72:=Tryz.underlying149
  a72:=Tryz.isAgg149
  z72:=Tryz.sizeOf149
  v72:=Tryz.zeroValue149
  t75:=Tryz.underlying152
  a75:=Tryz.isAgg152
  z75:=Tryz.sizeOf152
  v75:=Tryz.zeroValue152
  t76:=Tryz.underlying153
  a76:=Tryz.isAgg153
  z76:=Tryz.sizeOf153
  v76:=Tryz.zeroValue153
  t109:=Tryz.underlying144
  a109:=Tryz.isAgg144
  z109:=Tryz.sizeOf144
  v109:=Tryz.zeroValue144
  t127:=Tryz.underlying193
  a127:=Tryz.isAgg193
  z127:=Tryz.sizeOf193
  v127:=Tryz.zeroValue193
  t146:=Tryz.underlying189
  a146:=Tryz.isAgg189
  z146:=Tryz.sizeOf189
  v146:=Tryz.zeroValue189
  t148:=Tryz.underlying191
  a148:=Tryz.isAgg191
  z148:=Tryz.sizeOf191
  v148:=Tryz.zeroValue191
  t164:=Tryz.underlying243
  a164:=Tryz.isAgg243
  z164:=Tryz.sizeOf243
  v164:=Tryz.zeroValue243 }
theorem Tryz.extra:Builder.Extra Tryz.prog Tryz.laysRepeat_ren where
  sizeBuilder:=by kernel_rfl
  liesBuilder:=by kernel_rfl
  t5:=Tryz.laysRepeat.t5
  a5:=Tryz.laysRepeat.a5
  z5:=Tryz.laysRepeat.z5
  v5:=Tryz.laysRepeat.v5
  infoByte:=by kernel_rfl
  cellsByte:=by kernel_rfl
  sizeByte:=by kernel_rfl
  neB5:=by decide
end Go.Proofs
namespace Go.Proofs.YtnpeokiboiclfaaGreat
open Go Go.RowKit
theorem repeat_rep (x:UInt8) (n:Nat):Go.Lib.repeatL (ByteArray.mk #[x]).data.toList n = List.replicate n x:=by
  have:=Go.Lib.repeatL_replicate x 1 n
  simpa using this
end Go.Proofs.YtnpeokiboiclfaaGreat
set_option linter.unusedVariables false
set_option linter.unusedSimpArgs false
set_option maxRecDepth 20000
namespace Go.Proofs.YtnpeokiboiclfaaGreat
open Go Go.RowKit
theorem c_Repeat (x:UInt8) (n:Nat) (w:World) (hn:n≤140737488355328):CF Tryz.prog 33 [.string ⟨#[x]⟩,.int .i64 (n:Int)] w (.string (toS (List.replicate n x.toNat))):=by
  have h:=Go.Proofs.Any.strings_Repeat Tryz.laysRepeat Tryz.extra ⟨#[x]⟩ n w om (by show 1*n≤_; omega)
  have e1:Tryz.laysRepeat_ren.f 105 = 33:=by kernel_rfl
  rw [e1] at h
  refine h.mono fun e w' ⟨he,hw⟩=>⟨?_,hw⟩
  rw [he,repeat_rep]
  unfold toS strOf
  rw [List.map_replicate,UInt8.ofNat_toNat]
def hbits:Nat→Nat
  | 1=>224
  | 2=>256
  | 3=>384
  | _=>512
def hsize:Nat→Nat
  | 1=>28
  | 2=>32
  | 3=>48
  | _=>64
def hblk:Nat→Nat
  | 1=>64
  | 2=>64
  | _=>128
def hiv:Nat→S8
  | 1=>iv224
  | 2=>iv256
  | 3=>iv384
  | _=>iv512
def hp:Nat→Hp
  | 1=>p256
  | 2=>p256
  | _=>p512
def hinit (k:Nat):ShS:=⟨hiv k,[],0⟩
def hsum (k:Nat) (s:ShS):List Nat:=(hp k).sum s (hbits k/8)
def hashL (k:Nat) (x:List Nat):List Nat:=hsum k ((hp k).write (hinit k) x)
theorem c_hof (k:Nat) (hk:k = 1∨k = 2∨k = 3∨k = 4) (w:World)  : CF Tryz.prog 68 [Iz k] w (.tuple #[.agg ([Iz (hbits k),Iz (hsize k),Iz (hblk k)]:List Value).toArray,.bool true]):=by
  refine KV (N:=18) (rs:=[.cell 2 140,.tmp 3]) [] Tryz.func68 rfl Tryz.ntmps68 Tryz.results68 (Nb rfl) trivial rfl ?_
  refine KB ?_
  rcases hk with rfl|rfl|rfl|rfl
  ·
   refine KA (oS (mk (KK zr_140) (fun b2=>?_)));refine oA (KC (KB (KB (KA (oM (KC (LCode.block (KB (KA ?_)))))))));refine oP (bT rfl rfl (Ku (b:=1)) (rfl)) (oA (KC ?_));refine KS rfl (KB (KA (oP (KX pl_140 zr_140 rfl (fT (r':=([Iz 224]++([Iz 28]++([Iz 64])))) (fS (A:=([]:List Value)) (B:=([Iz 0])) (D:=([Iz 0]++([Iz 0]))) (cs:=[Iz 224]) (fS (A:=([Iz 224])) (B:=([Iz 0])) (D:=([Iz 0])) (cs:=[Iz 28]) (fS (A:=([Iz 224]++([Iz 28]))) (B:=([Iz 0])) (D:=([]:List Value)) (cs:=[Iz 64]) rfl))))) ?_)));refine oT rfl rfl sz_140 ?_;refine oA (KC (KN ?_));refine eN (.cons ⟨_,_,_,rfl,mM,by exact KD u140 rfl sz_140⟩ (.cons rfl .nil)) ?_
   rfl
  ·
   refine KA (oS (mk (KK zr_140) (fun b2=>?_)));refine oA (KC (KB (KB (KA (oM (KC (LCode.block (KB (KA ?_)))))))));refine oP (bF rfl rfl (Ku (b:=1)) dc) (oA (KC ?_));refine KH rfl (KB (KA (oP (bT rfl rfl (Ku (b:=2)) (rfl)) (oA (KC ?_)))));refine KS rfl (KB (KA (oP (KX pl_140 zr_140 rfl (fT (r':=([Iz 256]++([Iz 32]++([Iz 64])))) (fS (A:=([]:List Value)) (B:=([Iz 0])) (D:=([Iz 0]++([Iz 0]))) (cs:=[Iz 256]) (fS (A:=([Iz 256])) (B:=([Iz 0])) (D:=([Iz 0])) (cs:=[Iz 32]) (fS (A:=([Iz 256]++([Iz 32]))) (B:=([Iz 0])) (D:=([]:List Value)) (cs:=[Iz 64]) rfl))))) ?_)));refine oT rfl rfl sz_140 ?_;refine oA (KC (KN ?_));refine eN (.cons ⟨_,_,_,rfl,mM,by exact KD u140 rfl sz_140⟩ (.cons rfl .nil)) ?_
   rfl
  ·
   refine KA (oS (mk (KK zr_140) (fun b2=>?_)));refine oA (KC (KB (KB (KA (oM (KC (LCode.block (KB (KA ?_)))))))));refine oP (bF rfl rfl (Ku (b:=1)) dc) (oA (KC ?_));refine KH rfl (KB (KA (oP (bF rfl rfl (Ku (b:=2)) dc) (oA (KC ?_)))));refine KH rfl (KB (KA (oP (bT rfl rfl (Ku (b:=3)) (rfl)) (oA (KC ?_)))));refine KS rfl (KB (KA (oP (KX pl_140 zr_140 rfl (fT (r':=([Iz 384]++([Iz 48]++([Iz 128])))) (fS (A:=([]:List Value)) (B:=([Iz 0])) (D:=([Iz 0]++([Iz 0]))) (cs:=[Iz 384]) (fS (A:=([Iz 384])) (B:=([Iz 0])) (D:=([Iz 0])) (cs:=[Iz 48]) (fS (A:=([Iz 384]++([Iz 48]))) (B:=([Iz 0])) (D:=([]:List Value)) (cs:=[Iz 128]) rfl))))) ?_)));refine oT rfl rfl sz_140 ?_;refine oA (KC (KN ?_));refine eN (.cons ⟨_,_,_,rfl,mM,by exact KD u140 rfl sz_140⟩ (.cons rfl .nil)) ?_
   rfl
  refine KA (oS (mk (KK zr_140) (fun b2=>?_)));refine oA (KC (KB (KB (KA (oM (KC (LCode.block (KB (KA ?_)))))))));refine oP (bF rfl rfl (Ku (b:=1)) dc) (oA (KC ?_));refine KH rfl (KB (KA (oP (bF rfl rfl (Ku (b:=2)) dc) (oA (KC ?_)))));refine KH rfl (KB (KA (oP (bF rfl rfl (Ku (b:=3)) dc) (oA (KC ?_)))));refine KH rfl (KB (KA (oP (bT rfl rfl (Ku (b:=4)) (rfl)) (oA (KC ?_)))));refine KS rfl (KB (KA (oP (KX pl_140 zr_140 rfl (fT (r':=([Iz 512]++([Iz 64]++([Iz 128])))) (fS (A:=([]:List Value)) (B:=([Iz 0])) (D:=([Iz 0]++([Iz 0]))) (cs:=[Iz 512]) (fS (A:=([Iz 512])) (B:=([Iz 0])) (D:=([Iz 0])) (cs:=[Iz 64]) (fS (A:=([Iz 512]++([Iz 64]))) (B:=([Iz 0])) (D:=([]:List Value)) (cs:=[Iz 128]) rfl))))) ?_)));refine oT rfl rfl sz_140 ?_;refine oA (KC (KN ?_));refine eN (.cons ⟨_,_,_,rfl,mM,by exact KD u140 rfl sz_140⟩ (.cons rfl .nil)) ?_
  rfl
theorem c_hSize (k:Nat) (hk:k = 1∨k = 2∨k = 3∨k = 4) (w:World)  : CF Tryz.prog 31 [Iz k] w (Iz (hsize k)):=by
  refine KV (N:=12) (rs:=[.tmp 2]) [] Tryz.func31 rfl Tryz.ntmps31 Tryz.results31 (Nb rfl) trivial rfl ?_
  refine KB (KA (oP (KO (v:=Iz 0) rfl) (KC (KB (KA (oM ?_))))));refine oS (cF rfl en_68 rfl (fun w hw=>c_hof k hk w) ?_);refine oM ?_;refine oX ?_;refine oX ?_;refine oS (mk (KK zr_140) (fun b3=>?_));refine oT rfl rfl sz_140 ?_;refine oA (KC (KB (KA ?_)));refine oP (KE (o':=1) u140 rfl rfl rfl sz_3 dc) (oD (dL rfl (hv:=KI u3 rfl gL)) ?_);refine oA (KC (KN ?_));refine eN (.cons rfl .nil) ?_
  rfl
theorem c_hBlock (k:Nat) (hk:k = 1∨k = 2∨k = 3∨k = 4) (w:World)  : CF Tryz.prog 192 [Iz k] w (Iz (hblk k)):=by
  refine KV (N:=12) (rs:=[.tmp 2]) [] Tryz.func192 rfl Tryz.ntmps192 Tryz.results192 (Nb rfl) trivial rfl ?_
  refine KB (KA (oP (KO (v:=Iz 0) rfl) (KC (KB (KA (oM ?_))))));refine oS (cF rfl en_68 rfl (fun w hw=>c_hof k hk w) ?_);refine oM ?_;refine oX ?_;refine oX ?_;refine oS (mk (KK zr_140) (fun b3=>?_));refine oT rfl rfl sz_140 ?_;refine oA (KC (KB (KA ?_)));refine oP (KE (o':=2) u140 rfl rfl rfl sz_3 dc) (oD (dL rfl (hv:=KI u3 rfl gL)) ?_);refine oA (KC (KN ?_));refine eN (.cons rfl .nil) ?_
  rfl
theorem c_bind256 (b:Nat) (w:World) (hH:∀ x,x∈([]++[]:List Item)→x.holds w) (hd:([]++[]:List Item).Pairwise Apart)  : Calls Tryz.prog 171 ([Pz b,.func (.func 172) #[] #[],.func (.func 173) #[] #[]]:List Value).toArray w (fun e w'=>∃ (u:Value) (x':Item) (y':Item) (z':Item),(∃ hb wb sb,u = .tuple #[.func (.func 196) #[] #[Pz wb,Pz hb],.func (.func 197) #[] #[Pz sb,Pz hb]]∧x' = .blk hb ⟨true,[Pz b],255,(0,0)⟩∧y' = .blk wb ⟨true,[.func (.func 172) #[] #[]],260,(0,0)⟩∧z' = .blk sb ⟨true,[.func (.func 173) #[] #[]],261,(0,0)⟩)∧e = .returned u∧Outcome w [] [x',y',z'] w'):=by
  refine KAO [] (N:=10) (rs:=[.tmp 6,.tmp 7]) Tryz.func171 rfl Tryz.ntmps171 Tryz.results171 (Nb rfl) hH hd rfl rfl ?_
  refine KB (KA (oS (mk (KDA rfl rfl) (fun b3=>?_))));refine oS (mk (KDA rfl rfl) (fun b4=>?_));refine oS (mk (KDA rfl rfl) (fun b5=>?_));refine oA (oA (KC (KB (KA ?_))));refine oP (KCk rfl rfl) (oP (KCk rfl rfl) (oA (oA (KC (KN ?_)))));refine ⟨[_,_],.cons rfl (.cons rfl .nil),fun a w' hr=>⟨_,_,_,_,⟨b3,b4,b5,rfl,rfl,rfl,rfl⟩,rfl,hr.out mS rfl⟩⟩
theorem c_bw256 (size n:Nat) (h:S8) (rest:List Nat) (r:BsRow) (b wb hb:Nat) (s:ByteArray) (hrl:rest.length≤64) (hs:s.size≤140737488351232) (w:World) (hH:∀ x,x∈([.blk b ⟨true,shL .u32 p256 size (h.at) (bsV r rest.length) (n),302,(0,0)⟩,bsI 5 r rest]++[.blk wb ⟨false,[.func (.func 172) #[] #[]],260,(0,0)⟩,.blk hb ⟨false,[Pz b],255,(0,0)⟩]:List Item)→x.holds w) (hd:([.blk b ⟨true,shL .u32 p256 size (h.at) (bsV r rest.length) (n),302,(0,0)⟩,bsI 5 r rest]++[.blk wb ⟨false,[.func (.func 172) #[] #[]],260,(0,0)⟩,.blk hb ⟨false,[Pz b],255,(0,0)⟩]:List Item).Pairwise Apart)  : Calls Tryz.prog 196 ([.string s,Pz wb,Pz hb]:List Value).toArray w (fun e w'=>∃ (u:Value) (x':Item) (y':Item),(∃ r',u = Iz 0∧x' = .blk b ⟨true,shL .u32 p256 size ((p256.write ⟨h,rest,n⟩ (ofS s)).h.at) (bsV r' (p256.write ⟨h,rest,n⟩ (ofS s)).rest.length) ((p256.write ⟨h,rest,n⟩ (ofS s)).n),302,(0,0)⟩∧y' = bsI 5 r' (p256.write ⟨h,rest,n⟩ (ofS s)).rest)∧e = .returned u∧Outcome w [.blk b ⟨true,shL .u32 p256 size (h.at) (bsV r rest.length) (n),302,(0,0)⟩,bsI 5 r rest] [x',y'] w'):=by
  refine KAO [.blk b ⟨true,shL .u32 p256 size (h.at) (bsV r rest.length) (n),302,(0,0)⟩,bsI 5 r rest,.blk wb ⟨false,[.func (.func 172) #[] #[]],260,(0,0)⟩,.blk hb ⟨false,[Pz b],255,(0,0)⟩] (N:=9) (rs:=[.tmp 4]) Tryz.func196 rfl Tryz.ntmps196 Tryz.results196 (Nb rfl) hH hd rfl rfl ?_
  refine KB (KA (oP (KO (v:=Iz 0) rfl) (KC (KB (KA (oD (dL rfl (hv:=KI u260 rfl gL)) ?_))))));refine oD (dL rfl (hv:=KI u255 rfl gL)) ?_;refine oM ?_;refine LOps.step rfl (KAJ (first:=[]) (caps:=[]) rfl en_172 rfl (Nb rfl) sR wK (fun w hH hd=>c_shaWrite256 size n h rest r b s hrl hs w hH hd) ?_)
  rintro _ _ _ ⟨r2,rfl,rfl,rfl⟩
  refine oA (KC (KN ?_));refine ⟨[_],.cons rfl .nil,fun a w' hr=>⟨_,_,_,⟨r2,rfl,rfl,rfl⟩,rfl,hr.out mS rfl⟩⟩
theorem c_bs256 (size n:Nat) (h:S8) (rest:List Nat) (r:BsRow) (b sb hb:Nat) (hrl:rest.length<64) (hsz:size/8≤32) (hsz2:size<1000) (w:World) (h1:(Item.blk b ⟨false,shL .u32 p256 size (h.at) (bsV r rest.length) (n),302,(0,0)⟩).holds w) (h2:(roI 5 r rest).holds w) (h3:(Item.blk sb ⟨false,[.func (.func 173) #[] #[]],261,(0,0)⟩).holds w) (h4:(Item.blk hb ⟨false,[Pz b],255,(0,0)⟩).holds w):CF Tryz.prog 197 [Pz sb,Pz hb] w (.string (toS (p256.sum ⟨h,rest,n⟩ (size/8)))):=by
  refine KV (N:=6) (rs:=[.tmp 2]) [.blk b ⟨false,shL .u32 p256 size (h.at) (bsV r rest.length) (n),302,(0,0)⟩,roI 5 r rest,.blk sb ⟨false,[.func (.func 173) #[] #[]],261,(0,0)⟩,.blk hb ⟨false,[Pz b],255,(0,0)⟩] Tryz.func197 rfl Tryz.ntmps197 Tryz.results197 (Nb rfl) ⟨h1,h2,h3,h4,trivial⟩ rfl ?_
  refine KB (KA (oA (KC (KB (KA ?_)))));refine oD (dL rfl (hv:=KI u261 rfl gL)) ?_;refine oD (dL rfl (hv:=KI u255 rfl gL)) ?_;refine oS (cF rfl en_173 rfl (fun w hw=>c_shaSum256 size n h rest r b hrl hsz hsz2 w (mC hw) (mC hw)) ?_);refine oA (KC (KN ?_));refine eN (.cons rfl .nil) ?_
  rfl
def strX256 (m:Nat×Nat×Nat×Nat×Nat) (sz:Nat) (r:BsRow) (st:ShS):List Item:=[.blk m.1 ⟨true,[.func (.func 196) #[] #[Pz m.2.1,Pz m.2.2.2.1],.func (.func 197) #[] #[Pz m.2.2.1,Pz m.2.2.2.1]],254,(0,0)⟩,.blk m.2.1 ⟨true,[.func (.func 172) #[] #[]],260,(0,0)⟩,.blk m.2.2.1 ⟨true,[.func (.func 173) #[] #[]],261,(0,0)⟩,.blk m.2.2.2.1 ⟨true,[Pz m.2.2.2.2],255,(0,0)⟩,.blk m.2.2.2.2 ⟨true,shL .u32 p256 sz (st.h.at) (bsV r st.rest.length) (st.n),302,(0,0)⟩,bsI 5 r st.rest]
def KCE (m:Nat×Nat×Nat×Nat×Nat) (sz:Nat) (r:BsRow) (st:ShS):Item:=gpI (strX256 m sz r st)
def strR256 (m:Nat×Nat×Nat×Nat×Nat) (sz:Nat) (r:BsRow) (st:ShS):Item:=.fact (KCE m sz r st).fp (fun w=>(∀ x,x∈strX256 m sz r st→x.holds w)∧(strX256 m sz r st).Pairwise Apart)
theorem c_stWrite256 (m:Nat×Nat×Nat×Nat×Nat) (sz:Nat) (r:BsRow) (s:ShS) (x:ByteArray) (hrl:s.rest.length≤64) (hs:x.size≤140737488351232) (w:World) (hH:∀ x,x∈([KCE m sz r s]++[]:List Item)→x.holds w) (hd:([KCE m sz r s]++[]:List Item).Pairwise Apart)  : Calls Tryz.prog 136 ([Pz m.1,.string x]:List Value).toArray w (fun e w'=>∃ (u:Value) (x':Item),(∃ r',u = Iz 0∧x' = KCE m sz r' (p256.write s (ofS x)))∧e = .returned u∧Outcome w [KCE m sz r s] [x'] w'):=by
  refine KAO [KCE m sz r s] (N:=20) (rs:=[.tmp 4]) Tryz.func136 rfl Tryz.ntmps136 Tryz.results136 (Nb rfl) hH hd rfl rfl ?_
  refine KB (LCode.opn (strX256 m sz r s) (L:=[.blk m.1 ⟨true,[.func (.func 196) #[] #[Pz m.2.1,Pz m.2.2.2.1],.func (.func 197) #[] #[Pz m.2.2.1,Pz m.2.2.2.1]],254,(0,0)⟩,.blk m.2.1 ⟨true,[.func (.func 172) #[] #[]],260,(0,0)⟩,.blk m.2.2.1 ⟨true,[.func (.func 173) #[] #[]],261,(0,0)⟩,.blk m.2.2.2.1 ⟨true,[Pz m.2.2.2.2],255,(0,0)⟩,.blk m.2.2.2.2 ⟨true,shL .u32 p256 sz (s.h.at) (bsV r s.rest.length) (s.n),302,(0,0)⟩,bsI 5 r s.rest]) sR rfl rfl ?_);refine KA (oP (KO (v:=Iz 0) rfl) (KC (KB (KB (KA (oM ?_))))));refine oP (KAI u207 rfl rfl) (oM ?_);refine oGM ?_;refine oGP (KF rfl) (oGP (KE (o':=0) u254 rfl rfl rfl sz_251 dc) (Kt rfl rfl (dL rfl (hv:=KI u251 rfl gL)) (Nb rfl) ?_));refine oGP (Det.eqfn u251 rfl rfl) (oP (KT rfl rfl) (KC (KH rfl (KM (KB (KA (oM ?_)))))));refine oP (KF rfl) (oP (KE (o':=0) u254 rfl rfl rfl sz_251 dc) (oD (dL rfl (hv:=KI u251 rfl gL)) ?_))
  refine oM ?_;refine LOps.step rfl (KAJ (first:=[]) (caps:=[Pz m.2.1,Pz m.2.2.2.1]) rfl en_196 rfl (Nb rfl) sR wK (fun w hH hd=>c_bw256 sz s.n s.h s.rest r m.2.2.2.2 m.2.1 m.2.2.2.1 x hrl hs w hH hd) ?_)
  rintro _ _ _ ⟨r2,rfl,rfl,rfl⟩
  refine LOps.cls (strX256 m sz r2 (p256.write s (ofS x))) sR rfl ?_;refine oA (KC (KN ?_));refine ⟨[_],.cons rfl .nil,fun a w' hr=>⟨_,_,⟨r2,rfl,rfl⟩,rfl,hr.out mS rfl⟩⟩
theorem c_stSum256 (m:Nat×Nat×Nat×Nat×Nat) (sz:Nat) (r:BsRow) (s:ShS) (hrl:s.rest.length<64) (hsz:sz/8≤32) (hsz2:sz<1000) (w:World) (hS:(strR256 m sz r s).holds w):CF Tryz.prog 137 [Pz m.1] w (.string (toS (p256.sum s (sz/8)))):=by
  have hg:=(gpI_P (X:=strX256 m sz r s) hS).1
  have g1:=hg _ (List.Mem.head _)
  have g2:=hg _ (List.Mem.tail _ (List.Mem.head _))
  have g3:=hg _ (List.Mem.tail _ (List.Mem.tail _ (List.Mem.head _)))
  have g4:=hg _ (List.Mem.tail _ (List.Mem.tail _ (List.Mem.tail _ (List.Mem.head _))))
  have g5:=hg _ (List.Mem.tail _ (List.Mem.tail _ (List.Mem.tail _ (List.Mem.tail _ (List.Mem.head _)))))
  have g6:=hg _ (List.Mem.tail _ (List.Mem.tail _ (List.Mem.tail _ (List.Mem.tail _ (List.Mem.tail _ (List.Mem.head _))))))
  refine KV (N:=17) (rs:=[.tmp 2]) [.blk m.1 ⟨false,[.func (.func 196) #[] #[Pz m.2.1,Pz m.2.2.2.1],.func (.func 197) #[] #[Pz m.2.2.1,Pz m.2.2.2.1]],254,(0,0)⟩,.blk m.2.1 ⟨false,[.func (.func 172) #[] #[]],260,(0,0)⟩,.blk m.2.2.1 ⟨false,[.func (.func 173) #[] #[]],261,(0,0)⟩,.blk m.2.2.2.1 ⟨false,[Pz m.2.2.2.2],255,(0,0)⟩,.blk m.2.2.2.2 ⟨false,shL .u32 p256 sz (s.h.at) (bsV r s.rest.length) (s.n),302,(0,0)⟩,roI 5 r s.rest] Tryz.func137 rfl Tryz.ntmps137 Tryz.results137 (Nb rfl) ⟨g1,g2,g3,g4,g5,g6,trivial⟩ rfl ?_
  refine KB (KA (oA (KC (KB (KB (KA (oM ?_)))))));refine oP (KAI u207 rfl rfl) (oM ?_);refine oGM ?_;refine oGP (KF rfl) (oGP (KE (o':=1) u254 rfl rfl rfl sz_252 dc) (Kt rfl rfl (dL rfl (hv:=KI u252 rfl gL)) (Nb rfl) ?_));refine oGP (Det.eqfn u252 rfl rfl) (oP (KT rfl rfl) (KC (KH rfl (KM (KB (KA (oM ?_)))))));refine oP (KF rfl) (oP (KE (o':=1) u254 rfl rfl rfl sz_252 dc) (oD (dL rfl (hv:=KI u252 rfl gL)) ?_));refine oS (LStep.callC (caps:=[Pz m.2.2.1,Pz m.2.2.2.1]) rfl en_197 rfl (Nb rfl) (fun w hw=>c_bs256 sz s.n s.h s.rest r m.2.2.2.2 m.2.2.1 m.2.2.2.1 hrl hsz hsz2 w (mC hw) (mC hw) (mC hw) (mC hw)) ?_);refine oA (KC (KN ?_));refine eN (.cons rfl .nil) ?_
  rfl
theorem c_shaNewK256 (k:Nat) (hk:k = 1∨k = 2) (w:World) (hH:∀ x,x∈([]++[]:List Item)→x.holds w) (hd:([]++[]:List Item).Pairwise Apart):Calls Tryz.prog 170 ([Iz (hbits k)]:List Value).toArray w (fun e w'=>∃ (u:Value) (x':Item),(∃ b,u = .tuple #[Pz b,Iz 0]∧x' = .blk b ⟨true,shL .u32 p256 (hbits k) (S8.at (hiv k)) (.slice none 0 0) (0),302,(0,0)⟩)∧e = .returned u∧Outcome w [] [x'] w'):=by
  rcases hk with rfl|rfl
  · exact c_shaNew224 w hH hd
  · exact c_shaNew256 w hH hd
theorem c_hNew256 (k:Nat) (hk:k = 1∨k = 2) (w:World) (hH:∀ x,x∈([]++[]:List Item)→x.holds w) (hd:([]++[]:List Item).Pairwise Apart)  : Calls Tryz.prog 135 ([Iz k]:List Value).toArray w (fun e w'=>∃ (u:Value) (x':Item),(∃ m:Nat×Nat×Nat×Nat×Nat,u = .tuple #[Pz m.1,Iz 0]∧x' = KCE m (hbits k) none (hinit k))∧e = .returned u∧Outcome w [] [x'] w'):=by
  refine KAO [] (N:=58) (rs:=[.tmp 2,.tmp 3]) Tryz.func135 rfl Tryz.ntmps135 Tryz.results135 (Nb rfl) hH hd rfl rfl ?_
  refine KB (KA (oA ?_));refine oP (KO (v:=Iz 0) rfl) (KC (KB (KA (oM ?_))));refine oS (cF rfl en_68 rfl (fun w hw=>c_hof k om w) ?_);refine oM ?_;refine oX ?_;refine oX ?_;refine oS (mk (KK zr_140) (fun b4=>?_));refine oT rfl rfl sz_140 ?_;refine oA (KC (KB (KB (KA (oM ?_)))));refine oP (KJ (KAH rfl) (show _ = Value.bool false from rfl)) (KC (KH rfl (KM (KB (KA (oP (KX pl_254 zr_254 rfl rfl) (oS (mB (fun b19=>?_)))))))));refine oA (KC (KB (KB (KA ?_))));refine oP (KE (o':=2) u140 rfl rfl rfl sz_3 dc) (oD (dL rfl (hv:=KI u3 rfl gL)) ?_);refine oP (bT rfl rfl (Ku (b:=64)) (by rcases hk with rfl|rfl <;> rfl)) ?_;refine KC (KS rfl (KB (KA (oP (KE (o':=0) u140 rfl rfl rfl sz_3 dc) (oD (dL rfl (hv:=KI u3 rfl gL)) ?_)))));refine LOps.step rfl (Kg (first:=[]) (caps:=[]) (X:=[]) (RO:=[]) rfl en_170 rfl (Nb rfl) sR wK (fun w hH hd=>c_shaNewK256 k hk w hH hd) ?_)
  rintro _ _ ⟨hb0,rfl,rfl⟩
  refine oM ?_;refine oX ?_;refine oX ?_;refine oA (oA (KC (KA (oM (oM (oM ?_))))));refine LOps.step rfl (LStepW.callM3 (first:=[]) (caps:=[]) (X:=[]) (RO:=[]) rfl en_171 rfl (Nb rfl) sR wK (fun w hH hd=>c_bind256 hb0 w hH hd) ?_)
  rintro _ _ _ _ ⟨hb1,wb1,sb1,rfl,rfl,rfl,rfl⟩
  refine oM ?_;refine oX ?_;refine oX ?_;refine oP (KF rfl) (oP (KE (o':=0) u254 rfl rfl rfl sz_251 dc) (LOps.step rfl (KZ rfl rfl rfl sz_251 mT lT sT (by simp) ?_)));refine oP (KF rfl) (oP (KE (o':=1) u254 rfl rfl rfl sz_252 dc) (LOps.step rfl (KZ rfl rfl rfl sz_252 mT lT sT (by simp) ?_)));refine KC (KB (LCode.sub (Sub.add (x:=bsI 5 none []) (bsI_nil 5) rfl) ?_));refine LCode.cls (strX256 (b19,wb1,sb1,hb1,hb0) (hbits k) none (hinit k)) sR rfl ?_;refine KA (oM (oA ?_));refine oP (KO (v:=Iz 0) rfl) (KC (KN (⟨[_,_],.cons rfl (.cons rfl .nil),fun a w' hr=>⟨_,_,⟨(b19,wb1,sb1,hb1,hb0),rfl,rfl⟩,rfl,hr.out mS rfl⟩⟩)))
theorem c_hOf256 (k:Nat) (hk:k = 1∨k = 2) (s:ByteArray) (hs:s.size≤140737488351232) (w:World)  : CF Tryz.prog 85 [Iz k,.string s] w (.tuple #[.string (toS (hashL k (ofS s))),Iz 0]):=by
  have hpk:hp k = p256:=by rcases hk with rfl|rfl <;> rfl
  refine KV (N:=21) (rs:=[.tmp 4,.tmp 5]) [] Tryz.func85 rfl Tryz.ntmps85 Tryz.results85 (Nb rfl) trivial rfl ?_
  refine KB (KA (oA ?_));refine oP (KO (v:=Iz 0) rfl) (KC (KB (KA (oM ?_))));refine LOps.step rfl (Kg (first:=[]) (caps:=[]) (X:=[]) (RO:=[]) rfl en_135 rfl (Nb rfl) sR wK (fun w hH hd=>c_hNew256 k hk w hH hd) ?_)
  rintro _ _ ⟨m,rfl,rfl⟩
  refine oM ?_;refine oX ?_;refine oX ?_;refine oA (oA (KC (KB (KB (KA (oM ?_))))));refine oP (bF rfl rfl (KAn (b:=0)) dc) (KC (KH rfl (KM (KB (KA (oM (oM ?_)))))));refine LOps.step rfl (Kg (first:=[]) (caps:=[]) rfl en_136 rfl (Nb rfl) sR wK (fun w hH hd=>c_stWrite256 m (hbits k) none (hinit k) s (Nat.zero_le _) hs w hH hd) ?_)
  rintro _ _ ⟨r1,rfl,rfl⟩
  refine KC (KB (KA (oM ?_)));refine oS (cF rfl en_137 rfl (fun w hw=>c_stSum256 m (hbits k) r1 (p256.write (hinit k) (ofS s)) (p256.write_rest _ _ dc) (by rcases hk with rfl|rfl <;> decide) (by rcases hk with rfl|rfl <;> decide) w (show (strR256 m (hbits k) r1 (p256.write (hinit k) (ofS s))).holds w from hw (KCE m (hbits k) r1 (p256.write (hinit k) (ofS s))) mM)) ?_);refine oA ?_;refine oP (KO (v:=Iz 0) rfl) (KC (KN (eN (.cons rfl (.cons rfl .nil)) ?_)))
  unfold hashL hsum
  rw [hpk]
  rfl
theorem c_bind512 (b:Nat) (w:World) (hH:∀ x,x∈([]++[]:List Item)→x.holds w) (hd:([]++[]:List Item).Pairwise Apart)  : Calls Tryz.prog 175 ([Pz b,.func (.func 176) #[] #[],.func (.func 177) #[] #[]]:List Value).toArray w (fun e w'=>∃ (u:Value) (x':Item) (y':Item) (z':Item),(∃ hb wb sb,u = .tuple #[.func (.func 202) #[] #[Pz wb,Pz hb],.func (.func 203) #[] #[Pz sb,Pz hb]]∧x' = .blk hb ⟨true,[Pz b],262,(0,0)⟩∧y' = .blk wb ⟨true,[.func (.func 176) #[] #[]],266,(0,0)⟩∧z' = .blk sb ⟨true,[.func (.func 177) #[] #[]],267,(0,0)⟩)∧e = .returned u∧Outcome w [] [x',y',z'] w'):=by
  refine KAO [] (N:=10) (rs:=[.tmp 6,.tmp 7]) Tryz.func175 rfl Tryz.ntmps175 Tryz.results175 (Nb rfl) hH hd rfl rfl ?_
  refine KB (KA (oS (mk (KDA rfl rfl) (fun b3=>?_))));refine oS (mk (KDA rfl rfl) (fun b4=>?_));refine oS (mk (KDA rfl rfl) (fun b5=>?_));refine oA (oA (KC (KB (KA ?_))));refine oP (KCk rfl rfl) (oP (KCk rfl rfl) (oA (oA (KC (KN ?_)))));refine ⟨[_,_],.cons rfl (.cons rfl .nil),fun a w' hr=>⟨_,_,_,_,⟨b3,b4,b5,rfl,rfl,rfl,rfl⟩,rfl,hr.out mS rfl⟩⟩
theorem c_bw512 (size n:Nat) (h:S8) (rest:List Nat) (r:BsRow) (b wb hb:Nat) (s:ByteArray) (hrl:rest.length≤128) (hs:s.size≤140737488351232) (w:World) (hH:∀ x,x∈([.blk b ⟨true,shL .u64 p512 size (h.at) (bsV r rest.length) (n),311,(0,0)⟩,bsI 5 r rest]++[.blk wb ⟨false,[.func (.func 176) #[] #[]],266,(0,0)⟩,.blk hb ⟨false,[Pz b],262,(0,0)⟩]:List Item)→x.holds w) (hd:([.blk b ⟨true,shL .u64 p512 size (h.at) (bsV r rest.length) (n),311,(0,0)⟩,bsI 5 r rest]++[.blk wb ⟨false,[.func (.func 176) #[] #[]],266,(0,0)⟩,.blk hb ⟨false,[Pz b],262,(0,0)⟩]:List Item).Pairwise Apart)  : Calls Tryz.prog 202 ([.string s,Pz wb,Pz hb]:List Value).toArray w (fun e w'=>∃ (u:Value) (x':Item) (y':Item),(∃ r',u = Iz 0∧x' = .blk b ⟨true,shL .u64 p512 size ((p512.write ⟨h,rest,n⟩ (ofS s)).h.at) (bsV r' (p512.write ⟨h,rest,n⟩ (ofS s)).rest.length) ((p512.write ⟨h,rest,n⟩ (ofS s)).n),311,(0,0)⟩∧y' = bsI 5 r' (p512.write ⟨h,rest,n⟩ (ofS s)).rest)∧e = .returned u∧Outcome w [.blk b ⟨true,shL .u64 p512 size (h.at) (bsV r rest.length) (n),311,(0,0)⟩,bsI 5 r rest] [x',y'] w'):=by
  refine KAO [.blk b ⟨true,shL .u64 p512 size (h.at) (bsV r rest.length) (n),311,(0,0)⟩,bsI 5 r rest,.blk wb ⟨false,[.func (.func 176) #[] #[]],266,(0,0)⟩,.blk hb ⟨false,[Pz b],262,(0,0)⟩] (N:=9) (rs:=[.tmp 4]) Tryz.func202 rfl Tryz.ntmps202 Tryz.results202 (Nb rfl) hH hd rfl rfl ?_
  refine KB (KA (oP (KO (v:=Iz 0) rfl) (KC (KB (KA (oD (dL rfl (hv:=KI u266 rfl gL)) ?_))))));refine oD (dL rfl (hv:=KI u262 rfl gL)) ?_;refine oM ?_;refine LOps.step rfl (KAJ (first:=[]) (caps:=[]) rfl en_176 rfl (Nb rfl) sR wK (fun w hH hd=>c_shaWrite512 size n h rest r b s hrl hs w hH hd) ?_)
  rintro _ _ _ ⟨r2,rfl,rfl,rfl⟩
  refine oA (KC (KN ?_));refine ⟨[_],.cons rfl .nil,fun a w' hr=>⟨_,_,_,⟨r2,rfl,rfl,rfl⟩,rfl,hr.out mS rfl⟩⟩
theorem c_bs512 (size n:Nat) (h:S8) (rest:List Nat) (r:BsRow) (b sb hb:Nat) (hrl:rest.length<128) (hsz:size/8≤64) (hsz2:size<1000) (w:World) (h1:(Item.blk b ⟨false,shL .u64 p512 size (h.at) (bsV r rest.length) (n),311,(0,0)⟩).holds w) (h2:(roI 5 r rest).holds w) (h3:(Item.blk sb ⟨false,[.func (.func 177) #[] #[]],267,(0,0)⟩).holds w) (h4:(Item.blk hb ⟨false,[Pz b],262,(0,0)⟩).holds w):CF Tryz.prog 203 [Pz sb,Pz hb] w (.string (toS (p512.sum ⟨h,rest,n⟩ (size/8)))):=by
  refine KV (N:=6) (rs:=[.tmp 2]) [.blk b ⟨false,shL .u64 p512 size (h.at) (bsV r rest.length) (n),311,(0,0)⟩,roI 5 r rest,.blk sb ⟨false,[.func (.func 177) #[] #[]],267,(0,0)⟩,.blk hb ⟨false,[Pz b],262,(0,0)⟩] Tryz.func203 rfl Tryz.ntmps203 Tryz.results203 (Nb rfl) ⟨h1,h2,h3,h4,trivial⟩ rfl ?_
  refine KB (KA (oA (KC (KB (KA ?_)))));refine oD (dL rfl (hv:=KI u267 rfl gL)) ?_;refine oD (dL rfl (hv:=KI u262 rfl gL)) ?_;refine oS (cF rfl en_177 rfl (fun w hw=>c_shaSum512 size n h rest r b hrl hsz hsz2 w (mC hw) (mC hw)) ?_);refine oA (KC (KN ?_));refine eN (.cons rfl .nil) ?_
  rfl
def strX512 (m:Nat×Nat×Nat×Nat×Nat) (sz:Nat) (r:BsRow) (st:ShS):List Item:=[.blk m.1 ⟨true,[.func (.func 202) #[] #[Pz m.2.1,Pz m.2.2.2.1],.func (.func 203) #[] #[Pz m.2.2.1,Pz m.2.2.2.1]],254,(0,0)⟩,.blk m.2.1 ⟨true,[.func (.func 176) #[] #[]],266,(0,0)⟩,.blk m.2.2.1 ⟨true,[.func (.func 177) #[] #[]],267,(0,0)⟩,.blk m.2.2.2.1 ⟨true,[Pz m.2.2.2.2],262,(0,0)⟩,.blk m.2.2.2.2 ⟨true,shL .u64 p512 sz (st.h.at) (bsV r st.rest.length) (st.n),311,(0,0)⟩,bsI 5 r st.rest]
def KCD (m:Nat×Nat×Nat×Nat×Nat) (sz:Nat) (r:BsRow) (st:ShS):Item:=gpI (strX512 m sz r st)
def strR512 (m:Nat×Nat×Nat×Nat×Nat) (sz:Nat) (r:BsRow) (st:ShS):Item:=.fact (KCD m sz r st).fp (fun w=>(∀ x,x∈strX512 m sz r st→x.holds w)∧(strX512 m sz r st).Pairwise Apart)
theorem c_stWrite512 (m:Nat×Nat×Nat×Nat×Nat) (sz:Nat) (r:BsRow) (s:ShS) (x:ByteArray) (hrl:s.rest.length≤128) (hs:x.size≤140737488351232) (w:World) (hH:∀ x,x∈([KCD m sz r s]++[]:List Item)→x.holds w) (hd:([KCD m sz r s]++[]:List Item).Pairwise Apart)  : Calls Tryz.prog 136 ([Pz m.1,.string x]:List Value).toArray w (fun e w'=>∃ (u:Value) (x':Item),(∃ r',u = Iz 0∧x' = KCD m sz r' (p512.write s (ofS x)))∧e = .returned u∧Outcome w [KCD m sz r s] [x'] w'):=by
  refine KAO [KCD m sz r s] (N:=20) (rs:=[.tmp 4]) Tryz.func136 rfl Tryz.ntmps136 Tryz.results136 (Nb rfl) hH hd rfl rfl ?_
  refine KB (LCode.opn (strX512 m sz r s) (L:=[.blk m.1 ⟨true,[.func (.func 202) #[] #[Pz m.2.1,Pz m.2.2.2.1],.func (.func 203) #[] #[Pz m.2.2.1,Pz m.2.2.2.1]],254,(0,0)⟩,.blk m.2.1 ⟨true,[.func (.func 176) #[] #[]],266,(0,0)⟩,.blk m.2.2.1 ⟨true,[.func (.func 177) #[] #[]],267,(0,0)⟩,.blk m.2.2.2.1 ⟨true,[Pz m.2.2.2.2],262,(0,0)⟩,.blk m.2.2.2.2 ⟨true,shL .u64 p512 sz (s.h.at) (bsV r s.rest.length) (s.n),311,(0,0)⟩,bsI 5 r s.rest]) sR rfl rfl ?_);refine KA (oP (KO (v:=Iz 0) rfl) (KC (KB (KB (KA (oM ?_))))));refine oP (KAI u207 rfl rfl) (oM ?_);refine oGM ?_;refine oGP (KF rfl) (oGP (KE (o':=0) u254 rfl rfl rfl sz_251 dc) (Kt rfl rfl (dL rfl (hv:=KI u251 rfl gL)) (Nb rfl) ?_));refine oGP (Det.eqfn u251 rfl rfl) (oP (KT rfl rfl) (KC (KH rfl (KM (KB (KA (oM ?_)))))));refine oP (KF rfl) (oP (KE (o':=0) u254 rfl rfl rfl sz_251 dc) (oD (dL rfl (hv:=KI u251 rfl gL)) ?_))
  refine oM ?_;refine LOps.step rfl (KAJ (first:=[]) (caps:=[Pz m.2.1,Pz m.2.2.2.1]) rfl en_202 rfl (Nb rfl) sR wK (fun w hH hd=>c_bw512 sz s.n s.h s.rest r m.2.2.2.2 m.2.1 m.2.2.2.1 x hrl hs w hH hd) ?_)
  rintro _ _ _ ⟨r2,rfl,rfl,rfl⟩
  refine LOps.cls (strX512 m sz r2 (p512.write s (ofS x))) sR rfl ?_;refine oA (KC (KN ?_));refine ⟨[_],.cons rfl .nil,fun a w' hr=>⟨_,_,⟨r2,rfl,rfl⟩,rfl,hr.out mS rfl⟩⟩
theorem c_stSum512 (m:Nat×Nat×Nat×Nat×Nat) (sz:Nat) (r:BsRow) (s:ShS) (hrl:s.rest.length<128) (hsz:sz/8≤64) (hsz2:sz<1000) (w:World) (hS:(strR512 m sz r s).holds w):CF Tryz.prog 137 [Pz m.1] w (.string (toS (p512.sum s (sz/8)))):=by
  have hg:=(gpI_P (X:=strX512 m sz r s) hS).1
  have g1:=hg _ (List.Mem.head _)
  have g2:=hg _ (List.Mem.tail _ (List.Mem.head _))
  have g3:=hg _ (List.Mem.tail _ (List.Mem.tail _ (List.Mem.head _)))
  have g4:=hg _ (List.Mem.tail _ (List.Mem.tail _ (List.Mem.tail _ (List.Mem.head _))))
  have g5:=hg _ (List.Mem.tail _ (List.Mem.tail _ (List.Mem.tail _ (List.Mem.tail _ (List.Mem.head _)))))
  have g6:=hg _ (List.Mem.tail _ (List.Mem.tail _ (List.Mem.tail _ (List.Mem.tail _ (List.Mem.tail _ (List.Mem.head _))))))
  refine KV (N:=17) (rs:=[.tmp 2]) [.blk m.1 ⟨false,[.func (.func 202) #[] #[Pz m.2.1,Pz m.2.2.2.1],.func (.func 203) #[] #[Pz m.2.2.1,Pz m.2.2.2.1]],254,(0,0)⟩,.blk m.2.1 ⟨false,[.func (.func 176) #[] #[]],266,(0,0)⟩,.blk m.2.2.1 ⟨false,[.func (.func 177) #[] #[]],267,(0,0)⟩,.blk m.2.2.2.1 ⟨false,[Pz m.2.2.2.2],262,(0,0)⟩,.blk m.2.2.2.2 ⟨false,shL .u64 p512 sz (s.h.at) (bsV r s.rest.length) (s.n),311,(0,0)⟩,roI 5 r s.rest] Tryz.func137 rfl Tryz.ntmps137 Tryz.results137 (Nb rfl) ⟨g1,g2,g3,g4,g5,g6,trivial⟩ rfl ?_
  refine KB (KA (oA (KC (KB (KB (KA (oM ?_)))))));refine oP (KAI u207 rfl rfl) (oM ?_);refine oGM ?_;refine oGP (KF rfl) (oGP (KE (o':=1) u254 rfl rfl rfl sz_252 dc) (Kt rfl rfl (dL rfl (hv:=KI u252 rfl gL)) (Nb rfl) ?_));refine oGP (Det.eqfn u252 rfl rfl) (oP (KT rfl rfl) (KC (KH rfl (KM (KB (KA (oM ?_)))))));refine oP (KF rfl) (oP (KE (o':=1) u254 rfl rfl rfl sz_252 dc) (oD (dL rfl (hv:=KI u252 rfl gL)) ?_));refine oS (LStep.callC (caps:=[Pz m.2.2.1,Pz m.2.2.2.1]) rfl en_203 rfl (Nb rfl) (fun w hw=>c_bs512 sz s.n s.h s.rest r m.2.2.2.2 m.2.2.1 m.2.2.2.1 hrl hsz hsz2 w (mC hw) (mC hw) (mC hw) (mC hw)) ?_);refine oA (KC (KN ?_));refine eN (.cons rfl .nil) ?_
  rfl
theorem c_shaNewK512 (k:Nat) (hk:k = 3∨k = 4) (w:World) (hH:∀ x,x∈([]++[]:List Item)→x.holds w) (hd:([]++[]:List Item).Pairwise Apart):Calls Tryz.prog 174 ([Iz (hbits k)]:List Value).toArray w (fun e w'=>∃ (u:Value) (x':Item),(∃ b,u = .tuple #[Pz b,Iz 0]∧x' = .blk b ⟨true,shL .u64 p512 (hbits k) (S8.at (hiv k)) (.slice none 0 0) (0),311,(0,0)⟩)∧e = .returned u∧Outcome w [] [x'] w'):=by
  rcases hk with rfl|rfl
  · exact c_shaNew384 w hH hd
  · exact c_shaNew512 w hH hd
theorem c_hNew512 (k:Nat) (hk:k = 3∨k = 4) (w:World) (hH:∀ x,x∈([]++[]:List Item)→x.holds w) (hd:([]++[]:List Item).Pairwise Apart)  : Calls Tryz.prog 135 ([Iz k]:List Value).toArray w (fun e w'=>∃ (u:Value) (x':Item),(∃ m:Nat×Nat×Nat×Nat×Nat,u = .tuple #[Pz m.1,Iz 0]∧x' = KCD m (hbits k) none (hinit k))∧e = .returned u∧Outcome w [] [x'] w'):=by
  refine KAO [] (N:=58) (rs:=[.tmp 2,.tmp 3]) Tryz.func135 rfl Tryz.ntmps135 Tryz.results135 (Nb rfl) hH hd rfl rfl ?_
  refine KB (KA (oA ?_));refine oP (KO (v:=Iz 0) rfl) (KC (KB (KA (oM ?_))));refine oS (cF rfl en_68 rfl (fun w hw=>c_hof k om w) ?_);refine oM ?_;refine oX ?_;refine oX ?_;refine oS (mk (KK zr_140) (fun b4=>?_));refine oT rfl rfl sz_140 ?_;refine oA (KC (KB (KB (KA (oM ?_)))));refine oP (KJ (KAH rfl) (show _ = Value.bool false from rfl)) (KC (KH rfl (KM (KB (KA (oP (KX pl_254 zr_254 rfl rfl) (oS (mB (fun b19=>?_)))))))));refine oA (KC (KB (KB (KA ?_))));refine oP (KE (o':=2) u140 rfl rfl rfl sz_3 dc) (oD (dL rfl (hv:=KI u3 rfl gL)) ?_);refine oP (bF rfl rfl (Ku (b:=64)) (by rcases hk with rfl|rfl <;> decide)) ?_;refine KC (KH rfl (KB (KA (oP (KE (o':=0) u140 rfl rfl rfl sz_3 dc) (oD (dL rfl (hv:=KI u3 rfl gL)) ?_)))));refine LOps.step rfl (Kg (first:=[]) (caps:=[]) (X:=[]) (RO:=[]) rfl en_174 rfl (Nb rfl) sR wK (fun w hH hd=>c_shaNewK512 k hk w hH hd) ?_)
  rintro _ _ ⟨hb0,rfl,rfl⟩
  refine oM ?_;refine oX ?_;refine oX ?_;refine oA (oA (KC (KA (oM (oM (oM ?_))))));refine LOps.step rfl (LStepW.callM3 (first:=[]) (caps:=[]) (X:=[]) (RO:=[]) rfl en_175 rfl (Nb rfl) sR wK (fun w hH hd=>c_bind512 hb0 w hH hd) ?_)
  rintro _ _ _ _ ⟨hb1,wb1,sb1,rfl,rfl,rfl,rfl⟩
  refine oM ?_;refine oX ?_;refine oX ?_;refine oP (KF rfl) (oP (KE (o':=0) u254 rfl rfl rfl sz_251 dc) (LOps.step rfl (KZ rfl rfl rfl sz_251 mT lT sT (by simp) ?_)));refine oP (KF rfl) (oP (KE (o':=1) u254 rfl rfl rfl sz_252 dc) (LOps.step rfl (KZ rfl rfl rfl sz_252 mT lT sT (by simp) ?_)));refine KC (KB (LCode.sub (Sub.add (x:=bsI 5 none []) (bsI_nil 5) rfl) ?_));refine LCode.cls (strX512 (b19,wb1,sb1,hb1,hb0) (hbits k) none (hinit k)) sR rfl ?_;refine KA (oM (oA ?_));refine oP (KO (v:=Iz 0) rfl) (KC (KN (⟨[_,_],.cons rfl (.cons rfl .nil),fun a w' hr=>⟨_,_,⟨(b19,wb1,sb1,hb1,hb0),rfl,rfl⟩,rfl,hr.out mS rfl⟩⟩)))
theorem c_hOf512 (k:Nat) (hk:k = 3∨k = 4) (s:ByteArray) (hs:s.size≤140737488351232) (w:World)  : CF Tryz.prog 85 [Iz k,.string s] w (.tuple #[.string (toS (hashL k (ofS s))),Iz 0]):=by
  have hpk:hp k = p512:=by rcases hk with rfl|rfl <;> rfl
  refine KV (N:=21) (rs:=[.tmp 4,.tmp 5]) [] Tryz.func85 rfl Tryz.ntmps85 Tryz.results85 (Nb rfl) trivial rfl ?_
  refine KB (KA (oA ?_));refine oP (KO (v:=Iz 0) rfl) (KC (KB (KA (oM ?_))));refine LOps.step rfl (Kg (first:=[]) (caps:=[]) (X:=[]) (RO:=[]) rfl en_135 rfl (Nb rfl) sR wK (fun w hH hd=>c_hNew512 k hk w hH hd) ?_)
  rintro _ _ ⟨m,rfl,rfl⟩
  refine oM ?_;refine oX ?_;refine oX ?_;refine oA (oA (KC (KB (KB (KA (oM ?_))))));refine oP (bF rfl rfl (KAn (b:=0)) dc) (KC (KH rfl (KM (KB (KA (oM (oM ?_)))))));refine LOps.step rfl (Kg (first:=[]) (caps:=[]) rfl en_136 rfl (Nb rfl) sR wK (fun w hH hd=>c_stWrite512 m (hbits k) none (hinit k) s (Nat.zero_le _) hs w hH hd) ?_)
  rintro _ _ ⟨r1,rfl,rfl⟩
  refine KC (KB (KA (oM ?_)));refine oS (cF rfl en_137 rfl (fun w hw=>c_stSum512 m (hbits k) r1 (p512.write (hinit k) (ofS s)) (p512.write_rest _ _ dc) (by rcases hk with rfl|rfl <;> decide) (by rcases hk with rfl|rfl <;> decide) w (show (strR512 m (hbits k) r1 (p512.write (hinit k) (ofS s))).holds w from hw (KCD m (hbits k) r1 (p512.write (hinit k) (ofS s))) mM)) ?_);refine oA ?_;refine oP (KO (v:=Iz 0) rfl) (KC (KN (eN (.cons rfl (.cons rfl .nil)) ?_)))
  unfold hashL hsum
  rw [hpk]
  rfl
theorem c_hOf (k:Nat) (hk:k = 1∨k = 2∨k = 3∨k = 4) (s:ByteArray) (hs:s.size≤140737488351232) (w:World):CF Tryz.prog 85 [Iz k,.string s] w (.tuple #[.string (toS (hashL k (ofS s))),Iz 0]):=by
  rcases hk with hk|hk|hk|hk
  · exact c_hOf256 k (.inl hk) s hs w
  · exact c_hOf256 k (.inr hk) s hs w
  · exact c_hOf512 k (.inl hk) s hs w
  · exact c_hOf512 k (.inr hk) s hs w
end Go.Proofs.YtnpeokiboiclfaaGreat
set_option maxRecDepth 100000
set_option linter.unusedVariables false
set_option linter.unusedSimpArgs false
namespace Go.Proofs
open Go.Shelf Go.RowKit
def Tryz.laysB_ren:Go.Shelf.Ren:=⟨fun|105=>33|212=>69|99=>70|165=>71|166=>72|170=>73|169=>74|263=>122|264=>123|206=>124|240=>125|241=>126|276=>163|277=>164|167=>234|n=>n,fun|9=>9|3=>3|4=>4|20=>20|0=>0|46=>56|109=>144|5=>5|72=>149|76=>153|51=>188|146=>189|53=>30|148=>191|70=>147|37=>70|75=>152|127=>193|164=>243|80=>155|n=>n,fun|n=>n⟩
theorem Tryz.laysB167:Go.Proofs.Lays.n167 Tryz.prog Tryz.laysB_ren:={
  mixed:=by kernel_rfl
  f167:=Tryz.func234.trans (congrArg some (by kernel_rfl))
  f240:=Tryz.func125.trans (congrArg some (by kernel_rfl))
  f276:=Tryz.func163.trans (congrArg some (by kernel_rfl))
  t0:=Tryz.underlying0
  a0:=Tryz.isAgg0
  z0:=Tryz.sizeOf0
  v0:=Tryz.zeroValue0
  t4:=Tryz.underlying4
  a4:=Tryz.isAgg4
  z4:=Tryz.sizeOf4
  v4:=Tryz.zeroValue4
  t5:=Tryz.underlying5
  a5:=Tryz.isAgg5
  z5:=Tryz.sizeOf5
  v5:=Tryz.zeroValue5
  t9:=Tryz.underlying9
  a9:=Tryz.isAgg9
  z9:=Tryz.sizeOf9
  v9:=Tryz.zeroValue9
  t20:=Tryz.underlying20
  a20:=Tryz.isAgg20
  z20:=Tryz.sizeOf20
  v20:=Tryz.zeroValue20
  t37:=Tryz.underlying70
  a37:=Tryz.isAgg70
  z37:=Tryz.sizeOf70
  v37:=Tryz.zeroValue70
  t70:=Tryz.underlying147
  a70:=Tryz.isAgg147
  z70:=Tryz.sizeOf147
  v70:=Tryz.zeroValue147
  t72:=Tryz.underlying149
  a72:=Tryz.isAgg149
  z72:=Tryz.sizeOf149
  v72:=Tryz.zeroValue149
  t75:=Tryz.underlying152
  a75:=Tryz.isAgg152
  z75:=Tryz.sizeOf152
  v75:=Tryz.zeroValue152
  t164:=Tryz.underlying243
  a164:=Tryz.isAgg243
  z164:=Tryz.sizeOf243
  v164:=Tryz.zeroValue243 }
theorem Tryz.laysB169:Go.Proofs.Lays.n169 Tryz.prog Tryz.laysB_ren:={
  mixed:=by kernel_rfl
  f169:=Tryz.func74.trans (congrArg some (by kernel_rfl))
  t0:=Tryz.underlying0
  a0:=Tryz.isAgg0
  z0:=Tryz.sizeOf0
  v0:=Tryz.zeroValue0
  t3:=Tryz.underlying3
  a3:=Tryz.isAgg3
  z3:=Tryz.sizeOf3
  v3:=Tryz.zeroValue3
  t9:=Tryz.underlying9
  a9:=Tryz.isAgg9
  z9:=Tryz.sizeOf9
  v9:=Tryz.zeroValue9
  t37:=Tryz.underlying70
  a37:=Tryz.isAgg70
  z37:=Tryz.sizeOf70
  v37:=Tryz.zeroValue70
  t70:=Tryz.underlying147
  a70:=Tryz.isAgg147
  z70:=Tryz.sizeOf147
  v70:=Tryz.zeroValue147
  t72:=Tryz.underlying149
  a72:=Tryz.isAgg149
  z72:=Tryz.sizeOf149
  v72:=Tryz.zeroValue149
  t127:=Tryz.underlying193
  a127:=Tryz.isAgg193
  z127:=Tryz.sizeOf193
  v127:=Tryz.zeroValue193 }
theorem Tryz.extraB:Builder.Extra Tryz.prog Tryz.laysB_ren where
  sizeBuilder:=by kernel_rfl
  liesBuilder:=by kernel_rfl
  t5:=Tryz.laysB167.t5
  a5:=Tryz.laysB167.a5
  z5:=Tryz.laysB167.z5
  v5:=Tryz.laysB167.v5
  infoByte:=by kernel_rfl
  cellsByte:=by kernel_rfl
  sizeByte:=by kernel_rfl
  neB5:=by decide
end Go.Proofs
namespace Go.Proofs.YtnpeokiboiclfaaGreat
open Go Go.RowKit
def bdI (T e:TypeId) (B b:Nat) (fp:List Nat) (bs:List Value):Item:=.own fp (Lib.IsBuilder T e B b bs)
theorem bdI_P {T e:TypeId} {B b:Nat} {fp:List Nat} {bs:List Value} {w:World} (h:(bdI T e B b fp bs).holds w):Lib.IsBuilder T e B b bs w:=h.2 w (KDC _ _)
theorem bdAt_item {T e:TypeId} {B b:Nat} {p:Value} {bs:List Value} {w:World} (h:Lib.BuilderAt T e B b p bs w):∃ fp,(∀ k,k∈fp→B≤k∧k<w.heap.size)∧∀ w',Agree fp w w'→Lib.BuilderAt T e B b p bs w':=by
  have hlt:=h.lt
  obtain ⟨hB,v,hb,hown,hne⟩:=h
  refine ⟨b :: v.ownBlock.toList,fun k hk=>?_,fun w' ha=>⟨hB,v,(ha b (.head _)).trans hb,⟨hown.1,?_⟩,hne⟩⟩
  · rcases List.mem_cons.1 hk with rfl|hk
    · exact ⟨hB,hlt⟩
    · have:=hown.lt k (by simpa using hk)
      exact this
  · rcases hown.2 with h1|⟨g,cap,cur,hv,h1,h2,h3⟩
    · exact .inl h1
    · refine .inr ⟨g,cap,cur,hv,h1,(ha g (.tail _ ?_)).trans h2,h3⟩
      rw [hv]; exact List.Mem.head _
theorem bd_item {T e:TypeId} {B b:Nat} {bs:List Value} {w:World} (h:Lib.IsBuilder T e B b bs w):∃ fp,(bdI T e B b fp bs).holds w∧∀ k,k∈fp→B≤k:=by
  rcases h with h|h
  · obtain ⟨fp,h1,h2⟩:=bdAt_item h
    exact ⟨fp,⟨fun k hk=>(h1 k hk).2,fun w' ha=>.inl (h2 w' ha)⟩,fun k hk=>(h1 k hk).1⟩
  · obtain ⟨fp,h1,h2⟩:=bdAt_item h
    exact ⟨fp,⟨fun k hk=>(h1 k hk).2,fun w' ha=>.inr (h2 w' ha)⟩,fun k hk=>(h1 k hk).1⟩
section
variable {P:Program} {C:Ctx} {ty:TypeId} {pos:String} {aft:Array Edge} {d:Nat} {K:St→Prop} {x:Operand} {v:Value}
theorem LStepW.callBd {T : List (Nat × Value)} {H : List Item} {f : FuncId} {xs : List Operand} {vs : List Value} {ats : Array TypeId} {g : Option (Nat × Bool)} {t e : TypeId} {b : Nat} {bs : List Value} (hf : evT T x = some (.func (.func f) #[] #[])) (he : KY P f) (ha : evL T xs = some vs) (hd : d < C.N)
    (hc:∀ w,(∀ x,x∈H→x.holds w)→C.w0.heap.size≤w.heap.size→Calls P f vs.toArray w (fun e' w'=>e' = .returned v∧Lib.IsBuilder t e C.w0.heap.size b bs w'∧Below C.w0.heap.size w w'))
    (h:∀ fp,K ⟨(d,v) :: T,[bdI t e C.w0.heap.size b fp bs]⟩):KAX P C ⟨some d,.call { callee:=.value x,args:=xs.toArray,argTypes:=ats },ty,pos,aft,g⟩ ⟨T,H⟩ K:=by
  unfold KAX
  intro a w hr Qr
  obtain ⟨fn,h1,h2,h3⟩:=he
  refine wp_callee (vs:=vs) ?_ (hc w hr.hp hr.fr.size) ?_
  · have:=hr.evs ha
    simp [execOp,resolve,hr.ev hf,Deferred.ofValue,invoke,run_call h1 h2 h3,this]
  · rintro e' w' ⟨rfl,hb,hbl⟩
    obtain ⟨fp,hi,hfp⟩:=bd_item hb
    refine ⟨v,rfl,_,h fp,Rel.put (st:=⟨T,[bdI t e C.w0.heap.size b fp bs]⟩) ?_ hd v⟩
    refine ⟨hr.size,hr.defers,hr.tm,fun y hy=>?_,fun y hy _ k hk=>?_,List.pairwise_singleton _ _,?_⟩
    · rw [List.mem_singleton.1 hy]; exact hi
    · rw [List.mem_singleton.1 hy] at hk; exact .inl (hfp k hk)
    · exact ⟨hbl.os.trans hr.fr.os,hbl.tape.trans hr.fr.tape,hbl.output.trans hr.fr.output,Nat.le_trans hr.fr.size hbl.size,fun k hk hw=>(hbl.block k hk).trans (hr.fr.block k hk hw)⟩
theorem LStepW.callB0 {T : List (Nat × Value)} {H : List Item} {f : FuncId} {xs : List Operand} {vs : List Value} {ats : Array TypeId} {g : Option (Nat × Bool)} (hf : evT T x = some (.func (.func f) #[] #[])) (he : KY P f) (ha : evL T xs = some vs) (hd : d < C.N)
    (hc:∀ w,(∀ x,x∈H→x.holds w)→C.w0.heap.size≤w.heap.size→Calls P f vs.toArray w (fun e' w'=>e' = .returned v∧Below C.w0.heap.size w w'))
    (h:K ⟨(d,v) :: T,[]⟩):KAX P C ⟨some d,.call { callee:=.value x,args:=xs.toArray,argTypes:=ats },ty,pos,aft,g⟩ ⟨T,H⟩ K:=by
  unfold KAX
  intro a w hr Qr
  obtain ⟨fn,h1,h2,h3⟩:=he
  refine wp_callee (vs:=vs) ?_ (hc w hr.hp hr.fr.size) ?_
  · have:=hr.evs ha
    simp [execOp,resolve,hr.ev hf,Deferred.ofValue,invoke,run_call h1 h2 h3,this]
  · rintro e' w' ⟨rfl,hbl⟩
    refine ⟨v,rfl,_,h,Rel.put (st:=⟨T,[]⟩) ?_ hd v⟩
    exact ⟨hr.size,hr.defers,hr.tm,fun y hy=>(by cases hy),fun y hy=>(by cases hy),.nil,⟨hbl.os.trans hr.fr.os,hbl.tape.trans hr.fr.tape,hbl.output.trans hr.fr.output,Nat.le_trans hr.fr.size hbl.size,fun k hk hw=>(hbl.block k hk).trans (hr.fr.block k hk hw)⟩⟩
end
theorem LCode.bd {P:Program} {C:Ctx} {c:Code} {Q:Exit→St→Prop} {T:List (Nat×Value)} {b:Nat} {t e:TypeId} (hW:∀ k,¬ C.W k) (h:∀ fp,LCode P C c ⟨T,[bdI t e C.w0.heap.size b fp []]⟩ Q):LCode P C c ⟨T,[.blk b ⟨true,[.pointer none,.slice none 0 0],t,(0,0)⟩]⟩ Q:=by
  unfold LCode
  intro a w hr
  have hb:=hr.hp _ (List.Mem.head _)
  have hB:C.w0.heap.size≤b:=(hr.own _ (List.Mem.head _) rfl b (List.Mem.head _)).resolve_right (hW b)
  have hbd:Lib.IsBuilder t e C.w0.heap.size b [] w:=.inl ⟨hB,_,hb,w.ownsRow_nil _ _ _,by simp [Value.ownBlock]⟩
  obtain ⟨fp,hi,hfp⟩:=bd_item hbd
  have h':=h fp
  unfold LCode at h'
  refine h' a w ⟨hr.size,hr.defers,hr.tm,fun y hy=>?_,fun y hy _ k hk=>?_,List.pairwise_singleton _ _,hr.fr⟩
  · rw [List.mem_singleton.1 hy]; exact hi
  · rw [List.mem_singleton.1 hy] at hk; exact .inl (hfp k hk)
end Go.Proofs.YtnpeokiboiclfaaGreat
set_option linter.unusedVariables false
set_option linter.unusedSimpArgs false
set_option maxRecDepth 20000
namespace Go.Proofs.YtnpeokiboiclfaaGreat
open Go Go.RowKit
theorem c_length (A b l c:Nat) (ty:TypeId) (wr:Bool) (w:World) (hb:(Item.blk b ⟨wr,vec .u64 c (limb A),ty,(0,0)⟩).holds w) (hlc:l≤c) (hc:c<9223372036854775808) (hA:A<2^(64*l)):CF Tryz.prog 169 [.slice (some ⟨b,0,none⟩) l c] w (Iz (nw A)):=by
  refine KV (N:=19) (rs:=[.tmp 2]) [.blk b ⟨false,vec .u64 c (limb A),ty,(0,0)⟩] Tryz.func169 rfl Tryz.ntmps169 Tryz.results169 (Nb rfl) ⟨hb,trivial⟩ rfl ?_
  refine KB (KA (oP (KO (v:=Iz 0) rfl) (KC (KB (KA (oM ?_))))));refine oP (KBc u205 rfl) (oA (KC (KB (LCode.block ?_))));refine Kc (α:=Nat) (fun x=>x≤l∧A<2^(64*x)) (fun x=>⟨[(0,.slice (some ⟨b,0,none⟩) l c),(3,Iz x)],[.blk b ⟨false,vec .u64 c (limb A),ty,(0,0)⟩]⟩) (fun x=>x) (l) (⟨Nat.le_refl _,hA⟩) (Ka ⟨rfl,rfl,trivial⟩ mS) ?_
  rintro x ⟨hx,hlt⟩
  refine KB (KB ?_)
  by_cases h0:0<x
  ·
   refine KA (oM ?_);refine oP (KG rfl rfl (br_t (KAb (b:=0)) h0)) (oM ?_);refine oGM ?_;refine oGM ?_;refine oGP (KG rfl rfl (KAe (b:=1) om om)) (oGP (KAF u205 sz_30 rfl rfl om) (Kt rfl rfl (dL rfl (hv:=KI u30 rfl (by exact Ki _ _ _ (show x-1<c by omega)))) (Nb rfl) ?_));refine oGP (KG rfl rfl (Ku (b:=0))) (oP (Kd rfl rfl) (KC ?_))
   first|refine KQ rfl (fun h15=>?_) (fun h15=>?_)|refine KR rfl (fun h15=>?_) (fun h15=>?_)
   ·
    have h15:limb A (x-1) = 0:=by have:=h15; simpa using this
    refine KM (LCode.block (KA (oM ?_)));refine oP (KG rfl rfl (KAe (b:=1) om om)) (oA (KC ?_));refine ⟨x-1,⟨by omega,?_⟩,by omega,Ka ⟨rfl,rfl,trivial⟩ mS⟩
    exact lt_of_limb_zero (A:=A) (n:=x-1) (by rw [show x-1+1 = x by omega]; exact hlt) h15
   have h15:¬ limb A (x-1) = 0:=by have:=h15; simpa using this
   refine Kb (KB (KA (oM (oA (KC (KN ?_))))))
   have he:nw A = x:=nw_eq hlt (.inr (le_of_limb (A:=A) (n:=x-1) (by rw [show x-1+1 = x by omega]; exact hlt) h15))
   refine eN (.cons rfl .nil) ?_
   rw [he]; rfl
  refine KA (oM ?_);refine oP (KG rfl rfl (br_f (KAb (b:=0)) h0)) (oM ?_);refine oK (oK (oK (oK (oK (oK (oP (KT rfl rfl) (KC (KH rfl (Kb (KB (KA (oM (oA (KC (KN ?_)))))))))))))))
  have he:nw A = x:=nw_eq hlt (.inl om)
  refine eN (.cons rfl .nil) ?_
  rw [he]; rfl
def dvL (m:Nat):List Value:=dv (limb (dnm m)) (nw m) (dsh m)
theorem KDN {w w':World} {H:List Item} {b:Nat} {B:Blk} (hb:Below w.heap.size w w') (hn:w.heap.size≤b) (hh:(Item.blk b B).holds w'):Brings w H [.blk b B] w' :=
  ⟨hb,fun x hx=>by simp at hx; subst hx; exact hh,fun x hx k hk=>by simp at hx; subst hx; simp [Item.fp] at hk; subst hk; exact .inl hn,
    fun x hx _ k hk=>by simp at hx; subst hx; simp [Item.fp] at hk; subst hk; exact hn,List.pairwise_singleton _ _⟩
theorem of_word {m x:Nat} (h0:0<dsh m) (hm:m≠0) (hx:0<x):(limb m x*2^dsh m%18446744073709551616 ||| limb m (x-1)/2^(64-dsh m)) = limb (dnm m) x:=by
  unfold dnm
  rw [limb_shl m (dsh m) x (dsh_lt hm) h0,if_neg om,or_low (limb_lt _ _) h0 (dsh_lt hm)]
theorem of_word0 {m x:Nat} (hm:m≠0) (h:x = 0∨dsh m = 0):limb m x*2^dsh m%18446744073709551616 = limb (dnm m) x:=by
  rcases Nat.eq_zero_or_pos (dsh m) with h0|h0
  · unfold dnm
    rw [h0,Nat.pow_zero,Nat.mul_one,Nat.mul_one,Nat.mod_eq_of_lt (limb_lt _ _)]
  · unfold dnm
    rw [limb_shl m (dsh m) x (dsh_lt hm) h0,if_pos om,Nat.add_zero]
theorem lz_top {m:Nat} (hm:m≠0):64-blen (limb m (nw m-1)) = dsh m:=by
  have h:=bits_words (A:=m) (by have:=nw_pos hm; omega)
  have:=KBM (n:=64) (limb_lt m (nw m-1))
  have:=nw_pos hm
  unfold dsh; omega
theorem c_of (m bm:Nat) (wr:Bool) (hm0:m≠0) (w:World) (hb:(Item.blk bm ⟨wr,natL m,33,(0,0)⟩).holds w) (hm:m<W9):Calls Tryz.prog 139 ([Pz bm]:List Value).toArray w (fun e w'=>∃ b,e = .returned (Pz b)∧w.heap.size≤b∧(Item.blk b ⟨false,dvL m,269,(0,0)⟩).holds w'∧Below w.heap.size w w'):=by
  refine KV (N:=86) (rs:=[.tmp 2]) [.blk bm ⟨false,natL m,33,(0,0)⟩] Tryz.func139 rfl Tryz.ntmps139 Tryz.results139 (Nb rfl) ⟨hb,trivial⟩ rfl ?_
  refine KB (KA (oA (KC (KB (rD [] ?_)))));refine aM 0 ?_;refine aP 1 rfl (KF rfl) (aP 2 rfl (KE (o':=0) u33 rfl rfl rfl sz_31 dc) (aD 3 rfl (dL rfl (hv:=by exact KD u31 rfl sz_31)) ?_));refine aM 4 ?_;refine aP 5 rfl (KF rfl) (aP 6 rfl (KE (o':=0) u33 rfl rfl rfl sz_31 dc) (aP 7 rfl (KCJ u31 sz_30 rfl) (aO 8 rfl (cF rfl en_169 rfl (fun w hw=>c_length m bm 9 9 _ false w (mC hw) (Nat.le_refl _) dc (KBQ hm 9 rfl)) ?_))));refine aP 9 rfl (KX pl_269 zr_269 rfl (show fillL _ _ _ = some (dv (limb m) (nw m) 0) from (KAK (A:=[]) (B:=vec .u64 9 (fun _=>0)) (D:=[Iz 0,Iz 0]) (cs:=natL m) rfl rfl (KL _) rfl rfl (KU _ _ _) ((KAK (A:=natL m) (B:=[Iz 0]) (D:=[Iz 0]) (cs:=[Iz (nw m)]) rfl rfl rfl rfl (KL _) rfl rfl).trans rfl)))) ?_;refine aO 10 rfl (mB (fun b15=>?_));refine aA 11 ?_;refine aE (KB ?_)
  have hn0:=nw_pos hm0
  have hn9:=nw_w9 hm
  have hs64:=dsh_lt hm0
  refine rD [14] (aM 0 ?_);refine aM 1 ?_;refine aM 2 ?_;refine aP 3 rfl (KF rfl) (aP 4 rfl (KE (o':=9) u269 rfl rfl rfl sz_3 dc) (aD 5 rfl (dL rfl (hv:=KI u3 rfl gL)) ?_));refine aP 6 rfl (KG rfl rfl (KAe (b:=1) om om)) (aP 7 rfl (KF rfl) (aP 8 rfl (KE (o':=0) u269 rfl rfl rfl sz_31 dc) (aP 9 rfl (KP u31 sz_30 rfl rfl om) (aD 10 rfl (dL rfl (hv:=KI u30 rfl (by exact dv_m _ _ _ (show nw m-1<9 by omega)))) ?_))));refine aO 11 rfl (cF rfl en_178 rfl (fun w hw=>c_LeadingZeros64 _ (limb_lt _ _) w) ?_);refine aP 12 rfl (KF rfl) (aP 13 rfl (KE (o':=10) u269 rfl rfl rfl sz_3 dc) ?_);refine aL 14 rfl (KZ rfl rfl rfl sz_3 mT (by simp only [KCn]; omega) (show (dv (limb m) (nw m) 0).set 10 _ = dv (limb m) (nw m) (dsh m) by rw [← lz_top hm0]; exact dv_sets _ _ _ _) (by simp) ?_);refine aE (KB (KB (KA (oM ?_))));refine oP (KF rfl) (oP (KE (o':=9) u269 rfl rfl rfl sz_3 dc) (oD (dL rfl (hv:=KI u3 rfl gL)) ?_))
  refine oP (KG rfl rfl (KAe (b:=1) om om)) (oA (KC (LCode.block ?_)))
  refine Kc (α:=Nat) (fun x=>x≤nw m) (fun x=>⟨[(3,Pz b15),(4,.int .i64 ((x:Int)-1))],[.blk b15 ⟨true,dv (fun j=>if x≤j then limb (dnm m) j else limb m j) (nw m) (dsh m),269,(0,0)⟩]⟩) (fun x=>x) (nw m) (Nat.le_refl _) (KAD (Sub.cells (b:=b15) (cs':=dv (fun j=>if nw m≤j then limb (dnm m) j else limb m j) (nw m) (dsh m)) mT (dv_congr fun j _=>by
    by_cases e:nw m≤j
    · rw [if_pos e,limb_high (lt_nw m) e,limb_high (dnm_lt m) e]
    · rw [if_neg e])) (Ka ⟨rfl,congrArg (fun i:Int=>some (Value.int .i64 i)) om,trivial⟩ mS)) ?_
  intro x hx
  refine KB (KB ?_)
  rcases Nat.eq_zero_or_pos x with h0|h0
  ·
   refine KA (oM ?_);refine oP (KG (v:=.bool false) rfl rfl (by subst h0; rfl)) ?_;refine KC (KH rfl (Kb (KB (KA (oM (oA (KC (KN ?_))))))))
   have e0:(dv (fun j=>if 0≤j then limb (dnm m) j else limb m j) (nw m) (dsh m)) = dvL m:=dv_congr fun j _=>if_pos (Nat.zero_le _)
   refine ⟨[_],.cons rfl .nil,fun a w' hr=>⟨b15,rfl,hr.new mM rfl,?_,hr.fr.below⟩⟩
   have:=hr.hp _ mM
   rw [← e0]
   subst h0
   exact this
  obtain ⟨y,rfl⟩:∃ y,x = y+1:=⟨x-1,by omega⟩
  refine KA (oM ?_);refine oP (KG (v:=.bool true) rfl rfl (by simp [Kp])) (KC (KS rfl (KM (KB (LCode.block (KB (rD [14] (aM 0 ?_))))))));refine aP 1 rfl (Kf (v:=Iz y) (by show some _ = some _; congr 2; omega)) ?_;refine aP 2 rfl (KF rfl) (aP 3 rfl (KE (o':=0) u269 rfl rfl rfl sz_31 dc) (aP 4 rfl (KP u31 sz_30 rfl rfl om) (aD 5 rfl (dL rfl (hv:=KI u30 rfl (by exact (dv_m _ _ _ (show y<9 by omega)).trans (congrArg some (vi (b:=limb m y) (if_neg om)))))) ?_)));refine aM 6 ?_;refine aP 7 rfl (KF rfl) (aP 8 rfl (KE (o':=10) u269 rfl rfl rfl sz_3 dc) (aD 9 rfl (dL rfl (hv:=KI u3 rfl gL)) ?_));refine aP 10 rfl (KG rfl rfl (KCK)) (aP 11 rfl (KF rfl) (aP 12 rfl (KE (o':=0) u269 rfl rfl rfl sz_31 dc) (aP 13 rfl (KP u31 sz_30 rfl rfl om) (aL 14 rfl (KZ rfl rfl rfl sz_30 mT lT sT (by simp) ?_)))));refine aE (KB ?_)
  rcases Nat.eq_zero_or_pos y with hy0|hy0
  rotate_left
  rcases Nat.eq_zero_or_pos (dsh m) with hs0|hs0
  ·
   refine KA ?_;refine oP (Kf (v:=Iz y) (by show some _ = some _; congr 2; omega)) ?_;refine oP (KG rfl rfl (br_t (KAb (b:=0)) hy0)) (oM ?_);refine oGM ?_;refine oGP (KF rfl) (oGP (KE (o':=10) u269 rfl rfl rfl sz_3 dc) (Kt rfl rfl (dL rfl (hv:=KI u3 rfl gL)) (Nb rfl) ?_));refine oGP (KG rfl rfl (br_f (KAb (b:=0)) om)) (oP (Kd rfl rfl) (KC (KH rfl (KM (KA ?_)))));refine oP (Kf (v:=Iz y) (by show some _ = some _; congr 2; omega)) ?_;refine oP (KG rfl rfl rfl) (oA (KC ?_));refine ⟨y,by omega,by omega,KAD (Sub.cells (b:=b15) (cs':=dv (fun j=>if y≤j then limb (dnm m) j else limb m j) (nw m) (dsh m)) mT (dv_congr fun j hj=>?_)) (Ka ⟨rfl,?_,trivial⟩ mS)⟩
   · by_cases e:j = y
     · subst e
       rw [if_pos rfl,if_pos (Nat.le_refl _)]
       exact of_word0 hm0 (.inr hs0)
     · simp only [e,if_false]
       by_cases e2:y+1≤j
       · rw [if_pos e2,if_pos om]
       · rw [if_neg e2,if_neg om]
   · exact congrArg (fun i:Int=>some (Value.int .i64 i)) (KBj om om)
  ·
   refine KA ?_;refine oP (Kf (v:=Iz y) (by show some _ = some _; congr 2; omega)) ?_;refine oP (KG rfl rfl (br_t (KAb (b:=0)) hy0)) (oM ?_);refine oGM ?_;refine oGP (KF rfl) (oGP (KE (o':=10) u269 rfl rfl rfl sz_3 dc) (Kt rfl rfl (dL rfl (hv:=KI u3 rfl gL)) (Nb rfl) ?_));refine oGP (KG rfl rfl (br_t (KAb (b:=0)) hs0)) (oP (Kd rfl rfl) (KC (KS rfl (rD [23] (aM 0 ?_)))));refine aP 1 rfl (Kf (v:=Iz y) (by show some _ = some _; congr 2; omega)) ?_;refine aP 2 rfl (KF rfl) (aP 3 rfl (KE (o':=0) u269 rfl rfl rfl sz_31 dc) (aP 4 rfl (KP u31 sz_30 rfl rfl om) (aD 5 rfl (dL rfl (hv:=KI u30 rfl (by exact (dv_m _ _ _ (show y<9 by omega)).trans (congrArg some (vi (b:=limb m y*2^dsh m%18446744073709551616) (if_pos rfl)))))) ?_)));refine aM 6 ?_;refine aP 7 rfl (Kf (v:=Iz y) (by show some _ = some _; congr 2; omega)) ?_;refine aP 8 rfl (KG rfl rfl (KAe (b:=1) om om)) (aP 9 rfl (KF rfl) (aP 10 rfl (KE (o':=0) u269 rfl rfl rfl sz_31 dc) (aP 11 rfl (KP u31 sz_30 rfl rfl om) (aD 12 rfl (dL rfl (hv:=KI u30 rfl (by exact (dv_m _ _ _ (show y-1<9 by omega)).trans (congrArg some (vi (b:=limb m (y-1)) (by rw [if_neg om,if_neg om])))))) ?_))))
   refine aM 13 ?_;refine aP 14 rfl (KF rfl) (aP 15 rfl (KE (o':=10) u269 rfl rfl rfl sz_3 dc) (aD 16 rfl (dL rfl (hv:=KI u3 rfl gL)) ?_));refine aP 17 rfl (KG rfl rfl (KAe (a:=64) om om)) (aP 18 rfl (KG rfl rfl (KAm (limb_lt _ _))) (aP 19 rfl (KG rfl rfl (KCT (Nat.mod_lt _ dc) (Nat.lt_of_le_of_lt (Nat.div_le_self _ _) (limb_lt _ _)))) (aP 20 rfl (KF rfl) (aP 21 rfl (KE (o':=0) u269 rfl rfl rfl sz_31 dc) (aP 22 rfl (KP u31 sz_30 rfl rfl om) (aL 23 rfl (KZ rfl rfl rfl sz_30 mT lT sT (by simp) ?_)))))));refine aE (KA ?_);refine oP (Kf (v:=Iz y) (by show some _ = some _; congr 2; omega)) ?_;refine oP (KG rfl rfl rfl) (oA (KC ?_));refine ⟨y,by omega,by omega,KAD (Sub.cells (b:=b15) (cs':=dv (fun j=>if y≤j then limb (dnm m) j else limb m j) (nw m) (dsh m)) mT (dv_congr fun j hj=>?_)) (Ka ⟨rfl,?_,trivial⟩ mS)⟩
   · by_cases e:j = y
     · subst e
       rw [if_pos rfl,if_pos (Nat.le_refl _)]
       exact of_word hs0 hm0 hy0
     · simp only [e,if_false]
       by_cases e2:y+1≤j
       · rw [if_pos e2,if_pos om]
       · rw [if_neg e2,if_neg om]
   · exact congrArg (fun i:Int=>some (Value.int .i64 i)) (KBj om om)
  refine KA ?_;refine oP (Kf (v:=Iz y) (by show some _ = some _; congr 2; omega)) ?_;refine oP (KG rfl rfl (br_f (KAb (b:=0)) om)) (oM ?_);refine oK (oK (oK (oK (oK (oP (KT rfl rfl) (KC (KH rfl (KM (KA ?_)))))))));refine oP (Kf (v:=Iz y) (by show some _ = some _; congr 2; omega)) ?_;refine oP (KG rfl rfl rfl) (oA (KC ?_));refine ⟨y,by omega,by omega,KAD (Sub.cells (b:=b15) (cs':=dv (fun j=>if y≤j then limb (dnm m) j else limb m j) (nw m) (dsh m)) mT (dv_congr fun j hj=>?_)) (Ka ⟨rfl,?_,trivial⟩ mS)⟩
  · by_cases e:j = y
    · subst e
      rw [if_pos rfl,if_pos (Nat.le_refl _)]
      exact of_word0 hm0 (.inl hy0)
    · simp only [e,if_false]
      by_cases e2:y+1≤j
      · rw [if_pos e2,if_pos om]
      · rw [if_neg e2,if_neg om]
  · exact congrArg (fun i:Int=>some (Value.int .i64 i)) (KBj om om)
end Go.Proofs.YtnpeokiboiclfaaGreat
