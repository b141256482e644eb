/- Facts on this translation: how many cells a type has, its zero; which functions have a body. Printed by mkfacts.py. -/
import Derived.Test.YtljblbgogjieaaaProg
import Derived.Test.YtljblbgogjieaaaLp
namespace Go.Proofs.Ytljblbgogjieaaa
open Go Go.RowKit
theorem sz_3 : szOf Try.prog 3 = some 1 := by kernel_rfl
theorem inf_3 : infOf Try.prog 3 = some (Value.int .i64 ((0 : Nat) : Int), 1, 8) := by kernel_rfl
theorem zr_3 : zrOf Try.prog 3 = some (Value.int .i64 ((0 : Nat) : Int)) := by kernel_rfl
theorem sz_4 : szOf Try.prog 4 = some 1 := by kernel_rfl
theorem inf_4 : infOf Try.prog 4 = some (Value.bool false, 1, 1) := by kernel_rfl
theorem zr_4 : zrOf Try.prog 4 = some (Value.bool false) := by kernel_rfl
theorem sz_5 : szOf Try.prog 5 = some 1 := by kernel_rfl
theorem inf_5 : infOf Try.prog 5 = some (Value.int .u8 ((0 : Nat) : Int), 1, 1) := by kernel_rfl
theorem zr_5 : zrOf Try.prog 5 = some (Value.int .u8 ((0 : Nat) : Int)) := by kernel_rfl
theorem sz_9 : szOf Try.prog 9 = some 1 := by kernel_rfl
theorem inf_9 : infOf Try.prog 9 = some (Value.string ⟨#[]⟩, 1, 16) := by kernel_rfl
theorem zr_9 : zrOf Try.prog 9 = some (Value.string ⟨#[]⟩) := by kernel_rfl
theorem sz_22 : szOf Try.prog 22 = some 1 := by kernel_rfl
theorem inf_22 : infOf Try.prog 22 = some (Value.int .u64 ((0 : Nat) : Int), 1, 8) := by kernel_rfl
theorem zr_22 : zrOf Try.prog 22 = some (Value.int .u64 ((0 : Nat) : Int)) := by kernel_rfl
theorem sz_23 : szOf Try.prog 23 = some 9 := by kernel_rfl
theorem pl_23 : plc Try.prog 23 = some ((List.range 9).map fun i => (i * 1, 1)) := by kernel_rfl
theorem zr_23 : zrOf Try.prog 23 = some (.agg (vec .u64 9 (fun _ => 0)).toArray) := by kernel_rfl
theorem sz_25 : szOf Try.prog 25 = some 9 := by kernel_rfl
theorem pl_25 : plc Try.prog 25 = some [(0, 9)] := by kernel_rfl
theorem zr_25 : zrOf Try.prog 25 = some (.agg (vec .u64 9 (fun _ => 0)).toArray) := by kernel_rfl
theorem sz_27 : szOf Try.prog 27 = some 18 := by kernel_rfl
theorem pl_27 : plc Try.prog 27 = some [(0, 9), (9, 9)] := by kernel_rfl
theorem zr_27 : zrOf Try.prog 27 = some (.agg (vec .u64 9 (fun _ => 0) ++ (vec .u64 9 (fun _ => 0))).toArray) := by kernel_rfl
theorem sz_28 : szOf Try.prog 28 = some 1 := by kernel_rfl
theorem inf_28 : infOf Try.prog 28 = some (Value.slice none 0 0, 1, 24) := by kernel_rfl
theorem zr_28 : zrOf Try.prog 28 = some (Value.slice none 0 0) := by kernel_rfl
theorem sz_29 : szOf Try.prog 29 = some 1 := by kernel_rfl
theorem inf_29 : infOf Try.prog 29 = some (Value.slice none 0 0, 1, 24) := by kernel_rfl
theorem zr_29 : zrOf Try.prog 29 = some (Value.slice none 0 0) := by kernel_rfl
theorem sz_31 : szOf Try.prog 31 = some 7 := by kernel_rfl
theorem pl_31 : plc Try.prog 31 = some [(0, 1), (1, 1), (2, 1), (3, 1), (4, 1), (5, 1), (6, 1)] := by kernel_rfl
theorem zr_31 : zrOf Try.prog 31 = some (.agg ([Value.int .i64 ((0 : Nat) : Int), Value.slice none 0 0, Value.slice none 0 0, Value.slice none 0 0, Value.slice none 0 0, Value.slice none 0 0, Value.slice none 0 0]).toArray) := by kernel_rfl
theorem sz_34 : szOf Try.prog 34 = some 1 := by kernel_rfl
theorem inf_34 : infOf Try.prog 34 = some (Value.int .i64 ((0 : Nat) : Int), 1, 8) := by kernel_rfl
theorem zr_34 : zrOf Try.prog 34 = some (Value.int .i64 ((0 : Nat) : Int)) := by kernel_rfl
theorem sz_46 : szOf Try.prog 46 = some 1 := by kernel_rfl
theorem inf_46 : infOf Try.prog 46 = some (Value.int .u64 ((0 : Nat) : Int), 1, 8) := by kernel_rfl
theorem zr_46 : zrOf Try.prog 46 = some (Value.int .u64 ((0 : Nat) : Int)) := by kernel_rfl
theorem sz_52 : szOf Try.prog 52 = some 1 := by kernel_rfl
theorem inf_52 : infOf Try.prog 52 = some (Value.slice none 0 0, 1, 24) := by kernel_rfl
theorem zr_52 : zrOf Try.prog 52 = some (Value.slice none 0 0) := by kernel_rfl
theorem sz_56 : szOf Try.prog 56 = some 1 := by kernel_rfl
theorem inf_56 : infOf Try.prog 56 = some (Value.int .u32 ((0 : Nat) : Int), 1, 4) := by kernel_rfl
theorem zr_56 : zrOf Try.prog 56 = some (Value.int .u32 ((0 : Nat) : Int)) := by kernel_rfl
theorem sz_60 : szOf Try.prog 60 = some 19 := by kernel_rfl
theorem pl_60 : plc Try.prog 60 = some [(0, 9), (9, 9), (18, 1)] := by kernel_rfl
theorem zr_60 : zrOf Try.prog 60 = some (.agg (vec .u64 9 (fun _ => 0) ++ (vec .u64 9 (fun _ => 0) ++ ([Value.bool false]))).toArray) := by kernel_rfl
theorem sz_62 : szOf Try.prog 62 = some 59 := by kernel_rfl
theorem pl_62 : plc Try.prog 62 = some [(0, 1), (1, 9), (10, 9), (19, 9), (28, 9), (37, 19), (56, 1), (57, 1), (58, 1)] := by kernel_rfl
theorem zr_62 : zrOf Try.prog 62 = some (.agg ([Value.int .i64 ((0 : Nat) : Int)] ++ (vec .u64 9 (fun _ => 0) ++ (vec .u64 9 (fun _ => 0) ++ (vec .u64 9 (fun _ => 0) ++ (vec .u64 9 (fun _ => 0) ++ (vec .u64 9 (fun _ => 0) ++ (vec .u64 9 (fun _ => 0) ++ ([Value.bool false, Value.int .i64 ((0 : Nat) : Int), Value.int .i64 ((0 : Nat) : Int), Value.bool false])))))))).toArray) := by kernel_rfl
theorem sz_65 : szOf Try.prog 65 = some 1 := by kernel_rfl
theorem inf_65 : infOf Try.prog 65 = some (Value.slice none 0 0, 1, 24) := by kernel_rfl
theorem zr_65 : zrOf Try.prog 65 = some (Value.slice none 0 0) := by kernel_rfl
theorem sz_73 : szOf Try.prog 73 = some 3 := by kernel_rfl
theorem pl_73 : plc Try.prog 73 = some [(0, 1), (1, 1), (2, 1)] := by kernel_rfl
theorem zr_73 : zrOf Try.prog 73 = some (.agg ([Value.slice none 0 0, Value.slice none 0 0, Value.bool false]).toArray) := by kernel_rfl
theorem sz_91 : szOf Try.prog 91 = some 27 := by kernel_rfl
theorem pl_91 : plc Try.prog 91 = some [(0, 9), (9, 9), (18, 9)] := by kernel_rfl
theorem zr_91 : zrOf Try.prog 91 = some (.agg (vec .u64 9 (fun _ => 0) ++ (vec .u64 9 (fun _ => 0) ++ (vec .u64 9 (fun _ => 0)))).toArray) := by kernel_rfl
theorem sz_103 : szOf Try.prog 103 = some 1 := by kernel_rfl
theorem inf_103 : infOf Try.prog 103 = some (Value.slice none 0 0, 1, 24) := by kernel_rfl
theorem zr_103 : zrOf Try.prog 103 = some (Value.slice none 0 0) := by kernel_rfl
theorem sz_112 : szOf Try.prog 112 = some 1 := by kernel_rfl
theorem inf_112 : infOf Try.prog 112 = some (Value.slice none 0 0, 1, 24) := by kernel_rfl
theorem zr_112 : zrOf Try.prog 112 = some (Value.slice none 0 0) := by kernel_rfl
theorem sz_113 : szOf Try.prog 113 = some 1 := by kernel_rfl
theorem inf_113 : infOf Try.prog 113 = some (Value.pointer none, 1, 8) := by kernel_rfl
theorem zr_113 : zrOf Try.prog 113 = some (Value.pointer none) := by kernel_rfl
theorem sz_119 : szOf Try.prog 119 = some 1 := by kernel_rfl
theorem inf_119 : infOf Try.prog 119 = some (Value.pointer none, 1, 8) := by kernel_rfl
theorem zr_119 : zrOf Try.prog 119 = some (Value.pointer none) := by kernel_rfl
theorem sz_131 : szOf Try.prog 131 = some 1 := by kernel_rfl
theorem inf_131 : infOf Try.prog 131 = some (Value.slice none 0 0, 1, 24) := by kernel_rfl
theorem zr_131 : zrOf Try.prog 131 = some (Value.slice none 0 0) := by kernel_rfl
theorem sz_133 : szOf Try.prog 133 = some 2 := by kernel_rfl
theorem pl_133 : plc Try.prog 133 = some [(0, 1), (1, 1)] := by kernel_rfl
theorem zr_133 : zrOf Try.prog 133 = some (.agg ([Value.int .i64 ((0 : Nat) : Int), Value.int .i64 ((0 : Nat) : Int)]).toArray) := by kernel_rfl
theorem sz_139 : szOf Try.prog 139 = some 1 := by kernel_rfl
theorem inf_139 : infOf Try.prog 139 = some (Value.slice none 0 0, 1, 24) := by kernel_rfl
theorem zr_139 : zrOf Try.prog 139 = some (Value.slice none 0 0) := by kernel_rfl
theorem sz_142 : szOf Try.prog 142 = some 1 := by kernel_rfl
theorem inf_142 : infOf Try.prog 142 = some (Value.pointer none, 1, 8) := by kernel_rfl
theorem zr_142 : zrOf Try.prog 142 = some (Value.pointer none) := by kernel_rfl
theorem sz_145 : szOf Try.prog 145 = some 1 := by kernel_rfl
theorem inf_145 : infOf Try.prog 145 = some (Value.pointer none, 1, 8) := by kernel_rfl
theorem zr_145 : zrOf Try.prog 145 = some (Value.pointer none) := by kernel_rfl
theorem sz_147 : szOf Try.prog 147 = some 69 := by kernel_rfl
theorem pl_147 : plc Try.prog 147 = some [(0, 59), (59, 1), (60, 9)] := by kernel_rfl
theorem zr_147 : zrOf Try.prog 147 = some (.agg ([Value.int .i64 ((0 : Nat) : Int)] ++ (vec .u64 9 (fun _ => 0) ++ (vec .u64 9 (fun _ => 0) ++ (vec .u64 9 (fun _ => 0) ++ (vec .u64 9 (fun _ => 0) ++ (vec .u64 9 (fun _ => 0) ++ (vec .u64 9 (fun _ => 0) ++ ([Value.bool false, Value.int .i64 ((0 : Nat) : Int), Value.int .i64 ((0 : Nat) : Int), Value.bool false, Value.pointer none] ++ (vec .u64 9 (fun _ => 0)))))))))).toArray) := by kernel_rfl
theorem sz_169 : szOf Try.prog 169 = some 1 := by kernel_rfl
theorem pl_169 : plc Try.prog 169 = some [(0, 1)] := by kernel_rfl
theorem zr_169 : zrOf Try.prog 169 = some (.agg ([Value.pointer none]).toArray) := by kernel_rfl
theorem sz_172 : szOf Try.prog 172 = some 1 := by kernel_rfl
theorem inf_172 : infOf Try.prog 172 = some (Value.slice none 0 0, 1, 24) := by kernel_rfl
theorem zr_172 : zrOf Try.prog 172 = some (Value.slice none 0 0) := by kernel_rfl
theorem sz_174 : szOf Try.prog 174 = some 1 := by kernel_rfl
theorem pl_174 : plc Try.prog 174 = some [(0, 1)] := by kernel_rfl
theorem zr_174 : zrOf Try.prog 174 = some (.agg ([Value.slice none 0 0]).toArray) := by kernel_rfl
theorem sz_179 : szOf Try.prog 179 = some 1 := by kernel_rfl
theorem pl_179 : plc Try.prog 179 = some [(0, 1)] := by kernel_rfl
theorem zr_179 : zrOf Try.prog 179 = some (.agg ([Value.slice none 0 0]).toArray) := by kernel_rfl
theorem sz_188 : szOf Try.prog 188 = some 5 := by kernel_rfl
theorem pl_188 : plc Try.prog 188 = some [(0, 1), (1, 1), (2, 1), (3, 1), (4, 1)] := by kernel_rfl
theorem zr_188 : zrOf Try.prog 188 = some (.agg ([Value.string ⟨#[]⟩, Value.string ⟨#[]⟩, Value.string ⟨#[]⟩, Value.string ⟨#[]⟩, Value.string ⟨#[]⟩]).toArray) := by kernel_rfl
theorem sz_190 : szOf Try.prog 190 = some 1 := by kernel_rfl
theorem inf_190 : infOf Try.prog 190 = some (Value.pointer none, 1, 8) := by kernel_rfl
theorem zr_190 : zrOf Try.prog 190 = some (Value.pointer none) := by kernel_rfl
theorem sz_192 : szOf Try.prog 192 = some 1 := by kernel_rfl
theorem pl_192 : plc Try.prog 192 = some [(0, 1)] := by kernel_rfl
theorem zr_192 : zrOf Try.prog 192 = some (.agg ([Value.pointer none]).toArray) := by kernel_rfl
theorem sz_194 : szOf Try.prog 194 = some 10 := by kernel_rfl
theorem pl_194 : plc Try.prog 194 = some [(0, 9), (9, 1)] := by kernel_rfl
theorem zr_194 : zrOf Try.prog 194 = some (.agg (vec .u64 9 (fun _ => 0) ++ ([Value.pointer none])).toArray) := by kernel_rfl
theorem sz_206 : szOf Try.prog 206 = some 108 := by kernel_rfl
theorem pl_206 : plc Try.prog 206 = some ((List.range 4).map fun i => (i * 27, 27)) := by kernel_rfl
theorem zr_206 : zrOf Try.prog 206 = some (.agg (vec .u64 9 (fun _ => 0) ++ (vec .u64 9 (fun _ => 0) ++ (vec .u64 9 (fun _ => 0) ++ (vec .u64 9 (fun _ => 0) ++ (vec .u64 9 (fun _ => 0) ++ (vec .u64 9 (fun _ => 0) ++ (vec .u64 9 (fun _ => 0) ++ (vec .u64 9 (fun _ => 0) ++ (vec .u64 9 (fun _ => 0) ++ (vec .u64 9 (fun _ => 0) ++ (vec .u64 9 (fun _ => 0) ++ (vec .u64 9 (fun _ => 0))))))))))))).toArray) := by kernel_rfl
theorem sz_213 : szOf Try.prog 213 = some 1 := by kernel_rfl
theorem pl_213 : plc Try.prog 213 = some [(0, 1)] := by kernel_rfl
theorem zr_213 : zrOf Try.prog 213 = some (.agg ([Value.int .u64 ((0 : Nat) : Int)]).toArray) := by kernel_rfl
theorem sz_228 : szOf Try.prog 228 = some 18 := by kernel_rfl
theorem pl_228 : plc Try.prog 228 = some ((List.range 18).map fun i => (i * 1, 1)) := by kernel_rfl
theorem zr_228 : zrOf Try.prog 228 = some (.agg (vec .u64 18 (fun _ => 0)).toArray) := by kernel_rfl
theorem sz_230 : szOf Try.prog 230 = some 18 := by kernel_rfl
theorem pl_230 : plc Try.prog 230 = some [(0, 18)] := by kernel_rfl
theorem zr_230 : zrOf Try.prog 230 = some (.agg (vec .u64 18 (fun _ => 0)).toArray) := by kernel_rfl
theorem sz_234 : szOf Try.prog 234 = some 1 := by kernel_rfl
theorem inf_234 : infOf Try.prog 234 = some (Value.slice none 0 0, 1, 24) := by kernel_rfl
theorem zr_234 : zrOf Try.prog 234 = some (Value.slice none 0 0) := by kernel_rfl
theorem sz_241 : szOf Try.prog 241 = some 11 := by kernel_rfl
theorem pl_241 : plc Try.prog 241 = some [(0, 9), (9, 1), (10, 1)] := by kernel_rfl
theorem zr_241 : zrOf Try.prog 241 = some (.agg (vec .u64 9 (fun _ => 0) ++ ([Value.int .i64 ((0 : Nat) : Int), Value.int .i64 ((0 : Nat) : Int)])).toArray) := by kernel_rfl
theorem sz_243 : szOf Try.prog 243 = some 19 := by kernel_rfl
theorem pl_243 : plc Try.prog 243 = some ((List.range 19).map fun i => (i * 1, 1)) := by kernel_rfl
theorem zr_243 : zrOf Try.prog 243 = some (.agg (vec .u64 19 (fun _ => 0)).toArray) := by kernel_rfl
theorem sz_248 : szOf Try.prog 248 = some 1 := by kernel_rfl
theorem inf_248 : infOf Try.prog 248 = some (Value.nilIface, 1, 16) := by kernel_rfl
theorem zr_248 : zrOf Try.prog 248 = some (Value.nilIface) := by kernel_rfl
theorem en_3 : Enters Try.prog 3 := ⟨_, Try.func3, by kernel_rfl, by kernel_rfl⟩
theorem en_4 : Enters Try.prog 4 := ⟨_, Try.func4, by kernel_rfl, by kernel_rfl⟩
theorem en_5 : Enters Try.prog 5 := ⟨_, Try.func5, by kernel_rfl, by kernel_rfl⟩
theorem en_6 : Enters Try.prog 6 := ⟨_, Try.func6, by kernel_rfl, by kernel_rfl⟩
theorem en_7 : Enters Try.prog 7 := ⟨_, Try.func7, by kernel_rfl, by kernel_rfl⟩
theorem en_8 : Enters Try.prog 8 := ⟨_, Try.func8, by kernel_rfl, by kernel_rfl⟩
theorem en_9 : Enters Try.prog 9 := ⟨_, Try.func9, by kernel_rfl, by kernel_rfl⟩
theorem en_10 : Enters Try.prog 10 := ⟨_, Try.func10, by kernel_rfl, by kernel_rfl⟩
theorem en_11 : Enters Try.prog 11 := ⟨_, Try.func11, by kernel_rfl, by kernel_rfl⟩
theorem en_12 : Enters Try.prog 12 := ⟨_, Try.func12, by kernel_rfl, by kernel_rfl⟩
theorem en_13 : Enters Try.prog 13 := ⟨_, Try.func13, by kernel_rfl, by kernel_rfl⟩
theorem en_14 : Enters Try.prog 14 := ⟨_, Try.func14, by kernel_rfl, by kernel_rfl⟩
theorem en_15 : Enters Try.prog 15 := ⟨_, Try.func15, by kernel_rfl, by kernel_rfl⟩
theorem en_16 : Enters Try.prog 16 := ⟨_, Try.func16, by kernel_rfl, by kernel_rfl⟩
theorem en_17 : Enters Try.prog 17 := ⟨_, Try.func17, by kernel_rfl, by kernel_rfl⟩
theorem en_18 : Enters Try.prog 18 := ⟨_, Try.func18, by kernel_rfl, by kernel_rfl⟩
theorem en_19 : Enters Try.prog 19 := ⟨_, Try.func19, by kernel_rfl, by kernel_rfl⟩
theorem en_20 : Enters Try.prog 20 := ⟨_, Try.func20, by kernel_rfl, by kernel_rfl⟩
theorem en_21 : Enters Try.prog 21 := ⟨_, Try.func21, by kernel_rfl, by kernel_rfl⟩
theorem en_22 : Enters Try.prog 22 := ⟨_, Try.func22, by kernel_rfl, by kernel_rfl⟩
theorem en_23 : Enters Try.prog 23 := ⟨_, Try.func23, by kernel_rfl, by kernel_rfl⟩
theorem en_24 : Enters Try.prog 24 := ⟨_, Try.func24, by kernel_rfl, by kernel_rfl⟩
theorem en_25 : Enters Try.prog 25 := ⟨_, Try.func25, by kernel_rfl, by kernel_rfl⟩
theorem en_26 : Enters Try.prog 26 := ⟨_, Try.func26, by kernel_rfl, by kernel_rfl⟩
theorem en_27 : Enters Try.prog 27 := ⟨_, Try.func27, by kernel_rfl, by kernel_rfl⟩
theorem en_28 : Enters Try.prog 28 := ⟨_, Try.func28, by kernel_rfl, by kernel_rfl⟩
theorem en_29 : Enters Try.prog 29 := ⟨_, Try.func29, by kernel_rfl, by kernel_rfl⟩
theorem en_30 : Enters Try.prog 30 := ⟨_, Try.func30, by kernel_rfl, by kernel_rfl⟩
theorem en_31 : Enters Try.prog 31 := ⟨_, Try.func31, by kernel_rfl, by kernel_rfl⟩
theorem en_32 : Enters Try.prog 32 := ⟨_, Try.func32, by kernel_rfl, by kernel_rfl⟩
theorem en_33 : Enters Try.prog 33 := ⟨_, Try.func33, by kernel_rfl, by kernel_rfl⟩
theorem en_34 : Enters Try.prog 34 := ⟨_, Try.func34, by kernel_rfl, by kernel_rfl⟩
theorem en_35 : Enters Try.prog 35 := ⟨_, Try.func35, by kernel_rfl, by kernel_rfl⟩
theorem en_36 : Enters Try.prog 36 := ⟨_, Try.func36, by kernel_rfl, by kernel_rfl⟩
theorem en_37 : Enters Try.prog 37 := ⟨_, Try.func37, by kernel_rfl, by kernel_rfl⟩
theorem en_38 : Enters Try.prog 38 := ⟨_, Try.func38, by kernel_rfl, by kernel_rfl⟩
theorem en_39 : Enters Try.prog 39 := ⟨_, Try.func39, by kernel_rfl, by kernel_rfl⟩
theorem en_40 : Enters Try.prog 40 := ⟨_, Try.func40, by kernel_rfl, by kernel_rfl⟩
theorem en_41 : Enters Try.prog 41 := ⟨_, Try.func41, by kernel_rfl, by kernel_rfl⟩
theorem en_42 : Enters Try.prog 42 := ⟨_, Try.func42, by kernel_rfl, by kernel_rfl⟩
theorem en_43 : Enters Try.prog 43 := ⟨_, Try.func43, by kernel_rfl, by kernel_rfl⟩
theorem en_44 : Enters Try.prog 44 := ⟨_, Try.func44, by kernel_rfl, by kernel_rfl⟩
theorem en_45 : Enters Try.prog 45 := ⟨_, Try.func45, by kernel_rfl, by kernel_rfl⟩
theorem en_46 : Enters Try.prog 46 := ⟨_, Try.func46, by kernel_rfl, by kernel_rfl⟩
theorem en_47 : Enters Try.prog 47 := ⟨_, Try.func47, by kernel_rfl, by kernel_rfl⟩
theorem en_48 : Enters Try.prog 48 := ⟨_, Try.func48, by kernel_rfl, by kernel_rfl⟩
theorem en_49 : Enters Try.prog 49 := ⟨_, Try.func49, by kernel_rfl, by kernel_rfl⟩
theorem en_50 : Enters Try.prog 50 := ⟨_, Try.func50, by kernel_rfl, by kernel_rfl⟩
theorem en_51 : Enters Try.prog 51 := ⟨_, Try.func51, by kernel_rfl, by kernel_rfl⟩
theorem en_52 : Enters Try.prog 52 := ⟨_, Try.func52, by kernel_rfl, by kernel_rfl⟩
theorem en_53 : Enters Try.prog 53 := ⟨_, Try.func53, by kernel_rfl, by kernel_rfl⟩
theorem en_54 : Enters Try.prog 54 := ⟨_, Try.func54, by kernel_rfl, by kernel_rfl⟩
theorem en_55 : Enters Try.prog 55 := ⟨_, Try.func55, by kernel_rfl, by kernel_rfl⟩
theorem en_56 : Enters Try.prog 56 := ⟨_, Try.func56, by kernel_rfl, by kernel_rfl⟩
theorem en_57 : Enters Try.prog 57 := ⟨_, Try.func57, by kernel_rfl, by kernel_rfl⟩
theorem en_58 : Enters Try.prog 58 := ⟨_, Try.func58, by kernel_rfl, by kernel_rfl⟩
theorem en_59 : Enters Try.prog 59 := ⟨_, Try.func59, by kernel_rfl, by kernel_rfl⟩
theorem en_60 : Enters Try.prog 60 := ⟨_, Try.func60, by kernel_rfl, by kernel_rfl⟩
theorem en_61 : Enters Try.prog 61 := ⟨_, Try.func61, by kernel_rfl, by kernel_rfl⟩
theorem en_62 : Enters Try.prog 62 := ⟨_, Try.func62, by kernel_rfl, by kernel_rfl⟩
theorem en_63 : Enters Try.prog 63 := ⟨_, Try.func63, by kernel_rfl, by kernel_rfl⟩
theorem en_64 : Enters Try.prog 64 := ⟨_, Try.func64, by kernel_rfl, by kernel_rfl⟩
theorem en_65 : Enters Try.prog 65 := ⟨_, Try.func65, by kernel_rfl, by kernel_rfl⟩
theorem en_66 : Enters Try.prog 66 := ⟨_, Try.func66, by kernel_rfl, by kernel_rfl⟩
theorem en_67 : Enters Try.prog 67 := ⟨_, Try.func67, by kernel_rfl, by kernel_rfl⟩
theorem en_68 : Enters Try.prog 68 := ⟨_, Try.func68, by kernel_rfl, by kernel_rfl⟩
theorem en_69 : Enters Try.prog 69 := ⟨_, Try.func69, by kernel_rfl, by kernel_rfl⟩
theorem en_70 : Enters Try.prog 70 := ⟨_, Try.func70, by kernel_rfl, by kernel_rfl⟩
theorem en_71 : Enters Try.prog 71 := ⟨_, Try.func71, by kernel_rfl, by kernel_rfl⟩
theorem en_72 : Enters Try.prog 72 := ⟨_, Try.func72, by kernel_rfl, by kernel_rfl⟩
theorem en_73 : Enters Try.prog 73 := ⟨_, Try.func73, by kernel_rfl, by kernel_rfl⟩
theorem en_74 : Enters Try.prog 74 := ⟨_, Try.func74, by kernel_rfl, by kernel_rfl⟩
theorem en_75 : Enters Try.prog 75 := ⟨_, Try.func75, by kernel_rfl, by kernel_rfl⟩
theorem en_76 : Enters Try.prog 76 := ⟨_, Try.func76, by kernel_rfl, by kernel_rfl⟩
theorem en_77 : Enters Try.prog 77 := ⟨_, Try.func77, by kernel_rfl, by kernel_rfl⟩
theorem en_78 : Enters Try.prog 78 := ⟨_, Try.func78, by kernel_rfl, by kernel_rfl⟩
theorem en_79 : Enters Try.prog 79 := ⟨_, Try.func79, by kernel_rfl, by kernel_rfl⟩
theorem en_80 : Enters Try.prog 80 := ⟨_, Try.func80, by kernel_rfl, by kernel_rfl⟩
theorem en_81 : Enters Try.prog 81 := ⟨_, Try.func81, by kernel_rfl, by kernel_rfl⟩
theorem en_82 : Enters Try.prog 82 := ⟨_, Try.func82, by kernel_rfl, by kernel_rfl⟩
theorem en_83 : Enters Try.prog 83 := ⟨_, Try.func83, by kernel_rfl, by kernel_rfl⟩
theorem en_84 : Enters Try.prog 84 := ⟨_, Try.func84, by kernel_rfl, by kernel_rfl⟩
theorem en_85 : Enters Try.prog 85 := ⟨_, Try.func85, by kernel_rfl, by kernel_rfl⟩
theorem en_86 : Enters Try.prog 86 := ⟨_, Try.func86, by kernel_rfl, by kernel_rfl⟩
theorem en_87 : Enters Try.prog 87 := ⟨_, Try.func87, by kernel_rfl, by kernel_rfl⟩
theorem en_88 : Enters Try.prog 88 := ⟨_, Try.func88, by kernel_rfl, by kernel_rfl⟩
theorem en_89 : Enters Try.prog 89 := ⟨_, Try.func89, by kernel_rfl, by kernel_rfl⟩
theorem en_90 : Enters Try.prog 90 := ⟨_, Try.func90, by kernel_rfl, by kernel_rfl⟩
theorem en_91 : Enters Try.prog 91 := ⟨_, Try.func91, by kernel_rfl, by kernel_rfl⟩
theorem en_92 : Enters Try.prog 92 := ⟨_, Try.func92, by kernel_rfl, by kernel_rfl⟩
theorem en_93 : Enters Try.prog 93 := ⟨_, Try.func93, by kernel_rfl, by kernel_rfl⟩
theorem en_94 : Enters Try.prog 94 := ⟨_, Try.func94, by kernel_rfl, by kernel_rfl⟩
theorem en_95 : Enters Try.prog 95 := ⟨_, Try.func95, by kernel_rfl, by kernel_rfl⟩
theorem en_96 : Enters Try.prog 96 := ⟨_, Try.func96, by kernel_rfl, by kernel_rfl⟩
theorem en_97 : Enters Try.prog 97 := ⟨_, Try.func97, by kernel_rfl, by kernel_rfl⟩
theorem en_98 : Enters Try.prog 98 := ⟨_, Try.func98, by kernel_rfl, by kernel_rfl⟩
theorem en_99 : Enters Try.prog 99 := ⟨_, Try.func99, by kernel_rfl, by kernel_rfl⟩
theorem en_100 : Enters Try.prog 100 := ⟨_, Try.func100, by kernel_rfl, by kernel_rfl⟩
theorem en_101 : Enters Try.prog 101 := ⟨_, Try.func101, by kernel_rfl, by kernel_rfl⟩
theorem en_102 : Enters Try.prog 102 := ⟨_, Try.func102, by kernel_rfl, by kernel_rfl⟩
theorem en_103 : Enters Try.prog 103 := ⟨_, Try.func103, by kernel_rfl, by kernel_rfl⟩
theorem en_104 : Enters Try.prog 104 := ⟨_, Try.func104, by kernel_rfl, by kernel_rfl⟩
theorem en_105 : Enters Try.prog 105 := ⟨_, Try.func105, by kernel_rfl, by kernel_rfl⟩
theorem en_106 : Enters Try.prog 106 := ⟨_, Try.func106, by kernel_rfl, by kernel_rfl⟩
theorem en_107 : Enters Try.prog 107 := ⟨_, Try.func107, by kernel_rfl, by kernel_rfl⟩
theorem en_108 : Enters Try.prog 108 := ⟨_, Try.func108, by kernel_rfl, by kernel_rfl⟩
theorem en_109 : Enters Try.prog 109 := ⟨_, Try.func109, by kernel_rfl, by kernel_rfl⟩
theorem en_110 : Enters Try.prog 110 := ⟨_, Try.func110, by kernel_rfl, by kernel_rfl⟩
theorem en_111 : Enters Try.prog 111 := ⟨_, Try.func111, by kernel_rfl, by kernel_rfl⟩
theorem en_112 : Enters Try.prog 112 := ⟨_, Try.func112, by kernel_rfl, by kernel_rfl⟩
theorem en_113 : Enters Try.prog 113 := ⟨_, Try.func113, by kernel_rfl, by kernel_rfl⟩
theorem en_114 : Enters Try.prog 114 := ⟨_, Try.func114, by kernel_rfl, by kernel_rfl⟩
theorem en_115 : Enters Try.prog 115 := ⟨_, Try.func115, by kernel_rfl, by kernel_rfl⟩
theorem en_116 : Enters Try.prog 116 := ⟨_, Try.func116, by kernel_rfl, by kernel_rfl⟩
theorem en_117 : Enters Try.prog 117 := ⟨_, Try.func117, by kernel_rfl, by kernel_rfl⟩
theorem en_118 : Enters Try.prog 118 := ⟨_, Try.func118, by kernel_rfl, by kernel_rfl⟩
theorem en_119 : Enters Try.prog 119 := ⟨_, Try.func119, by kernel_rfl, by kernel_rfl⟩
theorem en_120 : Enters Try.prog 120 := ⟨_, Try.func120, by kernel_rfl, by kernel_rfl⟩
theorem en_121 : Enters Try.prog 121 := ⟨_, Try.func121, by kernel_rfl, by kernel_rfl⟩
theorem en_122 : Enters Try.prog 122 := ⟨_, Try.func122, by kernel_rfl, by kernel_rfl⟩
theorem en_123 : Enters Try.prog 123 := ⟨_, Try.func123, by kernel_rfl, by kernel_rfl⟩
theorem en_124 : Enters Try.prog 124 := ⟨_, Try.func124, by kernel_rfl, by kernel_rfl⟩
theorem en_125 : Enters Try.prog 125 := ⟨_, Try.func125, by kernel_rfl, by kernel_rfl⟩
theorem en_126 : Enters Try.prog 126 := ⟨_, Try.func126, by kernel_rfl, by kernel_rfl⟩
theorem en_127 : Enters Try.prog 127 := ⟨_, Try.func127, by kernel_rfl, by kernel_rfl⟩
theorem en_128 : Enters Try.prog 128 := ⟨_, Try.func128, by kernel_rfl, by kernel_rfl⟩
theorem en_129 : Enters Try.prog 129 := ⟨_, Try.func129, by kernel_rfl, by kernel_rfl⟩
theorem en_130 : Enters Try.prog 130 := ⟨_, Try.func130, by kernel_rfl, by kernel_rfl⟩
theorem en_131 : Enters Try.prog 131 := ⟨_, Try.func131, by kernel_rfl, by kernel_rfl⟩
theorem en_132 : Enters Try.prog 132 := ⟨_, Try.func132, by kernel_rfl, by kernel_rfl⟩
theorem en_133 : Enters Try.prog 133 := ⟨_, Try.func133, by kernel_rfl, by kernel_rfl⟩
theorem en_134 : Enters Try.prog 134 := ⟨_, Try.func134, by kernel_rfl, by kernel_rfl⟩
theorem en_135 : Enters Try.prog 135 := ⟨_, Try.func135, by kernel_rfl, by kernel_rfl⟩
theorem en_136 : Enters Try.prog 136 := ⟨_, Try.func136, by kernel_rfl, by kernel_rfl⟩
theorem en_137 : Enters Try.prog 137 := ⟨_, Try.func137, by kernel_rfl, by kernel_rfl⟩
theorem en_138 : Enters Try.prog 138 := ⟨_, Try.func138, by kernel_rfl, by kernel_rfl⟩
theorem en_139 : Enters Try.prog 139 := ⟨_, Try.func139, by kernel_rfl, by kernel_rfl⟩
theorem en_140 : Enters Try.prog 140 := ⟨_, Try.func140, by kernel_rfl, by kernel_rfl⟩
theorem en_141 : Enters Try.prog 141 := ⟨_, Try.func141, by kernel_rfl, by kernel_rfl⟩
theorem en_142 : Enters Try.prog 142 := ⟨_, Try.func142, by kernel_rfl, by kernel_rfl⟩
theorem en_143 : Enters Try.prog 143 := ⟨_, Try.func143, by kernel_rfl, by kernel_rfl⟩
theorem en_144 : Enters Try.prog 144 := ⟨_, Try.func144, by kernel_rfl, by kernel_rfl⟩
theorem en_145 : Enters Try.prog 145 := ⟨_, Try.func145, by kernel_rfl, by kernel_rfl⟩
theorem en_146 : Enters Try.prog 146 := ⟨_, Try.func146, by kernel_rfl, by kernel_rfl⟩
theorem en_147 : Enters Try.prog 147 := ⟨_, Try.func147, by kernel_rfl, by kernel_rfl⟩
theorem en_148 : Enters Try.prog 148 := ⟨_, Try.func148, by kernel_rfl, by kernel_rfl⟩
theorem en_149 : Enters Try.prog 149 := ⟨_, Try.func149, by kernel_rfl, by kernel_rfl⟩
theorem en_150 : Enters Try.prog 150 := ⟨_, Try.func150, by kernel_rfl, by kernel_rfl⟩
theorem en_151 : Enters Try.prog 151 := ⟨_, Try.func151, by kernel_rfl, by kernel_rfl⟩
theorem en_152 : Enters Try.prog 152 := ⟨_, Try.func152, by kernel_rfl, by kernel_rfl⟩
theorem en_153 : Enters Try.prog 153 := ⟨_, Try.func153, by kernel_rfl, by kernel_rfl⟩
theorem en_154 : Enters Try.prog 154 := ⟨_, Try.func154, by kernel_rfl, by kernel_rfl⟩
theorem en_155 : Enters Try.prog 155 := ⟨_, Try.func155, by kernel_rfl, by kernel_rfl⟩
theorem en_156 : Enters Try.prog 156 := ⟨_, Try.func156, by kernel_rfl, by kernel_rfl⟩
theorem en_157 : Enters Try.prog 157 := ⟨_, Try.func157, by kernel_rfl, by kernel_rfl⟩
theorem en_158 : Enters Try.prog 158 := ⟨_, Try.func158, by kernel_rfl, by kernel_rfl⟩
theorem en_159 : Enters Try.prog 159 := ⟨_, Try.func159, by kernel_rfl, by kernel_rfl⟩
theorem en_160 : Enters Try.prog 160 := ⟨_, Try.func160, by kernel_rfl, by kernel_rfl⟩
theorem en_161 : Enters Try.prog 161 := ⟨_, Try.func161, by kernel_rfl, by kernel_rfl⟩
theorem en_162 : Enters Try.prog 162 := ⟨_, Try.func162, by kernel_rfl, by kernel_rfl⟩
theorem en_163 : Enters Try.prog 163 := ⟨_, Try.func163, by kernel_rfl, by kernel_rfl⟩
theorem en_164 : Enters Try.prog 164 := ⟨_, Try.func164, by kernel_rfl, by kernel_rfl⟩
theorem en_165 : Enters Try.prog 165 := ⟨_, Try.func165, by kernel_rfl, by kernel_rfl⟩
theorem en_166 : Enters Try.prog 166 := ⟨_, Try.func166, by kernel_rfl, by kernel_rfl⟩
theorem en_167 : Enters Try.prog 167 := ⟨_, Try.func167, by kernel_rfl, by kernel_rfl⟩
theorem en_168 : Enters Try.prog 168 := ⟨_, Try.func168, by kernel_rfl, by kernel_rfl⟩
theorem en_169 : Enters Try.prog 169 := ⟨_, Try.func169, by kernel_rfl, by kernel_rfl⟩
theorem en_170 : Enters Try.prog 170 := ⟨_, Try.func170, by kernel_rfl, by kernel_rfl⟩
theorem ex_171 : Extern1 Try.prog 171 sub64Entry := ⟨_, Try.func171, by kernel_rfl, by kernel_rfl, by kernel_rfl, by kernel_rfl⟩
theorem en_172 : Enters Try.prog 172 := ⟨_, Try.func172, by kernel_rfl, by kernel_rfl⟩
theorem en_173 : Enters Try.prog 173 := ⟨_, Try.func173, by kernel_rfl, by kernel_rfl⟩
theorem en_174 : Enters Try.prog 174 := ⟨_, Try.func174, by kernel_rfl, by kernel_rfl⟩
theorem en_175 : Enters Try.prog 175 := ⟨_, Try.func175, by kernel_rfl, by kernel_rfl⟩
theorem en_176 : Enters Try.prog 176 := ⟨_, Try.func176, by kernel_rfl, by kernel_rfl⟩
theorem en_177 : Enters Try.prog 177 := ⟨_, Try.func177, by kernel_rfl, by kernel_rfl⟩
theorem en_178 : Enters Try.prog 178 := ⟨_, Try.func178, by kernel_rfl, by kernel_rfl⟩
theorem en_179 : Enters Try.prog 179 := ⟨_, Try.func179, by kernel_rfl, by kernel_rfl⟩
theorem en_180 : Enters Try.prog 180 := ⟨_, Try.func180, by kernel_rfl, by kernel_rfl⟩
theorem en_181 : Enters Try.prog 181 := ⟨_, Try.func181, by kernel_rfl, by kernel_rfl⟩
theorem en_182 : Enters Try.prog 182 := ⟨_, Try.func182, by kernel_rfl, by kernel_rfl⟩
theorem en_183 : Enters Try.prog 183 := ⟨_, Try.func183, by kernel_rfl, by kernel_rfl⟩
theorem ex_184 : Extern1 Try.prog 184 add64Entry := ⟨_, Try.func184, by kernel_rfl, by kernel_rfl, by kernel_rfl, by kernel_rfl⟩
theorem en_185 : Enters Try.prog 185 := ⟨_, Try.func185, by kernel_rfl, by kernel_rfl⟩
theorem en_186 : Enters Try.prog 186 := ⟨_, Try.func186, by kernel_rfl, by kernel_rfl⟩
theorem en_187 : Enters Try.prog 187 := ⟨_, Try.func187, by kernel_rfl, by kernel_rfl⟩
theorem en_188 : Enters Try.prog 188 := ⟨_, Try.func188, by kernel_rfl, by kernel_rfl⟩
theorem en_189 : Enters Try.prog 189 := ⟨_, Try.func189, by kernel_rfl, by kernel_rfl⟩
theorem en_190 : Enters Try.prog 190 := ⟨_, Try.func190, by kernel_rfl, by kernel_rfl⟩
theorem en_191 : Enters Try.prog 191 := ⟨_, Try.func191, by kernel_rfl, by kernel_rfl⟩
theorem en_192 : Enters Try.prog 192 := ⟨_, Try.func192, by kernel_rfl, by kernel_rfl⟩
theorem en_193 : Enters Try.prog 193 := ⟨_, Try.func193, by kernel_rfl, by kernel_rfl⟩
theorem en_194 : Enters Try.prog 194 := ⟨_, Try.func194, by kernel_rfl, by kernel_rfl⟩
theorem en_195 : Enters Try.prog 195 := ⟨_, Try.func195, by kernel_rfl, by kernel_rfl⟩
theorem en_196 : Enters Try.prog 196 := ⟨_, Try.func196, by kernel_rfl, by kernel_rfl⟩
theorem en_197 : Enters Try.prog 197 := ⟨_, Try.func197, by kernel_rfl, by kernel_rfl⟩
end Go.Proofs.Ytljblbgogjieaaa
