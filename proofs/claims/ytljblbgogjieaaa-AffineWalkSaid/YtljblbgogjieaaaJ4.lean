/- Part 4 of what the proof leans on: a symbolic execution of the model, walks of the program's functions, and the mathematics. No condition. -/
import Derived.WalkKit
import Derived.Orders
import Derived.Laws.StructEq
import Derived.WalkSpells
import Derived.OrdersHeld
import Derived.KernelRfl
import Derived.Laws.Externs
import Derived.Laws.Bits64
import Derived.Laws.MakeOwn
import Derived.Laws.BytesString
import Derived.Carry
import Derived.WideShapes
import GoSem.Claim
import Derived.Test.YtljblbgogjieaaaProg
import Derived.Laws.AppendOwn
import Derived.Test.YtljblbgogjieaaaRows
import Derived.ProofKit
import Derived.OpenShut
import Derived.Test.YtljblbgogjieaaaJ3
set_option linter.unusedVariables false
set_option linter.unusedSimpArgs false
set_option maxRecDepth 20000
namespace Go.Proofs.Ytljblbgogjieaaa
open Go Go.RowKit
def cvC (id:Nat) (p:Nat) (a:Nat) (b:Nat) (n:Nat) (gx gy:Nat) (inf:Bool) (bits:Nat) (size:Nat) (leg:Bool) (F:Value) (t3:Nat):List Value:=[.int .i64 ((id:Nat):Int)]++(natL p++(natL a++(natL b++(natL n++(ptL gx gy inf++([.int .i64 ((bits:Nat):Int)]++([.int .i64 ((size:Nat):Int)]++([.bool leg]++([F]++(natL t3))))))))))
theorem cvC_at_id (id:Nat) (p:Nat) (a:Nat) (b:Nat) (n:Nat) (gx gy:Nat) (inf:Bool) (bits:Nat) (size:Nat) (leg:Bool) (F:Value) (t3:Nat):cvC id p a b n gx gy inf bits size leg F t3 = ([])++(([.int .i64 ((id:Nat):Int)])++(natL p++(natL a++(natL b++(natL n++(ptL gx gy inf++([.int .i64 ((bits:Nat):Int)]++([.int .i64 ((size:Nat):Int)]++([.bool leg]++([F]++(natL t3))))))))))):=by simp only [cvC,List.append_assoc,List.append_nil,List.nil_append]
theorem cvC_len_id  : ([]:List Value).length = 0:=by simp [KF,KS]
theorem cvC_set_id (id:Nat) (p:Nat) (a:Nat) (b:Nat) (n:Nat) (gx gy:Nat) (inf:Bool) (bits:Nat) (size:Nat) (leg:Bool) (F:Value) (t3:Nat) (id':Nat):splice (cvC id p a b n gx gy inf bits size leg F t3) 0 ([.int .i64 ((id':Nat):Int)]) = cvC id' p a b n gx gy inf bits size leg F t3:=splice_mid (cvC_at_id id p a b n gx gy inf bits size leg F t3) (cvC_len_id) (by simp [KF,KS]) (cvC_at_id id' p a b n gx gy inf bits size leg F t3)
theorem cvC_at_p (id:Nat) (p:Nat) (a:Nat) (b:Nat) (n:Nat) (gx gy:Nat) (inf:Bool) (bits:Nat) (size:Nat) (leg:Bool) (F:Value) (t3:Nat):cvC id p a b n gx gy inf bits size leg F t3 = ([.int .i64 ((id:Nat):Int)])++((natL p)++(natL a++(natL b++(natL n++(ptL gx gy inf++([.int .i64 ((bits:Nat):Int)]++([.int .i64 ((size:Nat):Int)]++([.bool leg]++([F]++(natL t3)))))))))):=by simp only [cvC,List.append_assoc,List.append_nil,List.nil_append]
theorem cvC_len_p (id:Nat):([.int .i64 ((id:Nat):Int)]:List Value).length = 1:=by simp [KF,KS]
theorem cvC_set_p (id:Nat) (p:Nat) (a:Nat) (b:Nat) (n:Nat) (gx gy:Nat) (inf:Bool) (bits:Nat) (size:Nat) (leg:Bool) (F:Value) (t3:Nat) (p':Nat):splice (cvC id p a b n gx gy inf bits size leg F t3) 1 (natL p') = cvC id p' a b n gx gy inf bits size leg F t3:=splice_mid (cvC_at_p id p a b n gx gy inf bits size leg F t3) (cvC_len_p id) (by simp [KF,KS]) (cvC_at_p id p' a b n gx gy inf bits size leg F t3)
theorem cvC_at_a (id:Nat) (p:Nat) (a:Nat) (b:Nat) (n:Nat) (gx gy:Nat) (inf:Bool) (bits:Nat) (size:Nat) (leg:Bool) (F:Value) (t3:Nat):cvC id p a b n gx gy inf bits size leg F t3 = ([.int .i64 ((id:Nat):Int)]++(natL p))++((natL a)++(natL b++(natL n++(ptL gx gy inf++([.int .i64 ((bits:Nat):Int)]++([.int .i64 ((size:Nat):Int)]++([.bool leg]++([F]++(natL t3))))))))):=by simp only [cvC,List.append_assoc,List.append_nil,List.nil_append]
theorem cvC_len_a (id:Nat) (p:Nat):([.int .i64 ((id:Nat):Int)]++(natL p):List Value).length = 10:=by simp [KF,KS]
theorem cvC_set_a (id:Nat) (p:Nat) (a:Nat) (b:Nat) (n:Nat) (gx gy:Nat) (inf:Bool) (bits:Nat) (size:Nat) (leg:Bool) (F:Value) (t3:Nat) (a':Nat):splice (cvC id p a b n gx gy inf bits size leg F t3) 10 (natL a') = cvC id p a' b n gx gy inf bits size leg F t3:=splice_mid (cvC_at_a id p a b n gx gy inf bits size leg F t3) (cvC_len_a id p) (by simp [KF,KS]) (cvC_at_a id p a' b n gx gy inf bits size leg F t3)
theorem cvC_at_b (id:Nat) (p:Nat) (a:Nat) (b:Nat) (n:Nat) (gx gy:Nat) (inf:Bool) (bits:Nat) (size:Nat) (leg:Bool) (F:Value) (t3:Nat):cvC id p a b n gx gy inf bits size leg F t3 = ([.int .i64 ((id:Nat):Int)]++(natL p++(natL a)))++((natL b)++(natL n++(ptL gx gy inf++([.int .i64 ((bits:Nat):Int)]++([.int .i64 ((size:Nat):Int)]++([.bool leg]++([F]++(natL t3)))))))):=by simp only [cvC,List.append_assoc,List.append_nil,List.nil_append]
theorem cvC_len_b (id:Nat) (p:Nat) (a:Nat):([.int .i64 ((id:Nat):Int)]++(natL p++(natL a)):List Value).length = 19:=by simp [KF,KS]
theorem cvC_set_b (id:Nat) (p:Nat) (a:Nat) (b:Nat) (n:Nat) (gx gy:Nat) (inf:Bool) (bits:Nat) (size:Nat) (leg:Bool) (F:Value) (t3:Nat) (b':Nat):splice (cvC id p a b n gx gy inf bits size leg F t3) 19 (natL b') = cvC id p a b' n gx gy inf bits size leg F t3:=splice_mid (cvC_at_b id p a b n gx gy inf bits size leg F t3) (cvC_len_b id p a) (by simp [KF,KS]) (cvC_at_b id p a b' n gx gy inf bits size leg F t3)
theorem cvC_at_n (id:Nat) (p:Nat) (a:Nat) (b:Nat) (n:Nat) (gx gy:Nat) (inf:Bool) (bits:Nat) (size:Nat) (leg:Bool) (F:Value) (t3:Nat):cvC id p a b n gx gy inf bits size leg F t3 = ([.int .i64 ((id:Nat):Int)]++(natL p++(natL a++(natL b))))++((natL n)++(ptL gx gy inf++([.int .i64 ((bits:Nat):Int)]++([.int .i64 ((size:Nat):Int)]++([.bool leg]++([F]++(natL t3))))))):=by simp only [cvC,List.append_assoc,List.append_nil,List.nil_append]
theorem cvC_len_n (id:Nat) (p:Nat) (a:Nat) (b:Nat):([.int .i64 ((id:Nat):Int)]++(natL p++(natL a++(natL b))):List Value).length = 28:=by simp [KF,KS]
theorem cvC_set_n (id:Nat) (p:Nat) (a:Nat) (b:Nat) (n:Nat) (gx gy:Nat) (inf:Bool) (bits:Nat) (size:Nat) (leg:Bool) (F:Value) (t3:Nat) (n':Nat):splice (cvC id p a b n gx gy inf bits size leg F t3) 28 (natL n') = cvC id p a b n' gx gy inf bits size leg F t3:=splice_mid (cvC_at_n id p a b n gx gy inf bits size leg F t3) (cvC_len_n id p a b) (by simp [KF,KS]) (cvC_at_n id p a b n' gx gy inf bits size leg F t3)
theorem cvC_at_g (id:Nat) (p:Nat) (a:Nat) (b:Nat) (n:Nat) (gx gy:Nat) (inf:Bool) (bits:Nat) (size:Nat) (leg:Bool) (F:Value) (t3:Nat):cvC id p a b n gx gy inf bits size leg F t3 = ([.int .i64 ((id:Nat):Int)]++(natL p++(natL a++(natL b++(natL n)))))++((ptL gx gy inf)++([.int .i64 ((bits:Nat):Int)]++([.int .i64 ((size:Nat):Int)]++([.bool leg]++([F]++(natL t3)))))):=by simp only [cvC,List.append_assoc,List.append_nil,List.nil_append]
theorem cvC_len_g (id:Nat) (p:Nat) (a:Nat) (b:Nat) (n:Nat):([.int .i64 ((id:Nat):Int)]++(natL p++(natL a++(natL b++(natL n)))):List Value).length = 37:=by simp [KF,KS]
theorem cvC_set_g (id:Nat) (p:Nat) (a:Nat) (b:Nat) (n:Nat) (gx gy:Nat) (inf:Bool) (bits:Nat) (size:Nat) (leg:Bool) (F:Value) (t3:Nat) (gx' gy':Nat) (inf':Bool):splice (cvC id p a b n gx gy inf bits size leg F t3) 37 (ptL gx' gy' inf') = cvC id p a b n gx' gy' inf' bits size leg F t3:=splice_mid (cvC_at_g id p a b n gx gy inf bits size leg F t3) (cvC_len_g id p a b n) (by simp [KF,KS]) (cvC_at_g id p a b n gx' gy' inf' bits size leg F t3)
theorem cvC_at_bits (id:Nat) (p:Nat) (a:Nat) (b:Nat) (n:Nat) (gx gy:Nat) (inf:Bool) (bits:Nat) (size:Nat) (leg:Bool) (F:Value) (t3:Nat):cvC id p a b n gx gy inf bits size leg F t3 = ([.int .i64 ((id:Nat):Int)]++(natL p++(natL a++(natL b++(natL n++(ptL gx gy inf))))))++(([.int .i64 ((bits:Nat):Int)])++([.int .i64 ((size:Nat):Int)]++([.bool leg]++([F]++(natL t3))))):=by simp only [cvC,List.append_assoc,List.append_nil,List.nil_append]
theorem cvC_len_bits (id:Nat) (p:Nat) (a:Nat) (b:Nat) (n:Nat) (gx gy:Nat) (inf:Bool):([.int .i64 ((id:Nat):Int)]++(natL p++(natL a++(natL b++(natL n++(ptL gx gy inf))))):List Value).length = 56:=by simp [KF,KS]
theorem cvC_set_bits (id:Nat) (p:Nat) (a:Nat) (b:Nat) (n:Nat) (gx gy:Nat) (inf:Bool) (bits:Nat) (size:Nat) (leg:Bool) (F:Value) (t3:Nat) (bits':Nat):splice (cvC id p a b n gx gy inf bits size leg F t3) 56 ([.int .i64 ((bits':Nat):Int)]) = cvC id p a b n gx gy inf bits' size leg F t3:=splice_mid (cvC_at_bits id p a b n gx gy inf bits size leg F t3) (cvC_len_bits id p a b n gx gy inf) (by simp [KF,KS]) (cvC_at_bits id p a b n gx gy inf bits' size leg F t3)
theorem cvC_at_size (id:Nat) (p:Nat) (a:Nat) (b:Nat) (n:Nat) (gx gy:Nat) (inf:Bool) (bits:Nat) (size:Nat) (leg:Bool) (F:Value) (t3:Nat):cvC id p a b n gx gy inf bits size leg F t3 = ([.int .i64 ((id:Nat):Int)]++(natL p++(natL a++(natL b++(natL n++(ptL gx gy inf++([.int .i64 ((bits:Nat):Int)])))))))++(([.int .i64 ((size:Nat):Int)])++([.bool leg]++([F]++(natL t3)))):=by simp only [cvC,List.append_assoc,List.append_nil,List.nil_append]
theorem cvC_len_size (id:Nat) (p:Nat) (a:Nat) (b:Nat) (n:Nat) (gx gy:Nat) (inf:Bool) (bits:Nat):([.int .i64 ((id:Nat):Int)]++(natL p++(natL a++(natL b++(natL n++(ptL gx gy inf++([.int .i64 ((bits:Nat):Int)])))))):List Value).length = 57:=by simp [KF,KS]
theorem cvC_set_size (id:Nat) (p:Nat) (a:Nat) (b:Nat) (n:Nat) (gx gy:Nat) (inf:Bool) (bits:Nat) (size:Nat) (leg:Bool) (F:Value) (t3:Nat) (size':Nat):splice (cvC id p a b n gx gy inf bits size leg F t3) 57 ([.int .i64 ((size':Nat):Int)]) = cvC id p a b n gx gy inf bits size' leg F t3:=splice_mid (cvC_at_size id p a b n gx gy inf bits size leg F t3) (cvC_len_size id p a b n gx gy inf bits) (by simp [KF,KS]) (cvC_at_size id p a b n gx gy inf bits size' leg F t3)
theorem cvC_at_leg (id:Nat) (p:Nat) (a:Nat) (b:Nat) (n:Nat) (gx gy:Nat) (inf:Bool) (bits:Nat) (size:Nat) (leg:Bool) (F:Value) (t3:Nat):cvC id p a b n gx gy inf bits size leg F t3 = ([.int .i64 ((id:Nat):Int)]++(natL p++(natL a++(natL b++(natL n++(ptL gx gy inf++([.int .i64 ((bits:Nat):Int)]++([.int .i64 ((size:Nat):Int)]))))))))++(([.bool leg])++([F]++(natL t3))):=by simp only [cvC,List.append_assoc,List.append_nil,List.nil_append]
theorem cvC_len_leg (id:Nat) (p:Nat) (a:Nat) (b:Nat) (n:Nat) (gx gy:Nat) (inf:Bool) (bits:Nat) (size:Nat):([.int .i64 ((id:Nat):Int)]++(natL p++(natL a++(natL b++(natL n++(ptL gx gy inf++([.int .i64 ((bits:Nat):Int)]++([.int .i64 ((size:Nat):Int)]))))))):List Value).length = 58:=by simp [KF,KS]
theorem cvC_set_leg (id:Nat) (p:Nat) (a:Nat) (b:Nat) (n:Nat) (gx gy:Nat) (inf:Bool) (bits:Nat) (size:Nat) (leg:Bool) (F:Value) (t3:Nat) (leg':Bool):splice (cvC id p a b n gx gy inf bits size leg F t3) 58 ([.bool leg']) = cvC id p a b n gx gy inf bits size leg' F t3:=splice_mid (cvC_at_leg id p a b n gx gy inf bits size leg F t3) (cvC_len_leg id p a b n gx gy inf bits size) (by simp [KF,KS]) (cvC_at_leg id p a b n gx gy inf bits size leg' F t3)
theorem cvC_at_F (id:Nat) (p:Nat) (a:Nat) (b:Nat) (n:Nat) (gx gy:Nat) (inf:Bool) (bits:Nat) (size:Nat) (leg:Bool) (F:Value) (t3:Nat):cvC id p a b n gx gy inf bits size leg F t3 = ([.int .i64 ((id:Nat):Int)]++(natL p++(natL a++(natL b++(natL n++(ptL gx gy inf++([.int .i64 ((bits:Nat):Int)]++([.int .i64 ((size:Nat):Int)]++([.bool leg])))))))))++(([F])++(natL t3)):=by simp only [cvC,List.append_assoc,List.append_nil,List.nil_append]
theorem cvC_len_F (id:Nat) (p:Nat) (a:Nat) (b:Nat) (n:Nat) (gx gy:Nat) (inf:Bool) (bits:Nat) (size:Nat) (leg:Bool):([.int .i64 ((id:Nat):Int)]++(natL p++(natL a++(natL b++(natL n++(ptL gx gy inf++([.int .i64 ((bits:Nat):Int)]++([.int .i64 ((size:Nat):Int)]++([.bool leg])))))))):List Value).length = 59:=by simp [KF,KS]
theorem cvC_at_t3 (id:Nat) (p:Nat) (a:Nat) (b:Nat) (n:Nat) (gx gy:Nat) (inf:Bool) (bits:Nat) (size:Nat) (leg:Bool) (F:Value) (t3:Nat):cvC id p a b n gx gy inf bits size leg F t3 = ([.int .i64 ((id:Nat):Int)]++(natL p++(natL a++(natL b++(natL n++(ptL gx gy inf++([.int .i64 ((bits:Nat):Int)]++([.int .i64 ((size:Nat):Int)]++([.bool leg]++([F]))))))))))++((natL t3)++([])):=by simp only [cvC,List.append_assoc,List.append_nil,List.nil_append]
theorem cvC_len_t3 (id:Nat) (p:Nat) (a:Nat) (b:Nat) (n:Nat) (gx gy:Nat) (inf:Bool) (bits:Nat) (size:Nat) (leg:Bool) (F:Value):([.int .i64 ((id:Nat):Int)]++(natL p++(natL a++(natL b++(natL n++(ptL gx gy inf++([.int .i64 ((bits:Nat):Int)]++([.int .i64 ((size:Nat):Int)]++([.bool leg]++([F]))))))))):List Value).length = 60:=by simp [KF,KS]
theorem cvC_set_t3 (id:Nat) (p:Nat) (a:Nat) (b:Nat) (n:Nat) (gx gy:Nat) (inf:Bool) (bits:Nat) (size:Nat) (leg:Bool) (F:Value) (t3:Nat) (t3':Nat):splice (cvC id p a b n gx gy inf bits size leg F t3) 60 (natL t3') = cvC id p a b n gx gy inf bits size leg F t3':=splice_mid (cvC_at_t3 id p a b n gx gy inf bits size leg F t3) (cvC_len_t3 id p a b n gx gy inf bits size leg F) (by simp [KF,KS]) (cvC_at_t3 id p a b n gx gy inf bits size leg F t3')
theorem KAY (id:Nat) (p:Nat) (a:Nat) (b:Nat) (n:Nat) (gx gy:Nat) (inf:Bool) (bits:Nat) (size:Nat) (leg:Bool) (F:Value) (t3:Nat):(cvC id p a b n gx gy inf bits size leg F t3).length = 69:=by simp [cvC,KF,KS]
theorem cvC_zero:([Value.int .i64 ((0:Nat):Int)]++(vec .u64 9 (fun _=>0)++(vec .u64 9 (fun _=>0)++(vec .u64 9 (fun _=>0)++(vec .u64 9 (fun _=>0)++(vec .u64 9 (fun _=>0)++(vec .u64 9 (fun _=>0)++([Value.bool false,Value.int .i64 ((0:Nat):Int),Value.int .i64 ((0:Nat):Int),Value.bool false,Value.pointer none]++(vec .u64 9 (fun _=>0))))))))):List Value) = cvC 0 0 0 0 0 0 0 false 0 0 false (.pointer none) 0:=by
  simp only [cvC,natL,ptL,vec_zeros 9,List.append_assoc,List.cons_append,List.nil_append]
theorem fillF (F:Value) (h1:F.cells = #[F]):fillL [(0,59),(59,1),(60,9)] ([Value.int .i64 ((0:Nat):Int)]++(vec .u64 9 (fun _=>0)++(vec .u64 9 (fun _=>0)++(vec .u64 9 (fun _=>0)++(vec .u64 9 (fun _=>0)++(vec .u64 9 (fun _=>0)++(vec .u64 9 (fun _=>0)++([Value.bool false,Value.int .i64 ((0:Nat):Int),Value.int .i64 ((0:Nat):Int),Value.bool false,Value.pointer none]++(vec .u64 9 (fun _=>0))))))))) ) [(1,F)] = some (cvC 0 0 0 0 0 0 0 false 0 0 false F 0):=by
  rw [cvC_zero]
  refine KAX (cs:=[F]) rfl (by rw [h1]) rfl (cvC_at_F _ _ _ _ _ _ _ _ _ _ _ _ _) (cvC_len_F _ _ _ _ _ _ _ _ _ _ _) rfl ?_
  unfold fillL
  rw [cvC_at_F]
theorem cvC_ld_a (id:Nat) (p:Nat) (a:Nat) (b:Nat) (n:Nat) (gx gy:Nat) (inf:Bool) (bits:Nat) (size:Nat) (leg:Bool) (F:Value) (t3:Nat) (wr:Bool) (e:TypeId) (fz:Nat×Nat):LoadV Try.prog 25 ⟨wr,cvC id p a b n gx gy inf bits size leg F t3,e,fz⟩ 10 (.agg (natL a).toArray):=LoadV.mid Try.underlying25 rfl sz_25 (cvC_at_a id p a b n gx gy inf bits size leg F t3) (cvC_len_a id p) (by simp [KF,KS])
theorem cvC_ld_b (id:Nat) (p:Nat) (a:Nat) (b:Nat) (n:Nat) (gx gy:Nat) (inf:Bool) (bits:Nat) (size:Nat) (leg:Bool) (F:Value) (t3:Nat) (wr:Bool) (e:TypeId) (fz:Nat×Nat):LoadV Try.prog 25 ⟨wr,cvC id p a b n gx gy inf bits size leg F t3,e,fz⟩ 19 (.agg (natL b).toArray):=LoadV.mid Try.underlying25 rfl sz_25 (cvC_at_b id p a b n gx gy inf bits size leg F t3) (cvC_len_b id p a) (by simp [KF,KS])
theorem cvC_ld_n (id:Nat) (p:Nat) (a:Nat) (b:Nat) (n:Nat) (gx gy:Nat) (inf:Bool) (bits:Nat) (size:Nat) (leg:Bool) (F:Value) (t3:Nat) (wr:Bool) (e:TypeId) (fz:Nat×Nat):LoadV Try.prog 25 ⟨wr,cvC id p a b n gx gy inf bits size leg F t3,e,fz⟩ 28 (.agg (natL n).toArray):=LoadV.mid Try.underlying25 rfl sz_25 (cvC_at_n id p a b n gx gy inf bits size leg F t3) (cvC_len_n id p a b) (by simp [KF,KS])
theorem cvC_gt_F (id:Nat) (p:Nat) (a:Nat) (b:Nat) (n:Nat) (gx gy:Nat) (inf:Bool) (bits:Nat) (size:Nat) (leg:Bool) (F:Value) (t3:Nat):(cvC id p a b n gx gy inf bits size leg F t3)[59]? = some (F):=get_mid (cvC_at_F id p a b n gx gy inf bits size leg F t3) (cvC_len_F id p a b n gx gy inf bits size leg)
theorem cvC_ld_t3 (id:Nat) (p:Nat) (a:Nat) (b:Nat) (n:Nat) (gx gy:Nat) (inf:Bool) (bits:Nat) (size:Nat) (leg:Bool) (F:Value) (t3:Nat) (wr:Bool) (e:TypeId) (fz:Nat×Nat):LoadV Try.prog 25 ⟨wr,cvC id p a b n gx gy inf bits size leg F t3,e,fz⟩ 60 (.agg (natL t3).toArray):=LoadV.mid Try.underlying25 rfl sz_25 (cvC_at_t3 id p a b n gx gy inf bits size leg F t3) (cvC_len_t3 id p a b n gx gy inf bits size leg F) (by simp [KF,KS])
def rowsB (V:Cv) (s0 s1 s2 s3 s4:ByteArray):Bool:=(if s0.data.toList = [45,51] then Nat.beq (V.a+3) V.p else hexB s0 V.a) && hexB s1 V.b && hexB s2 V.n && hexB s3 V.x && hexB s4 V.y
theorem rowsB_spec {V:Cv} {s0 s1 s2 s3 s4:ByteArray} (h:rowsB V s0 s1 s2 s3 s4 = true):((s0.data.toList = [45,51]∧V.a+3 = V.p)∨(s0.data.toList≠[45,51]∧hexB s0 V.a = true))∧hexB s1 V.b = true∧hexB s2 V.n = true∧hexB s3 V.x = true∧hexB s4 V.y = true:=by
  simp only [rowsB,Bool.and_eq_true] at h
  obtain ⟨⟨⟨⟨h1,h2⟩,h3⟩,h4⟩,h5⟩:=h
  refine ⟨?_,h2,h3,h4,h5⟩
  split at h1
  · exact .inl ⟨by assumption,Nat.eq_of_beq_eq_true h1⟩
  · exact .inr ⟨by assumption,h1⟩
theorem c_rows (id:Int) (w:World)  : Calls Try.prog 147 ([.int .i64 id]:List Value).toArray w (fun e w'=>(∃ V,cvI id = some V∧∃ v,(∃ s0 s1 s2 s3 s4,v = .agg [.string s0,.string s1,.string s2,.string s3,.string s4].toArray∧rowsB V s0 s1 s2 s3 s4 = true)∧e = .returned v∧Below w.heap.size w w')∨cvI id = none):=by
  refine Kw (N:=50) (rs:=[.cell 2 188]) [] Try.func147 rfl Try.ntmps147 Try.results147 (Nb rfl) trivial rfl ?_
  show LCode _ _ _ ⟨_,_⟩ _
  refine KD (KB ?_)
  refine KK rfl (KX (KQ (Kd zr_188) (Nb rfl) (fun b2=>?_)))
  refine KG ?_
  refine KD ?_
  refine KD (KB ?_)
  refine KA (KE rfl) (Nb rfl) ?_
  refine KG ?_
  refine LCode.block ?_
  refine KD (KB ?_)
  refine KA (KP (v:=.bool (decide (id = 1))) rfl rfl KAV) (Nb rfl) ?_
  refine KA (KH rfl) (Nb rfl) ?_
  refine KG ?_
  first|refine Kf rfl (fun hk1=>?_) (fun hk1=>?_)|refine Ki rfl (fun hk1=>?_) (fun hk1=>?_)
  ·
    refine KD (KB ?_)
    refine KA (Det.buildN (n:=5) pl_188 zr_188 rfl rfl rfl rfl rfl) (Nb rfl) ?_
    refine KK rfl (KO rfl rfl sz_188 (by repeat (first|exact KV|refine KR rfl ?_)) (by repeat (first|exact Sh _|apply St_)) (by rfl) ?_)
    refine KG (KY ?_)
    refine ⟨[_],.cons ⟨_,_,_,rfl,(by repeat (first|exact Mh _|apply Mt)),by exact KL Try.underlying188 rfl sz_188⟩ .nil,fun a w' hr=>?_⟩
    exact .inl ⟨cv1,by rw [hk1]; rfl,_,⟨_,_,_,_,_,rfl,by kernel_rfl⟩,rfl,hr.fr.below⟩
  ·
    refine KD (KB ?_)
    refine KA (KP (v:=.bool (decide (id = 2))) rfl rfl KAV) (Nb rfl) ?_
    refine KA (KH rfl) (Nb rfl) ?_
    refine KG ?_
    first|refine Kf rfl (fun hk2=>?_) (fun hk2=>?_)|refine Ki rfl (fun hk2=>?_) (fun hk2=>?_)
    ·
      refine KD (KB ?_)
      refine KA (Det.buildN (n:=5) pl_188 zr_188 rfl rfl rfl rfl rfl) (Nb rfl) ?_
      refine KK rfl (KO rfl rfl sz_188 (by repeat (first|exact KV|refine KR rfl ?_)) (by repeat (first|exact Sh _|apply St_)) (by rfl) ?_)
      refine KG (KY ?_)
      refine ⟨[_],.cons ⟨_,_,_,rfl,(by repeat (first|exact Mh _|apply Mt)),by exact KL Try.underlying188 rfl sz_188⟩ .nil,fun a w' hr=>?_⟩
      exact .inl ⟨cv2,by rw [hk2]; rfl,_,⟨_,_,_,_,_,rfl,by kernel_rfl⟩,rfl,hr.fr.below⟩
    ·
      refine KD (KB ?_)
      refine KA (KP (v:=.bool (decide (id = 3))) rfl rfl KAV) (Nb rfl) ?_
      refine KA (KH rfl) (Nb rfl) ?_
      refine KG ?_
      first|refine Kf rfl (fun hk3=>?_) (fun hk3=>?_)|refine Ki rfl (fun hk3=>?_) (fun hk3=>?_)
      ·
        refine KD (KB ?_)
        refine KA (Det.buildN (n:=5) pl_188 zr_188 rfl rfl rfl rfl rfl) (Nb rfl) ?_
        refine KK rfl (KO rfl rfl sz_188 (by repeat (first|exact KV|refine KR rfl ?_)) (by repeat (first|exact Sh _|apply St_)) (by rfl) ?_)
        refine KG (KY ?_)
        refine ⟨[_],.cons ⟨_,_,_,rfl,(by repeat (first|exact Mh _|apply Mt)),by exact KL Try.underlying188 rfl sz_188⟩ .nil,fun a w' hr=>?_⟩
        exact .inl ⟨cv3,by rw [hk3]; rfl,_,⟨_,_,_,_,_,rfl,by kernel_rfl⟩,rfl,hr.fr.below⟩
      ·
        refine KD (KB ?_)
        refine KA (KP (v:=.bool (decide (id = 4))) rfl rfl KAV) (Nb rfl) ?_
        refine KA (KH rfl) (Nb rfl) ?_
        refine KG ?_
        first|refine Kf rfl (fun hk4=>?_) (fun hk4=>?_)|refine Ki rfl (fun hk4=>?_) (fun hk4=>?_)
        ·
          refine KD (KB ?_)
          refine KA (Det.buildN (n:=5) pl_188 zr_188 rfl rfl rfl rfl rfl) (Nb rfl) ?_
          refine KK rfl (KO rfl rfl sz_188 (by repeat (first|exact KV|refine KR rfl ?_)) (by repeat (first|exact Sh _|apply St_)) (by rfl) ?_)
          refine KG (KY ?_)
          refine ⟨[_],.cons ⟨_,_,_,rfl,(by repeat (first|exact Mh _|apply Mt)),by exact KL Try.underlying188 rfl sz_188⟩ .nil,fun a w' hr=>?_⟩
          exact .inl ⟨cv4,by rw [hk4]; rfl,_,⟨_,_,_,_,_,rfl,by kernel_rfl⟩,rfl,hr.fr.below⟩
        ·
          refine KD (KB ?_)
          refine KA (KP (v:=.bool (decide (id = 5))) rfl rfl KAV) (Nb rfl) ?_
          refine KA (KH rfl) (Nb rfl) ?_
          refine KG ?_
          first|refine Kf rfl (fun hk5=>?_) (fun hk5=>?_)|refine Ki rfl (fun hk5=>?_) (fun hk5=>?_)
          ·
            refine KD (KB ?_)
            refine KA (Det.buildN (n:=5) pl_188 zr_188 rfl rfl rfl rfl rfl) (Nb rfl) ?_
            refine KK rfl (KO rfl rfl sz_188 (by repeat (first|exact KV|refine KR rfl ?_)) (by repeat (first|exact Sh _|apply St_)) (by rfl) ?_)
            refine KG (KY ?_)
            refine ⟨[_],.cons ⟨_,_,_,rfl,(by repeat (first|exact Mh _|apply Mt)),by exact KL Try.underlying188 rfl sz_188⟩ .nil,fun a w' hr=>?_⟩
            exact .inl ⟨cv5,by rw [hk5]; rfl,_,⟨_,_,_,_,_,rfl,by kernel_rfl⟩,rfl,hr.fr.below⟩
          ·
            refine KD (KB ?_)
            refine KA (KP (v:=.bool (decide (id = 6))) rfl rfl KAV) (Nb rfl) ?_
            refine KA (KH rfl) (Nb rfl) ?_
            refine KG ?_
            first|refine Kf rfl (fun hk6=>?_) (fun hk6=>?_)|refine Ki rfl (fun hk6=>?_) (fun hk6=>?_)
            ·
              refine KD (KB ?_)
              refine KA (Det.buildN (n:=5) pl_188 zr_188 rfl rfl rfl rfl rfl) (Nb rfl) ?_
              refine KK rfl (KO rfl rfl sz_188 (by repeat (first|exact KV|refine KR rfl ?_)) (by repeat (first|exact Sh _|apply St_)) (by rfl) ?_)
              refine KG (KY ?_)
              refine ⟨[_],.cons ⟨_,_,_,rfl,(by repeat (first|exact Mh _|apply Mt)),by exact KL Try.underlying188 rfl sz_188⟩ .nil,fun a w' hr=>?_⟩
              exact .inl ⟨cv6,by rw [hk6]; rfl,_,⟨_,_,_,_,_,rfl,by kernel_rfl⟩,rfl,hr.fr.below⟩
            ·
              refine KD (KB ?_)
              refine KA (KP (v:=.bool (decide (id = 7))) rfl rfl KAV) (Nb rfl) ?_
              refine KA (KH rfl) (Nb rfl) ?_
              refine KG ?_
              first|refine Kf rfl (fun hk7=>?_) (fun hk7=>?_)|refine Ki rfl (fun hk7=>?_) (fun hk7=>?_)
              ·
                refine KD (KB ?_)
                refine KA (Det.buildN (n:=5) pl_188 zr_188 rfl rfl rfl rfl rfl) (Nb rfl) ?_
                refine KK rfl (KO rfl rfl sz_188 (by repeat (first|exact KV|refine KR rfl ?_)) (by repeat (first|exact Sh _|apply St_)) (by rfl) ?_)
                refine KG (KY ?_)
                refine ⟨[_],.cons ⟨_,_,_,rfl,(by repeat (first|exact Mh _|apply Mt)),by exact KL Try.underlying188 rfl sz_188⟩ .nil,fun a w' hr=>?_⟩
                exact .inl ⟨cv7,by rw [hk7]; rfl,_,⟨_,_,_,_,_,rfl,by kernel_rfl⟩,rfl,hr.fr.below⟩
              ·
                refine KD (KB ?_)
                refine KA (KP (v:=.bool (decide (id = 8))) rfl rfl KAV) (Nb rfl) ?_
                refine KA (KH rfl) (Nb rfl) ?_
                refine KG ?_
                first|refine Kf rfl (fun hk8=>?_) (fun hk8=>?_)|refine Ki rfl (fun hk8=>?_) (fun hk8=>?_)
                ·
                  refine KD (KB ?_)
                  refine KA (Det.buildN (n:=5) pl_188 zr_188 rfl rfl rfl rfl rfl) (Nb rfl) ?_
                  refine KK rfl (KO rfl rfl sz_188 (by repeat (first|exact KV|refine KR rfl ?_)) (by repeat (first|exact Sh _|apply St_)) (by rfl) ?_)
                  refine KG (KY ?_)
                  refine ⟨[_],.cons ⟨_,_,_,rfl,(by repeat (first|exact Mh _|apply Mt)),by exact KL Try.underlying188 rfl sz_188⟩ .nil,fun a w' hr=>?_⟩
                  exact .inl ⟨cv8,by rw [hk8]; rfl,_,⟨_,_,_,_,_,rfl,by kernel_rfl⟩,rfl,hr.fr.below⟩
                ·
                  refine KD (KB ?_)
                  refine KA (KP (v:=.bool (decide (id = 9))) rfl rfl KAV) (Nb rfl) ?_
                  refine KA (KH rfl) (Nb rfl) ?_
                  refine KG ?_
                  first|refine Kf rfl (fun hk9=>?_) (fun hk9=>?_)|refine Ki rfl (fun hk9=>?_) (fun hk9=>?_)
                  ·
                    refine KD (KB ?_)
                    refine KA (Det.buildN (n:=5) pl_188 zr_188 rfl rfl rfl rfl rfl) (Nb rfl) ?_
                    refine KK rfl (KO rfl rfl sz_188 (by repeat (first|exact KV|refine KR rfl ?_)) (by repeat (first|exact Sh _|apply St_)) (by rfl) ?_)
                    refine KG (KY ?_)
                    refine ⟨[_],.cons ⟨_,_,_,rfl,(by repeat (first|exact Mh _|apply Mt)),by exact KL Try.underlying188 rfl sz_188⟩ .nil,fun a w' hr=>?_⟩
                    exact .inl ⟨cv9,by rw [hk9]; rfl,_,⟨_,_,_,_,_,rfl,by kernel_rfl⟩,rfl,hr.fr.below⟩
                  ·
                    refine KD (KB ?_)
                    refine KA (KP (v:=.bool (decide (id = 10))) rfl rfl KAV) (Nb rfl) ?_
                    refine KA (KH rfl) (Nb rfl) ?_
                    refine KG ?_
                    first|refine Kf rfl (fun hk10=>?_) (fun hk10=>?_)|refine Ki rfl (fun hk10=>?_) (fun hk10=>?_)
                    ·
                      refine KD (KB ?_)
                      refine KA (Det.buildN (n:=5) pl_188 zr_188 rfl rfl rfl rfl rfl) (Nb rfl) ?_
                      refine KK rfl (KO rfl rfl sz_188 (by repeat (first|exact KV|refine KR rfl ?_)) (by repeat (first|exact Sh _|apply St_)) (by rfl) ?_)
                      refine KG (KY ?_)
                      refine ⟨[_],.cons ⟨_,_,_,rfl,(by repeat (first|exact Mh _|apply Mt)),by exact KL Try.underlying188 rfl sz_188⟩ .nil,fun a w' hr=>?_⟩
                      exact .inl ⟨cv10,by rw [hk10]; rfl,_,⟨_,_,_,_,_,rfl,by kernel_rfl⟩,rfl,hr.fr.below⟩
                    ·
                      refine KD (KB ?_)
                      refine KA (KP (v:=.bool (decide (id = 11))) rfl rfl KAV) (Nb rfl) ?_
                      refine KA (KH rfl) (Nb rfl) ?_
                      refine KG ?_
                      first|refine Kf rfl (fun hk11=>?_) (fun hk11=>?_)|refine Ki rfl (fun hk11=>?_) (fun hk11=>?_)
                      ·
                        refine KD (KB ?_)
                        refine KA (Det.buildN (n:=5) pl_188 zr_188 rfl rfl rfl rfl rfl) (Nb rfl) ?_
                        refine KK rfl (KO rfl rfl sz_188 (by repeat (first|exact KV|refine KR rfl ?_)) (by repeat (first|exact Sh _|apply St_)) (by rfl) ?_)
                        refine KG (KY ?_)
                        refine ⟨[_],.cons ⟨_,_,_,rfl,(by repeat (first|exact Mh _|apply Mt)),by exact KL Try.underlying188 rfl sz_188⟩ .nil,fun a w' hr=>?_⟩
                        exact .inl ⟨cv11,by rw [hk11]; rfl,_,⟨_,_,_,_,_,rfl,by kernel_rfl⟩,rfl,hr.fr.below⟩
                      ·
                        refine KD (KB ?_)
                        refine KA (KP (v:=.bool (decide (id = 12))) rfl rfl KAV) (Nb rfl) ?_
                        refine KA (KH rfl) (Nb rfl) ?_
                        refine KG ?_
                        first|refine Kf rfl (fun hk12=>?_) (fun hk12=>?_)|refine Ki rfl (fun hk12=>?_) (fun hk12=>?_)
                        ·
                          refine KD (KB ?_)
                          refine KA (Det.buildN (n:=5) pl_188 zr_188 rfl rfl rfl rfl rfl) (Nb rfl) ?_
                          refine KK rfl (KO rfl rfl sz_188 (by repeat (first|exact KV|refine KR rfl ?_)) (by repeat (first|exact Sh _|apply St_)) (by rfl) ?_)
                          refine KG (KY ?_)
                          refine ⟨[_],.cons ⟨_,_,_,rfl,(by repeat (first|exact Mh _|apply Mt)),by exact KL Try.underlying188 rfl sz_188⟩ .nil,fun a w' hr=>?_⟩
                          exact .inl ⟨cv12,by rw [hk12]; rfl,_,⟨_,_,_,_,_,rfl,by kernel_rfl⟩,rfl,hr.fr.below⟩
                        ·
                          refine KD (KB ?_)
                          refine KA (KP (v:=.bool (decide (id = 13))) rfl rfl KAV) (Nb rfl) ?_
                          refine KA (KH rfl) (Nb rfl) ?_
                          refine KG ?_
                          first|refine Kf rfl (fun hk13=>?_) (fun hk13=>?_)|refine Ki rfl (fun hk13=>?_) (fun hk13=>?_)
                          ·
                            refine KD (KB ?_)
                            refine KA (Det.buildN (n:=5) pl_188 zr_188 rfl rfl rfl rfl rfl) (Nb rfl) ?_
                            refine KK rfl (KO rfl rfl sz_188 (by repeat (first|exact KV|refine KR rfl ?_)) (by repeat (first|exact Sh _|apply St_)) (by rfl) ?_)
                            refine KG (KY ?_)
                            refine ⟨[_],.cons ⟨_,_,_,rfl,(by repeat (first|exact Mh _|apply Mt)),by exact KL Try.underlying188 rfl sz_188⟩ .nil,fun a w' hr=>?_⟩
                            exact .inl ⟨cv13,by rw [hk13]; rfl,_,⟨_,_,_,_,_,rfl,by kernel_rfl⟩,rfl,hr.fr.below⟩
                          ·
                            refine KD (KB ?_)
                            refine KA (KP (v:=.bool (decide (id = 14))) rfl rfl KAV) (Nb rfl) ?_
                            refine KA (KH rfl) (Nb rfl) ?_
                            refine KG ?_
                            first|refine Kf rfl (fun hk14=>?_) (fun hk14=>?_)|refine Ki rfl (fun hk14=>?_) (fun hk14=>?_)
                            ·
                              refine KD (KB ?_)
                              refine KA (Det.buildN (n:=5) pl_188 zr_188 rfl rfl rfl rfl rfl) (Nb rfl) ?_
                              refine KK rfl (KO rfl rfl sz_188 (by repeat (first|exact KV|refine KR rfl ?_)) (by repeat (first|exact Sh _|apply St_)) (by rfl) ?_)
                              refine KG (KY ?_)
                              refine ⟨[_],.cons ⟨_,_,_,rfl,(by repeat (first|exact Mh _|apply Mt)),by exact KL Try.underlying188 rfl sz_188⟩ .nil,fun a w' hr=>?_⟩
                              exact .inl ⟨cv14,by rw [hk14]; rfl,_,⟨_,_,_,_,_,rfl,by kernel_rfl⟩,rfl,hr.fr.below⟩
                            ·
                              refine KD (KB ?_)
                              refine KA (KP (v:=.bool (decide (id = 15))) rfl rfl KAV) (Nb rfl) ?_
                              refine KA (KH rfl) (Nb rfl) ?_
                              refine KG ?_
                              first|refine Kf rfl (fun hk15=>?_) (fun hk15=>?_)|refine Ki rfl (fun hk15=>?_) (fun hk15=>?_)
                              ·
                                refine KD (KB ?_)
                                refine KA (Det.buildN (n:=5) pl_188 zr_188 rfl rfl rfl rfl rfl) (Nb rfl) ?_
                                refine KK rfl (KO rfl rfl sz_188 (by repeat (first|exact KV|refine KR rfl ?_)) (by repeat (first|exact Sh _|apply St_)) (by rfl) ?_)
                                refine KG (KY ?_)
                                refine ⟨[_],.cons ⟨_,_,_,rfl,(by repeat (first|exact Mh _|apply Mt)),by exact KL Try.underlying188 rfl sz_188⟩ .nil,fun a w' hr=>?_⟩
                                exact .inl ⟨cv15,by rw [hk15]; rfl,_,⟨_,_,_,_,_,rfl,by kernel_rfl⟩,rfl,hr.fr.below⟩
                              ·
                                refine Km ?_
                                refine KD (KB ?_)
                                refine KA (Kb (KAP pl_188 zr_188 rfl rfl) (show _ = Value.agg [.string ⟨#[]⟩,.string ⟨#[]⟩,.string ⟨#[]⟩,.string ⟨#[]⟩,.string ⟨#[]⟩].toArray from rfl)) (Nb rfl) ?_
                                refine KK rfl (KO rfl rfl sz_188 (by repeat (first|exact KV|refine KR rfl ?_)) (by repeat (first|exact Sh _|apply St_)) (by rfl) ?_)
                                refine KG (KY ?_)
                                refine ⟨[_],.cons ⟨_,_,_,rfl,(by repeat (first|exact Mh _|apply Mt)),by exact KL Try.underlying188 rfl sz_188⟩ .nil,fun a w' hr=>?_⟩
                                exact .inr (cvI_none hk1 hk2 hk3 hk4 hk5 hk6 hk7 hk8 hk9 hk10 hk11 hk12 hk13 hk14 hk15)
theorem c_rows_some (id:Int) (V:Cv) (w:World) (h:cvI id = some V):Calls Try.prog 147 ([.int .i64 id]:List Value).toArray w (fun e w'=>∃ v,(∃ s0 s1 s2 s3 s4,v = .agg [.string s0,.string s1,.string s2,.string s3,.string s4].toArray∧rowsB V s0 s1 s2 s3 s4 = true)∧e = .returned v∧Below w.heap.size w w') :=
  (c_rows id w).mono fun e w' h'=>by
    rcases h' with ⟨V',hV,h1⟩|h1
    · rw [h] at hV; cases hV; exact h1
    · rw [h] at h1; cases h1
end Go.Proofs.Ytljblbgogjieaaa
set_option linter.unusedVariables false
set_option linter.unusedSimpArgs false
set_option maxRecDepth 20000
namespace Go.Proofs.Ytljblbgogjieaaa
open Go Go.RowKit
theorem blen_w9 {A:Nat} (h:A<W9):blen A≤576:=by
  obtain ⟨k,hk⟩:∃ k:Nat,k = 9:=⟨9,rfl⟩
  have:=blen_le (lt_w9_pow h k hk)
  omega
def legB (V:Cv):Bool:=decide (V.id = 1∨V.id = 7)
def thr (V:Cv):Nat:=((V.b+V.b)%V.p+V.b)%V.p
def opL (V:Cv) (f:Nat):List Value:=cvC V.id V.p V.a V.b V.n V.x V.y false (blen V.n) (nby V.p) (legB V) (.pointer (some ⟨f,0,none⟩)) (thr V)
theorem fill_pt (X Y:Nat):fillL [(0,9),(9,9),(18,1)] (vec .u64 9 (fun _=>0)++(vec .u64 9 (fun _=>0)++[Value.bool false])) [(0,natV X),(1,natV Y)] = some (ptL X Y false):=by
  refine KAX (A:=[]) (B:=vec .u64 9 (fun _=>0)) (D:=vec .u64 9 (fun _=>0)++[Value.bool false]) (cs:=natL X) rfl rfl (KF _) rfl rfl (KJ _ _ _) ?_
  refine (KAX (A:=natL X) (B:=vec .u64 9 (fun _=>0)) (D:=[Value.bool false]) (cs:=natL Y) rfl rfl (KF _) (by simp) (KF _) (KJ _ _ _) rfl).trans ?_
  simp [ptL]
theorem c_Open_none (id:Int) (w:World) (h:cvI id = none):Calls Try.prog 112 ([.int .i64 id]:List Value).toArray w (fun e w'=>e = .returned (.pointer none)∧Below w.heap.size w w'):=by
  refine Kw (N:=130) (rs:=[.tmp 2]) [] Try.func112 rfl Try.ntmps112 Try.results112 (Nb rfl) trivial rfl ?_
  show LCode _ _ _ ⟨_,_⟩ _
  refine KD (KB ?_)
  refine KA (KH rfl) (Nb rfl) ?_
  refine KG ?_
  refine KD (KB ?_)
  refine KA (KE rfl) (Nb rfl) ?_
  refine KK rfl (KX (KU (first:=[]) rfl en_146 rfl (Nb rfl) (fun w hw=>c_f_Of_none id w h) ?_))
  refine KA (KH rfl) (Nb rfl) ?_
  refine KG ?_
  refine KD ?_
  refine KD (KB ?_)
  refine KA (KE rfl) (Nb rfl) ?_
  refine KA (Kb (Det.eqp Try.underlying145 rfl rfl) (show _ = Value.bool true from rfl)) (Nb rfl) ?_
  refine KG ?_
  refine Kx rfl ?_
  refine KD (KB ?_)
  refine KA (KH rfl) (Nb rfl) ?_
  refine KG (KY ?_)
  refine ⟨[_],.cons rfl .nil,fun a w' hr=>⟨?_,hr.fr.below⟩⟩
  rfl
theorem c_Open (id:Int) (V:Cv) (w:World) (h:cvI id = some V):Calls Try.prog 112 ([.int .i64 id]:List Value).toArray w (fun e w'=>∃ b f bd,e = .returned (.pointer (some ⟨b,0,none⟩))∧(Item.blk b ⟨false,opL V f,147,(0,0)⟩).holds w'∧(Item.blk f ⟨false,fldL V.p bd,194,(0,0)⟩).holds w'∧(Item.blk bd ⟨false,dvL V.p,241,(0,0)⟩).holds w'∧w.heap.size≤b∧w.heap.size≤f∧w.heap.size≤bd∧Below w.heap.size w w'):=by
  obtain ⟨hok,rfl⟩:=cvI_ok h
  refine Kw (N:=130) (rs:=[.tmp 2]) [] Try.func112 rfl Try.ntmps112 Try.results112 (Nb rfl) trivial rfl ?_
  show LCode _ _ _ ⟨_,_⟩ _
  refine KD (KB ?_)
  refine KA (KH rfl) (Nb rfl) ?_
  refine KG ?_
  refine KD (KB ?_)
  refine KA (KE rfl) (Nb rfl) ?_
  refine KK rfl (KX (LStep.callZ (Post:=fun v its=>∃ f bd,v = .pointer (some ⟨f,0,none⟩)∧its = [.blk f ⟨false,fldL V.p bd,194,(0,0)⟩,.blk bd ⟨false,dvL V.p,241,(0,0)⟩]∧w.heap.size≤f∧w.heap.size≤bd) (first:=[]) rfl en_146 rfl (Nb rfl) (fun w1 hw hs=>(c_f_Of _ V w1 h).mono fun e w' ⟨f,bd,h1,h2,h3,h4,h5,h6⟩=>⟨_,_,⟨f,bd,rfl,rfl,Nat.le_trans hs h4,Nat.le_trans hs h5⟩,h1,Brings.nums h6 (by intro x hx; simp at hx; rcases hx with rfl|rfl; exact h2; exact h3) (by intro x hx; simp at hx; rcases hx with rfl|rfl <;> rfl) (by intro x hx k hk; simp at hx; rcases hx with rfl|rfl <;> simp [Item.fp] at hk <;> subst hk; exact .inl h4; exact .inl h5)⟩) ?_))
  rintro _ _ ⟨f,bd,rfl,rfl,hnf,hnbd⟩
  refine KA (KH rfl) (Nb rfl) ?_
  refine KG ?_
  refine KD ?_
  refine KD (KB ?_)
  refine KA (KE rfl) (Nb rfl) ?_
  refine KA (Kb (Det.eqp Try.underlying145 rfl rfl) (show _ = Value.bool false from rfl)) (Nb rfl) ?_
  refine KG ?_
  refine Kp rfl ?_
  refine Km ?_
  refine KD ?_
  have hbb:=hok.bounds
  have hpW:V.p<W9:=w9_521 hbb.2.1
  have hnW:V.n<W9:=w9_521 hbb.2.2.2.2.2.2.1
  have hbln:=blen_w9 hnW
  have hblp:=blen_w9 hpW
  refine KB ?_
  refine KA (KE rfl) (Nb rfl) ?_
  refine KK rfl (KX (LStep.callV (first:=[]) rfl en_147 rfl (Nb rfl) (fun w hw=>c_rows_some _ V w h) ?_))
  rintro _ ⟨s0,s1,s2,s3,s4,rfl,hrow⟩
  obtain ⟨hA,hB,hN,hX,hY⟩:=rowsB_spec hrow
  clear hrow
  refine KK rfl (KX (KQ (Kd zr_188) (Nb rfl) (fun b4=>?_)))
  refine KK rfl (KO rfl rfl sz_188 (by repeat (first|exact KV|refine KR rfl ?_)) (by repeat (first|exact Sh _|apply St_)) (by rfl) ?_)
  refine KG ?_
  refine KD (KB ?_)
  refine KA (KE rfl) (Nb rfl) ?_
  refine KA (Kb (KAP pl_147 zr_147 rfl (fillF (.pointer (some ⟨f,0,none⟩)) rfl)) rfl) (Nb rfl) ?_
  refine KK rfl (KX (KQ (Ks rfl) (Nb rfl) (fun b14=>?_)))
  refine KA (KH rfl) (Nb rfl) ?_
  refine KG ?_
  refine LCode.cut (α:=Unit) (fun _=>True) (fun _=>⟨[(0,.int .i64 ((V.id:Nat):Int)),(3,.pointer (some ⟨f,0,none⟩)),(4,.pointer (some ⟨b4,0,none⟩)),(5,.pointer (some ⟨b14,0,none⟩))],[.blk b14 ⟨true,cvC V.id V.p 0 V.b V.n 0 0 false 0 0 false (.pointer (some ⟨f,0,none⟩)) 0,147,(0,0)⟩,.blk b4 ⟨true,[.string s0,.string s1,.string s2,.string s3,.string s4],188,(0,0)⟩,.blk f ⟨false,fldL V.p bd,194,(0,0)⟩,.blk bd ⟨false,dvL V.p,241,(0,0)⟩]⟩) ?_ ?_
  ·
    refine Ka [18,22,26,30] (by kernel_rfl) ?_
    refine KC 0 rfl (by kernel_rfl) (Nb rfl) (KE rfl) ?_
    refine KC 1 rfl (by kernel_rfl) (Nb rfl) (KE rfl) ?_
    refine KC 2 rfl (by kernel_rfl) (Nb rfl) (KE rfl) ?_
    refine KC 3 rfl (by kernel_rfl) (Nb rfl) (KE rfl) ?_
    refine KC 4 rfl (by kernel_rfl) (Nb rfl) (KE rfl) ?_
    refine KC 5 rfl (by kernel_rfl) (Nb rfl) (KE rfl) ?_
    refine KC 6 rfl (by kernel_rfl) (Nb rfl) (KW rfl) ?_
    refine KC 7 rfl (by kernel_rfl) (Nb rfl) (KN (o':=0) Try.underlying194 rfl rfl rfl sz_25 (by decide)) ?_
    refine LAny.take 8 rfl (by kernel_rfl) (Nb rfl) (KM rfl (by repeat (first|exact Mh _|apply Mt)) (by exact KAB Try.underlying25 rfl sz_25 rfl (KF _))) ?_
    refine KC 9 rfl (by kernel_rfl) (Nb rfl) (KN (o':=1) Try.underlying188 rfl rfl rfl sz_9 (by decide)) ?_
    refine KC 12 rfl (by kernel_rfl) (Nb rfl) (KN (o':=2) Try.underlying188 rfl rfl rfl sz_9 (by decide)) ?_
    refine LAny.takeW [11,14,15,16,17,18,19,20,21,22,23,24,25,26,27,28,29,30] 10 rfl (by kernel_rfl) (Nb rfl) (KM rfl (by repeat (first|exact Mh _|apply Mt)) (Kc Try.underlying9 rfl (by first|rfl|exact KAG _ _ _ (by omega)|exact KAD _ (by omega)|exact KAK _ (by omega)|exact dv_m _ _ _ (by omega)))) ?_
    refine LAny.takeW [14,15,16,17,18,19,20,21,22,23,24,25,26,27,28,29,30] 13 rfl (by kernel_rfl) (Nb rfl) (KM rfl (by repeat (first|exact Mh _|apply Mt)) (Kc Try.underlying9 rfl (by first|rfl|exact KAG _ _ _ (by omega)|exact KAD _ (by omega)|exact KAK _ (by omega)|exact dv_m _ _ _ (by omega)))) ?_
    refine Kt 11 rfl rfl (by kernel_rfl) (KU (first:=[]) rfl en_148 rfl (Nb rfl) (fun w hw=>fhex s1 V.b w hB) ?_)
    refine Kt 14 rfl rfl (by kernel_rfl) (KU (first:=[]) rfl en_148 rfl (Nb rfl) (fun w hw=>fhex s2 V.n w hN) ?_)
    refine KC 15 rfl (by kernel_rfl) (Nb rfl) (KW rfl) ?_
    refine KC 16 rfl (by kernel_rfl) (Nb rfl) (KN (o':=0) Try.underlying147 rfl rfl rfl sz_62 (by decide)) ?_
    refine KC 17 rfl (by kernel_rfl) (Nb rfl) (KN (o':=0) Try.underlying62 rfl rfl rfl sz_3 (by decide)) ?_
    refine Kn 18 rfl rfl (by kernel_rfl) (by kernel_rfl) (KAJ rfl rfl rfl sz_3 (by first|exact KF _|exact KS _ _ _|rfl) (by first|exact Kg _|exact Kl _ _ _|exact KR rfl KV) (by repeat (first|exact Sh _|apply St_)) (by simp only [KAY]; decide) (cvC_set_id _ _ _ _ _ _ _ _ _ _ _ _ _ _) (by simp) ?_)
    refine KC 19 rfl (by kernel_rfl) (Nb rfl) (KW rfl) ?_
    refine KC 20 rfl (by kernel_rfl) (Nb rfl) (KN (o':=0) Try.underlying147 rfl rfl rfl sz_62 (by decide)) ?_
    refine KC 21 rfl (by kernel_rfl) (Nb rfl) (KN (o':=1) Try.underlying62 rfl rfl rfl sz_25 (by decide)) ?_
    refine Kn 22 rfl rfl (by kernel_rfl) (by kernel_rfl) (KAJ rfl rfl rfl sz_25 (by first|exact KF _|exact KS _ _ _|rfl) (by first|exact Kg _|exact Kl _ _ _|exact KR rfl KV) (by repeat (first|exact Sh _|apply St_)) (by simp only [KAY]; decide) (cvC_set_p _ _ _ _ _ _ _ _ _ _ _ _ _ _) (by simp) ?_)
    refine KC 23 rfl (by kernel_rfl) (Nb rfl) (KW rfl) ?_
    refine KC 24 rfl (by kernel_rfl) (Nb rfl) (KN (o':=0) Try.underlying147 rfl rfl rfl sz_62 (by decide)) ?_
    refine KC 25 rfl (by kernel_rfl) (Nb rfl) (KN (o':=19) Try.underlying62 rfl rfl rfl sz_25 (by decide)) ?_
    refine Kn 26 rfl rfl (by kernel_rfl) (by kernel_rfl) (KAJ rfl rfl rfl sz_25 (by first|exact KF _|exact KS _ _ _|rfl) (by first|exact Kg _|exact Kl _ _ _|exact KR rfl KV) (by repeat (first|exact Sh _|apply St_)) (by simp only [KAY]; decide) (cvC_set_b _ _ _ _ _ _ _ _ _ _ _ _ _ _) (by simp) ?_)
    refine KC 27 rfl (by kernel_rfl) (Nb rfl) (KW rfl) ?_
    refine KC 28 rfl (by kernel_rfl) (Nb rfl) (KN (o':=0) Try.underlying147 rfl rfl rfl sz_62 (by decide)) ?_
    refine KC 29 rfl (by kernel_rfl) (Nb rfl) (KN (o':=28) Try.underlying62 rfl rfl rfl sz_25 (by decide)) ?_
    refine Kn 30 rfl rfl (by kernel_rfl) (by kernel_rfl) (KAJ rfl rfl rfl sz_25 (by first|exact KF _|exact KS _ _ _|rfl) (by first|exact Kg _|exact Kl _ _ _|exact KR rfl KV) (by repeat (first|exact Sh _|apply St_)) (by simp only [KAY]; decide) (cvC_set_n _ _ _ _ _ _ _ _ _ _ _ _ _ _) (by simp) ?_)
    refine Ko (by kernel_rfl) ?_
    exact ⟨(),trivial,KAF ⟨rfl,rfl,rfl,rfl,trivial⟩ (by repeat (first|exact Sel.nil _|refine Sel.cons (by repeat (first|exact Ph _|apply Pt_)) ?_))⟩
  ·
    rintro _ _
    refine KD ?_
    refine KD ?_
    rcases hA with ⟨hA0,hVa⟩|⟨hA0,hA1⟩
    ·
      refine KB ?_
      refine KA (KN (o':=0) Try.underlying188 rfl rfl rfl sz_9 (by decide)) (Nb rfl) ?_
      refine LOps.det (KM rfl (by repeat (first|exact Mh _|apply Mt)) (Kc Try.underlying9 rfl (by first|rfl|exact KAG _ _ _ (by omega)|exact KAD _ (by omega)|exact KAK _ (by omega)|exact dv_m _ _ _ (by omega)))) (Nb rfl) ?_
      refine KA (Kb (Det.eqs rfl rfl) (congrArg Value.bool (eq_str_t hA0))) (Nb rfl) ?_
      refine KG ?_
      refine Kx rfl ?_
      refine Ka [13] (by kernel_rfl) ?_
      refine KC 0 rfl (by kernel_rfl) (Nb rfl) (KE rfl) ?_
      refine KC 1 rfl (by kernel_rfl) (Nb rfl) (KE rfl) ?_
      refine KC 2 rfl (by kernel_rfl) (Nb rfl) (KW rfl) ?_
      refine KC 3 rfl (by kernel_rfl) (Nb rfl) (KN (o':=0) Try.underlying194 rfl rfl rfl sz_25 (by decide)) ?_
      refine LAny.take 4 rfl (by kernel_rfl) (Nb rfl) (KM rfl (by repeat (first|exact Mh _|apply Mt)) (by exact KAB Try.underlying25 rfl sz_25 rfl (KF _))) ?_
      refine Kt 5 rfl rfl (by kernel_rfl) (KU (first:=[]) rfl en_150 rfl (Nb rfl) (fun w hw=>c_nat_Small 3 (by decide) w) ?_)
      refine Kt 6 rfl rfl (by kernel_rfl) (KU (first:=[]) rfl en_149 rfl (Nb rfl) (fun w hw=>c_nat_SubS V.p 3 w (by omega) (by omega)) ?_)
      refine KC 7 rfl (by kernel_rfl) (Nb rfl) (KE rfl) ?_
      refine KC 8 rfl (by kernel_rfl) (Nb rfl) (Kj rfl rfl) ?_
      refine KC 9 rfl (by kernel_rfl) (Nb rfl) (Kj rfl rfl) ?_
      refine KC 10 rfl (by kernel_rfl) (Nb rfl) (KW rfl) ?_
      refine KC 11 rfl (by kernel_rfl) (Nb rfl) (KN (o':=0) Try.underlying147 rfl rfl rfl sz_62 (by decide)) ?_
      refine KC 12 rfl (by kernel_rfl) (Nb rfl) (KN (o':=10) Try.underlying62 rfl rfl rfl sz_25 (by decide)) ?_
      refine Kn 13 rfl rfl (by kernel_rfl) (by kernel_rfl) (KAJ rfl rfl rfl sz_25 (by first|exact KF _|exact KS _ _ _|rfl) (by first|exact Kg _|exact Kl _ _ _|exact KR rfl KV) (by repeat (first|exact Sh _|apply St_)) (by simp only [KAY]; decide) (cvC_set_a _ _ _ _ _ _ _ _ _ _ _ _ _ _) (by simp) ?_)
      refine Ko (by kernel_rfl) ?_
      refine KD ?_
      refine Ka [11] (by kernel_rfl) ?_
      refine KC 0 rfl (by kernel_rfl) (Nb rfl) (KE rfl) ?_
      refine KC 1 rfl (by kernel_rfl) (Nb rfl) (KN (o':=3) Try.underlying188 rfl rfl rfl sz_9 (by decide)) ?_
      refine LAny.take 2 rfl (by kernel_rfl) (Nb rfl) (KM rfl (by repeat (first|exact Mh _|apply Mt)) (Kc Try.underlying9 rfl (by first|rfl|exact KAG _ _ _ (by omega)|exact KAD _ (by omega)|exact KAK _ (by omega)|exact dv_m _ _ _ (by omega)))) ?_
      refine KC 4 rfl (by kernel_rfl) (Nb rfl) (KN (o':=4) Try.underlying188 rfl rfl rfl sz_9 (by decide)) ?_
      refine LAny.take 5 rfl (by kernel_rfl) (Nb rfl) (KM rfl (by repeat (first|exact Mh _|apply Mt)) (Kc Try.underlying9 rfl (by first|rfl|exact KAG _ _ _ (by omega)|exact KAD _ (by omega)|exact KAK _ (by omega)|exact dv_m _ _ _ (by omega)))) ?_
      refine Kt 3 rfl rfl (by kernel_rfl) (KU (first:=[]) rfl en_148 rfl (Nb rfl) (fun w hw=>fhex s3 V.x w hX) ?_)
      refine Kt 6 rfl rfl (by kernel_rfl) (KU (first:=[]) rfl en_148 rfl (Nb rfl) (fun w hw=>fhex s4 V.y w hY) ?_)
      refine KC 7 rfl (by kernel_rfl) (Nb rfl) (Kb (KAP pl_60 zr_60 rfl (fill_pt _ _)) rfl) ?_
      refine KC 8 rfl (by kernel_rfl) (Nb rfl) (KW rfl) ?_
      refine KC 9 rfl (by kernel_rfl) (Nb rfl) (KN (o':=0) Try.underlying147 rfl rfl rfl sz_62 (by decide)) ?_
      refine KC 10 rfl (by kernel_rfl) (Nb rfl) (KN (o':=37) Try.underlying62 rfl rfl rfl sz_60 (by decide)) ?_
      refine Kn 11 rfl rfl (by kernel_rfl) (by kernel_rfl) (KAJ rfl rfl rfl sz_60 (by first|exact KF _|exact KS _ _ _|rfl) (by first|exact Kg _|exact Kl _ _ _|exact KR rfl KV) (by repeat (first|exact Sh _|apply St_)) (by simp only [KAY]; decide) (cvC_set_g _ _ _ _ _ _ _ _ _ _ _ _ _ _ _ _) (by simp) ?_)
      refine Ko (by kernel_rfl) ?_
      refine KD ?_
      refine Ka [18,22] (by kernel_rfl) ?_
      refine KC 0 rfl (by kernel_rfl) (Nb rfl) (KE rfl) ?_
      refine KC 1 rfl (by kernel_rfl) (Nb rfl) (KE rfl) ?_
      refine KC 2 rfl (by kernel_rfl) (Nb rfl) (KE rfl) ?_
      refine KC 3 rfl (by kernel_rfl) (Nb rfl) (KW rfl) ?_
      refine KC 4 rfl (by kernel_rfl) (Nb rfl) (KN (o':=0) Try.underlying147 rfl rfl rfl sz_62 (by decide)) ?_
      refine KC 5 rfl (by kernel_rfl) (Nb rfl) (KN (o':=28) Try.underlying62 rfl rfl rfl sz_25 (by decide)) ?_
      refine LAny.take 6 rfl (by kernel_rfl) (Nb rfl) (KM rfl (by repeat (first|exact Mh _|apply Mt)) (by exact cvC_ld_n _ _ _ _ _ _ _ _ _ _ _ _ _ _ _ _)) ?_
      refine KC 8 rfl (by kernel_rfl) (Nb rfl) (KE rfl) ?_
      refine KC 9 rfl (by kernel_rfl) (Nb rfl) (KW rfl) ?_
      refine KC 10 rfl (by kernel_rfl) (Nb rfl) (KN (o':=0) Try.underlying194 rfl rfl rfl sz_25 (by decide)) ?_
      refine LAny.take 11 rfl (by kernel_rfl) (Nb rfl) (KM rfl (by repeat (first|exact Mh _|apply Mt)) (by exact KAB Try.underlying25 rfl sz_25 rfl (KF _))) ?_
      refine Kt 7 rfl rfl (by kernel_rfl) (KU (first:=[]) rfl en_151 rfl (Nb rfl) (fun w hw=>c_nat_Bits V.n hnW w) ?_)
      refine Kt 12 rfl rfl (by kernel_rfl) (KU (first:=[]) rfl en_151 rfl (Nb rfl) (fun w hw=>c_nat_Bits V.p hpW w) ?_)
      refine KC 13 rfl (by kernel_rfl) (Nb rfl) (KP rfl rfl (KAT (b:=7) (by omega))) ?_
      refine KC 14 rfl (by kernel_rfl) (Nb rfl) (KP rfl rfl (br_quo (b:=8) (by omega) (by omega))) ?_
      refine KC 15 rfl (by kernel_rfl) (Nb rfl) (KW rfl) ?_
      refine KC 16 rfl (by kernel_rfl) (Nb rfl) (KN (o':=0) Try.underlying147 rfl rfl rfl sz_62 (by decide)) ?_
      refine KC 17 rfl (by kernel_rfl) (Nb rfl) (KN (o':=56) Try.underlying62 rfl rfl rfl sz_3 (by decide)) ?_
      refine Kn 18 rfl rfl (by kernel_rfl) (by kernel_rfl) (KAJ rfl rfl rfl sz_3 (by first|exact KF _|exact KS _ _ _|rfl) (by first|exact Kg _|exact Kl _ _ _|exact KR rfl KV) (by repeat (first|exact Sh _|apply St_)) (by simp only [KAY]; decide) (cvC_set_bits _ _ _ _ _ _ _ _ _ _ _ _ _ _) (by simp) ?_)
      refine KC 19 rfl (by kernel_rfl) (Nb rfl) (KW rfl) ?_
      refine KC 20 rfl (by kernel_rfl) (Nb rfl) (KN (o':=0) Try.underlying147 rfl rfl rfl sz_62 (by decide)) ?_
      refine KC 21 rfl (by kernel_rfl) (Nb rfl) (KN (o':=57) Try.underlying62 rfl rfl rfl sz_3 (by decide)) ?_
      refine Kn 22 rfl rfl (by kernel_rfl) (by kernel_rfl) (KAJ rfl rfl rfl sz_3 (by first|exact KF _|exact KS _ _ _|rfl) (by first|exact Kg _|exact Kl _ _ _|exact KR rfl KV) (by repeat (first|exact Sh _|apply St_)) (by simp only [KAY]; decide) (cvC_set_size _ _ _ _ _ _ _ _ _ _ _ _ _ _) (by simp) ?_)
      refine Ko (by kernel_rfl) ?_
      refine KD ?_
      by_cases hi1:((V.id:Nat):Int) = 1
      ·
        refine KB ?_
        refine KA (KE rfl) (Nb rfl) ?_
        refine KA (KE rfl) (Nb rfl) ?_
        refine KA (KP (v:=.bool true) rfl rfl (br_t KAV hi1)) (Nb rfl) ?_
        refine KA (KE rfl) (Nb rfl) ?_
        refine Ku rfl rfl rfl (Nb rfl) ?_
        refine Ku rfl rfl rfl (Nb rfl) ?_
        refine KA (KAE rfl rfl) (Nb rfl) ?_
        refine KA (KW rfl) (Nb rfl) ?_
        refine KA (KN (o':=0) Try.underlying147 rfl rfl rfl sz_62 (by decide)) (Nb rfl) ?_
        refine KA (KN (o':=58) Try.underlying62 rfl rfl rfl sz_4 (by decide)) (Nb rfl) ?_
        refine KK rfl (KAJ rfl rfl rfl sz_4 (by first|exact KF _|exact KS _ _ _|rfl) (by first|exact Kg _|exact Kl _ _ _|exact KR rfl KV) (by repeat (first|exact Sh _|apply St_)) (by simp only [KAY]; decide) (cvC_set_leg _ _ _ _ _ _ _ _ _ _ _ _ _ _) (by simp) ?_)
        refine KG ?_
        refine KD ?_
        refine Ka [22] (by kernel_rfl) ?_
        refine KC 0 rfl (by kernel_rfl) (Nb rfl) (KE rfl) ?_
        refine KC 1 rfl (by kernel_rfl) (Nb rfl) (KE rfl) ?_
        refine KC 2 rfl (by kernel_rfl) (Nb rfl) (KE rfl) ?_
        refine KC 3 rfl (by kernel_rfl) (Nb rfl) (KE rfl) ?_
        refine KC 4 rfl (by kernel_rfl) (Nb rfl) (KW rfl) ?_
        refine KC 5 rfl (by kernel_rfl) (Nb rfl) (KN (o':=0) Try.underlying147 rfl rfl rfl sz_62 (by decide)) ?_
        refine KC 6 rfl (by kernel_rfl) (Nb rfl) (KN (o':=19) Try.underlying62 rfl rfl rfl sz_25 (by decide)) ?_
        refine LAny.take 7 rfl (by kernel_rfl) (Nb rfl) (KM rfl (by repeat (first|exact Mh _|apply Mt)) (by exact cvC_ld_b _ _ _ _ _ _ _ _ _ _ _ _ _ _ _ _)) ?_
        refine KC 8 rfl (by kernel_rfl) (Nb rfl) (KE rfl) ?_
        refine KC 9 rfl (by kernel_rfl) (Nb rfl) (KW rfl) ?_
        refine KC 10 rfl (by kernel_rfl) (Nb rfl) (KN (o':=0) Try.underlying147 rfl rfl rfl sz_62 (by decide)) ?_
        refine KC 11 rfl (by kernel_rfl) (Nb rfl) (KN (o':=19) Try.underlying62 rfl rfl rfl sz_25 (by decide)) ?_
        refine LAny.take 12 rfl (by kernel_rfl) (Nb rfl) (KM rfl (by repeat (first|exact Mh _|apply Mt)) (by exact cvC_ld_b _ _ _ _ _ _ _ _ _ _ _ _ _ _ _ _)) ?_
        refine KC 14 rfl (by kernel_rfl) (Nb rfl) (KE rfl) ?_
        refine KC 15 rfl (by kernel_rfl) (Nb rfl) (KW rfl) ?_
        refine KC 16 rfl (by kernel_rfl) (Nb rfl) (KN (o':=0) Try.underlying147 rfl rfl rfl sz_62 (by decide)) ?_
        refine KC 17 rfl (by kernel_rfl) (Nb rfl) (KN (o':=19) Try.underlying62 rfl rfl rfl sz_25 (by decide)) ?_
        refine LAny.take 18 rfl (by kernel_rfl) (Nb rfl) (KM rfl (by repeat (first|exact Mh _|apply Mt)) (by exact cvC_ld_b _ _ _ _ _ _ _ _ _ _ _ _ _ _ _ _)) ?_
        refine Kt 13 rfl rfl (by kernel_rfl) (KU (first:=[]) rfl en_152 rfl (Nb rfl) (fun w hw=>c_f_Add V f bd V.b V.b w (hw _ (by repeat (first|exact Mh _|apply Mt))) hbb.2.1 (by omega) (by omega)) ?_)
        refine Kt 19 rfl rfl (by kernel_rfl) (KU (first:=[]) rfl en_152 rfl (Nb rfl) (fun w hw=>c_f_Add V f bd ((V.b+V.b)%V.p) V.b w (hw _ (by repeat (first|exact Mh _|apply Mt))) hbb.2.1 (Nat.mod_lt _ (by omega)) (by omega)) ?_)
        refine KC 20 rfl (by kernel_rfl) (Nb rfl) (KW rfl) ?_
        refine KC 21 rfl (by kernel_rfl) (Nb rfl) (KN (o':=60) Try.underlying147 rfl rfl rfl sz_25 (by decide)) ?_
        refine Kn 22 rfl rfl (by kernel_rfl) (by kernel_rfl) (KAJ rfl rfl rfl sz_25 (by first|exact KF _|exact KS _ _ _|rfl) (by first|exact Kg _|exact Kl _ _ _|exact KR rfl KV) (by repeat (first|exact Sh _|apply St_)) (by simp only [KAY]; decide) (cvC_set_t3 _ _ _ _ _ _ _ _ _ _ _ _ _ _) (by simp) ?_)
        refine Ko (by kernel_rfl) ?_
        refine KD (KB ?_)
        refine KA (KE rfl) (Nb rfl) ?_
        refine KA (KH rfl) (Nb rfl) ?_
        refine KG (KY ?_)
        refine ⟨[_],.cons rfl .nil,fun a w' hr=>⟨b14,f,bd,rfl,?_,hr.hp _ (by repeat (first|exact Mh _|apply Mt)),hr.hp _ (by repeat (first|exact Mh _|apply Mt)),hr.new (B:=⟨true,_,_,_⟩) (by repeat (first|exact Mh _|apply Mt)) rfl,hnf,hnbd,hr.fr.below⟩⟩
        have hcv:=hr.hp _ (show Item.blk b14 ⟨true,cvC V.id V.p (V.p-3) V.b V.n V.x V.y false (blen V.n) (nby V.p) true (.pointer (some ⟨f,0,none⟩)) (thr V),147,(0,0)⟩∈_ from (by repeat (first|exact Mh _|apply Mt)))
        have hl:legB V = true:=by unfold legB; exact decide_eq_true (by omega)
        have ha:V.a = V.p-3:=by omega
        rw [← ha] at hcv
        unfold opL
        rw [hl]
        exact hcv
      ·
        refine KB ?_
        refine KA (KE rfl) (Nb rfl) ?_
        refine KA (KE rfl) (Nb rfl) ?_
        refine KA (KP (v:=.bool false) rfl rfl (br_f KAV hi1)) (Nb rfl) ?_
        refine KA (KE rfl) (Nb rfl) ?_
        refine Ke rfl rfl (KE rfl) (Nb rfl) ?_
        refine Ke rfl rfl (KP (v:=.bool (decide (((V.id:Nat):Int) = 7))) rfl rfl KAV) (Nb rfl) ?_
        refine KA (Kz rfl rfl) (Nb rfl) ?_
        refine KA (KW rfl) (Nb rfl) ?_
        refine KA (KN (o':=0) Try.underlying147 rfl rfl rfl sz_62 (by decide)) (Nb rfl) ?_
        refine KA (KN (o':=58) Try.underlying62 rfl rfl rfl sz_4 (by decide)) (Nb rfl) ?_
        refine KK rfl (KAJ rfl rfl rfl sz_4 (by first|exact KF _|exact KS _ _ _|rfl) (by first|exact Kg _|exact Kl _ _ _|exact KR rfl KV) (by repeat (first|exact Sh _|apply St_)) (by simp only [KAY]; decide) (cvC_set_leg _ _ _ _ _ _ _ _ _ _ _ _ _ _) (by simp) ?_)
        refine KG ?_
        refine KD ?_
        refine Ka [22] (by kernel_rfl) ?_
        refine KC 0 rfl (by kernel_rfl) (Nb rfl) (KE rfl) ?_
        refine KC 1 rfl (by kernel_rfl) (Nb rfl) (KE rfl) ?_
        refine KC 2 rfl (by kernel_rfl) (Nb rfl) (KE rfl) ?_
        refine KC 3 rfl (by kernel_rfl) (Nb rfl) (KE rfl) ?_
        refine KC 4 rfl (by kernel_rfl) (Nb rfl) (KW rfl) ?_
        refine KC 5 rfl (by kernel_rfl) (Nb rfl) (KN (o':=0) Try.underlying147 rfl rfl rfl sz_62 (by decide)) ?_
        refine KC 6 rfl (by kernel_rfl) (Nb rfl) (KN (o':=19) Try.underlying62 rfl rfl rfl sz_25 (by decide)) ?_
        refine LAny.take 7 rfl (by kernel_rfl) (Nb rfl) (KM rfl (by repeat (first|exact Mh _|apply Mt)) (by exact cvC_ld_b _ _ _ _ _ _ _ _ _ _ _ _ _ _ _ _)) ?_
        refine KC 8 rfl (by kernel_rfl) (Nb rfl) (KE rfl) ?_
        refine KC 9 rfl (by kernel_rfl) (Nb rfl) (KW rfl) ?_
        refine KC 10 rfl (by kernel_rfl) (Nb rfl) (KN (o':=0) Try.underlying147 rfl rfl rfl sz_62 (by decide)) ?_
        refine KC 11 rfl (by kernel_rfl) (Nb rfl) (KN (o':=19) Try.underlying62 rfl rfl rfl sz_25 (by decide)) ?_
        refine LAny.take 12 rfl (by kernel_rfl) (Nb rfl) (KM rfl (by repeat (first|exact Mh _|apply Mt)) (by exact cvC_ld_b _ _ _ _ _ _ _ _ _ _ _ _ _ _ _ _)) ?_
        refine KC 14 rfl (by kernel_rfl) (Nb rfl) (KE rfl) ?_
        refine KC 15 rfl (by kernel_rfl) (Nb rfl) (KW rfl) ?_
        refine KC 16 rfl (by kernel_rfl) (Nb rfl) (KN (o':=0) Try.underlying147 rfl rfl rfl sz_62 (by decide)) ?_
        refine KC 17 rfl (by kernel_rfl) (Nb rfl) (KN (o':=19) Try.underlying62 rfl rfl rfl sz_25 (by decide)) ?_
        refine LAny.take 18 rfl (by kernel_rfl) (Nb rfl) (KM rfl (by repeat (first|exact Mh _|apply Mt)) (by exact cvC_ld_b _ _ _ _ _ _ _ _ _ _ _ _ _ _ _ _)) ?_
        refine Kt 13 rfl rfl (by kernel_rfl) (KU (first:=[]) rfl en_152 rfl (Nb rfl) (fun w hw=>c_f_Add V f bd V.b V.b w (hw _ (by repeat (first|exact Mh _|apply Mt))) hbb.2.1 (by omega) (by omega)) ?_)
        refine Kt 19 rfl rfl (by kernel_rfl) (KU (first:=[]) rfl en_152 rfl (Nb rfl) (fun w hw=>c_f_Add V f bd ((V.b+V.b)%V.p) V.b w (hw _ (by repeat (first|exact Mh _|apply Mt))) hbb.2.1 (Nat.mod_lt _ (by omega)) (by omega)) ?_)
        refine KC 20 rfl (by kernel_rfl) (Nb rfl) (KW rfl) ?_
        refine KC 21 rfl (by kernel_rfl) (Nb rfl) (KN (o':=60) Try.underlying147 rfl rfl rfl sz_25 (by decide)) ?_
        refine Kn 22 rfl rfl (by kernel_rfl) (by kernel_rfl) (KAJ rfl rfl rfl sz_25 (by first|exact KF _|exact KS _ _ _|rfl) (by first|exact Kg _|exact Kl _ _ _|exact KR rfl KV) (by repeat (first|exact Sh _|apply St_)) (by simp only [KAY]; decide) (cvC_set_t3 _ _ _ _ _ _ _ _ _ _ _ _ _ _) (by simp) ?_)
        refine Ko (by kernel_rfl) ?_
        refine KD (KB ?_)
        refine KA (KE rfl) (Nb rfl) ?_
        refine KA (KH rfl) (Nb rfl) ?_
        refine KG (KY ?_)
        refine ⟨[_],.cons rfl .nil,fun a w' hr=>⟨b14,f,bd,rfl,?_,hr.hp _ (by repeat (first|exact Mh _|apply Mt)),hr.hp _ (by repeat (first|exact Mh _|apply Mt)),hr.new (B:=⟨true,_,_,_⟩) (by repeat (first|exact Mh _|apply Mt)) rfl,hnf,hnbd,hr.fr.below⟩⟩
        have hcv:=hr.hp _ (show Item.blk b14 ⟨true,cvC V.id V.p (V.p-3) V.b V.n V.x V.y false (blen V.n) (nby V.p) (decide (((V.id:Nat):Int) = 7)) (.pointer (some ⟨f,0,none⟩)) (thr V),147,(0,0)⟩∈_ from (by repeat (first|exact Mh _|apply Mt)))
        have hl:legB V = (decide (((V.id:Nat):Int) = 7)):=by unfold legB; by_cases h7:V.id = 7 <;> simp [h7]; omega
        have ha:V.a = V.p-3:=by omega
        rw [← ha] at hcv
        unfold opL
        rw [hl]
        exact hcv
    ·
      refine KB ?_
      refine KA (KN (o':=0) Try.underlying188 rfl rfl rfl sz_9 (by decide)) (Nb rfl) ?_
      refine LOps.det (KM rfl (by repeat (first|exact Mh _|apply Mt)) (Kc Try.underlying9 rfl (by first|rfl|exact KAG _ _ _ (by omega)|exact KAD _ (by omega)|exact KAK _ (by omega)|exact dv_m _ _ _ (by omega)))) (Nb rfl) ?_
      refine KA (Kb (Det.eqs rfl rfl) (congrArg Value.bool (eq_str_f hA0))) (Nb rfl) ?_
      refine KG ?_
      refine Kp rfl ?_
      refine KB ?_
      refine KA (KE rfl) (Nb rfl) ?_
      refine KA (KN (o':=0) Try.underlying188 rfl rfl rfl sz_9 (by decide)) (Nb rfl) ?_
      refine LOps.det (KM rfl (by repeat (first|exact Mh _|apply Mt)) (Kc Try.underlying9 rfl (by first|rfl|exact KAG _ _ _ (by omega)|exact KAD _ (by omega)|exact KAK _ (by omega)|exact dv_m _ _ _ (by omega)))) (Nb rfl) ?_
      refine KK rfl (KX (KU (first:=[]) rfl en_148 rfl (Nb rfl) (fun w hw=>fhex s0 V.a w hA1) ?_))
      refine KA (KW rfl) (Nb rfl) ?_
      refine KA (KN (o':=0) Try.underlying147 rfl rfl rfl sz_62 (by decide)) (Nb rfl) ?_
      refine KA (KN (o':=10) Try.underlying62 rfl rfl rfl sz_25 (by decide)) (Nb rfl) ?_
      refine KK rfl (KAJ rfl rfl rfl sz_25 (by first|exact KF _|exact KS _ _ _|rfl) (by first|exact Kg _|exact Kl _ _ _|exact KR rfl KV) (by repeat (first|exact Sh _|apply St_)) (by simp only [KAY]; decide) (cvC_set_a _ _ _ _ _ _ _ _ _ _ _ _ _ _) (by simp) ?_)
      refine KG ?_
      refine KD ?_
      refine Ka [11] (by kernel_rfl) ?_
      refine KC 0 rfl (by kernel_rfl) (Nb rfl) (KE rfl) ?_
      refine KC 1 rfl (by kernel_rfl) (Nb rfl) (KN (o':=3) Try.underlying188 rfl rfl rfl sz_9 (by decide)) ?_
      refine LAny.take 2 rfl (by kernel_rfl) (Nb rfl) (KM rfl (by repeat (first|exact Mh _|apply Mt)) (Kc Try.underlying9 rfl (by first|rfl|exact KAG _ _ _ (by omega)|exact KAD _ (by omega)|exact KAK _ (by omega)|exact dv_m _ _ _ (by omega)))) ?_
      refine KC 4 rfl (by kernel_rfl) (Nb rfl) (KN (o':=4) Try.underlying188 rfl rfl rfl sz_9 (by decide)) ?_
      refine LAny.take 5 rfl (by kernel_rfl) (Nb rfl) (KM rfl (by repeat (first|exact Mh _|apply Mt)) (Kc Try.underlying9 rfl (by first|rfl|exact KAG _ _ _ (by omega)|exact KAD _ (by omega)|exact KAK _ (by omega)|exact dv_m _ _ _ (by omega)))) ?_
      refine Kt 3 rfl rfl (by kernel_rfl) (KU (first:=[]) rfl en_148 rfl (Nb rfl) (fun w hw=>fhex s3 V.x w hX) ?_)
      refine Kt 6 rfl rfl (by kernel_rfl) (KU (first:=[]) rfl en_148 rfl (Nb rfl) (fun w hw=>fhex s4 V.y w hY) ?_)
      refine KC 7 rfl (by kernel_rfl) (Nb rfl) (Kb (KAP pl_60 zr_60 rfl (fill_pt _ _)) rfl) ?_
      refine KC 8 rfl (by kernel_rfl) (Nb rfl) (KW rfl) ?_
      refine KC 9 rfl (by kernel_rfl) (Nb rfl) (KN (o':=0) Try.underlying147 rfl rfl rfl sz_62 (by decide)) ?_
      refine KC 10 rfl (by kernel_rfl) (Nb rfl) (KN (o':=37) Try.underlying62 rfl rfl rfl sz_60 (by decide)) ?_
      refine Kn 11 rfl rfl (by kernel_rfl) (by kernel_rfl) (KAJ rfl rfl rfl sz_60 (by first|exact KF _|exact KS _ _ _|rfl) (by first|exact Kg _|exact Kl _ _ _|exact KR rfl KV) (by repeat (first|exact Sh _|apply St_)) (by simp only [KAY]; decide) (cvC_set_g _ _ _ _ _ _ _ _ _ _ _ _ _ _ _ _) (by simp) ?_)
      refine Ko (by kernel_rfl) ?_
      refine KD ?_
      refine Ka [18,22] (by kernel_rfl) ?_
      refine KC 0 rfl (by kernel_rfl) (Nb rfl) (KE rfl) ?_
      refine KC 1 rfl (by kernel_rfl) (Nb rfl) (KE rfl) ?_
      refine KC 2 rfl (by kernel_rfl) (Nb rfl) (KE rfl) ?_
      refine KC 3 rfl (by kernel_rfl) (Nb rfl) (KW rfl) ?_
      refine KC 4 rfl (by kernel_rfl) (Nb rfl) (KN (o':=0) Try.underlying147 rfl rfl rfl sz_62 (by decide)) ?_
      refine KC 5 rfl (by kernel_rfl) (Nb rfl) (KN (o':=28) Try.underlying62 rfl rfl rfl sz_25 (by decide)) ?_
      refine LAny.take 6 rfl (by kernel_rfl) (Nb rfl) (KM rfl (by repeat (first|exact Mh _|apply Mt)) (by exact cvC_ld_n _ _ _ _ _ _ _ _ _ _ _ _ _ _ _ _)) ?_
      refine KC 8 rfl (by kernel_rfl) (Nb rfl) (KE rfl) ?_
      refine KC 9 rfl (by kernel_rfl) (Nb rfl) (KW rfl) ?_
      refine KC 10 rfl (by kernel_rfl) (Nb rfl) (KN (o':=0) Try.underlying194 rfl rfl rfl sz_25 (by decide)) ?_
      refine LAny.take 11 rfl (by kernel_rfl) (Nb rfl) (KM rfl (by repeat (first|exact Mh _|apply Mt)) (by exact KAB Try.underlying25 rfl sz_25 rfl (KF _))) ?_
      refine Kt 7 rfl rfl (by kernel_rfl) (KU (first:=[]) rfl en_151 rfl (Nb rfl) (fun w hw=>c_nat_Bits V.n hnW w) ?_)
      refine Kt 12 rfl rfl (by kernel_rfl) (KU (first:=[]) rfl en_151 rfl (Nb rfl) (fun w hw=>c_nat_Bits V.p hpW w) ?_)
      refine KC 13 rfl (by kernel_rfl) (Nb rfl) (KP rfl rfl (KAT (b:=7) (by omega))) ?_
      refine KC 14 rfl (by kernel_rfl) (Nb rfl) (KP rfl rfl (br_quo (b:=8) (by omega) (by omega))) ?_
      refine KC 15 rfl (by kernel_rfl) (Nb rfl) (KW rfl) ?_
      refine KC 16 rfl (by kernel_rfl) (Nb rfl) (KN (o':=0) Try.underlying147 rfl rfl rfl sz_62 (by decide)) ?_
      refine KC 17 rfl (by kernel_rfl) (Nb rfl) (KN (o':=56) Try.underlying62 rfl rfl rfl sz_3 (by decide)) ?_
      refine Kn 18 rfl rfl (by kernel_rfl) (by kernel_rfl) (KAJ rfl rfl rfl sz_3 (by first|exact KF _|exact KS _ _ _|rfl) (by first|exact Kg _|exact Kl _ _ _|exact KR rfl KV) (by repeat (first|exact Sh _|apply St_)) (by simp only [KAY]; decide) (cvC_set_bits _ _ _ _ _ _ _ _ _ _ _ _ _ _) (by simp) ?_)
      refine KC 19 rfl (by kernel_rfl) (Nb rfl) (KW rfl) ?_
      refine KC 20 rfl (by kernel_rfl) (Nb rfl) (KN (o':=0) Try.underlying147 rfl rfl rfl sz_62 (by decide)) ?_
      refine KC 21 rfl (by kernel_rfl) (Nb rfl) (KN (o':=57) Try.underlying62 rfl rfl rfl sz_3 (by decide)) ?_
      refine Kn 22 rfl rfl (by kernel_rfl) (by kernel_rfl) (KAJ rfl rfl rfl sz_3 (by first|exact KF _|exact KS _ _ _|rfl) (by first|exact Kg _|exact Kl _ _ _|exact KR rfl KV) (by repeat (first|exact Sh _|apply St_)) (by simp only [KAY]; decide) (cvC_set_size _ _ _ _ _ _ _ _ _ _ _ _ _ _) (by simp) ?_)
      refine Ko (by kernel_rfl) ?_
      refine KD ?_
      by_cases hi1:((V.id:Nat):Int) = 1
      ·
        refine KB ?_
        refine KA (KE rfl) (Nb rfl) ?_
        refine KA (KE rfl) (Nb rfl) ?_
        refine KA (KP (v:=.bool true) rfl rfl (br_t KAV hi1)) (Nb rfl) ?_
        refine KA (KE rfl) (Nb rfl) ?_
        refine Ku rfl rfl rfl (Nb rfl) ?_
        refine Ku rfl rfl rfl (Nb rfl) ?_
        refine KA (KAE rfl rfl) (Nb rfl) ?_
        refine KA (KW rfl) (Nb rfl) ?_
        refine KA (KN (o':=0) Try.underlying147 rfl rfl rfl sz_62 (by decide)) (Nb rfl) ?_
        refine KA (KN (o':=58) Try.underlying62 rfl rfl rfl sz_4 (by decide)) (Nb rfl) ?_
        refine KK rfl (KAJ rfl rfl rfl sz_4 (by first|exact KF _|exact KS _ _ _|rfl) (by first|exact Kg _|exact Kl _ _ _|exact KR rfl KV) (by repeat (first|exact Sh _|apply St_)) (by simp only [KAY]; decide) (cvC_set_leg _ _ _ _ _ _ _ _ _ _ _ _ _ _) (by simp) ?_)
        refine KG ?_
        refine KD ?_
        refine Ka [22] (by kernel_rfl) ?_
        refine KC 0 rfl (by kernel_rfl) (Nb rfl) (KE rfl) ?_
        refine KC 1 rfl (by kernel_rfl) (Nb rfl) (KE rfl) ?_
        refine KC 2 rfl (by kernel_rfl) (Nb rfl) (KE rfl) ?_
        refine KC 3 rfl (by kernel_rfl) (Nb rfl) (KE rfl) ?_
        refine KC 4 rfl (by kernel_rfl) (Nb rfl) (KW rfl) ?_
        refine KC 5 rfl (by kernel_rfl) (Nb rfl) (KN (o':=0) Try.underlying147 rfl rfl rfl sz_62 (by decide)) ?_
        refine KC 6 rfl (by kernel_rfl) (Nb rfl) (KN (o':=19) Try.underlying62 rfl rfl rfl sz_25 (by decide)) ?_
        refine LAny.take 7 rfl (by kernel_rfl) (Nb rfl) (KM rfl (by repeat (first|exact Mh _|apply Mt)) (by exact cvC_ld_b _ _ _ _ _ _ _ _ _ _ _ _ _ _ _ _)) ?_
        refine KC 8 rfl (by kernel_rfl) (Nb rfl) (KE rfl) ?_
        refine KC 9 rfl (by kernel_rfl) (Nb rfl) (KW rfl) ?_
        refine KC 10 rfl (by kernel_rfl) (Nb rfl) (KN (o':=0) Try.underlying147 rfl rfl rfl sz_62 (by decide)) ?_
        refine KC 11 rfl (by kernel_rfl) (Nb rfl) (KN (o':=19) Try.underlying62 rfl rfl rfl sz_25 (by decide)) ?_
        refine LAny.take 12 rfl (by kernel_rfl) (Nb rfl) (KM rfl (by repeat (first|exact Mh _|apply Mt)) (by exact cvC_ld_b _ _ _ _ _ _ _ _ _ _ _ _ _ _ _ _)) ?_
        refine KC 14 rfl (by kernel_rfl) (Nb rfl) (KE rfl) ?_
        refine KC 15 rfl (by kernel_rfl) (Nb rfl) (KW rfl) ?_
        refine KC 16 rfl (by kernel_rfl) (Nb rfl) (KN (o':=0) Try.underlying147 rfl rfl rfl sz_62 (by decide)) ?_
        refine KC 17 rfl (by kernel_rfl) (Nb rfl) (KN (o':=19) Try.underlying62 rfl rfl rfl sz_25 (by decide)) ?_
        refine LAny.take 18 rfl (by kernel_rfl) (Nb rfl) (KM rfl (by repeat (first|exact Mh _|apply Mt)) (by exact cvC_ld_b _ _ _ _ _ _ _ _ _ _ _ _ _ _ _ _)) ?_
        refine Kt 13 rfl rfl (by kernel_rfl) (KU (first:=[]) rfl en_152 rfl (Nb rfl) (fun w hw=>c_f_Add V f bd V.b V.b w (hw _ (by repeat (first|exact Mh _|apply Mt))) hbb.2.1 (by omega) (by omega)) ?_)
        refine Kt 19 rfl rfl (by kernel_rfl) (KU (first:=[]) rfl en_152 rfl (Nb rfl) (fun w hw=>c_f_Add V f bd ((V.b+V.b)%V.p) V.b w (hw _ (by repeat (first|exact Mh _|apply Mt))) hbb.2.1 (Nat.mod_lt _ (by omega)) (by omega)) ?_)
        refine KC 20 rfl (by kernel_rfl) (Nb rfl) (KW rfl) ?_
        refine KC 21 rfl (by kernel_rfl) (Nb rfl) (KN (o':=60) Try.underlying147 rfl rfl rfl sz_25 (by decide)) ?_
        refine Kn 22 rfl rfl (by kernel_rfl) (by kernel_rfl) (KAJ rfl rfl rfl sz_25 (by first|exact KF _|exact KS _ _ _|rfl) (by first|exact Kg _|exact Kl _ _ _|exact KR rfl KV) (by repeat (first|exact Sh _|apply St_)) (by simp only [KAY]; decide) (cvC_set_t3 _ _ _ _ _ _ _ _ _ _ _ _ _ _) (by simp) ?_)
        refine Ko (by kernel_rfl) ?_
        refine KD (KB ?_)
        refine KA (KE rfl) (Nb rfl) ?_
        refine KA (KH rfl) (Nb rfl) ?_
        refine KG (KY ?_)
        refine ⟨[_],.cons rfl .nil,fun a w' hr=>⟨b14,f,bd,rfl,?_,hr.hp _ (by repeat (first|exact Mh _|apply Mt)),hr.hp _ (by repeat (first|exact Mh _|apply Mt)),hr.new (B:=⟨true,_,_,_⟩) (by repeat (first|exact Mh _|apply Mt)) rfl,hnf,hnbd,hr.fr.below⟩⟩
        have hcv:=hr.hp _ (show Item.blk b14 ⟨true,cvC V.id V.p V.a V.b V.n V.x V.y false (blen V.n) (nby V.p) true (.pointer (some ⟨f,0,none⟩)) (thr V),147,(0,0)⟩∈_ from (by repeat (first|exact Mh _|apply Mt)))
        have hl:legB V = true:=by unfold legB; exact decide_eq_true (by omega)
        unfold opL
        rw [hl]
        exact hcv
      ·
        refine KB ?_
        refine KA (KE rfl) (Nb rfl) ?_
        refine KA (KE rfl) (Nb rfl) ?_
        refine KA (KP (v:=.bool false) rfl rfl (br_f KAV hi1)) (Nb rfl) ?_
        refine KA (KE rfl) (Nb rfl) ?_
        refine Ke rfl rfl (KE rfl) (Nb rfl) ?_
        refine Ke rfl rfl (KP (v:=.bool (decide (((V.id:Nat):Int) = 7))) rfl rfl KAV) (Nb rfl) ?_
        refine KA (Kz rfl rfl) (Nb rfl) ?_
        refine KA (KW rfl) (Nb rfl) ?_
        refine KA (KN (o':=0) Try.underlying147 rfl rfl rfl sz_62 (by decide)) (Nb rfl) ?_
        refine KA (KN (o':=58) Try.underlying62 rfl rfl rfl sz_4 (by decide)) (Nb rfl) ?_
        refine KK rfl (KAJ rfl rfl rfl sz_4 (by first|exact KF _|exact KS _ _ _|rfl) (by first|exact Kg _|exact Kl _ _ _|exact KR rfl KV) (by repeat (first|exact Sh _|apply St_)) (by simp only [KAY]; decide) (cvC_set_leg _ _ _ _ _ _ _ _ _ _ _ _ _ _) (by simp) ?_)
        refine KG ?_
        refine KD ?_
        refine Ka [22] (by kernel_rfl) ?_
        refine KC 0 rfl (by kernel_rfl) (Nb rfl) (KE rfl) ?_
        refine KC 1 rfl (by kernel_rfl) (Nb rfl) (KE rfl) ?_
        refine KC 2 rfl (by kernel_rfl) (Nb rfl) (KE rfl) ?_
        refine KC 3 rfl (by kernel_rfl) (Nb rfl) (KE rfl) ?_
        refine KC 4 rfl (by kernel_rfl) (Nb rfl) (KW rfl) ?_
        refine KC 5 rfl (by kernel_rfl) (Nb rfl) (KN (o':=0) Try.underlying147 rfl rfl rfl sz_62 (by decide)) ?_
        refine KC 6 rfl (by kernel_rfl) (Nb rfl) (KN (o':=19) Try.underlying62 rfl rfl rfl sz_25 (by decide)) ?_
        refine LAny.take 7 rfl (by kernel_rfl) (Nb rfl) (KM rfl (by repeat (first|exact Mh _|apply Mt)) (by exact cvC_ld_b _ _ _ _ _ _ _ _ _ _ _ _ _ _ _ _)) ?_
        refine KC 8 rfl (by kernel_rfl) (Nb rfl) (KE rfl) ?_
        refine KC 9 rfl (by kernel_rfl) (Nb rfl) (KW rfl) ?_
        refine KC 10 rfl (by kernel_rfl) (Nb rfl) (KN (o':=0) Try.underlying147 rfl rfl rfl sz_62 (by decide)) ?_
        refine KC 11 rfl (by kernel_rfl) (Nb rfl) (KN (o':=19) Try.underlying62 rfl rfl rfl sz_25 (by decide)) ?_
        refine LAny.take 12 rfl (by kernel_rfl) (Nb rfl) (KM rfl (by repeat (first|exact Mh _|apply Mt)) (by exact cvC_ld_b _ _ _ _ _ _ _ _ _ _ _ _ _ _ _ _)) ?_
        refine KC 14 rfl (by kernel_rfl) (Nb rfl) (KE rfl) ?_
        refine KC 15 rfl (by kernel_rfl) (Nb rfl) (KW rfl) ?_
        refine KC 16 rfl (by kernel_rfl) (Nb rfl) (KN (o':=0) Try.underlying147 rfl rfl rfl sz_62 (by decide)) ?_
        refine KC 17 rfl (by kernel_rfl) (Nb rfl) (KN (o':=19) Try.underlying62 rfl rfl rfl sz_25 (by decide)) ?_
        refine LAny.take 18 rfl (by kernel_rfl) (Nb rfl) (KM rfl (by repeat (first|exact Mh _|apply Mt)) (by exact cvC_ld_b _ _ _ _ _ _ _ _ _ _ _ _ _ _ _ _)) ?_
        refine Kt 13 rfl rfl (by kernel_rfl) (KU (first:=[]) rfl en_152 rfl (Nb rfl) (fun w hw=>c_f_Add V f bd V.b V.b w (hw _ (by repeat (first|exact Mh _|apply Mt))) hbb.2.1 (by omega) (by omega)) ?_)
        refine Kt 19 rfl rfl (by kernel_rfl) (KU (first:=[]) rfl en_152 rfl (Nb rfl) (fun w hw=>c_f_Add V f bd ((V.b+V.b)%V.p) V.b w (hw _ (by repeat (first|exact Mh _|apply Mt))) hbb.2.1 (Nat.mod_lt _ (by omega)) (by omega)) ?_)
        refine KC 20 rfl (by kernel_rfl) (Nb rfl) (KW rfl) ?_
        refine KC 21 rfl (by kernel_rfl) (Nb rfl) (KN (o':=60) Try.underlying147 rfl rfl rfl sz_25 (by decide)) ?_
        refine Kn 22 rfl rfl (by kernel_rfl) (by kernel_rfl) (KAJ rfl rfl rfl sz_25 (by first|exact KF _|exact KS _ _ _|rfl) (by first|exact Kg _|exact Kl _ _ _|exact KR rfl KV) (by repeat (first|exact Sh _|apply St_)) (by simp only [KAY]; decide) (cvC_set_t3 _ _ _ _ _ _ _ _ _ _ _ _ _ _) (by simp) ?_)
        refine Ko (by kernel_rfl) ?_
        refine KD (KB ?_)
        refine KA (KE rfl) (Nb rfl) ?_
        refine KA (KH rfl) (Nb rfl) ?_
        refine KG (KY ?_)
        refine ⟨[_],.cons rfl .nil,fun a w' hr=>⟨b14,f,bd,rfl,?_,hr.hp _ (by repeat (first|exact Mh _|apply Mt)),hr.hp _ (by repeat (first|exact Mh _|apply Mt)),hr.new (B:=⟨true,_,_,_⟩) (by repeat (first|exact Mh _|apply Mt)) rfl,hnf,hnbd,hr.fr.below⟩⟩
        have hcv:=hr.hp _ (show Item.blk b14 ⟨true,cvC V.id V.p V.a V.b V.n V.x V.y false (blen V.n) (nby V.p) (decide (((V.id:Nat):Int) = 7)) (.pointer (some ⟨f,0,none⟩)) (thr V),147,(0,0)⟩∈_ from (by repeat (first|exact Mh _|apply Mt)))
        have hl:legB V = (decide (((V.id:Nat):Int) = 7)):=by unfold legB; by_cases h7:V.id = 7 <;> simp [h7]; omega
        unfold opL
        rw [hl]
        exact hcv
end Go.Proofs.Ytljblbgogjieaaa
set_option linter.unusedVariables false
set_option linter.unusedSimpArgs false
set_option maxRecDepth 20000
namespace Go.Proofs.Ytljblbgogjieaaa
open Go Go.RowKit
theorem c_Num (x:Int) (w:World)  : Calls Try.prog 46 ([.int .i64 x]:List Value).toArray w (fun e w'=>e = .returned (.int .i64 x)∧Below w.heap.size w w'):=by
  refine Kw (N:=4) (rs:=[.tmp 2]) [] Try.func46 rfl Try.ntmps46 Try.results46 (Nb rfl) trivial rfl ?_
  show LCode _ _ _ ⟨_,_⟩ _
  refine KD (KB ?_)
  refine KA (KH (v:=.int .i64 ((0:Nat):Int)) rfl) (Nb rfl) ?_
  refine KG ?_
  refine KD (KB ?_)
  refine KA (KE rfl) (Nb rfl) ?_
  refine KA (KH rfl) (Nb rfl) ?_
  refine KG (KY ?_)
  refine ⟨[_],.cons rfl .nil,fun a w' hr=>⟨?_,hr.fr.below⟩⟩
  rfl
theorem one_cells9 {x:Nat} (hx:x<18446744073709551616):vec .u64 9 (fun j=>if j = 0 then x else 0) = natL x:=KAS fun i _=>by rw [limb_small hx]
theorem u64_w9 {x:Nat} (hx:x<18446744073709551616):x<W9:=by
  obtain ⟨k,hk⟩:∃ k:Nat,k = 9:=⟨9,rfl⟩
  rw [← w9 hk]
  have h:x<2^64:=hx
  exact Nat.lt_of_lt_of_le h (Nat.pow_le_pow_right (by decide) (by omega))
theorem c_One (x:Nat) (w:World) (hx:x<18446744073709551616):Calls Try.prog 55 ([.int .u64 ((x:Nat):Int)]:List Value).toArray w (fun e w'=>e = .returned (natV x)∧Below w.heap.size w w'):=by
  refine Kw (N:=8) (rs:=[.cell 2 25]) [] Try.func55 rfl Try.ntmps55 Try.results55 (Nb rfl) trivial rfl ?_
  show LCode _ _ _ ⟨_,_⟩ _
  refine KD (KB ?_)
  refine KK rfl (KX (KQ (Kd zr_25) (Nb rfl) (fun b2=>?_)))
  refine KG ?_
  refine KD (KB ?_)
  refine KK rfl (KX (KQ (Kd zr_25) (Nb rfl) (fun b3=>?_)))
  refine KG ?_
  refine KD (KB ?_)
  refine KA (KE rfl) (Nb rfl) ?_
  refine KA (KN (o':=0) Try.underlying25 rfl rfl rfl sz_23 (by decide)) (Nb rfl) ?_
  refine KA (Kv (i:=0) Try.underlying23 sz_22 rfl rfl (by decide)) (Nb rfl) ?_
  refine KK rfl (KAC rfl rfl rfl sz_22 (by repeat (first|exact Sh _|apply St_)) (by first|(simp only [KJ,KF,KI,KAO]; omega)|(simp; omega)) (by first|exact vec_set _ _ _ _ _|exact dv_setm _ _ _ _ (by omega)|exact dv_sets _ _ _ _|rfl) (by simp) ?_)
  refine KG ?_
  refine KD ?_
  refine LCode.sub (Sub.cells (b:=b3) (cs':=natL x) (by repeat (first|exact Sh _|apply St_)) (one_cells9 hx)) ?_
  refine KB ?_
  refine LOps.det (KM rfl (by repeat (first|exact Mh _|apply Mt)) (by exact KL Try.underlying25 rfl sz_25)) (Nb rfl) ?_
  refine KK rfl (KO rfl rfl sz_25 (by repeat (first|exact Kg _|exact Kr _ _ _|exact Kh _|exact Kl _ _ _|exact Kq _ _ _|exact KV|refine KR rfl ?_|refine KT ?_ ?_)) (by repeat (first|exact Sh _|apply St_)) (by first|exact KF _|exact KJ _ _ _|exact KI _|exact KS _ _ _|exact KZ _ _ _|rfl|simp [KJ,KF,KI]) ?_)
  refine KG (KY ?_)
  refine ⟨[_],.cons ⟨_,_,_,rfl,(by repeat (first|exact Mh _|apply Mt)),by exact KL Try.underlying25 rfl sz_25⟩ .nil,fun a w' hr=>⟨?_,hr.fr.below⟩⟩
  rfl
theorem zero_w9:0<W9:=w9_pos
end Go.Proofs.Ytljblbgogjieaaa
set_option linter.unusedVariables false
set_option linter.unusedSimpArgs false
set_option maxRecDepth 20000
namespace Go.Proofs.Ytljblbgogjieaaa
open Go Go.RowKit
open Grp
theorem pt_ld1 (X Y:Nat) (i:Bool) (wr:Bool) (e:TypeId) (fz:Nat×Nat):LoadV Try.prog 25 ⟨wr,ptL X Y i,e,fz⟩ 9 (natV Y):=LoadV.mid Try.underlying25 rfl sz_25 (show ptL X Y i = natL X++(natL Y++[.bool i]) from rfl) (KF _) (KF _)
theorem pj_ld2 (X Y Z:Nat) (wr:Bool) (e:TypeId) (fz:Nat×Nat):LoadV Try.prog 25 ⟨wr,pjL X Y Z,e,fz⟩ 18 (natV Z):=LoadV.last Try.underlying25 rfl sz_25 (show pjL X Y Z = (natL X++natL Y)++natL Z by simp [pjL]) (by simp [KF]) (KF _)
theorem pt_gt (X Y:Nat) (i:Bool):(ptL X Y i)[18]? = some (.bool i):=get_mid (A:=natL X++natL Y) (D:=[]) (by simp [ptL]) (by simp [KF])
theorem eq_pt (X Y:Nat) (i:Bool) (X' Y':Nat) (i':Bool) (hX:X<W9) (hY:Y<W9) (hX':X' < W9) (hY':Y' < W9):EqD 4 Try.prog 60 (ptV X Y i) (ptV X' Y' i') (decide (X = X') && (decide (Y = Y') && ((i == i') && true))):=by
  have d1:∀ A B i,((ptL A B i).drop 0).take 9 = natL A:=fun A B i=>by
    rw [List.drop_zero]; unfold ptL; rw [List.take_left' (KF A)]
  have d2:∀ A B i,((ptL A B i).drop 9).take 9 = natL B:=fun A B i=>by
    unfold ptL; rw [List.drop_left' (KF A),List.take_left' (KF B)]
  exact EqD.struct (fs:=[_,_,_]) Try.underlying60 (by kernel_rfl) (EqFs.cons (by decide) (PartOf.agg Try.underlying25 rfl sz_25 (d1 X Y i)) (PartOf.agg Try.underlying25 rfl sz_25 (d1 X' Y' i')) (eq_nat X X' hX hX')
    (EqFs.cons (by decide) (PartOf.agg Try.underlying25 rfl sz_25 (d2 X Y i)) (PartOf.agg Try.underlying25 rfl sz_25 (d2 X' Y' i')) (eq_nat Y Y' hY hY')
    (EqFs.cons (by decide) (PartOf.one Try.underlying4 rfl (pt_gt X Y i)) (PartOf.one Try.underlying4 rfl (pt_gt X' Y' i')) ((EqD.bool Try.underlying4).mono (by decide)) EqFs.nil)))
theorem pt_w9 {V:Cv} (hok:V.Ok) (P:Grp.Pt V.p):xv P<W9∧yv P<W9:=⟨w9_521 (Nat.lt_trans (xv_lt P) hok.bounds.2.1),w9_521 (Nat.lt_trans (yv_lt P) hok.bounds.2.1)⟩
def ptP {p:Nat} (P:Grp.Pt p):Value:=ptV (xv P) (yv P) (iv P)
theorem eq_ptP_t {V:Cv} (hok:V.Ok) {P Q:Grp.Pt V.p} (h:P = Q):EqD 4 Try.prog 60 (ptP P) (ptP Q) true:=by
  subst h
  have:=eq_pt (xv P) (yv P) (iv P) (xv P) (yv P) (iv P) (pt_w9 hok P).1 (pt_w9 hok P).2 (pt_w9 hok P).1 (pt_w9 hok P).2
  rwa [show (decide (xv P = xv P) && (decide (yv P = yv P) && ((iv P == iv P) && true))) = true by simp] at this
theorem eq_ptP_f {V:Cv} (hok:V.Ok) {P Q:Grp.Pt V.p} (h:P≠Q):EqD 4 Try.prog 60 (ptP P) (ptP Q) false:=by
  have:=eq_pt (xv P) (yv P) (iv P) (xv Q) (yv Q) (iv Q) (pt_w9 hok P).1 (pt_w9 hok P).2 (pt_w9 hok Q).1 (pt_w9 hok Q).2
  have e:(decide (xv P = xv Q) && (decide (yv P = yv Q) && ((iv P == iv Q) && true))) = false:=by
    cases h0:(decide (xv P = xv Q) && (decide (yv P = yv Q) && ((iv P == iv Q) && true))) with
    | false=>rfl
    | true =>
      simp only [Bool.and_true,Bool.and_eq_true,decide_eq_true_eq,beq_iff_eq] at h0
      exact absurd (pt_ext h0.1 h0.2.1 h0.2.2) h
  rwa [e] at this
theorem fill_ptI (X Y:Nat) (i:Bool):fillL [(0,9),(9,9),(18,1)] (vec .u64 9 (fun _=>0)++(vec .u64 9 (fun _=>0)++[Value.bool false])) [(0,natV X),(1,natV Y),(2,.bool i)] = some (ptL X Y i):=by
  refine KAX (A:=[]) (B:=vec .u64 9 (fun _=>0)) (D:=vec .u64 9 (fun _=>0)++[Value.bool false]) (cs:=natL X) rfl rfl (KF _) rfl rfl (KJ _ _ _) ?_
  refine KAX (A:=natL X) (B:=vec .u64 9 (fun _=>0)) (D:=[Value.bool false]) (cs:=natL Y) rfl rfl (KF _) (by simp) (KF _) (KJ _ _ _) ?_
  refine (KAX (A:=natL X++natL Y) (B:=[Value.bool false]) (D:=[]) (cs:=[Value.bool i]) rfl rfl rfl (by simp) (by simp [KF]) rfl rfl).trans ?_
  simp [ptL]
theorem fill_ptInf:fillL [(0,9),(9,9),(18,1)] (vec .u64 9 (fun _=>0)++(vec .u64 9 (fun _=>0)++[Value.bool false])) [(2,.bool true)] = some (ptL 0 0 true):=by
  refine (KAX (A:=vec .u64 9 (fun _=>0)++vec .u64 9 (fun _=>0)) (B:=[Value.bool false]) (D:=[]) (cs:=[Value.bool true]) rfl rfl rfl (by simp) (by simp [KJ]) rfl rfl).trans ?_
  simp [ptL,natL,vec_zeros 9]
theorem pt_zero:Value.agg (vec .u64 9 (fun _=>0)++(vec .u64 9 (fun _=>0)++[Value.bool false]):List Value).toArray = ptV 0 0 false:=by
  unfold ptV ptL natL; rw [vec_zeros 9]
section
variable (V:Cv) (hok:V.Ok) (f bd:Nat)
include hok
theorem c_F_Add (X Y:Fin V.p) (w:World) (hf:(Item.blk f ⟨false,fldL V.p bd,194,(0,0)⟩).holds w):Calls Try.prog 152 ([.pointer (some ⟨f,0,none⟩),natV X.val,natV Y.val]:List Value).toArray w (fun e w'=>e = .returned (natV (X+Y).val)∧Below w.heap.size w w'):=by
  have:=c_f_Add V f bd X.val Y.val w hf hok.bounds.2.1 X.isLt Y.isLt
  rwa [← Fin.val_add] at this
theorem c_F_Sub (X Y:Fin V.p) (w:World) (hf:(Item.blk f ⟨false,fldL V.p bd,194,(0,0)⟩).holds w):Calls Try.prog 161 ([.pointer (some ⟨f,0,none⟩),natV X.val,natV Y.val]:List Value).toArray w (fun e w'=>e = .returned (natV (X-Y).val)∧Below w.heap.size w w'):=by
  have:=c_f_Sub V f bd X.val Y.val w hf hok.bounds.2.1 X.isLt Y.isLt
  rwa [← fin_subv] at this
theorem c_F_Mul (X Y:Fin V.p) (w:World) (hf:(Item.blk f ⟨false,fldL V.p bd,194,(0,0)⟩).holds w) (hbd:(Item.blk bd ⟨false,dvL V.p,241,(0,0)⟩).holds w):Calls Try.prog 156 ([.pointer (some ⟨f,0,none⟩),natV X.val,natV Y.val]:List Value).toArray w (fun e w'=>e = .returned (natV (X*Y).val)∧Below w.heap.size w w'):=by
  have hb:=hok.bounds
  have hpW:=w9_521 hb.2.1
  have:=c_f_Mul V f bd X.val Y.val w hf hbd (by omega) hpW (Nat.lt_trans X.isLt hpW) (Nat.lt_trans Y.isLt hpW)
  rwa [← Fin.val_mul] at this
theorem c_F_Inv (X:Fin V.p) (w:World) (hf:(Item.blk f ⟨false,fldL V.p bd,194,(0,0)⟩).holds w):Calls Try.prog 160 ([.pointer (some ⟨f,0,none⟩),natV X.val]:List Value).toArray w (fun e w'=>e = .returned (natV (finv X).val)∧Below w.heap.size w w'):=by
  have hb:=hok.bounds
  have hpW:=w9_521 hb.2.1
  have:=c_f_Inv V f bd X.val w hf (by omega) hpW (Nat.lt_trans X.isLt hpW)
  rwa [← finv_val] at this
end
theorem a_val {V:Cv} (hok:V.Ok):natV V.a = natV V.A.val:=by rw [hok.A_val hok.bounds.2.2.1]
theorem b_val {V:Cv} (hok:V.Ok):natV V.b = natV V.B.val:=by rw [hok.B_val hok.bounds.2.2.2.1]
theorem t_val {V:Cv} (hok:V.Ok):natV (thr V) = natV (V.B+V.B+V.B).val:=by
  rw [Fin.val_add,Fin.val_add,hok.B_val hok.bounds.2.2.2.1]; rfl
def acC (id p a b n gx gy:Nat) (inf:Bool) (bits size:Nat) (leg:Bool):List Value:=[.int .i64 ((id:Nat):Int)]++(natL p++(natL a++(natL b++(natL n++(ptL gx gy inf++([.int .i64 ((bits:Nat):Int)]++([.int .i64 ((size:Nat):Int)]++[.bool leg])))))))
def acL (V:Cv):List Value:=acC V.id V.p V.a V.b V.n V.x V.y false (blen V.n) (nby V.p) (legB V)
theorem acC_length (id p a b n gx gy:Nat) (inf:Bool) (bits size:Nat) (leg:Bool):(acC id p a b n gx gy inf bits size leg).length = 59:=by simp [acC,KF,KS]
theorem acL_length (V:Cv):(acL V).length = 59:=acC_length _ _ _ _ _ _ _ _ _ _ _
theorem acC_one (id p a b n gx gy:Nat) (inf:Bool) (bits size:Nat) (leg:Bool):AllOne (acC id p a b n gx gy inf bits size leg):=by
  unfold acC
  repeat (first|exact Kg _|exact Kl _ _ _|exact KV|refine KR rfl ?_|refine KT ?_ ?_)
theorem acL_one (V:Cv):AllOne (acL V):=acC_one _ _ _ _ _ _ _ _ _ _ _
theorem ac_at_n (id p a b n gx gy:Nat) (inf:Bool) (bits size:Nat) (leg:Bool):acC id p a b n gx gy inf bits size leg = ([.int .i64 ((id:Nat):Int)]++(natL p++(natL a++(natL b))))++((natL n)++(ptL gx gy inf++([.int .i64 ((bits:Nat):Int)]++([.int .i64 ((size:Nat):Int)]++([.bool leg]))))):=by simp only [acC,List.append_assoc,List.append_nil,List.nil_append]
theorem ac_len_n (id p a b n gx gy:Nat) (inf:Bool) (bits size:Nat) (leg:Bool):([.int .i64 ((id:Nat):Int)]++(natL p++(natL a++(natL b))):List Value).length = 28:=by simp [KF,KS]
theorem ac_at_g (id p a b n gx gy:Nat) (inf:Bool) (bits size:Nat) (leg:Bool):acC id p a b n gx gy inf bits size leg = ([.int .i64 ((id:Nat):Int)]++(natL p++(natL a++(natL b++(natL n)))))++((ptL gx gy inf)++([.int .i64 ((bits:Nat):Int)]++([.int .i64 ((size:Nat):Int)]++([.bool leg])))):=by simp only [acC,List.append_assoc,List.append_nil,List.nil_append]
theorem ac_len_g (id p a b n gx gy:Nat) (inf:Bool) (bits size:Nat) (leg:Bool):([.int .i64 ((id:Nat):Int)]++(natL p++(natL a++(natL b++(natL n)))):List Value).length = 37:=by simp [KF,KS]
theorem ac_ld_g (id p a b n gx gy:Nat) (inf:Bool) (bits size:Nat) (leg:Bool) (wr:Bool) (e:TypeId) (fz:Nat×Nat):LoadV Try.prog 60 ⟨wr,acC id p a b n gx gy inf bits size leg,e,fz⟩ 37 (.agg (ptL gx gy inf).toArray):=LoadV.mid Try.underlying60 rfl sz_60 (ac_at_g id p a b n gx gy inf bits size leg) (ac_len_g id p a b n gx gy inf bits size leg) (by simp [KF,KS])
theorem op_ac (V:Cv) (f:Nat):opL V f = acL V++(.pointer (some ⟨f,0,none⟩) :: natL (thr V)):=by
  simp only [opL,cvC,acL,acC,List.append_assoc,List.cons_append,List.nil_append]
theorem op_ld_ac (V:Cv) (f:Nat) (wr:Bool) (e:TypeId) (fz:Nat×Nat):LoadV Try.prog 62 ⟨wr,opL V f,e,fz⟩ 0 (.agg (acL V).toArray):=KAB Try.underlying62 rfl sz_62 (op_ac V f) (acL_length V)
end Go.Proofs.Ytljblbgogjieaaa
set_option linter.unusedVariables false
set_option linter.unusedSimpArgs false
set_option maxRecDepth 20000
namespace Go.Proofs.Ytljblbgogjieaaa
open Go Go.RowKit
def rpL (u v:Value) (i:Bool):List Value:=[u,v,.bool i]
def rpV (u v:Value) (i:Bool):Value:=.agg (rpL u v i).toArray
theorem NFr.in {lo:Nat} {old:List Nat} {q:NV} {n:Nat} (h:∀ k,k∈fpz q n→k∈old):NFr lo old q n:=fun k hk=>.inr (h k hk)
theorem NFr.le {lo:Nat} {old old':List Nat} {q:NV} {n:Nat} (h:NFr lo old q n) (hs:∀ k,k∈old→k∈old'):NFr lo old' q n:=fun k hk=>(h k hk).imp id (hs k)
theorem crv_in {Q:CQ} {V:Cv} {q:NV} {A:Nat} (h:(q,A)∈[(Q.p,V.p),(Q.a,V.a),(Q.b,V.b),(Q.n,V.n),(Q.x,V.x),(Q.y,V.y)]) (lo:Nat):NFr lo (crvI Q V).fp q (D.nw A):=fun k hk=>.inr (grp_fp (l:=[(Q.p,V.p),(Q.a,V.a),(Q.b,V.b),(Q.n,V.n),(Q.x,V.x),(Q.y,V.y)]) h k hk)
theorem c_r_G (Q:CQ) (V:Cv) (w:World) (hc:(crvI Q V).holds w):Calls Try.prog 80 ([.agg (crvL Q V).toArray]:List Value).toArray w (fun e w'=>Num2R w (crvI Q V).fp V.x V.y (fun u v=>rpV u v false) e w'):=by
  refine Kw (N:=8) (rs:=[.cell 2 73]) [crvI Q V] Try.func80 rfl Try.ntmps80 Try.results80 (Nb rfl) ⟨hc,trivial⟩ rfl ?_
  show LCode _ _ _ ⟨_,_⟩ _
  refine KD (KB ?_)
  refine KK rfl (KX (KQ (Ks rfl) (Nb rfl) (fun b1=>?_)))
  refine KK rfl (KX (KQ (Kd zr_73) (Nb rfl) (fun b2=>?_)))
  refine KG ?_
  refine KD (KB ?_)
  refine KA (KN (o':=5) Try.underlying31 rfl rfl rfl sz_29 (by decide)) (Nb rfl) ?_
  refine LOps.det (KM rfl (by repeat (first|exact Mh _|apply Mt)) (Kc Try.underlying29 rfl (by first|rfl|exact KAG _ _ _ (by omega)|exact KAD _ (by omega)|exact KAK _ (by omega)|exact dv_m _ _ _ (by omega)))) (Nb rfl) ?_
  refine KA (KN (o':=6) Try.underlying31 rfl rfl rfl sz_29 (by decide)) (Nb rfl) ?_
  refine LOps.det (KM rfl (by repeat (first|exact Mh _|apply Mt)) (Kc Try.underlying29 rfl (by first|rfl|exact KAG _ _ _ (by omega)|exact KAD _ (by omega)|exact KAK _ (by omega)|exact dv_m _ _ _ (by omega)))) (Nb rfl) ?_
  refine KA (Kb (KAP pl_73 zr_73 rfl rfl) (show _ = rpV (numV Q.x V.x) (numV Q.y V.y) (false) from rfl)) (Nb rfl) ?_
  refine KK rfl (KO rfl rfl sz_73 (by repeat (first|exact KV|refine KR rfl ?_)) (by repeat (first|exact Sh _|apply St_)) (by rfl) ?_)
  refine KG (KY ?_)
  refine ⟨[_],.cons ⟨_,_,_,rfl,(by repeat (first|exact Mh _|apply Mt)),by exact KL Try.underlying73 rfl sz_73⟩ .nil,fun a w' hr=>⟨Q.x,Q.y,rfl,crvI_x (hr.hp _ (by repeat (first|exact Mh _|apply Mt))),crv_in (by repeat (first|exact Mh _|apply Mt)) _,crvI_y (hr.hp _ (by repeat (first|exact Mh _|apply Mt))),crv_in (by repeat (first|exact Mh _|apply Mt)) _,hr.fr.below⟩⟩
theorem c_r_Out (q r:NV) (X Y:Nat) (i:Bool) (w:World) (hq:(numT q X).holds w) (hr:(numT r Y).holds w):Calls Try.prog 66 ([rpV (numV q (X)) (numV r (Y)) (i)]:List Value).toArray w (fun e w'=>e = .returned (ptV X Y i)∧Below w.heap.size w w'):=by
  refine Kw (N:=12) (rs:=[.cell 2 60]) [numT q X,numT r Y] Try.func66 rfl Try.ntmps66 Try.results66 (Nb rfl) ⟨hq,hr,trivial⟩ rfl ?_
  show LCode _ _ _ ⟨_,_⟩ _
  refine KD (KB ?_)
  refine KK rfl (KX (KQ (Ks rfl) (Nb rfl) (fun b1=>?_)))
  refine KK rfl (KX (KQ (Kd zr_60) (Nb rfl) (fun b2=>?_)))
  refine KG ?_
  refine KD ?_
  refine Ka [9] (by kernel_rfl) ?_
  refine KC 0 rfl (by kernel_rfl) (Nb rfl) (KN (o':=0) Try.underlying73 rfl rfl rfl sz_29 (by decide)) ?_
  refine LAny.take 1 rfl (by kernel_rfl) (Nb rfl) (KM rfl (by repeat (first|exact Mh _|apply Mt)) (Kc Try.underlying29 rfl (by first|rfl|exact KAG _ _ _ (by omega)|exact KAD _ (by omega)|exact KAK _ (by omega)|exact dv_m _ _ _ (by omega)))) ?_
  refine KC 3 rfl (by kernel_rfl) (Nb rfl) (KN (o':=1) Try.underlying73 rfl rfl rfl sz_29 (by decide)) ?_
  refine LAny.take 4 rfl (by kernel_rfl) (Nb rfl) (KM rfl (by repeat (first|exact Mh _|apply Mt)) (Kc Try.underlying29 rfl (by first|rfl|exact KAG _ _ _ (by omega)|exact KAD _ (by omega)|exact KAK _ (by omega)|exact dv_m _ _ _ (by omega)))) ?_
  refine KC 6 rfl (by kernel_rfl) (Nb rfl) (KN (o':=2) Try.underlying73 rfl rfl rfl sz_4 (by decide)) ?_
  refine LAny.take 7 rfl (by kernel_rfl) (Nb rfl) (KM rfl (by repeat (first|exact Mh _|apply Mt)) (Kc Try.underlying4 rfl (by first|rfl|exact KAG _ _ _ (by omega)|exact KAD _ (by omega)|exact KAK _ (by omega)|exact dv_m _ _ _ (by omega)))) ?_
  refine Kt 2 rfl rfl (by kernel_rfl) (KU (first:=[]) rfl en_50 rfl (Nb rfl) (fun w hw=>c_n_Nat q X (D.nw X) w (hw _ (by repeat (first|exact Mh _|apply Mt)))) ?_)
  refine Kt 5 rfl rfl (by kernel_rfl) (KU (first:=[]) rfl en_50 rfl (Nb rfl) (fun w hw=>c_n_Nat r Y (D.nw Y) w (hw _ (by repeat (first|exact Mh _|apply Mt)))) ?_)
  refine KC 8 rfl (by kernel_rfl) (Nb rfl) (Kb (KAP pl_60 zr_60 rfl (fill_ptI _ _ _)) rfl) ?_
  refine Kn 9 rfl rfl (by kernel_rfl) (by kernel_rfl) (KO rfl rfl sz_60 (by repeat (first|exact Kg _|exact Kr _ _ _|exact Kh _|exact Kl _ _ _|exact Kq _ _ _|exact KV|refine KR rfl ?_|refine KT ?_ ?_)) (by repeat (first|exact Sh _|apply St_)) (by first|exact KF _|exact KJ _ _ _|exact KI _|exact KS _ _ _|exact KZ _ _ _|rfl|simp [KJ,KF,KI]) ?_)
  refine Ko (by kernel_rfl) ?_
  refine KY ?_
  refine ⟨[_],.cons ⟨_,_,_,rfl,(by repeat (first|exact Mh _|apply Mt)),by exact KL Try.underlying60 rfl sz_60⟩ .nil,fun a w' hr=>⟨?_,hr.fr.below⟩⟩
  rfl
end Go.Proofs.Ytljblbgogjieaaa
set_option linter.unusedVariables false
set_option linter.unusedSimpArgs false
set_option maxRecDepth 20000
namespace Go.Proofs.Ytljblbgogjieaaa
open Go Go.RowKit
open Grp
theorem y_pos {V:Cv} (hok:V.Ok) {x y:Fin V.p} (h1:On V.A V.B (.aff x y)):y.val≠0:=fun e=>hok.good.y_ne h1 (Fin.ext e)
def fp2 {p:Nat} (q r:NV) (P:Pt p) (l:List Nat):List Nat:=fpz q (D.nw (xv P))++(fpz r (D.nw (yv P))++l)
theorem NFr.two {p:Nat} {q1 r1 q2 r2 u:NV} {P P2:Pt p} {lo n:Nat} {old:List Nat} (h:NFr lo (fp2 q1 r1 P (fp2 q2 r2 P2 [])) u n) (h1:NFr lo old q1 (D.nw (xv P))) (h2:NFr lo old r1 (D.nw (yv P))) (h3:NFr lo old q2 (D.nw (xv P2))) (h4:NFr lo old r2 (D.nw (yv P2))):NFr lo old u n:=fun k hk=>by
  rcases h k hk with h|h
  · exact .inl h
  · rcases List.mem_append.1 h with h|h
    · exact h1 k h
    · rcases List.mem_append.1 h with h|h
      · exact h2 k h
      · rcases List.mem_append.1 h with h|h
        · exact h3 k h
        · rcases List.mem_append.1 h with h|h
          · exact h4 k h
          · cases h
end Go.Proofs.Ytljblbgogjieaaa
set_option linter.unusedVariables false
set_option linter.unusedSimpArgs false
set_option maxRecDepth 20000
namespace Go.Proofs.Ytljblbgogjieaaa
open Go Go.RowKit
theorem c_Right (V:Cv) (b f bd:Nat) (hok:V.Ok) (X:Fin V.p) (w:World) (hb:(Item.blk b ⟨false,opL V f,147,(0,0)⟩).holds w) (hf:(Item.blk f ⟨false,fldL V.p bd,194,(0,0)⟩).holds w) (hbd:(Item.blk bd ⟨false,dvL V.p,241,(0,0)⟩).holds w):Calls Try.prog 157 ([.pointer (some ⟨b,0,none⟩),natV X.val]:List Value).toArray w (fun e w'=>e = .returned (natV ((X*X+V.A)*X+V.B).val)∧Below w.heap.size w w'):=by
  have hbb:=hok.bounds
  have hpW:V.p<W9:=w9_521 hbb.2.1
  refine Kw (N:=31) (rs:=[.cell 4 25]) [.blk b ⟨false,opL V f,147,(0,0)⟩,.blk f ⟨false,fldL V.p bd,194,(0,0)⟩,.blk bd ⟨false,dvL V.p,241,(0,0)⟩] Try.func157 rfl Try.ntmps157 Try.results157 (Nb rfl) ⟨hb,hf,hbd,trivial⟩ rfl ?_
  show LCode _ _ _ ⟨_,_⟩ _
  refine KD (KB ?_)
  refine KK rfl (KX (KQ (Ks rfl) (Nb rfl) (fun b3=>?_)))
  refine KK rfl (KX (KQ (Kd zr_25) (Nb rfl) (fun b4=>?_)))
  refine KG ?_
  refine KD (KB ?_)
  refine KA (KE rfl) (Nb rfl) ?_
  refine KA (KW rfl) (Nb rfl) ?_
  refine KA (KN (o':=59) Try.underlying147 rfl rfl rfl sz_145 (by decide)) (Nb rfl) ?_
  refine LOps.det (KM rfl (by repeat (first|exact Mh _|apply Mt)) (Kc Try.underlying145 rfl (by exact cvC_gt_F _ _ _ _ _ _ _ _ _ _ _ _ _))) (Nb rfl) ?_
  refine KA (KH rfl) (Nb rfl) ?_
  refine KG ?_
  refine KD ?_
  refine Ka [21] (by kernel_rfl) ?_
  refine KC 0 rfl (by kernel_rfl) (Nb rfl) (KE rfl) ?_
  refine KC 1 rfl (by kernel_rfl) (Nb rfl) (KE rfl) ?_
  refine KC 2 rfl (by kernel_rfl) (Nb rfl) (KE rfl) ?_
  refine KC 3 rfl (by kernel_rfl) (Nb rfl) (KE rfl) ?_
  refine LAny.take 4 rfl (by kernel_rfl) (Nb rfl) (KM rfl (by repeat (first|exact Mh _|apply Mt)) (by exact KL Try.underlying25 rfl sz_25)) ?_
  refine LAny.take 5 rfl (by kernel_rfl) (Nb rfl) (KM rfl (by repeat (first|exact Mh _|apply Mt)) (by exact KL Try.underlying25 rfl sz_25)) ?_
  refine KC 7 rfl (by kernel_rfl) (Nb rfl) (KE rfl) ?_
  refine KC 8 rfl (by kernel_rfl) (Nb rfl) (KW rfl) ?_
  refine KC 9 rfl (by kernel_rfl) (Nb rfl) (KN (o':=0) Try.underlying147 rfl rfl rfl sz_62 (by decide)) ?_
  refine KC 10 rfl (by kernel_rfl) (Nb rfl) (KN (o':=10) Try.underlying62 rfl rfl rfl sz_25 (by decide)) ?_
  refine LAny.take 11 rfl (by kernel_rfl) (Nb rfl) (Det.cast (KM rfl (by repeat (first|exact Mh _|apply Mt)) (by exact cvC_ld_a _ _ _ _ _ _ _ _ _ _ _ _ _ _ _ _)) (a_val hok)) ?_
  refine LAny.take 13 rfl (by kernel_rfl) (Nb rfl) (KM rfl (by repeat (first|exact Mh _|apply Mt)) (by exact KL Try.underlying25 rfl sz_25)) ?_
  refine KC 15 rfl (by kernel_rfl) (Nb rfl) (KE rfl) ?_
  refine KC 16 rfl (by kernel_rfl) (Nb rfl) (KW rfl) ?_
  refine KC 17 rfl (by kernel_rfl) (Nb rfl) (KN (o':=0) Try.underlying147 rfl rfl rfl sz_62 (by decide)) ?_
  refine KC 18 rfl (by kernel_rfl) (Nb rfl) (KN (o':=19) Try.underlying62 rfl rfl rfl sz_25 (by decide)) ?_
  refine LAny.take 19 rfl (by kernel_rfl) (Nb rfl) (Det.cast (KM rfl (by repeat (first|exact Mh _|apply Mt)) (by exact cvC_ld_b _ _ _ _ _ _ _ _ _ _ _ _ _ _ _ _)) (b_val hok)) ?_
  refine Kt 6 rfl rfl (by kernel_rfl) (KU (first:=[]) rfl en_156 rfl (Nb rfl) (fun w hw=>c_F_Mul V hok f bd _ _ w (hw _ (by repeat (first|exact Mh _|apply Mt))) (hw _ (by repeat (first|exact Mh _|apply Mt)))) ?_)
  refine Kt 12 rfl rfl (by kernel_rfl) (KU (first:=[]) rfl en_152 rfl (Nb rfl) (fun w hw=>c_F_Add V hok f bd _ _ w (hw _ (by repeat (first|exact Mh _|apply Mt)))) ?_)
  refine Kt 14 rfl rfl (by kernel_rfl) (KU (first:=[]) rfl en_156 rfl (Nb rfl) (fun w hw=>c_F_Mul V hok f bd _ _ w (hw _ (by repeat (first|exact Mh _|apply Mt))) (hw _ (by repeat (first|exact Mh _|apply Mt)))) ?_)
  refine Kt 20 rfl rfl (by kernel_rfl) (KU (first:=[]) rfl en_152 rfl (Nb rfl) (fun w hw=>c_F_Add V hok f bd _ _ w (hw _ (by repeat (first|exact Mh _|apply Mt)))) ?_)
  refine Kn 21 rfl rfl (by kernel_rfl) (by kernel_rfl) (KO rfl rfl sz_25 (by repeat (first|exact Kg _|exact Kr _ _ _|exact Kh _|exact Kl _ _ _|exact Kq _ _ _|exact KV|refine KR rfl ?_|refine KT ?_ ?_)) (by repeat (first|exact Sh _|apply St_)) (by first|exact KF _|exact KJ _ _ _|exact KI _|exact KS _ _ _|exact KZ _ _ _|rfl|simp [KJ,KF,KI]) ?_)
  refine Ko (by kernel_rfl) ?_
  refine KY ?_
  refine ⟨[_],.cons ⟨_,_,_,rfl,(by repeat (first|exact Mh _|apply Mt)),by exact KL Try.underlying25 rfl sz_25⟩ .nil,fun a w' hr=>⟨?_,hr.fr.below⟩⟩
  rfl
theorem c_HasT (V:Cv) (f bd A:Nat) (w:World) (hf:(Item.blk f ⟨false,fldL V.p bd,194,(0,0)⟩).holds w) (hA:A<W9) (hpW:V.p<W9) (h:A<V.p):Calls Try.prog 155 ([.pointer (some ⟨f,0,none⟩),natV A]:List Value).toArray w (fun e w'=>e = .returned (.bool true)∧Below w.heap.size w w'):=by
  have:=c_f_Has V f bd A w hf hA hpW
  rwa [decide_eq_true h] at this
theorem c_HasF (V:Cv) (f bd A:Nat) (w:World) (hf:(Item.blk f ⟨false,fldL V.p bd,194,(0,0)⟩).holds w) (hA:A<W9) (hpW:V.p<W9) (h:¬ A<V.p):Calls Try.prog 155 ([.pointer (some ⟨f,0,none⟩),natV A]:List Value).toArray w (fun e w'=>e = .returned (.bool false)∧Below w.heap.size w w'):=by
  have:=c_f_Has V f bd A w hf hA hpW
  rwa [decide_eq_false h] at this
theorem right_val {V:Cv} (hok:V.Ok) (x:Fin V.p):rightN V.p V.a V.b x.val = ((x*x+V.A)*x+V.B).val:=by
  unfold rightN
  rw [Fin.val_add,Fin.val_mul,Fin.val_add,Fin.val_mul,hok.A_val hok.bounds.2.2.1,hok.B_val hok.bounds.2.2.2.1]
theorem on_x' {p a b X Y:Nat} (h:¬ X<p):onB p a b X Y false = false:=by
  unfold onB; rw [if_neg (by decide),decide_eq_false h,Bool.false_and]
theorem on_yy' {p a b X Y:Nat} (h:¬ Y<p):onB p a b X Y false = false:=by
  unfold onB; rw [if_neg (by decide),decide_eq_false h,Bool.false_and,Bool.and_false]
theorem on_fin {V:Cv} (hok:V.Ok) (x y:Fin V.p):onB V.p V.a V.b x.val y.val false = decide ((y*y).val = ((x*x+V.A)*x+V.B).val):=by
  unfold onB
  rw [if_neg (by decide),decide_eq_true x.isLt,decide_eq_true y.isLt,Bool.true_and,Bool.true_and,right_val hok,Fin.val_mul]
theorem on_inf' {p a b X Y:Nat}:onB p a b X Y true = (decide (X = 0) && decide (Y = 0)):=if_pos rfl
theorem c_cOn (V:Cv) (b f bd:Nat) (hok:V.Ok) (X Y:Nat) (i:Bool) (w:World) (hb:(Item.blk b ⟨false,opL V f,147,(0,0)⟩).holds w) (hf:(Item.blk f ⟨false,fldL V.p bd,194,(0,0)⟩).holds w) (hbd:(Item.blk bd ⟨false,dvL V.p,241,(0,0)⟩).holds w) (hX:X<W9) (hY:Y<W9):Calls Try.prog 122 ([.pointer (some ⟨b,0,none⟩),ptV X Y i]:List Value).toArray w (fun e w'=>e = .returned (.bool (onB V.p V.a V.b X Y i))∧Below w.heap.size w w'):=by
  have hbb:=hok.bounds
  have hpW:V.p<W9:=w9_521 hbb.2.1
  refine Kw (N:=42) (rs:=[.tmp 4]) [.blk b ⟨false,opL V f,147,(0,0)⟩,.blk f ⟨false,fldL V.p bd,194,(0,0)⟩,.blk bd ⟨false,dvL V.p,241,(0,0)⟩] Try.func122 rfl Try.ntmps122 Try.results122 (Nb rfl) ⟨hb,hf,hbd,trivial⟩ rfl ?_
  show LCode _ _ _ ⟨_,_⟩ _
  refine KD (KB ?_)
  refine KK rfl (KX (KQ (Ks rfl) (Nb rfl) (fun b3=>?_)))
  refine KA (KH rfl) (Nb rfl) ?_
  refine KG ?_
  refine KD ?_
  refine KD ?_
  cases i
  ·
    refine KB ?_
    refine KA (KN (o':=18) Try.underlying60 rfl rfl rfl sz_4 (by decide)) (Nb rfl) ?_
    refine LOps.det (KM rfl (by repeat (first|exact Mh _|apply Mt)) (Kc Try.underlying4 rfl (by exact pt_gt _ _ _))) (Nb rfl) ?_
    refine KG ?_
    refine Kp rfl ?_
    refine Km ?_
    refine KD ?_
    rcases (show (¬ X<V.p)∨(X<V.p∧¬ Y<V.p)∨(X<V.p∧Y<V.p) by omega) with h1|⟨h1,h2⟩|⟨h1,h2⟩
    ·
      refine Ka [] (by kernel_rfl) ?_
      refine KC 0 rfl (by kernel_rfl) (Nb rfl) (KE rfl) ?_
      refine KC 1 rfl (by kernel_rfl) (Nb rfl) (KW rfl) ?_
      refine KC 2 rfl (by kernel_rfl) (Nb rfl) (KN (o':=59) Try.underlying147 rfl rfl rfl sz_145 (by decide)) ?_
      refine LAny.take 3 rfl (by kernel_rfl) (Nb rfl) (KM rfl (by repeat (first|exact Mh _|apply Mt)) (Kc Try.underlying145 rfl (by exact cvC_gt_F _ _ _ _ _ _ _ _ _ _ _ _ _))) ?_
      refine KC 4 rfl (by kernel_rfl) (Nb rfl) (KN (o':=0) Try.underlying60 rfl rfl rfl sz_25 (by decide)) ?_
      refine LAny.take 5 rfl (by kernel_rfl) (Nb rfl) (KM rfl (by repeat (first|exact Mh _|apply Mt)) (by exact KAB Try.underlying25 rfl sz_25 rfl (KF _))) ?_
      refine Kt 6 rfl rfl (by kernel_rfl) (KU (first:=[]) rfl en_155 rfl (Nb rfl) (fun w hw=>c_HasF V f bd X w (hw _ (by repeat (first|exact Mh _|apply Mt))) hX hpW h1) ?_)
      refine KC 7 rfl (by kernel_rfl) (Nb rfl) (KE rfl) ?_
      refine KAH 8 rfl rfl rfl rfl (by kernel_rfl) (Nb rfl) ?_
      refine KAH 9 rfl rfl rfl rfl (by kernel_rfl) (Nb rfl) ?_
      refine KAH 10 rfl rfl rfl rfl (by kernel_rfl) (Nb rfl) ?_
      refine KAH 11 rfl rfl rfl rfl (by kernel_rfl) (Nb rfl) ?_
      refine KAH 12 rfl rfl rfl rfl (by kernel_rfl) (Nb rfl) ?_
      refine KAH 13 rfl rfl rfl rfl (by kernel_rfl) (Nb rfl) ?_
      refine KAH 14 rfl rfl rfl rfl (by kernel_rfl) (Nb rfl) ?_
      refine KC 15 rfl (by kernel_rfl) (Nb rfl) (Kz rfl rfl) ?_
      refine KC 16 rfl (by kernel_rfl) (Nb rfl) (KE rfl) ?_
      refine KAH 17 rfl rfl rfl rfl (by kernel_rfl) (Nb rfl) ?_
      refine KAH 18 rfl rfl rfl rfl (by kernel_rfl) (Nb rfl) ?_
      refine KAH 19 rfl rfl rfl rfl (by kernel_rfl) (Nb rfl) ?_
      refine KAH 20 rfl rfl rfl rfl (by kernel_rfl) (Nb rfl) ?_
      refine KAH 21 rfl rfl rfl rfl (by kernel_rfl) (Nb rfl) ?_
      refine KAH 22 rfl rfl rfl rfl (by kernel_rfl) (Nb rfl) ?_
      refine KAH 23 rfl rfl rfl rfl (by kernel_rfl) (Nb rfl) ?_
      refine KAH 24 rfl rfl rfl rfl (by kernel_rfl) (Nb rfl) ?_
      refine KAH 25 rfl rfl rfl rfl (by kernel_rfl) (Nb rfl) ?_
      refine KAH 26 rfl rfl rfl rfl (by kernel_rfl) (Nb rfl) ?_
      refine KAH 27 rfl rfl rfl rfl (by kernel_rfl) (Nb rfl) ?_
      refine KAH 28 rfl rfl rfl rfl (by kernel_rfl) (Nb rfl) ?_
      refine KAH 29 rfl rfl rfl rfl (by kernel_rfl) (Nb rfl) ?_
      refine KAH 30 rfl rfl rfl rfl (by kernel_rfl) (Nb rfl) ?_
      refine KC 31 rfl (by kernel_rfl) (Nb rfl) (Kz rfl rfl) ?_
      refine KC 32 rfl (by kernel_rfl) (Nb rfl) (KH rfl) ?_
      refine Ko (by kernel_rfl) ?_
      refine KY ?_
      refine ⟨[_],.cons rfl .nil,fun a w' hr=>⟨?_,hr.fr.below⟩⟩
      rw [on_x' h1]
      rfl
    ·
      refine Ka [] (by kernel_rfl) ?_
      refine KC 0 rfl (by kernel_rfl) (Nb rfl) (KE rfl) ?_
      refine KC 1 rfl (by kernel_rfl) (Nb rfl) (KW rfl) ?_
      refine KC 2 rfl (by kernel_rfl) (Nb rfl) (KN (o':=59) Try.underlying147 rfl rfl rfl sz_145 (by decide)) ?_
      refine LAny.take 3 rfl (by kernel_rfl) (Nb rfl) (KM rfl (by repeat (first|exact Mh _|apply Mt)) (Kc Try.underlying145 rfl (by exact cvC_gt_F _ _ _ _ _ _ _ _ _ _ _ _ _))) ?_
      refine KC 4 rfl (by kernel_rfl) (Nb rfl) (KN (o':=0) Try.underlying60 rfl rfl rfl sz_25 (by decide)) ?_
      refine LAny.take 5 rfl (by kernel_rfl) (Nb rfl) (KM rfl (by repeat (first|exact Mh _|apply Mt)) (by exact KAB Try.underlying25 rfl sz_25 rfl (KF _))) ?_
      refine Kt 6 rfl rfl (by kernel_rfl) (KU (first:=[]) rfl en_155 rfl (Nb rfl) (fun w hw=>c_HasT V f bd X w (hw _ (by repeat (first|exact Mh _|apply Mt))) hX hpW h1) ?_)
      refine KC 7 rfl (by kernel_rfl) (Nb rfl) (KE rfl) ?_
      refine KAW 8 rfl rfl rfl (by kernel_rfl) (Nb rfl) (KE rfl) ?_
      refine KAW 9 rfl rfl rfl (by kernel_rfl) (Nb rfl) (KW rfl) ?_
      refine KAW 10 rfl rfl rfl (by kernel_rfl) (Nb rfl) (KN (o':=59) Try.underlying147 rfl rfl rfl sz_145 (by decide)) ?_
      refine LAny.takeG 11 rfl rfl rfl (by kernel_rfl) (Nb rfl) (KM rfl (by repeat (first|exact Mh _|apply Mt)) (Kc Try.underlying145 rfl (by exact cvC_gt_F _ _ _ _ _ _ _ _ _ _ _ _ _))) ?_
      refine KAW 12 rfl rfl rfl (by kernel_rfl) (Nb rfl) (KN (o':=9) Try.underlying60 rfl rfl rfl sz_25 (by decide)) ?_
      refine LAny.takeG 13 rfl rfl rfl (by kernel_rfl) (Nb rfl) (KM rfl (by repeat (first|exact Mh _|apply Mt)) (by exact pt_ld1 _ _ _ _ _ _)) ?_
      refine LAny.oneG 14 rfl rfl rfl rfl (by kernel_rfl) (KU (first:=[]) rfl en_155 rfl (Nb rfl) (fun w hw=>c_HasF V f bd Y w (hw _ (by repeat (first|exact Mh _|apply Mt))) hY hpW h2) ?_)
      refine KC 15 rfl (by kernel_rfl) (Nb rfl) (KAE rfl rfl) ?_
      refine KC 16 rfl (by kernel_rfl) (Nb rfl) (KE rfl) ?_
      refine KAH 17 rfl rfl rfl rfl (by kernel_rfl) (Nb rfl) ?_
      refine KAH 18 rfl rfl rfl rfl (by kernel_rfl) (Nb rfl) ?_
      refine KAH 19 rfl rfl rfl rfl (by kernel_rfl) (Nb rfl) ?_
      refine KAH 20 rfl rfl rfl rfl (by kernel_rfl) (Nb rfl) ?_
      refine KAH 21 rfl rfl rfl rfl (by kernel_rfl) (Nb rfl) ?_
      refine KAH 22 rfl rfl rfl rfl (by kernel_rfl) (Nb rfl) ?_
      refine KAH 23 rfl rfl rfl rfl (by kernel_rfl) (Nb rfl) ?_
      refine KAH 24 rfl rfl rfl rfl (by kernel_rfl) (Nb rfl) ?_
      refine KAH 25 rfl rfl rfl rfl (by kernel_rfl) (Nb rfl) ?_
      refine KAH 26 rfl rfl rfl rfl (by kernel_rfl) (Nb rfl) ?_
      refine KAH 27 rfl rfl rfl rfl (by kernel_rfl) (Nb rfl) ?_
      refine KAH 28 rfl rfl rfl rfl (by kernel_rfl) (Nb rfl) ?_
      refine KAH 29 rfl rfl rfl rfl (by kernel_rfl) (Nb rfl) ?_
      refine KAH 30 rfl rfl rfl rfl (by kernel_rfl) (Nb rfl) ?_
      refine KC 31 rfl (by kernel_rfl) (Nb rfl) (Kz rfl rfl) ?_
      refine KC 32 rfl (by kernel_rfl) (Nb rfl) (KH rfl) ?_
      refine Ko (by kernel_rfl) ?_
      refine KY ?_
      refine ⟨[_],.cons rfl .nil,fun a w' hr=>⟨?_,hr.fr.below⟩⟩
      rw [on_yy' h2]
      rfl
    ·
      obtain ⟨x,rfl⟩:∃ x:Fin V.p,x.val = X:=⟨⟨X,h1⟩,rfl⟩
      obtain ⟨y,rfl⟩:∃ y:Fin V.p,y.val = Y:=⟨⟨Y,h2⟩,rfl⟩
      refine Ka [] (by kernel_rfl) ?_
      refine KC 0 rfl (by kernel_rfl) (Nb rfl) (KE rfl) ?_
      refine KC 1 rfl (by kernel_rfl) (Nb rfl) (KW rfl) ?_
      refine KC 2 rfl (by kernel_rfl) (Nb rfl) (KN (o':=59) Try.underlying147 rfl rfl rfl sz_145 (by decide)) ?_
      refine LAny.take 3 rfl (by kernel_rfl) (Nb rfl) (KM rfl (by repeat (first|exact Mh _|apply Mt)) (Kc Try.underlying145 rfl (by exact cvC_gt_F _ _ _ _ _ _ _ _ _ _ _ _ _))) ?_
      refine KC 4 rfl (by kernel_rfl) (Nb rfl) (KN (o':=0) Try.underlying60 rfl rfl rfl sz_25 (by decide)) ?_
      refine LAny.take 5 rfl (by kernel_rfl) (Nb rfl) (KM rfl (by repeat (first|exact Mh _|apply Mt)) (by exact KAB Try.underlying25 rfl sz_25 rfl (KF _))) ?_
      refine Kt 6 rfl rfl (by kernel_rfl) (KU (first:=[]) rfl en_155 rfl (Nb rfl) (fun w hw=>c_HasT V f bd x.val w (hw _ (by repeat (first|exact Mh _|apply Mt))) (Nat.lt_trans x.isLt hpW) hpW x.isLt) ?_)
      refine KC 7 rfl (by kernel_rfl) (Nb rfl) (KE rfl) ?_
      refine KAW 8 rfl rfl rfl (by kernel_rfl) (Nb rfl) (KE rfl) ?_
      refine KAW 9 rfl rfl rfl (by kernel_rfl) (Nb rfl) (KW rfl) ?_
      refine KAW 10 rfl rfl rfl (by kernel_rfl) (Nb rfl) (KN (o':=59) Try.underlying147 rfl rfl rfl sz_145 (by decide)) ?_
      refine LAny.takeG 11 rfl rfl rfl (by kernel_rfl) (Nb rfl) (KM rfl (by repeat (first|exact Mh _|apply Mt)) (Kc Try.underlying145 rfl (by exact cvC_gt_F _ _ _ _ _ _ _ _ _ _ _ _ _))) ?_
      refine KAW 12 rfl rfl rfl (by kernel_rfl) (Nb rfl) (KN (o':=9) Try.underlying60 rfl rfl rfl sz_25 (by decide)) ?_
      refine LAny.takeG 13 rfl rfl rfl (by kernel_rfl) (Nb rfl) (KM rfl (by repeat (first|exact Mh _|apply Mt)) (by exact pt_ld1 _ _ _ _ _ _)) ?_
      refine LAny.oneG 14 rfl rfl rfl rfl (by kernel_rfl) (KU (first:=[]) rfl en_155 rfl (Nb rfl) (fun w hw=>c_HasT V f bd y.val w (hw _ (by repeat (first|exact Mh _|apply Mt))) (Nat.lt_trans y.isLt hpW) hpW y.isLt) ?_)
      refine KC 15 rfl (by kernel_rfl) (Nb rfl) (KAE rfl rfl) ?_
      refine KC 16 rfl (by kernel_rfl) (Nb rfl) (KE rfl) ?_
      refine KAW 17 rfl rfl rfl (by kernel_rfl) (Nb rfl) (KE rfl) ?_
      refine KAW 18 rfl rfl rfl (by kernel_rfl) (Nb rfl) (KW rfl) ?_
      refine KAW 19 rfl rfl rfl (by kernel_rfl) (Nb rfl) (KN (o':=59) Try.underlying147 rfl rfl rfl sz_145 (by decide)) ?_
      refine LAny.takeG 20 rfl rfl rfl (by kernel_rfl) (Nb rfl) (KM rfl (by repeat (first|exact Mh _|apply Mt)) (Kc Try.underlying145 rfl (by exact cvC_gt_F _ _ _ _ _ _ _ _ _ _ _ _ _))) ?_
      refine KAW 21 rfl rfl rfl (by kernel_rfl) (Nb rfl) (KN (o':=9) Try.underlying60 rfl rfl rfl sz_25 (by decide)) ?_
      refine LAny.takeG 22 rfl rfl rfl (by kernel_rfl) (Nb rfl) (KM rfl (by repeat (first|exact Mh _|apply Mt)) (by exact pt_ld1 _ _ _ _ _ _)) ?_
      refine KAW 23 rfl rfl rfl (by kernel_rfl) (Nb rfl) (KN (o':=9) Try.underlying60 rfl rfl rfl sz_25 (by decide)) ?_
      refine LAny.takeG 24 rfl rfl rfl (by kernel_rfl) (Nb rfl) (KM rfl (by repeat (first|exact Mh _|apply Mt)) (by exact pt_ld1 _ _ _ _ _ _)) ?_
      refine KAW 26 rfl rfl rfl (by kernel_rfl) (Nb rfl) (KE rfl) ?_
      refine KAW 27 rfl rfl rfl (by kernel_rfl) (Nb rfl) (KN (o':=0) Try.underlying60 rfl rfl rfl sz_25 (by decide)) ?_
      refine LAny.takeG 28 rfl rfl rfl (by kernel_rfl) (Nb rfl) (KM rfl (by repeat (first|exact Mh _|apply Mt)) (by exact KAB Try.underlying25 rfl sz_25 rfl (KF _))) ?_
      refine LAny.oneG 25 rfl rfl rfl rfl (by kernel_rfl) (KU (first:=[]) rfl en_156 rfl (Nb rfl) (fun w hw=>c_F_Mul V hok f bd _ _ w (hw _ (by repeat (first|exact Mh _|apply Mt))) (hw _ (by repeat (first|exact Mh _|apply Mt)))) ?_)
      refine LAny.oneG 29 rfl rfl rfl rfl (by kernel_rfl) (KU (first:=[]) rfl en_157 rfl (Nb rfl) (fun w hw=>c_Right V b f bd hok _ w (hw _ (by repeat (first|exact Mh _|apply Mt))) (hw _ (by repeat (first|exact Mh _|apply Mt))) (hw _ (by repeat (first|exact Mh _|apply Mt)))) ?_)
      refine KAW 30 rfl rfl rfl (by kernel_rfl) (Nb rfl) (Det.eqa (by kernel_rfl) (fun w=>eq_nat (y*y).val ((x*x+V.A)*x+V.B).val (Nat.lt_trans (y*y).isLt hpW) (Nat.lt_trans ((x*x+V.A)*x+V.B).isLt hpW) 10000 (by decide) w) rfl rfl) ?_
      refine KC 31 rfl (by kernel_rfl) (Nb rfl) (KAE rfl rfl) ?_
      refine KC 32 rfl (by kernel_rfl) (Nb rfl) (KH rfl) ?_
      refine Ko (by kernel_rfl) ?_
      refine KY ?_
      refine ⟨[_],.cons rfl .nil,fun a w' hr=>⟨?_,hr.fr.below⟩⟩
      rw [on_fin hok]
      rfl
  ·
    refine KB ?_
    refine KA (KN (o':=18) Try.underlying60 rfl rfl rfl sz_4 (by decide)) (Nb rfl) ?_
    refine LOps.det (KM rfl (by repeat (first|exact Mh _|apply Mt)) (Kc Try.underlying4 rfl (by exact pt_gt _ _ _))) (Nb rfl) ?_
    refine KG ?_
    refine Kx rfl ?_
    refine KD (KB ?_)
    refine LOps.det (KM rfl (by repeat (first|exact Mh _|apply Mt)) (by exact KL Try.underlying60 rfl sz_60)) (Nb rfl) ?_
    refine KA (Kb (KAP pl_60 zr_60 rfl fill_ptInf) rfl) (Nb rfl) ?_
    refine KA (Det.eqa (by kernel_rfl) (fun w=>eq_pt X Y true 0 0 true hX hY zero_w9 zero_w9 10000 (by decide) w) rfl rfl) (Nb rfl) ?_
    refine KA (KH rfl) (Nb rfl) ?_
    refine KG (KY ?_)
    refine ⟨[_],.cons rfl .nil,fun a w' hr=>⟨?_,hr.fr.below⟩⟩
    rw [on_inf',show (decide (X = 0) && decide (Y = 0)) = (decide (X = 0) && (decide (Y = 0) && ((true == true) && true))) by simp]
    rfl
theorem c_curveOn (id:Int) (V:Cv) (X Y:Nat) (i:Bool) (w:World) (h:cvI id = some V) (hX:X<W9) (hY:Y<W9):Calls Try.prog 61 ([.int .i64 id,ptV X Y i]:List Value).toArray w (fun e w'=>e = .returned (.bool (onB V.p V.a V.b X Y i))∧Below w.heap.size w w'):=by
  obtain ⟨hok,hid⟩:=cvI_ok h
  have hbb:=hok.bounds
  have hpW:V.p<W9:=w9_521 hbb.2.1
  have hnW:V.n<W9:=w9_521 hbb.2.2.2.2.2.2.1
  have hbl:=blen_w9 hnW
  have hnb:nby V.n≤72:=by (unfold nby; omega)
  refine Kw (N:=15) (rs:=[.tmp 4]) [] Try.func61 rfl Try.ntmps61 Try.results61 (Nb rfl) trivial rfl ?_
  show LCode _ _ _ ⟨_,_⟩ _
  refine KD (KB ?_)
  refine KK rfl (KX (KQ (Ks rfl) (Nb rfl) (fun b3=>?_)))
  refine KA (KH rfl) (Nb rfl) ?_
  refine KG ?_
  refine KD (KB ?_)
  refine KA (KE rfl) (Nb rfl) ?_
  refine KK rfl (KX (LStep.callZ (Post:=fun v its=>∃ b f bd,v = .pointer (some ⟨b,0,none⟩)∧its = [.blk b ⟨false,opL V f,147,(0,0)⟩,.blk f ⟨false,fldL V.p bd,194,(0,0)⟩,.blk bd ⟨false,dvL V.p,241,(0,0)⟩]) (first:=[]) rfl en_112 rfl (Nb rfl) (fun w1 hw hs=>(c_Open _ V w1 h).mono fun e w' ⟨b,f,bd,h1,h2,h3,h4,h5,h6,h7,h8⟩=>⟨_,_,⟨b,f,bd,rfl,rfl⟩,h1,Brings.nums h8 (by intro x hx; simp at hx; rcases hx with rfl|rfl|rfl; exact h2; exact h3; exact h4) (by intro x hx; simp at hx; rcases hx with rfl|rfl|rfl <;> rfl) (by intro x hx k hk; simp at hx; rcases hx with rfl|rfl|rfl <;> simp [Item.fp] at hk <;> subst hk; exact .inl h5; exact .inl h6; exact .inl h7)⟩) ?_))
  rintro _ _ ⟨b,f,bd,rfl,rfl⟩
  refine KA (KH rfl) (Nb rfl) ?_
  refine KG ?_
  refine KD (KB ?_)
  refine KA (KE rfl) (Nb rfl) ?_
  refine KA (Kb (Det.nep Try.underlying142 rfl rfl) (show _ = Value.bool true from rfl)) (Nb rfl) ?_
  refine KA (KE rfl) (Nb rfl) ?_
  refine Ke rfl rfl (KE rfl) (Nb rfl) ?_
  refine KAZ rfl rfl (KM rfl (by repeat (first|exact Mh _|apply Mt)) (by exact KL Try.underlying60 rfl sz_60)) (Nb rfl) ?_
  refine LOps.stepG rfl rfl rfl (KX (KU (first:=[]) rfl en_122 rfl (Nb rfl) (fun w hw=>c_cOn V b f bd hok _ _ _ w (hw _ (by repeat (first|exact Mh _|apply Mt))) (hw _ (by repeat (first|exact Mh _|apply Mt))) (hw _ (by repeat (first|exact Mh _|apply Mt))) hX hY) ?_))
  refine KA (KAE rfl rfl) (Nb rfl) ?_
  refine KA (KH rfl) (Nb rfl) ?_
  refine KG (KY ?_)
  refine ⟨[_],.cons rfl .nil,fun a w' hr=>⟨?_,hr.fr.below⟩⟩
  rfl
theorem c_curveGet (id:Int) (V:Cv) (w:World) (h:cvI id = some V):Calls Try.prog 56 ([.int .i64 id]:List Value).toArray w (fun e w'=>e = .returned (.tuple #[.agg (acL V).toArray,.int .i64 ((0:Nat):Int)])∧Below w.heap.size w w'):=by
  obtain ⟨hok,hid⟩:=cvI_ok h
  have hbb:=hok.bounds
  have hpW:V.p<W9:=w9_521 hbb.2.1
  have hnW:V.n<W9:=w9_521 hbb.2.2.2.2.2.2.1
  have hbl:=blen_w9 hnW
  have hnb:nby V.n≤72:=by (unfold nby; omega)
  refine Kw (N:=14) (rs:=[.cell 2 62,.tmp 3]) [] Try.func56 rfl Try.ntmps56 Try.results56 (Nb rfl) trivial rfl ?_
  show LCode _ _ _ ⟨_,_⟩ _
  refine KD (KB ?_)
  refine KK rfl (KX (KQ (Kd zr_62) (Nb rfl) (fun b2=>?_)))
  refine KA (KH (v:=.int .i64 ((0:Nat):Int)) rfl) (Nb rfl) ?_
  refine KG ?_
  refine KD (KB ?_)
  refine KA (KE rfl) (Nb rfl) ?_
  refine KK rfl (KX (LStep.callZ (Post:=fun v its=>∃ b f bd,v = .pointer (some ⟨b,0,none⟩)∧its = [.blk b ⟨false,opL V f,147,(0,0)⟩,.blk f ⟨false,fldL V.p bd,194,(0,0)⟩,.blk bd ⟨false,dvL V.p,241,(0,0)⟩]) (first:=[]) rfl en_112 rfl (Nb rfl) (fun w1 hw hs=>(c_Open _ V w1 h).mono fun e w' ⟨b,f,bd,h1,h2,h3,h4,h5,h6,h7,h8⟩=>⟨_,_,⟨b,f,bd,rfl,rfl⟩,h1,Brings.nums h8 (by intro x hx; simp at hx; rcases hx with rfl|rfl|rfl; exact h2; exact h3; exact h4) (by intro x hx; simp at hx; rcases hx with rfl|rfl|rfl <;> rfl) (by intro x hx k hk; simp at hx; rcases hx with rfl|rfl|rfl <;> simp [Item.fp] at hk <;> subst hk; exact .inl h5; exact .inl h6; exact .inl h7)⟩) ?_))
  rintro _ _ ⟨b,f,bd,rfl,rfl⟩
  refine KA (KH rfl) (Nb rfl) ?_
  refine KG ?_
  refine KD ?_
  refine KD (KB ?_)
  refine KA (KE rfl) (Nb rfl) ?_
  refine KA (Kb (Det.eqp Try.underlying142 rfl rfl) (show _ = Value.bool false from rfl)) (Nb rfl) ?_
  refine KG ?_
  refine Kp rfl ?_
  refine Km ?_
  refine KD (KB ?_)
  refine KA (KE rfl) (Nb rfl) ?_
  refine KA (KW rfl) (Nb rfl) ?_
  refine KA (KN (o':=0) Try.underlying147 rfl rfl rfl sz_62 (by decide)) (Nb rfl) ?_
  refine LOps.det (KM rfl (by repeat (first|exact Mh _|apply Mt)) (by exact op_ld_ac _ _ _ _ _)) (Nb rfl) ?_
  refine KK rfl (KO rfl rfl sz_62 (by exact acL_one _) (by repeat (first|exact Sh _|apply St_)) (by exact acL_length _) ?_)
  refine KA (KH (v:=.int .i64 ((0:Nat):Int)) rfl) (Nb rfl) ?_
  refine KG (KY ?_)
  refine ⟨[_,_],.cons ⟨_,_,_,rfl,(by repeat (first|exact Mh _|apply Mt)),by exact KL Try.underlying62 rfl sz_62⟩ (.cons rfl .nil),fun a w' hr=>⟨?_,hr.fr.below⟩⟩
  rfl
end Go.Proofs.Ytljblbgogjieaaa
set_option linter.unusedVariables false
set_option linter.unusedSimpArgs false
set_option maxRecDepth 20000
namespace Go.Proofs.Ytljblbgogjieaaa
open Go Go.RowKit
open Grp
def pjF {p:Nat} (T:Fin p×Fin p×Fin p):Value:=pjV T.1.val T.2.1.val T.2.2.val
def pjFL {p:Nat} (T:Fin p×Fin p×Fin p):List Value:=pjL T.1.val T.2.1.val T.2.2.val
theorem fill_pj (X Y Z:Nat):fillL [(0,9),(9,9),(18,9)] (vec .u64 9 (fun _=>0)++(vec .u64 9 (fun _=>0)++vec .u64 9 (fun _=>0))) [(0,natV X),(1,natV Y),(2,natV Z)] = some (pjL X Y Z):=by
  refine KAX (A:=[]) (B:=vec .u64 9 (fun _=>0)) (D:=vec .u64 9 (fun _=>0)++vec .u64 9 (fun _=>0)) (cs:=natL X) rfl rfl (KF _) rfl rfl (KJ _ _ _) ?_
  refine KAX (A:=natL X) (B:=vec .u64 9 (fun _=>0)) (D:=vec .u64 9 (fun _=>0)) (cs:=natL Y) rfl rfl (KF _) (by simp) (KF _) (KJ _ _ _) ?_
  refine (KAX (A:=natL X++natL Y) (B:=vec .u64 9 (fun _=>0)) (D:=[]) (cs:=natL Z) rfl rfl (KF _) (by simp) (by simp [KF]) (KJ _ _ _) rfl).trans ?_
  simp [pjL]
theorem fill_pjN (Y:Nat):fillL [(0,9),(9,9),(18,9)] (vec .u64 9 (fun _=>0)++(vec .u64 9 (fun _=>0)++vec .u64 9 (fun _=>0))) [(1,natV Y)] = some (pjL 0 Y 0):=by
  refine (KAX (A:=vec .u64 9 (fun _=>0)) (B:=vec .u64 9 (fun _=>0)) (D:=vec .u64 9 (fun _=>0)) (cs:=natL Y) rfl rfl (KF _) rfl (KJ _ _ _) (KJ _ _ _) rfl).trans ?_
  simp [pjL,natL,vec_zeros 9]
theorem c_None  (w:World)  : Calls Try.prog 158 ([]:List Value).toArray w (fun e w'=>e = .returned (pjV 0 1 0)∧Below w.heap.size w w'):=by
  refine Kw (N:=3) (rs:=[.cell 0 91]) [] Try.func158 rfl Try.ntmps158 Try.results158 (Nb rfl) trivial rfl ?_
  show LCode _ _ _ ⟨_,_⟩ _
  refine KD (KB ?_)
  refine KK rfl (KX (KQ (Kd zr_91) (Nb rfl) (fun b0=>?_)))
  refine KG ?_
  refine KD (KB ?_)
  refine KK rfl (KX (KU (first:=[]) rfl en_150 rfl (Nb rfl) (fun w hw=>c_nat_Small 1 (by decide) w) ?_))
  refine KA (Kb (KAP pl_91 zr_91 rfl (fill_pjN 1)) rfl) (Nb rfl) ?_
  refine KK rfl (KO rfl rfl sz_91 (by repeat (first|exact Kg _|exact Kr _ _ _|exact Kh _|exact Kl _ _ _|exact Kq _ _ _|exact KV|refine KR rfl ?_|refine KT ?_ ?_)) (by repeat (first|exact Sh _|apply St_)) (by first|exact KF _|exact KJ _ _ _|exact KI _|exact KS _ _ _|exact KZ _ _ _|rfl|simp [KJ,KF,KI]) ?_)
  refine KG (KY ?_)
  refine ⟨[_],.cons ⟨_,_,_,rfl,(by repeat (first|exact Mh _|apply Mt)),by exact KL Try.underlying91 rfl sz_91⟩ .nil,fun a w' hr=>⟨?_,hr.fr.below⟩⟩
  rfl
theorem c_NoneF {V:Cv} (hok:V.Ok) (w:World):Calls Try.prog 158 ([]:List Value).toArray w (fun e w'=>e = .returned (pjF (tripF (.inf:Pt V.p)))∧Below w.heap.size w w'):=by
  have h:=c_None w
  have e:pjF (tripF (.inf:Pt V.p)) = pjV 0 1 0:=by
    unfold pjF tripF
    rw [fin_one (show 1<V.p from hok.prime.1)]
    rfl
  rwa [e]
theorem c_Triple (V:Cv) (hok:V.Ok) (P:Pt V.p) (w:World)  : Calls Try.prog 129 ([ptP P]:List Value).toArray w (fun e w'=>e = .returned (pjF (tripF P))∧Below w.heap.size w w'):=by
  refine Kw (N:=12) (rs:=[.cell 2 91]) [] Try.func129 rfl Try.ntmps129 Try.results129 (Nb rfl) trivial rfl ?_
  show LCode _ _ _ ⟨_,_⟩ _
  refine KD (KB ?_)
  refine KK rfl (KX (KQ (Ks rfl) (Nb rfl) (fun b1=>?_)))
  refine KK rfl (KX (KQ (Kd zr_91) (Nb rfl) (fun b2=>?_)))
  refine KG ?_
  refine KD ?_
  refine KD ?_
  rcases P with _|⟨x,y⟩
  ·
    refine KB ?_
    refine KA (KN (o':=18) Try.underlying60 rfl rfl rfl sz_4 (by decide)) (Nb rfl) ?_
    refine LOps.det (KM rfl (by repeat (first|exact Mh _|apply Mt)) (Kc Try.underlying4 rfl (by exact pt_gt _ _ _))) (Nb rfl) ?_
    refine KG ?_
    refine Kx rfl ?_
    refine KD (KB ?_)
    refine KK rfl (KX (KU (first:=[]) rfl en_158 rfl (Nb rfl) (fun w hw=>c_NoneF hok w) ?_))
    refine KK rfl (KO rfl rfl sz_91 (by repeat (first|exact Kg _|exact Kr _ _ _|exact Kh _|exact Kl _ _ _|exact Kq _ _ _|exact KV|refine KR rfl ?_|refine KT ?_ ?_)) (by repeat (first|exact Sh _|apply St_)) (by first|exact KF _|exact KJ _ _ _|exact KI _|exact KS _ _ _|exact KZ _ _ _|rfl|simp [KJ,KF,KI]) ?_)
    refine KG (KY ?_)
    refine ⟨[_],.cons ⟨_,_,_,rfl,(by repeat (first|exact Mh _|apply Mt)),by exact KL Try.underlying91 rfl sz_91⟩ .nil,fun a w' hr=>⟨?_,hr.fr.below⟩⟩
    rfl
  ·
    refine KB ?_
    refine KA (KN (o':=18) Try.underlying60 rfl rfl rfl sz_4 (by decide)) (Nb rfl) ?_
    refine LOps.det (KM rfl (by repeat (first|exact Mh _|apply Mt)) (Kc Try.underlying4 rfl (by exact pt_gt _ _ _))) (Nb rfl) ?_
    refine KG ?_
    refine Kp rfl ?_
    refine Km ?_
    refine KD ?_
    refine Ka [6] (by kernel_rfl) ?_
    refine KC 0 rfl (by kernel_rfl) (Nb rfl) (KN (o':=0) Try.underlying60 rfl rfl rfl sz_25 (by decide)) ?_
    refine LAny.take 1 rfl (by kernel_rfl) (Nb rfl) (KM rfl (by repeat (first|exact Mh _|apply Mt)) (by exact KAB Try.underlying25 rfl sz_25 rfl (KF _))) ?_
    refine KC 2 rfl (by kernel_rfl) (Nb rfl) (KN (o':=9) Try.underlying60 rfl rfl rfl sz_25 (by decide)) ?_
    refine LAny.take 3 rfl (by kernel_rfl) (Nb rfl) (KM rfl (by repeat (first|exact Mh _|apply Mt)) (by exact pt_ld1 _ _ _ _ _ _)) ?_
    refine Kt 4 rfl rfl (by kernel_rfl) (KU (first:=[]) rfl en_150 rfl (Nb rfl) (fun w hw=>c_nat_Small 1 (by decide) w) ?_)
    refine KC 5 rfl (by kernel_rfl) (Nb rfl) (Kb (KAP pl_91 zr_91 rfl (fill_pj _ _ _)) rfl) ?_
    refine Kn 6 rfl rfl (by kernel_rfl) (by kernel_rfl) (KO rfl rfl sz_91 (by repeat (first|exact Kg _|exact Kr _ _ _|exact Kh _|exact Kl _ _ _|exact Kq _ _ _|exact KV|refine KR rfl ?_|refine KT ?_ ?_)) (by repeat (first|exact Sh _|apply St_)) (by first|exact KF _|exact KJ _ _ _|exact KI _|exact KS _ _ _|exact KZ _ _ _|rfl|simp [KJ,KF,KI]) ?_)
    refine Ko (by kernel_rfl) ?_
    refine KY ?_
    refine ⟨[_],.cons ⟨_,_,_,rfl,(by repeat (first|exact Mh _|apply Mt)),by exact KL Try.underlying91 rfl sz_91⟩ .nil,fun a w' hr=>⟨?_,hr.fr.below⟩⟩
    show _ = Ending.returned (pjV x.val y.val (1:Fin V.p).val)
    rw [fin_one (show 1<V.p from hok.prime.1)]
    rfl
theorem c_Plain (V:Cv) (b f bd:Nat) (hok:V.Ok) (X Y Z:Fin V.p) (w:World) (hb:(Item.blk b ⟨false,opL V f,147,(0,0)⟩).holds w) (hf:(Item.blk f ⟨false,fldL V.p bd,194,(0,0)⟩).holds w) (hbd:(Item.blk bd ⟨false,dvL V.p,241,(0,0)⟩).holds w):Calls Try.prog 127 ([.pointer (some ⟨b,0,none⟩),pjV X.val Y.val Z.val]:List Value).toArray w (fun e w'=>e = .returned (ptP (plainP X Y Z))∧Below w.heap.size w w'):=by
  have hbb:=hok.bounds
  have hpW:V.p<W9:=w9_521 hbb.2.1
  refine Kw (N:=35) (rs:=[.cell 4 60]) [.blk b ⟨false,opL V f,147,(0,0)⟩,.blk f ⟨false,fldL V.p bd,194,(0,0)⟩,.blk bd ⟨false,dvL V.p,241,(0,0)⟩] Try.func127 rfl Try.ntmps127 Try.results127 (Nb rfl) ⟨hb,hf,hbd,trivial⟩ rfl ?_
  show LCode _ _ _ ⟨_,_⟩ _
  refine KD (KB ?_)
  refine KK rfl (KX (KQ (Ks rfl) (Nb rfl) (fun b3=>?_)))
  refine KK rfl (KX (KQ (Kd zr_60) (Nb rfl) (fun b4=>?_)))
  refine KG ?_
  refine KD ?_
  refine KD ?_
  by_cases hz:Z = 0
  ·
    refine KB ?_
    refine KA (KN (o':=18) Try.underlying91 rfl rfl rfl sz_25 (by decide)) (Nb rfl) ?_
    refine LOps.det (KM rfl (by repeat (first|exact Mh _|apply Mt)) (by exact pj_ld2 _ _ _ _ _ _)) (Nb rfl) ?_
    refine KA (Kb (KAP pl_25 zr_25 rfl rfl) (show _ = natV 0 by unfold natV natL; rw [← vec_zeros 9])) (Nb rfl) ?_
    refine KA (Kb (Det.eqa (by kernel_rfl) (fun w=>eq_nat Z.val 0 (Nat.lt_trans Z.isLt hpW) zero_w9 10000 (by decide) w) rfl rfl) (show _ = Value.bool true by rw [decide_eq_true (by rw [hz]; rfl)])) (Nb rfl) ?_
    refine KG ?_
    refine Kx rfl ?_
    refine KD (KB ?_)
    refine KA (Kb (KAP pl_60 zr_60 rfl fill_ptInf) rfl) (Nb rfl) ?_
    refine KK rfl (KO rfl rfl sz_60 (by repeat (first|exact Kg _|exact Kr _ _ _|exact Kh _|exact Kl _ _ _|exact Kq _ _ _|exact KV|refine KR rfl ?_|refine KT ?_ ?_)) (by repeat (first|exact Sh _|apply St_)) (by first|exact KF _|exact KJ _ _ _|exact KI _|exact KS _ _ _|exact KZ _ _ _|rfl|simp [KJ,KF,KI]) ?_)
    refine KG (KY ?_)
    refine ⟨[_],.cons ⟨_,_,_,rfl,(by repeat (first|exact Mh _|apply Mt)),by exact KL Try.underlying60 rfl sz_60⟩ .nil,fun a w' hr=>⟨?_,hr.fr.below⟩⟩
    rw [hz,plain_inf]
    rfl
  ·
    refine KB ?_
    refine KA (KN (o':=18) Try.underlying91 rfl rfl rfl sz_25 (by decide)) (Nb rfl) ?_
    refine LOps.det (KM rfl (by repeat (first|exact Mh _|apply Mt)) (by exact pj_ld2 _ _ _ _ _ _)) (Nb rfl) ?_
    refine KA (Kb (KAP pl_25 zr_25 rfl rfl) (show _ = natV 0 by unfold natV natL; rw [← vec_zeros 9])) (Nb rfl) ?_
    refine KA (Kb (Det.eqa (by kernel_rfl) (fun w=>eq_nat Z.val 0 (Nat.lt_trans Z.isLt hpW) zero_w9 10000 (by decide) w) rfl rfl) (show _ = Value.bool false by rw [decide_eq_false (show ¬ Z.val = 0 from fun e=>hz (Fin.ext e))])) (Nb rfl) ?_
    refine KG ?_
    refine Kp rfl ?_
    refine Km ?_
    refine KD ?_
    refine Ka [8] (by kernel_rfl) ?_
    refine KC 0 rfl (by kernel_rfl) (Nb rfl) (KE rfl) ?_
    refine KC 1 rfl (by kernel_rfl) (Nb rfl) (KW rfl) ?_
    refine KC 2 rfl (by kernel_rfl) (Nb rfl) (KN (o':=59) Try.underlying147 rfl rfl rfl sz_145 (by decide)) ?_
    refine LAny.take 3 rfl (by kernel_rfl) (Nb rfl) (KM rfl (by repeat (first|exact Mh _|apply Mt)) (Kc Try.underlying145 rfl (by exact cvC_gt_F _ _ _ _ _ _ _ _ _ _ _ _ _))) ?_
    refine KC 4 rfl (by kernel_rfl) (Nb rfl) (KN (o':=18) Try.underlying91 rfl rfl rfl sz_25 (by decide)) ?_
    refine LAny.take 5 rfl (by kernel_rfl) (Nb rfl) (KM rfl (by repeat (first|exact Mh _|apply Mt)) (by exact pj_ld2 _ _ _ _ _ _)) ?_
    refine LAny.toP ?_
    refine KAU 7 rfl (.inl zr_25) (Nb rfl) rfl rfl rfl ?_
    refine Ky 6 rfl rfl rfl (Nb rfl) (by kernel_rfl) rfl (KAA (first:=[]) rfl en_160 rfl (fun w hw=>c_F_Inv V hok f bd _ w (hw _ (by repeat (first|exact Mh _|apply Mt))))) ?_
    rintro _ _ ⟨rfl,rfl⟩
    refine KAb (by kernel_rfl) (fun b5=>?_)
    refine KAa ?_
    refine Kn 8 rfl rfl (by kernel_rfl) (by kernel_rfl) (KO rfl rfl sz_25 (by repeat (first|exact Kg _|exact Kr _ _ _|exact Kh _|exact Kl _ _ _|exact Kq _ _ _|exact KV|refine KR rfl ?_|refine KT ?_ ?_)) (by repeat (first|exact Sh _|apply St_)) (by first|exact KF _|exact KJ _ _ _|exact KI _|exact KS _ _ _|exact KZ _ _ _|rfl|simp [KJ,KF,KI]) ?_)
    refine Ko (by kernel_rfl) ?_
    refine KD ?_
    refine Ka [17] (by kernel_rfl) ?_
    refine KC 0 rfl (by kernel_rfl) (Nb rfl) (KE rfl) ?_
    refine KC 1 rfl (by kernel_rfl) (Nb rfl) (KW rfl) ?_
    refine KC 2 rfl (by kernel_rfl) (Nb rfl) (KN (o':=59) Try.underlying147 rfl rfl rfl sz_145 (by decide)) ?_
    refine LAny.take 3 rfl (by kernel_rfl) (Nb rfl) (KM rfl (by repeat (first|exact Mh _|apply Mt)) (Kc Try.underlying145 rfl (by exact cvC_gt_F _ _ _ _ _ _ _ _ _ _ _ _ _))) ?_
    refine KC 4 rfl (by kernel_rfl) (Nb rfl) (KN (o':=0) Try.underlying91 rfl rfl rfl sz_25 (by decide)) ?_
    refine LAny.take 5 rfl (by kernel_rfl) (Nb rfl) (KM rfl (by repeat (first|exact Mh _|apply Mt)) (by exact KAB Try.underlying25 rfl sz_25 rfl (KF _))) ?_
    refine LAny.take 6 rfl (by kernel_rfl) (Nb rfl) (KM rfl (by repeat (first|exact Mh _|apply Mt)) (by exact KL Try.underlying25 rfl sz_25)) ?_
    refine KC 8 rfl (by kernel_rfl) (Nb rfl) (KE rfl) ?_
    refine KC 9 rfl (by kernel_rfl) (Nb rfl) (KW rfl) ?_
    refine KC 10 rfl (by kernel_rfl) (Nb rfl) (KN (o':=59) Try.underlying147 rfl rfl rfl sz_145 (by decide)) ?_
    refine LAny.take 11 rfl (by kernel_rfl) (Nb rfl) (KM rfl (by repeat (first|exact Mh _|apply Mt)) (Kc Try.underlying145 rfl (by exact cvC_gt_F _ _ _ _ _ _ _ _ _ _ _ _ _))) ?_
    refine KC 12 rfl (by kernel_rfl) (Nb rfl) (KN (o':=9) Try.underlying91 rfl rfl rfl sz_25 (by decide)) ?_
    refine LAny.take 13 rfl (by kernel_rfl) (Nb rfl) (KM rfl (by repeat (first|exact Mh _|apply Mt)) (by exact LoadV.mid Try.underlying25 rfl sz_25 rfl (KF _) (KF _))) ?_
    refine LAny.take 14 rfl (by kernel_rfl) (Nb rfl) (KM rfl (by repeat (first|exact Mh _|apply Mt)) (by exact KL Try.underlying25 rfl sz_25)) ?_
    refine Kt 7 rfl rfl (by kernel_rfl) (KU (first:=[]) rfl en_156 rfl (Nb rfl) (fun w hw=>c_F_Mul V hok f bd _ _ w (hw _ (by repeat (first|exact Mh _|apply Mt))) (hw _ (by repeat (first|exact Mh _|apply Mt)))) ?_)
    refine Kt 15 rfl rfl (by kernel_rfl) (KU (first:=[]) rfl en_156 rfl (Nb rfl) (fun w hw=>c_F_Mul V hok f bd _ _ w (hw _ (by repeat (first|exact Mh _|apply Mt))) (hw _ (by repeat (first|exact Mh _|apply Mt)))) ?_)
    refine KC 16 rfl (by kernel_rfl) (Nb rfl) (Kb (KAP pl_60 zr_60 rfl (fill_pt _ _)) rfl) ?_
    refine Kn 17 rfl rfl (by kernel_rfl) (by kernel_rfl) (KO rfl rfl sz_60 (by repeat (first|exact Kg _|exact Kr _ _ _|exact Kh _|exact Kl _ _ _|exact Kq _ _ _|exact KV|refine KR rfl ?_|refine KT ?_ ?_)) (by repeat (first|exact Sh _|apply St_)) (by first|exact KF _|exact KJ _ _ _|exact KI _|exact KS _ _ _|exact KZ _ _ _|rfl|simp [KJ,KF,KI]) ?_)
    refine Ko (by kernel_rfl) ?_
    refine KY ?_
    refine ⟨[_],.cons ⟨_,_,_,rfl,(by repeat (first|exact Mh _|apply Mt)),by exact KL Try.underlying60 rfl sz_60⟩ .nil,fun a w' hr=>⟨?_,hr.fr.below⟩⟩
    rw [plain_aff hz]
    rfl
theorem c_Sum (V:Cv) (b f bd:Nat) (hok:V.Ok) (X1 Y1 Z1 X2 Y2 Z2:Fin V.p) (w:World) (hb:(Item.blk b ⟨false,opL V f,147,(0,0)⟩).holds w) (hf:(Item.blk f ⟨false,fldL V.p bd,194,(0,0)⟩).holds w) (hbd:(Item.blk bd ⟨false,dvL V.p,241,(0,0)⟩).holds w):Calls Try.prog 128 ([.pointer (some ⟨b,0,none⟩),pjV X1.val Y1.val Z1.val,pjV X2.val Y2.val Z2.val]:List Value).toArray w (fun e w'=>e = .returned (pjF (sum3 V.A (V.B+V.B+V.B) X1 Y1 Z1 X2 Y2 Z2))∧Below w.heap.size w w'):=by
  have hbb:=hok.bounds
  have hpW:V.p<W9:=w9_521 hbb.2.1
  refine Kw (N:=213) (rs:=[.cell 6 91]) [.blk b ⟨false,opL V f,147,(0,0)⟩,.blk f ⟨false,fldL V.p bd,194,(0,0)⟩,.blk bd ⟨false,dvL V.p,241,(0,0)⟩] Try.func128 rfl Try.ntmps128 Try.results128 (Nb rfl) ⟨hb,hf,hbd,trivial⟩ rfl ?_
  show LCode _ _ _ ⟨_,_⟩ _
  refine KD (KB ?_)
  refine KK rfl (KX (KQ (Ks rfl) (Nb rfl) (fun b4=>?_)))
  refine KK rfl (KX (KQ (Ks rfl) (Nb rfl) (fun b5=>?_)))
  refine KK rfl (KX (KQ (Kd zr_91) (Nb rfl) (fun b6=>?_)))
  refine KG ?_
  refine KD ?_
  refine Ka [] (by kernel_rfl) ?_
  refine KC 0 rfl (by kernel_rfl) (Nb rfl) (KE rfl) ?_
  refine KC 1 rfl (by kernel_rfl) (Nb rfl) (KW rfl) ?_
  refine KC 2 rfl (by kernel_rfl) (Nb rfl) (KN (o':=59) Try.underlying147 rfl rfl rfl sz_145 (by decide)) ?_
  refine LAny.take 3 rfl (by kernel_rfl) (Nb rfl) (KM rfl (by repeat (first|exact Mh _|apply Mt)) (Kc Try.underlying145 rfl (by exact cvC_gt_F _ _ _ _ _ _ _ _ _ _ _ _ _))) ?_
  refine KC 4 rfl (by kernel_rfl) (Nb rfl) (Det.makeFunc1 rfl) ?_
  refine KC 5 rfl (by kernel_rfl) (Nb rfl) (KE rfl) ?_
  refine KC 6 rfl (by kernel_rfl) (Nb rfl) (KW rfl) ?_
  refine KC 7 rfl (by kernel_rfl) (Nb rfl) (KN (o':=59) Try.underlying147 rfl rfl rfl sz_145 (by decide)) ?_
  refine LAny.take 8 rfl (by kernel_rfl) (Nb rfl) (KM rfl (by repeat (first|exact Mh _|apply Mt)) (Kc Try.underlying145 rfl (by exact cvC_gt_F _ _ _ _ _ _ _ _ _ _ _ _ _))) ?_
  refine KC 9 rfl (by kernel_rfl) (Nb rfl) (Det.makeFunc1 rfl) ?_
  refine KC 10 rfl (by kernel_rfl) (Nb rfl) (KE rfl) ?_
  refine KC 11 rfl (by kernel_rfl) (Nb rfl) (KW rfl) ?_
  refine KC 12 rfl (by kernel_rfl) (Nb rfl) (KN (o':=59) Try.underlying147 rfl rfl rfl sz_145 (by decide)) ?_
  refine LAny.take 13 rfl (by kernel_rfl) (Nb rfl) (KM rfl (by repeat (first|exact Mh _|apply Mt)) (Kc Try.underlying145 rfl (by exact cvC_gt_F _ _ _ _ _ _ _ _ _ _ _ _ _))) ?_
  refine KC 14 rfl (by kernel_rfl) (Nb rfl) (Det.makeFunc1 rfl) ?_
  refine KC 15 rfl (by kernel_rfl) (Nb rfl) (KH rfl) ?_
  refine KC 16 rfl (by kernel_rfl) (Nb rfl) (KH rfl) ?_
  refine KC 17 rfl (by kernel_rfl) (Nb rfl) (KH rfl) ?_
  refine Ko (by kernel_rfl) ?_
  refine KD ?_
  refine Ka [21,22,23] (by kernel_rfl) ?_
  refine KC 0 rfl (by kernel_rfl) (Nb rfl) (KE rfl) ?_
  refine KC 1 rfl (by kernel_rfl) (Nb rfl) (KN (o':=0) Try.underlying91 rfl rfl rfl sz_25 (by decide)) ?_
  refine LAny.take 2 rfl (by kernel_rfl) (Nb rfl) (KM rfl (by repeat (first|exact Mh _|apply Mt)) (by exact KAB Try.underlying25 rfl sz_25 rfl (KF _))) ?_
  refine KC 3 rfl (by kernel_rfl) (Nb rfl) (KN (o':=0) Try.underlying91 rfl rfl rfl sz_25 (by decide)) ?_
  refine LAny.take 4 rfl (by kernel_rfl) (Nb rfl) (KM rfl (by repeat (first|exact Mh _|apply Mt)) (by exact KAB Try.underlying25 rfl sz_25 rfl (KF _))) ?_
  refine KC 6 rfl (by kernel_rfl) (Nb rfl) (KE rfl) ?_
  refine KC 7 rfl (by kernel_rfl) (Nb rfl) (KN (o':=9) Try.underlying91 rfl rfl rfl sz_25 (by decide)) ?_
  refine KC 9 rfl (by kernel_rfl) (Nb rfl) (KN (o':=9) Try.underlying91 rfl rfl rfl sz_25 (by decide)) ?_
  refine KC 12 rfl (by kernel_rfl) (Nb rfl) (KE rfl) ?_
  refine KC 13 rfl (by kernel_rfl) (Nb rfl) (KN (o':=18) Try.underlying91 rfl rfl rfl sz_25 (by decide)) ?_
  refine KC 15 rfl (by kernel_rfl) (Nb rfl) (KN (o':=18) Try.underlying91 rfl rfl rfl sz_25 (by decide)) ?_
  refine LAny.takeW [11,17,21,22,23] 8 rfl (by kernel_rfl) (Nb rfl) (KM rfl (by repeat (first|exact Mh _|apply Mt)) (by exact LoadV.mid Try.underlying25 rfl sz_25 rfl (KF _) (KF _))) ?_
  refine LAny.takeW [11,17,21,22,23] 10 rfl (by kernel_rfl) (Nb rfl) (KM rfl (by repeat (first|exact Mh _|apply Mt)) (by exact LoadV.mid Try.underlying25 rfl sz_25 rfl (KF _) (KF _))) ?_
  refine LAny.takeW [17,21,22,23] 14 rfl (by kernel_rfl) (Nb rfl) (KM rfl (by repeat (first|exact Mh _|apply Mt)) (by exact pj_ld2 _ _ _ _ _ _)) ?_
  refine LAny.takeW [17,21,22,23] 16 rfl (by kernel_rfl) (Nb rfl) (KM rfl (by repeat (first|exact Mh _|apply Mt)) (by exact pj_ld2 _ _ _ _ _ _)) ?_
  refine LAny.toP ?_
  refine KAU 18 rfl (.inl zr_25) (Nb rfl) rfl rfl rfl ?_
  refine KAU 19 rfl (.inl zr_25) (Nb rfl) rfl rfl rfl ?_
  refine KAU 20 rfl (.inl zr_25) (Nb rfl) rfl rfl rfl ?_
  refine Ky 5 rfl rfl rfl (Nb rfl) (by kernel_rfl) rfl (KAA (first:=[_]) rfl en_156 rfl (fun w hw=>c_F_Mul V hok f bd _ _ w (hw _ (by repeat (first|exact Mh _|apply Mt))) (hw _ (by repeat (first|exact Mh _|apply Mt))))) ?_
  rintro _ _ ⟨rfl,rfl⟩
  refine Ky 11 rfl rfl rfl (Nb rfl) (by kernel_rfl) rfl (KAA (first:=[_]) rfl en_156 rfl (fun w hw=>c_F_Mul V hok f bd _ _ w (hw _ (by repeat (first|exact Mh _|apply Mt))) (hw _ (by repeat (first|exact Mh _|apply Mt))))) ?_
  rintro _ _ ⟨rfl,rfl⟩
  refine Ky 17 rfl rfl rfl (Nb rfl) (by kernel_rfl) rfl (KAA (first:=[_]) rfl en_156 rfl (fun w hw=>c_F_Mul V hok f bd _ _ w (hw _ (by repeat (first|exact Mh _|apply Mt))) (hw _ (by repeat (first|exact Mh _|apply Mt))))) ?_
  rintro _ _ ⟨rfl,rfl⟩
  refine KAb (by kernel_rfl) (fun b12=>?_)
  refine KAb (by kernel_rfl) (fun b11=>?_)
  refine KAb (by kernel_rfl) (fun b10=>?_)
  refine KAa ?_
  refine Kn 21 rfl rfl (by kernel_rfl) (by kernel_rfl) (KO rfl rfl sz_25 (by repeat (first|exact Kg _|exact Kr _ _ _|exact Kh _|exact Kl _ _ _|exact Kq _ _ _|exact KV|refine KR rfl ?_|refine KT ?_ ?_)) (by repeat (first|exact Sh _|apply St_)) (by first|exact KF _|exact KJ _ _ _|exact KI _|exact KS _ _ _|exact KZ _ _ _|rfl|simp [KJ,KF,KI]) ?_)
  refine Kn 22 rfl rfl (by kernel_rfl) (by kernel_rfl) (KO rfl rfl sz_25 (by repeat (first|exact Kg _|exact Kr _ _ _|exact Kh _|exact Kl _ _ _|exact Kq _ _ _|exact KV|refine KR rfl ?_|refine KT ?_ ?_)) (by repeat (first|exact Sh _|apply St_)) (by first|exact KF _|exact KJ _ _ _|exact KI _|exact KS _ _ _|exact KZ _ _ _|rfl|simp [KJ,KF,KI]) ?_)
  refine Kn 23 rfl rfl (by kernel_rfl) (by kernel_rfl) (KO rfl rfl sz_25 (by repeat (first|exact Kg _|exact Kr _ _ _|exact Kh _|exact Kl _ _ _|exact Kq _ _ _|exact KV|refine KR rfl ?_|refine KT ?_ ?_)) (by repeat (first|exact Sh _|apply St_)) (by first|exact KF _|exact KJ _ _ _|exact KI _|exact KS _ _ _|exact KZ _ _ _|rfl|simp [KJ,KF,KI]) ?_)
  refine Ko (by kernel_rfl) ?_
  refine KD ?_
  refine Ka [21] (by kernel_rfl) ?_
  refine KC 0 rfl (by kernel_rfl) (Nb rfl) (KE rfl) ?_
  refine KC 1 rfl (by kernel_rfl) (Nb rfl) (KE rfl) ?_
  refine KC 2 rfl (by kernel_rfl) (Nb rfl) (KE rfl) ?_
  refine KC 3 rfl (by kernel_rfl) (Nb rfl) (KN (o':=0) Try.underlying91 rfl rfl rfl sz_25 (by decide)) ?_
  refine LAny.take 4 rfl (by kernel_rfl) (Nb rfl) (KM rfl (by repeat (first|exact Mh _|apply Mt)) (by exact KAB Try.underlying25 rfl sz_25 rfl (KF _))) ?_
  refine KC 5 rfl (by kernel_rfl) (Nb rfl) (KN (o':=9) Try.underlying91 rfl rfl rfl sz_25 (by decide)) ?_
  refine LAny.take 6 rfl (by kernel_rfl) (Nb rfl) (KM rfl (by repeat (first|exact Mh _|apply Mt)) (by exact LoadV.mid Try.underlying25 rfl sz_25 rfl (KF _) (KF _))) ?_
  refine KC 8 rfl (by kernel_rfl) (Nb rfl) (KE rfl) ?_
  refine KC 9 rfl (by kernel_rfl) (Nb rfl) (KN (o':=0) Try.underlying91 rfl rfl rfl sz_25 (by decide)) ?_
  refine LAny.take 10 rfl (by kernel_rfl) (Nb rfl) (KM rfl (by repeat (first|exact Mh _|apply Mt)) (by exact KAB Try.underlying25 rfl sz_25 rfl (KF _))) ?_
  refine KC 11 rfl (by kernel_rfl) (Nb rfl) (KN (o':=9) Try.underlying91 rfl rfl rfl sz_25 (by decide)) ?_
  refine LAny.take 12 rfl (by kernel_rfl) (Nb rfl) (KM rfl (by repeat (first|exact Mh _|apply Mt)) (by exact LoadV.mid Try.underlying25 rfl sz_25 rfl (KF _) (KF _))) ?_
  refine KC 15 rfl (by kernel_rfl) (Nb rfl) (KE rfl) ?_
  refine LAny.take 16 rfl (by kernel_rfl) (Nb rfl) (KM rfl (by repeat (first|exact Mh _|apply Mt)) (by exact KL Try.underlying25 rfl sz_25)) ?_
  refine LAny.take 17 rfl (by kernel_rfl) (Nb rfl) (KM rfl (by repeat (first|exact Mh _|apply Mt)) (by exact KL Try.underlying25 rfl sz_25)) ?_
  refine LAny.toP ?_
  refine KAU 20 rfl (.inl zr_25) (Nb rfl) rfl rfl rfl ?_
  refine Ky 7 rfl rfl rfl (Nb rfl) (by kernel_rfl) rfl (KAA (first:=[_]) rfl en_152 rfl (fun w hw=>c_F_Add V hok f bd _ _ w (hw _ (by repeat (first|exact Mh _|apply Mt))))) ?_
  rintro _ _ ⟨rfl,rfl⟩
  refine Ky 13 rfl rfl rfl (Nb rfl) (by kernel_rfl) rfl (KAA (first:=[_]) rfl en_152 rfl (fun w hw=>c_F_Add V hok f bd _ _ w (hw _ (by repeat (first|exact Mh _|apply Mt))))) ?_
  rintro _ _ ⟨rfl,rfl⟩
  refine Ky 14 rfl rfl rfl (Nb rfl) (by kernel_rfl) rfl (KAA (first:=[_]) rfl en_156 rfl (fun w hw=>c_F_Mul V hok f bd _ _ w (hw _ (by repeat (first|exact Mh _|apply Mt))) (hw _ (by repeat (first|exact Mh _|apply Mt))))) ?_
  rintro _ _ ⟨rfl,rfl⟩
  refine Ky 18 rfl rfl rfl (Nb rfl) (by kernel_rfl) rfl (KAA (first:=[_]) rfl en_152 rfl (fun w hw=>c_F_Add V hok f bd _ _ w (hw _ (by repeat (first|exact Mh _|apply Mt))))) ?_
  rintro _ _ ⟨rfl,rfl⟩
  refine Ky 19 rfl rfl rfl (Nb rfl) (by kernel_rfl) rfl (KAA (first:=[_]) rfl en_161 rfl (fun w hw=>c_F_Sub V hok f bd _ _ w (hw _ (by repeat (first|exact Mh _|apply Mt))))) ?_
  rintro _ _ ⟨rfl,rfl⟩
  refine KAb (by kernel_rfl) (fun b13=>?_)
  refine KAa ?_
  refine Kn 21 rfl rfl (by kernel_rfl) (by kernel_rfl) (KO rfl rfl sz_25 (by repeat (first|exact Kg _|exact Kr _ _ _|exact Kh _|exact Kl _ _ _|exact Kq _ _ _|exact KV|refine KR rfl ?_|refine KT ?_ ?_)) (by repeat (first|exact Sh _|apply St_)) (by first|exact KF _|exact KJ _ _ _|exact KI _|exact KS _ _ _|exact KZ _ _ _|rfl|simp [KJ,KF,KI]) ?_)
  refine Ko (by kernel_rfl) ?_
  refine KD ?_
  refine Ka [21] (by kernel_rfl) ?_
  refine KC 0 rfl (by kernel_rfl) (Nb rfl) (KE rfl) ?_
  refine KC 1 rfl (by kernel_rfl) (Nb rfl) (KE rfl) ?_
  refine KC 2 rfl (by kernel_rfl) (Nb rfl) (KE rfl) ?_
  refine KC 3 rfl (by kernel_rfl) (Nb rfl) (KN (o':=0) Try.underlying91 rfl rfl rfl sz_25 (by decide)) ?_
  refine LAny.take 4 rfl (by kernel_rfl) (Nb rfl) (KM rfl (by repeat (first|exact Mh _|apply Mt)) (by exact KAB Try.underlying25 rfl sz_25 rfl (KF _))) ?_
  refine KC 5 rfl (by kernel_rfl) (Nb rfl) (KN (o':=18) Try.underlying91 rfl rfl rfl sz_25 (by decide)) ?_
  refine LAny.take 6 rfl (by kernel_rfl) (Nb rfl) (KM rfl (by repeat (first|exact Mh _|apply Mt)) (by exact pj_ld2 _ _ _ _ _ _)) ?_
  refine KC 8 rfl (by kernel_rfl) (Nb rfl) (KE rfl) ?_
  refine KC 9 rfl (by kernel_rfl) (Nb rfl) (KN (o':=0) Try.underlying91 rfl rfl rfl sz_25 (by decide)) ?_
  refine LAny.take 10 rfl (by kernel_rfl) (Nb rfl) (KM rfl (by repeat (first|exact Mh _|apply Mt)) (by exact KAB Try.underlying25 rfl sz_25 rfl (KF _))) ?_
  refine KC 11 rfl (by kernel_rfl) (Nb rfl) (KN (o':=18) Try.underlying91 rfl rfl rfl sz_25 (by decide)) ?_
  refine LAny.take 12 rfl (by kernel_rfl) (Nb rfl) (KM rfl (by repeat (first|exact Mh _|apply Mt)) (by exact pj_ld2 _ _ _ _ _ _)) ?_
  refine KC 15 rfl (by kernel_rfl) (Nb rfl) (KE rfl) ?_
  refine LAny.take 16 rfl (by kernel_rfl) (Nb rfl) (KM rfl (by repeat (first|exact Mh _|apply Mt)) (by exact KL Try.underlying25 rfl sz_25)) ?_
  refine LAny.take 17 rfl (by kernel_rfl) (Nb rfl) (KM rfl (by repeat (first|exact Mh _|apply Mt)) (by exact KL Try.underlying25 rfl sz_25)) ?_
  refine LAny.toP ?_
  refine KAU 20 rfl (.inl zr_25) (Nb rfl) rfl rfl rfl ?_
  refine Ky 7 rfl rfl rfl (Nb rfl) (by kernel_rfl) rfl (KAA (first:=[_]) rfl en_152 rfl (fun w hw=>c_F_Add V hok f bd _ _ w (hw _ (by repeat (first|exact Mh _|apply Mt))))) ?_
  rintro _ _ ⟨rfl,rfl⟩
  refine Ky 13 rfl rfl rfl (Nb rfl) (by kernel_rfl) rfl (KAA (first:=[_]) rfl en_152 rfl (fun w hw=>c_F_Add V hok f bd _ _ w (hw _ (by repeat (first|exact Mh _|apply Mt))))) ?_
  rintro _ _ ⟨rfl,rfl⟩
  refine Ky 14 rfl rfl rfl (Nb rfl) (by kernel_rfl) rfl (KAA (first:=[_]) rfl en_156 rfl (fun w hw=>c_F_Mul V hok f bd _ _ w (hw _ (by repeat (first|exact Mh _|apply Mt))) (hw _ (by repeat (first|exact Mh _|apply Mt))))) ?_
  rintro _ _ ⟨rfl,rfl⟩
  refine Ky 18 rfl rfl rfl (Nb rfl) (by kernel_rfl) rfl (KAA (first:=[_]) rfl en_152 rfl (fun w hw=>c_F_Add V hok f bd _ _ w (hw _ (by repeat (first|exact Mh _|apply Mt))))) ?_
  rintro _ _ ⟨rfl,rfl⟩
  refine Ky 19 rfl rfl rfl (Nb rfl) (by kernel_rfl) rfl (KAA (first:=[_]) rfl en_161 rfl (fun w hw=>c_F_Sub V hok f bd _ _ w (hw _ (by repeat (first|exact Mh _|apply Mt))))) ?_
  rintro _ _ ⟨rfl,rfl⟩
  refine KAb (by kernel_rfl) (fun b14=>?_)
  refine KAa ?_
  refine Kn 21 rfl rfl (by kernel_rfl) (by kernel_rfl) (KO rfl rfl sz_25 (by repeat (first|exact Kg _|exact Kr _ _ _|exact Kh _|exact Kl _ _ _|exact Kq _ _ _|exact KV|refine KR rfl ?_|refine KT ?_ ?_)) (by repeat (first|exact Sh _|apply St_)) (by first|exact KF _|exact KJ _ _ _|exact KI _|exact KS _ _ _|exact KZ _ _ _|rfl|simp [KJ,KF,KI]) ?_)
  refine Ko (by kernel_rfl) ?_
  refine KD ?_
  refine Ka [21] (by kernel_rfl) ?_
  refine KC 0 rfl (by kernel_rfl) (Nb rfl) (KE rfl) ?_
  refine KC 1 rfl (by kernel_rfl) (Nb rfl) (KE rfl) ?_
  refine KC 2 rfl (by kernel_rfl) (Nb rfl) (KE rfl) ?_
  refine KC 3 rfl (by kernel_rfl) (Nb rfl) (KN (o':=9) Try.underlying91 rfl rfl rfl sz_25 (by decide)) ?_
  refine LAny.take 4 rfl (by kernel_rfl) (Nb rfl) (KM rfl (by repeat (first|exact Mh _|apply Mt)) (by exact LoadV.mid Try.underlying25 rfl sz_25 rfl (KF _) (KF _))) ?_
  refine KC 5 rfl (by kernel_rfl) (Nb rfl) (KN (o':=18) Try.underlying91 rfl rfl rfl sz_25 (by decide)) ?_
  refine LAny.take 6 rfl (by kernel_rfl) (Nb rfl) (KM rfl (by repeat (first|exact Mh _|apply Mt)) (by exact pj_ld2 _ _ _ _ _ _)) ?_
  refine KC 8 rfl (by kernel_rfl) (Nb rfl) (KE rfl) ?_
  refine KC 9 rfl (by kernel_rfl) (Nb rfl) (KN (o':=9) Try.underlying91 rfl rfl rfl sz_25 (by decide)) ?_
  refine LAny.take 10 rfl (by kernel_rfl) (Nb rfl) (KM rfl (by repeat (first|exact Mh _|apply Mt)) (by exact LoadV.mid Try.underlying25 rfl sz_25 rfl (KF _) (KF _))) ?_
  refine KC 11 rfl (by kernel_rfl) (Nb rfl) (KN (o':=18) Try.underlying91 rfl rfl rfl sz_25 (by decide)) ?_
  refine LAny.take 12 rfl (by kernel_rfl) (Nb rfl) (KM rfl (by repeat (first|exact Mh _|apply Mt)) (by exact pj_ld2 _ _ _ _ _ _)) ?_
  refine KC 15 rfl (by kernel_rfl) (Nb rfl) (KE rfl) ?_
  refine LAny.take 16 rfl (by kernel_rfl) (Nb rfl) (KM rfl (by repeat (first|exact Mh _|apply Mt)) (by exact KL Try.underlying25 rfl sz_25)) ?_
  refine LAny.take 17 rfl (by kernel_rfl) (Nb rfl) (KM rfl (by repeat (first|exact Mh _|apply Mt)) (by exact KL Try.underlying25 rfl sz_25)) ?_
  refine LAny.toP ?_
  refine KAU 20 rfl (.inl zr_25) (Nb rfl) rfl rfl rfl ?_
  refine Ky 7 rfl rfl rfl (Nb rfl) (by kernel_rfl) rfl (KAA (first:=[_]) rfl en_152 rfl (fun w hw=>c_F_Add V hok f bd _ _ w (hw _ (by repeat (first|exact Mh _|apply Mt))))) ?_
  rintro _ _ ⟨rfl,rfl⟩
  refine Ky 13 rfl rfl rfl (Nb rfl) (by kernel_rfl) rfl (KAA (first:=[_]) rfl en_152 rfl (fun w hw=>c_F_Add V hok f bd _ _ w (hw _ (by repeat (first|exact Mh _|apply Mt))))) ?_
  rintro _ _ ⟨rfl,rfl⟩
  refine Ky 14 rfl rfl rfl (Nb rfl) (by kernel_rfl) rfl (KAA (first:=[_]) rfl en_156 rfl (fun w hw=>c_F_Mul V hok f bd _ _ w (hw _ (by repeat (first|exact Mh _|apply Mt))) (hw _ (by repeat (first|exact Mh _|apply Mt))))) ?_
  rintro _ _ ⟨rfl,rfl⟩
  refine Ky 18 rfl rfl rfl (Nb rfl) (by kernel_rfl) rfl (KAA (first:=[_]) rfl en_152 rfl (fun w hw=>c_F_Add V hok f bd _ _ w (hw _ (by repeat (first|exact Mh _|apply Mt))))) ?_
  rintro _ _ ⟨rfl,rfl⟩
  refine Ky 19 rfl rfl rfl (Nb rfl) (by kernel_rfl) rfl (KAA (first:=[_]) rfl en_161 rfl (fun w hw=>c_F_Sub V hok f bd _ _ w (hw _ (by repeat (first|exact Mh _|apply Mt))))) ?_
  rintro _ _ ⟨rfl,rfl⟩
  refine KAb (by kernel_rfl) (fun b15=>?_)
  refine KAa ?_
  refine Kn 21 rfl rfl (by kernel_rfl) (by kernel_rfl) (KO rfl rfl sz_25 (by repeat (first|exact Kg _|exact Kr _ _ _|exact Kh _|exact Kl _ _ _|exact Kq _ _ _|exact KV|refine KR rfl ?_|refine KT ?_ ?_)) (by repeat (first|exact Sh _|apply St_)) (by first|exact KF _|exact KJ _ _ _|exact KI _|exact KS _ _ _|exact KZ _ _ _|rfl|simp [KJ,KF,KI]) ?_)
  refine Ko (by kernel_rfl) ?_
  refine KD ?_
  refine Ka [18] (by kernel_rfl) ?_
  refine KC 0 rfl (by kernel_rfl) (Nb rfl) (KE rfl) ?_
  refine KC 1 rfl (by kernel_rfl) (Nb rfl) (KE rfl) ?_
  refine KC 2 rfl (by kernel_rfl) (Nb rfl) (KE rfl) ?_
  refine KC 3 rfl (by kernel_rfl) (Nb rfl) (KW rfl) ?_
  refine KC 4 rfl (by kernel_rfl) (Nb rfl) (KN (o':=60) Try.underlying147 rfl rfl rfl sz_25 (by decide)) ?_
  refine LAny.take 5 rfl (by kernel_rfl) (Nb rfl) (Det.cast (KM rfl (by repeat (first|exact Mh _|apply Mt)) (by exact cvC_ld_t3 _ _ _ _ _ _ _ _ _ _ _ _ _ _ _ _)) (t_val hok)) ?_
  refine LAny.take 6 rfl (by kernel_rfl) (Nb rfl) (KM rfl (by repeat (first|exact Mh _|apply Mt)) (by exact KL Try.underlying25 rfl sz_25)) ?_
  refine KC 8 rfl (by kernel_rfl) (Nb rfl) (KE rfl) ?_
  refine KC 9 rfl (by kernel_rfl) (Nb rfl) (KE rfl) ?_
  refine KC 10 rfl (by kernel_rfl) (Nb rfl) (KW rfl) ?_
  refine KC 11 rfl (by kernel_rfl) (Nb rfl) (KN (o':=0) Try.underlying147 rfl rfl rfl sz_62 (by decide)) ?_
  refine KC 12 rfl (by kernel_rfl) (Nb rfl) (KN (o':=10) Try.underlying62 rfl rfl rfl sz_25 (by decide)) ?_
  refine LAny.take 13 rfl (by kernel_rfl) (Nb rfl) (Det.cast (KM rfl (by repeat (first|exact Mh _|apply Mt)) (by exact cvC_ld_a _ _ _ _ _ _ _ _ _ _ _ _ _ _ _ _)) (a_val hok)) ?_
  refine LAny.take 14 rfl (by kernel_rfl) (Nb rfl) (KM rfl (by repeat (first|exact Mh _|apply Mt)) (by exact KL Try.underlying25 rfl sz_25)) ?_
  refine LAny.toP ?_
  refine KAU 17 rfl (.inl zr_25) (Nb rfl) rfl rfl rfl ?_
  refine Ky 7 rfl rfl rfl (Nb rfl) (by kernel_rfl) rfl (KAA (first:=[_]) rfl en_156 rfl (fun w hw=>c_F_Mul V hok f bd _ _ w (hw _ (by repeat (first|exact Mh _|apply Mt))) (hw _ (by repeat (first|exact Mh _|apply Mt))))) ?_
  rintro _ _ ⟨rfl,rfl⟩
  refine Ky 15 rfl rfl rfl (Nb rfl) (by kernel_rfl) rfl (KAA (first:=[_]) rfl en_156 rfl (fun w hw=>c_F_Mul V hok f bd _ _ w (hw _ (by repeat (first|exact Mh _|apply Mt))) (hw _ (by repeat (first|exact Mh _|apply Mt))))) ?_
  rintro _ _ ⟨rfl,rfl⟩
  refine Ky 16 rfl rfl rfl (Nb rfl) (by kernel_rfl) rfl (KAA (first:=[_]) rfl en_152 rfl (fun w hw=>c_F_Add V hok f bd _ _ w (hw _ (by repeat (first|exact Mh _|apply Mt))))) ?_
  rintro _ _ ⟨rfl,rfl⟩
  refine KAb (by kernel_rfl) (fun b16=>?_)
  refine KAa ?_
  refine Kn 18 rfl rfl (by kernel_rfl) (by kernel_rfl) (KO rfl rfl sz_25 (by repeat (first|exact Kg _|exact Kr _ _ _|exact Kh _|exact Kl _ _ _|exact Kq _ _ _|exact KV|refine KR rfl ?_|refine KT ?_ ?_)) (by repeat (first|exact Sh _|apply St_)) (by first|exact KF _|exact KJ _ _ _|exact KI _|exact KS _ _ _|exact KZ _ _ _|rfl|simp [KJ,KF,KI]) ?_)
  refine Ko (by kernel_rfl) ?_
  refine KD (KB ?_)
  refine KA (KE rfl) (Nb rfl) ?_
  refine LOps.det (KM rfl (by repeat (first|exact Mh _|apply Mt)) (by exact KL Try.underlying25 rfl sz_25)) (Nb rfl) ?_
  refine LOps.det (KM rfl (by repeat (first|exact Mh _|apply Mt)) (by exact KL Try.underlying25 rfl sz_25)) (Nb rfl) ?_
  refine KK rfl (KX (KU (first:=[_]) rfl en_161 rfl (Nb rfl) (fun w hw=>c_F_Sub V hok f bd _ _ w (hw _ (by repeat (first|exact Mh _|apply Mt)))) ?_))
  refine KK rfl (KX (KQ (Kd zr_25) (Nb rfl) (fun b17=>?_)))
  refine KK rfl (KO rfl rfl sz_25 (by repeat (first|exact Kg _|exact Kr _ _ _|exact Kh _|exact Kl _ _ _|exact Kq _ _ _|exact KV|refine KR rfl ?_|refine KT ?_ ?_)) (by repeat (first|exact Sh _|apply St_)) (by first|exact KF _|exact KJ _ _ _|exact KI _|exact KS _ _ _|exact KZ _ _ _|rfl|simp [KJ,KF,KI]) ?_)
  refine KG ?_
  refine KD (KB ?_)
  refine KA (KE rfl) (Nb rfl) ?_
  refine LOps.det (KM rfl (by repeat (first|exact Mh _|apply Mt)) (by exact KL Try.underlying25 rfl sz_25)) (Nb rfl) ?_
  refine LOps.det (KM rfl (by repeat (first|exact Mh _|apply Mt)) (by exact KL Try.underlying25 rfl sz_25)) (Nb rfl) ?_
  refine KK rfl (KX (KU (first:=[_]) rfl en_152 rfl (Nb rfl) (fun w hw=>c_F_Add V hok f bd _ _ w (hw _ (by repeat (first|exact Mh _|apply Mt)))) ?_))
  refine KK rfl (KO rfl rfl sz_25 (by repeat (first|exact Kg _|exact Kr _ _ _|exact Kh _|exact Kl _ _ _|exact Kq _ _ _|exact KV|refine KR rfl ?_|refine KT ?_ ?_)) (by repeat (first|exact Sh _|apply St_)) (by first|exact KF _|exact KJ _ _ _|exact KI _|exact KS _ _ _|exact KZ _ _ _|rfl|simp [KJ,KF,KI]) ?_)
  refine KG ?_
  refine KD (KB ?_)
  refine KA (KE rfl) (Nb rfl) ?_
  refine LOps.det (KM rfl (by repeat (first|exact Mh _|apply Mt)) (by exact KL Try.underlying25 rfl sz_25)) (Nb rfl) ?_
  refine LOps.det (KM rfl (by repeat (first|exact Mh _|apply Mt)) (by exact KL Try.underlying25 rfl sz_25)) (Nb rfl) ?_
  refine KK rfl (KX (KU (first:=[_]) rfl en_156 rfl (Nb rfl) (fun w hw=>c_F_Mul V hok f bd _ _ w (hw _ (by repeat (first|exact Mh _|apply Mt))) (hw _ (by repeat (first|exact Mh _|apply Mt)))) ?_))
  refine KK rfl (KX (KQ (Kd zr_25) (Nb rfl) (fun b18=>?_)))
  refine KK rfl (KO rfl rfl sz_25 (by repeat (first|exact Kg _|exact Kr _ _ _|exact Kh _|exact Kl _ _ _|exact Kq _ _ _|exact KV|refine KR rfl ?_|refine KT ?_ ?_)) (by repeat (first|exact Sh _|apply St_)) (by first|exact KF _|exact KJ _ _ _|exact KI _|exact KS _ _ _|exact KZ _ _ _|rfl|simp [KJ,KF,KI]) ?_)
  refine KG ?_
  refine KD ?_
  refine Ka [7] (by kernel_rfl) ?_
  refine KC 0 rfl (by kernel_rfl) (Nb rfl) (KE rfl) ?_
  refine KC 1 rfl (by kernel_rfl) (Nb rfl) (KE rfl) ?_
  refine LAny.take 2 rfl (by kernel_rfl) (Nb rfl) (KM rfl (by repeat (first|exact Mh _|apply Mt)) (by exact KL Try.underlying25 rfl sz_25)) ?_
  refine LAny.take 3 rfl (by kernel_rfl) (Nb rfl) (KM rfl (by repeat (first|exact Mh _|apply Mt)) (by exact KL Try.underlying25 rfl sz_25)) ?_
  refine LAny.take 5 rfl (by kernel_rfl) (Nb rfl) (KM rfl (by repeat (first|exact Mh _|apply Mt)) (by exact KL Try.underlying25 rfl sz_25)) ?_
  refine Kt 4 rfl rfl (by kernel_rfl) (KU (first:=[_]) rfl en_152 rfl (Nb rfl) (fun w hw=>c_F_Add V hok f bd _ _ w (hw _ (by repeat (first|exact Mh _|apply Mt)))) ?_)
  refine Kt 6 rfl rfl (by kernel_rfl) (KU (first:=[_]) rfl en_152 rfl (Nb rfl) (fun w hw=>c_F_Add V hok f bd _ _ w (hw _ (by repeat (first|exact Mh _|apply Mt)))) ?_)
  refine Kn 7 rfl rfl (by kernel_rfl) (by kernel_rfl) (KO rfl rfl sz_25 (by repeat (first|exact Kg _|exact Kr _ _ _|exact Kh _|exact Kl _ _ _|exact Kq _ _ _|exact KV|refine KR rfl ?_|refine KT ?_ ?_)) (by repeat (first|exact Sh _|apply St_)) (by first|exact KF _|exact KJ _ _ _|exact KI _|exact KS _ _ _|exact KZ _ _ _|rfl|simp [KJ,KF,KI]) ?_)
  refine Ko (by kernel_rfl) ?_
  refine KD ?_
  refine Ka [8] (by kernel_rfl) ?_
  refine KC 0 rfl (by kernel_rfl) (Nb rfl) (KE rfl) ?_
  refine KC 1 rfl (by kernel_rfl) (Nb rfl) (KE rfl) ?_
  refine KC 2 rfl (by kernel_rfl) (Nb rfl) (KW rfl) ?_
  refine KC 3 rfl (by kernel_rfl) (Nb rfl) (KN (o':=0) Try.underlying147 rfl rfl rfl sz_62 (by decide)) ?_
  refine KC 4 rfl (by kernel_rfl) (Nb rfl) (KN (o':=10) Try.underlying62 rfl rfl rfl sz_25 (by decide)) ?_
  refine LAny.take 5 rfl (by kernel_rfl) (Nb rfl) (Det.cast (KM rfl (by repeat (first|exact Mh _|apply Mt)) (by exact cvC_ld_a _ _ _ _ _ _ _ _ _ _ _ _ _ _ _ _)) (a_val hok)) ?_
  refine LAny.take 6 rfl (by kernel_rfl) (Nb rfl) (KM rfl (by repeat (first|exact Mh _|apply Mt)) (by exact KL Try.underlying25 rfl sz_25)) ?_
  refine Kt 7 rfl rfl (by kernel_rfl) (KU (first:=[_]) rfl en_156 rfl (Nb rfl) (fun w hw=>c_F_Mul V hok f bd _ _ w (hw _ (by repeat (first|exact Mh _|apply Mt))) (hw _ (by repeat (first|exact Mh _|apply Mt)))) ?_)
  refine Kn 8 rfl rfl (by kernel_rfl) (by kernel_rfl) (KO rfl rfl sz_25 (by repeat (first|exact Kg _|exact Kr _ _ _|exact Kh _|exact Kl _ _ _|exact Kq _ _ _|exact KV|refine KR rfl ?_|refine KT ?_ ?_)) (by repeat (first|exact Sh _|apply St_)) (by first|exact KF _|exact KJ _ _ _|exact KI _|exact KS _ _ _|exact KZ _ _ _|rfl|simp [KJ,KF,KI]) ?_)
  refine Ko (by kernel_rfl) ?_
  refine KD ?_
  refine Ka [7] (by kernel_rfl) ?_
  refine KC 0 rfl (by kernel_rfl) (Nb rfl) (KE rfl) ?_
  refine KC 1 rfl (by kernel_rfl) (Nb rfl) (KE rfl) ?_
  refine KC 2 rfl (by kernel_rfl) (Nb rfl) (KW rfl) ?_
  refine KC 3 rfl (by kernel_rfl) (Nb rfl) (KN (o':=60) Try.underlying147 rfl rfl rfl sz_25 (by decide)) ?_
  refine LAny.take 4 rfl (by kernel_rfl) (Nb rfl) (Det.cast (KM rfl (by repeat (first|exact Mh _|apply Mt)) (by exact cvC_ld_t3 _ _ _ _ _ _ _ _ _ _ _ _ _ _ _ _)) (t_val hok)) ?_
  refine LAny.take 5 rfl (by kernel_rfl) (Nb rfl) (KM rfl (by repeat (first|exact Mh _|apply Mt)) (by exact KL Try.underlying25 rfl sz_25)) ?_
  refine Kt 6 rfl rfl (by kernel_rfl) (KU (first:=[_]) rfl en_156 rfl (Nb rfl) (fun w hw=>c_F_Mul V hok f bd _ _ w (hw _ (by repeat (first|exact Mh _|apply Mt))) (hw _ (by repeat (first|exact Mh _|apply Mt)))) ?_)
  refine Kn 7 rfl rfl (by kernel_rfl) (by kernel_rfl) (KO rfl rfl sz_25 (by repeat (first|exact Kg _|exact Kr _ _ _|exact Kh _|exact Kl _ _ _|exact Kq _ _ _|exact KV|refine KR rfl ?_|refine KT ?_ ?_)) (by repeat (first|exact Sh _|apply St_)) (by first|exact KF _|exact KJ _ _ _|exact KI _|exact KS _ _ _|exact KZ _ _ _|rfl|simp [KJ,KF,KI]) ?_)
  refine Ko (by kernel_rfl) ?_
  refine KD (KB ?_)
  refine KA (KE rfl) (Nb rfl) ?_
  refine LOps.det (KM rfl (by repeat (first|exact Mh _|apply Mt)) (by exact KL Try.underlying25 rfl sz_25)) (Nb rfl) ?_
  refine LOps.det (KM rfl (by repeat (first|exact Mh _|apply Mt)) (by exact KL Try.underlying25 rfl sz_25)) (Nb rfl) ?_
  refine KK rfl (KX (KU (first:=[_]) rfl en_152 rfl (Nb rfl) (fun w hw=>c_F_Add V hok f bd _ _ w (hw _ (by repeat (first|exact Mh _|apply Mt)))) ?_))
  refine KK rfl (KO rfl rfl sz_25 (by repeat (first|exact Kg _|exact Kr _ _ _|exact Kh _|exact Kl _ _ _|exact Kq _ _ _|exact KV|refine KR rfl ?_|refine KT ?_ ?_)) (by repeat (first|exact Sh _|apply St_)) (by first|exact KF _|exact KJ _ _ _|exact KI _|exact KS _ _ _|exact KZ _ _ _|rfl|simp [KJ,KF,KI]) ?_)
  refine KG ?_
  refine KD ?_
  refine Ka [11] (by kernel_rfl) ?_
  refine KC 0 rfl (by kernel_rfl) (Nb rfl) (KE rfl) ?_
  refine KC 1 rfl (by kernel_rfl) (Nb rfl) (KE rfl) ?_
  refine KC 2 rfl (by kernel_rfl) (Nb rfl) (KW rfl) ?_
  refine KC 3 rfl (by kernel_rfl) (Nb rfl) (KN (o':=0) Try.underlying147 rfl rfl rfl sz_62 (by decide)) ?_
  refine KC 4 rfl (by kernel_rfl) (Nb rfl) (KN (o':=10) Try.underlying62 rfl rfl rfl sz_25 (by decide)) ?_
  refine LAny.take 5 rfl (by kernel_rfl) (Nb rfl) (Det.cast (KM rfl (by repeat (first|exact Mh _|apply Mt)) (by exact cvC_ld_a _ _ _ _ _ _ _ _ _ _ _ _ _ _ _ _)) (a_val hok)) ?_
  refine KC 6 rfl (by kernel_rfl) (Nb rfl) (KE rfl) ?_
  refine LAny.take 7 rfl (by kernel_rfl) (Nb rfl) (KM rfl (by repeat (first|exact Mh _|apply Mt)) (by exact KL Try.underlying25 rfl sz_25)) ?_
  refine LAny.take 8 rfl (by kernel_rfl) (Nb rfl) (KM rfl (by repeat (first|exact Mh _|apply Mt)) (by exact KL Try.underlying25 rfl sz_25)) ?_
  refine Kt 9 rfl rfl (by kernel_rfl) (KU (first:=[_]) rfl en_161 rfl (Nb rfl) (fun w hw=>c_F_Sub V hok f bd _ _ w (hw _ (by repeat (first|exact Mh _|apply Mt)))) ?_)
  refine Kt 10 rfl rfl (by kernel_rfl) (KU (first:=[_]) rfl en_156 rfl (Nb rfl) (fun w hw=>c_F_Mul V hok f bd _ _ w (hw _ (by repeat (first|exact Mh _|apply Mt))) (hw _ (by repeat (first|exact Mh _|apply Mt)))) ?_)
  refine Kn 11 rfl rfl (by kernel_rfl) (by kernel_rfl) (KO rfl rfl sz_25 (by repeat (first|exact Kg _|exact Kr _ _ _|exact Kh _|exact Kl _ _ _|exact Kq _ _ _|exact KV|refine KR rfl ?_|refine KT ?_ ?_)) (by repeat (first|exact Sh _|apply St_)) (by first|exact KF _|exact KJ _ _ _|exact KI _|exact KS _ _ _|exact KZ _ _ _|rfl|simp [KJ,KF,KI]) ?_)
  refine Ko (by kernel_rfl) ?_
  refine KD (KB ?_)
  refine KA (KE rfl) (Nb rfl) ?_
  refine LOps.det (KM rfl (by repeat (first|exact Mh _|apply Mt)) (by exact KL Try.underlying25 rfl sz_25)) (Nb rfl) ?_
  refine LOps.det (KM rfl (by repeat (first|exact Mh _|apply Mt)) (by exact KL Try.underlying25 rfl sz_25)) (Nb rfl) ?_
  refine KK rfl (KX (KU (first:=[_]) rfl en_152 rfl (Nb rfl) (fun w hw=>c_F_Add V hok f bd _ _ w (hw _ (by repeat (first|exact Mh _|apply Mt)))) ?_))
  refine KK rfl (KO rfl rfl sz_25 (by repeat (first|exact Kg _|exact Kr _ _ _|exact Kh _|exact Kl _ _ _|exact Kq _ _ _|exact KV|refine KR rfl ?_|refine KT ?_ ?_)) (by repeat (first|exact Sh _|apply St_)) (by first|exact KF _|exact KJ _ _ _|exact KI _|exact KS _ _ _|exact KZ _ _ _|rfl|simp [KJ,KF,KI]) ?_)
  refine KG ?_
  refine KD ?_
  refine Ka [7] (by kernel_rfl) ?_
  refine KC 0 rfl (by kernel_rfl) (Nb rfl) (KE rfl) ?_
  refine LAny.take 1 rfl (by kernel_rfl) (Nb rfl) (KM rfl (by repeat (first|exact Mh _|apply Mt)) (by exact KL Try.underlying25 rfl sz_25)) ?_
  refine KC 2 rfl (by kernel_rfl) (Nb rfl) (KE rfl) ?_
  refine LAny.take 3 rfl (by kernel_rfl) (Nb rfl) (KM rfl (by repeat (first|exact Mh _|apply Mt)) (by exact KL Try.underlying25 rfl sz_25)) ?_
  refine LAny.take 4 rfl (by kernel_rfl) (Nb rfl) (KM rfl (by repeat (first|exact Mh _|apply Mt)) (by exact KL Try.underlying25 rfl sz_25)) ?_
  refine Kt 5 rfl rfl (by kernel_rfl) (KU (first:=[_]) rfl en_156 rfl (Nb rfl) (fun w hw=>c_F_Mul V hok f bd _ _ w (hw _ (by repeat (first|exact Mh _|apply Mt))) (hw _ (by repeat (first|exact Mh _|apply Mt)))) ?_)
  refine Kt 6 rfl rfl (by kernel_rfl) (KU (first:=[_]) rfl en_152 rfl (Nb rfl) (fun w hw=>c_F_Add V hok f bd _ _ w (hw _ (by repeat (first|exact Mh _|apply Mt)))) ?_)
  refine Kn 7 rfl rfl (by kernel_rfl) (by kernel_rfl) (KO rfl rfl sz_25 (by repeat (first|exact Kg _|exact Kr _ _ _|exact Kh _|exact Kl _ _ _|exact Kq _ _ _|exact KV|refine KR rfl ?_|refine KT ?_ ?_)) (by repeat (first|exact Sh _|apply St_)) (by first|exact KF _|exact KJ _ _ _|exact KI _|exact KS _ _ _|exact KZ _ _ _|rfl|simp [KJ,KF,KI]) ?_)
  refine Ko (by kernel_rfl) ?_
  refine KD ?_
  refine Ka [10] (by kernel_rfl) ?_
  refine KC 0 rfl (by kernel_rfl) (Nb rfl) (KE rfl) ?_
  refine KC 1 rfl (by kernel_rfl) (Nb rfl) (KE rfl) ?_
  refine LAny.take 2 rfl (by kernel_rfl) (Nb rfl) (KM rfl (by repeat (first|exact Mh _|apply Mt)) (by exact KL Try.underlying25 rfl sz_25)) ?_
  refine LAny.take 3 rfl (by kernel_rfl) (Nb rfl) (KM rfl (by repeat (first|exact Mh _|apply Mt)) (by exact KL Try.underlying25 rfl sz_25)) ?_
  refine KC 5 rfl (by kernel_rfl) (Nb rfl) (KE rfl) ?_
  refine LAny.take 6 rfl (by kernel_rfl) (Nb rfl) (KM rfl (by repeat (first|exact Mh _|apply Mt)) (by exact KL Try.underlying25 rfl sz_25)) ?_
  refine LAny.take 7 rfl (by kernel_rfl) (Nb rfl) (KM rfl (by repeat (first|exact Mh _|apply Mt)) (by exact KL Try.underlying25 rfl sz_25)) ?_
  refine Kt 4 rfl rfl (by kernel_rfl) (KU (first:=[_]) rfl en_156 rfl (Nb rfl) (fun w hw=>c_F_Mul V hok f bd _ _ w (hw _ (by repeat (first|exact Mh _|apply Mt))) (hw _ (by repeat (first|exact Mh _|apply Mt)))) ?_)
  refine Kt 8 rfl rfl (by kernel_rfl) (KU (first:=[_]) rfl en_156 rfl (Nb rfl) (fun w hw=>c_F_Mul V hok f bd _ _ w (hw _ (by repeat (first|exact Mh _|apply Mt))) (hw _ (by repeat (first|exact Mh _|apply Mt)))) ?_)
  refine Kt 9 rfl rfl (by kernel_rfl) (KU (first:=[_]) rfl en_161 rfl (Nb rfl) (fun w hw=>c_F_Sub V hok f bd _ _ w (hw _ (by repeat (first|exact Mh _|apply Mt)))) ?_)
  refine Kn 10 rfl rfl (by kernel_rfl) (by kernel_rfl) (KO rfl rfl sz_25 (by repeat (first|exact Kg _|exact Kr _ _ _|exact Kh _|exact Kl _ _ _|exact Kq _ _ _|exact KV|refine KR rfl ?_|refine KT ?_ ?_)) (by repeat (first|exact Sh _|apply St_)) (by first|exact KF _|exact KJ _ _ _|exact KI _|exact KS _ _ _|exact KZ _ _ _|rfl|simp [KJ,KF,KI]) ?_)
  refine Ko (by kernel_rfl) ?_
  refine KD ?_
  refine Ka [10] (by kernel_rfl) ?_
  refine KC 0 rfl (by kernel_rfl) (Nb rfl) (KE rfl) ?_
  refine KC 1 rfl (by kernel_rfl) (Nb rfl) (KE rfl) ?_
  refine LAny.take 2 rfl (by kernel_rfl) (Nb rfl) (KM rfl (by repeat (first|exact Mh _|apply Mt)) (by exact KL Try.underlying25 rfl sz_25)) ?_
  refine LAny.take 3 rfl (by kernel_rfl) (Nb rfl) (KM rfl (by repeat (first|exact Mh _|apply Mt)) (by exact KL Try.underlying25 rfl sz_25)) ?_
  refine KC 5 rfl (by kernel_rfl) (Nb rfl) (KE rfl) ?_
  refine LAny.take 6 rfl (by kernel_rfl) (Nb rfl) (KM rfl (by repeat (first|exact Mh _|apply Mt)) (by exact KL Try.underlying25 rfl sz_25)) ?_
  refine LAny.take 7 rfl (by kernel_rfl) (Nb rfl) (KM rfl (by repeat (first|exact Mh _|apply Mt)) (by exact KL Try.underlying25 rfl sz_25)) ?_
  refine Kt 4 rfl rfl (by kernel_rfl) (KU (first:=[_]) rfl en_156 rfl (Nb rfl) (fun w hw=>c_F_Mul V hok f bd _ _ w (hw _ (by repeat (first|exact Mh _|apply Mt))) (hw _ (by repeat (first|exact Mh _|apply Mt)))) ?_)
  refine Kt 8 rfl rfl (by kernel_rfl) (KU (first:=[_]) rfl en_156 rfl (Nb rfl) (fun w hw=>c_F_Mul V hok f bd _ _ w (hw _ (by repeat (first|exact Mh _|apply Mt))) (hw _ (by repeat (first|exact Mh _|apply Mt)))) ?_)
  refine Kt 9 rfl rfl (by kernel_rfl) (KU (first:=[_]) rfl en_152 rfl (Nb rfl) (fun w hw=>c_F_Add V hok f bd _ _ w (hw _ (by repeat (first|exact Mh _|apply Mt)))) ?_)
  refine Kn 10 rfl rfl (by kernel_rfl) (by kernel_rfl) (KO rfl rfl sz_25 (by repeat (first|exact Kg _|exact Kr _ _ _|exact Kh _|exact Kl _ _ _|exact Kq _ _ _|exact KV|refine KR rfl ?_|refine KT ?_ ?_)) (by repeat (first|exact Sh _|apply St_)) (by first|exact KF _|exact KJ _ _ _|exact KI _|exact KS _ _ _|exact KZ _ _ _|rfl|simp [KJ,KF,KI]) ?_)
  refine Ko (by kernel_rfl) ?_
  refine KD (KB ?_)
  refine LOps.det (KM rfl (by repeat (first|exact Mh _|apply Mt)) (by exact KL Try.underlying25 rfl sz_25)) (Nb rfl) ?_
  refine LOps.det (KM rfl (by repeat (first|exact Mh _|apply Mt)) (by exact KL Try.underlying25 rfl sz_25)) (Nb rfl) ?_
  refine LOps.det (KM rfl (by repeat (first|exact Mh _|apply Mt)) (by exact KL Try.underlying25 rfl sz_25)) (Nb rfl) ?_
  refine KA (Kb (KAP pl_91 zr_91 rfl (fill_pj _ _ _)) rfl) (Nb rfl) ?_
  refine KK rfl (KO rfl rfl sz_91 (by repeat (first|exact Kg _|exact Kr _ _ _|exact Kh _|exact Kl _ _ _|exact Kq _ _ _|exact KV|refine KR rfl ?_|refine KT ?_ ?_)) (by repeat (first|exact Sh _|apply St_)) (by first|exact KF _|exact KJ _ _ _|exact KI _|exact KS _ _ _|exact KZ _ _ _|rfl|simp [KJ,KF,KI]) ?_)
  refine KG (KY ?_)
  refine ⟨[_],.cons ⟨_,_,_,rfl,(by repeat (first|exact Mh _|apply Mt)),by exact KL Try.underlying91 rfl sz_91⟩ .nil,fun a w' hr=>⟨?_,hr.fr.below⟩⟩
  rfl
end Go.Proofs.Ytljblbgogjieaaa
set_option linter.unusedVariables false
set_option linter.unusedSimpArgs false
set_option maxRecDepth 20000
namespace Go.Proofs.Ytljblbgogjieaaa
open Go Go.RowKit
open Grp
theorem pm_top (V:Cv) (P:Pt V.p) (K:Nat):pmul V.A P (K/2^blen K) = .inf:=by rw [Nat.div_eq_of_lt (lt_blen K)]; rfl
theorem pm_T {V:Cv} (hok:V.Ok) {P:Pt V.p} (hP:On V.A V.B P) {K y:Nat} (h:K/2^y%2 = 1):padd V.A (padd V.A (pmul V.A P (K/2^(y+1))) (pmul V.A P (K/2^(y+1)))) P = pmul V.A P (K/2^y):=by
  have:=pmul_bit hok.crv hP K y
  rwa [if_pos h] at this
theorem pm_F {V:Cv} (hok:V.Ok) {P:Pt V.p} (hP:On V.A V.B P) {K y:Nat} (h:¬ K/2^y%2 = 1):padd V.A (pmul V.A P (K/2^(y+1))) (pmul V.A P (K/2^(y+1))) = pmul V.A P (K/2^y):=by
  have:=pmul_bit hok.crv hP K y
  rwa [if_neg h] at this
def sumT (V:Cv) (T U:Fin V.p×Fin V.p×Fin V.p):Fin V.p×Fin V.p×Fin V.p:=sum3 V.A (V.B+V.B+V.B) T.1 T.2.1 T.2.2 U.1 U.2.1 U.2.2
structure RepT (V:Cv) (T:Fin V.p×Fin V.p×Fin V.p) (P:Pt V.p):Prop where
  rep:Rep T.1 T.2.1 T.2.2 P
  on:On V.A V.B P
theorem RepT.sum {V:Cv} (hok:V.Ok) {T U:Fin V.p×Fin V.p×Fin V.p} {P R:Pt V.p} (h:RepT V T P) (k:RepT V U R):RepT V (sumT V T U) (padd V.A P R):=⟨hok.rep_sum h.rep k.rep h.on k.on,hok.sum h.on k.on⟩
theorem RepT.trip {V:Cv} (hok:V.Ok) {P:Pt V.p} (hP:On V.A V.B P):RepT V (tripF P) P:=⟨hok.rep_trip P,hP⟩
theorem c_SumT (V:Cv) (b f bd:Nat) (hok:V.Ok) (T U:Fin V.p×Fin V.p×Fin V.p) (w:World) (hb:(Item.blk b ⟨false,opL V f,147,(0,0)⟩).holds w) (hf:(Item.blk f ⟨false,fldL V.p bd,194,(0,0)⟩).holds w) (hbd:(Item.blk bd ⟨false,dvL V.p,241,(0,0)⟩).holds w):Calls Try.prog 128 ([.pointer (some ⟨b,0,none⟩),pjF T,pjF U]:List Value).toArray w (fun e w'=>e = .returned (pjF (sumT V T U))∧Below w.heap.size w w') :=
  c_Sum V b f bd hok T.1 T.2.1 T.2.2 U.1 U.2.1 U.2.2 w hb hf hbd
theorem c_PlainT (V:Cv) (b f bd:Nat) (hok:V.Ok) (T:Fin V.p×Fin V.p×Fin V.p) (P:Pt V.p) (w:World) (hb:(Item.blk b ⟨false,opL V f,147,(0,0)⟩).holds w) (hf:(Item.blk f ⟨false,fldL V.p bd,194,(0,0)⟩).holds w) (hbd:(Item.blk bd ⟨false,dvL V.p,241,(0,0)⟩).holds w) (h:RepT V T P):Calls Try.prog 127 ([.pointer (some ⟨b,0,none⟩),pjF T]:List Value).toArray w (fun e w'=>e = .returned (ptP P)∧Below w.heap.size w w'):=by
  have:=c_Plain V b f bd hok T.1 T.2.1 T.2.2 w hb hf hbd
  rwa [Rep.plain hok.prime h.rep] at this
theorem c_cTimes (V:Cv) (b f bd:Nat) (hok:V.Ok) (K:Nat) (hK:K<W9) (T:Fin V.p×Fin V.p×Fin V.p) (P:Pt V.p) (w:World) (hb:(Item.blk b ⟨false,opL V f,147,(0,0)⟩).holds w) (hf:(Item.blk f ⟨false,fldL V.p bd,194,(0,0)⟩).holds w) (hbd:(Item.blk bd ⟨false,dvL V.p,241,(0,0)⟩).holds w) (hrep:RepT V T P):Calls Try.prog 134 ([.pointer (some ⟨b,0,none⟩),natV K,pjF T]:List Value).toArray w (fun e w'=>∃ v,(∃ U,RepT V U (pmul V.A P K)∧v = pjF U)∧e = .returned v∧Below w.heap.size w w'):=by
  have hbl:=blen_w9 hK
  refine Kw (N:=30) (rs:=[.cell 6 91]) [.blk b ⟨false,opL V f,147,(0,0)⟩,.blk f ⟨false,fldL V.p bd,194,(0,0)⟩,.blk bd ⟨false,dvL V.p,241,(0,0)⟩] Try.func134 rfl Try.ntmps134 Try.results134 (Nb rfl) ⟨hb,hf,hbd,trivial⟩ rfl ?_
  show LCode _ _ _ ⟨_,_⟩ _
  refine KD (KB ?_)
  refine KK rfl (KX (KQ (Ks rfl) (Nb rfl) (fun b4=>?_)))
  refine KK rfl (KX (KQ (Ks rfl) (Nb rfl) (fun b5=>?_)))
  refine KK rfl (KX (KQ (Kd zr_91) (Nb rfl) (fun b6=>?_)))
  refine KG ?_
  refine KD (KB ?_)
  refine KK rfl (KX (KU (first:=[]) rfl en_158 rfl (Nb rfl) (fun w hw=>c_NoneF hok w) ?_))
  refine KK rfl (KX (KQ (Kd zr_91) (Nb rfl) (fun b7=>?_)))
  refine KK rfl (KO rfl rfl sz_91 (by exact Kq _ _ _) (by repeat (first|exact Sh _|apply St_)) (by exact KZ _ _ _) ?_)
  refine KG ?_
  refine KD ?_
  refine KD (KB ?_)
  refine LOps.det (KM rfl (by repeat (first|exact Mh _|apply Mt)) (by exact KL Try.underlying25 rfl sz_25)) (Nb rfl) ?_
  refine KK rfl (KX (KU (first:=[]) rfl en_151 rfl (Nb rfl) (fun w hw=>c_nat_Bits K hK w) ?_))
  refine KA (KP (v:=.int .i64 (((blen K:Nat):Int)-1)) rfl rfl (br_subI (by omega) (by omega))) (Nb rfl) ?_
  refine KA (KH rfl) (Nb rfl) ?_
  refine KG ?_
  refine LCode.block ?_
  refine KAQ (α:=Nat×(Fin V.p×Fin V.p×Fin V.p)) (fun x=>x.1≤blen K∧RepT V x.2 (pmul V.A P (K/2^x.1))) (fun x=>⟨[(0,.pointer (some ⟨b,0,none⟩)),(4,.pointer (some ⟨b4,0,none⟩)),(5,.pointer (some ⟨b5,0,none⟩)),(6,.pointer (some ⟨b6,0,none⟩)),(7,.pointer (some ⟨b7,0,none⟩)),(8,.int .i64 (((x.1:Nat):Int)-1))],[.blk b7 ⟨true,pjFL x.2,91,(0,0)⟩,.blk b6 ⟨true,(vec .u64 9 (fun _=>0)++(vec .u64 9 (fun _=>0)++vec .u64 9 (fun _=>0))),91,(0,0)⟩,.blk b5 ⟨true,pjFL T,91,(0,0)⟩,.blk b4 ⟨true,natL K,25,(0,0)⟩,.blk b ⟨false,opL V f,147,(0,0)⟩,.blk f ⟨false,fldL V.p bd,194,(0,0)⟩,.blk bd ⟨false,dvL V.p,241,(0,0)⟩]⟩) (fun x=>x.1) ((blen K,tripF (.inf:Pt V.p))) (⟨Nat.le_refl _,by dsimp only; rw [pm_top]; exact RepT.trip hok trivial⟩) (KAF ⟨rfl,rfl,rfl,rfl,rfl,rfl,trivial⟩ (by repeat (first|exact Sel.nil _|refine Sel.cons (by repeat (first|exact Ph _|apply Pt_)) ?_))) ?_
  rintro x ⟨hx1,hx2⟩
  refine KD ?_
  refine KD ?_
  rcases Nat.eq_zero_or_pos x.1 with h0|h0
  ·
    refine KB ?_
    refine KA (KE rfl) (Nb rfl) ?_
    refine KA (KP (v:=.bool false) rfl rfl (by rw [h0]; rfl)) (Nb rfl) ?_
    refine KG ?_
    refine Kp rfl ?_
    refine KAI ?_
    refine KD ?_
    have eR:pmul V.A P (K/2^x.1) = pmul V.A P K:=by rw [h0,Nat.pow_zero,Nat.div_one]
    rw [eR] at hx2
    refine KB ?_
    refine LOps.det (KM rfl (by repeat (first|exact Mh _|apply Mt)) (by exact KL Try.underlying91 rfl sz_91)) (Nb rfl) ?_
    refine KK rfl (KO rfl rfl sz_91 (by exact Kq _ _ _) (by repeat (first|exact Sh _|apply St_)) (by exact KZ _ _ _) ?_)
    refine KG (KY ?_)
    refine ⟨[_],.cons ⟨_,_,_,rfl,(by repeat (first|exact Mh _|apply Mt)),by exact KL Try.underlying91 rfl (by have:=sz_91; exact this)⟩ .nil,fun a w' hr=>⟨_,⟨x.2,hx2,rfl⟩,rfl,hr.fr.below⟩⟩
  ·
    obtain ⟨y,hy⟩:∃ y,x.1 = y+1:=⟨x.1-1,by omega⟩
    rw [hy] at hx2
    refine KB ?_
    refine KA (KE rfl) (Nb rfl) ?_
    refine KA (KP (v:=.bool true) rfl rfl (by rw [hy]; simp [KAR] <;> omega)) (Nb rfl) ?_
    refine KG ?_
    refine Kx rfl ?_
    refine Km ?_
    refine KD ?_
    refine LCode.block ?_
    refine KD (KB ?_)
    refine KA (KE rfl) (Nb rfl) ?_
    refine LOps.det (KM rfl (by repeat (first|exact Mh _|apply Mt)) (by exact KL Try.underlying91 rfl sz_91)) (Nb rfl) ?_
    refine LOps.det (KM rfl (by repeat (first|exact Mh _|apply Mt)) (by exact KL Try.underlying91 rfl sz_91)) (Nb rfl) ?_
    refine KK rfl (KX (KU (first:=[]) rfl en_128 rfl (Nb rfl) (fun w hw=>c_SumT V b f bd hok (x.2) (x.2) w (hw _ (by repeat (first|exact Mh _|apply Mt))) (hw _ (by repeat (first|exact Mh _|apply Mt))) (hw _ (by repeat (first|exact Mh _|apply Mt)))) ?_))
    refine KK rfl (KO rfl rfl sz_91 (by exact Kq _ _ _) (by repeat (first|exact Sh _|apply St_)) (by exact KZ _ _ _) ?_)
    refine KG ?_
    refine KD (KB ?_)
    refine LOps.det (KM rfl (by repeat (first|exact Mh _|apply Mt)) (by exact KL Try.underlying25 rfl sz_25)) (Nb rfl) ?_
    refine KA (KE (v:=.int .i64 ((y:Nat):Int)) (by show some _ = some _; congr 2; omega)) (Nb rfl) ?_
    refine KK rfl (KX (KU (first:=[]) rfl en_139 rfl (Nb rfl) (fun w hw=>c_nat_Bit K y hK (by omega) w) ?_))
    refine KA (KP rfl rfl (br_eql (b:=1))) (Nb rfl) ?_
    refine KG ?_
    first|refine Kf rfl (fun hbit=>?_) (fun hbit=>?_)|refine Ki rfl (fun hbit=>?_) (fun hbit=>?_)
    ·
      have hbit:K/2^y%2 = 1:=hbit
      refine KB ?_
      refine KA (KE rfl) (Nb rfl) ?_
      refine LOps.det (KM rfl (by repeat (first|exact Mh _|apply Mt)) (by exact KL Try.underlying91 rfl sz_91)) (Nb rfl) ?_
      refine LOps.det (KM rfl (by repeat (first|exact Mh _|apply Mt)) (by exact KL Try.underlying91 rfl sz_91)) (Nb rfl) ?_
      refine KK rfl (KX (KU (first:=[]) rfl en_128 rfl (Nb rfl) (fun w hw=>c_SumT V b f bd hok (sumT V x.2 x.2) (T) w (hw _ (by repeat (first|exact Mh _|apply Mt))) (hw _ (by repeat (first|exact Mh _|apply Mt))) (hw _ (by repeat (first|exact Mh _|apply Mt)))) ?_))
      refine KK rfl (KO rfl rfl sz_91 (by exact Kq _ _ _) (by repeat (first|exact Sh _|apply St_)) (by exact KZ _ _ _) ?_)
      refine KG ?_
      refine KB ?_
      refine KA (KE (v:=.int .i64 ((y:Nat):Int)) (by show some _ = some _; congr 2; omega)) (Nb rfl) ?_
      refine KA (KP (v:=.int .i64 (((y:Nat):Int)-1)) rfl rfl (br_subI (by omega) (by omega))) (Nb rfl) ?_
      refine KA (KH rfl) (Nb rfl) ?_
      refine KG ?_
      exact ⟨(y,sumT V (sumT V x.2 x.2) T),⟨by dsimp only; omega,by have:=RepT.sum hok (RepT.sum hok hx2 hx2) hrep; rw [pm_T hok hrep.on hbit] at this; exact this⟩,by dsimp only; omega,KAF ⟨rfl,rfl,rfl,rfl,rfl,rfl,trivial⟩ (by repeat (first|exact Sel.nil _|refine Sel.cons (by repeat (first|exact Ph _|apply Pt_)) ?_))⟩
    ·
      have hbit:¬ K/2^y%2 = 1:=hbit
      refine Km ?_
      refine KB ?_
      refine KA (KE (v:=.int .i64 ((y:Nat):Int)) (by show some _ = some _; congr 2; omega)) (Nb rfl) ?_
      refine KA (KP (v:=.int .i64 (((y:Nat):Int)-1)) rfl rfl (br_subI (by omega) (by omega))) (Nb rfl) ?_
      refine KA (KH rfl) (Nb rfl) ?_
      refine KG ?_
      exact ⟨(y,sumT V x.2 x.2),⟨by dsimp only; omega,by have:=RepT.sum hok hx2 hx2; rw [pm_F hok hrep.on hbit] at this; exact this⟩,by dsimp only; omega,KAF ⟨rfl,rfl,rfl,rfl,rfl,rfl,trivial⟩ (by repeat (first|exact Sel.nil _|refine Sel.cons (by repeat (first|exact Ph _|apply Pt_)) ?_))⟩
end Go.Proofs.Ytljblbgogjieaaa
set_option linter.unusedVariables false
set_option linter.unusedSimpArgs false
set_option maxRecDepth 20000
namespace Go.Proofs.Ytljblbgogjieaaa
open Go Go.RowKit
def uidx (x:Int):Nat:=(x%18446744073709551616).toNat
theorem uidx_eq (x:Int):Value.int .u64 (IntKind.u64.wrap x) = Value.int .u64 ((uidx x:Nat):Int):=by
  unfold uidx
  rw [wrap_u64,Int.toNat_of_nonneg (Int.emod_nonneg _ (by decide))]
theorem cvI_id {id:Int} {V:Cv} (h:cvI id = some V):cvI ((V.id:Nat):Int) = some V:=by rw [(cvI_ok h).2]; exact h
end Go.Proofs.Ytljblbgogjieaaa
set_option linter.unusedVariables false
set_option linter.unusedSimpArgs false
set_option maxRecDepth 20000
namespace Go.Proofs.Ytljblbgogjieaaa
open Go Go.RowKit
open Grp
theorem c_curveOnB (id:Int) (V:Cv) (X Y:Nat) (i r:Bool) (w:World) (h:cvI id = some V) (hX:X<W9) (hY:Y<W9) (hr:onB V.p V.a V.b X Y i = r):Calls Try.prog 61 ([.int .i64 id,ptV X Y i]:List Value).toArray w (fun e w'=>e = .returned (.bool r)∧Below w.heap.size w w'):=by
  have:=c_curveOn id V X Y i w h hX hY
  rwa [hr] at this
theorem Brings.own {w w':World} {H:List Item} {b:Nat} {cs:List Value} {e:TypeId} (hb:Below w.heap.size w w') (h:(Item.blk b ⟨true,cs,e,(0,0)⟩).holds w') (hn:w.heap.size≤b):Brings w H [.blk b ⟨true,cs,e,(0,0)⟩] w' :=
  ⟨hb,(by intro x hx; simp at hx; subst hx; exact h),(by intro x hx k hk; simp at hx; subst hx; simp [Item.fp] at hk; subst hk; exact .inl hn),(by intro x hx _ k hk; simp at hx; subst hx; simp [Item.fp] at hk; subst hk; exact hn),List.pairwise_singleton _ _⟩
end Go.Proofs.Ytljblbgogjieaaa
set_option linter.unusedVariables false
set_option linter.unusedSimpArgs false
set_option maxRecDepth 20000
namespace Go.Proofs.Ytljblbgogjieaaa
open Go Go.RowKit
open Grp
theorem xG {V:Cv} (hok:V.Ok):xv V.G = V.x:=val_c hok.bounds.2.2.2.2.1
theorem yG {V:Cv} (hok:V.Ok):yv V.G = V.y:=val_c hok.bounds.2.2.2.2.2.1
end Go.Proofs.Ytljblbgogjieaaa
set_option linter.unusedVariables false
set_option linter.unusedSimpArgs false
set_option maxRecDepth 20000
namespace Go.Proofs.Ytljblbgogjieaaa
open Go Go.RowKit
open Grp
theorem g_val {V:Cv} (hok:V.Ok):Value.agg (ptL V.x V.y false).toArray = ptP V.G:=by
  unfold ptP ptV
  rw [xG hok,yG hok]
  rfl
theorem c_cOnB (V:Cv) (b f bd:Nat) (hok:V.Ok) (X Y:Nat) (i r:Bool) (w:World) (hb:(Item.blk b ⟨false,opL V f,147,(0,0)⟩).holds w) (hf:(Item.blk f ⟨false,fldL V.p bd,194,(0,0)⟩).holds w) (hbd:(Item.blk bd ⟨false,dvL V.p,241,(0,0)⟩).holds w) (hX:X<W9) (hY:Y<W9) (hr:onB V.p V.a V.b X Y i = r):Calls Try.prog 122 ([.pointer (some ⟨b,0,none⟩),ptV X Y i]:List Value).toArray w (fun e w'=>e = .returned (.bool r)∧Below w.heap.size w w'):=by
  have:=c_cOn V b f bd hok X Y i w hb hf hbd hX hY
  rwa [hr] at this
theorem c_cOnP (V:Cv) (b f bd:Nat) (hok:V.Ok) (P:Pt V.p) (w:World) (hb:(Item.blk b ⟨false,opL V f,147,(0,0)⟩).holds w) (hf:(Item.blk f ⟨false,fldL V.p bd,194,(0,0)⟩).holds w) (hbd:(Item.blk bd ⟨false,dvL V.p,241,(0,0)⟩).holds w) (hP:On V.A V.B P):Calls Try.prog 122 ([.pointer (some ⟨b,0,none⟩),ptP P]:List Value).toArray w (fun e w'=>e = .returned (.bool true)∧Below w.heap.size w w') :=
  c_cOnB V b f bd hok (xv P) (yv P) (iv P) true w hb hf hbd (pt_w9 hok P).1 (pt_w9 hok P).2 (onB_on hP)
end Go.Proofs.Ytljblbgogjieaaa
set_option linter.unusedVariables false
set_option linter.unusedSimpArgs false
set_option maxRecDepth 20000
namespace Go.Proofs.Ytljblbgogjieaaa
open Go Go.RowKit
open Grp
section
variable {P:Program} {C:Ctx} {d:Nat} {ty:TypeId} {pos:String} {aft:Array Edge} {K:St→Prop} {x:Operand} {v:Value}
theorem LStep.callK {T : List (Nat × Value)} {H : List Item} {f : FuncId} {xs : List Operand} {vs caps : List Value} {ats : Array TypeId} {g : Option (Nat × Bool)} (hf : evT T x = some (.func (.func f) #[] caps.toArray)) (he : KAL P f) (ha : evL T xs = some vs) (hd : d < C.N)
    (hc:∀ w,(∀ x,x∈H→x.holds w)→Calls P f (vs++caps).toArray w (fun e w'=>e = .returned v∧Below w.heap.size w w'))
    (h:K ⟨(d,v) :: T,H⟩):LStep P C ⟨some d,.call { callee:=.value x,args:=xs.toArray,argTypes:=ats },ty,pos,aft,g⟩ ⟨T,H⟩ K:=by
  unfold LStep; intro a w hr Qr
  obtain ⟨fn,h1,h2,h3⟩:=he
  refine wp_callee (vs:=vs++caps) ?_ (hc w hr.hp) ?_
  · have:=hr.evs ha
    simp [execOp,resolve,hr.ev hf,Deferred.ofValue,invoke,run_call h1 h2 h3,this]
  · rintro e w' ⟨rfl,hb⟩
    exact ⟨v,rfl,hb,_,h,(hr.below hb).put hd v⟩
end
theorem c_slope (V:Cv) (b f bd:Nat) (hok:V.Ok) (l x1 y1 x2 y2:Fin V.p) (i j:Bool) (w:World) (hb:(Item.blk b ⟨false,opL V f,147,(0,0)⟩).holds w) (hf:(Item.blk f ⟨false,fldL V.p bd,194,(0,0)⟩).holds w) (hbd:(Item.blk bd ⟨false,dvL V.p,241,(0,0)⟩).holds w):Calls Try.prog 162 ([.agg ([.pointer (some ⟨b,0,none⟩)]:List Value).toArray,natV l.val,ptV x1.val y1.val i,ptV x2.val y2.val j]:List Value).toArray w (fun e w'=>e = .returned (ptV (l*l-x1-x2).val (l*(x1-(l*l-x1-x2))-y1).val false)∧Below w.heap.size w w'):=by
  have hbb:=hok.bounds
  have hpW:V.p<W9:=w9_521 hbb.2.1
  refine Kw (N:=42) (rs:=[.cell 8 60]) [.blk b ⟨false,opL V f,147,(0,0)⟩,.blk f ⟨false,fldL V.p bd,194,(0,0)⟩,.blk bd ⟨false,dvL V.p,241,(0,0)⟩] Try.func162 rfl Try.ntmps162 Try.results162 (Nb rfl) ⟨hb,hf,hbd,trivial⟩ rfl ?_
  show LCode _ _ _ ⟨_,_⟩ _
  refine KD (KB ?_)
  refine KK rfl (KX (KQ (Ks rfl) (Nb rfl) (fun b4=>?_)))
  refine KK rfl (KX (KQ (Ks rfl) (Nb rfl) (fun b5=>?_)))
  refine KK rfl (KX (KQ (Ks rfl) (Nb rfl) (fun b6=>?_)))
  refine KK rfl (KX (KQ (Ks rfl) (Nb rfl) (fun b7=>?_)))
  refine KK rfl (KX (KQ (Kd zr_60) (Nb rfl) (fun b8=>?_)))
  refine KG ?_
  refine KD (KB ?_)
  refine KA (KN (o':=0) Try.underlying169 rfl rfl rfl sz_142 (by decide)) (Nb rfl) ?_
  refine LOps.det (KM rfl (by repeat (first|exact Mh _|apply Mt)) (Kc Try.underlying142 rfl (by first|rfl|exact KAG _ _ _ (by omega)|exact KAD _ (by omega)|exact KAK _ (by omega)|exact dv_m _ _ _ (by omega)))) (Nb rfl) ?_
  refine KA (KW rfl) (Nb rfl) ?_
  refine KA (KN (o':=59) Try.underlying147 rfl rfl rfl sz_145 (by decide)) (Nb rfl) ?_
  refine LOps.det (KM rfl (by repeat (first|exact Mh _|apply Mt)) (Kc Try.underlying145 rfl (by exact cvC_gt_F _ _ _ _ _ _ _ _ _ _ _ _ _))) (Nb rfl) ?_
  refine KA (KH rfl) (Nb rfl) ?_
  refine KG ?_
  refine KD ?_
  refine Ka [13] (by kernel_rfl) ?_
  refine KC 0 rfl (by kernel_rfl) (Nb rfl) (KE rfl) ?_
  refine KC 1 rfl (by kernel_rfl) (Nb rfl) (KE rfl) ?_
  refine KC 2 rfl (by kernel_rfl) (Nb rfl) (KE rfl) ?_
  refine LAny.take 3 rfl (by kernel_rfl) (Nb rfl) (KM rfl (by repeat (first|exact Mh _|apply Mt)) (by exact KL Try.underlying25 rfl sz_25)) ?_
  refine LAny.take 4 rfl (by kernel_rfl) (Nb rfl) (KM rfl (by repeat (first|exact Mh _|apply Mt)) (by exact KL Try.underlying25 rfl sz_25)) ?_
  refine KC 6 rfl (by kernel_rfl) (Nb rfl) (KN (o':=0) Try.underlying60 rfl rfl rfl sz_25 (by decide)) ?_
  refine LAny.take 7 rfl (by kernel_rfl) (Nb rfl) (KM rfl (by repeat (first|exact Mh _|apply Mt)) (by exact KAB Try.underlying25 rfl sz_25 rfl (KF _))) ?_
  refine KC 9 rfl (by kernel_rfl) (Nb rfl) (KN (o':=0) Try.underlying60 rfl rfl rfl sz_25 (by decide)) ?_
  refine LAny.take 10 rfl (by kernel_rfl) (Nb rfl) (KM rfl (by repeat (first|exact Mh _|apply Mt)) (by exact KAB Try.underlying25 rfl sz_25 rfl (KF _))) ?_
  refine LAny.toP ?_
  refine KAU 12 rfl (.inl zr_25) (Nb rfl) rfl rfl rfl ?_
  refine Ky 5 rfl rfl rfl (Nb rfl) (by kernel_rfl) rfl (KAA (first:=[]) rfl en_156 rfl (fun w hw=>c_F_Mul V hok f bd _ _ w (hw _ (by repeat (first|exact Mh _|apply Mt))) (hw _ (by repeat (first|exact Mh _|apply Mt))))) ?_
  rintro _ _ ⟨rfl,rfl⟩
  refine Ky 8 rfl rfl rfl (Nb rfl) (by kernel_rfl) rfl (KAA (first:=[]) rfl en_161 rfl (fun w hw=>c_F_Sub V hok f bd _ _ w (hw _ (by repeat (first|exact Mh _|apply Mt))))) ?_
  rintro _ _ ⟨rfl,rfl⟩
  refine Ky 11 rfl rfl rfl (Nb rfl) (by kernel_rfl) rfl (KAA (first:=[]) rfl en_161 rfl (fun w hw=>c_F_Sub V hok f bd _ _ w (hw _ (by repeat (first|exact Mh _|apply Mt))))) ?_
  rintro _ _ ⟨rfl,rfl⟩
  refine KAb (by kernel_rfl) (fun b10=>?_)
  refine KAa ?_
  refine Kn 13 rfl rfl (by kernel_rfl) (by kernel_rfl) (KO rfl rfl sz_25 (by repeat (first|exact Kg _|exact Kr _ _ _|exact Kh _|exact Kl _ _ _|exact Kq _ _ _|exact KV|refine KR rfl ?_|refine KT ?_ ?_)) (by repeat (first|exact Sh _|apply St_)) (by first|exact KF _|exact KJ _ _ _|exact KI _|exact KS _ _ _|exact KZ _ _ _|rfl|simp [KJ,KF,KI]) ?_)
  refine Ko (by kernel_rfl) ?_
  refine KD ?_
  refine Ka [14] (by kernel_rfl) ?_
  refine LAny.take 0 rfl (by kernel_rfl) (Nb rfl) (KM rfl (by repeat (first|exact Mh _|apply Mt)) (by exact KL Try.underlying25 rfl sz_25)) ?_
  refine KC 1 rfl (by kernel_rfl) (Nb rfl) (KE rfl) ?_
  refine KC 2 rfl (by kernel_rfl) (Nb rfl) (KE rfl) ?_
  refine LAny.take 3 rfl (by kernel_rfl) (Nb rfl) (KM rfl (by repeat (first|exact Mh _|apply Mt)) (by exact KL Try.underlying25 rfl sz_25)) ?_
  refine KC 4 rfl (by kernel_rfl) (Nb rfl) (KE rfl) ?_
  refine KC 5 rfl (by kernel_rfl) (Nb rfl) (KN (o':=0) Try.underlying60 rfl rfl rfl sz_25 (by decide)) ?_
  refine LAny.take 6 rfl (by kernel_rfl) (Nb rfl) (KM rfl (by repeat (first|exact Mh _|apply Mt)) (by exact KAB Try.underlying25 rfl sz_25 rfl (KF _))) ?_
  refine LAny.take 7 rfl (by kernel_rfl) (Nb rfl) (KM rfl (by repeat (first|exact Mh _|apply Mt)) (by exact KL Try.underlying25 rfl sz_25)) ?_
  refine KC 10 rfl (by kernel_rfl) (Nb rfl) (KN (o':=9) Try.underlying60 rfl rfl rfl sz_25 (by decide)) ?_
  refine LAny.take 11 rfl (by kernel_rfl) (Nb rfl) (KM rfl (by repeat (first|exact Mh _|apply Mt)) (by exact pt_ld1 _ _ _ _ _ _)) ?_
  refine Kt 8 rfl rfl (by kernel_rfl) (KU (first:=[]) rfl en_161 rfl (Nb rfl) (fun w hw=>c_F_Sub V hok f bd _ _ w (hw _ (by repeat (first|exact Mh _|apply Mt)))) ?_)
  refine Kt 9 rfl rfl (by kernel_rfl) (KU (first:=[]) rfl en_156 rfl (Nb rfl) (fun w hw=>c_F_Mul V hok f bd _ _ w (hw _ (by repeat (first|exact Mh _|apply Mt))) (hw _ (by repeat (first|exact Mh _|apply Mt)))) ?_)
  refine Kt 12 rfl rfl (by kernel_rfl) (KU (first:=[]) rfl en_161 rfl (Nb rfl) (fun w hw=>c_F_Sub V hok f bd _ _ w (hw _ (by repeat (first|exact Mh _|apply Mt)))) ?_)
  refine KC 13 rfl (by kernel_rfl) (Nb rfl) (Kb (KAP pl_60 zr_60 rfl (fill_pt _ _)) rfl) ?_
  refine Kn 14 rfl rfl (by kernel_rfl) (by kernel_rfl) (KO rfl rfl sz_60 (by repeat (first|exact Kg _|exact Kr _ _ _|exact Kh _|exact Kl _ _ _|exact Kq _ _ _|exact KV|refine KR rfl ?_|refine KT ?_ ?_)) (by repeat (first|exact Sh _|apply St_)) (by first|exact KF _|exact KJ _ _ _|exact KI _|exact KS _ _ _|exact KZ _ _ _|rfl|simp [KJ,KF,KI]) ?_)
  refine Ko (by kernel_rfl) ?_
  refine KY ?_
  refine ⟨[_],.cons ⟨_,_,_,rfl,(by repeat (first|exact Mh _|apply Mt)),by exact KL Try.underlying60 rfl sz_60⟩ .nil,fun a w' hr=>⟨?_,hr.fr.below⟩⟩
  rfl
theorem c_gadd (V:Cv) (b f bd:Nat) (hok:V.Ok) (P P2 R:Pt V.p) (w:World) (hb:(Item.blk b ⟨false,opL V f,147,(0,0)⟩).holds w) (hf:(Item.blk f ⟨false,fldL V.p bd,194,(0,0)⟩).holds w) (hbd:(Item.blk bd ⟨false,dvL V.p,241,(0,0)⟩).holds w) (hP:On V.A V.B P) (hP2:On V.A V.B P2) (hR:padd V.A P P2 = R):Calls Try.prog 131 ([.agg ([.pointer (some ⟨b,0,none⟩)]:List Value).toArray,ptP P,ptP P2]:List Value).toArray w (fun e w'=>e = .returned (ptP R)∧Below w.heap.size w w'):=by
  have hbb:=hok.bounds
  have hpW:V.p<W9:=w9_521 hbb.2.1
  refine Kw (N:=96) (rs:=[.cell 6 60]) [.blk b ⟨false,opL V f,147,(0,0)⟩,.blk f ⟨false,fldL V.p bd,194,(0,0)⟩,.blk bd ⟨false,dvL V.p,241,(0,0)⟩] Try.func131 rfl Try.ntmps131 Try.results131 (Nb rfl) ⟨hb,hf,hbd,trivial⟩ rfl ?_
  show LCode _ _ _ ⟨_,_⟩ _
  refine KD (KB ?_)
  refine KK rfl (KX (KQ (Ks rfl) (Nb rfl) (fun b3=>?_)))
  refine KK rfl (KX (KQ (Ks rfl) (Nb rfl) (fun b4=>?_)))
  refine KK rfl (KX (KQ (Ks rfl) (Nb rfl) (fun b5=>?_)))
  refine KK rfl (KX (KQ (Kd zr_60) (Nb rfl) (fun b6=>?_)))
  refine KG ?_
  refine KD ?_
  rcases P with _|⟨x1,y1⟩
  ·
    have eR:=(hok.inf_add hP2).symm.trans hR
    subst eR
    refine KB ?_
    refine KA (KN (o':=0) Try.underlying169 rfl rfl rfl sz_142 (by decide)) (Nb rfl) ?_
    refine LOps.det (KM rfl (by repeat (first|exact Mh _|apply Mt)) (Kc Try.underlying142 rfl (by first|rfl|exact KAG _ _ _ (by omega)|exact KAD _ (by omega)|exact KAK _ (by omega)|exact dv_m _ _ _ (by omega)))) (Nb rfl) ?_
    refine KA (KW rfl) (Nb rfl) ?_
    refine KA (KN (o':=59) Try.underlying147 rfl rfl rfl sz_145 (by decide)) (Nb rfl) ?_
    refine LOps.det (KM rfl (by repeat (first|exact Mh _|apply Mt)) (Kc Try.underlying145 rfl (by exact cvC_gt_F _ _ _ _ _ _ _ _ _ _ _ _ _))) (Nb rfl) ?_
    refine KA (KH rfl) (Nb rfl) ?_
    refine KG ?_
    refine KD ?_
    refine LCode.block ?_
    refine KD (KB ?_)
    refine KA (KN (o':=18) Try.underlying60 rfl rfl rfl sz_4 (by decide)) (Nb rfl) ?_
    refine LOps.det (KM rfl (by repeat (first|exact Mh _|apply Mt)) (Kc Try.underlying4 rfl (by exact pt_gt _ _ _))) (Nb rfl) ?_
    refine KA (KH rfl) (Nb rfl) ?_
    refine KG ?_
    refine Kx rfl ?_
    refine KD (KB ?_)
    refine LOps.det (KM rfl (by repeat (first|exact Mh _|apply Mt)) (by exact KL Try.underlying60 rfl sz_60)) (Nb rfl) ?_
    refine KK rfl (KO rfl rfl sz_60 (by repeat (first|exact Kg _|exact Kr _ _ _|exact Kh _|exact Kl _ _ _|exact Kq _ _ _|exact KV|refine KR rfl ?_|refine KT ?_ ?_)) (by repeat (first|exact Sh _|apply St_)) (by first|exact KF _|exact KJ _ _ _|exact KI _|exact KS _ _ _|exact KZ _ _ _|rfl|simp [KJ,KF,KI]) ?_)
    refine KG (KY ?_)
    refine ⟨[_],.cons ⟨_,_,_,rfl,(by repeat (first|exact Mh _|apply Mt)),by exact KL Try.underlying60 rfl sz_60⟩ .nil,fun a w' hr=>⟨?_,hr.fr.below⟩⟩
    rfl
  ·
    refine KB ?_
    refine KA (KN (o':=0) Try.underlying169 rfl rfl rfl sz_142 (by decide)) (Nb rfl) ?_
    refine LOps.det (KM rfl (by repeat (first|exact Mh _|apply Mt)) (Kc Try.underlying142 rfl (by first|rfl|exact KAG _ _ _ (by omega)|exact KAD _ (by omega)|exact KAK _ (by omega)|exact dv_m _ _ _ (by omega)))) (Nb rfl) ?_
    refine KA (KW rfl) (Nb rfl) ?_
    refine KA (KN (o':=59) Try.underlying147 rfl rfl rfl sz_145 (by decide)) (Nb rfl) ?_
    refine LOps.det (KM rfl (by repeat (first|exact Mh _|apply Mt)) (Kc Try.underlying145 rfl (by exact cvC_gt_F _ _ _ _ _ _ _ _ _ _ _ _ _))) (Nb rfl) ?_
    refine KA (KH rfl) (Nb rfl) ?_
    refine KG ?_
    refine KD ?_
    refine LCode.block ?_
    refine KD (KB ?_)
    refine KA (KN (o':=18) Try.underlying60 rfl rfl rfl sz_4 (by decide)) (Nb rfl) ?_
    refine LOps.det (KM rfl (by repeat (first|exact Mh _|apply Mt)) (Kc Try.underlying4 rfl (by exact pt_gt _ _ _))) (Nb rfl) ?_
    refine KA (KH rfl) (Nb rfl) ?_
    refine KG ?_
    refine Kp rfl ?_
    refine KD ?_
    rcases P2 with _|⟨x2,y2⟩
    ·
      have eR:=(hok.add_inf hP).symm.trans hR
      subst eR
      refine KB ?_
      refine KA (KN (o':=18) Try.underlying60 rfl rfl rfl sz_4 (by decide)) (Nb rfl) ?_
      refine LOps.det (KM rfl (by repeat (first|exact Mh _|apply Mt)) (Kc Try.underlying4 rfl (by exact pt_gt _ _ _))) (Nb rfl) ?_
      refine KA (KH rfl) (Nb rfl) ?_
      refine KG ?_
      refine Kx rfl ?_
      refine KD (KB ?_)
      refine LOps.det (KM rfl (by repeat (first|exact Mh _|apply Mt)) (by exact KL Try.underlying60 rfl sz_60)) (Nb rfl) ?_
      refine KK rfl (KO rfl rfl sz_60 (by repeat (first|exact Kg _|exact Kr _ _ _|exact Kh _|exact Kl _ _ _|exact Kq _ _ _|exact KV|refine KR rfl ?_|refine KT ?_ ?_)) (by repeat (first|exact Sh _|apply St_)) (by first|exact KF _|exact KJ _ _ _|exact KI _|exact KS _ _ _|exact KZ _ _ _|rfl|simp [KJ,KF,KI]) ?_)
      refine KG (KY ?_)
      refine ⟨[_],.cons ⟨_,_,_,rfl,(by repeat (first|exact Mh _|apply Mt)),by exact KL Try.underlying60 rfl sz_60⟩ .nil,fun a w' hr=>⟨?_,hr.fr.below⟩⟩
      rfl
    ·
      refine KB ?_
      refine KA (KN (o':=18) Try.underlying60 rfl rfl rfl sz_4 (by decide)) (Nb rfl) ?_
      refine LOps.det (KM rfl (by repeat (first|exact Mh _|apply Mt)) (Kc Try.underlying4 rfl (by exact pt_gt _ _ _))) (Nb rfl) ?_
      refine KA (KH rfl) (Nb rfl) ?_
      refine KG ?_
      refine Kp rfl ?_
      refine KD ?_
      by_cases hx:x1 = x2
      ·
        refine KB ?_
        refine KA (KN (o':=0) Try.underlying60 rfl rfl rfl sz_25 (by decide)) (Nb rfl) ?_
        refine LOps.det (KM rfl (by repeat (first|exact Mh _|apply Mt)) (by exact KAB Try.underlying25 rfl sz_25 rfl (KF _))) (Nb rfl) ?_
        refine KA (KN (o':=0) Try.underlying60 rfl rfl rfl sz_25 (by decide)) (Nb rfl) ?_
        refine LOps.det (KM rfl (by repeat (first|exact Mh _|apply Mt)) (by exact KAB Try.underlying25 rfl sz_25 rfl (KF _))) (Nb rfl) ?_
        refine KA (Kb (Det.nea (by kernel_rfl) (fun w=>eq_nat x1.val x2.val (Nat.lt_trans x1.isLt hpW) (Nat.lt_trans x2.isLt hpW) 10000 (by decide) w) rfl rfl) (show _ = Value.bool false by rw [decide_eq_true (congrArg Fin.val hx)]; rfl)) (Nb rfl) ?_
        refine KA (KH rfl) (Nb rfl) ?_
        refine KG ?_
        refine Kp rfl ?_
        refine KD ?_
        by_cases hy:y1 = y2
        ·
          have hy0:¬ y1.val = 0:=y_pos hok hP
          refine KB ?_
          refine KA (KN (o':=9) Try.underlying60 rfl rfl rfl sz_25 (by decide)) (Nb rfl) ?_
          refine LOps.det (KM rfl (by repeat (first|exact Mh _|apply Mt)) (by exact pt_ld1 _ _ _ _ _ _)) (Nb rfl) ?_
          refine KA (KN (o':=9) Try.underlying60 rfl rfl rfl sz_25 (by decide)) (Nb rfl) ?_
          refine LOps.det (KM rfl (by repeat (first|exact Mh _|apply Mt)) (by exact pt_ld1 _ _ _ _ _ _)) (Nb rfl) ?_
          refine KA (Kb (Det.nea (by kernel_rfl) (fun w=>eq_nat y1.val y2.val (Nat.lt_trans y1.isLt hpW) (Nat.lt_trans y2.isLt hpW) 10000 (by decide) w) rfl rfl) (show _ = Value.bool false by rw [decide_eq_true (congrArg Fin.val hy)]; rfl)) (Nb rfl) ?_
          refine KA (KE rfl) (Nb rfl) ?_
          refine Ke rfl rfl (KN (o':=9) Try.underlying60 rfl rfl rfl sz_25 (by decide)) (Nb rfl) ?_
          refine KAZ rfl rfl (KM rfl (by repeat (first|exact Mh _|apply Mt)) (by exact pt_ld1 _ _ _ _ _ _)) (Nb rfl) ?_
          refine Ke rfl rfl (Kb (KAP pl_25 zr_25 rfl rfl) (show _ = natV 0 by unfold natV natL; rw [← vec_zeros 9])) (Nb rfl) ?_
          refine Ke rfl rfl (Kb (Det.eqa (by kernel_rfl) (fun w=>eq_nat y1.val 0 (Nat.lt_trans y1.isLt hpW) zero_w9 10000 (by decide) w) rfl rfl) (show _ = Value.bool false by rw [decide_eq_false hy0])) (Nb rfl) ?_
          refine KA (Kz rfl rfl) (Nb rfl) ?_
          refine KA (KH rfl) (Nb rfl) ?_
          refine KG ?_
          refine Kp rfl ?_
          refine Km ?_
          refine KD ?_
          subst hx hy
          have eR:=(add_tangF hok.prime hok.fld hP (fin_ne0 hy0)).symm.trans hR
          subst eR
          refine KB ?_
          refine KA (KE rfl) (Nb rfl) ?_
          refine KA (KN (o':=0) Try.underlying60 rfl rfl rfl sz_25 (by decide)) (Nb rfl) ?_
          refine LOps.det (KM rfl (by repeat (first|exact Mh _|apply Mt)) (by exact KAB Try.underlying25 rfl sz_25 rfl (KF _))) (Nb rfl) ?_
          refine KA (KN (o':=0) Try.underlying60 rfl rfl rfl sz_25 (by decide)) (Nb rfl) ?_
          refine LOps.det (KM rfl (by repeat (first|exact Mh _|apply Mt)) (by exact KAB Try.underlying25 rfl sz_25 rfl (KF _))) (Nb rfl) ?_
          refine KK rfl (KX (KU (first:=[]) rfl en_156 rfl (Nb rfl) (fun w hw=>c_F_Mul V hok f bd _ _ w (hw _ (by repeat (first|exact Mh _|apply Mt))) (hw _ (by repeat (first|exact Mh _|apply Mt)))) ?_))
          refine KK rfl (KX (KQ (Kd zr_25) (Nb rfl) (fun b8=>?_)))
          refine KK rfl (KO rfl rfl sz_25 (by repeat (first|exact Kg _|exact Kr _ _ _|exact Kh _|exact Kl _ _ _|exact Kq _ _ _|exact KV|refine KR rfl ?_|refine KT ?_ ?_)) (by repeat (first|exact Sh _|apply St_)) (by first|exact KF _|exact KJ _ _ _|exact KI _|exact KS _ _ _|exact KZ _ _ _|rfl|simp [KJ,KF,KI]) ?_)
          refine KG ?_
          refine KD ?_
          refine Ka [29] (by kernel_rfl) ?_
          refine LAny.take 0 rfl (by kernel_rfl) (Nb rfl) (KM rfl (by repeat (first|exact Mh _|apply Mt)) (by exact KL Try.underlying169 rfl sz_169)) ?_
          refine KC 1 rfl (by kernel_rfl) (Nb rfl) (KE rfl) ?_
          refine KC 2 rfl (by kernel_rfl) (Nb rfl) (KE rfl) ?_
          refine KC 3 rfl (by kernel_rfl) (Nb rfl) (KE rfl) ?_
          refine KC 4 rfl (by kernel_rfl) (Nb rfl) (KE rfl) ?_
          refine LAny.take 5 rfl (by kernel_rfl) (Nb rfl) (KM rfl (by repeat (first|exact Mh _|apply Mt)) (by exact KL Try.underlying25 rfl sz_25)) ?_
          refine LAny.take 6 rfl (by kernel_rfl) (Nb rfl) (KM rfl (by repeat (first|exact Mh _|apply Mt)) (by exact KL Try.underlying25 rfl sz_25)) ?_
          refine LAny.take 8 rfl (by kernel_rfl) (Nb rfl) (KM rfl (by repeat (first|exact Mh _|apply Mt)) (by exact KL Try.underlying25 rfl sz_25)) ?_
          refine KC 10 rfl (by kernel_rfl) (Nb rfl) (KN (o':=0) Try.underlying169 rfl rfl rfl sz_142 (by decide)) ?_
          refine LAny.take 11 rfl (by kernel_rfl) (Nb rfl) (KM rfl (by repeat (first|exact Mh _|apply Mt)) (Kc Try.underlying142 rfl (by first|rfl|exact KAG _ _ _ (by omega)|exact KAD _ (by omega)|exact KAK _ (by omega)|exact dv_m _ _ _ (by omega)))) ?_
          refine KC 12 rfl (by kernel_rfl) (Nb rfl) (KW rfl) ?_
          refine KC 13 rfl (by kernel_rfl) (Nb rfl) (KN (o':=0) Try.underlying147 rfl rfl rfl sz_62 (by decide)) ?_
          refine KC 14 rfl (by kernel_rfl) (Nb rfl) (KN (o':=10) Try.underlying62 rfl rfl rfl sz_25 (by decide)) ?_
          refine LAny.take 15 rfl (by kernel_rfl) (Nb rfl) (Det.cast (KM rfl (by repeat (first|exact Mh _|apply Mt)) (by exact cvC_ld_a _ _ _ _ _ _ _ _ _ _ _ _ _ _ _ _)) (a_val hok)) ?_
          refine KC 17 rfl (by kernel_rfl) (Nb rfl) (KE rfl) ?_
          refine KC 18 rfl (by kernel_rfl) (Nb rfl) (KE rfl) ?_
          refine KC 19 rfl (by kernel_rfl) (Nb rfl) (KN (o':=9) Try.underlying60 rfl rfl rfl sz_25 (by decide)) ?_
          refine LAny.take 20 rfl (by kernel_rfl) (Nb rfl) (KM rfl (by repeat (first|exact Mh _|apply Mt)) (by exact pt_ld1 _ _ _ _ _ _)) ?_
          refine KC 21 rfl (by kernel_rfl) (Nb rfl) (KN (o':=9) Try.underlying60 rfl rfl rfl sz_25 (by decide)) ?_
          refine LAny.take 22 rfl (by kernel_rfl) (Nb rfl) (KM rfl (by repeat (first|exact Mh _|apply Mt)) (by exact pt_ld1 _ _ _ _ _ _)) ?_
          refine LAny.take 26 rfl (by kernel_rfl) (Nb rfl) (KM rfl (by repeat (first|exact Mh _|apply Mt)) (by exact KL Try.underlying60 rfl sz_60)) ?_
          refine LAny.take 27 rfl (by kernel_rfl) (Nb rfl) (KM rfl (by repeat (first|exact Mh _|apply Mt)) (by exact KL Try.underlying60 rfl sz_60)) ?_
          refine Kt 7 rfl rfl (by kernel_rfl) (KU (first:=[]) rfl en_152 rfl (Nb rfl) (fun w hw=>c_F_Add V hok f bd _ _ w (hw _ (by repeat (first|exact Mh _|apply Mt)))) ?_)
          refine Kt 9 rfl rfl (by kernel_rfl) (KU (first:=[]) rfl en_152 rfl (Nb rfl) (fun w hw=>c_F_Add V hok f bd _ _ w (hw _ (by repeat (first|exact Mh _|apply Mt)))) ?_)
          refine Kt 16 rfl rfl (by kernel_rfl) (KU (first:=[]) rfl en_152 rfl (Nb rfl) (fun w hw=>c_F_Add V hok f bd _ _ w (hw _ (by repeat (first|exact Mh _|apply Mt)))) ?_)
          refine Kt 23 rfl rfl (by kernel_rfl) (KU (first:=[]) rfl en_152 rfl (Nb rfl) (fun w hw=>c_F_Add V hok f bd _ _ w (hw _ (by repeat (first|exact Mh _|apply Mt)))) ?_)
          refine Kt 24 rfl rfl (by kernel_rfl) (KU (first:=[]) rfl en_160 rfl (Nb rfl) (fun w hw=>c_F_Inv V hok f bd _ w (hw _ (by repeat (first|exact Mh _|apply Mt)))) ?_)
          refine Kt 25 rfl rfl (by kernel_rfl) (KU (first:=[]) rfl en_156 rfl (Nb rfl) (fun w hw=>c_F_Mul V hok f bd _ _ w (hw _ (by repeat (first|exact Mh _|apply Mt))) (hw _ (by repeat (first|exact Mh _|apply Mt)))) ?_)
          refine Kt 28 rfl rfl (by kernel_rfl) (KU (first:=[]) rfl en_162 rfl (Nb rfl) (fun w hw=>c_slope V b f bd hok ((x1*x1+x1*x1+x1*x1+V.A)*finv (y1+y1)) x1 y1 x1 y1 false false w (hw _ (by repeat (first|exact Mh _|apply Mt))) (hw _ (by repeat (first|exact Mh _|apply Mt))) (hw _ (by repeat (first|exact Mh _|apply Mt)))) ?_)
          refine Kn 29 rfl rfl (by kernel_rfl) (by kernel_rfl) (KO rfl rfl sz_60 (by repeat (first|exact Kg _|exact Kr _ _ _|exact Kh _|exact Kl _ _ _|exact Kq _ _ _|exact KV|refine KR rfl ?_|refine KT ?_ ?_)) (by repeat (first|exact Sh _|apply St_)) (by first|exact KF _|exact KJ _ _ _|exact KI _|exact KS _ _ _|exact KZ _ _ _|rfl|simp [KJ,KF,KI]) ?_)
          refine Ko (by kernel_rfl) ?_
          refine KY ?_
          refine ⟨[_],.cons ⟨_,_,_,rfl,(by repeat (first|exact Mh _|apply Mt)),by exact KL Try.underlying60 rfl sz_60⟩ .nil,fun a w' hr=>⟨?_,hr.fr.below⟩⟩
          rfl
        ·
          have eR:=(add_opp hok.fld hP hP2 hx hy).symm.trans hR
          subst eR
          refine KB ?_
          refine KA (KN (o':=9) Try.underlying60 rfl rfl rfl sz_25 (by decide)) (Nb rfl) ?_
          refine LOps.det (KM rfl (by repeat (first|exact Mh _|apply Mt)) (by exact pt_ld1 _ _ _ _ _ _)) (Nb rfl) ?_
          refine KA (KN (o':=9) Try.underlying60 rfl rfl rfl sz_25 (by decide)) (Nb rfl) ?_
          refine LOps.det (KM rfl (by repeat (first|exact Mh _|apply Mt)) (by exact pt_ld1 _ _ _ _ _ _)) (Nb rfl) ?_
          refine KA (Kb (Det.nea (by kernel_rfl) (fun w=>eq_nat y1.val y2.val (Nat.lt_trans y1.isLt hpW) (Nat.lt_trans y2.isLt hpW) 10000 (by decide) w) rfl rfl) (show _ = Value.bool true by rw [decide_eq_false (fun e=>hy (Fin.ext e))]; rfl)) (Nb rfl) ?_
          refine KA (KE rfl) (Nb rfl) ?_
          refine Ku rfl rfl rfl (Nb rfl) ?_
          refine Ku rfl rfl rfl (Nb rfl) ?_
          refine Ku rfl rfl rfl (Nb rfl) ?_
          refine Ku rfl rfl rfl (Nb rfl) ?_
          refine KA (KAE rfl rfl) (Nb rfl) ?_
          refine KA (KH rfl) (Nb rfl) ?_
          refine KG ?_
          refine Kx rfl ?_
          refine KD (KB ?_)
          refine KA (Kb (KAP pl_60 zr_60 rfl fill_ptInf) rfl) (Nb rfl) ?_
          refine KK rfl (KO rfl rfl sz_60 (by repeat (first|exact Kg _|exact Kr _ _ _|exact Kh _|exact Kl _ _ _|exact Kq _ _ _|exact KV|refine KR rfl ?_|refine KT ?_ ?_)) (by repeat (first|exact Sh _|apply St_)) (by first|exact KF _|exact KJ _ _ _|exact KI _|exact KS _ _ _|exact KZ _ _ _|rfl|simp [KJ,KF,KI]) ?_)
          refine KG (KY ?_)
          refine ⟨[_],.cons ⟨_,_,_,rfl,(by repeat (first|exact Mh _|apply Mt)),by exact KL Try.underlying60 rfl sz_60⟩ .nil,fun a w' hr=>⟨?_,hr.fr.below⟩⟩
          rfl
      ·
        refine KB ?_
        refine KA (KN (o':=0) Try.underlying60 rfl rfl rfl sz_25 (by decide)) (Nb rfl) ?_
        refine LOps.det (KM rfl (by repeat (first|exact Mh _|apply Mt)) (by exact KAB Try.underlying25 rfl sz_25 rfl (KF _))) (Nb rfl) ?_
        refine KA (KN (o':=0) Try.underlying60 rfl rfl rfl sz_25 (by decide)) (Nb rfl) ?_
        refine LOps.det (KM rfl (by repeat (first|exact Mh _|apply Mt)) (by exact KAB Try.underlying25 rfl sz_25 rfl (KF _))) (Nb rfl) ?_
        refine KA (Kb (Det.nea (by kernel_rfl) (fun w=>eq_nat x1.val x2.val (Nat.lt_trans x1.isLt hpW) (Nat.lt_trans x2.isLt hpW) 10000 (by decide) w) rfl rfl) (show _ = Value.bool true by rw [decide_eq_false (fun e=>hx (Fin.ext e))]; rfl)) (Nb rfl) ?_
        refine KA (KH rfl) (Nb rfl) ?_
        refine KG ?_
        refine Kx rfl ?_
        refine KD ?_
        have eR:=(add_chordF hok.prime hok.fld hP hP2 hx).symm.trans hR
        subst eR
        refine Ka [20] (by kernel_rfl) ?_
        refine LAny.take 0 rfl (by kernel_rfl) (Nb rfl) (KM rfl (by repeat (first|exact Mh _|apply Mt)) (by exact KL Try.underlying169 rfl sz_169)) ?_
        refine KC 1 rfl (by kernel_rfl) (Nb rfl) (KE rfl) ?_
        refine KC 2 rfl (by kernel_rfl) (Nb rfl) (KE rfl) ?_
        refine KC 3 rfl (by kernel_rfl) (Nb rfl) (KN (o':=9) Try.underlying60 rfl rfl rfl sz_25 (by decide)) ?_
        refine LAny.take 4 rfl (by kernel_rfl) (Nb rfl) (KM rfl (by repeat (first|exact Mh _|apply Mt)) (by exact pt_ld1 _ _ _ _ _ _)) ?_
        refine KC 5 rfl (by kernel_rfl) (Nb rfl) (KN (o':=9) Try.underlying60 rfl rfl rfl sz_25 (by decide)) ?_
        refine LAny.take 6 rfl (by kernel_rfl) (Nb rfl) (KM rfl (by repeat (first|exact Mh _|apply Mt)) (by exact pt_ld1 _ _ _ _ _ _)) ?_
        refine KC 8 rfl (by kernel_rfl) (Nb rfl) (KE rfl) ?_
        refine KC 9 rfl (by kernel_rfl) (Nb rfl) (KE rfl) ?_
        refine KC 10 rfl (by kernel_rfl) (Nb rfl) (KN (o':=0) Try.underlying60 rfl rfl rfl sz_25 (by decide)) ?_
        refine LAny.take 11 rfl (by kernel_rfl) (Nb rfl) (KM rfl (by repeat (first|exact Mh _|apply Mt)) (by exact KAB Try.underlying25 rfl sz_25 rfl (KF _))) ?_
        refine KC 12 rfl (by kernel_rfl) (Nb rfl) (KN (o':=0) Try.underlying60 rfl rfl rfl sz_25 (by decide)) ?_
        refine LAny.take 13 rfl (by kernel_rfl) (Nb rfl) (KM rfl (by repeat (first|exact Mh _|apply Mt)) (by exact KAB Try.underlying25 rfl sz_25 rfl (KF _))) ?_
        refine LAny.take 17 rfl (by kernel_rfl) (Nb rfl) (KM rfl (by repeat (first|exact Mh _|apply Mt)) (by exact KL Try.underlying60 rfl sz_60)) ?_
        refine LAny.take 18 rfl (by kernel_rfl) (Nb rfl) (KM rfl (by repeat (first|exact Mh _|apply Mt)) (by exact KL Try.underlying60 rfl sz_60)) ?_
        refine Kt 7 rfl rfl (by kernel_rfl) (KU (first:=[]) rfl en_161 rfl (Nb rfl) (fun w hw=>c_F_Sub V hok f bd _ _ w (hw _ (by repeat (first|exact Mh _|apply Mt)))) ?_)
        refine Kt 14 rfl rfl (by kernel_rfl) (KU (first:=[]) rfl en_161 rfl (Nb rfl) (fun w hw=>c_F_Sub V hok f bd _ _ w (hw _ (by repeat (first|exact Mh _|apply Mt)))) ?_)
        refine Kt 15 rfl rfl (by kernel_rfl) (KU (first:=[]) rfl en_160 rfl (Nb rfl) (fun w hw=>c_F_Inv V hok f bd _ w (hw _ (by repeat (first|exact Mh _|apply Mt)))) ?_)
        refine Kt 16 rfl rfl (by kernel_rfl) (KU (first:=[]) rfl en_156 rfl (Nb rfl) (fun w hw=>c_F_Mul V hok f bd _ _ w (hw _ (by repeat (first|exact Mh _|apply Mt))) (hw _ (by repeat (first|exact Mh _|apply Mt)))) ?_)
        refine Kt 19 rfl rfl (by kernel_rfl) (KU (first:=[]) rfl en_162 rfl (Nb rfl) (fun w hw=>c_slope V b f bd hok ((y2-y1)*finv (x2-x1)) x1 y1 x2 y2 false false w (hw _ (by repeat (first|exact Mh _|apply Mt))) (hw _ (by repeat (first|exact Mh _|apply Mt))) (hw _ (by repeat (first|exact Mh _|apply Mt)))) ?_)
        refine Kn 20 rfl rfl (by kernel_rfl) (by kernel_rfl) (KO rfl rfl sz_60 (by repeat (first|exact Kg _|exact Kr _ _ _|exact Kh _|exact Kl _ _ _|exact Kq _ _ _|exact KV|refine KR rfl ?_|refine KT ?_ ?_)) (by repeat (first|exact Sh _|apply St_)) (by first|exact KF _|exact KJ _ _ _|exact KI _|exact KS _ _ _|exact KZ _ _ _|rfl|simp [KJ,KF,KI]) ?_)
        refine Ko (by kernel_rfl) ?_
        refine KY ?_
        refine ⟨[_],.cons ⟨_,_,_,rfl,(by repeat (first|exact Mh _|apply Mt)),by exact KL Try.underlying60 rfl sz_60⟩ .nil,fun a w' hr=>⟨?_,hr.fr.below⟩⟩
        rfl
theorem c_gmul (V:Cv) (b f bd:Nat) (hok:V.Ok) (K bk:Nat) (hK:K<W9) (P:Pt V.p) (X Y:Nat) (i:Bool) (w:World) (hb:(Item.blk b ⟨false,opL V f,147,(0,0)⟩).holds w) (hf:(Item.blk f ⟨false,fldL V.p bd,194,(0,0)⟩).holds w) (hbd:(Item.blk bd ⟨false,dvL V.p,241,(0,0)⟩).holds w) (hP:On V.A V.B P) (hk:(Item.blk bk ⟨false,natL K,25,(0,0)⟩).holds w):Calls Try.prog 133 ([.agg ([.pointer (some ⟨b,0,none⟩)]:List Value).toArray,ptP P,ptV X Y i,.pointer (some ⟨bk,0,none⟩)]:List Value).toArray w (fun e w'=>e = .returned (ptP (pmul V.A P K))∧Below w.heap.size w w'):=by
  have hbb:=hok.bounds
  have hpW:V.p<W9:=w9_521 hbb.2.1
  refine Kw (N:=17) (rs:=[.cell 7 60]) [.blk b ⟨false,opL V f,147,(0,0)⟩,.blk f ⟨false,fldL V.p bd,194,(0,0)⟩,.blk bd ⟨false,dvL V.p,241,(0,0)⟩,.blk bk ⟨false,natL K,25,(0,0)⟩] Try.func133 rfl Try.ntmps133 Try.results133 (Nb rfl) ⟨hb,hf,hbd,hk,trivial⟩ rfl ?_
  show LCode _ _ _ ⟨_,_⟩ _
  refine KD (KB ?_)
  refine KK rfl (KX (KQ (Ks rfl) (Nb rfl) (fun b4=>?_)))
  refine KK rfl (KX (KQ (Ks rfl) (Nb rfl) (fun b5=>?_)))
  refine KK rfl (KX (KQ (Ks rfl) (Nb rfl) (fun b6=>?_)))
  refine KK rfl (KX (KQ (Kd zr_60) (Nb rfl) (fun b7=>?_)))
  refine KG ?_
  refine KD ?_
  refine Ka [9] (by kernel_rfl) ?_
  refine KC 0 rfl (by kernel_rfl) (Nb rfl) (KN (o':=0) Try.underlying169 rfl rfl rfl sz_142 (by decide)) ?_
  refine LAny.take 1 rfl (by kernel_rfl) (Nb rfl) (KM rfl (by repeat (first|exact Mh _|apply Mt)) (Kc Try.underlying142 rfl (by first|rfl|exact KAG _ _ _ (by omega)|exact KAD _ (by omega)|exact KAK _ (by omega)|exact dv_m _ _ _ (by omega)))) ?_
  refine KC 2 rfl (by kernel_rfl) (Nb rfl) (KN (o':=0) Try.underlying169 rfl rfl rfl sz_142 (by decide)) ?_
  refine LAny.take 3 rfl (by kernel_rfl) (Nb rfl) (KM rfl (by repeat (first|exact Mh _|apply Mt)) (Kc Try.underlying142 rfl (by first|rfl|exact KAG _ _ _ (by omega)|exact KAD _ (by omega)|exact KAK _ (by omega)|exact dv_m _ _ _ (by omega)))) ?_
  refine LAny.take 4 rfl (by kernel_rfl) (Nb rfl) (KM rfl (by repeat (first|exact Mh _|apply Mt)) (by exact KL Try.underlying25 rfl sz_25)) ?_
  refine LAny.take 5 rfl (by kernel_rfl) (Nb rfl) (KM rfl (by repeat (first|exact Mh _|apply Mt)) (by exact KL Try.underlying60 rfl sz_60)) ?_
  refine Kt 6 rfl rfl (by kernel_rfl) (KU (first:=[]) rfl en_129 rfl (Nb rfl) (fun w hw=>c_Triple V hok P w) ?_)
  refine Kt 7 rfl rfl (by kernel_rfl) (LStep.callV (first:=[]) rfl en_134 rfl (Nb rfl) (fun w hw=>c_cTimes V b f bd hok K hK _ P w (hw _ (by repeat (first|exact Mh _|apply Mt))) (hw _ (by repeat (first|exact Mh _|apply Mt))) (hw _ (by repeat (first|exact Mh _|apply Mt))) (RepT.trip hok hP)) ?_)
  rintro _ ⟨U,hU,rfl⟩
  refine Kt 8 rfl rfl (by kernel_rfl) (KU (first:=[]) rfl en_127 rfl (Nb rfl) (fun w hw=>c_PlainT V b f bd hok (U) (pmul V.A P K) w (hw _ (by repeat (first|exact Mh _|apply Mt))) (hw _ (by repeat (first|exact Mh _|apply Mt))) (hw _ (by repeat (first|exact Mh _|apply Mt))) (hU)) ?_)
  refine Kn 9 rfl rfl (by kernel_rfl) (by kernel_rfl) (KO rfl rfl sz_60 (by repeat (first|exact Kg _|exact Kr _ _ _|exact Kh _|exact Kl _ _ _|exact Kq _ _ _|exact KV|refine KR rfl ?_|refine KT ?_ ?_)) (by repeat (first|exact Sh _|apply St_)) (by first|exact KF _|exact KJ _ _ _|exact KI _|exact KS _ _ _|exact KZ _ _ _|rfl|simp [KJ,KF,KI]) ?_)
  refine Ko (by kernel_rfl) ?_
  refine KY ?_
  refine ⟨[_],.cons ⟨_,_,_,rfl,(by repeat (first|exact Mh _|apply Mt)),by exact KL Try.underlying60 rfl sz_60⟩ .nil,fun a w' hr=>⟨?_,hr.fr.below⟩⟩
  rfl
theorem c_do_none (id:Int) (X Y:Nat) (i:Bool) (X2 Y2:Nat) (j:Bool) (fv:Value) (w:World) (h:cvI id = none):Calls Try.prog 130 ([.int .i64 id,ptV X Y i,ptV X2 Y2 j,fv]:List Value).toArray w (fun e w'=>e = .returned (.tuple #[ptV 0 0 false,.int .i64 ((1400:Nat):Int)])∧Below w.heap.size w w'):=by
  refine Kw (N:=35) (rs:=[.cell 8 60,.tmp 9]) [] Try.func130 rfl Try.ntmps130 Try.results130 (Nb rfl) trivial rfl ?_
  show LCode _ _ _ ⟨_,_⟩ _
  refine KD (KB ?_)
  refine KK rfl (KX (KQ (Ks rfl) (Nb rfl) (fun b5=>?_)))
  refine KK rfl (KX (KQ (Ks rfl) (Nb rfl) (fun b6=>?_)))
  refine KK rfl (KX (KQ (Kd zr_60) (Nb rfl) (fun b8=>?_)))
  refine KA (KH (v:=.int .i64 ((0:Nat):Int)) rfl) (Nb rfl) ?_
  refine KG ?_
  refine KD (KB ?_)
  refine KA (KE rfl) (Nb rfl) ?_
  refine KK rfl (KX (KU (first:=[]) rfl en_112 rfl (Nb rfl) (fun w hw=>c_Open_none id w h) ?_))
  refine KA (KH rfl) (Nb rfl) ?_
  refine KG ?_
  refine KD ?_
  refine LCode.block ?_
  refine KD (KB ?_)
  refine KA (KE rfl) (Nb rfl) ?_
  refine KA (Kb (Det.eqp Try.underlying142 rfl rfl) (show _ = Value.bool true from rfl)) (Nb rfl) ?_
  refine KA (KH rfl) (Nb rfl) ?_
  refine KG ?_
  refine Kx rfl ?_
  refine KD (KB ?_)
  refine KA (Kb (KAP pl_60 zr_60 rfl rfl) (show _ = ptV 0 0 false from pt_zero)) (Nb rfl) ?_
  refine KK rfl (KO rfl rfl sz_60 (by repeat (first|exact Kg _|exact Kr _ _ _|exact Kh _|exact Kl _ _ _|exact Kq _ _ _|exact KV|refine KR rfl ?_|refine KT ?_ ?_)) (by repeat (first|exact Sh _|apply St_)) (by first|exact KF _|exact KJ _ _ _|exact KI _|exact KS _ _ _|exact KZ _ _ _|rfl|simp [KJ,KF,KI]) ?_)
  refine KA (KH (v:=.int .i64 ((1400:Nat):Int)) rfl) (Nb rfl) ?_
  refine KG (KY ?_)
  refine ⟨[_,_],.cons ⟨_,_,_,rfl,(by repeat (first|exact Mh _|apply Mt)),by exact KL Try.underlying60 rfl sz_60⟩ (.cons rfl .nil),fun a w' hr=>⟨?_,hr.fr.below⟩⟩
  rfl
theorem c_do_off2 (id:Int) (V:Cv) (P:Pt V.p) (X Y:Nat) (i:Bool) (fv:Value) (w:World) (h:cvI id = some V) (hP:On V.A V.B P) (hX:X<W9) (hY:Y<W9) (ho:onB V.p V.a V.b X Y i = false):Calls Try.prog 130 ([.int .i64 id,ptP P,ptV X Y i,fv]:List Value).toArray w (fun e w'=>e = .returned (.tuple #[ptV 0 0 false,.int .i64 ((1401:Nat):Int)])∧Below w.heap.size w w'):=by
  obtain ⟨hok,hid⟩:=cvI_ok h
  have hbb:=hok.bounds
  have hpW:V.p<W9:=w9_521 hbb.2.1
  have hnW:V.n<W9:=w9_521 hbb.2.2.2.2.2.2.1
  have hbl:=blen_w9 hnW
  have hnb:nby V.n≤72:=by (unfold nby; omega)
  refine Kw (N:=35) (rs:=[.cell 8 60,.tmp 9]) [] Try.func130 rfl Try.ntmps130 Try.results130 (Nb rfl) trivial rfl ?_
  show LCode _ _ _ ⟨_,_⟩ _
  refine KD (KB ?_)
  refine KK rfl (KX (KQ (Ks rfl) (Nb rfl) (fun b5=>?_)))
  refine KK rfl (KX (KQ (Ks rfl) (Nb rfl) (fun b6=>?_)))
  refine KK rfl (KX (KQ (Kd zr_60) (Nb rfl) (fun b8=>?_)))
  refine KA (KH (v:=.int .i64 ((0:Nat):Int)) rfl) (Nb rfl) ?_
  refine KG ?_
  refine KD (KB ?_)
  refine KA (KE rfl) (Nb rfl) ?_
  refine KK rfl (KX (LStep.callZ (Post:=fun v its=>∃ b f bd,v = .pointer (some ⟨b,0,none⟩)∧its = [.blk b ⟨false,opL V f,147,(0,0)⟩,.blk f ⟨false,fldL V.p bd,194,(0,0)⟩,.blk bd ⟨false,dvL V.p,241,(0,0)⟩]) (first:=[]) rfl en_112 rfl (Nb rfl) (fun w1 hw hs=>(c_Open _ V w1 h).mono fun e w' ⟨b,f,bd,h1,h2,h3,h4,h5,h6,h7,h8⟩=>⟨_,_,⟨b,f,bd,rfl,rfl⟩,h1,Brings.nums h8 (by intro x hx; simp at hx; rcases hx with rfl|rfl|rfl; exact h2; exact h3; exact h4) (by intro x hx; simp at hx; rcases hx with rfl|rfl|rfl <;> rfl) (by intro x hx k hk; simp at hx; rcases hx with rfl|rfl|rfl <;> simp [Item.fp] at hk <;> subst hk; exact .inl h5; exact .inl h6; exact .inl h7)⟩) ?_))
  rintro _ _ ⟨b,f,bd,rfl,rfl⟩
  refine KA (KH rfl) (Nb rfl) ?_
  refine KG ?_
  refine KD ?_
  refine LCode.block ?_
  refine KD (KB ?_)
  refine KA (KE rfl) (Nb rfl) ?_
  refine KA (Kb (Det.eqp Try.underlying142 rfl rfl) (show _ = Value.bool false from rfl)) (Nb rfl) ?_
  refine KA (KH rfl) (Nb rfl) ?_
  refine KG ?_
  refine Kp rfl ?_
  refine KD (KB ?_)
  refine KA (KE rfl) (Nb rfl) ?_
  refine LOps.det (KM rfl (by repeat (first|exact Mh _|apply Mt)) (by exact KL Try.underlying60 rfl sz_60)) (Nb rfl) ?_
  refine KK rfl (KX (KU (first:=[]) rfl en_122 rfl (Nb rfl) (fun w hw=>c_cOnP V b f bd hok (P) w (hw _ (by repeat (first|exact Mh _|apply Mt))) (hw _ (by repeat (first|exact Mh _|apply Mt))) (hw _ (by repeat (first|exact Mh _|apply Mt))) hP) ?_))
  refine KA (Kb (Det.not rfl) (show _ = Value.bool false from rfl)) (Nb rfl) ?_
  refine KA (KE rfl) (Nb rfl) ?_
  refine Ke rfl rfl (KE rfl) (Nb rfl) ?_
  refine KAZ rfl rfl (KM rfl (by repeat (first|exact Mh _|apply Mt)) (by exact KL Try.underlying60 rfl sz_60)) (Nb rfl) ?_
  refine LOps.stepG rfl rfl rfl (KX (KU (first:=[]) rfl en_122 rfl (Nb rfl) (fun w hw=>c_cOnB V b f bd hok (X) (Y) (i) false w (hw _ (by repeat (first|exact Mh _|apply Mt))) (hw _ (by repeat (first|exact Mh _|apply Mt))) (hw _ (by repeat (first|exact Mh _|apply Mt))) hX hY ho) ?_))
  refine Ke rfl rfl (Kb (Det.not rfl) (show _ = Value.bool true from rfl)) (Nb rfl) ?_
  refine KA (Kz rfl rfl) (Nb rfl) ?_
  refine KA (KH rfl) (Nb rfl) ?_
  refine KG ?_
  refine Kx rfl ?_
  refine KD (KB ?_)
  refine KA (Kb (KAP pl_60 zr_60 rfl rfl) (show _ = ptV 0 0 false from pt_zero)) (Nb rfl) ?_
  refine KK rfl (KO rfl rfl sz_60 (by repeat (first|exact Kg _|exact Kr _ _ _|exact Kh _|exact Kl _ _ _|exact Kq _ _ _|exact KV|refine KR rfl ?_|refine KT ?_ ?_)) (by repeat (first|exact Sh _|apply St_)) (by first|exact KF _|exact KJ _ _ _|exact KI _|exact KS _ _ _|exact KZ _ _ _|rfl|simp [KJ,KF,KI]) ?_)
  refine KA (KH (v:=.int .i64 ((1401:Nat):Int)) rfl) (Nb rfl) ?_
  refine KG (KY ?_)
  refine ⟨[_,_],.cons ⟨_,_,_,rfl,(by repeat (first|exact Mh _|apply Mt)),by exact KL Try.underlying60 rfl sz_60⟩ (.cons rfl .nil),fun a w' hr=>⟨?_,hr.fr.below⟩⟩
  rfl
theorem c_do_ok (id:Int) (V:Cv) (P P2 R:Pt V.p) (fid:FuncId) (w:World) (h:cvI id = some V) (hP:On V.A V.B P) (hP2:On V.A V.B P2) (he:KAL Try.prog fid) (hc:∀ b f bd (w:World),(Item.blk b ⟨false,opL V f,147,(0,0)⟩).holds w→(Item.blk f ⟨false,fldL V.p bd,194,(0,0)⟩).holds w→(Item.blk bd ⟨false,dvL V.p,241,(0,0)⟩).holds w→Calls Try.prog fid ([.agg ([.pointer (some ⟨b,0,none⟩)]:List Value).toArray,ptP P,ptP P2]:List Value).toArray w (fun e w'=>e = .returned (ptP R)∧Below w.heap.size w w')):Calls Try.prog 130 ([.int .i64 id,ptP P,ptP P2,.func (.func fid) #[] #[]]:List Value).toArray w (fun e w'=>e = .returned (.tuple #[ptP R,.int .i64 ((0:Nat):Int)])∧Below w.heap.size w w'):=by
  obtain ⟨hok,hid⟩:=cvI_ok h
  have hbb:=hok.bounds
  have hpW:V.p<W9:=w9_521 hbb.2.1
  have hnW:V.n<W9:=w9_521 hbb.2.2.2.2.2.2.1
  have hbl:=blen_w9 hnW
  have hnb:nby V.n≤72:=by (unfold nby; omega)
  refine Kw (N:=35) (rs:=[.cell 8 60,.tmp 9]) [] Try.func130 rfl Try.ntmps130 Try.results130 (Nb rfl) trivial rfl ?_
  show LCode _ _ _ ⟨_,_⟩ _
  refine KD (KB ?_)
  refine KK rfl (KX (KQ (Ks rfl) (Nb rfl) (fun b5=>?_)))
  refine KK rfl (KX (KQ (Ks rfl) (Nb rfl) (fun b6=>?_)))
  refine KK rfl (KX (KQ (Kd zr_60) (Nb rfl) (fun b8=>?_)))
  refine KA (KH (v:=.int .i64 ((0:Nat):Int)) rfl) (Nb rfl) ?_
  refine KG ?_
  refine KD (KB ?_)
  refine KA (KE rfl) (Nb rfl) ?_
  refine KK rfl (KX (LStep.callZ (Post:=fun v its=>∃ b f bd,v = .pointer (some ⟨b,0,none⟩)∧its = [.blk b ⟨false,opL V f,147,(0,0)⟩,.blk f ⟨false,fldL V.p bd,194,(0,0)⟩,.blk bd ⟨false,dvL V.p,241,(0,0)⟩]) (first:=[]) rfl en_112 rfl (Nb rfl) (fun w1 hw hs=>(c_Open _ V w1 h).mono fun e w' ⟨b,f,bd,h1,h2,h3,h4,h5,h6,h7,h8⟩=>⟨_,_,⟨b,f,bd,rfl,rfl⟩,h1,Brings.nums h8 (by intro x hx; simp at hx; rcases hx with rfl|rfl|rfl; exact h2; exact h3; exact h4) (by intro x hx; simp at hx; rcases hx with rfl|rfl|rfl <;> rfl) (by intro x hx k hk; simp at hx; rcases hx with rfl|rfl|rfl <;> simp [Item.fp] at hk <;> subst hk; exact .inl h5; exact .inl h6; exact .inl h7)⟩) ?_))
  rintro _ _ ⟨b,f,bd,rfl,rfl⟩
  refine KA (KH rfl) (Nb rfl) ?_
  refine KG ?_
  refine KD ?_
  refine LCode.block ?_
  refine KD (KB ?_)
  refine KA (KE rfl) (Nb rfl) ?_
  refine KA (Kb (Det.eqp Try.underlying142 rfl rfl) (show _ = Value.bool false from rfl)) (Nb rfl) ?_
  refine KA (KH rfl) (Nb rfl) ?_
  refine KG ?_
  refine Kp rfl ?_
  refine KD (KB ?_)
  refine KA (KE rfl) (Nb rfl) ?_
  refine LOps.det (KM rfl (by repeat (first|exact Mh _|apply Mt)) (by exact KL Try.underlying60 rfl sz_60)) (Nb rfl) ?_
  refine KK rfl (KX (KU (first:=[]) rfl en_122 rfl (Nb rfl) (fun w hw=>c_cOnP V b f bd hok (P) w (hw _ (by repeat (first|exact Mh _|apply Mt))) (hw _ (by repeat (first|exact Mh _|apply Mt))) (hw _ (by repeat (first|exact Mh _|apply Mt))) hP) ?_))
  refine KA (Kb (Det.not rfl) (show _ = Value.bool false from rfl)) (Nb rfl) ?_
  refine KA (KE rfl) (Nb rfl) ?_
  refine Ke rfl rfl (KE rfl) (Nb rfl) ?_
  refine KAZ rfl rfl (KM rfl (by repeat (first|exact Mh _|apply Mt)) (by exact KL Try.underlying60 rfl sz_60)) (Nb rfl) ?_
  refine LOps.stepG rfl rfl rfl (KX (KU (first:=[]) rfl en_122 rfl (Nb rfl) (fun w hw=>c_cOnP V b f bd hok (P2) w (hw _ (by repeat (first|exact Mh _|apply Mt))) (hw _ (by repeat (first|exact Mh _|apply Mt))) (hw _ (by repeat (first|exact Mh _|apply Mt))) hP2) ?_))
  refine Ke rfl rfl (Kb (Det.not rfl) (show _ = Value.bool false from rfl)) (Nb rfl) ?_
  refine KA (Kz rfl rfl) (Nb rfl) ?_
  refine KA (KH rfl) (Nb rfl) ?_
  refine KG ?_
  refine Kp rfl ?_
  refine Km ?_
  refine KD (KB ?_)
  refine KA (KE rfl) (Nb rfl) ?_
  refine KA (KE rfl) (Nb rfl) ?_
  refine KA (Kb (KAP pl_169 zr_169 rfl rfl) (show _ = Value.agg ([.pointer (some ⟨b,0,none⟩)]:List Value).toArray from rfl)) (Nb rfl) ?_
  refine LOps.det (KM rfl (by repeat (first|exact Mh _|apply Mt)) (by exact KL Try.underlying60 rfl sz_60)) (Nb rfl) ?_
  refine LOps.det (KM rfl (by repeat (first|exact Mh _|apply Mt)) (by exact KL Try.underlying60 rfl sz_60)) (Nb rfl) ?_
  refine KK rfl (KX (KU (first:=[]) rfl he rfl (Nb rfl) (fun w hw=>hc b f bd w (hw _ (by repeat (first|exact Mh _|apply Mt))) (hw _ (by repeat (first|exact Mh _|apply Mt))) (hw _ (by repeat (first|exact Mh _|apply Mt)))) ?_))
  refine KK rfl (KO rfl rfl sz_60 (by repeat (first|exact Kg _|exact Kr _ _ _|exact Kh _|exact Kl _ _ _|exact Kq _ _ _|exact KV|refine KR rfl ?_|refine KT ?_ ?_)) (by repeat (first|exact Sh _|apply St_)) (by first|exact KF _|exact KJ _ _ _|exact KI _|exact KS _ _ _|exact KZ _ _ _|rfl|simp [KJ,KF,KI]) ?_)
  refine KA (KH (v:=.int .i64 ((0:Nat):Int)) rfl) (Nb rfl) ?_
  refine KG (KY ?_)
  refine ⟨[_,_],.cons ⟨_,_,_,rfl,(by repeat (first|exact Mh _|apply Mt)),by exact KL Try.underlying60 rfl sz_60⟩ (.cons rfl .nil),fun a w' hr=>⟨?_,hr.fr.below⟩⟩
  rfl
theorem c_do_okK (id:Int) (V:Cv) (P P2 R:Pt V.p) (fid:FuncId) (K bk:Nat) (w:World) (h:cvI id = some V) (hP:On V.A V.B P) (hP2:On V.A V.B P2) (he:KAL Try.prog fid) (hc:∀ b f bd (w:World),(Item.blk b ⟨false,opL V f,147,(0,0)⟩).holds w→(Item.blk f ⟨false,fldL V.p bd,194,(0,0)⟩).holds w→(Item.blk bd ⟨false,dvL V.p,241,(0,0)⟩).holds w→(Item.blk bk ⟨false,natL K,25,(0,0)⟩).holds w→Calls Try.prog fid ([.agg ([.pointer (some ⟨b,0,none⟩)]:List Value).toArray,ptP P,ptP P2,.pointer (some ⟨bk,0,none⟩)]:List Value).toArray w (fun e w'=>e = .returned (ptP R)∧Below w.heap.size w w')) (hk:(Item.blk bk ⟨false,natL K,25,(0,0)⟩).holds w):Calls Try.prog 130 ([.int .i64 id,ptP P,ptP P2,.func (.func fid) #[] #[.pointer (some ⟨bk,0,none⟩)]]:List Value).toArray w (fun e w'=>e = .returned (.tuple #[ptP R,.int .i64 ((0:Nat):Int)])∧Below w.heap.size w w'):=by
  obtain ⟨hok,hid⟩:=cvI_ok h
  have hbb:=hok.bounds
  have hpW:V.p<W9:=w9_521 hbb.2.1
  have hnW:V.n<W9:=w9_521 hbb.2.2.2.2.2.2.1
  have hbl:=blen_w9 hnW
  have hnb:nby V.n≤72:=by (unfold nby; omega)
  refine Kw (N:=35) (rs:=[.cell 8 60,.tmp 9]) [.blk bk ⟨false,natL K,25,(0,0)⟩] Try.func130 rfl Try.ntmps130 Try.results130 (Nb rfl) ⟨hk,trivial⟩ rfl ?_
  show LCode _ _ _ ⟨_,_⟩ _
  refine KD (KB ?_)
  refine KK rfl (KX (KQ (Ks rfl) (Nb rfl) (fun b5=>?_)))
  refine KK rfl (KX (KQ (Ks rfl) (Nb rfl) (fun b6=>?_)))
  refine KK rfl (KX (KQ (Kd zr_60) (Nb rfl) (fun b8=>?_)))
  refine KA (KH (v:=.int .i64 ((0:Nat):Int)) rfl) (Nb rfl) ?_
  refine KG ?_
  refine KD (KB ?_)
  refine KA (KE rfl) (Nb rfl) ?_
  refine KK rfl (KX (LStep.callZ (Post:=fun v its=>∃ b f bd,v = .pointer (some ⟨b,0,none⟩)∧its = [.blk b ⟨false,opL V f,147,(0,0)⟩,.blk f ⟨false,fldL V.p bd,194,(0,0)⟩,.blk bd ⟨false,dvL V.p,241,(0,0)⟩]) (first:=[]) rfl en_112 rfl (Nb rfl) (fun w1 hw hs=>(c_Open _ V w1 h).mono fun e w' ⟨b,f,bd,h1,h2,h3,h4,h5,h6,h7,h8⟩=>⟨_,_,⟨b,f,bd,rfl,rfl⟩,h1,Brings.nums h8 (by intro x hx; simp at hx; rcases hx with rfl|rfl|rfl; exact h2; exact h3; exact h4) (by intro x hx; simp at hx; rcases hx with rfl|rfl|rfl <;> rfl) (by intro x hx k hk; simp at hx; rcases hx with rfl|rfl|rfl <;> simp [Item.fp] at hk <;> subst hk; exact .inl h5; exact .inl h6; exact .inl h7)⟩) ?_))
  rintro _ _ ⟨b,f,bd,rfl,rfl⟩
  refine KA (KH rfl) (Nb rfl) ?_
  refine KG ?_
  refine KD ?_
  refine LCode.block ?_
  refine KD (KB ?_)
  refine KA (KE rfl) (Nb rfl) ?_
  refine KA (Kb (Det.eqp Try.underlying142 rfl rfl) (show _ = Value.bool false from rfl)) (Nb rfl) ?_
  refine KA (KH rfl) (Nb rfl) ?_
  refine KG ?_
  refine Kp rfl ?_
  refine KD (KB ?_)
  refine KA (KE rfl) (Nb rfl) ?_
  refine LOps.det (KM rfl (by repeat (first|exact Mh _|apply Mt)) (by exact KL Try.underlying60 rfl sz_60)) (Nb rfl) ?_
  refine KK rfl (KX (KU (first:=[]) rfl en_122 rfl (Nb rfl) (fun w hw=>c_cOnP V b f bd hok (P) w (hw _ (by repeat (first|exact Mh _|apply Mt))) (hw _ (by repeat (first|exact Mh _|apply Mt))) (hw _ (by repeat (first|exact Mh _|apply Mt))) hP) ?_))
  refine KA (Kb (Det.not rfl) (show _ = Value.bool false from rfl)) (Nb rfl) ?_
  refine KA (KE rfl) (Nb rfl) ?_
  refine Ke rfl rfl (KE rfl) (Nb rfl) ?_
  refine KAZ rfl rfl (KM rfl (by repeat (first|exact Mh _|apply Mt)) (by exact KL Try.underlying60 rfl sz_60)) (Nb rfl) ?_
  refine LOps.stepG rfl rfl rfl (KX (KU (first:=[]) rfl en_122 rfl (Nb rfl) (fun w hw=>c_cOnP V b f bd hok (P2) w (hw _ (by repeat (first|exact Mh _|apply Mt))) (hw _ (by repeat (first|exact Mh _|apply Mt))) (hw _ (by repeat (first|exact Mh _|apply Mt))) hP2) ?_))
  refine Ke rfl rfl (Kb (Det.not rfl) (show _ = Value.bool false from rfl)) (Nb rfl) ?_
  refine KA (Kz rfl rfl) (Nb rfl) ?_
  refine KA (KH rfl) (Nb rfl) ?_
  refine KG ?_
  refine Kp rfl ?_
  refine Km ?_
  refine KD (KB ?_)
  refine KA (KE rfl) (Nb rfl) ?_
  refine KA (KE rfl) (Nb rfl) ?_
  refine KA (Kb (KAP pl_169 zr_169 rfl rfl) (show _ = Value.agg ([.pointer (some ⟨b,0,none⟩)]:List Value).toArray from rfl)) (Nb rfl) ?_
  refine LOps.det (KM rfl (by repeat (first|exact Mh _|apply Mt)) (by exact KL Try.underlying60 rfl sz_60)) (Nb rfl) ?_
  refine LOps.det (KM rfl (by repeat (first|exact Mh _|apply Mt)) (by exact KL Try.underlying60 rfl sz_60)) (Nb rfl) ?_
  refine KK rfl (KX (LStep.callK (caps:=[.pointer (some ⟨bk,0,none⟩)]) rfl he rfl (Nb rfl) (fun w hw=>hc b f bd w (hw _ (by repeat (first|exact Mh _|apply Mt))) (hw _ (by repeat (first|exact Mh _|apply Mt))) (hw _ (by repeat (first|exact Mh _|apply Mt))) (hw _ (by repeat (first|exact Mh _|apply Mt)))) ?_))
  refine KK rfl (KO rfl rfl sz_60 (by repeat (first|exact Kg _|exact Kr _ _ _|exact Kh _|exact Kl _ _ _|exact Kq _ _ _|exact KV|refine KR rfl ?_|refine KT ?_ ?_)) (by repeat (first|exact Sh _|apply St_)) (by first|exact KF _|exact KJ _ _ _|exact KI _|exact KS _ _ _|exact KZ _ _ _|rfl|simp [KJ,KF,KI]) ?_)
  refine KA (KH (v:=.int .i64 ((0:Nat):Int)) rfl) (Nb rfl) ?_
  refine KG (KY ?_)
  refine ⟨[_,_],.cons ⟨_,_,_,rfl,(by repeat (first|exact Mh _|apply Mt)),by exact KL Try.underlying60 rfl sz_60⟩ (.cons rfl .nil),fun a w' hr=>⟨?_,hr.fr.below⟩⟩
  rfl
theorem c_affAdd_off2 (id:Int) (V:Cv) (P:Pt V.p) (X Y:Nat) (i:Bool) (w:World) (h:cvI id = some V) (hP:On V.A V.B P) (hX:X<W9) (hY:Y<W9) (ho:onB V.p V.a V.b X Y i = false):Calls Try.prog 88 ([.int .i64 id,ptP P,ptV X Y i]:List Value).toArray w (fun e w'=>e = .returned (.tuple #[ptV 0 0 false,.int .i64 ((1401:Nat):Int)])∧Below w.heap.size w w'):=by
  refine Kw (N:=14) (rs:=[.cell 6 60,.tmp 7]) [] Try.func88 rfl Try.ntmps88 Try.results88 (Nb rfl) trivial rfl ?_
  show LCode _ _ _ ⟨_,_⟩ _
  refine KD (KB ?_)
  refine KK rfl (KX (KQ (Ks rfl) (Nb rfl) (fun b4=>?_)))
  refine KK rfl (KX (KQ (Ks rfl) (Nb rfl) (fun b5=>?_)))
  refine KK rfl (KX (KQ (Kd zr_60) (Nb rfl) (fun b6=>?_)))
  refine KA (KH (v:=.int .i64 ((0:Nat):Int)) rfl) (Nb rfl) ?_
  refine KG ?_
  refine KD (KB ?_)
  refine KA (KE rfl) (Nb rfl) ?_
  refine LOps.det (KM rfl (by repeat (first|exact Mh _|apply Mt)) (by exact KL Try.underlying60 rfl sz_60)) (Nb rfl) ?_
  refine LOps.det (KM rfl (by repeat (first|exact Mh _|apply Mt)) (by exact KL Try.underlying60 rfl sz_60)) (Nb rfl) ?_
  refine KK rfl (KX (KU (first:=[]) rfl en_130 rfl (Nb rfl) (fun w hw=>c_do_off2 id V P X Y i _ w h hP hX hY ho) ?_))
  refine KA (Kj rfl rfl) (Nb rfl) ?_
  refine KA (Kj rfl rfl) (Nb rfl) ?_
  refine KK rfl (KO rfl rfl sz_60 (by repeat (first|exact Kg _|exact Kr _ _ _|exact Kh _|exact Kl _ _ _|exact Kq _ _ _|exact KV|refine KR rfl ?_|refine KT ?_ ?_)) (by repeat (first|exact Sh _|apply St_)) (by first|exact KF _|exact KJ _ _ _|exact KI _|exact KS _ _ _|exact KZ _ _ _|rfl|simp [KJ,KF,KI]) ?_)
  refine KA (KH rfl) (Nb rfl) ?_
  refine KG (KY ?_)
  refine ⟨[_,_],.cons ⟨_,_,_,rfl,(by repeat (first|exact Mh _|apply Mt)),by exact KL Try.underlying60 rfl sz_60⟩ (.cons rfl .nil),fun a w' hr=>⟨?_,hr.fr.below⟩⟩
  rfl
theorem c_affAdd (id:Int) (V:Cv) (P P2 R:Pt V.p) (w:World) (h:cvI id = some V) (hP:On V.A V.B P) (hP2:On V.A V.B P2) (hR:padd V.A P P2 = R):Calls Try.prog 88 ([.int .i64 id,ptP P,ptP P2]:List Value).toArray w (fun e w'=>e = .returned (.tuple #[ptP R,.int .i64 ((0:Nat):Int)])∧Below w.heap.size w w'):=by
  obtain ⟨hok,hid⟩:=cvI_ok h
  refine Kw (N:=14) (rs:=[.cell 6 60,.tmp 7]) [] Try.func88 rfl Try.ntmps88 Try.results88 (Nb rfl) trivial rfl ?_
  show LCode _ _ _ ⟨_,_⟩ _
  refine KD (KB ?_)
  refine KK rfl (KX (KQ (Ks rfl) (Nb rfl) (fun b4=>?_)))
  refine KK rfl (KX (KQ (Ks rfl) (Nb rfl) (fun b5=>?_)))
  refine KK rfl (KX (KQ (Kd zr_60) (Nb rfl) (fun b6=>?_)))
  refine KA (KH (v:=.int .i64 ((0:Nat):Int)) rfl) (Nb rfl) ?_
  refine KG ?_
  refine KD (KB ?_)
  refine KA (KE rfl) (Nb rfl) ?_
  refine LOps.det (KM rfl (by repeat (first|exact Mh _|apply Mt)) (by exact KL Try.underlying60 rfl sz_60)) (Nb rfl) ?_
  refine LOps.det (KM rfl (by repeat (first|exact Mh _|apply Mt)) (by exact KL Try.underlying60 rfl sz_60)) (Nb rfl) ?_
  refine KK rfl (KX (KU (first:=[]) rfl en_130 rfl (Nb rfl) (fun w hw=>c_do_ok id V P P2 R 131 w h hP hP2 en_131 (fun b f bd w h1 h2 h3=>c_gadd V b f bd hok P P2 R w h1 h2 h3 hP hP2 hR)) ?_))
  refine KA (Kj rfl rfl) (Nb rfl) ?_
  refine KA (Kj rfl rfl) (Nb rfl) ?_
  refine KK rfl (KO rfl rfl sz_60 (by repeat (first|exact Kg _|exact Kr _ _ _|exact Kh _|exact Kl _ _ _|exact Kq _ _ _|exact KV|refine KR rfl ?_|refine KT ?_ ?_)) (by repeat (first|exact Sh _|apply St_)) (by first|exact KF _|exact KJ _ _ _|exact KI _|exact KS _ _ _|exact KZ _ _ _|rfl|simp [KJ,KF,KI]) ?_)
  refine KA (KH rfl) (Nb rfl) ?_
  refine KG (KY ?_)
  refine ⟨[_,_],.cons ⟨_,_,_,rfl,(by repeat (first|exact Mh _|apply Mt)),by exact KL Try.underlying60 rfl sz_60⟩ (.cons rfl .nil),fun a w' hr=>⟨?_,hr.fr.below⟩⟩
  rfl
theorem c_affNeg_none (id:Int) (X Y:Nat) (i:Bool) (w:World) (h:cvI id = none):Calls Try.prog 89 ([.int .i64 id,ptV X Y i]:List Value).toArray w (fun e w'=>e = .returned (.tuple #[ptV 0 0 false,.int .i64 ((1400:Nat):Int)])∧Below w.heap.size w w'):=by
  refine Kw (N:=12) (rs:=[.cell 4 60,.tmp 5]) [] Try.func89 rfl Try.ntmps89 Try.results89 (Nb rfl) trivial rfl ?_
  show LCode _ _ _ ⟨_,_⟩ _
  refine KD (KB ?_)
  refine KK rfl (KX (KQ (Ks rfl) (Nb rfl) (fun b3=>?_)))
  refine KK rfl (KX (KQ (Kd zr_60) (Nb rfl) (fun b4=>?_)))
  refine KA (KH (v:=.int .i64 ((0:Nat):Int)) rfl) (Nb rfl) ?_
  refine KG ?_
  refine KD (KB ?_)
  refine KA (KE rfl) (Nb rfl) ?_
  refine LOps.det (KM rfl (by repeat (first|exact Mh _|apply Mt)) (by exact KL Try.underlying60 rfl sz_60)) (Nb rfl) ?_
  refine LOps.det (KM rfl (by repeat (first|exact Mh _|apply Mt)) (by exact KL Try.underlying60 rfl sz_60)) (Nb rfl) ?_
  refine KK rfl (KX (KU (first:=[]) rfl en_130 rfl (Nb rfl) (fun w hw=>c_do_none id X Y i X Y i _ w h) ?_))
  refine KA (Kj rfl rfl) (Nb rfl) ?_
  refine KA (Kj rfl rfl) (Nb rfl) ?_
  refine KK rfl (KO rfl rfl sz_60 (by repeat (first|exact Kg _|exact Kr _ _ _|exact Kh _|exact Kl _ _ _|exact Kq _ _ _|exact KV|refine KR rfl ?_|refine KT ?_ ?_)) (by repeat (first|exact Sh _|apply St_)) (by first|exact KF _|exact KJ _ _ _|exact KI _|exact KS _ _ _|exact KZ _ _ _|rfl|simp [KJ,KF,KI]) ?_)
  refine KA (KH rfl) (Nb rfl) ?_
  refine KG (KY ?_)
  refine ⟨[_,_],.cons ⟨_,_,_,rfl,(by repeat (first|exact Mh _|apply Mt)),by exact KL Try.underlying60 rfl sz_60⟩ (.cons rfl .nil),fun a w' hr=>⟨?_,hr.fr.below⟩⟩
  rfl
theorem c_affMul (id:Int) (V:Cv) (K:Nat) (P:Pt V.p) (w:World) (h:cvI id = some V) (hP:On V.A V.B P) (hK:K<W9):Calls Try.prog 91 ([.int .i64 id,natV K,ptP P]:List Value).toArray w (fun e w'=>e = .returned (.tuple #[ptP (pmul V.A P K),.int .i64 ((0:Nat):Int)])∧Below w.heap.size w w'):=by
  obtain ⟨hok,hid⟩:=cvI_ok h
  refine Kw (N:=15) (rs:=[.cell 6 60,.tmp 7]) [] Try.func91 rfl Try.ntmps91 Try.results91 (Nb rfl) trivial rfl ?_
  show LCode _ _ _ ⟨_,_⟩ _
  refine KD (KB ?_)
  refine KK rfl (KX (KQ (Ks rfl) (Nb rfl) (fun b4=>?_)))
  refine KK rfl (KX (KQ (Ks rfl) (Nb rfl) (fun b5=>?_)))
  refine KK rfl (KX (KQ (Kd zr_60) (Nb rfl) (fun b6=>?_)))
  refine KA (KH (v:=.int .i64 ((0:Nat):Int)) rfl) (Nb rfl) ?_
  refine KG ?_
  refine KD (KB ?_)
  refine KA (KE rfl) (Nb rfl) ?_
  refine LOps.det (KM rfl (by repeat (first|exact Mh _|apply Mt)) (by exact KL Try.underlying60 rfl sz_60)) (Nb rfl) ?_
  refine LOps.det (KM rfl (by repeat (first|exact Mh _|apply Mt)) (by exact KL Try.underlying60 rfl sz_60)) (Nb rfl) ?_
  refine KA (Det.makeFuncC1 rfl) (Nb rfl) ?_
  refine KK rfl (KX (KU (first:=[]) rfl en_130 rfl (Nb rfl) (fun w hw=>c_do_okK id V P P (pmul V.A P K) 133 K b4 w h hP hP en_133 (fun b f bd w h1 h2 h3 hk=>c_gmul V b f bd hok K b4 hK P _ _ _ w h1 h2 h3 hP hk) (show (Item.blk b4 ⟨true,_,_,_⟩).holds w from hw _ (by repeat (first|exact Mh _|apply Mt)))) ?_))
  refine KA (Kj rfl rfl) (Nb rfl) ?_
  refine KA (Kj rfl rfl) (Nb rfl) ?_
  refine KK rfl (KO rfl rfl sz_60 (by repeat (first|exact Kg _|exact Kr _ _ _|exact Kh _|exact Kl _ _ _|exact Kq _ _ _|exact KV|refine KR rfl ?_|refine KT ?_ ?_)) (by repeat (first|exact Sh _|apply St_)) (by first|exact KF _|exact KJ _ _ _|exact KI _|exact KS _ _ _|exact KZ _ _ _|rfl|simp [KJ,KF,KI]) ?_)
  refine KA (KH rfl) (Nb rfl) ?_
  refine KG (KY ?_)
  refine ⟨[_,_],.cons ⟨_,_,_,rfl,(by repeat (first|exact Mh _|apply Mt)),by exact KL Try.underlying60 rfl sz_60⟩ (.cons rfl .nil),fun a w' hr=>⟨?_,hr.fr.below⟩⟩
  rfl
end Go.Proofs.Ytljblbgogjieaaa
set_option linter.unusedVariables false
set_option linter.unusedSimpArgs false
set_option maxRecDepth 20000
namespace Go.Proofs.Ytljblbgogjieaaa
open Go Go.RowKit
open Grp
theorem ac_n0 (id p a b n gx gy:Nat) (inf:Bool) (bits size:Nat) (leg:Bool):(acC id p a b n gx gy inf bits size leg)[28]? = some (.int .u64 ((limb n 0:Nat):Int)):=by
  rw [ac_at_n,List.getElem?_append_right (by simp [KF]),ac_len_n id p a b n gx gy inf bits size leg,List.getElem?_append_left (by simp [KF])]
  show (natL n)[0]? = _
  exact KAD n (by decide)
theorem limb0 {x:Nat} (h:x≤255):limb x 0 = x:=by
  rw [limb_small (show x<18446744073709551616 by omega)]; rfl
end Go.Proofs.Ytljblbgogjieaaa
set_option linter.unusedVariables false
set_option linter.unusedSimpArgs false
set_option maxRecDepth 20000
namespace Go.Proofs.Ytljblbgogjieaaa
open Go Go.RowKit
open Grp
theorem c_r_GP (Q:CQ) (V:Cv) (w:World) (hc:(crvI Q V).holds w) (hok:V.Ok):Calls Try.prog 80 ([.agg (crvL Q V).toArray]:List Value).toArray w (fun e w'=>Num2R w (crvI Q V).fp (xv V.G) (yv V.G) (fun u v=>rpV u v (iv V.G)) e w'):=by
  rw [xG hok,yG hok]
  exact c_r_G Q V w hc
theorem c_r_OutP (V:Cv) (q r:NV) (P:Pt V.p) (w:World) (hq:(numT q (xv P)).holds w) (hr:(numT r (yv P)).holds w):Calls Try.prog 66 ([rpV (numV q (xv P)) (numV r (yv P)) (iv P)]:List Value).toArray w (fun e w'=>e = .returned (ptP P)∧Below w.heap.size w w'):=c_r_Out q r (xv P) (yv P) (iv P) w hq hr
end Go.Proofs.Ytljblbgogjieaaa
set_option linter.unusedVariables false
set_option linter.unusedSimpArgs false
set_option maxRecDepth 20000
namespace Go.Proofs.Ytljblbgogjieaaa
open Go Go.RowKit
open Grp
theorem c_affMulR (id:Int) (V:Cv) (K:Nat) (P R:Pt V.p) (w:World) (h:cvI id = some V) (hP:On V.A V.B P) (hK:K<W9) (hR:pmul V.A P K = R):Calls Try.prog 91 ([.int .i64 id,natV K,ptP P]:List Value).toArray w (fun e w'=>e = .returned (.tuple #[ptP R,.int .i64 ((0:Nat):Int)])∧Below w.heap.size w w'):=hR ▸ c_affMul id V K P w h hP hK
theorem gg_ne {V:Cv} (hok:V.Ok):padd V.A V.G V.G≠V.G:=fun e=>by
  have h:=padd_cancel hok.crv hok.on (B:=.inf) trivial hok.on (e.trans (hok.inf_add hok.on).symm)
  unfold Cv.G at h; cases h
theorem two_mul {V:Cv} (hok:V.Ok) {P:Pt V.p} (hP:On V.A V.B P):padd V.A P P = pmul V.A P 2:=by
  show _ = padd V.A (padd V.A .inf P) P
  rw [hok.inf_add hP]
theorem c_awake14  (w:World)  : Calls Try.prog 90 ([]:List Value).toArray w (fun e w'=>e = .returned (.bool true)∧Below w.heap.size w w'):=by
  obtain ⟨V,hV⟩:∃ V,V = cv13:=⟨_,rfl⟩
  have h:cvI 13 = some V:=by rw [hV]; rfl
  obtain ⟨hok,hid⟩:=cvI_ok h
  have hn13:V.n = 223:=by rw [hV]; rfl
  obtain ⟨hb5,hb521,hba,hbb,hbx,hby,hbn,hbo,hbo2,hbb1,hbn1⟩:=hok.bounds
  have hsz:=hok.sz
  have hsp:=hsz.p
  have hsa:=hsz.a
  have hsb:=hsz.b
  have hp0:V.p≠0:=by omega
  have hpp:0<V.p:=by omega
  have hm17:∀ k,D.nw (k%V.p)≤17:=fun k=>Nat.le_trans (D.nw_mono (Nat.le_of_lt (Nat.mod_lt k hpp))) hsp
  have ho:onB V.p V.a V.b 1 1 false = false:=by rw [hV]; decide
  refine Kw (N:=89) (rs:=[.tmp 0]) [] Try.func90 rfl Try.ntmps90 Try.results90 (Nb rfl) trivial rfl ?_
  show LCode _ _ _ ⟨_,_⟩ _
  refine KD (KB ?_)
  refine KA (KH rfl) (Nb rfl) ?_
  refine KG ?_
  refine KD (KB ?_)
  refine KK rfl (KX (LStep.callZ (Post:=fun v its=>∃ Q,v = .tuple #[.agg (crvL Q V).toArray,.bool true]∧its = [crvI Q V]) (first:=[]) rfl en_43 rfl (Nb rfl) (fun w1 hw hs=>(c_r_Get _ V w1 h).mono fun e w' ⟨Q,h1,h2,h3,h4⟩=>⟨_,_,⟨Q,rfl,rfl⟩,h1,Brings.nums h4 (by intro x hx; simp at hx; subst hx; exact h2) (by intro x hx; simp at hx; subst hx; rfl) (by intro x hx k hk; simp at hx; subst hx; exact .inl (h3 k hk))⟩) ?_))
  rintro _ _ ⟨Q,rfl,rfl⟩
  refine KA (KE rfl) (Nb rfl) ?_
  refine KA (Kj rfl rfl) (Nb rfl) ?_
  refine KA (Kj rfl rfl) (Nb rfl) ?_
  refine KK rfl (KX (KQ (Kd zr_31) (Nb rfl) (fun b1=>?_)))
  refine KK rfl (KO rfl rfl sz_31 (by repeat (first|exact KV|refine KR rfl ?_)) (by repeat (first|exact Sh _|apply St_)) (by rfl) ?_)
  refine KA (KH rfl) (Nb rfl) ?_
  refine KG ?_
  refine KD (KB ?_)
  refine LOps.det (KM rfl (by repeat (first|exact Mh _|apply Mt)) (by exact KL Try.underlying31 rfl sz_31)) (Nb rfl) ?_
  refine KK rfl (KX (LStep.callZ (first:=[]) rfl en_80 rfl (Nb rfl) (fun w hw hs=>(c_r_GP Q V w (hw _ (by repeat (first|exact Mh _|apply Mt))) hok).mono fun e w' h=>Num2R.q (Old.one (x:=crvI Q V) (by repeat (first|exact Mh _|apply Mt)) rfl) hs h) ?_))
  rintro _ _ ⟨qga,qgb,rfl,rfl,hnga,hngb⟩
  refine KK rfl (KX (KU (first:=[]) rfl en_66 rfl (Nb rfl) (fun w hw=>c_r_OutP V qga qgb (V.G) w (hw _ (by repeat (first|exact Mh _|apply Mt))) (hw _ (by repeat (first|exact Mh _|apply Mt)))) ?_))
  refine KK rfl (KX (KQ (Kd zr_60) (Nb rfl) (fun b3=>?_)))
  refine KK rfl (KO rfl rfl sz_60 (by exact Kl _ _ _) (by repeat (first|exact Sh _|apply St_)) (by exact KS _ _ _) ?_)
  refine KG ?_
  refine KD (KB ?_)
  refine LOps.det (KM rfl (by repeat (first|exact Mh _|apply Mt)) (by exact KL Try.underlying60 rfl sz_60)) (Nb rfl) ?_
  refine LOps.det (KM rfl (by repeat (first|exact Mh _|apply Mt)) (by exact KL Try.underlying60 rfl sz_60)) (Nb rfl) ?_
  refine KK rfl (KX (KU (first:=[]) rfl en_88 rfl (Nb rfl) (fun w hw=>c_affAdd 13 V V.G V.G (padd V.A V.G V.G) w h hok.on hok.on rfl) ?_))
  refine KA (KE rfl) (Nb rfl) ?_
  refine KA (Kj rfl rfl) (Nb rfl) ?_
  refine KA (Kj rfl rfl) (Nb rfl) ?_
  refine KK rfl (KX (KQ (Kd zr_60) (Nb rfl) (fun b4=>?_)))
  refine KK rfl (KO rfl rfl sz_60 (by exact Kl _ _ _) (by repeat (first|exact Sh _|apply St_)) (by exact KS _ _ _) ?_)
  refine KA (KH rfl) (Nb rfl) ?_
  refine KG ?_
  refine KD ?_
  refine Ka [7] (by kernel_rfl) ?_
  refine LAny.take 1 rfl (by kernel_rfl) (Nb rfl) (KM rfl (by repeat (first|exact Mh _|apply Mt)) (by exact KL Try.underlying60 rfl sz_60)) ?_
  refine LAny.toP ?_
  refine KAU 6 rfl (.inl zr_60) (Nb rfl) rfl rfl rfl ?_
  refine Ky 0 rfl rfl rfl (Nb rfl) (by kernel_rfl) rfl (KAA (first:=[]) rfl en_55 rfl (fun w hw=>c_One 2 w (by decide))) ?_
  rintro _ _ ⟨rfl,rfl⟩
  refine Ky 2 rfl rfl rfl (Nb rfl) (by kernel_rfl) rfl (KAA (first:=[]) rfl en_91 rfl (fun w hw=>c_affMul 13 V 2 V.G w h hok.on (u64_w9 (by decide)))) ?_
  rintro _ _ ⟨rfl,rfl⟩
  refine KAM 3 rfl (by kernel_rfl) (Nb rfl) rfl (KE rfl) ?_
  refine KAM 4 rfl (by kernel_rfl) (Nb rfl) rfl (Kj rfl rfl) ?_
  refine KAM 5 rfl (by kernel_rfl) (Nb rfl) rfl (Kj rfl rfl) ?_
  refine KAb (by kernel_rfl) (fun b6=>?_)
  refine KAa ?_
  refine Kn 7 rfl rfl (by kernel_rfl) (by kernel_rfl) (KO rfl rfl sz_60 (by exact Kl _ _ _) (by repeat (first|exact Sh _|apply St_)) (by exact KS _ _ _) ?_)
  refine KC 8 rfl (by kernel_rfl) (Nb rfl) (KH rfl) ?_
  refine Ko (by kernel_rfl) ?_
  refine KD ?_
  refine Ka [9] (by kernel_rfl) ?_
  refine LAny.take 0 rfl (by kernel_rfl) (Nb rfl) (KM rfl (by repeat (first|exact Mh _|apply Mt)) (by exact KL Try.underlying60 rfl sz_60)) ?_
  refine LAny.toP ?_
  refine KAU 8 rfl (.inl zr_60) (Nb rfl) rfl rfl rfl ?_
  refine Ky 1 rfl rfl rfl (Nb rfl) (by kernel_rfl) rfl (KAA (first:=[]) rfl en_55 rfl (fun w hw=>c_One 1 w (by decide))) ?_
  rintro _ _ ⟨rfl,rfl⟩
  refine Ky 2 rfl rfl rfl (Nb rfl) (by kernel_rfl) rfl (KAA (first:=[]) rfl en_55 rfl (fun w hw=>c_One 1 w (by decide))) ?_
  rintro _ _ ⟨rfl,rfl⟩
  refine KAM 3 rfl (by kernel_rfl) (Nb rfl) rfl (Kb (KAP pl_60 zr_60 rfl (fill_pt _ _)) rfl) ?_
  refine Ky 4 rfl rfl rfl (Nb rfl) (by kernel_rfl) rfl (KAA (first:=[]) rfl en_88 rfl (fun w hw=>c_affAdd_off2 13 V V.G 1 1 false w h hok.on (u64_w9 (by decide)) (u64_w9 (by decide)) ho)) ?_
  rintro _ _ ⟨rfl,rfl⟩
  refine KAM 5 rfl (by kernel_rfl) (Nb rfl) rfl (KE rfl) ?_
  refine KAM 6 rfl (by kernel_rfl) (Nb rfl) rfl (Kj rfl rfl) ?_
  refine KAM 7 rfl (by kernel_rfl) (Nb rfl) rfl (Kj rfl rfl) ?_
  refine KAb (by kernel_rfl) (fun b8=>?_)
  refine KAa ?_
  refine Kn 9 rfl rfl (by kernel_rfl) (by kernel_rfl) (KO rfl rfl sz_60 (by exact Kl _ _ _) (by repeat (first|exact Sh _|apply St_)) (by exact KS _ _ _) ?_)
  refine KC 10 rfl (by kernel_rfl) (Nb rfl) (KH rfl) ?_
  refine Ko (by kernel_rfl) ?_
  refine KD ?_
  refine Ka [7] (by kernel_rfl) ?_
  refine LAny.take 1 rfl (by kernel_rfl) (Nb rfl) (KM rfl (by repeat (first|exact Mh _|apply Mt)) (by exact KL Try.underlying60 rfl sz_60)) ?_
  refine LAny.toP ?_
  refine KAU 6 rfl (.inl zr_60) (Nb rfl) rfl rfl rfl ?_
  refine Ky 0 rfl rfl rfl (Nb rfl) (by kernel_rfl) rfl (KAA (first:=[]) rfl en_55 rfl (fun w hw=>c_One 223 w (by decide))) ?_
  rintro _ _ ⟨rfl,rfl⟩
  refine Ky 2 rfl rfl rfl (Nb rfl) (by kernel_rfl) rfl (KAA (first:=[]) rfl en_91 rfl (fun w hw=>c_affMulR 13 V 223 V.G .inf w h hok.on (u64_w9 (by decide)) (by rw [← hn13]; exact hok.ord))) ?_
  rintro _ _ ⟨rfl,rfl⟩
  refine KAM 3 rfl (by kernel_rfl) (Nb rfl) rfl (KE rfl) ?_
  refine KAM 4 rfl (by kernel_rfl) (Nb rfl) rfl (Kj rfl rfl) ?_
  refine KAM 5 rfl (by kernel_rfl) (Nb rfl) rfl (Kj rfl rfl) ?_
  refine KAb (by kernel_rfl) (fun b10=>?_)
  refine KAa ?_
  refine Kn 7 rfl rfl (by kernel_rfl) (by kernel_rfl) (KO rfl rfl sz_60 (by exact Kl _ _ _) (by repeat (first|exact Sh _|apply St_)) (by exact KS _ _ _) ?_)
  refine KC 8 rfl (by kernel_rfl) (Nb rfl) (KH rfl) ?_
  refine Ko (by kernel_rfl) ?_
  refine KD (KB ?_)
  refine LOps.det (KM rfl (by repeat (first|exact Mh _|apply Mt)) (by exact KL Try.underlying60 rfl sz_60)) (Nb rfl) ?_
  refine KK rfl (KX (KU (first:=[]) rfl en_89 rfl (Nb rfl) (fun w hw=>c_affNeg_none 0 (xv V.G) (yv V.G) (iv V.G) w rfl) ?_))
  refine KA (KE rfl) (Nb rfl) ?_
  refine KA (Kj rfl rfl) (Nb rfl) ?_
  refine KA (Kj rfl rfl) (Nb rfl) ?_
  refine KK rfl (KX (KQ (Kd zr_60) (Nb rfl) (fun b12=>?_)))
  refine KK rfl (KO rfl rfl sz_60 (by exact Kl _ _ _) (by repeat (first|exact Sh _|apply St_)) (by exact KS _ _ _) ?_)
  refine KA (KH rfl) (Nb rfl) ?_
  refine KG ?_
  refine KD (KB ?_)
  refine KA (KE rfl) (Nb rfl) ?_
  refine KK rfl (KX (KU (first:=[]) rfl en_46 rfl (Nb rfl) (fun w hw=>c_Num _ w) ?_))
  refine KA (KP (v:=.bool true) rfl rfl (br_t (br_eql (b:=0)) (by first|rfl|assumption|omega|(simp; done)))) (Nb rfl) ?_
  refine KA (KE rfl) (Nb rfl) ?_
  refine KAZ rfl rfl (KM rfl (by repeat (first|exact Mh _|apply Mt)) (by exact KL Try.underlying60 rfl sz_60)) (Nb rfl) ?_
  refine KAZ rfl rfl (KM rfl (by repeat (first|exact Mh _|apply Mt)) (by exact KL Try.underlying60 rfl sz_60)) (Nb rfl) ?_
  refine Ke rfl rfl (Kb (Det.eqa (by kernel_rfl) (fun w=>eq_ptP_t hok (P:=padd V.A V.G V.G) (Q:=pmul V.A V.G 2) (two_mul hok hok.on) 10000 (by decide) w) rfl rfl) (show _ = Value.bool true by rfl)) (Nb rfl) ?_
  refine KA (KAE rfl rfl) (Nb rfl) ?_
  refine KA (KE rfl) (Nb rfl) ?_
  refine Ke rfl rfl (KE rfl) (Nb rfl) ?_
  refine LOps.stepG rfl rfl rfl (KX (KU (first:=[]) rfl en_46 rfl (Nb rfl) (fun w hw=>c_Num _ w) ?_))
  refine Ke rfl rfl (KP (v:=.bool true) rfl rfl (br_t (br_eql (b:=0)) (by first|rfl|assumption|omega|(simp; done)))) (Nb rfl) ?_
  refine KA (KAE rfl rfl) (Nb rfl) ?_
  refine KA (KE rfl) (Nb rfl) ?_
  refine KAZ rfl rfl (KM rfl (by repeat (first|exact Mh _|apply Mt)) (by exact KL Try.underlying60 rfl sz_60)) (Nb rfl) ?_
  refine KAZ rfl rfl (KM rfl (by repeat (first|exact Mh _|apply Mt)) (by exact KL Try.underlying60 rfl sz_60)) (Nb rfl) ?_
  refine Ke rfl rfl (Kb (Det.nea (by kernel_rfl) (fun w=>eq_ptP_f hok (gg_ne hok) 10000 (by decide) w) rfl rfl) (show _ = Value.bool true by rfl)) (Nb rfl) ?_
  refine KA (KAE rfl rfl) (Nb rfl) ?_
  refine KA (KE rfl) (Nb rfl) ?_
  refine Ke rfl rfl (KE rfl) (Nb rfl) ?_
  refine LOps.stepG rfl rfl rfl (KX (KU (first:=[]) rfl en_46 rfl (Nb rfl) (fun w hw=>c_Num _ w) ?_))
  refine Ke rfl rfl (KP (v:=.bool true) rfl rfl (br_t (br_eql (b:=1401)) (by first|rfl|assumption|omega|(simp; done)))) (Nb rfl) ?_
  refine KA (KAE rfl rfl) (Nb rfl) ?_
  refine KA (KE rfl) (Nb rfl) ?_
  refine Ke rfl rfl (KN (o':=18) Try.underlying60 rfl rfl rfl sz_4 (by decide)) (Nb rfl) ?_
  refine KAZ rfl rfl (KM rfl (by repeat (first|exact Mh _|apply Mt)) (Kc Try.underlying4 rfl (by exact pt_gt _ _ _))) (Nb rfl) ?_
  refine KA (KAE rfl rfl) (Nb rfl) ?_
  refine KA (KE rfl) (Nb rfl) ?_
  refine Ke rfl rfl (KE rfl) (Nb rfl) ?_
  refine LOps.stepG rfl rfl rfl (KX (KU (first:=[]) rfl en_46 rfl (Nb rfl) (fun w hw=>c_Num _ w) ?_))
  refine Ke rfl rfl (KP (v:=.bool true) rfl rfl (br_t (br_eql (b:=0)) (by first|rfl|assumption|omega|(simp; done)))) (Nb rfl) ?_
  refine KA (KAE rfl rfl) (Nb rfl) ?_
  refine KA (KE rfl) (Nb rfl) ?_
  refine Ke rfl rfl (KE rfl) (Nb rfl) ?_
  refine LOps.stepG rfl rfl rfl (KX (KU (first:=[]) rfl en_46 rfl (Nb rfl) (fun w hw=>c_Num _ w) ?_))
  refine Ke rfl rfl (KP (v:=.bool true) rfl rfl (br_t (br_eql (b:=1400)) (by first|rfl|assumption|omega|(simp; done)))) (Nb rfl) ?_
  refine KA (KAE rfl rfl) (Nb rfl) ?_
  refine KA (KH rfl) (Nb rfl) ?_
  refine KG (KY ?_)
  refine ⟨[_],.cons rfl .nil,fun a w' hr=>⟨?_,hr.fr.below⟩⟩
  rfl
end Go.Proofs.Ytljblbgogjieaaa
set_option linter.unusedVariables false
set_option linter.unusedSimpArgs false
set_option maxRecDepth 20000
namespace Go.Proofs.Ytljblbgogjieaaa
open Go Go.RowKit
open Grp
theorem c_curveOnPt (id:Int) (V:Cv) (P:Pt V.p) (w:World) (h:cvI id = some V) (hP:On V.A V.B P):Calls Try.prog 61 ([.int .i64 id,ptP P]:List Value).toArray w (fun e w'=>e = .returned (.bool true)∧Below w.heap.size w w') :=
  c_curveOnB id V (xv P) (yv P) (iv P) true w h (pt_w9 (cvI_ok h).1 P).1 (pt_w9 (cvI_ok h).1 P).2 (onB_on hP)
theorem add_mod {V:Cv} (hok:V.Ok) (i j:Nat):padd V.A (pmul V.A V.G i) (pmul V.A V.G j) = pmul V.A V.G ((i+j)%V.n):=by
  rw [← pmul_mod hok.crv hok.on hok.ord,pmul_add hok.crv hok.on]
end Go.Proofs.Ytljblbgogjieaaa
set_option linter.unusedVariables false
set_option linter.unusedSimpArgs false
set_option maxRecDepth 20000
namespace Go.Proofs.Ytljblbgogjieaaa
open Go Go.RowKit
open Grp
def bvec (n:Nat) (f:Nat→Bool):List Value:=(List.range n).map fun i=>.bool (f i)
theorem bvec_length (n:Nat) (f:Nat→Bool):(bvec n f).length = n:=by simp [bvec]
theorem bvec_get (n:Nat) (f:Nat→Bool) {i:Nat} (h:i<n):(bvec n f)[i]? = some (.bool (f i)):=by simp [bvec,h]
theorem bvec_at {n:Nat} {f:Nat→Bool} {i:Nat} (h:i<n) (hf:f i = false):(bvec n f)[i+0]? = some (.bool false):=by
  rw [Nat.add_zero,bvec_get n f h,hf]
theorem bvec_set (n:Nat) (f:Nat→Bool) (i:Nat) (x:Bool):(bvec n f).set i (.bool x) = bvec n (fun j=>if j = i then x else f j):=by
  apply List.ext_getElem?
  intro j
  simp only [bvec,List.getElem?_set,List.getElem?_map,List.length_map,List.length_range]
  by_cases h:i = j
  · subst h
    by_cases hi:i<n <;> simp [hi]
  · have:¬ j = i:=fun e=>h e.symm
    simp [h]
    by_cases hj:j<n <;> simp [hj,this]
theorem bvec_zero (n:Nat):List.replicate n (Value.bool false) = bvec n (fun _=>false):=by
  unfold bvec
  apply List.ext_getElem?
  intro i
  by_cases h:i<n
  · simp [List.getElem?_replicate,h]
  · simp [List.getElem?_replicate,h]
section
variable {P:Program} {C:Ctx} {d:Nat} {ty:TypeId} {pos:String} {aft:Array Edge} {g:Option (Nat×Bool)} {st:St} {x y:Operand} {t e:TypeId}
theorem Makes.mkB {n m : Nat} {k k' : IntKind} (ht : P.underlying t = some (.slice e)) (hi : infOf P e = some (.bool false, 1, m)) (hx : evT st.T x = some (.int k (n : Int))) (hy : evT st.T y = some (.int k' (n : Int)))
    (hb:m*n≤281474976710656) (h63:n<9223372036854775808):Makes P C ⟨d,.makeSlice t x y,ty,pos,aft,g⟩ st (bvec n (fun _=>false)) e (fun b=>.slice (some ⟨b,0,none⟩) n n):=by
  rw [← bvec_zero]; exact Makes.mkS ht hi rfl hx hy hb h63
end
attribute [irreducible] bvec
def atP {p:Nat} (P:Pt p):Nat:=xv P*256+yv P
theorem and255L {x:Nat} (h:x≤255):limb x 0 &&& 255 = x:=by
  rw [limb0 h,show 255 = 2^8-1 from rfl,Nat.and_two_pow_sub_one_eq_mod]
  exact Nat.mod_eq_of_lt (by omega)
theorem mul_aff {V:Cv} (hok:V.Ok) {j:Nat} (h0:1≤j) (hj:j<V.n):∃ x y,pmul V.A V.G j = .aff x y:=by
  cases e:pmul V.A V.G j with
  | inf =>
    have g_ne:V.G≠.inf:=fun h=>by unfold Cv.G at h; cases h
    have:=Nat.le_of_dvd h0 (pmul_order hok.crv hok.on hok.order g_ne hok.ord e)
    omega
  | aff x y=>exact ⟨x,y,rfl⟩
theorem at_new {V:Cv} (hok:V.Ok) (hp:V.p≤255) {i j:Nat} (hi:1≤i) (hij:i<j) (hj:j<V.n) (e:atP (pmul V.A V.G i) = atP (pmul V.A V.G j)):False:=by
  have g_ne:V.G≠.inf:=fun h=>by unfold Cv.G at h; cases h
  obtain ⟨x,y,h1⟩:=mul_aff hok hi (by omega)
  obtain ⟨z,u,h2⟩:=mul_aff hok (show 1≤j by omega) hj
  rw [h1,h2] at e
  have e:x.val*256+y.val = z.val*256+u.val:=e
  have hx:=x.isLt
  have hy:=y.isLt
  have hz:=z.isLt
  have hu:=u.isLt
  have ex:x = z:=Fin.ext (by omega)
  have ey:y = u:=Fin.ext (by omega)
  have:=pmul_inj hok.crv hok.on hok.order g_ne hok.ord hj (Nat.le_of_lt hij) (by rw [h1,h2,ex,ey])
  omega
theorem cvI_tinyW (x:Int):∃ V,cvI ((13+uidx x%3:Nat):Int) = some V∧V.n≤255∧2≤V.n∧V.p≤255:=by
  have h:uidx x%3 = 0∨uidx x%3 = 1∨uidx x%3 = 2:=by omega
  rcases h with h|h|h <;> rw [h]
  · exact ⟨cv13,rfl,by decide,by decide,by decide⟩
  · exact ⟨cv14,rfl,by decide,by decide,by decide⟩
  · exact ⟨cv15,rfl,by decide,by decide,by decide⟩
theorem pt_c0 (X Y:Nat) (i:Bool):(ptL X Y i)[0]? = some (.int .u64 ((limb X 0:Nat):Int)):=by
  show (natL X++(natL Y++[Value.bool i]))[0]? = _
  rw [List.getElem?_append_left (by simp [KF])]
  exact KAD X (by decide)
theorem pt_c9 (X Y:Nat) (i:Bool):(ptL X Y i)[9]? = some (.int .u64 ((limb Y 0:Nat):Int)):=by
  show (natL X++(natL Y++[Value.bool i]))[9]? = _
  rw [List.getElem?_append_right (by simp [KF]),List.getElem?_append_left (by simp [KF]),KF]
  exact KAD Y (by decide)
theorem inf_bool:infOf Try.prog 4 = some (.bool false,1,1):=by kernel_rfl
theorem c_AffineWalk (which:Int) (w:World)  : Calls Try.prog 29 ([.int .i64 which]:List Value).toArray w (fun e w'=>e = .returned (.bool true)∧Below w.heap.size w w'):=by
  obtain ⟨V,h,hn255,hn2,hp255⟩:=cvI_tinyW which
  obtain ⟨hok,hid⟩:=cvI_ok h
  have h2:=cvI_id h
  obtain ⟨hb5,hb521,hba,hbb,hbx,hby,hbn,hbo,hbo2,hbb1,hbn1⟩:=hok.bounds
  have hsz:=hok.sz
  have hsp:=hsz.p
  have hsa:=hsz.a
  have hsb:=hsz.b
  have hp0:V.p≠0:=by omega
  have hpp:0<V.p:=by omega
  have hm17:∀ k,D.nw (k%V.p)≤17:=fun k=>Nat.le_trans (D.nw_mono (Nat.le_of_lt (Nat.mod_lt k hpp))) hsp
  refine Kw (N:=105) (rs:=[.tmp 2]) [] Try.func29 rfl Try.ntmps29 Try.results29 (Nb rfl) trivial rfl ?_
  show LCode _ _ _ ⟨_,_⟩ _
  refine KD (KB ?_)
  refine KA (KH rfl) (Nb rfl) ?_
  refine KG ?_
  refine KD ?_
  refine KD (KB ?_)
  refine KK rfl (KX (KU (first:=[]) rfl en_90 rfl (Nb rfl) (fun w hw=>c_awake14 w) ?_))
  refine KA (Kb (Det.not rfl) (show _ = Value.bool false from rfl)) (Nb rfl) ?_
  refine KG ?_
  refine Kp rfl ?_
  refine Km ?_
  refine KD (KB ?_)
  refine KA (KE rfl) (Nb rfl) ?_
  refine KA (Kb (Det.conv Try.underlying3 Try.underlying46 rfl) (uidx_eq _)) (Nb rfl) ?_
  refine KA (KP rfl rfl (br_rem64 (b:=3) (by omega))) (Nb rfl) ?_
  refine KA (Det.convi Try.underlying46 Try.underlying3 rfl (by omega)) (Nb rfl) ?_
  refine KA (KP rfl rfl (KAT (a:=13) (by omega))) (Nb rfl) ?_
  refine KA (KH rfl) (Nb rfl) ?_
  refine KG ?_
  refine KD (KB ?_)
  refine KA (KE rfl) (Nb rfl) ?_
  refine KK rfl (KX (KU (first:=[]) rfl en_56 rfl (Nb rfl) (fun w hw=>c_curveGet _ V w h) ?_))
  refine KA (KE rfl) (Nb rfl) ?_
  refine KA (Kj rfl rfl) (Nb rfl) ?_
  refine KA (Kj rfl rfl) (Nb rfl) ?_
  refine KK rfl (KX (KQ (Kd zr_62) (Nb rfl) (fun b4=>?_)))
  refine KK rfl (KO rfl rfl sz_62 (by first|exact acL_one _|exact acC_one _ _ _ _ _ _ _ _ _ _ _) (by repeat (first|exact Sh _|apply St_)) (by first|exact acL_length _|exact acC_length _ _ _ _ _ _ _ _ _ _ _) ?_)
  refine KA (KH rfl) (Nb rfl) ?_
  refine KG ?_
  refine KD ?_
  refine KD (KB ?_)
  refine KA (KE rfl) (Nb rfl) ?_
  refine KK rfl (KX (KU (first:=[]) rfl en_46 rfl (Nb rfl) (fun w hw=>c_Num _ w) ?_))
  refine KA (KP (v:=.bool false) rfl rfl (br_f (br_neq (b:=0)) (by first|exact (fun e=>e rfl)|(simp; done)|omega))) (Nb rfl) ?_
  refine KA (KE rfl) (Nb rfl) ?_
  refine Ke rfl rfl (KN (o':=28) Try.underlying62 rfl rfl rfl sz_25 (by decide)) (Nb rfl) ?_
  refine Ke rfl rfl (KN (o':=28) Try.underlying25 rfl rfl rfl sz_23 (by decide)) (Nb rfl) ?_
  refine Ke rfl rfl (Det.indexA (i:=0) Try.underlying23 sz_22 rfl rfl (by decide)) (Nb rfl) ?_
  refine KAZ rfl rfl (KM rfl (by repeat (first|exact Mh _|apply Mt)) (Kc Try.underlying22 rfl (by exact ac_n0 _ _ _ _ _ _ _ _ _ _ _))) (Nb rfl) ?_
  refine Ke rfl rfl (KP (v:=.bool false) rfl rfl (br_f (br_gtr (b:=255)) (by rw [limb0 hn255]; omega))) (Nb rfl) ?_
  refine KA (Kz rfl rfl) (Nb rfl) ?_
  refine KA (KE rfl) (Nb rfl) ?_
  refine Ke rfl rfl (KN (o':=28) Try.underlying62 rfl rfl rfl sz_25 (by decide)) (Nb rfl) ?_
  refine Ke rfl rfl (KN (o':=28) Try.underlying25 rfl rfl rfl sz_23 (by decide)) (Nb rfl) ?_
  refine Ke rfl rfl (Det.indexA (i:=0) Try.underlying23 sz_22 rfl rfl (by decide)) (Nb rfl) ?_
  refine KAZ rfl rfl (KM rfl (by repeat (first|exact Mh _|apply Mt)) (Kc Try.underlying22 rfl (by exact ac_n0 _ _ _ _ _ _ _ _ _ _ _))) (Nb rfl) ?_
  refine Ke rfl rfl (KP (v:=.bool false) rfl rfl (br_f (br_lss (b:=2)) (by rw [limb0 hn255]; omega))) (Nb rfl) ?_
  refine KA (Kz rfl rfl) (Nb rfl) ?_
  refine KG ?_
  refine Kp rfl ?_
  refine Km ?_
  refine KD (KB ?_)
  refine KA (KN (o':=28) Try.underlying62 rfl rfl rfl sz_25 (by decide)) (Nb rfl) ?_
  refine KA (KN (o':=28) Try.underlying25 rfl rfl rfl sz_23 (by decide)) (Nb rfl) ?_
  refine KA (Det.indexA (i:=0) Try.underlying23 sz_22 rfl rfl (by decide)) (Nb rfl) ?_
  refine LOps.det (KM rfl (by repeat (first|exact Mh _|apply Mt)) (Kc Try.underlying22 rfl (by exact ac_n0 _ _ _ _ _ _ _ _ _ _ _))) (Nb rfl) ?_
  refine KA (Kb (Det.convi Try.underlying22 Try.underlying3 rfl (by rw [limb0 hn255]; omega)) (vi (b:=V.n) (limb0 hn255))) (Nb rfl) ?_
  refine KA (KH rfl) (Nb rfl) ?_
  refine KG ?_
  refine KD (KB ?_)
  refine KA (KN (o':=37) Try.underlying62 rfl rfl rfl sz_60 (by decide)) (Nb rfl) ?_
  refine LOps.det (Det.cast (KM rfl (by repeat (first|exact Mh _|apply Mt)) (by exact ac_ld_g _ _ _ _ _ _ _ _ _ _ _ _ _ _)) (g_val hok)) (Nb rfl) ?_
  refine KK rfl (KX (KQ (Kd zr_60) (Nb rfl) (fun b7=>?_)))
  refine KK rfl (KO rfl rfl sz_60 (by exact Kl _ _ _) (by repeat (first|exact Sh _|apply St_)) (by exact KS _ _ _) ?_)
  refine KG ?_
  refine KD (KB ?_)
  refine KK rfl (KX (KQ (Makes.mkB Try.underlying112 inf_bool rfl rfl (by decide) (by decide)) (Nb rfl) (fun b49=>?_)))
  refine KA (KH rfl) (Nb rfl) ?_
  refine KG ?_
  refine KD ?_
  refine KD (KB ?_)
  refine KA (KH (v:=.int .i64 ((1:Nat):Int)) rfl) (Nb rfl) ?_
  refine KG ?_
  refine LCode.block ?_
  refine KAQ (α:=Nat×(Nat→Bool)) (fun x=>1≤x.1∧x.1≤V.n∧∀ k,x.2 k = true→∃ j,1≤j∧j<x.1∧atP (pmul V.A V.G j) = k) (fun x=>⟨[(3,.int .i64 ((13+uidx which%3:Nat):Int)),(4,.pointer (some ⟨b4,0,none⟩)),(6,.int .i64 ((V.n:Nat):Int)),(7,.pointer (some ⟨b7,0,none⟩)),(8,.slice (some ⟨b49,0,none⟩) 65536 65536),(9,.int .i64 ((x.1:Nat):Int))],[.blk b49 ⟨true,bvec 65536 x.2,4,(0,0)⟩,.blk b7 ⟨true,ptL (xv (pmul V.A V.G x.1)) (yv (pmul V.A V.G x.1)) (iv (pmul V.A V.G x.1)),60,(0,0)⟩,.blk b4 ⟨true,acL V,62,(0,0)⟩]⟩) (fun x=>V.n-x.1) ((1,fun _=>false)) (⟨Nat.le_refl _,by dsimp only; omega,fun k hk=>by cases hk⟩) (by dsimp only; rw [pmul_one hok.fld hok.on]; exact KAF ⟨rfl,rfl,rfl,rfl,rfl,rfl,trivial⟩ (by repeat (first|exact Sel.nil _|refine Sel.cons (by repeat (first|exact Ph _|apply Pt_)) ?_))) ?_
  rintro x ⟨hx1,hx2,hx3⟩
  refine KD ?_
  refine KD (KB ?_)
  refine KA (KE rfl) (Nb rfl) ?_
  refine KA (KE rfl) (Nb rfl) ?_
  refine KA (KP rfl rfl (br_lss)) (Nb rfl) ?_
  refine KG ?_
  first|refine Kf rfl (fun h52=>?_) (fun h52=>?_)|refine Ki rfl (fun h52=>?_) (fun h52=>?_)
  ·
    have h52:x.1<V.n:=h52
    have hPo':=hok.mul hok.on x.1
    have hsee:=hx3
    obtain ⟨xx,yy,hxy⟩:=mul_aff hok hx1 h52
    have hPo:On V.A V.B (.aff xx yy:Pt V.p):=hxy ▸ hPo'
    have hxl:=xx.isLt
    have hyl:=yy.isLt
    have hnew:x.2 (xx.val*256+yy.val) = false:=by
      cases hq:x.2 (xx.val*256+yy.val) with
      | false=>rfl
      | true =>
        obtain ⟨j,hj1,hj2,hj3⟩:=hx3 _ hq
        exact (at_new hok hp255 hj1 hj2 h52 (by rw [hj3,hxy]; rfl)).elim
    rw [hxy]
    refine Km ?_
    refine KD ?_
    refine LCode.block ?_
    refine KD (KB ?_)
    refine KA (KN (o':=0) Try.underlying60 rfl rfl rfl sz_25 (by decide)) (Nb rfl) ?_
    refine KA (KN (o':=0) Try.underlying25 rfl rfl rfl sz_23 (by decide)) (Nb rfl) ?_
    refine KA (Kv (i:=0) Try.underlying23 sz_22 rfl rfl (by decide)) (Nb rfl) ?_
    refine LOps.det (KM rfl (by repeat (first|exact Mh _|apply Mt)) (Kc Try.underlying22 rfl (by exact pt_c0 _ _ _))) (Nb rfl) ?_
    refine KA (Kb (KP rfl rfl (br_and64 (b:=255) (limb_lt _ _) (by decide))) (vi (b:=xx.val) (and255L (x:=xx.val) (by omega)))) (Nb rfl) ?_
    refine KA (Det.convi Try.underlying22 Try.underlying3 rfl (by omega)) (Nb rfl) ?_
    refine KA (KP rfl rfl (br_mul (b:=256) (by omega))) (Nb rfl) ?_
    refine KA (KN (o':=9) Try.underlying60 rfl rfl rfl sz_25 (by decide)) (Nb rfl) ?_
    refine KA (KN (o':=9) Try.underlying25 rfl rfl rfl sz_23 (by decide)) (Nb rfl) ?_
    refine KA (Det.indexA (i:=0) Try.underlying23 sz_22 rfl rfl (by decide)) (Nb rfl) ?_
    refine LOps.det (KM rfl (by repeat (first|exact Mh _|apply Mt)) (Kc Try.underlying22 rfl (by exact pt_c9 _ _ _))) (Nb rfl) ?_
    refine KA (Kb (KP rfl rfl (br_and64 (b:=255) (limb_lt _ _) (by decide))) (vi (b:=yy.val) (and255L (x:=yy.val) (by omega)))) (Nb rfl) ?_
    refine KA (Det.convi Try.underlying22 Try.underlying3 rfl (by omega)) (Nb rfl) ?_
    refine KA (KP rfl rfl (KAT (by omega))) (Nb rfl) ?_
    refine KA (KH rfl) (Nb rfl) ?_
    refine KG ?_
    refine KD ?_
    refine KD (KB ?_)
    refine KA (KN (o':=18) Try.underlying60 rfl rfl rfl sz_4 (by decide)) (Nb rfl) ?_
    refine LOps.det (KM rfl (by repeat (first|exact Mh _|apply Mt)) (Kc Try.underlying4 rfl (by exact pt_gt _ _ _))) (Nb rfl) ?_
    refine KA (KE rfl) (Nb rfl) ?_
    refine Ke rfl rfl (KE rfl) (Nb rfl) ?_
    refine Ke rfl rfl (KE rfl) (Nb rfl) ?_
    refine Ke rfl rfl (Det.indexS Try.underlying112 sz_4 rfl rfl (by omega)) (Nb rfl) ?_
    refine KAZ rfl rfl (KM rfl (by repeat (first|exact Mh _|apply Mt)) (Kc Try.underlying4 rfl (by exact bvec_at (n:=65536) (f:=x.2) (i:=xx.val*256+yy.val) (by omega) hnew))) (Nb rfl) ?_
    refine KA (Kz rfl rfl) (Nb rfl) ?_
    refine KA (KE rfl) (Nb rfl) ?_
    refine Ke rfl rfl (KE rfl) (Nb rfl) ?_
    refine KAZ rfl rfl (KM rfl (by repeat (first|exact Mh _|apply Mt)) (by exact KL Try.underlying60 rfl sz_60)) (Nb rfl) ?_
    refine LOps.stepG rfl rfl rfl (KX (KU (first:=[]) rfl en_61 rfl (Nb rfl) (fun w hw=>c_curveOnPt _ V (.aff xx yy:Pt V.p) w h hPo) ?_))
    refine Ke rfl rfl (Kb (Det.not rfl) (show _ = Value.bool false from rfl)) (Nb rfl) ?_
    refine KA (Kz rfl rfl) (Nb rfl) ?_
    refine KG ?_
    refine Kp rfl ?_
    refine Km ?_
    refine KD (KB ?_)
    refine KA (KE rfl) (Nb rfl) ?_
    refine KA (KE rfl) (Nb rfl) ?_
    refine KA (Det.indexS Try.underlying112 sz_4 rfl rfl (by omega)) (Nb rfl) ?_
    refine KK rfl (KAC rfl rfl rfl sz_4 (by repeat (first|exact Sh _|apply St_)) (by rw [bvec_length]; omega) (by exact bvec_set _ _ _ _) (by simp) ?_)
    refine KG ?_
    refine KD (KB ?_)
    refine KA (KE rfl) (Nb rfl) ?_
    refine LOps.det (KM rfl (by repeat (first|exact Mh _|apply Mt)) (by exact KL Try.underlying60 rfl sz_60)) (Nb rfl) ?_
    refine KA (KN (o':=37) Try.underlying62 rfl rfl rfl sz_60 (by decide)) (Nb rfl) ?_
    refine LOps.det (Det.cast (KM rfl (by repeat (first|exact Mh _|apply Mt)) (by exact ac_ld_g _ _ _ _ _ _ _ _ _ _ _ _ _ _)) (g_val hok)) (Nb rfl) ?_
    refine KK rfl (KX (KU (first:=[]) rfl en_88 rfl (Nb rfl) (fun w hw=>c_affAdd _ V (.aff xx yy:Pt V.p) V.G (pmul V.A V.G (x.1+1)) w h hPo hok.on (hxy ▸ rfl)) ?_))
    refine KA (KE rfl) (Nb rfl) ?_
    refine KA (Kj rfl rfl) (Nb rfl) ?_
    refine KA (Kj rfl rfl) (Nb rfl) ?_
    refine KK rfl (KX (KQ (Kd zr_60) (Nb rfl) (fun b11=>?_)))
    refine KK rfl (KO rfl rfl sz_60 (by exact Kl _ _ _) (by repeat (first|exact Sh _|apply St_)) (by exact KS _ _ _) ?_)
    refine KA (KH rfl) (Nb rfl) ?_
    refine KG ?_
    refine KD ?_
    refine KD (KB ?_)
    refine KA (KE rfl) (Nb rfl) ?_
    refine KK rfl (KX (KU (first:=[]) rfl en_46 rfl (Nb rfl) (fun w hw=>c_Num _ w) ?_))
    refine KA (KP (v:=.bool false) rfl rfl (br_f (br_neq (b:=0)) (by first|exact (fun e=>e rfl)|(simp; done)|omega))) (Nb rfl) ?_
    refine KG ?_
    refine Kp rfl ?_
    refine Km ?_
    refine KB ?_
    refine LOps.det (KM rfl (by repeat (first|exact Mh _|apply Mt)) (by exact KL Try.underlying60 rfl sz_60)) (Nb rfl) ?_
    refine KK rfl (KO rfl rfl sz_60 (by exact Kl _ _ _) (by repeat (first|exact Sh _|apply St_)) (by exact KS _ _ _) ?_)
    refine KG ?_
    refine KB ?_
    refine KA (KE rfl) (Nb rfl) ?_
    refine KA (KP (v:=.int .i64 ((x.1+1:Nat):Int)) rfl rfl (KAT (b:=1) (by omega))) (Nb rfl) ?_
    refine KA (KH rfl) (Nb rfl) ?_
    refine KG ?_
    refine ⟨(x.1+1,fun k=>if k = xx.val*256+yy.val then true else x.2 k),⟨by dsimp only; omega,by dsimp only; omega,fun k hk=>?_⟩,by dsimp only; omega,KAF ⟨rfl,rfl,rfl,rfl,rfl,rfl,trivial⟩ (by repeat (first|exact Sel.nil _|refine Sel.cons (by repeat (first|exact Ph _|apply Pt_)) ?_))⟩
    dsimp only at hk
    by_cases ek:k = xx.val*256+yy.val
    · exact ⟨x.1,hx1,Nat.lt_succ_self _,by rw [hxy,ek]; rfl⟩
    · rw [if_neg ek] at hk
      obtain ⟨j,h1,h2,h3⟩:=hx3 k hk
      exact ⟨j,h1,Nat.lt_succ_of_lt h2,h3⟩
  ·
    have h52:¬ x.1<V.n:=h52
    refine KAI ?_
    refine KD ?_
    have eI:pmul V.A V.G x.1 = .inf:=by rw [show x.1 = V.n by omega]; exact hok.ord
    rw [eI]
    refine KB ?_
    refine KA (KN (o':=18) Try.underlying60 rfl rfl rfl sz_4 (by decide)) (Nb rfl) ?_
    refine LOps.det (KM rfl (by repeat (first|exact Mh _|apply Mt)) (Kc Try.underlying4 rfl (by exact pt_gt _ _ _))) (Nb rfl) ?_
    refine KA (KE rfl) (Nb rfl) ?_
    refine KAZ rfl rfl (KM rfl (by repeat (first|exact Mh _|apply Mt)) (by exact KL Try.underlying60 rfl sz_60)) (Nb rfl) ?_
    refine Ke rfl rfl (Kb (KAP pl_60 zr_60 rfl fill_ptInf) rfl) (Nb rfl) ?_
    refine Ke rfl rfl (Kb (Det.eqa (by kernel_rfl) (fun w=>eq_ptP_t hok (P:=(.inf:Pt V.p)) (Q:=(.inf:Pt V.p)) (rfl) 10000 (by decide) w) rfl rfl) (show _ = Value.bool true by rfl)) (Nb rfl) ?_
    refine KA (Det.pick rfl rfl rfl) (Nb rfl) ?_
    refine KA (KH rfl) (Nb rfl) ?_
    refine KG (KY ?_)
    refine ⟨[_],.cons rfl .nil,fun a w' hr=>⟨?_,hr.fr.below⟩⟩
    rfl
end Go.Proofs.Ytljblbgogjieaaa
set_option maxRecDepth 100000
namespace Go.Proofs.Ytljblbgogjieaaa
open Go
def ioChars:List Char:=([104,97,114,110,101,115,115,32,102,51,57,52,54,98,99,101,49,54,101,56,99,51,102,52,49,56,48,97,55,101,53,50,100,97,98,100,56,55,98,56,54,57,51,56,100,57,50,50,100,99,56,97,98,97,101,55,102,48,56,57,55,57,99,51,48,57,101,52,56,98,54,48,32,99,117,116,32,97,116,32,99,117,114,118,101,116,47,99,117,114,118,101,116,108,97,119,50,51,46,82,97,119,115,32,99,117,114,118,101,116,47,99,117,114,118,101,116,108,97,119,50,51,46,82,97,119,66,97,99,107,32,99,117,114,118,101,116,47,99,117,114,118,101,116,108,97,119,50,51,46,82,97,119,76,101,110,103,116,104,115,32,99,117,114,118,101,116,47,99,117,114,118,101,116,108,97,119,50,51,46,82,97,119,84,105,110,121,32,99,117,114,118,101,116,47,99,117,114,118,101,116,108,97,119,49,51,46,67,117,114,118,101,115,32,99,117,114,118,101,116,47,99,117,114,118,101,116,108,97,119,49,51,46,67,117,114,118,101,79,110,115,32,99,117,114,118,101,116,47,99,117,114,118,101,116,108,97,119,49,51,46,67,117,114,118,101,83,111,117,110,100,32,99,117,114,118,101,116,47,99,117,114,118,101,116,108,97,119,49,51,46,67,117,114,118,101,78,117,109,98,101,114,115,32,99,117,114,118,101,116,47,99,117,114,118,101,116,108,97,119,49,51,46,67,117,114,118,101,79,102,102,32,99,117,114,118,101,116,47,99,117,114,118,101,116,108,97,119,49,51,46,67,117,114,118,101,84,105,110,121,32,99,117,114,118,101,116,47,99,117,114,118,101,116,108,97,119,50,48,46,68,117,97,108,115,32,99,117,114,118,101,116,47,99,117,114,118,101,116,108,97,119,50,48,46,68,117,97,108,84,105,110,121,32,99,117,114,118,101,116,47,99,117,114,118,101,116,108,97,119,49,53,46,80,114,111,106,115,32,99,117,114,118,101,116,47,99,117,114,118,101,116,108,97,119,49,53,46,80,114,111,106,70,114,111,109,32,99,117,114,118,101,116,47,99,117,114,118,101,116,108,97,119,49,53,46,80,114,111,106,83,99,97,108,101,100,32,99,117,114,118,101,116,47,99,117,114,118,101,116,108,97,119,49,53,46,80,114,111,106,68,111,117,98,108,101,115,32,99,117,114,118,101,116,47,99,117,114,118,101,116,108,97,119,49,53,46,80,114,111,106,78,111,110,101,32,99,117,114,118,101,116,47,99,117,114,118,101,116,108,97,119,49,53,46,80,114,111,106,84,105,110,121,32,99,117,114,118,101,116,47,99,117,114,118,101,116,108,97,119,49,52,46,65,102,102,105,110,101,115,32,99,117,114,118,101,116,47,99,117,114,118,101,116,108,97,119,49,52,46,65,102,102,105,110,101,84,105,109,101,115,32,99,117,114,118,101,116,47,99,117,114,118,101,116,108,97,119,49,52,46,65,102,102,105,110,101,71,114,111,117,112,32,99,117,114,118,101,116,47,99,117,114,118,101,116,108,97,119,49,52,46,65,102,102,105,110,101,79,114,100,101,114,32,99,117,114,118,101,116,47,99,117,114,118,101,116,108,97,119,49,52,46,65,102,102,105,110,101,76,105,110,101,32,99,117,114,118,101,116,47,99,117,114,118,101,116,108,97,119,49,52,46,65,102,102,105,110,101,79,112,112,111,115,105,116,101,32,99,117,114,118,101,116,47,99,117,114,118,101,116,108,97,119,49,52,46,65,102,102,105,110,101,84,105,110,121,32,99,117,114,118,101,116,47,99,117,114,118,101,116,108,97,119,49,52,46,65,102,102,105,110,101,83,112,108,105,116,115,32,99,117,114,118,101,116,47,99,117,114,118,101,116,108,97,119,49,52,46,65,102,102,105,110,101,87,97,108,107,32,99,117,114,118,101,116,47,99,117,114,118,101,116,108,97,119,50,48,46,68,117,97,108,80,97,114,116,115,32,99,117,114,118,101,116,47,99,117,114,118,101,116,108,97,119,49,54,46,84,97,98,108,101,83,105,122,101,115,32,99,117,114,118,101,116,47,99,117,114,118,101,116,108,97,119,49,54,46,84,97,98,108,101,78,105,108,32,99,117,114,118,101,116,47,99,117,114,118,101,116,108,97,119,49,53,46,80,114,111,106,83,117,109,115,32,99,117,114,118,101,116,47,99,117,114,118,101,116,108,97,119,50,49,46,83,101,99,49,115,32,99,117,114,118,101,116,47,99,117,114,118,101,116,108,97,119,50,49,46,83,101,99,49,66,97,99,107,32,99,117,114,118,101,116,47,99,117,114,118,101,116,108,97,119,50,49,46,83,101,99,49,84,105,110,121,32,99,117,114,118,101,116,47,99,117,114,118,101,116,108,97,119,50,49,46,83,101,99,49,66,111,116,104,32,99,117,114,118,101,116,47,99,117,114,118,101,116,108,97,119,50,49,46,83,101,99,49,76,101,110,103,116,104,115,32,99,117,114,118,101,116,47,99,117,114,118,101,116,108,97,119,50,49,46,83,101,99,49,87,104,111,108,101,32,99,117,114,118,101,116,47,99,117,114,118,101,116,108,97,119,50,49,46,83,101,99,49,71,114,101,97,116,32,99,117,114,118,101,116,47,99,117,114,118,101,116,108,97,119,49,54,46,84,97,98,108,101,115,32,99,117,114,118,101,116,47,99,117,114,118,101,116,108,97,119,49,57,46,66,97,115,101,115]:List Nat).map Char.ofNat
theorem io_lit:Try.prog.initOrder = String.ofList ioChars:=by kernel_rfl
theorem io_list:Try.prog.initOrder.toList = ioChars:=by rw [io_lit,String.toList_ofList]
def cutW:List Char:=([99,117,116]:List Nat).map Char.ofNat
def ioRest:List (List Char):=(wordsSigns ioChars).drop 3
theorem io_words:behindMainWord (wordsSigns ioChars) = cutW :: ioRest:=by kernel_rfl
theorem io_strip (r:List (List Char)):stripLifts liftWords (cutW :: r) = ([],cutW :: r):=by kernel_rfl
theorem no_later:Try.prog.laysLater = false:=by kernel_rfl
theorem no_reflect:Try.prog.bearsReflect = false:=by kernel_rfl
theorem door_fits:Try.prog.doorFits [] = true:=by kernel_rfl
theorem and2 {a b:Bool} (h:a = true) (k:b = true):(a && b) = true:=by rw [h,k]; rfl
theorem or_right {a b:Bool} (h:b = true):(a || b) = true:=by rw [h]; cases a <;> rfl
theorem cut_is : (cutW == "cut".toList) = true := by kernel_rfl
theorem cut_gc : (cutW == "gc".toList) = false := by kernel_rfl
theorem cut_spec : (cutW == "spec".toList) = false := by kernel_rfl
theorem cut_carried : (cutW == "carried".toList) = false := by kernel_rfl
theorem head_carried (r : List (List Char)) : ((cutW :: r).head? == some "carried".toList) = false := cut_carried
theorem enter_of (P:Program) {r:List (List Char)} (h:behindMainWord (wordsSigns P.initOrder.toList) = cutW :: r) (h1:P.laysLater = false) (h2:P.bearsReflect = false) (h3:P.doorFits [] = true):P.mayEnter = true:=by
  unfold Program.mayEnter
  rw [h]
  dsimp only
  refine or_right (and2 (and2 (and2 (and2 ?_ ?_) ?_) ?_) ?_)
  · rw [io_strip]; exact cut_is
  · rw [io_strip,h1]; rfl
  · rw [io_strip,h2]; rfl
  · rw [io_strip]; rfl
  · rw [io_strip]; exact h3
theorem lifts_of (P:Program) {r:List (List Char)} (h:behindMainWord (wordsSigns P.initOrder.toList) = cutW :: r):(false == P.liftsFinal) = true:=by
  have hl:P.headLifts = []:=by
    unfold Program.headLifts
    rw [h,io_strip]
    simp only [ite_self]
  unfold Program.liftsFinal
  rw [h,hl]
  dsimp only
  rw [head_carried,Bool.false_and]
  rfl
theorem make_of (P:Program) {r:List (List Char)} (h:behindMainWord (wordsSigns P.initOrder.toList) = cutW :: r):(P.make == some .cut) = true:=by
  have:P.make = some .cut:=by
    unfold Program.make
    rw [h]
    dsimp only
    rw [if_neg (by rw [cut_gc,cut_spec]; exact fun h=>by cases h),if_pos (by rw [cut_is]; rfl)]
  rw [this]; rfl
theorem io_all:behindMainWord (wordsSigns Try.prog.initOrder.toList) = cutW :: ioRest:=by rw [io_list,io_words]
theorem fact_enter:Try.prog.mayEnter = true:=enter_of _ io_all no_later no_reflect door_fits
theorem fact_lifts:(false == Try.prog.liftsFinal) = true:=lifts_of _ io_all
theorem fact_make:(Try.prog.make == some .cut) = true:=make_of _ io_all
theorem fact_laid:laidOutB Try.prog = true:=by kernel_rfl
theorem fact_maps:mapsRowed Try.prog = true:=by kernel_rfl
theorem fact_heard:Try.prog.stopsHeard = true:=by kernel_rfl
end Go.Proofs.Ytljblbgogjieaaa
