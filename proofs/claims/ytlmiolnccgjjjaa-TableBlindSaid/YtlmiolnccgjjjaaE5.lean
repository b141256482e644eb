/- Part 5 of what the proof leans on: a symbolic execution of the model, walks of the program's functions, and the mathematics. No condition. -/
import Derived.WalkKit
import Derived.Orders
import Derived.Laws.StructEq
import Derived.WalkSpells
import Derived.OrdersHeld
import Derived.KernelRfl
import Derived.Laws.Externs
import Derived.Laws.Bits64
import Derived.Laws.MakeOwn
import Derived.Laws.BytesString
import Derived.Carry
import Derived.WideShapes
import GoSem.Claim
import Derived.Test.YtlmiolnccgjjjaaProg
import Derived.Laws.AppendOwn
import Derived.Test.YtlmiolnccgjjjaaRows
import Derived.ProofKit
import Derived.OpenShut
import Derived.Test.YtlmiolnccgjjjaaE4
set_option linter.unusedVariables false
set_option linter.unusedSimpArgs false
set_option maxRecDepth 20000
namespace Go.Proofs.Ytlmiolnccgjjjaa
open Go Go.RowKit
def cvC (id:Nat) (p:Nat) (a:Nat) (b:Nat) (n:Nat) (gx gy:Nat) (inf:Bool) (bits:Nat) (size:Nat) (leg:Bool) (F:Value) (t3:Nat):List Value:=[.int .i64 ((id:Nat):Int)]++(natL p++(natL a++(natL b++(natL n++(ptL gx gy inf++([.int .i64 ((bits:Nat):Int)]++([.int .i64 ((size:Nat):Int)]++([.bool leg]++([F]++(natL t3))))))))))
theorem cvC_at_id (id:Nat) (p:Nat) (a:Nat) (b:Nat) (n:Nat) (gx gy:Nat) (inf:Bool) (bits:Nat) (size:Nat) (leg:Bool) (F:Value) (t3:Nat):cvC id p a b n gx gy inf bits size leg F t3 = ([])++(([.int .i64 ((id:Nat):Int)])++(natL p++(natL a++(natL b++(natL n++(ptL gx gy inf++([.int .i64 ((bits:Nat):Int)]++([.int .i64 ((size:Nat):Int)]++([.bool leg]++([F]++(natL t3))))))))))):=by simp only [cvC,List.append_assoc,List.append_nil,List.nil_append]
theorem cvC_len_id  : ([]:List Value).length = 0:=by simp [KH,KV]
theorem cvC_set_id (id:Nat) (p:Nat) (a:Nat) (b:Nat) (n:Nat) (gx gy:Nat) (inf:Bool) (bits:Nat) (size:Nat) (leg:Bool) (F:Value) (t3:Nat) (id':Nat):splice (cvC id p a b n gx gy inf bits size leg F t3) 0 ([.int .i64 ((id':Nat):Int)]) = cvC id' p a b n gx gy inf bits size leg F t3:=splice_mid (cvC_at_id id p a b n gx gy inf bits size leg F t3) (cvC_len_id) (by simp [KH,KV]) (cvC_at_id id' p a b n gx gy inf bits size leg F t3)
theorem cvC_at_p (id:Nat) (p:Nat) (a:Nat) (b:Nat) (n:Nat) (gx gy:Nat) (inf:Bool) (bits:Nat) (size:Nat) (leg:Bool) (F:Value) (t3:Nat):cvC id p a b n gx gy inf bits size leg F t3 = ([.int .i64 ((id:Nat):Int)])++((natL p)++(natL a++(natL b++(natL n++(ptL gx gy inf++([.int .i64 ((bits:Nat):Int)]++([.int .i64 ((size:Nat):Int)]++([.bool leg]++([F]++(natL t3)))))))))):=by simp only [cvC,List.append_assoc,List.append_nil,List.nil_append]
theorem cvC_len_p (id:Nat):([.int .i64 ((id:Nat):Int)]:List Value).length = 1:=by simp [KH,KV]
theorem cvC_set_p (id:Nat) (p:Nat) (a:Nat) (b:Nat) (n:Nat) (gx gy:Nat) (inf:Bool) (bits:Nat) (size:Nat) (leg:Bool) (F:Value) (t3:Nat) (p':Nat):splice (cvC id p a b n gx gy inf bits size leg F t3) 1 (natL p') = cvC id p' a b n gx gy inf bits size leg F t3:=splice_mid (cvC_at_p id p a b n gx gy inf bits size leg F t3) (cvC_len_p id) (by simp [KH,KV]) (cvC_at_p id p' a b n gx gy inf bits size leg F t3)
theorem cvC_at_a (id:Nat) (p:Nat) (a:Nat) (b:Nat) (n:Nat) (gx gy:Nat) (inf:Bool) (bits:Nat) (size:Nat) (leg:Bool) (F:Value) (t3:Nat):cvC id p a b n gx gy inf bits size leg F t3 = ([.int .i64 ((id:Nat):Int)]++(natL p))++((natL a)++(natL b++(natL n++(ptL gx gy inf++([.int .i64 ((bits:Nat):Int)]++([.int .i64 ((size:Nat):Int)]++([.bool leg]++([F]++(natL t3))))))))):=by simp only [cvC,List.append_assoc,List.append_nil,List.nil_append]
theorem cvC_len_a (id:Nat) (p:Nat):([.int .i64 ((id:Nat):Int)]++(natL p):List Value).length = 10:=by simp [KH,KV]
theorem cvC_set_a (id:Nat) (p:Nat) (a:Nat) (b:Nat) (n:Nat) (gx gy:Nat) (inf:Bool) (bits:Nat) (size:Nat) (leg:Bool) (F:Value) (t3:Nat) (a':Nat):splice (cvC id p a b n gx gy inf bits size leg F t3) 10 (natL a') = cvC id p a' b n gx gy inf bits size leg F t3:=splice_mid (cvC_at_a id p a b n gx gy inf bits size leg F t3) (cvC_len_a id p) (by simp [KH,KV]) (cvC_at_a id p a' b n gx gy inf bits size leg F t3)
theorem cvC_at_b (id:Nat) (p:Nat) (a:Nat) (b:Nat) (n:Nat) (gx gy:Nat) (inf:Bool) (bits:Nat) (size:Nat) (leg:Bool) (F:Value) (t3:Nat):cvC id p a b n gx gy inf bits size leg F t3 = ([.int .i64 ((id:Nat):Int)]++(natL p++(natL a)))++((natL b)++(natL n++(ptL gx gy inf++([.int .i64 ((bits:Nat):Int)]++([.int .i64 ((size:Nat):Int)]++([.bool leg]++([F]++(natL t3)))))))):=by simp only [cvC,List.append_assoc,List.append_nil,List.nil_append]
theorem cvC_len_b (id:Nat) (p:Nat) (a:Nat):([.int .i64 ((id:Nat):Int)]++(natL p++(natL a)):List Value).length = 19:=by simp [KH,KV]
theorem cvC_set_b (id:Nat) (p:Nat) (a:Nat) (b:Nat) (n:Nat) (gx gy:Nat) (inf:Bool) (bits:Nat) (size:Nat) (leg:Bool) (F:Value) (t3:Nat) (b':Nat):splice (cvC id p a b n gx gy inf bits size leg F t3) 19 (natL b') = cvC id p a b' n gx gy inf bits size leg F t3:=splice_mid (cvC_at_b id p a b n gx gy inf bits size leg F t3) (cvC_len_b id p a) (by simp [KH,KV]) (cvC_at_b id p a b' n gx gy inf bits size leg F t3)
theorem cvC_at_n (id:Nat) (p:Nat) (a:Nat) (b:Nat) (n:Nat) (gx gy:Nat) (inf:Bool) (bits:Nat) (size:Nat) (leg:Bool) (F:Value) (t3:Nat):cvC id p a b n gx gy inf bits size leg F t3 = ([.int .i64 ((id:Nat):Int)]++(natL p++(natL a++(natL b))))++((natL n)++(ptL gx gy inf++([.int .i64 ((bits:Nat):Int)]++([.int .i64 ((size:Nat):Int)]++([.bool leg]++([F]++(natL t3))))))):=by simp only [cvC,List.append_assoc,List.append_nil,List.nil_append]
theorem cvC_len_n (id:Nat) (p:Nat) (a:Nat) (b:Nat):([.int .i64 ((id:Nat):Int)]++(natL p++(natL a++(natL b))):List Value).length = 28:=by simp [KH,KV]
theorem cvC_set_n (id:Nat) (p:Nat) (a:Nat) (b:Nat) (n:Nat) (gx gy:Nat) (inf:Bool) (bits:Nat) (size:Nat) (leg:Bool) (F:Value) (t3:Nat) (n':Nat):splice (cvC id p a b n gx gy inf bits size leg F t3) 28 (natL n') = cvC id p a b n' gx gy inf bits size leg F t3:=splice_mid (cvC_at_n id p a b n gx gy inf bits size leg F t3) (cvC_len_n id p a b) (by simp [KH,KV]) (cvC_at_n id p a b n' gx gy inf bits size leg F t3)
theorem cvC_at_g (id:Nat) (p:Nat) (a:Nat) (b:Nat) (n:Nat) (gx gy:Nat) (inf:Bool) (bits:Nat) (size:Nat) (leg:Bool) (F:Value) (t3:Nat):cvC id p a b n gx gy inf bits size leg F t3 = ([.int .i64 ((id:Nat):Int)]++(natL p++(natL a++(natL b++(natL n)))))++((ptL gx gy inf)++([.int .i64 ((bits:Nat):Int)]++([.int .i64 ((size:Nat):Int)]++([.bool leg]++([F]++(natL t3)))))):=by simp only [cvC,List.append_assoc,List.append_nil,List.nil_append]
theorem cvC_len_g (id:Nat) (p:Nat) (a:Nat) (b:Nat) (n:Nat):([.int .i64 ((id:Nat):Int)]++(natL p++(natL a++(natL b++(natL n)))):List Value).length = 37:=by simp [KH,KV]
theorem cvC_set_g (id:Nat) (p:Nat) (a:Nat) (b:Nat) (n:Nat) (gx gy:Nat) (inf:Bool) (bits:Nat) (size:Nat) (leg:Bool) (F:Value) (t3:Nat) (gx' gy':Nat) (inf':Bool):splice (cvC id p a b n gx gy inf bits size leg F t3) 37 (ptL gx' gy' inf') = cvC id p a b n gx' gy' inf' bits size leg F t3:=splice_mid (cvC_at_g id p a b n gx gy inf bits size leg F t3) (cvC_len_g id p a b n) (by simp [KH,KV]) (cvC_at_g id p a b n gx' gy' inf' bits size leg F t3)
theorem cvC_at_bits (id:Nat) (p:Nat) (a:Nat) (b:Nat) (n:Nat) (gx gy:Nat) (inf:Bool) (bits:Nat) (size:Nat) (leg:Bool) (F:Value) (t3:Nat):cvC id p a b n gx gy inf bits size leg F t3 = ([.int .i64 ((id:Nat):Int)]++(natL p++(natL a++(natL b++(natL n++(ptL gx gy inf))))))++(([.int .i64 ((bits:Nat):Int)])++([.int .i64 ((size:Nat):Int)]++([.bool leg]++([F]++(natL t3))))):=by simp only [cvC,List.append_assoc,List.append_nil,List.nil_append]
theorem cvC_len_bits (id:Nat) (p:Nat) (a:Nat) (b:Nat) (n:Nat) (gx gy:Nat) (inf:Bool):([.int .i64 ((id:Nat):Int)]++(natL p++(natL a++(natL b++(natL n++(ptL gx gy inf))))):List Value).length = 56:=by simp [KH,KV]
theorem cvC_set_bits (id:Nat) (p:Nat) (a:Nat) (b:Nat) (n:Nat) (gx gy:Nat) (inf:Bool) (bits:Nat) (size:Nat) (leg:Bool) (F:Value) (t3:Nat) (bits':Nat):splice (cvC id p a b n gx gy inf bits size leg F t3) 56 ([.int .i64 ((bits':Nat):Int)]) = cvC id p a b n gx gy inf bits' size leg F t3:=splice_mid (cvC_at_bits id p a b n gx gy inf bits size leg F t3) (cvC_len_bits id p a b n gx gy inf) (by simp [KH,KV]) (cvC_at_bits id p a b n gx gy inf bits' size leg F t3)
theorem cvC_at_size (id:Nat) (p:Nat) (a:Nat) (b:Nat) (n:Nat) (gx gy:Nat) (inf:Bool) (bits:Nat) (size:Nat) (leg:Bool) (F:Value) (t3:Nat):cvC id p a b n gx gy inf bits size leg F t3 = ([.int .i64 ((id:Nat):Int)]++(natL p++(natL a++(natL b++(natL n++(ptL gx gy inf++([.int .i64 ((bits:Nat):Int)])))))))++(([.int .i64 ((size:Nat):Int)])++([.bool leg]++([F]++(natL t3)))):=by simp only [cvC,List.append_assoc,List.append_nil,List.nil_append]
theorem cvC_len_size (id:Nat) (p:Nat) (a:Nat) (b:Nat) (n:Nat) (gx gy:Nat) (inf:Bool) (bits:Nat):([.int .i64 ((id:Nat):Int)]++(natL p++(natL a++(natL b++(natL n++(ptL gx gy inf++([.int .i64 ((bits:Nat):Int)])))))):List Value).length = 57:=by simp [KH,KV]
theorem cvC_set_size (id:Nat) (p:Nat) (a:Nat) (b:Nat) (n:Nat) (gx gy:Nat) (inf:Bool) (bits:Nat) (size:Nat) (leg:Bool) (F:Value) (t3:Nat) (size':Nat):splice (cvC id p a b n gx gy inf bits size leg F t3) 57 ([.int .i64 ((size':Nat):Int)]) = cvC id p a b n gx gy inf bits size' leg F t3:=splice_mid (cvC_at_size id p a b n gx gy inf bits size leg F t3) (cvC_len_size id p a b n gx gy inf bits) (by simp [KH,KV]) (cvC_at_size id p a b n gx gy inf bits size' leg F t3)
theorem cvC_at_leg (id:Nat) (p:Nat) (a:Nat) (b:Nat) (n:Nat) (gx gy:Nat) (inf:Bool) (bits:Nat) (size:Nat) (leg:Bool) (F:Value) (t3:Nat):cvC id p a b n gx gy inf bits size leg F t3 = ([.int .i64 ((id:Nat):Int)]++(natL p++(natL a++(natL b++(natL n++(ptL gx gy inf++([.int .i64 ((bits:Nat):Int)]++([.int .i64 ((size:Nat):Int)]))))))))++(([.bool leg])++([F]++(natL t3))):=by simp only [cvC,List.append_assoc,List.append_nil,List.nil_append]
theorem cvC_len_leg (id:Nat) (p:Nat) (a:Nat) (b:Nat) (n:Nat) (gx gy:Nat) (inf:Bool) (bits:Nat) (size:Nat):([.int .i64 ((id:Nat):Int)]++(natL p++(natL a++(natL b++(natL n++(ptL gx gy inf++([.int .i64 ((bits:Nat):Int)]++([.int .i64 ((size:Nat):Int)]))))))):List Value).length = 58:=by simp [KH,KV]
theorem cvC_set_leg (id:Nat) (p:Nat) (a:Nat) (b:Nat) (n:Nat) (gx gy:Nat) (inf:Bool) (bits:Nat) (size:Nat) (leg:Bool) (F:Value) (t3:Nat) (leg':Bool):splice (cvC id p a b n gx gy inf bits size leg F t3) 58 ([.bool leg']) = cvC id p a b n gx gy inf bits size leg' F t3:=splice_mid (cvC_at_leg id p a b n gx gy inf bits size leg F t3) (cvC_len_leg id p a b n gx gy inf bits size) (by simp [KH,KV]) (cvC_at_leg id p a b n gx gy inf bits size leg' F t3)
theorem cvC_at_F (id:Nat) (p:Nat) (a:Nat) (b:Nat) (n:Nat) (gx gy:Nat) (inf:Bool) (bits:Nat) (size:Nat) (leg:Bool) (F:Value) (t3:Nat):cvC id p a b n gx gy inf bits size leg F t3 = ([.int .i64 ((id:Nat):Int)]++(natL p++(natL a++(natL b++(natL n++(ptL gx gy inf++([.int .i64 ((bits:Nat):Int)]++([.int .i64 ((size:Nat):Int)]++([.bool leg])))))))))++(([F])++(natL t3)):=by simp only [cvC,List.append_assoc,List.append_nil,List.nil_append]
theorem cvC_len_F (id:Nat) (p:Nat) (a:Nat) (b:Nat) (n:Nat) (gx gy:Nat) (inf:Bool) (bits:Nat) (size:Nat) (leg:Bool):([.int .i64 ((id:Nat):Int)]++(natL p++(natL a++(natL b++(natL n++(ptL gx gy inf++([.int .i64 ((bits:Nat):Int)]++([.int .i64 ((size:Nat):Int)]++([.bool leg])))))))):List Value).length = 59:=by simp [KH,KV]
theorem cvC_at_t3 (id:Nat) (p:Nat) (a:Nat) (b:Nat) (n:Nat) (gx gy:Nat) (inf:Bool) (bits:Nat) (size:Nat) (leg:Bool) (F:Value) (t3:Nat):cvC id p a b n gx gy inf bits size leg F t3 = ([.int .i64 ((id:Nat):Int)]++(natL p++(natL a++(natL b++(natL n++(ptL gx gy inf++([.int .i64 ((bits:Nat):Int)]++([.int .i64 ((size:Nat):Int)]++([.bool leg]++([F]))))))))))++((natL t3)++([])):=by simp only [cvC,List.append_assoc,List.append_nil,List.nil_append]
theorem cvC_len_t3 (id:Nat) (p:Nat) (a:Nat) (b:Nat) (n:Nat) (gx gy:Nat) (inf:Bool) (bits:Nat) (size:Nat) (leg:Bool) (F:Value):([.int .i64 ((id:Nat):Int)]++(natL p++(natL a++(natL b++(natL n++(ptL gx gy inf++([.int .i64 ((bits:Nat):Int)]++([.int .i64 ((size:Nat):Int)]++([.bool leg]++([F]))))))))):List Value).length = 60:=by simp [KH,KV]
theorem cvC_set_t3 (id:Nat) (p:Nat) (a:Nat) (b:Nat) (n:Nat) (gx gy:Nat) (inf:Bool) (bits:Nat) (size:Nat) (leg:Bool) (F:Value) (t3:Nat) (t3':Nat):splice (cvC id p a b n gx gy inf bits size leg F t3) 60 (natL t3') = cvC id p a b n gx gy inf bits size leg F t3':=splice_mid (cvC_at_t3 id p a b n gx gy inf bits size leg F t3) (cvC_len_t3 id p a b n gx gy inf bits size leg F) (by simp [KH,KV]) (cvC_at_t3 id p a b n gx gy inf bits size leg F t3')
theorem KAm (id:Nat) (p:Nat) (a:Nat) (b:Nat) (n:Nat) (gx gy:Nat) (inf:Bool) (bits:Nat) (size:Nat) (leg:Bool) (F:Value) (t3:Nat):(cvC id p a b n gx gy inf bits size leg F t3).length = 69:=by simp [cvC,KH,KV]
theorem cvC_zero:([Value.int .i64 ((0:Nat):Int)]++(vec .u64 9 (fun _=>0)++(vec .u64 9 (fun _=>0)++(vec .u64 9 (fun _=>0)++(vec .u64 9 (fun _=>0)++(vec .u64 9 (fun _=>0)++(vec .u64 9 (fun _=>0)++([Value.bool false,Value.int .i64 ((0:Nat):Int),Value.int .i64 ((0:Nat):Int),Value.bool false,Value.pointer none]++(vec .u64 9 (fun _=>0))))))))):List Value) = cvC 0 0 0 0 0 0 0 false 0 0 false (.pointer none) 0:=by
  simp only [cvC,natL,ptL,vec_zeros 9,List.append_assoc,List.cons_append,List.nil_append]
theorem fillF (F:Value) (h1:F.cells = #[F]):fillL [(0,59),(59,1),(60,9)] ([Value.int .i64 ((0:Nat):Int)]++(vec .u64 9 (fun _=>0)++(vec .u64 9 (fun _=>0)++(vec .u64 9 (fun _=>0)++(vec .u64 9 (fun _=>0)++(vec .u64 9 (fun _=>0)++(vec .u64 9 (fun _=>0)++([Value.bool false,Value.int .i64 ((0:Nat):Int),Value.int .i64 ((0:Nat):Int),Value.bool false,Value.pointer none]++(vec .u64 9 (fun _=>0))))))))) ) [(1,F)] = some (cvC 0 0 0 0 0 0 0 false 0 0 false F 0):=by
  rw [cvC_zero]
  refine KAl (cs:=[F]) rfl (by rw [h1]) rfl (cvC_at_F _ _ _ _ _ _ _ _ _ _ _ _ _) (cvC_len_F _ _ _ _ _ _ _ _ _ _ _) rfl ?_
  unfold fillL
  rw [cvC_at_F]
theorem cvC_ld_a (id:Nat) (p:Nat) (a:Nat) (b:Nat) (n:Nat) (gx gy:Nat) (inf:Bool) (bits:Nat) (size:Nat) (leg:Bool) (F:Value) (t3:Nat) (wr:Bool) (e:TypeId) (fz:Nat×Nat):LoadV Try.prog 33 ⟨wr,cvC id p a b n gx gy inf bits size leg F t3,e,fz⟩ 10 (.agg (natL a).toArray):=LoadV.mid Try.underlying33 rfl sz_33 (cvC_at_a id p a b n gx gy inf bits size leg F t3) (cvC_len_a id p) (by simp [KH,KV])
theorem cvC_ld_b (id:Nat) (p:Nat) (a:Nat) (b:Nat) (n:Nat) (gx gy:Nat) (inf:Bool) (bits:Nat) (size:Nat) (leg:Bool) (F:Value) (t3:Nat) (wr:Bool) (e:TypeId) (fz:Nat×Nat):LoadV Try.prog 33 ⟨wr,cvC id p a b n gx gy inf bits size leg F t3,e,fz⟩ 19 (.agg (natL b).toArray):=LoadV.mid Try.underlying33 rfl sz_33 (cvC_at_b id p a b n gx gy inf bits size leg F t3) (cvC_len_b id p a) (by simp [KH,KV])
theorem cvC_ld_n (id:Nat) (p:Nat) (a:Nat) (b:Nat) (n:Nat) (gx gy:Nat) (inf:Bool) (bits:Nat) (size:Nat) (leg:Bool) (F:Value) (t3:Nat) (wr:Bool) (e:TypeId) (fz:Nat×Nat):LoadV Try.prog 33 ⟨wr,cvC id p a b n gx gy inf bits size leg F t3,e,fz⟩ 28 (.agg (natL n).toArray):=LoadV.mid Try.underlying33 rfl sz_33 (cvC_at_n id p a b n gx gy inf bits size leg F t3) (cvC_len_n id p a b) (by simp [KH,KV])
theorem cvC_gt_F (id:Nat) (p:Nat) (a:Nat) (b:Nat) (n:Nat) (gx gy:Nat) (inf:Bool) (bits:Nat) (size:Nat) (leg:Bool) (F:Value) (t3:Nat):(cvC id p a b n gx gy inf bits size leg F t3)[59]? = some (F):=get_mid (cvC_at_F id p a b n gx gy inf bits size leg F t3) (cvC_len_F id p a b n gx gy inf bits size leg)
theorem cvC_ld_t3 (id:Nat) (p:Nat) (a:Nat) (b:Nat) (n:Nat) (gx gy:Nat) (inf:Bool) (bits:Nat) (size:Nat) (leg:Bool) (F:Value) (t3:Nat) (wr:Bool) (e:TypeId) (fz:Nat×Nat):LoadV Try.prog 33 ⟨wr,cvC id p a b n gx gy inf bits size leg F t3,e,fz⟩ 60 (.agg (natL t3).toArray):=LoadV.mid Try.underlying33 rfl sz_33 (cvC_at_t3 id p a b n gx gy inf bits size leg F t3) (cvC_len_t3 id p a b n gx gy inf bits size leg F) (by simp [KH,KV])
def rowsB (V:Cv) (s0 s1 s2 s3 s4:ByteArray):Bool:=(if s0.data.toList = [45,51] then Nat.beq (V.a+3) V.p else hexB s0 V.a) && hexB s1 V.b && hexB s2 V.n && hexB s3 V.x && hexB s4 V.y
theorem rowsB_spec {V:Cv} {s0 s1 s2 s3 s4:ByteArray} (h:rowsB V s0 s1 s2 s3 s4 = true):((s0.data.toList = [45,51]∧V.a+3 = V.p)∨(s0.data.toList≠[45,51]∧hexB s0 V.a = true))∧hexB s1 V.b = true∧hexB s2 V.n = true∧hexB s3 V.x = true∧hexB s4 V.y = true:=by
  simp only [rowsB,Bool.and_eq_true] at h
  obtain ⟨⟨⟨⟨h1,h2⟩,h3⟩,h4⟩,h5⟩:=h
  refine ⟨?_,h2,h3,h4,h5⟩
  split at h1
  · exact .inl ⟨by assumption,Nat.eq_of_beq_eq_true h1⟩
  · exact .inr ⟨by assumption,h1⟩
theorem c_rows (id:Int) (w:World)  : Calls Try.prog 113 ([.int .i64 id]:List Value).toArray w (fun e w'=>(∃ V,cvI id = some V∧∃ v,(∃ s0 s1 s2 s3 s4,v = .agg [.string s0,.string s1,.string s2,.string s3,.string s4].toArray∧rowsB V s0 s1 s2 s3 s4 = true)∧e = .returned v∧Below w.heap.size w w')∨cvI id = none):=by
  refine Ky (N:=50) (rs:=[.cell 2 156]) [] Try.func113 rfl Try.ntmps113 Try.results113 (Nb rfl) trivial rfl ?_
  show LCode _ _ _ ⟨_,_⟩ _
  refine KD (KB ?_)
  refine KI rfl (KS (KR (Ke zr_156) (Nb rfl) (fun b2=>?_)))
  refine KG ?_
  refine KD ?_
  refine KD (KB ?_)
  refine KA (KC rfl) (Nb rfl) ?_
  refine KG ?_
  refine LCode.block ?_
  refine KD (KB ?_)
  refine KA (KK (v:=.bool (decide (id = 1))) rfl rfl KAg) (Nb rfl) ?_
  refine KA (KF rfl) (Nb rfl) ?_
  refine KG ?_
  first|refine Kh rfl (fun hk1=>?_) (fun hk1=>?_)|refine Kj rfl (fun hk1=>?_) (fun hk1=>?_)
  ·
    refine KD (KB ?_)
    refine KA (Det.buildN (n:=5) pl_156 zr_156 rfl rfl rfl rfl rfl) (Nb rfl) ?_
    refine KI rfl (KQ rfl rfl sz_156 (by repeat (first|exact KY|refine KW rfl ?_)) (by repeat (first|exact Sh _|apply St_)) (by rfl) ?_)
    refine KG (KX ?_)
    refine ⟨[_],.cons ⟨_,_,_,rfl,(by repeat (first|exact Mh _|apply Mt)),by exact KO Try.underlying156 rfl sz_156⟩ .nil,fun a w' hr=>?_⟩
    exact .inl ⟨cv1,by rw [hk1]; rfl,_,⟨_,_,_,_,_,rfl,by kernel_rfl⟩,rfl,hr.fr.below⟩
  ·
    refine KD (KB ?_)
    refine KA (KK (v:=.bool (decide (id = 2))) rfl rfl KAg) (Nb rfl) ?_
    refine KA (KF rfl) (Nb rfl) ?_
    refine KG ?_
    first|refine Kh rfl (fun hk2=>?_) (fun hk2=>?_)|refine Kj rfl (fun hk2=>?_) (fun hk2=>?_)
    ·
      refine KD (KB ?_)
      refine KA (Det.buildN (n:=5) pl_156 zr_156 rfl rfl rfl rfl rfl) (Nb rfl) ?_
      refine KI rfl (KQ rfl rfl sz_156 (by repeat (first|exact KY|refine KW rfl ?_)) (by repeat (first|exact Sh _|apply St_)) (by rfl) ?_)
      refine KG (KX ?_)
      refine ⟨[_],.cons ⟨_,_,_,rfl,(by repeat (first|exact Mh _|apply Mt)),by exact KO Try.underlying156 rfl sz_156⟩ .nil,fun a w' hr=>?_⟩
      exact .inl ⟨cv2,by rw [hk2]; rfl,_,⟨_,_,_,_,_,rfl,by kernel_rfl⟩,rfl,hr.fr.below⟩
    ·
      refine KD (KB ?_)
      refine KA (KK (v:=.bool (decide (id = 3))) rfl rfl KAg) (Nb rfl) ?_
      refine KA (KF rfl) (Nb rfl) ?_
      refine KG ?_
      first|refine Kh rfl (fun hk3=>?_) (fun hk3=>?_)|refine Kj rfl (fun hk3=>?_) (fun hk3=>?_)
      ·
        refine KD (KB ?_)
        refine KA (Det.buildN (n:=5) pl_156 zr_156 rfl rfl rfl rfl rfl) (Nb rfl) ?_
        refine KI rfl (KQ rfl rfl sz_156 (by repeat (first|exact KY|refine KW rfl ?_)) (by repeat (first|exact Sh _|apply St_)) (by rfl) ?_)
        refine KG (KX ?_)
        refine ⟨[_],.cons ⟨_,_,_,rfl,(by repeat (first|exact Mh _|apply Mt)),by exact KO Try.underlying156 rfl sz_156⟩ .nil,fun a w' hr=>?_⟩
        exact .inl ⟨cv3,by rw [hk3]; rfl,_,⟨_,_,_,_,_,rfl,by kernel_rfl⟩,rfl,hr.fr.below⟩
      ·
        refine KD (KB ?_)
        refine KA (KK (v:=.bool (decide (id = 4))) rfl rfl KAg) (Nb rfl) ?_
        refine KA (KF rfl) (Nb rfl) ?_
        refine KG ?_
        first|refine Kh rfl (fun hk4=>?_) (fun hk4=>?_)|refine Kj rfl (fun hk4=>?_) (fun hk4=>?_)
        ·
          refine KD (KB ?_)
          refine KA (Det.buildN (n:=5) pl_156 zr_156 rfl rfl rfl rfl rfl) (Nb rfl) ?_
          refine KI rfl (KQ rfl rfl sz_156 (by repeat (first|exact KY|refine KW rfl ?_)) (by repeat (first|exact Sh _|apply St_)) (by rfl) ?_)
          refine KG (KX ?_)
          refine ⟨[_],.cons ⟨_,_,_,rfl,(by repeat (first|exact Mh _|apply Mt)),by exact KO Try.underlying156 rfl sz_156⟩ .nil,fun a w' hr=>?_⟩
          exact .inl ⟨cv4,by rw [hk4]; rfl,_,⟨_,_,_,_,_,rfl,by kernel_rfl⟩,rfl,hr.fr.below⟩
        ·
          refine KD (KB ?_)
          refine KA (KK (v:=.bool (decide (id = 5))) rfl rfl KAg) (Nb rfl) ?_
          refine KA (KF rfl) (Nb rfl) ?_
          refine KG ?_
          first|refine Kh rfl (fun hk5=>?_) (fun hk5=>?_)|refine Kj rfl (fun hk5=>?_) (fun hk5=>?_)
          ·
            refine KD (KB ?_)
            refine KA (Det.buildN (n:=5) pl_156 zr_156 rfl rfl rfl rfl rfl) (Nb rfl) ?_
            refine KI rfl (KQ rfl rfl sz_156 (by repeat (first|exact KY|refine KW rfl ?_)) (by repeat (first|exact Sh _|apply St_)) (by rfl) ?_)
            refine KG (KX ?_)
            refine ⟨[_],.cons ⟨_,_,_,rfl,(by repeat (first|exact Mh _|apply Mt)),by exact KO Try.underlying156 rfl sz_156⟩ .nil,fun a w' hr=>?_⟩
            exact .inl ⟨cv5,by rw [hk5]; rfl,_,⟨_,_,_,_,_,rfl,by kernel_rfl⟩,rfl,hr.fr.below⟩
          ·
            refine KD (KB ?_)
            refine KA (KK (v:=.bool (decide (id = 6))) rfl rfl KAg) (Nb rfl) ?_
            refine KA (KF rfl) (Nb rfl) ?_
            refine KG ?_
            first|refine Kh rfl (fun hk6=>?_) (fun hk6=>?_)|refine Kj rfl (fun hk6=>?_) (fun hk6=>?_)
            ·
              refine KD (KB ?_)
              refine KA (Det.buildN (n:=5) pl_156 zr_156 rfl rfl rfl rfl rfl) (Nb rfl) ?_
              refine KI rfl (KQ rfl rfl sz_156 (by repeat (first|exact KY|refine KW rfl ?_)) (by repeat (first|exact Sh _|apply St_)) (by rfl) ?_)
              refine KG (KX ?_)
              refine ⟨[_],.cons ⟨_,_,_,rfl,(by repeat (first|exact Mh _|apply Mt)),by exact KO Try.underlying156 rfl sz_156⟩ .nil,fun a w' hr=>?_⟩
              exact .inl ⟨cv6,by rw [hk6]; rfl,_,⟨_,_,_,_,_,rfl,by kernel_rfl⟩,rfl,hr.fr.below⟩
            ·
              refine KD (KB ?_)
              refine KA (KK (v:=.bool (decide (id = 7))) rfl rfl KAg) (Nb rfl) ?_
              refine KA (KF rfl) (Nb rfl) ?_
              refine KG ?_
              first|refine Kh rfl (fun hk7=>?_) (fun hk7=>?_)|refine Kj rfl (fun hk7=>?_) (fun hk7=>?_)
              ·
                refine KD (KB ?_)
                refine KA (Det.buildN (n:=5) pl_156 zr_156 rfl rfl rfl rfl rfl) (Nb rfl) ?_
                refine KI rfl (KQ rfl rfl sz_156 (by repeat (first|exact KY|refine KW rfl ?_)) (by repeat (first|exact Sh _|apply St_)) (by rfl) ?_)
                refine KG (KX ?_)
                refine ⟨[_],.cons ⟨_,_,_,rfl,(by repeat (first|exact Mh _|apply Mt)),by exact KO Try.underlying156 rfl sz_156⟩ .nil,fun a w' hr=>?_⟩
                exact .inl ⟨cv7,by rw [hk7]; rfl,_,⟨_,_,_,_,_,rfl,by kernel_rfl⟩,rfl,hr.fr.below⟩
              ·
                refine KD (KB ?_)
                refine KA (KK (v:=.bool (decide (id = 8))) rfl rfl KAg) (Nb rfl) ?_
                refine KA (KF rfl) (Nb rfl) ?_
                refine KG ?_
                first|refine Kh rfl (fun hk8=>?_) (fun hk8=>?_)|refine Kj rfl (fun hk8=>?_) (fun hk8=>?_)
                ·
                  refine KD (KB ?_)
                  refine KA (Det.buildN (n:=5) pl_156 zr_156 rfl rfl rfl rfl rfl) (Nb rfl) ?_
                  refine KI rfl (KQ rfl rfl sz_156 (by repeat (first|exact KY|refine KW rfl ?_)) (by repeat (first|exact Sh _|apply St_)) (by rfl) ?_)
                  refine KG (KX ?_)
                  refine ⟨[_],.cons ⟨_,_,_,rfl,(by repeat (first|exact Mh _|apply Mt)),by exact KO Try.underlying156 rfl sz_156⟩ .nil,fun a w' hr=>?_⟩
                  exact .inl ⟨cv8,by rw [hk8]; rfl,_,⟨_,_,_,_,_,rfl,by kernel_rfl⟩,rfl,hr.fr.below⟩
                ·
                  refine KD (KB ?_)
                  refine KA (KK (v:=.bool (decide (id = 9))) rfl rfl KAg) (Nb rfl) ?_
                  refine KA (KF rfl) (Nb rfl) ?_
                  refine KG ?_
                  first|refine Kh rfl (fun hk9=>?_) (fun hk9=>?_)|refine Kj rfl (fun hk9=>?_) (fun hk9=>?_)
                  ·
                    refine KD (KB ?_)
                    refine KA (Det.buildN (n:=5) pl_156 zr_156 rfl rfl rfl rfl rfl) (Nb rfl) ?_
                    refine KI rfl (KQ rfl rfl sz_156 (by repeat (first|exact KY|refine KW rfl ?_)) (by repeat (first|exact Sh _|apply St_)) (by rfl) ?_)
                    refine KG (KX ?_)
                    refine ⟨[_],.cons ⟨_,_,_,rfl,(by repeat (first|exact Mh _|apply Mt)),by exact KO Try.underlying156 rfl sz_156⟩ .nil,fun a w' hr=>?_⟩
                    exact .inl ⟨cv9,by rw [hk9]; rfl,_,⟨_,_,_,_,_,rfl,by kernel_rfl⟩,rfl,hr.fr.below⟩
                  ·
                    refine KD (KB ?_)
                    refine KA (KK (v:=.bool (decide (id = 10))) rfl rfl KAg) (Nb rfl) ?_
                    refine KA (KF rfl) (Nb rfl) ?_
                    refine KG ?_
                    first|refine Kh rfl (fun hk10=>?_) (fun hk10=>?_)|refine Kj rfl (fun hk10=>?_) (fun hk10=>?_)
                    ·
                      refine KD (KB ?_)
                      refine KA (Det.buildN (n:=5) pl_156 zr_156 rfl rfl rfl rfl rfl) (Nb rfl) ?_
                      refine KI rfl (KQ rfl rfl sz_156 (by repeat (first|exact KY|refine KW rfl ?_)) (by repeat (first|exact Sh _|apply St_)) (by rfl) ?_)
                      refine KG (KX ?_)
                      refine ⟨[_],.cons ⟨_,_,_,rfl,(by repeat (first|exact Mh _|apply Mt)),by exact KO Try.underlying156 rfl sz_156⟩ .nil,fun a w' hr=>?_⟩
                      exact .inl ⟨cv10,by rw [hk10]; rfl,_,⟨_,_,_,_,_,rfl,by kernel_rfl⟩,rfl,hr.fr.below⟩
                    ·
                      refine KD (KB ?_)
                      refine KA (KK (v:=.bool (decide (id = 11))) rfl rfl KAg) (Nb rfl) ?_
                      refine KA (KF rfl) (Nb rfl) ?_
                      refine KG ?_
                      first|refine Kh rfl (fun hk11=>?_) (fun hk11=>?_)|refine Kj rfl (fun hk11=>?_) (fun hk11=>?_)
                      ·
                        refine KD (KB ?_)
                        refine KA (Det.buildN (n:=5) pl_156 zr_156 rfl rfl rfl rfl rfl) (Nb rfl) ?_
                        refine KI rfl (KQ rfl rfl sz_156 (by repeat (first|exact KY|refine KW rfl ?_)) (by repeat (first|exact Sh _|apply St_)) (by rfl) ?_)
                        refine KG (KX ?_)
                        refine ⟨[_],.cons ⟨_,_,_,rfl,(by repeat (first|exact Mh _|apply Mt)),by exact KO Try.underlying156 rfl sz_156⟩ .nil,fun a w' hr=>?_⟩
                        exact .inl ⟨cv11,by rw [hk11]; rfl,_,⟨_,_,_,_,_,rfl,by kernel_rfl⟩,rfl,hr.fr.below⟩
                      ·
                        refine KD (KB ?_)
                        refine KA (KK (v:=.bool (decide (id = 12))) rfl rfl KAg) (Nb rfl) ?_
                        refine KA (KF rfl) (Nb rfl) ?_
                        refine KG ?_
                        first|refine Kh rfl (fun hk12=>?_) (fun hk12=>?_)|refine Kj rfl (fun hk12=>?_) (fun hk12=>?_)
                        ·
                          refine KD (KB ?_)
                          refine KA (Det.buildN (n:=5) pl_156 zr_156 rfl rfl rfl rfl rfl) (Nb rfl) ?_
                          refine KI rfl (KQ rfl rfl sz_156 (by repeat (first|exact KY|refine KW rfl ?_)) (by repeat (first|exact Sh _|apply St_)) (by rfl) ?_)
                          refine KG (KX ?_)
                          refine ⟨[_],.cons ⟨_,_,_,rfl,(by repeat (first|exact Mh _|apply Mt)),by exact KO Try.underlying156 rfl sz_156⟩ .nil,fun a w' hr=>?_⟩
                          exact .inl ⟨cv12,by rw [hk12]; rfl,_,⟨_,_,_,_,_,rfl,by kernel_rfl⟩,rfl,hr.fr.below⟩
                        ·
                          refine KD (KB ?_)
                          refine KA (KK (v:=.bool (decide (id = 13))) rfl rfl KAg) (Nb rfl) ?_
                          refine KA (KF rfl) (Nb rfl) ?_
                          refine KG ?_
                          first|refine Kh rfl (fun hk13=>?_) (fun hk13=>?_)|refine Kj rfl (fun hk13=>?_) (fun hk13=>?_)
                          ·
                            refine KD (KB ?_)
                            refine KA (Det.buildN (n:=5) pl_156 zr_156 rfl rfl rfl rfl rfl) (Nb rfl) ?_
                            refine KI rfl (KQ rfl rfl sz_156 (by repeat (first|exact KY|refine KW rfl ?_)) (by repeat (first|exact Sh _|apply St_)) (by rfl) ?_)
                            refine KG (KX ?_)
                            refine ⟨[_],.cons ⟨_,_,_,rfl,(by repeat (first|exact Mh _|apply Mt)),by exact KO Try.underlying156 rfl sz_156⟩ .nil,fun a w' hr=>?_⟩
                            exact .inl ⟨cv13,by rw [hk13]; rfl,_,⟨_,_,_,_,_,rfl,by kernel_rfl⟩,rfl,hr.fr.below⟩
                          ·
                            refine KD (KB ?_)
                            refine KA (KK (v:=.bool (decide (id = 14))) rfl rfl KAg) (Nb rfl) ?_
                            refine KA (KF rfl) (Nb rfl) ?_
                            refine KG ?_
                            first|refine Kh rfl (fun hk14=>?_) (fun hk14=>?_)|refine Kj rfl (fun hk14=>?_) (fun hk14=>?_)
                            ·
                              refine KD (KB ?_)
                              refine KA (Det.buildN (n:=5) pl_156 zr_156 rfl rfl rfl rfl rfl) (Nb rfl) ?_
                              refine KI rfl (KQ rfl rfl sz_156 (by repeat (first|exact KY|refine KW rfl ?_)) (by repeat (first|exact Sh _|apply St_)) (by rfl) ?_)
                              refine KG (KX ?_)
                              refine ⟨[_],.cons ⟨_,_,_,rfl,(by repeat (first|exact Mh _|apply Mt)),by exact KO Try.underlying156 rfl sz_156⟩ .nil,fun a w' hr=>?_⟩
                              exact .inl ⟨cv14,by rw [hk14]; rfl,_,⟨_,_,_,_,_,rfl,by kernel_rfl⟩,rfl,hr.fr.below⟩
                            ·
                              refine KD (KB ?_)
                              refine KA (KK (v:=.bool (decide (id = 15))) rfl rfl KAg) (Nb rfl) ?_
                              refine KA (KF rfl) (Nb rfl) ?_
                              refine KG ?_
                              first|refine Kh rfl (fun hk15=>?_) (fun hk15=>?_)|refine Kj rfl (fun hk15=>?_) (fun hk15=>?_)
                              ·
                                refine KD (KB ?_)
                                refine KA (Det.buildN (n:=5) pl_156 zr_156 rfl rfl rfl rfl rfl) (Nb rfl) ?_
                                refine KI rfl (KQ rfl rfl sz_156 (by repeat (first|exact KY|refine KW rfl ?_)) (by repeat (first|exact Sh _|apply St_)) (by rfl) ?_)
                                refine KG (KX ?_)
                                refine ⟨[_],.cons ⟨_,_,_,rfl,(by repeat (first|exact Mh _|apply Mt)),by exact KO Try.underlying156 rfl sz_156⟩ .nil,fun a w' hr=>?_⟩
                                exact .inl ⟨cv15,by rw [hk15]; rfl,_,⟨_,_,_,_,_,rfl,by kernel_rfl⟩,rfl,hr.fr.below⟩
                              ·
                                refine Kf ?_
                                refine KD (KB ?_)
                                refine KA (KT (KAQ pl_156 zr_156 rfl rfl) (show _ = Value.agg [.string ⟨#[]⟩,.string ⟨#[]⟩,.string ⟨#[]⟩,.string ⟨#[]⟩,.string ⟨#[]⟩].toArray from rfl)) (Nb rfl) ?_
                                refine KI rfl (KQ rfl rfl sz_156 (by repeat (first|exact KY|refine KW rfl ?_)) (by repeat (first|exact Sh _|apply St_)) (by rfl) ?_)
                                refine KG (KX ?_)
                                refine ⟨[_],.cons ⟨_,_,_,rfl,(by repeat (first|exact Mh _|apply Mt)),by exact KO Try.underlying156 rfl sz_156⟩ .nil,fun a w' hr=>?_⟩
                                exact .inr (cvI_none hk1 hk2 hk3 hk4 hk5 hk6 hk7 hk8 hk9 hk10 hk11 hk12 hk13 hk14 hk15)
theorem c_rows_some (id:Int) (V:Cv) (w:World) (h:cvI id = some V):Calls Try.prog 113 ([.int .i64 id]:List Value).toArray w (fun e w'=>∃ v,(∃ s0 s1 s2 s3 s4,v = .agg [.string s0,.string s1,.string s2,.string s3,.string s4].toArray∧rowsB V s0 s1 s2 s3 s4 = true)∧e = .returned v∧Below w.heap.size w w') :=
  (c_rows id w).mono fun e w' h'=>by
    rcases h' with ⟨V',hV,h1⟩|h1
    · rw [h] at hV; cases hV; exact h1
    · rw [h] at h1; cases h1
end Go.Proofs.Ytlmiolnccgjjjaa
set_option linter.unusedVariables false
set_option linter.unusedSimpArgs false
set_option maxRecDepth 20000
namespace Go.Proofs.Ytlmiolnccgjjjaa
open Go Go.RowKit
theorem blen_w9 {A:Nat} (h:A<W9):blen A≤576:=by
  obtain ⟨k,hk⟩:∃ k:Nat,k = 9:=⟨9,rfl⟩
  have:=blen_le (lt_w9_pow h k hk)
  omega
def legB (V:Cv):Bool:=decide (V.id = 1∨V.id = 7)
def thr (V:Cv):Nat:=((V.b+V.b)%V.p+V.b)%V.p
def opL (V:Cv) (f:Nat):List Value:=cvC V.id V.p V.a V.b V.n V.x V.y false (blen V.n) (nby V.p) (legB V) (.pointer (some ⟨f,0,none⟩)) (thr V)
theorem fill_pt (X Y:Nat):fillL [(0,9),(9,9),(18,1)] (vec .u64 9 (fun _=>0)++(vec .u64 9 (fun _=>0)++[Value.bool false])) [(0,natV X),(1,natV Y)] = some (ptL X Y false):=by
  refine KAl (A:=[]) (B:=vec .u64 9 (fun _=>0)) (D:=vec .u64 9 (fun _=>0)++[Value.bool false]) (cs:=natL X) rfl rfl (KH _) rfl rfl (KN _ _ _) ?_
  refine (KAl (A:=natL X) (B:=vec .u64 9 (fun _=>0)) (D:=[Value.bool false]) (cs:=natL Y) rfl rfl (KH _) (by simp) (KH _) (KN _ _ _) rfl).trans ?_
  simp [ptL]
theorem c_Open (id:Int) (V:Cv) (w:World) (h:cvI id = some V):Calls Try.prog 80 ([.int .i64 id]:List Value).toArray w (fun e w'=>∃ b f bd,e = .returned (.pointer (some ⟨b,0,none⟩))∧(Item.blk b ⟨false,opL V f,129,(0,0)⟩).holds w'∧(Item.blk f ⟨false,fldL V.p bd,162,(0,0)⟩).holds w'∧(Item.blk bd ⟨false,dvL V.p,212,(0,0)⟩).holds w'∧w.heap.size≤b∧w.heap.size≤f∧w.heap.size≤bd∧Below w.heap.size w w'):=by
  obtain ⟨hok,rfl⟩:=cvI_ok h
  refine Ky (N:=130) (rs:=[.tmp 2]) [] Try.func80 rfl Try.ntmps80 Try.results80 (Nb rfl) trivial rfl ?_
  show LCode _ _ _ ⟨_,_⟩ _
  refine KD (KB ?_)
  refine KA (KF rfl) (Nb rfl) ?_
  refine KG ?_
  refine KD (KB ?_)
  refine KA (KC rfl) (Nb rfl) ?_
  refine KI rfl (KS (Kx (Post:=fun v its=>∃ f bd,v = .pointer (some ⟨f,0,none⟩)∧its = [.blk f ⟨false,fldL V.p bd,162,(0,0)⟩,.blk bd ⟨false,dvL V.p,212,(0,0)⟩]∧w.heap.size≤f∧w.heap.size≤bd) (first:=[]) rfl en_112 rfl (Nb rfl) (fun w1 hw hs=>(c_f_Of _ V w1 h).mono fun e w' ⟨f,bd,h1,h2,h3,h4,h5,h6⟩=>⟨_,_,⟨f,bd,rfl,rfl,Nat.le_trans hs h4,Nat.le_trans hs h5⟩,h1,Brings.nums h6 (by intro x hx; simp at hx; rcases hx with rfl|rfl; exact h2; exact h3) (by intro x hx; simp at hx; rcases hx with rfl|rfl <;> rfl) (by intro x hx k hk; simp at hx; rcases hx with rfl|rfl <;> simp [Item.fp] at hk <;> subst hk; exact .inl h4; exact .inl h5)⟩) ?_))
  rintro _ _ ⟨f,bd,rfl,rfl,hnf,hnbd⟩
  refine KA (KF rfl) (Nb rfl) ?_
  refine KG ?_
  refine KD ?_
  refine KD (KB ?_)
  refine KA (KC rfl) (Nb rfl) ?_
  refine KA (KT (Det.eqp Try.underlying127 rfl rfl) (show _ = Value.bool false from rfl)) (Nb rfl) ?_
  refine KG ?_
  refine Kd rfl ?_
  refine Kf ?_
  refine KD ?_
  have hbb:=hok.bounds
  have hpW:V.p<W9:=w9_521 hbb.2.1
  have hnW:V.n<W9:=w9_521 hbb.2.2.2.2.2.2.1
  have hbln:=blen_w9 hnW
  have hblp:=blen_w9 hpW
  refine KB ?_
  refine KA (KC rfl) (Nb rfl) ?_
  refine KI rfl (KS (LStep.callV (first:=[]) rfl en_113 rfl (Nb rfl) (fun w hw=>c_rows_some _ V w h) ?_))
  rintro _ ⟨s0,s1,s2,s3,s4,rfl,hrow⟩
  obtain ⟨hA,hB,hN,hX,hY⟩:=rowsB_spec hrow
  clear hrow
  refine KI rfl (KS (KR (Ke zr_156) (Nb rfl) (fun b4=>?_)))
  refine KI rfl (KQ rfl rfl sz_156 (by repeat (first|exact KY|refine KW rfl ?_)) (by repeat (first|exact Sh _|apply St_)) (by rfl) ?_)
  refine KG ?_
  refine KD (KB ?_)
  refine KA (KC rfl) (Nb rfl) ?_
  refine KA (KT (KAQ pl_129 zr_129 rfl (fillF (.pointer (some ⟨f,0,none⟩)) rfl)) rfl) (Nb rfl) ?_
  refine KI rfl (KS (KR (KAD rfl) (Nb rfl) (fun b14=>?_)))
  refine KA (KF rfl) (Nb rfl) ?_
  refine KG ?_
  refine LCode.cut (α:=Unit) (fun _=>True) (fun _=>⟨[(0,.int .i64 ((V.id:Nat):Int)),(3,.pointer (some ⟨f,0,none⟩)),(4,.pointer (some ⟨b4,0,none⟩)),(5,.pointer (some ⟨b14,0,none⟩))],[.blk b14 ⟨true,cvC V.id V.p 0 V.b V.n 0 0 false 0 0 false (.pointer (some ⟨f,0,none⟩)) 0,129,(0,0)⟩,.blk b4 ⟨true,[.string s0,.string s1,.string s2,.string s3,.string s4],156,(0,0)⟩,.blk f ⟨false,fldL V.p bd,162,(0,0)⟩,.blk bd ⟨false,dvL V.p,212,(0,0)⟩]⟩) ?_ ?_
  ·
    refine Kg [18,22,26,30] (by kernel_rfl) ?_
    refine KE 0 rfl (by kernel_rfl) (Nb rfl) (KC rfl) ?_
    refine KE 1 rfl (by kernel_rfl) (Nb rfl) (KC rfl) ?_
    refine KE 2 rfl (by kernel_rfl) (Nb rfl) (KC rfl) ?_
    refine KE 3 rfl (by kernel_rfl) (Nb rfl) (KC rfl) ?_
    refine KE 4 rfl (by kernel_rfl) (Nb rfl) (KC rfl) ?_
    refine KE 5 rfl (by kernel_rfl) (Nb rfl) (KC rfl) ?_
    refine KE 6 rfl (by kernel_rfl) (Nb rfl) (Kc rfl) ?_
    refine KE 7 rfl (by kernel_rfl) (Nb rfl) (KM (o':=0) Try.underlying162 rfl rfl rfl sz_33 (by decide)) ?_
    refine LAny.take 8 rfl (by kernel_rfl) (Nb rfl) (KL rfl (by repeat (first|exact Mh _|apply Mt)) (by exact KAR Try.underlying33 rfl sz_33 rfl (KH _))) ?_
    refine KE 9 rfl (by kernel_rfl) (Nb rfl) (KM (o':=1) Try.underlying156 rfl rfl rfl sz_9 (by decide)) ?_
    refine KE 12 rfl (by kernel_rfl) (Nb rfl) (KM (o':=2) Try.underlying156 rfl rfl rfl sz_9 (by decide)) ?_
    refine LAny.takeW [11,14,15,16,17,18,19,20,21,22,23,24,25,26,27,28,29,30] 10 rfl (by kernel_rfl) (Nb rfl) (KL rfl (by repeat (first|exact Mh _|apply Mt)) (Kb Try.underlying9 rfl (by first|rfl|exact Ku _ _ _ (by omega)|exact Ks _ (by omega)|exact Kq _ (by omega)|exact dv_m _ _ _ (by omega)))) ?_
    refine LAny.takeW [14,15,16,17,18,19,20,21,22,23,24,25,26,27,28,29,30] 13 rfl (by kernel_rfl) (Nb rfl) (KL rfl (by repeat (first|exact Mh _|apply Mt)) (Kb Try.underlying9 rfl (by first|rfl|exact Ku _ _ _ (by omega)|exact Ks _ (by omega)|exact Kq _ (by omega)|exact dv_m _ _ _ (by omega)))) ?_
    refine Kt 11 rfl rfl (by kernel_rfl) (KP (first:=[]) rfl en_114 rfl (Nb rfl) (fun w hw=>fhex s1 V.b w hB) ?_)
    refine Kt 14 rfl rfl (by kernel_rfl) (KP (first:=[]) rfl en_114 rfl (Nb rfl) (fun w hw=>fhex s2 V.n w hN) ?_)
    refine KE 15 rfl (by kernel_rfl) (Nb rfl) (Kc rfl) ?_
    refine KE 16 rfl (by kernel_rfl) (Nb rfl) (KM (o':=0) Try.underlying129 rfl rfl rfl sz_126 (by decide)) ?_
    refine KE 17 rfl (by kernel_rfl) (Nb rfl) (KM (o':=0) Try.underlying126 rfl rfl rfl sz_3 (by decide)) ?_
    refine Kr 18 rfl rfl (by kernel_rfl) (by kernel_rfl) (KAT rfl rfl rfl sz_3 (by first|exact KH _|exact KV _ _ _|rfl) (by first|exact Kl _|exact Kn _ _ _|exact KW rfl KY) (by repeat (first|exact Sh _|apply St_)) (by simp only [KAm]; decide) (cvC_set_id _ _ _ _ _ _ _ _ _ _ _ _ _ _) (by simp) ?_)
    refine KE 19 rfl (by kernel_rfl) (Nb rfl) (Kc rfl) ?_
    refine KE 20 rfl (by kernel_rfl) (Nb rfl) (KM (o':=0) Try.underlying129 rfl rfl rfl sz_126 (by decide)) ?_
    refine KE 21 rfl (by kernel_rfl) (Nb rfl) (KM (o':=1) Try.underlying126 rfl rfl rfl sz_33 (by decide)) ?_
    refine Kr 22 rfl rfl (by kernel_rfl) (by kernel_rfl) (KAT rfl rfl rfl sz_33 (by first|exact KH _|exact KV _ _ _|rfl) (by first|exact Kl _|exact Kn _ _ _|exact KW rfl KY) (by repeat (first|exact Sh _|apply St_)) (by simp only [KAm]; decide) (cvC_set_p _ _ _ _ _ _ _ _ _ _ _ _ _ _) (by simp) ?_)
    refine KE 23 rfl (by kernel_rfl) (Nb rfl) (Kc rfl) ?_
    refine KE 24 rfl (by kernel_rfl) (Nb rfl) (KM (o':=0) Try.underlying129 rfl rfl rfl sz_126 (by decide)) ?_
    refine KE 25 rfl (by kernel_rfl) (Nb rfl) (KM (o':=19) Try.underlying126 rfl rfl rfl sz_33 (by decide)) ?_
    refine Kr 26 rfl rfl (by kernel_rfl) (by kernel_rfl) (KAT rfl rfl rfl sz_33 (by first|exact KH _|exact KV _ _ _|rfl) (by first|exact Kl _|exact Kn _ _ _|exact KW rfl KY) (by repeat (first|exact Sh _|apply St_)) (by simp only [KAm]; decide) (cvC_set_b _ _ _ _ _ _ _ _ _ _ _ _ _ _) (by simp) ?_)
    refine KE 27 rfl (by kernel_rfl) (Nb rfl) (Kc rfl) ?_
    refine KE 28 rfl (by kernel_rfl) (Nb rfl) (KM (o':=0) Try.underlying129 rfl rfl rfl sz_126 (by decide)) ?_
    refine KE 29 rfl (by kernel_rfl) (Nb rfl) (KM (o':=28) Try.underlying126 rfl rfl rfl sz_33 (by decide)) ?_
    refine Kr 30 rfl rfl (by kernel_rfl) (by kernel_rfl) (KAT rfl rfl rfl sz_33 (by first|exact KH _|exact KV _ _ _|rfl) (by first|exact Kl _|exact Kn _ _ _|exact KW rfl KY) (by repeat (first|exact Sh _|apply St_)) (by simp only [KAm]; decide) (cvC_set_n _ _ _ _ _ _ _ _ _ _ _ _ _ _) (by simp) ?_)
    refine Ko (by kernel_rfl) ?_
    exact ⟨(),trivial,KAG ⟨rfl,rfl,rfl,rfl,trivial⟩ (by repeat (first|exact Sel.nil _|refine Sel.cons (by repeat (first|exact Ph _|apply Pt_)) ?_))⟩
  ·
    rintro _ _
    refine KD ?_
    refine KD ?_
    rcases hA with ⟨hA0,hVa⟩|⟨hA0,hA1⟩
    ·
      refine KB ?_
      refine KA (KM (o':=0) Try.underlying156 rfl rfl rfl sz_9 (by decide)) (Nb rfl) ?_
      refine LOps.det (KL rfl (by repeat (first|exact Mh _|apply Mt)) (Kb Try.underlying9 rfl (by first|rfl|exact Ku _ _ _ (by omega)|exact Ks _ (by omega)|exact Kq _ (by omega)|exact dv_m _ _ _ (by omega)))) (Nb rfl) ?_
      refine KA (KT (Det.eqs rfl rfl) (congrArg Value.bool (eq_str_t hA0))) (Nb rfl) ?_
      refine KG ?_
      refine Kw rfl ?_
      refine Kg [13] (by kernel_rfl) ?_
      refine KE 0 rfl (by kernel_rfl) (Nb rfl) (KC rfl) ?_
      refine KE 1 rfl (by kernel_rfl) (Nb rfl) (KC rfl) ?_
      refine KE 2 rfl (by kernel_rfl) (Nb rfl) (Kc rfl) ?_
      refine KE 3 rfl (by kernel_rfl) (Nb rfl) (KM (o':=0) Try.underlying162 rfl rfl rfl sz_33 (by decide)) ?_
      refine LAny.take 4 rfl (by kernel_rfl) (Nb rfl) (KL rfl (by repeat (first|exact Mh _|apply Mt)) (by exact KAR Try.underlying33 rfl sz_33 rfl (KH _))) ?_
      refine Kt 5 rfl rfl (by kernel_rfl) (KP (first:=[]) rfl en_116 rfl (Nb rfl) (fun w hw=>c_nat_Small 3 (by decide) w) ?_)
      refine Kt 6 rfl rfl (by kernel_rfl) (KP (first:=[]) rfl en_115 rfl (Nb rfl) (fun w hw=>c_nat_SubS V.p 3 w (by omega) (by omega)) ?_)
      refine KE 7 rfl (by kernel_rfl) (Nb rfl) (KC rfl) ?_
      refine KE 8 rfl (by kernel_rfl) (Nb rfl) (Ka rfl rfl) ?_
      refine KE 9 rfl (by kernel_rfl) (Nb rfl) (Ka rfl rfl) ?_
      refine KE 10 rfl (by kernel_rfl) (Nb rfl) (Kc rfl) ?_
      refine KE 11 rfl (by kernel_rfl) (Nb rfl) (KM (o':=0) Try.underlying129 rfl rfl rfl sz_126 (by decide)) ?_
      refine KE 12 rfl (by kernel_rfl) (Nb rfl) (KM (o':=10) Try.underlying126 rfl rfl rfl sz_33 (by decide)) ?_
      refine Kr 13 rfl rfl (by kernel_rfl) (by kernel_rfl) (KAT rfl rfl rfl sz_33 (by first|exact KH _|exact KV _ _ _|rfl) (by first|exact Kl _|exact Kn _ _ _|exact KW rfl KY) (by repeat (first|exact Sh _|apply St_)) (by simp only [KAm]; decide) (cvC_set_a _ _ _ _ _ _ _ _ _ _ _ _ _ _) (by simp) ?_)
      refine Ko (by kernel_rfl) ?_
      refine KD ?_
      refine Kg [11] (by kernel_rfl) ?_
      refine KE 0 rfl (by kernel_rfl) (Nb rfl) (KC rfl) ?_
      refine KE 1 rfl (by kernel_rfl) (Nb rfl) (KM (o':=3) Try.underlying156 rfl rfl rfl sz_9 (by decide)) ?_
      refine LAny.take 2 rfl (by kernel_rfl) (Nb rfl) (KL rfl (by repeat (first|exact Mh _|apply Mt)) (Kb Try.underlying9 rfl (by first|rfl|exact Ku _ _ _ (by omega)|exact Ks _ (by omega)|exact Kq _ (by omega)|exact dv_m _ _ _ (by omega)))) ?_
      refine KE 4 rfl (by kernel_rfl) (Nb rfl) (KM (o':=4) Try.underlying156 rfl rfl rfl sz_9 (by decide)) ?_
      refine LAny.take 5 rfl (by kernel_rfl) (Nb rfl) (KL rfl (by repeat (first|exact Mh _|apply Mt)) (Kb Try.underlying9 rfl (by first|rfl|exact Ku _ _ _ (by omega)|exact Ks _ (by omega)|exact Kq _ (by omega)|exact dv_m _ _ _ (by omega)))) ?_
      refine Kt 3 rfl rfl (by kernel_rfl) (KP (first:=[]) rfl en_114 rfl (Nb rfl) (fun w hw=>fhex s3 V.x w hX) ?_)
      refine Kt 6 rfl rfl (by kernel_rfl) (KP (first:=[]) rfl en_114 rfl (Nb rfl) (fun w hw=>fhex s4 V.y w hY) ?_)
      refine KE 7 rfl (by kernel_rfl) (Nb rfl) (KT (KAQ pl_35 zr_35 rfl (fill_pt _ _)) rfl) ?_
      refine KE 8 rfl (by kernel_rfl) (Nb rfl) (Kc rfl) ?_
      refine KE 9 rfl (by kernel_rfl) (Nb rfl) (KM (o':=0) Try.underlying129 rfl rfl rfl sz_126 (by decide)) ?_
      refine KE 10 rfl (by kernel_rfl) (Nb rfl) (KM (o':=37) Try.underlying126 rfl rfl rfl sz_35 (by decide)) ?_
      refine Kr 11 rfl rfl (by kernel_rfl) (by kernel_rfl) (KAT rfl rfl rfl sz_35 (by first|exact KH _|exact KV _ _ _|rfl) (by first|exact Kl _|exact Kn _ _ _|exact KW rfl KY) (by repeat (first|exact Sh _|apply St_)) (by simp only [KAm]; decide) (cvC_set_g _ _ _ _ _ _ _ _ _ _ _ _ _ _ _ _) (by simp) ?_)
      refine Ko (by kernel_rfl) ?_
      refine KD ?_
      refine Kg [18,22] (by kernel_rfl) ?_
      refine KE 0 rfl (by kernel_rfl) (Nb rfl) (KC rfl) ?_
      refine KE 1 rfl (by kernel_rfl) (Nb rfl) (KC rfl) ?_
      refine KE 2 rfl (by kernel_rfl) (Nb rfl) (KC rfl) ?_
      refine KE 3 rfl (by kernel_rfl) (Nb rfl) (Kc rfl) ?_
      refine KE 4 rfl (by kernel_rfl) (Nb rfl) (KM (o':=0) Try.underlying129 rfl rfl rfl sz_126 (by decide)) ?_
      refine KE 5 rfl (by kernel_rfl) (Nb rfl) (KM (o':=28) Try.underlying126 rfl rfl rfl sz_33 (by decide)) ?_
      refine LAny.take 6 rfl (by kernel_rfl) (Nb rfl) (KL rfl (by repeat (first|exact Mh _|apply Mt)) (by exact cvC_ld_n _ _ _ _ _ _ _ _ _ _ _ _ _ _ _ _)) ?_
      refine KE 8 rfl (by kernel_rfl) (Nb rfl) (KC rfl) ?_
      refine KE 9 rfl (by kernel_rfl) (Nb rfl) (Kc rfl) ?_
      refine KE 10 rfl (by kernel_rfl) (Nb rfl) (KM (o':=0) Try.underlying162 rfl rfl rfl sz_33 (by decide)) ?_
      refine LAny.take 11 rfl (by kernel_rfl) (Nb rfl) (KL rfl (by repeat (first|exact Mh _|apply Mt)) (by exact KAR Try.underlying33 rfl sz_33 rfl (KH _))) ?_
      refine Kt 7 rfl rfl (by kernel_rfl) (KP (first:=[]) rfl en_117 rfl (Nb rfl) (fun w hw=>c_nat_Bits V.n hnW w) ?_)
      refine Kt 12 rfl rfl (by kernel_rfl) (KP (first:=[]) rfl en_117 rfl (Nb rfl) (fun w hw=>c_nat_Bits V.p hpW w) ?_)
      refine KE 13 rfl (by kernel_rfl) (Nb rfl) (KK rfl rfl (KAL (b:=7) (by omega))) ?_
      refine KE 14 rfl (by kernel_rfl) (Nb rfl) (KK rfl rfl (br_quo (b:=8) (by omega) (by omega))) ?_
      refine KE 15 rfl (by kernel_rfl) (Nb rfl) (Kc rfl) ?_
      refine KE 16 rfl (by kernel_rfl) (Nb rfl) (KM (o':=0) Try.underlying129 rfl rfl rfl sz_126 (by decide)) ?_
      refine KE 17 rfl (by kernel_rfl) (Nb rfl) (KM (o':=56) Try.underlying126 rfl rfl rfl sz_3 (by decide)) ?_
      refine Kr 18 rfl rfl (by kernel_rfl) (by kernel_rfl) (KAT rfl rfl rfl sz_3 (by first|exact KH _|exact KV _ _ _|rfl) (by first|exact Kl _|exact Kn _ _ _|exact KW rfl KY) (by repeat (first|exact Sh _|apply St_)) (by simp only [KAm]; decide) (cvC_set_bits _ _ _ _ _ _ _ _ _ _ _ _ _ _) (by simp) ?_)
      refine KE 19 rfl (by kernel_rfl) (Nb rfl) (Kc rfl) ?_
      refine KE 20 rfl (by kernel_rfl) (Nb rfl) (KM (o':=0) Try.underlying129 rfl rfl rfl sz_126 (by decide)) ?_
      refine KE 21 rfl (by kernel_rfl) (Nb rfl) (KM (o':=57) Try.underlying126 rfl rfl rfl sz_3 (by decide)) ?_
      refine Kr 22 rfl rfl (by kernel_rfl) (by kernel_rfl) (KAT rfl rfl rfl sz_3 (by first|exact KH _|exact KV _ _ _|rfl) (by first|exact Kl _|exact Kn _ _ _|exact KW rfl KY) (by repeat (first|exact Sh _|apply St_)) (by simp only [KAm]; decide) (cvC_set_size _ _ _ _ _ _ _ _ _ _ _ _ _ _) (by simp) ?_)
      refine Ko (by kernel_rfl) ?_
      refine KD ?_
      by_cases hi1:((V.id:Nat):Int) = 1
      ·
        refine KB ?_
        refine KA (KC rfl) (Nb rfl) ?_
        refine KA (KC rfl) (Nb rfl) ?_
        refine KA (KK (v:=.bool true) rfl rfl (br_t KAg hi1)) (Nb rfl) ?_
        refine KA (KC rfl) (Nb rfl) ?_
        refine Kv rfl rfl rfl (Nb rfl) ?_
        refine Kv rfl rfl rfl (Nb rfl) ?_
        refine KA (Kp rfl rfl) (Nb rfl) ?_
        refine KA (Kc rfl) (Nb rfl) ?_
        refine KA (KM (o':=0) Try.underlying129 rfl rfl rfl sz_126 (by decide)) (Nb rfl) ?_
        refine KA (KM (o':=58) Try.underlying126 rfl rfl rfl sz_4 (by decide)) (Nb rfl) ?_
        refine KI rfl (KAT rfl rfl rfl sz_4 (by first|exact KH _|exact KV _ _ _|rfl) (by first|exact Kl _|exact Kn _ _ _|exact KW rfl KY) (by repeat (first|exact Sh _|apply St_)) (by simp only [KAm]; decide) (cvC_set_leg _ _ _ _ _ _ _ _ _ _ _ _ _ _) (by simp) ?_)
        refine KG ?_
        refine KD ?_
        refine Kg [22] (by kernel_rfl) ?_
        refine KE 0 rfl (by kernel_rfl) (Nb rfl) (KC rfl) ?_
        refine KE 1 rfl (by kernel_rfl) (Nb rfl) (KC rfl) ?_
        refine KE 2 rfl (by kernel_rfl) (Nb rfl) (KC rfl) ?_
        refine KE 3 rfl (by kernel_rfl) (Nb rfl) (KC rfl) ?_
        refine KE 4 rfl (by kernel_rfl) (Nb rfl) (Kc rfl) ?_
        refine KE 5 rfl (by kernel_rfl) (Nb rfl) (KM (o':=0) Try.underlying129 rfl rfl rfl sz_126 (by decide)) ?_
        refine KE 6 rfl (by kernel_rfl) (Nb rfl) (KM (o':=19) Try.underlying126 rfl rfl rfl sz_33 (by decide)) ?_
        refine LAny.take 7 rfl (by kernel_rfl) (Nb rfl) (KL rfl (by repeat (first|exact Mh _|apply Mt)) (by exact cvC_ld_b _ _ _ _ _ _ _ _ _ _ _ _ _ _ _ _)) ?_
        refine KE 8 rfl (by kernel_rfl) (Nb rfl) (KC rfl) ?_
        refine KE 9 rfl (by kernel_rfl) (Nb rfl) (Kc rfl) ?_
        refine KE 10 rfl (by kernel_rfl) (Nb rfl) (KM (o':=0) Try.underlying129 rfl rfl rfl sz_126 (by decide)) ?_
        refine KE 11 rfl (by kernel_rfl) (Nb rfl) (KM (o':=19) Try.underlying126 rfl rfl rfl sz_33 (by decide)) ?_
        refine LAny.take 12 rfl (by kernel_rfl) (Nb rfl) (KL rfl (by repeat (first|exact Mh _|apply Mt)) (by exact cvC_ld_b _ _ _ _ _ _ _ _ _ _ _ _ _ _ _ _)) ?_
        refine KE 14 rfl (by kernel_rfl) (Nb rfl) (KC rfl) ?_
        refine KE 15 rfl (by kernel_rfl) (Nb rfl) (Kc rfl) ?_
        refine KE 16 rfl (by kernel_rfl) (Nb rfl) (KM (o':=0) Try.underlying129 rfl rfl rfl sz_126 (by decide)) ?_
        refine KE 17 rfl (by kernel_rfl) (Nb rfl) (KM (o':=19) Try.underlying126 rfl rfl rfl sz_33 (by decide)) ?_
        refine LAny.take 18 rfl (by kernel_rfl) (Nb rfl) (KL rfl (by repeat (first|exact Mh _|apply Mt)) (by exact cvC_ld_b _ _ _ _ _ _ _ _ _ _ _ _ _ _ _ _)) ?_
        refine Kt 13 rfl rfl (by kernel_rfl) (KP (first:=[]) rfl en_118 rfl (Nb rfl) (fun w hw=>c_f_Add V f bd V.b V.b w (hw _ (by repeat (first|exact Mh _|apply Mt))) hbb.2.1 (by omega) (by omega)) ?_)
        refine Kt 19 rfl rfl (by kernel_rfl) (KP (first:=[]) rfl en_118 rfl (Nb rfl) (fun w hw=>c_f_Add V f bd ((V.b+V.b)%V.p) V.b w (hw _ (by repeat (first|exact Mh _|apply Mt))) hbb.2.1 (Nat.mod_lt _ (by omega)) (by omega)) ?_)
        refine KE 20 rfl (by kernel_rfl) (Nb rfl) (Kc rfl) ?_
        refine KE 21 rfl (by kernel_rfl) (Nb rfl) (KM (o':=60) Try.underlying129 rfl rfl rfl sz_33 (by decide)) ?_
        refine Kr 22 rfl rfl (by kernel_rfl) (by kernel_rfl) (KAT rfl rfl rfl sz_33 (by first|exact KH _|exact KV _ _ _|rfl) (by first|exact Kl _|exact Kn _ _ _|exact KW rfl KY) (by repeat (first|exact Sh _|apply St_)) (by simp only [KAm]; decide) (cvC_set_t3 _ _ _ _ _ _ _ _ _ _ _ _ _ _) (by simp) ?_)
        refine Ko (by kernel_rfl) ?_
        refine KD (KB ?_)
        refine KA (KC rfl) (Nb rfl) ?_
        refine KA (KF rfl) (Nb rfl) ?_
        refine KG (KX ?_)
        refine ⟨[_],.cons rfl .nil,fun a w' hr=>⟨b14,f,bd,rfl,?_,hr.hp _ (by repeat (first|exact Mh _|apply Mt)),hr.hp _ (by repeat (first|exact Mh _|apply Mt)),hr.new (B:=⟨true,_,_,_⟩) (by repeat (first|exact Mh _|apply Mt)) rfl,hnf,hnbd,hr.fr.below⟩⟩
        have hcv:=hr.hp _ (show Item.blk b14 ⟨true,cvC V.id V.p (V.p-3) V.b V.n V.x V.y false (blen V.n) (nby V.p) true (.pointer (some ⟨f,0,none⟩)) (thr V),129,(0,0)⟩∈_ from (by repeat (first|exact Mh _|apply Mt)))
        have hl:legB V = true:=by unfold legB; exact decide_eq_true (by omega)
        have ha:V.a = V.p-3:=by omega
        rw [← ha] at hcv
        unfold opL
        rw [hl]
        exact hcv
      ·
        refine KB ?_
        refine KA (KC rfl) (Nb rfl) ?_
        refine KA (KC rfl) (Nb rfl) ?_
        refine KA (KK (v:=.bool false) rfl rfl (br_f KAg hi1)) (Nb rfl) ?_
        refine KA (KC rfl) (Nb rfl) ?_
        refine KU rfl rfl (KC rfl) (Nb rfl) ?_
        refine KU rfl rfl (KK (v:=.bool (decide (((V.id:Nat):Int) = 7))) rfl rfl KAg) (Nb rfl) ?_
        refine KA (KAC rfl rfl) (Nb rfl) ?_
        refine KA (Kc rfl) (Nb rfl) ?_
        refine KA (KM (o':=0) Try.underlying129 rfl rfl rfl sz_126 (by decide)) (Nb rfl) ?_
        refine KA (KM (o':=58) Try.underlying126 rfl rfl rfl sz_4 (by decide)) (Nb rfl) ?_
        refine KI rfl (KAT rfl rfl rfl sz_4 (by first|exact KH _|exact KV _ _ _|rfl) (by first|exact Kl _|exact Kn _ _ _|exact KW rfl KY) (by repeat (first|exact Sh _|apply St_)) (by simp only [KAm]; decide) (cvC_set_leg _ _ _ _ _ _ _ _ _ _ _ _ _ _) (by simp) ?_)
        refine KG ?_
        refine KD ?_
        refine Kg [22] (by kernel_rfl) ?_
        refine KE 0 rfl (by kernel_rfl) (Nb rfl) (KC rfl) ?_
        refine KE 1 rfl (by kernel_rfl) (Nb rfl) (KC rfl) ?_
        refine KE 2 rfl (by kernel_rfl) (Nb rfl) (KC rfl) ?_
        refine KE 3 rfl (by kernel_rfl) (Nb rfl) (KC rfl) ?_
        refine KE 4 rfl (by kernel_rfl) (Nb rfl) (Kc rfl) ?_
        refine KE 5 rfl (by kernel_rfl) (Nb rfl) (KM (o':=0) Try.underlying129 rfl rfl rfl sz_126 (by decide)) ?_
        refine KE 6 rfl (by kernel_rfl) (Nb rfl) (KM (o':=19) Try.underlying126 rfl rfl rfl sz_33 (by decide)) ?_
        refine LAny.take 7 rfl (by kernel_rfl) (Nb rfl) (KL rfl (by repeat (first|exact Mh _|apply Mt)) (by exact cvC_ld_b _ _ _ _ _ _ _ _ _ _ _ _ _ _ _ _)) ?_
        refine KE 8 rfl (by kernel_rfl) (Nb rfl) (KC rfl) ?_
        refine KE 9 rfl (by kernel_rfl) (Nb rfl) (Kc rfl) ?_
        refine KE 10 rfl (by kernel_rfl) (Nb rfl) (KM (o':=0) Try.underlying129 rfl rfl rfl sz_126 (by decide)) ?_
        refine KE 11 rfl (by kernel_rfl) (Nb rfl) (KM (o':=19) Try.underlying126 rfl rfl rfl sz_33 (by decide)) ?_
        refine LAny.take 12 rfl (by kernel_rfl) (Nb rfl) (KL rfl (by repeat (first|exact Mh _|apply Mt)) (by exact cvC_ld_b _ _ _ _ _ _ _ _ _ _ _ _ _ _ _ _)) ?_
        refine KE 14 rfl (by kernel_rfl) (Nb rfl) (KC rfl) ?_
        refine KE 15 rfl (by kernel_rfl) (Nb rfl) (Kc rfl) ?_
        refine KE 16 rfl (by kernel_rfl) (Nb rfl) (KM (o':=0) Try.underlying129 rfl rfl rfl sz_126 (by decide)) ?_
        refine KE 17 rfl (by kernel_rfl) (Nb rfl) (KM (o':=19) Try.underlying126 rfl rfl rfl sz_33 (by decide)) ?_
        refine LAny.take 18 rfl (by kernel_rfl) (Nb rfl) (KL rfl (by repeat (first|exact Mh _|apply Mt)) (by exact cvC_ld_b _ _ _ _ _ _ _ _ _ _ _ _ _ _ _ _)) ?_
        refine Kt 13 rfl rfl (by kernel_rfl) (KP (first:=[]) rfl en_118 rfl (Nb rfl) (fun w hw=>c_f_Add V f bd V.b V.b w (hw _ (by repeat (first|exact Mh _|apply Mt))) hbb.2.1 (by omega) (by omega)) ?_)
        refine Kt 19 rfl rfl (by kernel_rfl) (KP (first:=[]) rfl en_118 rfl (Nb rfl) (fun w hw=>c_f_Add V f bd ((V.b+V.b)%V.p) V.b w (hw _ (by repeat (first|exact Mh _|apply Mt))) hbb.2.1 (Nat.mod_lt _ (by omega)) (by omega)) ?_)
        refine KE 20 rfl (by kernel_rfl) (Nb rfl) (Kc rfl) ?_
        refine KE 21 rfl (by kernel_rfl) (Nb rfl) (KM (o':=60) Try.underlying129 rfl rfl rfl sz_33 (by decide)) ?_
        refine Kr 22 rfl rfl (by kernel_rfl) (by kernel_rfl) (KAT rfl rfl rfl sz_33 (by first|exact KH _|exact KV _ _ _|rfl) (by first|exact Kl _|exact Kn _ _ _|exact KW rfl KY) (by repeat (first|exact Sh _|apply St_)) (by simp only [KAm]; decide) (cvC_set_t3 _ _ _ _ _ _ _ _ _ _ _ _ _ _) (by simp) ?_)
        refine Ko (by kernel_rfl) ?_
        refine KD (KB ?_)
        refine KA (KC rfl) (Nb rfl) ?_
        refine KA (KF rfl) (Nb rfl) ?_
        refine KG (KX ?_)
        refine ⟨[_],.cons rfl .nil,fun a w' hr=>⟨b14,f,bd,rfl,?_,hr.hp _ (by repeat (first|exact Mh _|apply Mt)),hr.hp _ (by repeat (first|exact Mh _|apply Mt)),hr.new (B:=⟨true,_,_,_⟩) (by repeat (first|exact Mh _|apply Mt)) rfl,hnf,hnbd,hr.fr.below⟩⟩
        have hcv:=hr.hp _ (show Item.blk b14 ⟨true,cvC V.id V.p (V.p-3) V.b V.n V.x V.y false (blen V.n) (nby V.p) (decide (((V.id:Nat):Int) = 7)) (.pointer (some ⟨f,0,none⟩)) (thr V),129,(0,0)⟩∈_ from (by repeat (first|exact Mh _|apply Mt)))
        have hl:legB V = (decide (((V.id:Nat):Int) = 7)):=by unfold legB; by_cases h7:V.id = 7 <;> simp [h7]; omega
        have ha:V.a = V.p-3:=by omega
        rw [← ha] at hcv
        unfold opL
        rw [hl]
        exact hcv
    ·
      refine KB ?_
      refine KA (KM (o':=0) Try.underlying156 rfl rfl rfl sz_9 (by decide)) (Nb rfl) ?_
      refine LOps.det (KL rfl (by repeat (first|exact Mh _|apply Mt)) (Kb Try.underlying9 rfl (by first|rfl|exact Ku _ _ _ (by omega)|exact Ks _ (by omega)|exact Kq _ (by omega)|exact dv_m _ _ _ (by omega)))) (Nb rfl) ?_
      refine KA (KT (Det.eqs rfl rfl) (congrArg Value.bool (eq_str_f hA0))) (Nb rfl) ?_
      refine KG ?_
      refine Kd rfl ?_
      refine KB ?_
      refine KA (KC rfl) (Nb rfl) ?_
      refine KA (KM (o':=0) Try.underlying156 rfl rfl rfl sz_9 (by decide)) (Nb rfl) ?_
      refine LOps.det (KL rfl (by repeat (first|exact Mh _|apply Mt)) (Kb Try.underlying9 rfl (by first|rfl|exact Ku _ _ _ (by omega)|exact Ks _ (by omega)|exact Kq _ (by omega)|exact dv_m _ _ _ (by omega)))) (Nb rfl) ?_
      refine KI rfl (KS (KP (first:=[]) rfl en_114 rfl (Nb rfl) (fun w hw=>fhex s0 V.a w hA1) ?_))
      refine KA (Kc rfl) (Nb rfl) ?_
      refine KA (KM (o':=0) Try.underlying129 rfl rfl rfl sz_126 (by decide)) (Nb rfl) ?_
      refine KA (KM (o':=10) Try.underlying126 rfl rfl rfl sz_33 (by decide)) (Nb rfl) ?_
      refine KI rfl (KAT rfl rfl rfl sz_33 (by first|exact KH _|exact KV _ _ _|rfl) (by first|exact Kl _|exact Kn _ _ _|exact KW rfl KY) (by repeat (first|exact Sh _|apply St_)) (by simp only [KAm]; decide) (cvC_set_a _ _ _ _ _ _ _ _ _ _ _ _ _ _) (by simp) ?_)
      refine KG ?_
      refine KD ?_
      refine Kg [11] (by kernel_rfl) ?_
      refine KE 0 rfl (by kernel_rfl) (Nb rfl) (KC rfl) ?_
      refine KE 1 rfl (by kernel_rfl) (Nb rfl) (KM (o':=3) Try.underlying156 rfl rfl rfl sz_9 (by decide)) ?_
      refine LAny.take 2 rfl (by kernel_rfl) (Nb rfl) (KL rfl (by repeat (first|exact Mh _|apply Mt)) (Kb Try.underlying9 rfl (by first|rfl|exact Ku _ _ _ (by omega)|exact Ks _ (by omega)|exact Kq _ (by omega)|exact dv_m _ _ _ (by omega)))) ?_
      refine KE 4 rfl (by kernel_rfl) (Nb rfl) (KM (o':=4) Try.underlying156 rfl rfl rfl sz_9 (by decide)) ?_
      refine LAny.take 5 rfl (by kernel_rfl) (Nb rfl) (KL rfl (by repeat (first|exact Mh _|apply Mt)) (Kb Try.underlying9 rfl (by first|rfl|exact Ku _ _ _ (by omega)|exact Ks _ (by omega)|exact Kq _ (by omega)|exact dv_m _ _ _ (by omega)))) ?_
      refine Kt 3 rfl rfl (by kernel_rfl) (KP (first:=[]) rfl en_114 rfl (Nb rfl) (fun w hw=>fhex s3 V.x w hX) ?_)
      refine Kt 6 rfl rfl (by kernel_rfl) (KP (first:=[]) rfl en_114 rfl (Nb rfl) (fun w hw=>fhex s4 V.y w hY) ?_)
      refine KE 7 rfl (by kernel_rfl) (Nb rfl) (KT (KAQ pl_35 zr_35 rfl (fill_pt _ _)) rfl) ?_
      refine KE 8 rfl (by kernel_rfl) (Nb rfl) (Kc rfl) ?_
      refine KE 9 rfl (by kernel_rfl) (Nb rfl) (KM (o':=0) Try.underlying129 rfl rfl rfl sz_126 (by decide)) ?_
      refine KE 10 rfl (by kernel_rfl) (Nb rfl) (KM (o':=37) Try.underlying126 rfl rfl rfl sz_35 (by decide)) ?_
      refine Kr 11 rfl rfl (by kernel_rfl) (by kernel_rfl) (KAT rfl rfl rfl sz_35 (by first|exact KH _|exact KV _ _ _|rfl) (by first|exact Kl _|exact Kn _ _ _|exact KW rfl KY) (by repeat (first|exact Sh _|apply St_)) (by simp only [KAm]; decide) (cvC_set_g _ _ _ _ _ _ _ _ _ _ _ _ _ _ _ _) (by simp) ?_)
      refine Ko (by kernel_rfl) ?_
      refine KD ?_
      refine Kg [18,22] (by kernel_rfl) ?_
      refine KE 0 rfl (by kernel_rfl) (Nb rfl) (KC rfl) ?_
      refine KE 1 rfl (by kernel_rfl) (Nb rfl) (KC rfl) ?_
      refine KE 2 rfl (by kernel_rfl) (Nb rfl) (KC rfl) ?_
      refine KE 3 rfl (by kernel_rfl) (Nb rfl) (Kc rfl) ?_
      refine KE 4 rfl (by kernel_rfl) (Nb rfl) (KM (o':=0) Try.underlying129 rfl rfl rfl sz_126 (by decide)) ?_
      refine KE 5 rfl (by kernel_rfl) (Nb rfl) (KM (o':=28) Try.underlying126 rfl rfl rfl sz_33 (by decide)) ?_
      refine LAny.take 6 rfl (by kernel_rfl) (Nb rfl) (KL rfl (by repeat (first|exact Mh _|apply Mt)) (by exact cvC_ld_n _ _ _ _ _ _ _ _ _ _ _ _ _ _ _ _)) ?_
      refine KE 8 rfl (by kernel_rfl) (Nb rfl) (KC rfl) ?_
      refine KE 9 rfl (by kernel_rfl) (Nb rfl) (Kc rfl) ?_
      refine KE 10 rfl (by kernel_rfl) (Nb rfl) (KM (o':=0) Try.underlying162 rfl rfl rfl sz_33 (by decide)) ?_
      refine LAny.take 11 rfl (by kernel_rfl) (Nb rfl) (KL rfl (by repeat (first|exact Mh _|apply Mt)) (by exact KAR Try.underlying33 rfl sz_33 rfl (KH _))) ?_
      refine Kt 7 rfl rfl (by kernel_rfl) (KP (first:=[]) rfl en_117 rfl (Nb rfl) (fun w hw=>c_nat_Bits V.n hnW w) ?_)
      refine Kt 12 rfl rfl (by kernel_rfl) (KP (first:=[]) rfl en_117 rfl (Nb rfl) (fun w hw=>c_nat_Bits V.p hpW w) ?_)
      refine KE 13 rfl (by kernel_rfl) (Nb rfl) (KK rfl rfl (KAL (b:=7) (by omega))) ?_
      refine KE 14 rfl (by kernel_rfl) (Nb rfl) (KK rfl rfl (br_quo (b:=8) (by omega) (by omega))) ?_
      refine KE 15 rfl (by kernel_rfl) (Nb rfl) (Kc rfl) ?_
      refine KE 16 rfl (by kernel_rfl) (Nb rfl) (KM (o':=0) Try.underlying129 rfl rfl rfl sz_126 (by decide)) ?_
      refine KE 17 rfl (by kernel_rfl) (Nb rfl) (KM (o':=56) Try.underlying126 rfl rfl rfl sz_3 (by decide)) ?_
      refine Kr 18 rfl rfl (by kernel_rfl) (by kernel_rfl) (KAT rfl rfl rfl sz_3 (by first|exact KH _|exact KV _ _ _|rfl) (by first|exact Kl _|exact Kn _ _ _|exact KW rfl KY) (by repeat (first|exact Sh _|apply St_)) (by simp only [KAm]; decide) (cvC_set_bits _ _ _ _ _ _ _ _ _ _ _ _ _ _) (by simp) ?_)
      refine KE 19 rfl (by kernel_rfl) (Nb rfl) (Kc rfl) ?_
      refine KE 20 rfl (by kernel_rfl) (Nb rfl) (KM (o':=0) Try.underlying129 rfl rfl rfl sz_126 (by decide)) ?_
      refine KE 21 rfl (by kernel_rfl) (Nb rfl) (KM (o':=57) Try.underlying126 rfl rfl rfl sz_3 (by decide)) ?_
      refine Kr 22 rfl rfl (by kernel_rfl) (by kernel_rfl) (KAT rfl rfl rfl sz_3 (by first|exact KH _|exact KV _ _ _|rfl) (by first|exact Kl _|exact Kn _ _ _|exact KW rfl KY) (by repeat (first|exact Sh _|apply St_)) (by simp only [KAm]; decide) (cvC_set_size _ _ _ _ _ _ _ _ _ _ _ _ _ _) (by simp) ?_)
      refine Ko (by kernel_rfl) ?_
      refine KD ?_
      by_cases hi1:((V.id:Nat):Int) = 1
      ·
        refine KB ?_
        refine KA (KC rfl) (Nb rfl) ?_
        refine KA (KC rfl) (Nb rfl) ?_
        refine KA (KK (v:=.bool true) rfl rfl (br_t KAg hi1)) (Nb rfl) ?_
        refine KA (KC rfl) (Nb rfl) ?_
        refine Kv rfl rfl rfl (Nb rfl) ?_
        refine Kv rfl rfl rfl (Nb rfl) ?_
        refine KA (Kp rfl rfl) (Nb rfl) ?_
        refine KA (Kc rfl) (Nb rfl) ?_
        refine KA (KM (o':=0) Try.underlying129 rfl rfl rfl sz_126 (by decide)) (Nb rfl) ?_
        refine KA (KM (o':=58) Try.underlying126 rfl rfl rfl sz_4 (by decide)) (Nb rfl) ?_
        refine KI rfl (KAT rfl rfl rfl sz_4 (by first|exact KH _|exact KV _ _ _|rfl) (by first|exact Kl _|exact Kn _ _ _|exact KW rfl KY) (by repeat (first|exact Sh _|apply St_)) (by simp only [KAm]; decide) (cvC_set_leg _ _ _ _ _ _ _ _ _ _ _ _ _ _) (by simp) ?_)
        refine KG ?_
        refine KD ?_
        refine Kg [22] (by kernel_rfl) ?_
        refine KE 0 rfl (by kernel_rfl) (Nb rfl) (KC rfl) ?_
        refine KE 1 rfl (by kernel_rfl) (Nb rfl) (KC rfl) ?_
        refine KE 2 rfl (by kernel_rfl) (Nb rfl) (KC rfl) ?_
        refine KE 3 rfl (by kernel_rfl) (Nb rfl) (KC rfl) ?_
        refine KE 4 rfl (by kernel_rfl) (Nb rfl) (Kc rfl) ?_
        refine KE 5 rfl (by kernel_rfl) (Nb rfl) (KM (o':=0) Try.underlying129 rfl rfl rfl sz_126 (by decide)) ?_
        refine KE 6 rfl (by kernel_rfl) (Nb rfl) (KM (o':=19) Try.underlying126 rfl rfl rfl sz_33 (by decide)) ?_
        refine LAny.take 7 rfl (by kernel_rfl) (Nb rfl) (KL rfl (by repeat (first|exact Mh _|apply Mt)) (by exact cvC_ld_b _ _ _ _ _ _ _ _ _ _ _ _ _ _ _ _)) ?_
        refine KE 8 rfl (by kernel_rfl) (Nb rfl) (KC rfl) ?_
        refine KE 9 rfl (by kernel_rfl) (Nb rfl) (Kc rfl) ?_
        refine KE 10 rfl (by kernel_rfl) (Nb rfl) (KM (o':=0) Try.underlying129 rfl rfl rfl sz_126 (by decide)) ?_
        refine KE 11 rfl (by kernel_rfl) (Nb rfl) (KM (o':=19) Try.underlying126 rfl rfl rfl sz_33 (by decide)) ?_
        refine LAny.take 12 rfl (by kernel_rfl) (Nb rfl) (KL rfl (by repeat (first|exact Mh _|apply Mt)) (by exact cvC_ld_b _ _ _ _ _ _ _ _ _ _ _ _ _ _ _ _)) ?_
        refine KE 14 rfl (by kernel_rfl) (Nb rfl) (KC rfl) ?_
        refine KE 15 rfl (by kernel_rfl) (Nb rfl) (Kc rfl) ?_
        refine KE 16 rfl (by kernel_rfl) (Nb rfl) (KM (o':=0) Try.underlying129 rfl rfl rfl sz_126 (by decide)) ?_
        refine KE 17 rfl (by kernel_rfl) (Nb rfl) (KM (o':=19) Try.underlying126 rfl rfl rfl sz_33 (by decide)) ?_
        refine LAny.take 18 rfl (by kernel_rfl) (Nb rfl) (KL rfl (by repeat (first|exact Mh _|apply Mt)) (by exact cvC_ld_b _ _ _ _ _ _ _ _ _ _ _ _ _ _ _ _)) ?_
        refine Kt 13 rfl rfl (by kernel_rfl) (KP (first:=[]) rfl en_118 rfl (Nb rfl) (fun w hw=>c_f_Add V f bd V.b V.b w (hw _ (by repeat (first|exact Mh _|apply Mt))) hbb.2.1 (by omega) (by omega)) ?_)
        refine Kt 19 rfl rfl (by kernel_rfl) (KP (first:=[]) rfl en_118 rfl (Nb rfl) (fun w hw=>c_f_Add V f bd ((V.b+V.b)%V.p) V.b w (hw _ (by repeat (first|exact Mh _|apply Mt))) hbb.2.1 (Nat.mod_lt _ (by omega)) (by omega)) ?_)
        refine KE 20 rfl (by kernel_rfl) (Nb rfl) (Kc rfl) ?_
        refine KE 21 rfl (by kernel_rfl) (Nb rfl) (KM (o':=60) Try.underlying129 rfl rfl rfl sz_33 (by decide)) ?_
        refine Kr 22 rfl rfl (by kernel_rfl) (by kernel_rfl) (KAT rfl rfl rfl sz_33 (by first|exact KH _|exact KV _ _ _|rfl) (by first|exact Kl _|exact Kn _ _ _|exact KW rfl KY) (by repeat (first|exact Sh _|apply St_)) (by simp only [KAm]; decide) (cvC_set_t3 _ _ _ _ _ _ _ _ _ _ _ _ _ _) (by simp) ?_)
        refine Ko (by kernel_rfl) ?_
        refine KD (KB ?_)
        refine KA (KC rfl) (Nb rfl) ?_
        refine KA (KF rfl) (Nb rfl) ?_
        refine KG (KX ?_)
        refine ⟨[_],.cons rfl .nil,fun a w' hr=>⟨b14,f,bd,rfl,?_,hr.hp _ (by repeat (first|exact Mh _|apply Mt)),hr.hp _ (by repeat (first|exact Mh _|apply Mt)),hr.new (B:=⟨true,_,_,_⟩) (by repeat (first|exact Mh _|apply Mt)) rfl,hnf,hnbd,hr.fr.below⟩⟩
        have hcv:=hr.hp _ (show Item.blk b14 ⟨true,cvC V.id V.p V.a V.b V.n V.x V.y false (blen V.n) (nby V.p) true (.pointer (some ⟨f,0,none⟩)) (thr V),129,(0,0)⟩∈_ from (by repeat (first|exact Mh _|apply Mt)))
        have hl:legB V = true:=by unfold legB; exact decide_eq_true (by omega)
        unfold opL
        rw [hl]
        exact hcv
      ·
        refine KB ?_
        refine KA (KC rfl) (Nb rfl) ?_
        refine KA (KC rfl) (Nb rfl) ?_
        refine KA (KK (v:=.bool false) rfl rfl (br_f KAg hi1)) (Nb rfl) ?_
        refine KA (KC rfl) (Nb rfl) ?_
        refine KU rfl rfl (KC rfl) (Nb rfl) ?_
        refine KU rfl rfl (KK (v:=.bool (decide (((V.id:Nat):Int) = 7))) rfl rfl KAg) (Nb rfl) ?_
        refine KA (KAC rfl rfl) (Nb rfl) ?_
        refine KA (Kc rfl) (Nb rfl) ?_
        refine KA (KM (o':=0) Try.underlying129 rfl rfl rfl sz_126 (by decide)) (Nb rfl) ?_
        refine KA (KM (o':=58) Try.underlying126 rfl rfl rfl sz_4 (by decide)) (Nb rfl) ?_
        refine KI rfl (KAT rfl rfl rfl sz_4 (by first|exact KH _|exact KV _ _ _|rfl) (by first|exact Kl _|exact Kn _ _ _|exact KW rfl KY) (by repeat (first|exact Sh _|apply St_)) (by simp only [KAm]; decide) (cvC_set_leg _ _ _ _ _ _ _ _ _ _ _ _ _ _) (by simp) ?_)
        refine KG ?_
        refine KD ?_
        refine Kg [22] (by kernel_rfl) ?_
        refine KE 0 rfl (by kernel_rfl) (Nb rfl) (KC rfl) ?_
        refine KE 1 rfl (by kernel_rfl) (Nb rfl) (KC rfl) ?_
        refine KE 2 rfl (by kernel_rfl) (Nb rfl) (KC rfl) ?_
        refine KE 3 rfl (by kernel_rfl) (Nb rfl) (KC rfl) ?_
        refine KE 4 rfl (by kernel_rfl) (Nb rfl) (Kc rfl) ?_
        refine KE 5 rfl (by kernel_rfl) (Nb rfl) (KM (o':=0) Try.underlying129 rfl rfl rfl sz_126 (by decide)) ?_
        refine KE 6 rfl (by kernel_rfl) (Nb rfl) (KM (o':=19) Try.underlying126 rfl rfl rfl sz_33 (by decide)) ?_
        refine LAny.take 7 rfl (by kernel_rfl) (Nb rfl) (KL rfl (by repeat (first|exact Mh _|apply Mt)) (by exact cvC_ld_b _ _ _ _ _ _ _ _ _ _ _ _ _ _ _ _)) ?_
        refine KE 8 rfl (by kernel_rfl) (Nb rfl) (KC rfl) ?_
        refine KE 9 rfl (by kernel_rfl) (Nb rfl) (Kc rfl) ?_
        refine KE 10 rfl (by kernel_rfl) (Nb rfl) (KM (o':=0) Try.underlying129 rfl rfl rfl sz_126 (by decide)) ?_
        refine KE 11 rfl (by kernel_rfl) (Nb rfl) (KM (o':=19) Try.underlying126 rfl rfl rfl sz_33 (by decide)) ?_
        refine LAny.take 12 rfl (by kernel_rfl) (Nb rfl) (KL rfl (by repeat (first|exact Mh _|apply Mt)) (by exact cvC_ld_b _ _ _ _ _ _ _ _ _ _ _ _ _ _ _ _)) ?_
        refine KE 14 rfl (by kernel_rfl) (Nb rfl) (KC rfl) ?_
        refine KE 15 rfl (by kernel_rfl) (Nb rfl) (Kc rfl) ?_
        refine KE 16 rfl (by kernel_rfl) (Nb rfl) (KM (o':=0) Try.underlying129 rfl rfl rfl sz_126 (by decide)) ?_
        refine KE 17 rfl (by kernel_rfl) (Nb rfl) (KM (o':=19) Try.underlying126 rfl rfl rfl sz_33 (by decide)) ?_
        refine LAny.take 18 rfl (by kernel_rfl) (Nb rfl) (KL rfl (by repeat (first|exact Mh _|apply Mt)) (by exact cvC_ld_b _ _ _ _ _ _ _ _ _ _ _ _ _ _ _ _)) ?_
        refine Kt 13 rfl rfl (by kernel_rfl) (KP (first:=[]) rfl en_118 rfl (Nb rfl) (fun w hw=>c_f_Add V f bd V.b V.b w (hw _ (by repeat (first|exact Mh _|apply Mt))) hbb.2.1 (by omega) (by omega)) ?_)
        refine Kt 19 rfl rfl (by kernel_rfl) (KP (first:=[]) rfl en_118 rfl (Nb rfl) (fun w hw=>c_f_Add V f bd ((V.b+V.b)%V.p) V.b w (hw _ (by repeat (first|exact Mh _|apply Mt))) hbb.2.1 (Nat.mod_lt _ (by omega)) (by omega)) ?_)
        refine KE 20 rfl (by kernel_rfl) (Nb rfl) (Kc rfl) ?_
        refine KE 21 rfl (by kernel_rfl) (Nb rfl) (KM (o':=60) Try.underlying129 rfl rfl rfl sz_33 (by decide)) ?_
        refine Kr 22 rfl rfl (by kernel_rfl) (by kernel_rfl) (KAT rfl rfl rfl sz_33 (by first|exact KH _|exact KV _ _ _|rfl) (by first|exact Kl _|exact Kn _ _ _|exact KW rfl KY) (by repeat (first|exact Sh _|apply St_)) (by simp only [KAm]; decide) (cvC_set_t3 _ _ _ _ _ _ _ _ _ _ _ _ _ _) (by simp) ?_)
        refine Ko (by kernel_rfl) ?_
        refine KD (KB ?_)
        refine KA (KC rfl) (Nb rfl) ?_
        refine KA (KF rfl) (Nb rfl) ?_
        refine KG (KX ?_)
        refine ⟨[_],.cons rfl .nil,fun a w' hr=>⟨b14,f,bd,rfl,?_,hr.hp _ (by repeat (first|exact Mh _|apply Mt)),hr.hp _ (by repeat (first|exact Mh _|apply Mt)),hr.new (B:=⟨true,_,_,_⟩) (by repeat (first|exact Mh _|apply Mt)) rfl,hnf,hnbd,hr.fr.below⟩⟩
        have hcv:=hr.hp _ (show Item.blk b14 ⟨true,cvC V.id V.p V.a V.b V.n V.x V.y false (blen V.n) (nby V.p) (decide (((V.id:Nat):Int) = 7)) (.pointer (some ⟨f,0,none⟩)) (thr V),129,(0,0)⟩∈_ from (by repeat (first|exact Mh _|apply Mt)))
        have hl:legB V = (decide (((V.id:Nat):Int) = 7)):=by unfold legB; by_cases h7:V.id = 7 <;> simp [h7]; omega
        unfold opL
        rw [hl]
        exact hcv
end Go.Proofs.Ytlmiolnccgjjjaa
set_option linter.unusedVariables false
set_option linter.unusedSimpArgs false
set_option maxRecDepth 20000
namespace Go.Proofs.Ytlmiolnccgjjjaa
open Go Go.RowKit
theorem c_Num (x:Int) (w:World)  : Calls Try.prog 33 ([.int .i64 x]:List Value).toArray w (fun e w'=>e = .returned (.int .i64 x)∧Below w.heap.size w w'):=by
  refine Ky (N:=4) (rs:=[.tmp 2]) [] Try.func33 rfl Try.ntmps33 Try.results33 (Nb rfl) trivial rfl ?_
  show LCode _ _ _ ⟨_,_⟩ _
  refine KD (KB ?_)
  refine KA (KF (v:=.int .i64 ((0:Nat):Int)) rfl) (Nb rfl) ?_
  refine KG ?_
  refine KD (KB ?_)
  refine KA (KC rfl) (Nb rfl) ?_
  refine KA (KF rfl) (Nb rfl) ?_
  refine KG (KX ?_)
  refine ⟨[_],.cons rfl .nil,fun a w' hr=>⟨?_,hr.fr.below⟩⟩
  rfl
theorem one_cells9 {x:Nat} (hx:x<18446744073709551616):vec .u64 9 (fun j=>if j = 0 then x else 0) = natL x:=KAU fun i _=>by rw [limb_small hx]
theorem u64_w9 {x:Nat} (hx:x<18446744073709551616):x<W9:=by
  obtain ⟨k,hk⟩:∃ k:Nat,k = 9:=⟨9,rfl⟩
  rw [← w9 hk]
  have h:x<2^64:=hx
  exact Nat.lt_of_lt_of_le h (Nat.pow_le_pow_right (by decide) (by omega))
theorem c_One (x:Nat) (w:World) (hx:x<18446744073709551616):Calls Try.prog 47 ([.int .u64 ((x:Nat):Int)]:List Value).toArray w (fun e w'=>e = .returned (natV x)∧Below w.heap.size w w'):=by
  refine Ky (N:=8) (rs:=[.cell 2 33]) [] Try.func47 rfl Try.ntmps47 Try.results47 (Nb rfl) trivial rfl ?_
  show LCode _ _ _ ⟨_,_⟩ _
  refine KD (KB ?_)
  refine KI rfl (KS (KR (Ke zr_33) (Nb rfl) (fun b2=>?_)))
  refine KG ?_
  refine KD (KB ?_)
  refine KI rfl (KS (KR (Ke zr_33) (Nb rfl) (fun b3=>?_)))
  refine KG ?_
  refine KD (KB ?_)
  refine KA (KC rfl) (Nb rfl) ?_
  refine KA (KM (o':=0) Try.underlying33 rfl rfl rfl sz_31 (by decide)) (Nb rfl) ?_
  refine KA (KAF (i:=0) Try.underlying31 sz_30 rfl rfl (by decide)) (Nb rfl) ?_
  refine KI rfl (KAB rfl rfl rfl sz_30 (by repeat (first|exact Sh _|apply St_)) (by first|(simp only [KN,KH,KJ,KAK]; omega)|(simp; omega)) (by first|exact KAY _ _ _ _ _|exact KAa _ _ _ _ (by omega)|exact KAZ _ _ _ _|rfl) (by simp) ?_)
  refine KG ?_
  refine KD ?_
  refine LCode.sub (Sub.cells (b:=b3) (cs':=natL x) (by repeat (first|exact Sh _|apply St_)) (one_cells9 hx)) ?_
  refine KB ?_
  refine LOps.det (KL rfl (by repeat (first|exact Mh _|apply Mt)) (by exact KO Try.underlying33 rfl sz_33)) (Nb rfl) ?_
  refine KI rfl (KQ rfl rfl sz_33 (by repeat (first|exact Kl _|exact Kz _ _ _|exact Km _|exact Kn _ _ _|exact KAA _ _ _|exact KY|refine KW rfl ?_|refine KZ ?_ ?_)) (by repeat (first|exact Sh _|apply St_)) (by first|exact KH _|exact KN _ _ _|exact KJ _|exact KV _ _ _|exact Ki _ _ _|rfl|simp [KN,KH,KJ]) ?_)
  refine KG (KX ?_)
  refine ⟨[_],.cons ⟨_,_,_,rfl,(by repeat (first|exact Mh _|apply Mt)),by exact KO Try.underlying33 rfl sz_33⟩ .nil,fun a w' hr=>⟨?_,hr.fr.below⟩⟩
  rfl
theorem zero_w9:0<W9:=w9_pos
end Go.Proofs.Ytlmiolnccgjjjaa
set_option linter.unusedVariables false
set_option linter.unusedSimpArgs false
set_option maxRecDepth 20000
namespace Go.Proofs.Ytlmiolnccgjjjaa
open Go Go.RowKit
open Grp
theorem pt_ld1 (X Y:Nat) (i:Bool) (wr:Bool) (e:TypeId) (fz:Nat×Nat):LoadV Try.prog 33 ⟨wr,ptL X Y i,e,fz⟩ 9 (natV Y):=LoadV.mid Try.underlying33 rfl sz_33 (show ptL X Y i = natL X++(natL Y++[.bool i]) from rfl) (KH _) (KH _)
theorem pj_ld2 (X Y Z:Nat) (wr:Bool) (e:TypeId) (fz:Nat×Nat):LoadV Try.prog 33 ⟨wr,pjL X Y Z,e,fz⟩ 18 (natV Z):=LoadV.last Try.underlying33 rfl sz_33 (show pjL X Y Z = (natL X++natL Y)++natL Z by simp [pjL]) (by simp [KH]) (KH _)
theorem pt_gt (X Y:Nat) (i:Bool):(ptL X Y i)[18]? = some (.bool i):=get_mid (A:=natL X++natL Y) (D:=[]) (by simp [ptL]) (by simp [KH])
theorem eq_pt (X Y:Nat) (i:Bool) (X' Y':Nat) (i':Bool) (hX:X<W9) (hY:Y<W9) (hX':X' < W9) (hY':Y' < W9):EqD 4 Try.prog 35 (ptV X Y i) (ptV X' Y' i') (decide (X = X') && (decide (Y = Y') && ((i == i') && true))):=by
  have d1:∀ A B i,((ptL A B i).drop 0).take 9 = natL A:=fun A B i=>by
    rw [List.drop_zero]; unfold ptL; rw [List.take_left' (KH A)]
  have d2:∀ A B i,((ptL A B i).drop 9).take 9 = natL B:=fun A B i=>by
    unfold ptL; rw [List.drop_left' (KH A),List.take_left' (KH B)]
  exact EqD.struct (fs:=[_,_,_]) Try.underlying35 (by kernel_rfl) (EqFs.cons (by decide) (PartOf.agg Try.underlying33 rfl sz_33 (d1 X Y i)) (PartOf.agg Try.underlying33 rfl sz_33 (d1 X' Y' i')) (eq_nat X X' hX hX')
    (EqFs.cons (by decide) (PartOf.agg Try.underlying33 rfl sz_33 (d2 X Y i)) (PartOf.agg Try.underlying33 rfl sz_33 (d2 X' Y' i')) (eq_nat Y Y' hY hY')
    (EqFs.cons (by decide) (PartOf.one Try.underlying4 rfl (pt_gt X Y i)) (PartOf.one Try.underlying4 rfl (pt_gt X' Y' i')) ((EqD.bool Try.underlying4).mono (by decide)) EqFs.nil)))
theorem pt_w9 {V:Cv} (hok:V.Ok) (P:Grp.Pt V.p):xv P<W9∧yv P<W9:=⟨w9_521 (Nat.lt_trans (xv_lt P) hok.bounds.2.1),w9_521 (Nat.lt_trans (yv_lt P) hok.bounds.2.1)⟩
def ptP {p:Nat} (P:Grp.Pt p):Value:=ptV (xv P) (yv P) (iv P)
theorem eq_ptP_t {V:Cv} (hok:V.Ok) {P Q:Grp.Pt V.p} (h:P = Q):EqD 4 Try.prog 35 (ptP P) (ptP Q) true:=by
  subst h
  have:=eq_pt (xv P) (yv P) (iv P) (xv P) (yv P) (iv P) (pt_w9 hok P).1 (pt_w9 hok P).2 (pt_w9 hok P).1 (pt_w9 hok P).2
  rwa [show (decide (xv P = xv P) && (decide (yv P = yv P) && ((iv P == iv P) && true))) = true by simp] at this
theorem fill_ptI (X Y:Nat) (i:Bool):fillL [(0,9),(9,9),(18,1)] (vec .u64 9 (fun _=>0)++(vec .u64 9 (fun _=>0)++[Value.bool false])) [(0,natV X),(1,natV Y),(2,.bool i)] = some (ptL X Y i):=by
  refine KAl (A:=[]) (B:=vec .u64 9 (fun _=>0)) (D:=vec .u64 9 (fun _=>0)++[Value.bool false]) (cs:=natL X) rfl rfl (KH _) rfl rfl (KN _ _ _) ?_
  refine KAl (A:=natL X) (B:=vec .u64 9 (fun _=>0)) (D:=[Value.bool false]) (cs:=natL Y) rfl rfl (KH _) (by simp) (KH _) (KN _ _ _) ?_
  refine (KAl (A:=natL X++natL Y) (B:=[Value.bool false]) (D:=[]) (cs:=[Value.bool i]) rfl rfl rfl (by simp) (by simp [KH]) rfl rfl).trans ?_
  simp [ptL]
theorem fill_ptInf:fillL [(0,9),(9,9),(18,1)] (vec .u64 9 (fun _=>0)++(vec .u64 9 (fun _=>0)++[Value.bool false])) [(2,.bool true)] = some (ptL 0 0 true):=by
  refine (KAl (A:=vec .u64 9 (fun _=>0)++vec .u64 9 (fun _=>0)) (B:=[Value.bool false]) (D:=[]) (cs:=[Value.bool true]) rfl rfl rfl (by simp) (by simp [KN]) rfl rfl).trans ?_
  simp [ptL,natL,vec_zeros 9]
theorem pt_zero:Value.agg (vec .u64 9 (fun _=>0)++(vec .u64 9 (fun _=>0)++[Value.bool false]):List Value).toArray = ptV 0 0 false:=by
  unfold ptV ptL natL; rw [vec_zeros 9]
section
variable (V:Cv) (hok:V.Ok) (f bd:Nat)
include hok
theorem c_F_Add (X Y:Fin V.p) (w:World) (hf:(Item.blk f ⟨false,fldL V.p bd,162,(0,0)⟩).holds w):Calls Try.prog 118 ([.pointer (some ⟨f,0,none⟩),natV X.val,natV Y.val]:List Value).toArray w (fun e w'=>e = .returned (natV (X+Y).val)∧Below w.heap.size w w'):=by
  have:=c_f_Add V f bd X.val Y.val w hf hok.bounds.2.1 X.isLt Y.isLt
  rwa [← Fin.val_add] at this
theorem c_F_Sub (X Y:Fin V.p) (w:World) (hf:(Item.blk f ⟨false,fldL V.p bd,162,(0,0)⟩).holds w):Calls Try.prog 130 ([.pointer (some ⟨f,0,none⟩),natV X.val,natV Y.val]:List Value).toArray w (fun e w'=>e = .returned (natV (X-Y).val)∧Below w.heap.size w w'):=by
  have:=c_f_Sub V f bd X.val Y.val w hf hok.bounds.2.1 X.isLt Y.isLt
  rwa [← fin_subv] at this
theorem c_F_Mul (X Y:Fin V.p) (w:World) (hf:(Item.blk f ⟨false,fldL V.p bd,162,(0,0)⟩).holds w) (hbd:(Item.blk bd ⟨false,dvL V.p,212,(0,0)⟩).holds w):Calls Try.prog 120 ([.pointer (some ⟨f,0,none⟩),natV X.val,natV Y.val]:List Value).toArray w (fun e w'=>e = .returned (natV (X*Y).val)∧Below w.heap.size w w'):=by
  have hb:=hok.bounds
  have hpW:=w9_521 hb.2.1
  have:=c_f_Mul V f bd X.val Y.val w hf hbd (by omega) hpW (Nat.lt_trans X.isLt hpW) (Nat.lt_trans Y.isLt hpW)
  rwa [← Fin.val_mul] at this
theorem c_F_Inv (X:Fin V.p) (w:World) (hf:(Item.blk f ⟨false,fldL V.p bd,162,(0,0)⟩).holds w):Calls Try.prog 136 ([.pointer (some ⟨f,0,none⟩),natV X.val]:List Value).toArray w (fun e w'=>e = .returned (natV (finv X).val)∧Below w.heap.size w w'):=by
  have hb:=hok.bounds
  have hpW:=w9_521 hb.2.1
  have:=c_f_Inv V f bd X.val w hf (by omega) hpW (Nat.lt_trans X.isLt hpW)
  rwa [← finv_val] at this
end
theorem a_val {V:Cv} (hok:V.Ok):natV V.a = natV V.A.val:=by rw [hok.A_val hok.bounds.2.2.1]
theorem b_val {V:Cv} (hok:V.Ok):natV V.b = natV V.B.val:=by rw [hok.B_val hok.bounds.2.2.2.1]
theorem t_val {V:Cv} (hok:V.Ok):natV (thr V) = natV (V.B+V.B+V.B).val:=by
  rw [Fin.val_add,Fin.val_add,hok.B_val hok.bounds.2.2.2.1]; rfl
end Go.Proofs.Ytlmiolnccgjjjaa
set_option linter.unusedVariables false
set_option linter.unusedSimpArgs false
set_option maxRecDepth 20000
namespace Go.Proofs.Ytlmiolnccgjjjaa
open Go Go.RowKit
def rpL (u v:Value) (i:Bool):List Value:=[u,v,.bool i]
def rpV (u v:Value) (i:Bool):Value:=.agg (rpL u v i).toArray
theorem NFr.in {lo:Nat} {old:List Nat} {q:NV} {n:Nat} (h:∀ k,k∈fpz q n→k∈old):NFr lo old q n:=fun k hk=>.inr (h k hk)
theorem NFr.le {lo:Nat} {old old':List Nat} {q:NV} {n:Nat} (h:NFr lo old q n) (hs:∀ k,k∈old→k∈old'):NFr lo old' q n:=fun k hk=>(h k hk).imp id (hs k)
theorem crv_in {Q:CQ} {V:Cv} {q:NV} {A:Nat} (h:(q,A)∈[(Q.p,V.p),(Q.a,V.a),(Q.b,V.b),(Q.n,V.n),(Q.x,V.x),(Q.y,V.y)]) (lo:Nat):NFr lo (crvI Q V).fp q (D.nw A):=fun k hk=>.inr (grp_fp (l:=[(Q.p,V.p),(Q.a,V.a),(Q.b,V.b),(Q.n,V.n),(Q.x,V.x),(Q.y,V.y)]) h k hk)
theorem c_r_G (Q:CQ) (V:Cv) (w:World) (hc:(crvI Q V).holds w):Calls Try.prog 31 ([.agg (crvL Q V).toArray]:List Value).toArray w (fun e w'=>Num2R w (crvI Q V).fp V.x V.y (fun u v=>rpV u v false) e w'):=by
  refine Ky (N:=8) (rs:=[.cell 2 38]) [crvI Q V] Try.func31 rfl Try.ntmps31 Try.results31 (Nb rfl) ⟨hc,trivial⟩ rfl ?_
  show LCode _ _ _ ⟨_,_⟩ _
  refine KD (KB ?_)
  refine KI rfl (KS (KR (KAD rfl) (Nb rfl) (fun b1=>?_)))
  refine KI rfl (KS (KR (Ke zr_38) (Nb rfl) (fun b2=>?_)))
  refine KG ?_
  refine KD (KB ?_)
  refine KA (KM (o':=5) Try.underlying26 rfl rfl rfl sz_24 (by decide)) (Nb rfl) ?_
  refine LOps.det (KL rfl (by repeat (first|exact Mh _|apply Mt)) (Kb Try.underlying24 rfl (by first|rfl|exact Ku _ _ _ (by omega)|exact Ks _ (by omega)|exact Kq _ (by omega)|exact dv_m _ _ _ (by omega)))) (Nb rfl) ?_
  refine KA (KM (o':=6) Try.underlying26 rfl rfl rfl sz_24 (by decide)) (Nb rfl) ?_
  refine LOps.det (KL rfl (by repeat (first|exact Mh _|apply Mt)) (Kb Try.underlying24 rfl (by first|rfl|exact Ku _ _ _ (by omega)|exact Ks _ (by omega)|exact Kq _ (by omega)|exact dv_m _ _ _ (by omega)))) (Nb rfl) ?_
  refine KA (KT (KAQ pl_38 zr_38 rfl rfl) (show _ = rpV (numV Q.x V.x) (numV Q.y V.y) (false) from rfl)) (Nb rfl) ?_
  refine KI rfl (KQ rfl rfl sz_38 (by repeat (first|exact KY|refine KW rfl ?_)) (by repeat (first|exact Sh _|apply St_)) (by rfl) ?_)
  refine KG (KX ?_)
  refine ⟨[_],.cons ⟨_,_,_,rfl,(by repeat (first|exact Mh _|apply Mt)),by exact KO Try.underlying38 rfl sz_38⟩ .nil,fun a w' hr=>⟨Q.x,Q.y,rfl,crvI_x (hr.hp _ (by repeat (first|exact Mh _|apply Mt))),crv_in (by repeat (first|exact Mh _|apply Mt)) _,crvI_y (hr.hp _ (by repeat (first|exact Mh _|apply Mt))),crv_in (by repeat (first|exact Mh _|apply Mt)) _,hr.fr.below⟩⟩
theorem c_r_Out (q r:NV) (X Y:Nat) (i:Bool) (w:World) (hq:(numT q X).holds w) (hr:(numT r Y).holds w):Calls Try.prog 30 ([rpV (numV q (X)) (numV r (Y)) (i)]:List Value).toArray w (fun e w'=>e = .returned (ptV X Y i)∧Below w.heap.size w w'):=by
  refine Ky (N:=12) (rs:=[.cell 2 35]) [numT q X,numT r Y] Try.func30 rfl Try.ntmps30 Try.results30 (Nb rfl) ⟨hq,hr,trivial⟩ rfl ?_
  show LCode _ _ _ ⟨_,_⟩ _
  refine KD (KB ?_)
  refine KI rfl (KS (KR (KAD rfl) (Nb rfl) (fun b1=>?_)))
  refine KI rfl (KS (KR (Ke zr_35) (Nb rfl) (fun b2=>?_)))
  refine KG ?_
  refine KD ?_
  refine Kg [9] (by kernel_rfl) ?_
  refine KE 0 rfl (by kernel_rfl) (Nb rfl) (KM (o':=0) Try.underlying38 rfl rfl rfl sz_24 (by decide)) ?_
  refine LAny.take 1 rfl (by kernel_rfl) (Nb rfl) (KL rfl (by repeat (first|exact Mh _|apply Mt)) (Kb Try.underlying24 rfl (by first|rfl|exact Ku _ _ _ (by omega)|exact Ks _ (by omega)|exact Kq _ (by omega)|exact dv_m _ _ _ (by omega)))) ?_
  refine KE 3 rfl (by kernel_rfl) (Nb rfl) (KM (o':=1) Try.underlying38 rfl rfl rfl sz_24 (by decide)) ?_
  refine LAny.take 4 rfl (by kernel_rfl) (Nb rfl) (KL rfl (by repeat (first|exact Mh _|apply Mt)) (Kb Try.underlying24 rfl (by first|rfl|exact Ku _ _ _ (by omega)|exact Ks _ (by omega)|exact Kq _ (by omega)|exact dv_m _ _ _ (by omega)))) ?_
  refine KE 6 rfl (by kernel_rfl) (Nb rfl) (KM (o':=2) Try.underlying38 rfl rfl rfl sz_4 (by decide)) ?_
  refine LAny.take 7 rfl (by kernel_rfl) (Nb rfl) (KL rfl (by repeat (first|exact Mh _|apply Mt)) (Kb Try.underlying4 rfl (by first|rfl|exact Ku _ _ _ (by omega)|exact Ks _ (by omega)|exact Kq _ (by omega)|exact dv_m _ _ _ (by omega)))) ?_
  refine Kt 2 rfl rfl (by kernel_rfl) (KP (first:=[]) rfl en_52 rfl (Nb rfl) (fun w hw=>c_n_Nat q X (D.nw X) w (hw _ (by repeat (first|exact Mh _|apply Mt)))) ?_)
  refine Kt 5 rfl rfl (by kernel_rfl) (KP (first:=[]) rfl en_52 rfl (Nb rfl) (fun w hw=>c_n_Nat r Y (D.nw Y) w (hw _ (by repeat (first|exact Mh _|apply Mt)))) ?_)
  refine KE 8 rfl (by kernel_rfl) (Nb rfl) (KT (KAQ pl_35 zr_35 rfl (fill_ptI _ _ _)) rfl) ?_
  refine Kr 9 rfl rfl (by kernel_rfl) (by kernel_rfl) (KQ rfl rfl sz_35 (by repeat (first|exact Kl _|exact Kz _ _ _|exact Km _|exact Kn _ _ _|exact KAA _ _ _|exact KY|refine KW rfl ?_|refine KZ ?_ ?_)) (by repeat (first|exact Sh _|apply St_)) (by first|exact KH _|exact KN _ _ _|exact KJ _|exact KV _ _ _|exact Ki _ _ _|rfl|simp [KN,KH,KJ]) ?_)
  refine Ko (by kernel_rfl) ?_
  refine KX ?_
  refine ⟨[_],.cons ⟨_,_,_,rfl,(by repeat (first|exact Mh _|apply Mt)),by exact KO Try.underlying35 rfl sz_35⟩ .nil,fun a w' hr=>⟨?_,hr.fr.below⟩⟩
  rfl
end Go.Proofs.Ytlmiolnccgjjjaa
set_option linter.unusedVariables false
set_option linter.unusedSimpArgs false
set_option maxRecDepth 20000
namespace Go.Proofs.Ytlmiolnccgjjjaa
open Go Go.RowKit
open Grp
def PlusQ (V:Cv) (R:Pt V.p) (x1 y1 x2 o u:Nat):Prop:=(o<V.p∧u<V.p∧u≠0)∧xv R = lineX V.p (o*invM u V.p%V.p) x1 x2∧yv R = lineY V.p (o*invM u V.p%V.p) x1 y1 (lineX V.p (o*invM u V.p%V.p) x1 x2)∧iv R = false
theorem plus_chord {V:Cv} (hok:V.Ok) {x1 y1 x2 y2:Fin V.p} (h1:On V.A V.B (.aff x1 y1)) (h2:On V.A V.B (.aff x2 y2)) (hne:x1.val≠x2.val):PlusQ V (padd V.A (.aff x1 y1) (.aff x2 y2)) x1.val y1.val x2.val (chordO V.p y1.val y2.val) (chordU V.p x1.val x2.val):=by
  have h:=add_chord (a:=V.A) (b:=V.B) (x1:=x1.val) (y1:=y1.val) (x2:=x2.val) (y2:=y2.val) hok.prime hok.fld x1.isLt y1.isLt x2.isLt y2.isLt (by rw [c_of_val,c_of_val]; exact h1) (by rw [c_of_val,c_of_val]; exact h2) hne
  rw [c_of_val,c_of_val,c_of_val,c_of_val] at h
  rw [h]
  have hx:=lineX_lt (L:=chordO V.p y1.val y2.val*invM (chordU V.p x1.val x2.val) V.p%V.p) x1.isLt x2.isLt
  refine ⟨⟨lessM_lt y2.isLt y1.isLt,lessM_lt x2.isLt x1.isLt,?_⟩,val_c hx,val_c (lineY_lt y1.isLt),rfl⟩
  have:=x1.isLt
  have:=x2.isLt
  unfold chordU lessM
  split <;> omega
theorem plus_tang {V:Cv} (hok:V.Ok) {x y:Fin V.p} (h1:On V.A V.B (.aff x y)):PlusQ V (padd V.A (.aff x y) (.aff x y)) x.val y.val x.val (tangO V.p V.a x.val) (tangU V.p y.val):=by
  have hy:y≠0:=hok.good.y_ne h1
  have h:=add_tang (b:=V.B) (a:=V.a) (x1:=x.val) (y1:=y.val) hok.prime hok.fld x.isLt y.isLt (by rw [c_of_val,c_of_val]; exact h1) (by rw [c_of_val]; exact hy)
  rw [c_of_val,c_of_val] at h
  rw [h]
  have hx:=lineX_lt (L:=tangO V.p V.a x.val*invM (tangU V.p y.val) V.p%V.p) x.isLt x.isLt
  refine ⟨⟨Nat.mod_lt _ pos_p,Nat.mod_lt _ pos_p,fun e=>hy (hok.fld.two _ ?_)⟩,val_c hx,val_c (lineY_lt y.isLt),rfl⟩
  exact Fin.ext (by rw [Fin.val_add]; exact e)
theorem plus_opp {V:Cv} (hok:V.Ok) {x1 y1 x2 y2:Fin V.p} (h1:On V.A V.B (.aff x1 y1)) (h2:On V.A V.B (.aff x2 y2)) (hx:x1.val = x2.val) (hy:y1.val≠y2.val):padd V.A (.aff x1 y1) (.aff x2 y2) = .inf :=
  add_opp hok.fld h1 h2 (Fin.ext hx) (fin_ne hy)
theorem y_pos {V:Cv} (hok:V.Ok) {x y:Fin V.p} (h1:On V.A V.B (.aff x y)):y.val≠0:=fun e=>hok.good.y_ne h1 (Fin.ext e)
theorem gcd_under {V:Cv} (hok:V.Ok) {u:Nat} (h:u<V.p) (h0:u≠0):Nat.gcd u V.p = 1:=hok.prime.cop fun hd=>h0 (Nat.eq_zero_of_dvd_of_lt hd h)
def fp2 {p:Nat} (q r:NV) (P:Pt p) (l:List Nat):List Nat:=fpz q (D.nw (xv P))++(fpz r (D.nw (yv P))++l)
theorem Old.pt {H:List Item} {p:Nat} {q r:NV} {P:Pt p} {l:List Nat} (h1:numT q (xv P)∈H) (h2:numT r (yv P)∈H) (h:Old H l):Old H (fp2 q r P l):=.cons (x:=numT q (xv P)) h1 rfl (.cons (x:=numT r (yv P)) h2 rfl h)
theorem fp2_q {p:Nat} {q r:NV} {P:Pt p} {l:List Nat} (lo:Nat):NFr lo (fp2 q r P l) q (D.nw (xv P)):=fun k hk=>.inr (List.mem_append.2 (.inl hk))
theorem fp2_r {p:Nat} {q r:NV} {P:Pt p} {l:List Nat} (lo:Nat):NFr lo (fp2 q r P l) r (D.nw (yv P)):=fun k hk=>.inr (List.mem_append.2 (.inr (List.mem_append.2 (.inl hk))))
theorem fp2_t {p:Nat} {q r:NV} {P:Pt p} {l:List Nat} {lo:Nat} {u:NV} {n:Nat} (h:NFr lo l u n):NFr lo (fp2 q r P l) u n:=fun k hk=>(h k hk).imp id fun h=>List.mem_append.2 (.inr (List.mem_append.2 (.inr h)))
theorem NFr.two {p:Nat} {q1 r1 q2 r2 u:NV} {P P2:Pt p} {lo n:Nat} {old:List Nat} (h:NFr lo (fp2 q1 r1 P (fp2 q2 r2 P2 [])) u n) (h1:NFr lo old q1 (D.nw (xv P))) (h2:NFr lo old r1 (D.nw (yv P))) (h3:NFr lo old q2 (D.nw (xv P2))) (h4:NFr lo old r2 (D.nw (yv P2))):NFr lo old u n:=fun k hk=>by
  rcases h k hk with h|h
  · exact .inl h
  · rcases List.mem_append.1 h with h|h
    · exact h1 k h
    · rcases List.mem_append.1 h with h|h
      · exact h2 k h
      · rcases List.mem_append.1 h with h|h
        · exact h3 k h
        · rcases List.mem_append.1 h with h|h
          · exact h4 k h
          · cases h
theorem rp_nil:rpL (.slice none 0 0) (.slice none 0 0) true = rpL (numV ⟨true,0,0⟩ 0) (numV ⟨true,0,0⟩ 0) true:=by
  rw [← Option.some.inj numV_nil]
theorem c_r_Plus (Q:CQ) (V:Cv) (q1 r1 q2 r2:NV) (P P2 R:Grp.Pt V.p) (w:World) (hc:(crvI Q V).holds w) (hok:V.Ok) (h1q:(numT q1 (xv P)).holds w) (h1r:(numT r1 (yv P)).holds w) (h2q:(numT q2 (xv P2)).holds w) (h2r:(numT r2 (yv P2)).holds w) (hP:On V.A V.B P) (hP2:On V.A V.B P2) (hR:padd V.A P P2 = R):Calls Try.prog 68 ([.agg (crvL Q V).toArray,rpV (numV q1 (xv P)) (numV r1 (yv P)) (iv P),rpV (numV q2 (xv P2)) (numV r2 (yv P2)) (iv P2)]:List Value).toArray w (fun e w'=>Num2R w (fp2 q1 r1 P (fp2 q2 r2 P2 [])) (xv R) (yv R) (fun u v=>rpV u v (iv R)) e w'):=by
  obtain ⟨hb5,hb521,hba,hbb,hbx,hby,hbn,hbo,hbo2,hbb1,hbn1⟩:=hok.bounds
  have hsz:=hok.sz
  have hsp:=hsz.p
  have hsa:=hsz.a
  have hsb:=hsz.b
  have hp0:V.p≠0:=by omega
  have hpp:0<V.p:=by omega
  have hm17:∀ k,D.nw (k%V.p)≤17:=fun k=>Nat.le_trans (D.nw_mono (Nat.le_of_lt (Nat.mod_lt k hpp))) hsp
  have h17:∀ {A:Nat},A<V.p→D.nw A≤100000:=fun h=>Nat.le_trans (nw_521 (Nat.lt_trans h hb521)) (by decide)
  refine Ky (N:=127) (rs:=[.cell 6 38]) [crvI Q V,numT q1 (xv P),numT r1 (yv P),numT q2 (xv P2),numT r2 (yv P2)] Try.func68 rfl Try.ntmps68 Try.results68 (Nb rfl) ⟨hc,h1q,h1r,h2q,h2r,trivial⟩ rfl ?_
  show LCode _ _ _ ⟨_,_⟩ _
  refine KD (KB ?_)
  refine KI rfl (KS (KR (KAD rfl) (Nb rfl) (fun b3=>?_)))
  refine KI rfl (KS (KR (KAD rfl) (Nb rfl) (fun b4=>?_)))
  refine KI rfl (KS (KR (KAD rfl) (Nb rfl) (fun b5=>?_)))
  refine KI rfl (KS (KR (Ke zr_38) (Nb rfl) (fun b6=>?_)))
  refine KG ?_
  refine KD ?_
  refine KD ?_
  rcases P with _|⟨x1,y1⟩
  ·
    have eR:P2 = R:=(hok.inf_add hP2).symm.trans hR
    subst eR
    refine KB ?_
    refine KA (KM (o':=2) Try.underlying38 rfl rfl rfl sz_4 (by decide)) (Nb rfl) ?_
    refine LOps.det (KL rfl (by repeat (first|exact Mh _|apply Mt)) (Kb Try.underlying4 rfl (by first|rfl|exact Ku _ _ _ (by omega)|exact Ks _ (by omega)|exact Kq _ (by omega)|exact dv_m _ _ _ (by omega)))) (Nb rfl) ?_
    refine KG ?_
    refine Kw rfl ?_
    refine KD (KB ?_)
    refine LOps.det (KL rfl (by repeat (first|exact Mh _|apply Mt)) (by exact KO Try.underlying38 rfl sz_38)) (Nb rfl) ?_
    refine KI rfl (KQ rfl rfl sz_38 (by repeat (first|exact KY|refine KW rfl ?_)) (by repeat (first|exact Sh _|apply St_)) (by rfl) ?_)
    refine KG (KX ?_)
    refine ⟨[_],.cons ⟨_,_,_,rfl,(by repeat (first|exact Mh _|apply Mt)),by exact KO Try.underlying38 rfl sz_38⟩ .nil,fun a w' hr=>hr.num2Q (by repeat (first|exact Mh _|apply Mt)) (fp2_t (fp2_q _)) (by repeat (first|exact Mh _|apply Mt)) (fp2_t (fp2_r _))⟩
  ·
    refine KB ?_
    refine KA (KM (o':=2) Try.underlying38 rfl rfl rfl sz_4 (by decide)) (Nb rfl) ?_
    refine LOps.det (KL rfl (by repeat (first|exact Mh _|apply Mt)) (Kb Try.underlying4 rfl (by first|rfl|exact Ku _ _ _ (by omega)|exact Ks _ (by omega)|exact Kq _ (by omega)|exact dv_m _ _ _ (by omega)))) (Nb rfl) ?_
    refine KG ?_
    refine Kd rfl ?_
    refine Kf ?_
    refine KD ?_
    refine KD ?_
    rcases P2 with _|⟨x2,y2⟩
    ·
      have eR:Pt.aff x1 y1 = R:=(hok.add_inf hP).symm.trans hR
      subst eR
      refine KB ?_
      refine KA (KM (o':=2) Try.underlying38 rfl rfl rfl sz_4 (by decide)) (Nb rfl) ?_
      refine LOps.det (KL rfl (by repeat (first|exact Mh _|apply Mt)) (Kb Try.underlying4 rfl (by first|rfl|exact Ku _ _ _ (by omega)|exact Ks _ (by omega)|exact Kq _ (by omega)|exact dv_m _ _ _ (by omega)))) (Nb rfl) ?_
      refine KG ?_
      refine Kw rfl ?_
      refine KD (KB ?_)
      refine LOps.det (KL rfl (by repeat (first|exact Mh _|apply Mt)) (by exact KO Try.underlying38 rfl sz_38)) (Nb rfl) ?_
      refine KI rfl (KQ rfl rfl sz_38 (by repeat (first|exact KY|refine KW rfl ?_)) (by repeat (first|exact Sh _|apply St_)) (by rfl) ?_)
      refine KG (KX ?_)
      refine ⟨[_],.cons ⟨_,_,_,rfl,(by repeat (first|exact Mh _|apply Mt)),by exact KO Try.underlying38 rfl sz_38⟩ .nil,fun a w' hr=>hr.num2Q (by repeat (first|exact Mh _|apply Mt)) (fp2_q _) (by repeat (first|exact Mh _|apply Mt)) (fp2_r _)⟩
    ·
      have hy0:=y_pos hok hP
      refine KB ?_
      refine KA (KM (o':=2) Try.underlying38 rfl rfl rfl sz_4 (by decide)) (Nb rfl) ?_
      refine LOps.det (KL rfl (by repeat (first|exact Mh _|apply Mt)) (Kb Try.underlying4 rfl (by first|rfl|exact Ku _ _ _ (by omega)|exact Ks _ (by omega)|exact Kq _ (by omega)|exact dv_m _ _ _ (by omega)))) (Nb rfl) ?_
      refine KG ?_
      refine Kd rfl ?_
      refine Kf ?_
      refine KD (KB ?_)
      refine KA (KF rfl) (Nb rfl) ?_
      refine KA (KF rfl) (Nb rfl) ?_
      refine KG ?_
      refine LCode.cut (α:=Nat×Nat×NV×NV) (fun x=>PlusQ V R x1.val y1.val x2.val x.1 x.2.1) (fun x=>⟨[(3,.pointer (some ⟨b3,0,none⟩)),(4,.pointer (some ⟨b4,0,none⟩)),(5,.pointer (some ⟨b5,0,none⟩)),(6,.pointer (some ⟨b6,0,none⟩)),(7,numV x.2.2.1 x.1),(8,numV x.2.2.2 x.2.1)],[.blk b6 ⟨true,[.slice none 0 0,.slice none 0 0,.bool false],38,(0,0)⟩,.blk b5 ⟨true,rpL (numV q2 x2.val) (numV r2 y2.val) false,38,(0,0)⟩,.blk b4 ⟨true,rpL (numV q1 x1.val) (numV r1 y1.val) false,38,(0,0)⟩,.blk b3 ⟨true,crvL Q V,26,(0,0)⟩,numT x.2.2.1 x.1,numT x.2.2.2 x.2.1,crvI Q V,numT q1 x1.val,numT r1 y1.val,numT q2 x2.val,numT r2 y2.val]⟩) ?_ ?_
      ·
        refine KD (KB ?_)
        refine KA (KM (o':=0) Try.underlying38 rfl rfl rfl sz_24 (by decide)) (Nb rfl) ?_
        refine LOps.det (KL rfl (by repeat (first|exact Mh _|apply Mt)) (Kb Try.underlying24 rfl (by first|rfl|exact Ku _ _ _ (by omega)|exact Ks _ (by omega)|exact Kq _ (by omega)|exact dv_m _ _ _ (by omega)))) (Nb rfl) ?_
        refine KA (KM (o':=0) Try.underlying38 rfl rfl rfl sz_24 (by decide)) (Nb rfl) ?_
        refine LOps.det (KL rfl (by repeat (first|exact Mh _|apply Mt)) (Kb Try.underlying24 rfl (by first|rfl|exact Ku _ _ _ (by omega)|exact Ks _ (by omega)|exact Kq _ (by omega)|exact dv_m _ _ _ (by omega)))) (Nb rfl) ?_
        refine KI rfl (KS (KP (first:=[]) rfl en_59 rfl (Nb rfl) (fun w hw=>c_n_Cmp q1 q2 x1.val x2.val w (hw _ (by repeat (first|exact Mh _|apply Mt))) (hw _ (by repeat (first|exact Mh _|apply Mt))) (Nat.le_trans (h17 x1.isLt) (by decide))) ?_))
        refine KA (KK rfl rfl cmp_eql) (Nb rfl) ?_
        refine KG ?_
        first|refine Kh rfl (fun hx=>?_) (fun hx=>?_)|refine Kj rfl (fun hx=>?_) (fun hx=>?_)
        ·
          have hx:x1.val = x2.val:=hx
          refine KD ?_
          refine KD ?_
          by_cases hy:y1.val = y2.val
          ·
            refine KB ?_
            refine KA (KM (o':=1) Try.underlying38 rfl rfl rfl sz_24 (by decide)) (Nb rfl) ?_
            refine LOps.det (KL rfl (by repeat (first|exact Mh _|apply Mt)) (Kb Try.underlying24 rfl (by first|rfl|exact Ku _ _ _ (by omega)|exact Ks _ (by omega)|exact Kq _ (by omega)|exact dv_m _ _ _ (by omega)))) (Nb rfl) ?_
            refine KA (KM (o':=1) Try.underlying38 rfl rfl rfl sz_24 (by decide)) (Nb rfl) ?_
            refine LOps.det (KL rfl (by repeat (first|exact Mh _|apply Mt)) (Kb Try.underlying24 rfl (by first|rfl|exact Ku _ _ _ (by omega)|exact Ks _ (by omega)|exact Kq _ (by omega)|exact dv_m _ _ _ (by omega)))) (Nb rfl) ?_
            refine KI rfl (KS (KP (first:=[]) rfl en_59 rfl (Nb rfl) (fun w hw=>c_n_Cmp r1 r2 y1.val y2.val w (hw _ (by repeat (first|exact Mh _|apply Mt))) (hw _ (by repeat (first|exact Mh _|apply Mt))) (Nat.le_trans (h17 y1.isLt) (by decide))) ?_))
            refine KA (KK (v:=.bool false) rfl rfl (br_f cmp_neq (fun e=>e hy))) (Nb rfl) ?_
            refine KA (KC rfl) (Nb rfl) ?_
            refine KU rfl rfl (KM (o':=1) Try.underlying38 rfl rfl rfl sz_24 (by decide)) (Nb rfl) ?_
            refine KAi rfl rfl (KL rfl (by repeat (first|exact Mh _|apply Mt)) (Kb Try.underlying24 rfl (by first|rfl|exact Ku _ _ _ (by omega)|exact Ks _ (by omega)|exact Kq _ (by omega)|exact dv_m _ _ _ (by omega)))) (Nb rfl) ?_
            refine KU rfl rfl (KAX Try.underlying24 rfl) (Nb rfl) ?_
            refine KU rfl rfl (KK (v:=.bool false) rfl rfl (br_f (KAc (b:=0)) (fun e=>hy0 (nw_eq_zero.1 e)))) (Nb rfl) ?_
            refine KA (KAC rfl rfl) (Nb rfl) ?_
            refine KG ?_
            refine Kd rfl ?_
            refine Kf ?_
            refine KD ?_
            have ex:x1 = x2:=Fin.ext hx
            have ey:y1 = y2:=Fin.ext hy
            subst ex ey
            refine KB ?_
            refine KA (KM (o':=0) Try.underlying38 rfl rfl rfl sz_24 (by decide)) (Nb rfl) ?_
            refine LOps.det (KL rfl (by repeat (first|exact Mh _|apply Mt)) (Kb Try.underlying24 rfl (by first|rfl|exact Ku _ _ _ (by omega)|exact Ks _ (by omega)|exact Kq _ (by omega)|exact dv_m _ _ _ (by omega)))) (Nb rfl) ?_
            refine KA (KM (o':=0) Try.underlying38 rfl rfl rfl sz_24 (by decide)) (Nb rfl) ?_
            refine LOps.det (KL rfl (by repeat (first|exact Mh _|apply Mt)) (Kb Try.underlying24 rfl (by first|rfl|exact Ku _ _ _ (by omega)|exact Ks _ (by omega)|exact Kq _ (by omega)|exact dv_m _ _ _ (by omega)))) (Nb rfl) ?_
            refine KA (KM (o':=1) Try.underlying26 rfl rfl rfl sz_24 (by decide)) (Nb rfl) ?_
            refine LOps.det (KL rfl (by repeat (first|exact Mh _|apply Mt)) (Kb Try.underlying24 rfl (by first|rfl|exact Ku _ _ _ (by omega)|exact Ks _ (by omega)|exact Kq _ (by omega)|exact dv_m _ _ _ (by omega)))) (Nb rfl) ?_
            refine KI rfl (KS (Kx (first:=[]) rfl en_67 rfl (Nb rfl) (fun w hw hs=>(c_n_MulMod q1 q1 Q.p (x1.val) (x1.val) V.p hp0 w (hw _ (by repeat (first|exact Mh _|apply Mt))) (hw _ (by repeat (first|exact Mh _|apply Mt))) (crvI_p (hw _ (by repeat (first|exact Mh _|apply Mt)))) (h17 x1.isLt) (h17 x1.isLt)).mono fun e w' h=>NumR.q (Old.nil _) hs h) ?_))
            rintro _ _ ⟨qt1,rfl,rfl,hnt1⟩
            refine KA (KF rfl) (Nb rfl) ?_
            refine KG ?_
            refine KD ?_
            refine Kg [] (by kernel_rfl) ?_
            refine KE 0 rfl (by kernel_rfl) (Nb rfl) (KC rfl) ?_
            refine KE 1 rfl (by kernel_rfl) (Nb rfl) (KC rfl) ?_
            refine KE 2 rfl (by kernel_rfl) (Nb rfl) (KC rfl) ?_
            refine KE 3 rfl (by kernel_rfl) (Nb rfl) (KM (o':=1) Try.underlying26 rfl rfl rfl sz_24 (by decide)) ?_
            refine LAny.take 4 rfl (by kernel_rfl) (Nb rfl) (KL rfl (by repeat (first|exact Mh _|apply Mt)) (Kb Try.underlying24 rfl (by first|rfl|exact Ku _ _ _ (by omega)|exact Ks _ (by omega)|exact Kq _ (by omega)|exact dv_m _ _ _ (by omega)))) ?_
            refine KE 6 rfl (by kernel_rfl) (Nb rfl) (KM (o':=1) Try.underlying26 rfl rfl rfl sz_24 (by decide)) ?_
            refine LAny.take 7 rfl (by kernel_rfl) (Nb rfl) (KL rfl (by repeat (first|exact Mh _|apply Mt)) (Kb Try.underlying24 rfl (by first|rfl|exact Ku _ _ _ (by omega)|exact Ks _ (by omega)|exact Kq _ (by omega)|exact dv_m _ _ _ (by omega)))) ?_
            refine KE 9 rfl (by kernel_rfl) (Nb rfl) (KM (o':=2) Try.underlying26 rfl rfl rfl sz_24 (by decide)) ?_
            refine LAny.take 10 rfl (by kernel_rfl) (Nb rfl) (KL rfl (by repeat (first|exact Mh _|apply Mt)) (Kb Try.underlying24 rfl (by first|rfl|exact Ku _ _ _ (by omega)|exact Ks _ (by omega)|exact Kq _ (by omega)|exact dv_m _ _ _ (by omega)))) ?_
            refine KE 11 rfl (by kernel_rfl) (Nb rfl) (KM (o':=1) Try.underlying26 rfl rfl rfl sz_24 (by decide)) ?_
            refine LAny.take 12 rfl (by kernel_rfl) (Nb rfl) (KL rfl (by repeat (first|exact Mh _|apply Mt)) (Kb Try.underlying24 rfl (by first|rfl|exact Ku _ _ _ (by omega)|exact Ks _ (by omega)|exact Kq _ (by omega)|exact dv_m _ _ _ (by omega)))) ?_
            refine Kt 5 rfl rfl (by kernel_rfl) (Kx (first:=[]) rfl en_71 rfl (Nb rfl) (fun w hw hs=>(c_n_AddMod qt1 qt1 Q.p (x1.val*x1.val%V.p) (x1.val*x1.val%V.p) V.p w (hw _ (by repeat (first|exact Mh _|apply Mt))) (hw _ (by repeat (first|exact Mh _|apply Mt))) (crvI_p (hw _ (by repeat (first|exact Mh _|apply Mt)))) (h17 (Nat.mod_lt _ hpp)) (h17 (Nat.mod_lt _ hpp)) (Nat.mod_lt _ hpp) (Nat.mod_lt _ hpp)).mono fun e w' h=>NumR.q (Old.nil _) hs h) ?_)
            rintro _ _ ⟨qt2,rfl,rfl,hnt2⟩
            refine Kt 8 rfl rfl (by kernel_rfl) (Kx (first:=[]) rfl en_71 rfl (Nb rfl) (fun w hw hs=>(c_n_AddMod qt1 qt2 Q.p (x1.val*x1.val%V.p) ((x1.val*x1.val%V.p+x1.val*x1.val%V.p)%V.p) V.p w (hw _ (by repeat (first|exact Mh _|apply Mt))) (hw _ (by repeat (first|exact Mh _|apply Mt))) (crvI_p (hw _ (by repeat (first|exact Mh _|apply Mt)))) (h17 (Nat.mod_lt _ hpp)) (h17 (Nat.mod_lt _ hpp)) (Nat.mod_lt _ hpp) (Nat.mod_lt _ hpp)).mono fun e w' h=>NumR.q (Old.nil _) hs h) ?_)
            rintro _ _ ⟨qt3,rfl,rfl,hnt3⟩
            refine Kt 13 rfl rfl (by kernel_rfl) (Kx (first:=[]) rfl en_71 rfl (Nb rfl) (fun w hw hs=>(c_n_AddMod qt3 Q.a Q.p ((x1.val*x1.val%V.p+(x1.val*x1.val%V.p+x1.val*x1.val%V.p)%V.p)%V.p) (V.a) V.p w (hw _ (by repeat (first|exact Mh _|apply Mt))) (crvI_a (hw _ (by repeat (first|exact Mh _|apply Mt)))) (crvI_p (hw _ (by repeat (first|exact Mh _|apply Mt)))) (h17 (Nat.mod_lt _ hpp)) (h17 hba) (Nat.mod_lt _ hpp) hba).mono fun e w' h=>NumR.q (Old.nil _) hs h) ?_)
            rintro _ _ ⟨qt4,rfl,rfl,hnt4⟩
            refine KE 14 rfl (by kernel_rfl) (Nb rfl) (KF rfl) ?_
            refine Ko (by kernel_rfl) ?_
            refine KB ?_
            refine KA (KM (o':=1) Try.underlying38 rfl rfl rfl sz_24 (by decide)) (Nb rfl) ?_
            refine LOps.det (KL rfl (by repeat (first|exact Mh _|apply Mt)) (Kb Try.underlying24 rfl (by first|rfl|exact Ku _ _ _ (by omega)|exact Ks _ (by omega)|exact Kq _ (by omega)|exact dv_m _ _ _ (by omega)))) (Nb rfl) ?_
            refine KA (KM (o':=1) Try.underlying38 rfl rfl rfl sz_24 (by decide)) (Nb rfl) ?_
            refine LOps.det (KL rfl (by repeat (first|exact Mh _|apply Mt)) (Kb Try.underlying24 rfl (by first|rfl|exact Ku _ _ _ (by omega)|exact Ks _ (by omega)|exact Kq _ (by omega)|exact dv_m _ _ _ (by omega)))) (Nb rfl) ?_
            refine KA (KM (o':=1) Try.underlying26 rfl rfl rfl sz_24 (by decide)) (Nb rfl) ?_
            refine LOps.det (KL rfl (by repeat (first|exact Mh _|apply Mt)) (Kb Try.underlying24 rfl (by first|rfl|exact Ku _ _ _ (by omega)|exact Ks _ (by omega)|exact Kq _ (by omega)|exact dv_m _ _ _ (by omega)))) (Nb rfl) ?_
            refine KI rfl (KS (Kx (first:=[]) rfl en_71 rfl (Nb rfl) (fun w hw hs=>(c_n_AddMod r1 r1 Q.p (y1.val) (y1.val) V.p w (hw _ (by repeat (first|exact Mh _|apply Mt))) (hw _ (by repeat (first|exact Mh _|apply Mt))) (crvI_p (hw _ (by repeat (first|exact Mh _|apply Mt)))) (h17 y1.isLt) (h17 y1.isLt) y1.isLt y1.isLt).mono fun e w' h=>NumR.q (Old.nil _) hs h) ?_))
            rintro _ _ ⟨qt5,rfl,rfl,hnt5⟩
            refine KA (KF rfl) (Nb rfl) ?_
            refine KG ?_
            exact ⟨(tangO V.p V.a x1.val,tangU V.p y1.val,qt4,qt5),hR ▸ plus_tang hok hP,KAG ⟨rfl,rfl,rfl,rfl,rfl,rfl,trivial⟩ (by repeat (first|exact Sel.nil _|refine Sel.cons (by repeat (first|exact Ph _|apply Pt_)) ?_))⟩
          ·
            refine KB ?_
            refine KA (KM (o':=1) Try.underlying38 rfl rfl rfl sz_24 (by decide)) (Nb rfl) ?_
            refine LOps.det (KL rfl (by repeat (first|exact Mh _|apply Mt)) (Kb Try.underlying24 rfl (by first|rfl|exact Ku _ _ _ (by omega)|exact Ks _ (by omega)|exact Kq _ (by omega)|exact dv_m _ _ _ (by omega)))) (Nb rfl) ?_
            refine KA (KM (o':=1) Try.underlying38 rfl rfl rfl sz_24 (by decide)) (Nb rfl) ?_
            refine LOps.det (KL rfl (by repeat (first|exact Mh _|apply Mt)) (Kb Try.underlying24 rfl (by first|rfl|exact Ku _ _ _ (by omega)|exact Ks _ (by omega)|exact Kq _ (by omega)|exact dv_m _ _ _ (by omega)))) (Nb rfl) ?_
            refine KI rfl (KS (KP (first:=[]) rfl en_59 rfl (Nb rfl) (fun w hw=>c_n_Cmp r1 r2 y1.val y2.val w (hw _ (by repeat (first|exact Mh _|apply Mt))) (hw _ (by repeat (first|exact Mh _|apply Mt))) (Nat.le_trans (h17 y1.isLt) (by decide))) ?_))
            refine KA (KK (v:=.bool true) rfl rfl (br_t cmp_neq (hy))) (Nb rfl) ?_
            refine KA (KC rfl) (Nb rfl) ?_
            refine Kv rfl rfl rfl (Nb rfl) ?_
            refine Kv rfl rfl rfl (Nb rfl) ?_
            refine Kv rfl rfl rfl (Nb rfl) ?_
            refine Kv rfl rfl rfl (Nb rfl) ?_
            refine KA (Kp rfl rfl) (Nb rfl) ?_
            refine KG ?_
            refine Kw rfl ?_
            refine KD ?_
            have eR:Pt.inf = R:=(plus_opp hok hP hP2 hx hy).symm.trans hR
            subst eR
            refine KB ?_
            refine KA (KT (KAQ pl_38 zr_38 rfl rfl) (show _ = rpV (.slice none 0 0) (.slice none 0 0) (true) from rfl)) (Nb rfl) ?_
            refine KI rfl (KQ rfl rfl sz_38 (by repeat (first|exact KY|refine KW rfl ?_)) (by repeat (first|exact Sh _|apply St_)) (by rfl) ?_)
            refine KG (KX ?_)
            refine ⟨[_],.cons ⟨_,_,_,rfl,(by repeat (first|exact Mh _|apply Mt)),by exact KO Try.underlying38 rfl sz_38⟩ .nil,fun a w' hr=>⟨⟨true,0,0⟩,⟨true,0,0⟩,congrArg (fun l:List Value=>Ending.returned (.agg l.toArray)) rp_nil,numT_zero_holds _,nfr_zero _ _,numT_zero_holds _,nfr_zero _ _,hr.fr.below⟩⟩
        ·
          have hx:x1.val≠x2.val:=hx
          refine KD (KB ?_)
          refine KA (KM (o':=1) Try.underlying38 rfl rfl rfl sz_24 (by decide)) (Nb rfl) ?_
          refine LOps.det (KL rfl (by repeat (first|exact Mh _|apply Mt)) (Kb Try.underlying24 rfl (by first|rfl|exact Ku _ _ _ (by omega)|exact Ks _ (by omega)|exact Kq _ (by omega)|exact dv_m _ _ _ (by omega)))) (Nb rfl) ?_
          refine KA (KM (o':=1) Try.underlying38 rfl rfl rfl sz_24 (by decide)) (Nb rfl) ?_
          refine LOps.det (KL rfl (by repeat (first|exact Mh _|apply Mt)) (Kb Try.underlying24 rfl (by first|rfl|exact Ku _ _ _ (by omega)|exact Ks _ (by omega)|exact Kq _ (by omega)|exact dv_m _ _ _ (by omega)))) (Nb rfl) ?_
          refine KA (KM (o':=1) Try.underlying26 rfl rfl rfl sz_24 (by decide)) (Nb rfl) ?_
          refine LOps.det (KL rfl (by repeat (first|exact Mh _|apply Mt)) (Kb Try.underlying24 rfl (by first|rfl|exact Ku _ _ _ (by omega)|exact Ks _ (by omega)|exact Kq _ (by omega)|exact dv_m _ _ _ (by omega)))) (Nb rfl) ?_
          refine KI rfl (KS (Kx (first:=[]) rfl en_105 rfl (Nb rfl) (fun w hw hs=>(c_n_SubMod r2 r1 Q.p (y2.val) (y1.val) V.p w (hw _ (by repeat (first|exact Mh _|apply Mt))) (hw _ (by repeat (first|exact Mh _|apply Mt))) (crvI_p (hw _ (by repeat (first|exact Mh _|apply Mt)))) (h17 y2.isLt) (by omega) y1.isLt).mono fun e w' h=>NumR.q (Old.nil _) hs h) ?_))
          rintro _ _ ⟨qc1,rfl,rfl,hnc1⟩
          refine KA (KF rfl) (Nb rfl) ?_
          refine KG ?_
          refine KB ?_
          refine KA (KM (o':=0) Try.underlying38 rfl rfl rfl sz_24 (by decide)) (Nb rfl) ?_
          refine LOps.det (KL rfl (by repeat (first|exact Mh _|apply Mt)) (Kb Try.underlying24 rfl (by first|rfl|exact Ku _ _ _ (by omega)|exact Ks _ (by omega)|exact Kq _ (by omega)|exact dv_m _ _ _ (by omega)))) (Nb rfl) ?_
          refine KA (KM (o':=0) Try.underlying38 rfl rfl rfl sz_24 (by decide)) (Nb rfl) ?_
          refine LOps.det (KL rfl (by repeat (first|exact Mh _|apply Mt)) (Kb Try.underlying24 rfl (by first|rfl|exact Ku _ _ _ (by omega)|exact Ks _ (by omega)|exact Kq _ (by omega)|exact dv_m _ _ _ (by omega)))) (Nb rfl) ?_
          refine KA (KM (o':=1) Try.underlying26 rfl rfl rfl sz_24 (by decide)) (Nb rfl) ?_
          refine LOps.det (KL rfl (by repeat (first|exact Mh _|apply Mt)) (Kb Try.underlying24 rfl (by first|rfl|exact Ku _ _ _ (by omega)|exact Ks _ (by omega)|exact Kq _ (by omega)|exact dv_m _ _ _ (by omega)))) (Nb rfl) ?_
          refine KI rfl (KS (Kx (first:=[]) rfl en_105 rfl (Nb rfl) (fun w hw hs=>(c_n_SubMod q2 q1 Q.p (x2.val) (x1.val) V.p w (hw _ (by repeat (first|exact Mh _|apply Mt))) (hw _ (by repeat (first|exact Mh _|apply Mt))) (crvI_p (hw _ (by repeat (first|exact Mh _|apply Mt)))) (h17 x2.isLt) (by omega) x1.isLt).mono fun e w' h=>NumR.q (Old.nil _) hs h) ?_))
          rintro _ _ ⟨qc2,rfl,rfl,hnc2⟩
          refine KA (KF rfl) (Nb rfl) ?_
          refine KG ?_
          exact ⟨(chordO V.p y1.val y2.val,chordU V.p x1.val x2.val,qc1,qc2),hR ▸ plus_chord hok hP hP2 hx,KAG ⟨rfl,rfl,rfl,rfl,rfl,rfl,trivial⟩ (by repeat (first|exact Sel.nil _|refine Sel.cons (by repeat (first|exact Ph _|apply Pt_)) ?_))⟩
      ·
        rintro x ⟨⟨ho,hu,hu0⟩,hx1,hx2,hx3⟩
        have hin:=invM_lt (a:=x.2.1) hpp
        refine KD (KB ?_)
        refine KA (KC rfl) (Nb rfl) ?_
        refine KA (KM (o':=1) Try.underlying26 rfl rfl rfl sz_24 (by decide)) (Nb rfl) ?_
        refine LOps.det (KL rfl (by repeat (first|exact Mh _|apply Mt)) (Kb Try.underlying24 rfl (by first|rfl|exact Ku _ _ _ (by omega)|exact Ks _ (by omega)|exact Kq _ (by omega)|exact dv_m _ _ _ (by omega)))) (Nb rfl) ?_
        refine KI rfl (KS (Kx (first:=[]) rfl en_106 rfl (Nb rfl) (fun w hw hs=>(c_n_Inverse x.2.2.2 Q.p x.2.1 V.p w (hw _ (by repeat (first|exact Mh _|apply Mt))) (crvI_p (hw _ (by repeat (first|exact Mh _|apply Mt)))) (Nat.le_trans (h17 hu) (by decide)) (by omega) (by omega) (gcd_under hok hu hu0)).mono fun e w' h=>NumR.q (Old.nil _) hs h) ?_))
        rintro _ _ ⟨qi,rfl,rfl,hni⟩
        refine KA (KC rfl) (Nb rfl) ?_
        refine KA (Ka rfl rfl) (Nb rfl) ?_
        refine KA (Ka rfl rfl) (Nb rfl) ?_
        refine KA (KF rfl) (Nb rfl) ?_
        refine KA (KF rfl) (Nb rfl) ?_
        refine KG ?_
        refine KD (KB ?_)
        refine KA (KC rfl) (Nb rfl) ?_
        refine KA (KC rfl) (Nb rfl) ?_
        refine KA (KM (o':=1) Try.underlying26 rfl rfl rfl sz_24 (by decide)) (Nb rfl) ?_
        refine LOps.det (KL rfl (by repeat (first|exact Mh _|apply Mt)) (Kb Try.underlying24 rfl (by first|rfl|exact Ku _ _ _ (by omega)|exact Ks _ (by omega)|exact Kq _ (by omega)|exact dv_m _ _ _ (by omega)))) (Nb rfl) ?_
        refine KI rfl (KS (Kx (first:=[]) rfl en_67 rfl (Nb rfl) (fun w hw hs=>(c_n_MulMod x.2.2.1 qi Q.p (x.1) (invM x.2.1 V.p) V.p hp0 w (hw _ (by repeat (first|exact Mh _|apply Mt))) (hw _ (by repeat (first|exact Mh _|apply Mt))) (crvI_p (hw _ (by repeat (first|exact Mh _|apply Mt)))) (h17 ho) (h17 hin)).mono fun e w' h=>NumR.q (Old.nil _) hs h) ?_))
        rintro _ _ ⟨ql,rfl,rfl,hnl⟩
        refine KA (KF rfl) (Nb rfl) ?_
        refine KG ?_
        refine KD ?_
        have hL:x.1*invM x.2.1 V.p%V.p<V.p:=Nat.mod_lt _ hpp
        generalize x.1*invM x.2.1 V.p%V.p = L at *
        refine Kg [] (by kernel_rfl) ?_
        refine KE 0 rfl (by kernel_rfl) (Nb rfl) (KC rfl) ?_
        refine KE 1 rfl (by kernel_rfl) (Nb rfl) (KC rfl) ?_
        refine KE 2 rfl (by kernel_rfl) (Nb rfl) (KM (o':=1) Try.underlying26 rfl rfl rfl sz_24 (by decide)) ?_
        refine LAny.take 3 rfl (by kernel_rfl) (Nb rfl) (KL rfl (by repeat (first|exact Mh _|apply Mt)) (Kb Try.underlying24 rfl (by first|rfl|exact Ku _ _ _ (by omega)|exact Ks _ (by omega)|exact Kq _ (by omega)|exact dv_m _ _ _ (by omega)))) ?_
        refine KE 5 rfl (by kernel_rfl) (Nb rfl) (KM (o':=0) Try.underlying38 rfl rfl rfl sz_24 (by decide)) ?_
        refine LAny.take 6 rfl (by kernel_rfl) (Nb rfl) (KL rfl (by repeat (first|exact Mh _|apply Mt)) (Kb Try.underlying24 rfl (by first|rfl|exact Ku _ _ _ (by omega)|exact Ks _ (by omega)|exact Kq _ (by omega)|exact dv_m _ _ _ (by omega)))) ?_
        refine KE 7 rfl (by kernel_rfl) (Nb rfl) (KM (o':=1) Try.underlying26 rfl rfl rfl sz_24 (by decide)) ?_
        refine LAny.take 8 rfl (by kernel_rfl) (Nb rfl) (KL rfl (by repeat (first|exact Mh _|apply Mt)) (Kb Try.underlying24 rfl (by first|rfl|exact Ku _ _ _ (by omega)|exact Ks _ (by omega)|exact Kq _ (by omega)|exact dv_m _ _ _ (by omega)))) ?_
        refine KE 10 rfl (by kernel_rfl) (Nb rfl) (KM (o':=0) Try.underlying38 rfl rfl rfl sz_24 (by decide)) ?_
        refine LAny.take 11 rfl (by kernel_rfl) (Nb rfl) (KL rfl (by repeat (first|exact Mh _|apply Mt)) (Kb Try.underlying24 rfl (by first|rfl|exact Ku _ _ _ (by omega)|exact Ks _ (by omega)|exact Kq _ (by omega)|exact dv_m _ _ _ (by omega)))) ?_
        refine KE 12 rfl (by kernel_rfl) (Nb rfl) (KM (o':=1) Try.underlying26 rfl rfl rfl sz_24 (by decide)) ?_
        refine LAny.take 13 rfl (by kernel_rfl) (Nb rfl) (KL rfl (by repeat (first|exact Mh _|apply Mt)) (Kb Try.underlying24 rfl (by first|rfl|exact Ku _ _ _ (by omega)|exact Ks _ (by omega)|exact Kq _ (by omega)|exact dv_m _ _ _ (by omega)))) ?_
        refine Kt 4 rfl rfl (by kernel_rfl) (Kx (first:=[]) rfl en_67 rfl (Nb rfl) (fun w hw hs=>(c_n_MulMod ql ql Q.p (L) (L) V.p hp0 w (hw _ (by repeat (first|exact Mh _|apply Mt))) (hw _ (by repeat (first|exact Mh _|apply Mt))) (crvI_p (hw _ (by repeat (first|exact Mh _|apply Mt)))) (h17 hL) (h17 hL)).mono fun e w' h=>NumR.q (Old.nil _) hs h) ?_)
        rintro _ _ ⟨qll,rfl,rfl,hnll⟩
        refine Kt 9 rfl rfl (by kernel_rfl) (Kx (first:=[]) rfl en_105 rfl (Nb rfl) (fun w hw hs=>(c_n_SubMod qll q1 Q.p (L*L%V.p) (x1.val) V.p w (hw _ (by repeat (first|exact Mh _|apply Mt))) (hw _ (by repeat (first|exact Mh _|apply Mt))) (crvI_p (hw _ (by repeat (first|exact Mh _|apply Mt)))) (h17 (Nat.mod_lt _ hpp)) (by omega) x1.isLt).mono fun e w' h=>NumR.q (Old.nil _) hs h) ?_)
        rintro _ _ ⟨qlx,rfl,rfl,hnlx⟩
        refine Kt 14 rfl rfl (by kernel_rfl) (Kx (first:=[]) rfl en_105 rfl (Nb rfl) (fun w hw hs=>(c_n_SubMod qlx q2 Q.p (lessM (L*L%V.p) x1.val V.p) (x2.val) V.p w (hw _ (by repeat (first|exact Mh _|apply Mt))) (hw _ (by repeat (first|exact Mh _|apply Mt))) (crvI_p (hw _ (by repeat (first|exact Mh _|apply Mt)))) (h17 (lessM_lt (Nat.mod_lt _ hpp) x1.isLt)) (by omega) x2.isLt).mono fun e w' h=>NumR.q (Old.nil _) hs h) ?_)
        rintro _ _ ⟨qx,rfl,rfl,hnx⟩
        refine KE 15 rfl (by kernel_rfl) (Nb rfl) (KF rfl) ?_
        refine Ko (by kernel_rfl) ?_
        refine KD ?_
        refine Kg [] (by kernel_rfl) ?_
        refine KE 0 rfl (by kernel_rfl) (Nb rfl) (KC rfl) ?_
        refine KE 1 rfl (by kernel_rfl) (Nb rfl) (KM (o':=0) Try.underlying38 rfl rfl rfl sz_24 (by decide)) ?_
        refine LAny.take 2 rfl (by kernel_rfl) (Nb rfl) (KL rfl (by repeat (first|exact Mh _|apply Mt)) (Kb Try.underlying24 rfl (by first|rfl|exact Ku _ _ _ (by omega)|exact Ks _ (by omega)|exact Kq _ (by omega)|exact dv_m _ _ _ (by omega)))) ?_
        refine KE 3 rfl (by kernel_rfl) (Nb rfl) (KC rfl) ?_
        refine KE 4 rfl (by kernel_rfl) (Nb rfl) (KM (o':=1) Try.underlying26 rfl rfl rfl sz_24 (by decide)) ?_
        refine LAny.take 5 rfl (by kernel_rfl) (Nb rfl) (KL rfl (by repeat (first|exact Mh _|apply Mt)) (Kb Try.underlying24 rfl (by first|rfl|exact Ku _ _ _ (by omega)|exact Ks _ (by omega)|exact Kq _ (by omega)|exact dv_m _ _ _ (by omega)))) ?_
        refine KE 7 rfl (by kernel_rfl) (Nb rfl) (KM (o':=1) Try.underlying26 rfl rfl rfl sz_24 (by decide)) ?_
        refine LAny.take 8 rfl (by kernel_rfl) (Nb rfl) (KL rfl (by repeat (first|exact Mh _|apply Mt)) (Kb Try.underlying24 rfl (by first|rfl|exact Ku _ _ _ (by omega)|exact Ks _ (by omega)|exact Kq _ (by omega)|exact dv_m _ _ _ (by omega)))) ?_
        refine KE 10 rfl (by kernel_rfl) (Nb rfl) (KM (o':=1) Try.underlying38 rfl rfl rfl sz_24 (by decide)) ?_
        refine LAny.take 11 rfl (by kernel_rfl) (Nb rfl) (KL rfl (by repeat (first|exact Mh _|apply Mt)) (Kb Try.underlying24 rfl (by first|rfl|exact Ku _ _ _ (by omega)|exact Ks _ (by omega)|exact Kq _ (by omega)|exact dv_m _ _ _ (by omega)))) ?_
        refine KE 12 rfl (by kernel_rfl) (Nb rfl) (KM (o':=1) Try.underlying26 rfl rfl rfl sz_24 (by decide)) ?_
        refine LAny.take 13 rfl (by kernel_rfl) (Nb rfl) (KL rfl (by repeat (first|exact Mh _|apply Mt)) (Kb Try.underlying24 rfl (by first|rfl|exact Ku _ _ _ (by omega)|exact Ks _ (by omega)|exact Kq _ (by omega)|exact dv_m _ _ _ (by omega)))) ?_
        refine Kt 6 rfl rfl (by kernel_rfl) (Kx (first:=[]) rfl en_105 rfl (Nb rfl) (fun w hw hs=>(c_n_SubMod q1 qx Q.p (x1.val) (lineX V.p L x1.val x2.val) V.p w (hw _ (by repeat (first|exact Mh _|apply Mt))) (hw _ (by repeat (first|exact Mh _|apply Mt))) (crvI_p (hw _ (by repeat (first|exact Mh _|apply Mt)))) (h17 x1.isLt) (by omega) (lineX_lt x1.isLt x2.isLt)).mono fun e w' h=>NumR.q (Old.nil _) hs h) ?_)
        rintro _ _ ⟨qd,rfl,rfl,hnd⟩
        refine Kt 9 rfl rfl (by kernel_rfl) (Kx (first:=[]) rfl en_67 rfl (Nb rfl) (fun w hw hs=>(c_n_MulMod ql qd Q.p (L) (lessM x1.val (lineX V.p L x1.val x2.val) V.p) V.p hp0 w (hw _ (by repeat (first|exact Mh _|apply Mt))) (hw _ (by repeat (first|exact Mh _|apply Mt))) (crvI_p (hw _ (by repeat (first|exact Mh _|apply Mt)))) (h17 hL) (h17 (lessM_lt x1.isLt (lineX_lt x1.isLt x2.isLt)))).mono fun e w' h=>NumR.q (Old.nil _) hs h) ?_)
        rintro _ _ ⟨qm,rfl,rfl,hnm⟩
        refine Kt 14 rfl rfl (by kernel_rfl) (Kx (first:=[]) rfl en_105 rfl (Nb rfl) (fun w hw hs=>(c_n_SubMod qm r1 Q.p (L*lessM x1.val (lineX V.p L x1.val x2.val) V.p%V.p) (y1.val) V.p w (hw _ (by repeat (first|exact Mh _|apply Mt))) (hw _ (by repeat (first|exact Mh _|apply Mt))) (crvI_p (hw _ (by repeat (first|exact Mh _|apply Mt)))) (h17 (Nat.mod_lt _ hpp)) (by omega) y1.isLt).mono fun e w' h=>NumR.q (Old.nil _) hs h) ?_)
        rintro _ _ ⟨qy,rfl,rfl,hny⟩
        refine KE 15 rfl (by kernel_rfl) (Nb rfl) (KF rfl) ?_
        refine Ko (by kernel_rfl) ?_
        refine KD (KB ?_)
        refine KA (KC rfl) (Nb rfl) ?_
        refine KA (KC rfl) (Nb rfl) ?_
        refine KA (KT (KAQ pl_38 zr_38 rfl rfl) (show _ = rpV (numV qx (lineX V.p L x1.val x2.val)) (numV qy (lineY V.p L x1.val y1.val (lineX V.p L x1.val x2.val))) (false) from rfl)) (Nb rfl) ?_
        refine KI rfl (KQ rfl rfl sz_38 (by repeat (first|exact KY|refine KW rfl ?_)) (by repeat (first|exact Sh _|apply St_)) (by rfl) ?_)
        refine KG (KX ?_)
        refine ⟨[_],.cons ⟨_,_,_,rfl,(by repeat (first|exact Mh _|apply Mt)),by exact KO Try.underlying38 rfl sz_38⟩ .nil,fun a w' hr=>?_⟩
        show Num2R w _ (xv R) (yv R) (fun u v=>rpV u v (iv R)) _ _
        rw [hx1,hx2,hx3]
        exact hr.num2Q (q:=qx) (r:=qy) (by repeat (first|exact Mh _|apply Mt)) hnx.any (by repeat (first|exact Mh _|apply Mt)) hny.any
end Go.Proofs.Ytlmiolnccgjjjaa
set_option linter.unusedVariables false
set_option linter.unusedSimpArgs false
set_option maxRecDepth 20000
namespace Go.Proofs.Ytlmiolnccgjjjaa
open Go Go.RowKit
theorem c_Right (V:Cv) (b f bd:Nat) (hok:V.Ok) (X:Fin V.p) (w:World) (hb:(Item.blk b ⟨false,opL V f,129,(0,0)⟩).holds w) (hf:(Item.blk f ⟨false,fldL V.p bd,162,(0,0)⟩).holds w) (hbd:(Item.blk bd ⟨false,dvL V.p,212,(0,0)⟩).holds w):Calls Try.prog 121 ([.pointer (some ⟨b,0,none⟩),natV X.val]:List Value).toArray w (fun e w'=>e = .returned (natV ((X*X+V.A)*X+V.B).val)∧Below w.heap.size w w'):=by
  have hbb:=hok.bounds
  have hpW:V.p<W9:=w9_521 hbb.2.1
  refine Ky (N:=31) (rs:=[.cell 4 33]) [.blk b ⟨false,opL V f,129,(0,0)⟩,.blk f ⟨false,fldL V.p bd,162,(0,0)⟩,.blk bd ⟨false,dvL V.p,212,(0,0)⟩] Try.func121 rfl Try.ntmps121 Try.results121 (Nb rfl) ⟨hb,hf,hbd,trivial⟩ rfl ?_
  show LCode _ _ _ ⟨_,_⟩ _
  refine KD (KB ?_)
  refine KI rfl (KS (KR (KAD rfl) (Nb rfl) (fun b3=>?_)))
  refine KI rfl (KS (KR (Ke zr_33) (Nb rfl) (fun b4=>?_)))
  refine KG ?_
  refine KD (KB ?_)
  refine KA (KC rfl) (Nb rfl) ?_
  refine KA (Kc rfl) (Nb rfl) ?_
  refine KA (KM (o':=59) Try.underlying129 rfl rfl rfl sz_127 (by decide)) (Nb rfl) ?_
  refine LOps.det (KL rfl (by repeat (first|exact Mh _|apply Mt)) (Kb Try.underlying127 rfl (by exact cvC_gt_F _ _ _ _ _ _ _ _ _ _ _ _ _))) (Nb rfl) ?_
  refine KA (KF rfl) (Nb rfl) ?_
  refine KG ?_
  refine KD ?_
  refine Kg [21] (by kernel_rfl) ?_
  refine KE 0 rfl (by kernel_rfl) (Nb rfl) (KC rfl) ?_
  refine KE 1 rfl (by kernel_rfl) (Nb rfl) (KC rfl) ?_
  refine KE 2 rfl (by kernel_rfl) (Nb rfl) (KC rfl) ?_
  refine KE 3 rfl (by kernel_rfl) (Nb rfl) (KC rfl) ?_
  refine LAny.take 4 rfl (by kernel_rfl) (Nb rfl) (KL rfl (by repeat (first|exact Mh _|apply Mt)) (by exact KO Try.underlying33 rfl sz_33)) ?_
  refine LAny.take 5 rfl (by kernel_rfl) (Nb rfl) (KL rfl (by repeat (first|exact Mh _|apply Mt)) (by exact KO Try.underlying33 rfl sz_33)) ?_
  refine KE 7 rfl (by kernel_rfl) (Nb rfl) (KC rfl) ?_
  refine KE 8 rfl (by kernel_rfl) (Nb rfl) (Kc rfl) ?_
  refine KE 9 rfl (by kernel_rfl) (Nb rfl) (KM (o':=0) Try.underlying129 rfl rfl rfl sz_126 (by decide)) ?_
  refine KE 10 rfl (by kernel_rfl) (Nb rfl) (KM (o':=10) Try.underlying126 rfl rfl rfl sz_33 (by decide)) ?_
  refine LAny.take 11 rfl (by kernel_rfl) (Nb rfl) (Det.cast (KL rfl (by repeat (first|exact Mh _|apply Mt)) (by exact cvC_ld_a _ _ _ _ _ _ _ _ _ _ _ _ _ _ _ _)) (a_val hok)) ?_
  refine LAny.take 13 rfl (by kernel_rfl) (Nb rfl) (KL rfl (by repeat (first|exact Mh _|apply Mt)) (by exact KO Try.underlying33 rfl sz_33)) ?_
  refine KE 15 rfl (by kernel_rfl) (Nb rfl) (KC rfl) ?_
  refine KE 16 rfl (by kernel_rfl) (Nb rfl) (Kc rfl) ?_
  refine KE 17 rfl (by kernel_rfl) (Nb rfl) (KM (o':=0) Try.underlying129 rfl rfl rfl sz_126 (by decide)) ?_
  refine KE 18 rfl (by kernel_rfl) (Nb rfl) (KM (o':=19) Try.underlying126 rfl rfl rfl sz_33 (by decide)) ?_
  refine LAny.take 19 rfl (by kernel_rfl) (Nb rfl) (Det.cast (KL rfl (by repeat (first|exact Mh _|apply Mt)) (by exact cvC_ld_b _ _ _ _ _ _ _ _ _ _ _ _ _ _ _ _)) (b_val hok)) ?_
  refine Kt 6 rfl rfl (by kernel_rfl) (KP (first:=[]) rfl en_120 rfl (Nb rfl) (fun w hw=>c_F_Mul V hok f bd _ _ w (hw _ (by repeat (first|exact Mh _|apply Mt))) (hw _ (by repeat (first|exact Mh _|apply Mt)))) ?_)
  refine Kt 12 rfl rfl (by kernel_rfl) (KP (first:=[]) rfl en_118 rfl (Nb rfl) (fun w hw=>c_F_Add V hok f bd _ _ w (hw _ (by repeat (first|exact Mh _|apply Mt)))) ?_)
  refine Kt 14 rfl rfl (by kernel_rfl) (KP (first:=[]) rfl en_120 rfl (Nb rfl) (fun w hw=>c_F_Mul V hok f bd _ _ w (hw _ (by repeat (first|exact Mh _|apply Mt))) (hw _ (by repeat (first|exact Mh _|apply Mt)))) ?_)
  refine Kt 20 rfl rfl (by kernel_rfl) (KP (first:=[]) rfl en_118 rfl (Nb rfl) (fun w hw=>c_F_Add V hok f bd _ _ w (hw _ (by repeat (first|exact Mh _|apply Mt)))) ?_)
  refine Kr 21 rfl rfl (by kernel_rfl) (by kernel_rfl) (KQ rfl rfl sz_33 (by repeat (first|exact Kl _|exact Kz _ _ _|exact Km _|exact Kn _ _ _|exact KAA _ _ _|exact KY|refine KW rfl ?_|refine KZ ?_ ?_)) (by repeat (first|exact Sh _|apply St_)) (by first|exact KH _|exact KN _ _ _|exact KJ _|exact KV _ _ _|exact Ki _ _ _|rfl|simp [KN,KH,KJ]) ?_)
  refine Ko (by kernel_rfl) ?_
  refine KX ?_
  refine ⟨[_],.cons ⟨_,_,_,rfl,(by repeat (first|exact Mh _|apply Mt)),by exact KO Try.underlying33 rfl sz_33⟩ .nil,fun a w' hr=>⟨?_,hr.fr.below⟩⟩
  rfl
theorem c_HasT (V:Cv) (f bd A:Nat) (w:World) (hf:(Item.blk f ⟨false,fldL V.p bd,162,(0,0)⟩).holds w) (hA:A<W9) (hpW:V.p<W9) (h:A<V.p):Calls Try.prog 119 ([.pointer (some ⟨f,0,none⟩),natV A]:List Value).toArray w (fun e w'=>e = .returned (.bool true)∧Below w.heap.size w w'):=by
  have:=c_f_Has V f bd A w hf hA hpW
  rwa [decide_eq_true h] at this
theorem c_HasF (V:Cv) (f bd A:Nat) (w:World) (hf:(Item.blk f ⟨false,fldL V.p bd,162,(0,0)⟩).holds w) (hA:A<W9) (hpW:V.p<W9) (h:¬ A<V.p):Calls Try.prog 119 ([.pointer (some ⟨f,0,none⟩),natV A]:List Value).toArray w (fun e w'=>e = .returned (.bool false)∧Below w.heap.size w w'):=by
  have:=c_f_Has V f bd A w hf hA hpW
  rwa [decide_eq_false h] at this
theorem right_val {V:Cv} (hok:V.Ok) (x:Fin V.p):rightN V.p V.a V.b x.val = ((x*x+V.A)*x+V.B).val:=by
  unfold rightN
  rw [Fin.val_add,Fin.val_mul,Fin.val_add,Fin.val_mul,hok.A_val hok.bounds.2.2.1,hok.B_val hok.bounds.2.2.2.1]
theorem on_x' {p a b X Y:Nat} (h:¬ X<p):onB p a b X Y false = false:=by
  unfold onB; rw [if_neg (by decide),decide_eq_false h,Bool.false_and]
theorem on_yy' {p a b X Y:Nat} (h:¬ Y<p):onB p a b X Y false = false:=by
  unfold onB; rw [if_neg (by decide),decide_eq_false h,Bool.false_and,Bool.and_false]
theorem on_fin {V:Cv} (hok:V.Ok) (x y:Fin V.p):onB V.p V.a V.b x.val y.val false = decide ((y*y).val = ((x*x+V.A)*x+V.B).val):=by
  unfold onB
  rw [if_neg (by decide),decide_eq_true x.isLt,decide_eq_true y.isLt,Bool.true_and,Bool.true_and,right_val hok,Fin.val_mul]
theorem on_inf' {p a b X Y:Nat}:onB p a b X Y true = (decide (X = 0) && decide (Y = 0)):=if_pos rfl
theorem c_cOn (V:Cv) (b f bd:Nat) (hok:V.Ok) (X Y:Nat) (i:Bool) (w:World) (hb:(Item.blk b ⟨false,opL V f,129,(0,0)⟩).holds w) (hf:(Item.blk f ⟨false,fldL V.p bd,162,(0,0)⟩).holds w) (hbd:(Item.blk bd ⟨false,dvL V.p,212,(0,0)⟩).holds w) (hX:X<W9) (hY:Y<W9):Calls Try.prog 81 ([.pointer (some ⟨b,0,none⟩),ptV X Y i]:List Value).toArray w (fun e w'=>e = .returned (.bool (onB V.p V.a V.b X Y i))∧Below w.heap.size w w'):=by
  have hbb:=hok.bounds
  have hpW:V.p<W9:=w9_521 hbb.2.1
  refine Ky (N:=42) (rs:=[.tmp 4]) [.blk b ⟨false,opL V f,129,(0,0)⟩,.blk f ⟨false,fldL V.p bd,162,(0,0)⟩,.blk bd ⟨false,dvL V.p,212,(0,0)⟩] Try.func81 rfl Try.ntmps81 Try.results81 (Nb rfl) ⟨hb,hf,hbd,trivial⟩ rfl ?_
  show LCode _ _ _ ⟨_,_⟩ _
  refine KD (KB ?_)
  refine KI rfl (KS (KR (KAD rfl) (Nb rfl) (fun b3=>?_)))
  refine KA (KF rfl) (Nb rfl) ?_
  refine KG ?_
  refine KD ?_
  refine KD ?_
  cases i
  ·
    refine KB ?_
    refine KA (KM (o':=18) Try.underlying35 rfl rfl rfl sz_4 (by decide)) (Nb rfl) ?_
    refine LOps.det (KL rfl (by repeat (first|exact Mh _|apply Mt)) (Kb Try.underlying4 rfl (by exact pt_gt _ _ _))) (Nb rfl) ?_
    refine KG ?_
    refine Kd rfl ?_
    refine Kf ?_
    refine KD ?_
    rcases (show (¬ X<V.p)∨(X<V.p∧¬ Y<V.p)∨(X<V.p∧Y<V.p) by omega) with h1|⟨h1,h2⟩|⟨h1,h2⟩
    ·
      refine Kg [] (by kernel_rfl) ?_
      refine KE 0 rfl (by kernel_rfl) (Nb rfl) (KC rfl) ?_
      refine KE 1 rfl (by kernel_rfl) (Nb rfl) (Kc rfl) ?_
      refine KE 2 rfl (by kernel_rfl) (Nb rfl) (KM (o':=59) Try.underlying129 rfl rfl rfl sz_127 (by decide)) ?_
      refine LAny.take 3 rfl (by kernel_rfl) (Nb rfl) (KL rfl (by repeat (first|exact Mh _|apply Mt)) (Kb Try.underlying127 rfl (by exact cvC_gt_F _ _ _ _ _ _ _ _ _ _ _ _ _))) ?_
      refine KE 4 rfl (by kernel_rfl) (Nb rfl) (KM (o':=0) Try.underlying35 rfl rfl rfl sz_33 (by decide)) ?_
      refine LAny.take 5 rfl (by kernel_rfl) (Nb rfl) (KL rfl (by repeat (first|exact Mh _|apply Mt)) (by exact KAR Try.underlying33 rfl sz_33 rfl (KH _))) ?_
      refine Kt 6 rfl rfl (by kernel_rfl) (KP (first:=[]) rfl en_119 rfl (Nb rfl) (fun w hw=>c_HasF V f bd X w (hw _ (by repeat (first|exact Mh _|apply Mt))) hX hpW h1) ?_)
      refine KE 7 rfl (by kernel_rfl) (Nb rfl) (KC rfl) ?_
      refine KAJ 8 rfl rfl rfl rfl (by kernel_rfl) (Nb rfl) ?_
      refine KAJ 9 rfl rfl rfl rfl (by kernel_rfl) (Nb rfl) ?_
      refine KAJ 10 rfl rfl rfl rfl (by kernel_rfl) (Nb rfl) ?_
      refine KAJ 11 rfl rfl rfl rfl (by kernel_rfl) (Nb rfl) ?_
      refine KAJ 12 rfl rfl rfl rfl (by kernel_rfl) (Nb rfl) ?_
      refine KAJ 13 rfl rfl rfl rfl (by kernel_rfl) (Nb rfl) ?_
      refine KAJ 14 rfl rfl rfl rfl (by kernel_rfl) (Nb rfl) ?_
      refine KE 15 rfl (by kernel_rfl) (Nb rfl) (KAC rfl rfl) ?_
      refine KE 16 rfl (by kernel_rfl) (Nb rfl) (KC rfl) ?_
      refine KAJ 17 rfl rfl rfl rfl (by kernel_rfl) (Nb rfl) ?_
      refine KAJ 18 rfl rfl rfl rfl (by kernel_rfl) (Nb rfl) ?_
      refine KAJ 19 rfl rfl rfl rfl (by kernel_rfl) (Nb rfl) ?_
      refine KAJ 20 rfl rfl rfl rfl (by kernel_rfl) (Nb rfl) ?_
      refine KAJ 21 rfl rfl rfl rfl (by kernel_rfl) (Nb rfl) ?_
      refine KAJ 22 rfl rfl rfl rfl (by kernel_rfl) (Nb rfl) ?_
      refine KAJ 23 rfl rfl rfl rfl (by kernel_rfl) (Nb rfl) ?_
      refine KAJ 24 rfl rfl rfl rfl (by kernel_rfl) (Nb rfl) ?_
      refine KAJ 25 rfl rfl rfl rfl (by kernel_rfl) (Nb rfl) ?_
      refine KAJ 26 rfl rfl rfl rfl (by kernel_rfl) (Nb rfl) ?_
      refine KAJ 27 rfl rfl rfl rfl (by kernel_rfl) (Nb rfl) ?_
      refine KAJ 28 rfl rfl rfl rfl (by kernel_rfl) (Nb rfl) ?_
      refine KAJ 29 rfl rfl rfl rfl (by kernel_rfl) (Nb rfl) ?_
      refine KAJ 30 rfl rfl rfl rfl (by kernel_rfl) (Nb rfl) ?_
      refine KE 31 rfl (by kernel_rfl) (Nb rfl) (KAC rfl rfl) ?_
      refine KE 32 rfl (by kernel_rfl) (Nb rfl) (KF rfl) ?_
      refine Ko (by kernel_rfl) ?_
      refine KX ?_
      refine ⟨[_],.cons rfl .nil,fun a w' hr=>⟨?_,hr.fr.below⟩⟩
      rw [on_x' h1]
      rfl
    ·
      refine Kg [] (by kernel_rfl) ?_
      refine KE 0 rfl (by kernel_rfl) (Nb rfl) (KC rfl) ?_
      refine KE 1 rfl (by kernel_rfl) (Nb rfl) (Kc rfl) ?_
      refine KE 2 rfl (by kernel_rfl) (Nb rfl) (KM (o':=59) Try.underlying129 rfl rfl rfl sz_127 (by decide)) ?_
      refine LAny.take 3 rfl (by kernel_rfl) (Nb rfl) (KL rfl (by repeat (first|exact Mh _|apply Mt)) (Kb Try.underlying127 rfl (by exact cvC_gt_F _ _ _ _ _ _ _ _ _ _ _ _ _))) ?_
      refine KE 4 rfl (by kernel_rfl) (Nb rfl) (KM (o':=0) Try.underlying35 rfl rfl rfl sz_33 (by decide)) ?_
      refine LAny.take 5 rfl (by kernel_rfl) (Nb rfl) (KL rfl (by repeat (first|exact Mh _|apply Mt)) (by exact KAR Try.underlying33 rfl sz_33 rfl (KH _))) ?_
      refine Kt 6 rfl rfl (by kernel_rfl) (KP (first:=[]) rfl en_119 rfl (Nb rfl) (fun w hw=>c_HasT V f bd X w (hw _ (by repeat (first|exact Mh _|apply Mt))) hX hpW h1) ?_)
      refine KE 7 rfl (by kernel_rfl) (Nb rfl) (KC rfl) ?_
      refine KAI 8 rfl rfl rfl (by kernel_rfl) (Nb rfl) (KC rfl) ?_
      refine KAI 9 rfl rfl rfl (by kernel_rfl) (Nb rfl) (Kc rfl) ?_
      refine KAI 10 rfl rfl rfl (by kernel_rfl) (Nb rfl) (KM (o':=59) Try.underlying129 rfl rfl rfl sz_127 (by decide)) ?_
      refine KAq 11 rfl rfl rfl (by kernel_rfl) (Nb rfl) (KL rfl (by repeat (first|exact Mh _|apply Mt)) (Kb Try.underlying127 rfl (by exact cvC_gt_F _ _ _ _ _ _ _ _ _ _ _ _ _))) ?_
      refine KAI 12 rfl rfl rfl (by kernel_rfl) (Nb rfl) (KM (o':=9) Try.underlying35 rfl rfl rfl sz_33 (by decide)) ?_
      refine KAq 13 rfl rfl rfl (by kernel_rfl) (Nb rfl) (KL rfl (by repeat (first|exact Mh _|apply Mt)) (by exact pt_ld1 _ _ _ _ _ _)) ?_
      refine LAny.oneG 14 rfl rfl rfl rfl (by kernel_rfl) (KP (first:=[]) rfl en_119 rfl (Nb rfl) (fun w hw=>c_HasF V f bd Y w (hw _ (by repeat (first|exact Mh _|apply Mt))) hY hpW h2) ?_)
      refine KE 15 rfl (by kernel_rfl) (Nb rfl) (Kp rfl rfl) ?_
      refine KE 16 rfl (by kernel_rfl) (Nb rfl) (KC rfl) ?_
      refine KAJ 17 rfl rfl rfl rfl (by kernel_rfl) (Nb rfl) ?_
      refine KAJ 18 rfl rfl rfl rfl (by kernel_rfl) (Nb rfl) ?_
      refine KAJ 19 rfl rfl rfl rfl (by kernel_rfl) (Nb rfl) ?_
      refine KAJ 20 rfl rfl rfl rfl (by kernel_rfl) (Nb rfl) ?_
      refine KAJ 21 rfl rfl rfl rfl (by kernel_rfl) (Nb rfl) ?_
      refine KAJ 22 rfl rfl rfl rfl (by kernel_rfl) (Nb rfl) ?_
      refine KAJ 23 rfl rfl rfl rfl (by kernel_rfl) (Nb rfl) ?_
      refine KAJ 24 rfl rfl rfl rfl (by kernel_rfl) (Nb rfl) ?_
      refine KAJ 25 rfl rfl rfl rfl (by kernel_rfl) (Nb rfl) ?_
      refine KAJ 26 rfl rfl rfl rfl (by kernel_rfl) (Nb rfl) ?_
      refine KAJ 27 rfl rfl rfl rfl (by kernel_rfl) (Nb rfl) ?_
      refine KAJ 28 rfl rfl rfl rfl (by kernel_rfl) (Nb rfl) ?_
      refine KAJ 29 rfl rfl rfl rfl (by kernel_rfl) (Nb rfl) ?_
      refine KAJ 30 rfl rfl rfl rfl (by kernel_rfl) (Nb rfl) ?_
      refine KE 31 rfl (by kernel_rfl) (Nb rfl) (KAC rfl rfl) ?_
      refine KE 32 rfl (by kernel_rfl) (Nb rfl) (KF rfl) ?_
      refine Ko (by kernel_rfl) ?_
      refine KX ?_
      refine ⟨[_],.cons rfl .nil,fun a w' hr=>⟨?_,hr.fr.below⟩⟩
      rw [on_yy' h2]
      rfl
    ·
      obtain ⟨x,rfl⟩:∃ x:Fin V.p,x.val = X:=⟨⟨X,h1⟩,rfl⟩
      obtain ⟨y,rfl⟩:∃ y:Fin V.p,y.val = Y:=⟨⟨Y,h2⟩,rfl⟩
      refine Kg [] (by kernel_rfl) ?_
      refine KE 0 rfl (by kernel_rfl) (Nb rfl) (KC rfl) ?_
      refine KE 1 rfl (by kernel_rfl) (Nb rfl) (Kc rfl) ?_
      refine KE 2 rfl (by kernel_rfl) (Nb rfl) (KM (o':=59) Try.underlying129 rfl rfl rfl sz_127 (by decide)) ?_
      refine LAny.take 3 rfl (by kernel_rfl) (Nb rfl) (KL rfl (by repeat (first|exact Mh _|apply Mt)) (Kb Try.underlying127 rfl (by exact cvC_gt_F _ _ _ _ _ _ _ _ _ _ _ _ _))) ?_
      refine KE 4 rfl (by kernel_rfl) (Nb rfl) (KM (o':=0) Try.underlying35 rfl rfl rfl sz_33 (by decide)) ?_
      refine LAny.take 5 rfl (by kernel_rfl) (Nb rfl) (KL rfl (by repeat (first|exact Mh _|apply Mt)) (by exact KAR Try.underlying33 rfl sz_33 rfl (KH _))) ?_
      refine Kt 6 rfl rfl (by kernel_rfl) (KP (first:=[]) rfl en_119 rfl (Nb rfl) (fun w hw=>c_HasT V f bd x.val w (hw _ (by repeat (first|exact Mh _|apply Mt))) (Nat.lt_trans x.isLt hpW) hpW x.isLt) ?_)
      refine KE 7 rfl (by kernel_rfl) (Nb rfl) (KC rfl) ?_
      refine KAI 8 rfl rfl rfl (by kernel_rfl) (Nb rfl) (KC rfl) ?_
      refine KAI 9 rfl rfl rfl (by kernel_rfl) (Nb rfl) (Kc rfl) ?_
      refine KAI 10 rfl rfl rfl (by kernel_rfl) (Nb rfl) (KM (o':=59) Try.underlying129 rfl rfl rfl sz_127 (by decide)) ?_
      refine KAq 11 rfl rfl rfl (by kernel_rfl) (Nb rfl) (KL rfl (by repeat (first|exact Mh _|apply Mt)) (Kb Try.underlying127 rfl (by exact cvC_gt_F _ _ _ _ _ _ _ _ _ _ _ _ _))) ?_
      refine KAI 12 rfl rfl rfl (by kernel_rfl) (Nb rfl) (KM (o':=9) Try.underlying35 rfl rfl rfl sz_33 (by decide)) ?_
      refine KAq 13 rfl rfl rfl (by kernel_rfl) (Nb rfl) (KL rfl (by repeat (first|exact Mh _|apply Mt)) (by exact pt_ld1 _ _ _ _ _ _)) ?_
      refine LAny.oneG 14 rfl rfl rfl rfl (by kernel_rfl) (KP (first:=[]) rfl en_119 rfl (Nb rfl) (fun w hw=>c_HasT V f bd y.val w (hw _ (by repeat (first|exact Mh _|apply Mt))) (Nat.lt_trans y.isLt hpW) hpW y.isLt) ?_)
      refine KE 15 rfl (by kernel_rfl) (Nb rfl) (Kp rfl rfl) ?_
      refine KE 16 rfl (by kernel_rfl) (Nb rfl) (KC rfl) ?_
      refine KAI 17 rfl rfl rfl (by kernel_rfl) (Nb rfl) (KC rfl) ?_
      refine KAI 18 rfl rfl rfl (by kernel_rfl) (Nb rfl) (Kc rfl) ?_
      refine KAI 19 rfl rfl rfl (by kernel_rfl) (Nb rfl) (KM (o':=59) Try.underlying129 rfl rfl rfl sz_127 (by decide)) ?_
      refine KAq 20 rfl rfl rfl (by kernel_rfl) (Nb rfl) (KL rfl (by repeat (first|exact Mh _|apply Mt)) (Kb Try.underlying127 rfl (by exact cvC_gt_F _ _ _ _ _ _ _ _ _ _ _ _ _))) ?_
      refine KAI 21 rfl rfl rfl (by kernel_rfl) (Nb rfl) (KM (o':=9) Try.underlying35 rfl rfl rfl sz_33 (by decide)) ?_
      refine KAq 22 rfl rfl rfl (by kernel_rfl) (Nb rfl) (KL rfl (by repeat (first|exact Mh _|apply Mt)) (by exact pt_ld1 _ _ _ _ _ _)) ?_
      refine KAI 23 rfl rfl rfl (by kernel_rfl) (Nb rfl) (KM (o':=9) Try.underlying35 rfl rfl rfl sz_33 (by decide)) ?_
      refine KAq 24 rfl rfl rfl (by kernel_rfl) (Nb rfl) (KL rfl (by repeat (first|exact Mh _|apply Mt)) (by exact pt_ld1 _ _ _ _ _ _)) ?_
      refine KAI 26 rfl rfl rfl (by kernel_rfl) (Nb rfl) (KC rfl) ?_
      refine KAI 27 rfl rfl rfl (by kernel_rfl) (Nb rfl) (KM (o':=0) Try.underlying35 rfl rfl rfl sz_33 (by decide)) ?_
      refine KAq 28 rfl rfl rfl (by kernel_rfl) (Nb rfl) (KL rfl (by repeat (first|exact Mh _|apply Mt)) (by exact KAR Try.underlying33 rfl sz_33 rfl (KH _))) ?_
      refine LAny.oneG 25 rfl rfl rfl rfl (by kernel_rfl) (KP (first:=[]) rfl en_120 rfl (Nb rfl) (fun w hw=>c_F_Mul V hok f bd _ _ w (hw _ (by repeat (first|exact Mh _|apply Mt))) (hw _ (by repeat (first|exact Mh _|apply Mt)))) ?_)
      refine LAny.oneG 29 rfl rfl rfl rfl (by kernel_rfl) (KP (first:=[]) rfl en_121 rfl (Nb rfl) (fun w hw=>c_Right V b f bd hok _ w (hw _ (by repeat (first|exact Mh _|apply Mt))) (hw _ (by repeat (first|exact Mh _|apply Mt))) (hw _ (by repeat (first|exact Mh _|apply Mt)))) ?_)
      refine KAI 30 rfl rfl rfl (by kernel_rfl) (Nb rfl) (Det.eqa (by kernel_rfl) (fun w=>eq_nat (y*y).val ((x*x+V.A)*x+V.B).val (Nat.lt_trans (y*y).isLt hpW) (Nat.lt_trans ((x*x+V.A)*x+V.B).isLt hpW) 10000 (by decide) w) rfl rfl) ?_
      refine KE 31 rfl (by kernel_rfl) (Nb rfl) (Kp rfl rfl) ?_
      refine KE 32 rfl (by kernel_rfl) (Nb rfl) (KF rfl) ?_
      refine Ko (by kernel_rfl) ?_
      refine KX ?_
      refine ⟨[_],.cons rfl .nil,fun a w' hr=>⟨?_,hr.fr.below⟩⟩
      rw [on_fin hok]
      rfl
  ·
    refine KB ?_
    refine KA (KM (o':=18) Try.underlying35 rfl rfl rfl sz_4 (by decide)) (Nb rfl) ?_
    refine LOps.det (KL rfl (by repeat (first|exact Mh _|apply Mt)) (Kb Try.underlying4 rfl (by exact pt_gt _ _ _))) (Nb rfl) ?_
    refine KG ?_
    refine Kw rfl ?_
    refine KD (KB ?_)
    refine LOps.det (KL rfl (by repeat (first|exact Mh _|apply Mt)) (by exact KO Try.underlying35 rfl sz_35)) (Nb rfl) ?_
    refine KA (KT (KAQ pl_35 zr_35 rfl fill_ptInf) rfl) (Nb rfl) ?_
    refine KA (Det.eqa (by kernel_rfl) (fun w=>eq_pt X Y true 0 0 true hX hY zero_w9 zero_w9 10000 (by decide) w) rfl rfl) (Nb rfl) ?_
    refine KA (KF rfl) (Nb rfl) ?_
    refine KG (KX ?_)
    refine ⟨[_],.cons rfl .nil,fun a w' hr=>⟨?_,hr.fr.below⟩⟩
    rw [on_inf',show (decide (X = 0) && decide (Y = 0)) = (decide (X = 0) && (decide (Y = 0) && ((true == true) && true))) by simp]
    rfl
end Go.Proofs.Ytlmiolnccgjjjaa
set_option linter.unusedVariables false
set_option linter.unusedSimpArgs false
set_option maxRecDepth 20000
namespace Go.Proofs.Ytlmiolnccgjjjaa
open Go Go.RowKit
open Grp
def pjF {p:Nat} (T:Fin p×Fin p×Fin p):Value:=pjV T.1.val T.2.1.val T.2.2.val
def pjFL {p:Nat} (T:Fin p×Fin p×Fin p):List Value:=pjL T.1.val T.2.1.val T.2.2.val
theorem fill_pj (X Y Z:Nat):fillL [(0,9),(9,9),(18,9)] (vec .u64 9 (fun _=>0)++(vec .u64 9 (fun _=>0)++vec .u64 9 (fun _=>0))) [(0,natV X),(1,natV Y),(2,natV Z)] = some (pjL X Y Z):=by
  refine KAl (A:=[]) (B:=vec .u64 9 (fun _=>0)) (D:=vec .u64 9 (fun _=>0)++vec .u64 9 (fun _=>0)) (cs:=natL X) rfl rfl (KH _) rfl rfl (KN _ _ _) ?_
  refine KAl (A:=natL X) (B:=vec .u64 9 (fun _=>0)) (D:=vec .u64 9 (fun _=>0)) (cs:=natL Y) rfl rfl (KH _) (by simp) (KH _) (KN _ _ _) ?_
  refine (KAl (A:=natL X++natL Y) (B:=vec .u64 9 (fun _=>0)) (D:=[]) (cs:=natL Z) rfl rfl (KH _) (by simp) (by simp [KH]) (KN _ _ _) rfl).trans ?_
  simp [pjL]
theorem fill_pjN (Y:Nat):fillL [(0,9),(9,9),(18,9)] (vec .u64 9 (fun _=>0)++(vec .u64 9 (fun _=>0)++vec .u64 9 (fun _=>0))) [(1,natV Y)] = some (pjL 0 Y 0):=by
  refine (KAl (A:=vec .u64 9 (fun _=>0)) (B:=vec .u64 9 (fun _=>0)) (D:=vec .u64 9 (fun _=>0)) (cs:=natL Y) rfl rfl (KH _) rfl (KN _ _ _) (KN _ _ _) rfl).trans ?_
  simp [pjL,natL,vec_zeros 9]
theorem c_None  (w:World)  : Calls Try.prog 123 ([]:List Value).toArray w (fun e w'=>e = .returned (pjV 0 1 0)∧Below w.heap.size w w'):=by
  refine Ky (N:=3) (rs:=[.cell 0 172]) [] Try.func123 rfl Try.ntmps123 Try.results123 (Nb rfl) trivial rfl ?_
  show LCode _ _ _ ⟨_,_⟩ _
  refine KD (KB ?_)
  refine KI rfl (KS (KR (Ke zr_172) (Nb rfl) (fun b0=>?_)))
  refine KG ?_
  refine KD (KB ?_)
  refine KI rfl (KS (KP (first:=[]) rfl en_116 rfl (Nb rfl) (fun w hw=>c_nat_Small 1 (by decide) w) ?_))
  refine KA (KT (KAQ pl_172 zr_172 rfl (fill_pjN 1)) rfl) (Nb rfl) ?_
  refine KI rfl (KQ rfl rfl sz_172 (by repeat (first|exact Kl _|exact Kz _ _ _|exact Km _|exact Kn _ _ _|exact KAA _ _ _|exact KY|refine KW rfl ?_|refine KZ ?_ ?_)) (by repeat (first|exact Sh _|apply St_)) (by first|exact KH _|exact KN _ _ _|exact KJ _|exact KV _ _ _|exact Ki _ _ _|rfl|simp [KN,KH,KJ]) ?_)
  refine KG (KX ?_)
  refine ⟨[_],.cons ⟨_,_,_,rfl,(by repeat (first|exact Mh _|apply Mt)),by exact KO Try.underlying172 rfl sz_172⟩ .nil,fun a w' hr=>⟨?_,hr.fr.below⟩⟩
  rfl
theorem c_NoneF {V:Cv} (hok:V.Ok) (w:World):Calls Try.prog 123 ([]:List Value).toArray w (fun e w'=>e = .returned (pjF (tripF (.inf:Pt V.p)))∧Below w.heap.size w w'):=by
  have h:=c_None w
  have e:pjF (tripF (.inf:Pt V.p)) = pjV 0 1 0:=by
    unfold pjF tripF
    rw [fin_one (show 1<V.p from hok.prime.1)]
    rfl
  rwa [e]
theorem c_Triple (V:Cv) (hok:V.Ok) (P:Pt V.p) (w:World)  : Calls Try.prog 122 ([ptP P]:List Value).toArray w (fun e w'=>e = .returned (pjF (tripF P))∧Below w.heap.size w w'):=by
  refine Ky (N:=12) (rs:=[.cell 2 172]) [] Try.func122 rfl Try.ntmps122 Try.results122 (Nb rfl) trivial rfl ?_
  show LCode _ _ _ ⟨_,_⟩ _
  refine KD (KB ?_)
  refine KI rfl (KS (KR (KAD rfl) (Nb rfl) (fun b1=>?_)))
  refine KI rfl (KS (KR (Ke zr_172) (Nb rfl) (fun b2=>?_)))
  refine KG ?_
  refine KD ?_
  refine KD ?_
  rcases P with _|⟨x,y⟩
  ·
    refine KB ?_
    refine KA (KM (o':=18) Try.underlying35 rfl rfl rfl sz_4 (by decide)) (Nb rfl) ?_
    refine LOps.det (KL rfl (by repeat (first|exact Mh _|apply Mt)) (Kb Try.underlying4 rfl (by exact pt_gt _ _ _))) (Nb rfl) ?_
    refine KG ?_
    refine Kw rfl ?_
    refine KD (KB ?_)
    refine KI rfl (KS (KP (first:=[]) rfl en_123 rfl (Nb rfl) (fun w hw=>c_NoneF hok w) ?_))
    refine KI rfl (KQ rfl rfl sz_172 (by repeat (first|exact Kl _|exact Kz _ _ _|exact Km _|exact Kn _ _ _|exact KAA _ _ _|exact KY|refine KW rfl ?_|refine KZ ?_ ?_)) (by repeat (first|exact Sh _|apply St_)) (by first|exact KH _|exact KN _ _ _|exact KJ _|exact KV _ _ _|exact Ki _ _ _|rfl|simp [KN,KH,KJ]) ?_)
    refine KG (KX ?_)
    refine ⟨[_],.cons ⟨_,_,_,rfl,(by repeat (first|exact Mh _|apply Mt)),by exact KO Try.underlying172 rfl sz_172⟩ .nil,fun a w' hr=>⟨?_,hr.fr.below⟩⟩
    rfl
  ·
    refine KB ?_
    refine KA (KM (o':=18) Try.underlying35 rfl rfl rfl sz_4 (by decide)) (Nb rfl) ?_
    refine LOps.det (KL rfl (by repeat (first|exact Mh _|apply Mt)) (Kb Try.underlying4 rfl (by exact pt_gt _ _ _))) (Nb rfl) ?_
    refine KG ?_
    refine Kd rfl ?_
    refine Kf ?_
    refine KD ?_
    refine Kg [6] (by kernel_rfl) ?_
    refine KE 0 rfl (by kernel_rfl) (Nb rfl) (KM (o':=0) Try.underlying35 rfl rfl rfl sz_33 (by decide)) ?_
    refine LAny.take 1 rfl (by kernel_rfl) (Nb rfl) (KL rfl (by repeat (first|exact Mh _|apply Mt)) (by exact KAR Try.underlying33 rfl sz_33 rfl (KH _))) ?_
    refine KE 2 rfl (by kernel_rfl) (Nb rfl) (KM (o':=9) Try.underlying35 rfl rfl rfl sz_33 (by decide)) ?_
    refine LAny.take 3 rfl (by kernel_rfl) (Nb rfl) (KL rfl (by repeat (first|exact Mh _|apply Mt)) (by exact pt_ld1 _ _ _ _ _ _)) ?_
    refine Kt 4 rfl rfl (by kernel_rfl) (KP (first:=[]) rfl en_116 rfl (Nb rfl) (fun w hw=>c_nat_Small 1 (by decide) w) ?_)
    refine KE 5 rfl (by kernel_rfl) (Nb rfl) (KT (KAQ pl_172 zr_172 rfl (fill_pj _ _ _)) rfl) ?_
    refine Kr 6 rfl rfl (by kernel_rfl) (by kernel_rfl) (KQ rfl rfl sz_172 (by repeat (first|exact Kl _|exact Kz _ _ _|exact Km _|exact Kn _ _ _|exact KAA _ _ _|exact KY|refine KW rfl ?_|refine KZ ?_ ?_)) (by repeat (first|exact Sh _|apply St_)) (by first|exact KH _|exact KN _ _ _|exact KJ _|exact KV _ _ _|exact Ki _ _ _|rfl|simp [KN,KH,KJ]) ?_)
    refine Ko (by kernel_rfl) ?_
    refine KX ?_
    refine ⟨[_],.cons ⟨_,_,_,rfl,(by repeat (first|exact Mh _|apply Mt)),by exact KO Try.underlying172 rfl sz_172⟩ .nil,fun a w' hr=>⟨?_,hr.fr.below⟩⟩
    show _ = Ending.returned (pjV x.val y.val (1:Fin V.p).val)
    rw [fin_one (show 1<V.p from hok.prime.1)]
    rfl
theorem c_Plain (V:Cv) (b f bd:Nat) (hok:V.Ok) (X Y Z:Fin V.p) (w:World) (hb:(Item.blk b ⟨false,opL V f,129,(0,0)⟩).holds w) (hf:(Item.blk f ⟨false,fldL V.p bd,162,(0,0)⟩).holds w) (hbd:(Item.blk bd ⟨false,dvL V.p,212,(0,0)⟩).holds w):Calls Try.prog 124 ([.pointer (some ⟨b,0,none⟩),pjV X.val Y.val Z.val]:List Value).toArray w (fun e w'=>e = .returned (ptP (plainP X Y Z))∧Below w.heap.size w w'):=by
  have hbb:=hok.bounds
  have hpW:V.p<W9:=w9_521 hbb.2.1
  refine Ky (N:=35) (rs:=[.cell 4 35]) [.blk b ⟨false,opL V f,129,(0,0)⟩,.blk f ⟨false,fldL V.p bd,162,(0,0)⟩,.blk bd ⟨false,dvL V.p,212,(0,0)⟩] Try.func124 rfl Try.ntmps124 Try.results124 (Nb rfl) ⟨hb,hf,hbd,trivial⟩ rfl ?_
  show LCode _ _ _ ⟨_,_⟩ _
  refine KD (KB ?_)
  refine KI rfl (KS (KR (KAD rfl) (Nb rfl) (fun b3=>?_)))
  refine KI rfl (KS (KR (Ke zr_35) (Nb rfl) (fun b4=>?_)))
  refine KG ?_
  refine KD ?_
  refine KD ?_
  by_cases hz:Z = 0
  ·
    refine KB ?_
    refine KA (KM (o':=18) Try.underlying172 rfl rfl rfl sz_33 (by decide)) (Nb rfl) ?_
    refine LOps.det (KL rfl (by repeat (first|exact Mh _|apply Mt)) (by exact pj_ld2 _ _ _ _ _ _)) (Nb rfl) ?_
    refine KA (KT (KAQ pl_33 zr_33 rfl rfl) (show _ = natV 0 by unfold natV natL; rw [← vec_zeros 9])) (Nb rfl) ?_
    refine KA (KT (Det.eqa (by kernel_rfl) (fun w=>eq_nat Z.val 0 (Nat.lt_trans Z.isLt hpW) zero_w9 10000 (by decide) w) rfl rfl) (show _ = Value.bool true by rw [decide_eq_true (by rw [hz]; rfl)])) (Nb rfl) ?_
    refine KG ?_
    refine Kw rfl ?_
    refine KD (KB ?_)
    refine KA (KT (KAQ pl_35 zr_35 rfl fill_ptInf) rfl) (Nb rfl) ?_
    refine KI rfl (KQ rfl rfl sz_35 (by repeat (first|exact Kl _|exact Kz _ _ _|exact Km _|exact Kn _ _ _|exact KAA _ _ _|exact KY|refine KW rfl ?_|refine KZ ?_ ?_)) (by repeat (first|exact Sh _|apply St_)) (by first|exact KH _|exact KN _ _ _|exact KJ _|exact KV _ _ _|exact Ki _ _ _|rfl|simp [KN,KH,KJ]) ?_)
    refine KG (KX ?_)
    refine ⟨[_],.cons ⟨_,_,_,rfl,(by repeat (first|exact Mh _|apply Mt)),by exact KO Try.underlying35 rfl sz_35⟩ .nil,fun a w' hr=>⟨?_,hr.fr.below⟩⟩
    rw [hz,plain_inf]
    rfl
  ·
    refine KB ?_
    refine KA (KM (o':=18) Try.underlying172 rfl rfl rfl sz_33 (by decide)) (Nb rfl) ?_
    refine LOps.det (KL rfl (by repeat (first|exact Mh _|apply Mt)) (by exact pj_ld2 _ _ _ _ _ _)) (Nb rfl) ?_
    refine KA (KT (KAQ pl_33 zr_33 rfl rfl) (show _ = natV 0 by unfold natV natL; rw [← vec_zeros 9])) (Nb rfl) ?_
    refine KA (KT (Det.eqa (by kernel_rfl) (fun w=>eq_nat Z.val 0 (Nat.lt_trans Z.isLt hpW) zero_w9 10000 (by decide) w) rfl rfl) (show _ = Value.bool false by rw [decide_eq_false (show ¬ Z.val = 0 from fun e=>hz (Fin.ext e))])) (Nb rfl) ?_
    refine KG ?_
    refine Kd rfl ?_
    refine Kf ?_
    refine KD ?_
    refine Kg [8] (by kernel_rfl) ?_
    refine KE 0 rfl (by kernel_rfl) (Nb rfl) (KC rfl) ?_
    refine KE 1 rfl (by kernel_rfl) (Nb rfl) (Kc rfl) ?_
    refine KE 2 rfl (by kernel_rfl) (Nb rfl) (KM (o':=59) Try.underlying129 rfl rfl rfl sz_127 (by decide)) ?_
    refine LAny.take 3 rfl (by kernel_rfl) (Nb rfl) (KL rfl (by repeat (first|exact Mh _|apply Mt)) (Kb Try.underlying127 rfl (by exact cvC_gt_F _ _ _ _ _ _ _ _ _ _ _ _ _))) ?_
    refine KE 4 rfl (by kernel_rfl) (Nb rfl) (KM (o':=18) Try.underlying172 rfl rfl rfl sz_33 (by decide)) ?_
    refine LAny.take 5 rfl (by kernel_rfl) (Nb rfl) (KL rfl (by repeat (first|exact Mh _|apply Mt)) (by exact pj_ld2 _ _ _ _ _ _)) ?_
    refine LAny.toP ?_
    refine KAk 7 rfl (.inl zr_33) (Nb rfl) rfl rfl rfl ?_
    refine KAO 6 rfl rfl rfl (Nb rfl) (by kernel_rfl) rfl (KAV (first:=[]) rfl en_136 rfl (fun w hw=>c_F_Inv V hok f bd _ w (hw _ (by repeat (first|exact Mh _|apply Mt))))) ?_
    rintro _ _ ⟨rfl,rfl⟩
    refine LAnyP.mat (by kernel_rfl) (fun b5=>?_)
    refine LAnyP.toAny ?_
    refine Kr 8 rfl rfl (by kernel_rfl) (by kernel_rfl) (KQ rfl rfl sz_33 (by repeat (first|exact Kl _|exact Kz _ _ _|exact Km _|exact Kn _ _ _|exact KAA _ _ _|exact KY|refine KW rfl ?_|refine KZ ?_ ?_)) (by repeat (first|exact Sh _|apply St_)) (by first|exact KH _|exact KN _ _ _|exact KJ _|exact KV _ _ _|exact Ki _ _ _|rfl|simp [KN,KH,KJ]) ?_)
    refine Ko (by kernel_rfl) ?_
    refine KD ?_
    refine Kg [17] (by kernel_rfl) ?_
    refine KE 0 rfl (by kernel_rfl) (Nb rfl) (KC rfl) ?_
    refine KE 1 rfl (by kernel_rfl) (Nb rfl) (Kc rfl) ?_
    refine KE 2 rfl (by kernel_rfl) (Nb rfl) (KM (o':=59) Try.underlying129 rfl rfl rfl sz_127 (by decide)) ?_
    refine LAny.take 3 rfl (by kernel_rfl) (Nb rfl) (KL rfl (by repeat (first|exact Mh _|apply Mt)) (Kb Try.underlying127 rfl (by exact cvC_gt_F _ _ _ _ _ _ _ _ _ _ _ _ _))) ?_
    refine KE 4 rfl (by kernel_rfl) (Nb rfl) (KM (o':=0) Try.underlying172 rfl rfl rfl sz_33 (by decide)) ?_
    refine LAny.take 5 rfl (by kernel_rfl) (Nb rfl) (KL rfl (by repeat (first|exact Mh _|apply Mt)) (by exact KAR Try.underlying33 rfl sz_33 rfl (KH _))) ?_
    refine LAny.take 6 rfl (by kernel_rfl) (Nb rfl) (KL rfl (by repeat (first|exact Mh _|apply Mt)) (by exact KO Try.underlying33 rfl sz_33)) ?_
    refine KE 8 rfl (by kernel_rfl) (Nb rfl) (KC rfl) ?_
    refine KE 9 rfl (by kernel_rfl) (Nb rfl) (Kc rfl) ?_
    refine KE 10 rfl (by kernel_rfl) (Nb rfl) (KM (o':=59) Try.underlying129 rfl rfl rfl sz_127 (by decide)) ?_
    refine LAny.take 11 rfl (by kernel_rfl) (Nb rfl) (KL rfl (by repeat (first|exact Mh _|apply Mt)) (Kb Try.underlying127 rfl (by exact cvC_gt_F _ _ _ _ _ _ _ _ _ _ _ _ _))) ?_
    refine KE 12 rfl (by kernel_rfl) (Nb rfl) (KM (o':=9) Try.underlying172 rfl rfl rfl sz_33 (by decide)) ?_
    refine LAny.take 13 rfl (by kernel_rfl) (Nb rfl) (KL rfl (by repeat (first|exact Mh _|apply Mt)) (by exact LoadV.mid Try.underlying33 rfl sz_33 rfl (KH _) (KH _))) ?_
    refine LAny.take 14 rfl (by kernel_rfl) (Nb rfl) (KL rfl (by repeat (first|exact Mh _|apply Mt)) (by exact KO Try.underlying33 rfl sz_33)) ?_
    refine Kt 7 rfl rfl (by kernel_rfl) (KP (first:=[]) rfl en_120 rfl (Nb rfl) (fun w hw=>c_F_Mul V hok f bd _ _ w (hw _ (by repeat (first|exact Mh _|apply Mt))) (hw _ (by repeat (first|exact Mh _|apply Mt)))) ?_)
    refine Kt 15 rfl rfl (by kernel_rfl) (KP (first:=[]) rfl en_120 rfl (Nb rfl) (fun w hw=>c_F_Mul V hok f bd _ _ w (hw _ (by repeat (first|exact Mh _|apply Mt))) (hw _ (by repeat (first|exact Mh _|apply Mt)))) ?_)
    refine KE 16 rfl (by kernel_rfl) (Nb rfl) (KT (KAQ pl_35 zr_35 rfl (fill_pt _ _)) rfl) ?_
    refine Kr 17 rfl rfl (by kernel_rfl) (by kernel_rfl) (KQ rfl rfl sz_35 (by repeat (first|exact Kl _|exact Kz _ _ _|exact Km _|exact Kn _ _ _|exact KAA _ _ _|exact KY|refine KW rfl ?_|refine KZ ?_ ?_)) (by repeat (first|exact Sh _|apply St_)) (by first|exact KH _|exact KN _ _ _|exact KJ _|exact KV _ _ _|exact Ki _ _ _|rfl|simp [KN,KH,KJ]) ?_)
    refine Ko (by kernel_rfl) ?_
    refine KX ?_
    refine ⟨[_],.cons ⟨_,_,_,rfl,(by repeat (first|exact Mh _|apply Mt)),by exact KO Try.underlying35 rfl sz_35⟩ .nil,fun a w' hr=>⟨?_,hr.fr.below⟩⟩
    rw [plain_aff hz]
    rfl
theorem c_Sum (V:Cv) (b f bd:Nat) (hok:V.Ok) (X1 Y1 Z1 X2 Y2 Z2:Fin V.p) (w:World) (hb:(Item.blk b ⟨false,opL V f,129,(0,0)⟩).holds w) (hf:(Item.blk f ⟨false,fldL V.p bd,162,(0,0)⟩).holds w) (hbd:(Item.blk bd ⟨false,dvL V.p,212,(0,0)⟩).holds w):Calls Try.prog 125 ([.pointer (some ⟨b,0,none⟩),pjV X1.val Y1.val Z1.val,pjV X2.val Y2.val Z2.val]:List Value).toArray w (fun e w'=>e = .returned (pjF (sum3 V.A (V.B+V.B+V.B) X1 Y1 Z1 X2 Y2 Z2))∧Below w.heap.size w w'):=by
  have hbb:=hok.bounds
  have hpW:V.p<W9:=w9_521 hbb.2.1
  refine Ky (N:=213) (rs:=[.cell 6 172]) [.blk b ⟨false,opL V f,129,(0,0)⟩,.blk f ⟨false,fldL V.p bd,162,(0,0)⟩,.blk bd ⟨false,dvL V.p,212,(0,0)⟩] Try.func125 rfl Try.ntmps125 Try.results125 (Nb rfl) ⟨hb,hf,hbd,trivial⟩ rfl ?_
  show LCode _ _ _ ⟨_,_⟩ _
  refine KD (KB ?_)
  refine KI rfl (KS (KR (KAD rfl) (Nb rfl) (fun b4=>?_)))
  refine KI rfl (KS (KR (KAD rfl) (Nb rfl) (fun b5=>?_)))
  refine KI rfl (KS (KR (Ke zr_172) (Nb rfl) (fun b6=>?_)))
  refine KG ?_
  refine KD ?_
  refine Kg [] (by kernel_rfl) ?_
  refine KE 0 rfl (by kernel_rfl) (Nb rfl) (KC rfl) ?_
  refine KE 1 rfl (by kernel_rfl) (Nb rfl) (Kc rfl) ?_
  refine KE 2 rfl (by kernel_rfl) (Nb rfl) (KM (o':=59) Try.underlying129 rfl rfl rfl sz_127 (by decide)) ?_
  refine LAny.take 3 rfl (by kernel_rfl) (Nb rfl) (KL rfl (by repeat (first|exact Mh _|apply Mt)) (Kb Try.underlying127 rfl (by exact cvC_gt_F _ _ _ _ _ _ _ _ _ _ _ _ _))) ?_
  refine KE 4 rfl (by kernel_rfl) (Nb rfl) (Det.makeFunc1 rfl) ?_
  refine KE 5 rfl (by kernel_rfl) (Nb rfl) (KC rfl) ?_
  refine KE 6 rfl (by kernel_rfl) (Nb rfl) (Kc rfl) ?_
  refine KE 7 rfl (by kernel_rfl) (Nb rfl) (KM (o':=59) Try.underlying129 rfl rfl rfl sz_127 (by decide)) ?_
  refine LAny.take 8 rfl (by kernel_rfl) (Nb rfl) (KL rfl (by repeat (first|exact Mh _|apply Mt)) (Kb Try.underlying127 rfl (by exact cvC_gt_F _ _ _ _ _ _ _ _ _ _ _ _ _))) ?_
  refine KE 9 rfl (by kernel_rfl) (Nb rfl) (Det.makeFunc1 rfl) ?_
  refine KE 10 rfl (by kernel_rfl) (Nb rfl) (KC rfl) ?_
  refine KE 11 rfl (by kernel_rfl) (Nb rfl) (Kc rfl) ?_
  refine KE 12 rfl (by kernel_rfl) (Nb rfl) (KM (o':=59) Try.underlying129 rfl rfl rfl sz_127 (by decide)) ?_
  refine LAny.take 13 rfl (by kernel_rfl) (Nb rfl) (KL rfl (by repeat (first|exact Mh _|apply Mt)) (Kb Try.underlying127 rfl (by exact cvC_gt_F _ _ _ _ _ _ _ _ _ _ _ _ _))) ?_
  refine KE 14 rfl (by kernel_rfl) (Nb rfl) (Det.makeFunc1 rfl) ?_
  refine KE 15 rfl (by kernel_rfl) (Nb rfl) (KF rfl) ?_
  refine KE 16 rfl (by kernel_rfl) (Nb rfl) (KF rfl) ?_
  refine KE 17 rfl (by kernel_rfl) (Nb rfl) (KF rfl) ?_
  refine Ko (by kernel_rfl) ?_
  refine KD ?_
  refine Kg [21,22,23] (by kernel_rfl) ?_
  refine KE 0 rfl (by kernel_rfl) (Nb rfl) (KC rfl) ?_
  refine KE 1 rfl (by kernel_rfl) (Nb rfl) (KM (o':=0) Try.underlying172 rfl rfl rfl sz_33 (by decide)) ?_
  refine LAny.take 2 rfl (by kernel_rfl) (Nb rfl) (KL rfl (by repeat (first|exact Mh _|apply Mt)) (by exact KAR Try.underlying33 rfl sz_33 rfl (KH _))) ?_
  refine KE 3 rfl (by kernel_rfl) (Nb rfl) (KM (o':=0) Try.underlying172 rfl rfl rfl sz_33 (by decide)) ?_
  refine LAny.take 4 rfl (by kernel_rfl) (Nb rfl) (KL rfl (by repeat (first|exact Mh _|apply Mt)) (by exact KAR Try.underlying33 rfl sz_33 rfl (KH _))) ?_
  refine KE 6 rfl (by kernel_rfl) (Nb rfl) (KC rfl) ?_
  refine KE 7 rfl (by kernel_rfl) (Nb rfl) (KM (o':=9) Try.underlying172 rfl rfl rfl sz_33 (by decide)) ?_
  refine KE 9 rfl (by kernel_rfl) (Nb rfl) (KM (o':=9) Try.underlying172 rfl rfl rfl sz_33 (by decide)) ?_
  refine KE 12 rfl (by kernel_rfl) (Nb rfl) (KC rfl) ?_
  refine KE 13 rfl (by kernel_rfl) (Nb rfl) (KM (o':=18) Try.underlying172 rfl rfl rfl sz_33 (by decide)) ?_
  refine KE 15 rfl (by kernel_rfl) (Nb rfl) (KM (o':=18) Try.underlying172 rfl rfl rfl sz_33 (by decide)) ?_
  refine LAny.takeW [11,17,21,22,23] 8 rfl (by kernel_rfl) (Nb rfl) (KL rfl (by repeat (first|exact Mh _|apply Mt)) (by exact LoadV.mid Try.underlying33 rfl sz_33 rfl (KH _) (KH _))) ?_
  refine LAny.takeW [11,17,21,22,23] 10 rfl (by kernel_rfl) (Nb rfl) (KL rfl (by repeat (first|exact Mh _|apply Mt)) (by exact LoadV.mid Try.underlying33 rfl sz_33 rfl (KH _) (KH _))) ?_
  refine LAny.takeW [17,21,22,23] 14 rfl (by kernel_rfl) (Nb rfl) (KL rfl (by repeat (first|exact Mh _|apply Mt)) (by exact pj_ld2 _ _ _ _ _ _)) ?_
  refine LAny.takeW [17,21,22,23] 16 rfl (by kernel_rfl) (Nb rfl) (KL rfl (by repeat (first|exact Mh _|apply Mt)) (by exact pj_ld2 _ _ _ _ _ _)) ?_
  refine LAny.toP ?_
  refine KAk 18 rfl (.inl zr_33) (Nb rfl) rfl rfl rfl ?_
  refine KAk 19 rfl (.inl zr_33) (Nb rfl) rfl rfl rfl ?_
  refine KAk 20 rfl (.inl zr_33) (Nb rfl) rfl rfl rfl ?_
  refine KAO 5 rfl rfl rfl (Nb rfl) (by kernel_rfl) rfl (KAV (first:=[_]) rfl en_120 rfl (fun w hw=>c_F_Mul V hok f bd _ _ w (hw _ (by repeat (first|exact Mh _|apply Mt))) (hw _ (by repeat (first|exact Mh _|apply Mt))))) ?_
  rintro _ _ ⟨rfl,rfl⟩
  refine KAO 11 rfl rfl rfl (Nb rfl) (by kernel_rfl) rfl (KAV (first:=[_]) rfl en_120 rfl (fun w hw=>c_F_Mul V hok f bd _ _ w (hw _ (by repeat (first|exact Mh _|apply Mt))) (hw _ (by repeat (first|exact Mh _|apply Mt))))) ?_
  rintro _ _ ⟨rfl,rfl⟩
  refine KAO 17 rfl rfl rfl (Nb rfl) (by kernel_rfl) rfl (KAV (first:=[_]) rfl en_120 rfl (fun w hw=>c_F_Mul V hok f bd _ _ w (hw _ (by repeat (first|exact Mh _|apply Mt))) (hw _ (by repeat (first|exact Mh _|apply Mt))))) ?_
  rintro _ _ ⟨rfl,rfl⟩
  refine LAnyP.mat (by kernel_rfl) (fun b12=>?_)
  refine LAnyP.mat (by kernel_rfl) (fun b11=>?_)
  refine LAnyP.mat (by kernel_rfl) (fun b10=>?_)
  refine LAnyP.toAny ?_
  refine Kr 21 rfl rfl (by kernel_rfl) (by kernel_rfl) (KQ rfl rfl sz_33 (by repeat (first|exact Kl _|exact Kz _ _ _|exact Km _|exact Kn _ _ _|exact KAA _ _ _|exact KY|refine KW rfl ?_|refine KZ ?_ ?_)) (by repeat (first|exact Sh _|apply St_)) (by first|exact KH _|exact KN _ _ _|exact KJ _|exact KV _ _ _|exact Ki _ _ _|rfl|simp [KN,KH,KJ]) ?_)
  refine Kr 22 rfl rfl (by kernel_rfl) (by kernel_rfl) (KQ rfl rfl sz_33 (by repeat (first|exact Kl _|exact Kz _ _ _|exact Km _|exact Kn _ _ _|exact KAA _ _ _|exact KY|refine KW rfl ?_|refine KZ ?_ ?_)) (by repeat (first|exact Sh _|apply St_)) (by first|exact KH _|exact KN _ _ _|exact KJ _|exact KV _ _ _|exact Ki _ _ _|rfl|simp [KN,KH,KJ]) ?_)
  refine Kr 23 rfl rfl (by kernel_rfl) (by kernel_rfl) (KQ rfl rfl sz_33 (by repeat (first|exact Kl _|exact Kz _ _ _|exact Km _|exact Kn _ _ _|exact KAA _ _ _|exact KY|refine KW rfl ?_|refine KZ ?_ ?_)) (by repeat (first|exact Sh _|apply St_)) (by first|exact KH _|exact KN _ _ _|exact KJ _|exact KV _ _ _|exact Ki _ _ _|rfl|simp [KN,KH,KJ]) ?_)
  refine Ko (by kernel_rfl) ?_
  refine KD ?_
  refine Kg [21] (by kernel_rfl) ?_
  refine KE 0 rfl (by kernel_rfl) (Nb rfl) (KC rfl) ?_
  refine KE 1 rfl (by kernel_rfl) (Nb rfl) (KC rfl) ?_
  refine KE 2 rfl (by kernel_rfl) (Nb rfl) (KC rfl) ?_
  refine KE 3 rfl (by kernel_rfl) (Nb rfl) (KM (o':=0) Try.underlying172 rfl rfl rfl sz_33 (by decide)) ?_
  refine LAny.take 4 rfl (by kernel_rfl) (Nb rfl) (KL rfl (by repeat (first|exact Mh _|apply Mt)) (by exact KAR Try.underlying33 rfl sz_33 rfl (KH _))) ?_
  refine KE 5 rfl (by kernel_rfl) (Nb rfl) (KM (o':=9) Try.underlying172 rfl rfl rfl sz_33 (by decide)) ?_
  refine LAny.take 6 rfl (by kernel_rfl) (Nb rfl) (KL rfl (by repeat (first|exact Mh _|apply Mt)) (by exact LoadV.mid Try.underlying33 rfl sz_33 rfl (KH _) (KH _))) ?_
  refine KE 8 rfl (by kernel_rfl) (Nb rfl) (KC rfl) ?_
  refine KE 9 rfl (by kernel_rfl) (Nb rfl) (KM (o':=0) Try.underlying172 rfl rfl rfl sz_33 (by decide)) ?_
  refine LAny.take 10 rfl (by kernel_rfl) (Nb rfl) (KL rfl (by repeat (first|exact Mh _|apply Mt)) (by exact KAR Try.underlying33 rfl sz_33 rfl (KH _))) ?_
  refine KE 11 rfl (by kernel_rfl) (Nb rfl) (KM (o':=9) Try.underlying172 rfl rfl rfl sz_33 (by decide)) ?_
  refine LAny.take 12 rfl (by kernel_rfl) (Nb rfl) (KL rfl (by repeat (first|exact Mh _|apply Mt)) (by exact LoadV.mid Try.underlying33 rfl sz_33 rfl (KH _) (KH _))) ?_
  refine KE 15 rfl (by kernel_rfl) (Nb rfl) (KC rfl) ?_
  refine LAny.take 16 rfl (by kernel_rfl) (Nb rfl) (KL rfl (by repeat (first|exact Mh _|apply Mt)) (by exact KO Try.underlying33 rfl sz_33)) ?_
  refine LAny.take 17 rfl (by kernel_rfl) (Nb rfl) (KL rfl (by repeat (first|exact Mh _|apply Mt)) (by exact KO Try.underlying33 rfl sz_33)) ?_
  refine LAny.toP ?_
  refine KAk 20 rfl (.inl zr_33) (Nb rfl) rfl rfl rfl ?_
  refine KAO 7 rfl rfl rfl (Nb rfl) (by kernel_rfl) rfl (KAV (first:=[_]) rfl en_118 rfl (fun w hw=>c_F_Add V hok f bd _ _ w (hw _ (by repeat (first|exact Mh _|apply Mt))))) ?_
  rintro _ _ ⟨rfl,rfl⟩
  refine KAO 13 rfl rfl rfl (Nb rfl) (by kernel_rfl) rfl (KAV (first:=[_]) rfl en_118 rfl (fun w hw=>c_F_Add V hok f bd _ _ w (hw _ (by repeat (first|exact Mh _|apply Mt))))) ?_
  rintro _ _ ⟨rfl,rfl⟩
  refine KAO 14 rfl rfl rfl (Nb rfl) (by kernel_rfl) rfl (KAV (first:=[_]) rfl en_120 rfl (fun w hw=>c_F_Mul V hok f bd _ _ w (hw _ (by repeat (first|exact Mh _|apply Mt))) (hw _ (by repeat (first|exact Mh _|apply Mt))))) ?_
  rintro _ _ ⟨rfl,rfl⟩
  refine KAO 18 rfl rfl rfl (Nb rfl) (by kernel_rfl) rfl (KAV (first:=[_]) rfl en_118 rfl (fun w hw=>c_F_Add V hok f bd _ _ w (hw _ (by repeat (first|exact Mh _|apply Mt))))) ?_
  rintro _ _ ⟨rfl,rfl⟩
  refine KAO 19 rfl rfl rfl (Nb rfl) (by kernel_rfl) rfl (KAV (first:=[_]) rfl en_130 rfl (fun w hw=>c_F_Sub V hok f bd _ _ w (hw _ (by repeat (first|exact Mh _|apply Mt))))) ?_
  rintro _ _ ⟨rfl,rfl⟩
  refine LAnyP.mat (by kernel_rfl) (fun b13=>?_)
  refine LAnyP.toAny ?_
  refine Kr 21 rfl rfl (by kernel_rfl) (by kernel_rfl) (KQ rfl rfl sz_33 (by repeat (first|exact Kl _|exact Kz _ _ _|exact Km _|exact Kn _ _ _|exact KAA _ _ _|exact KY|refine KW rfl ?_|refine KZ ?_ ?_)) (by repeat (first|exact Sh _|apply St_)) (by first|exact KH _|exact KN _ _ _|exact KJ _|exact KV _ _ _|exact Ki _ _ _|rfl|simp [KN,KH,KJ]) ?_)
  refine Ko (by kernel_rfl) ?_
  refine KD ?_
  refine Kg [21] (by kernel_rfl) ?_
  refine KE 0 rfl (by kernel_rfl) (Nb rfl) (KC rfl) ?_
  refine KE 1 rfl (by kernel_rfl) (Nb rfl) (KC rfl) ?_
  refine KE 2 rfl (by kernel_rfl) (Nb rfl) (KC rfl) ?_
  refine KE 3 rfl (by kernel_rfl) (Nb rfl) (KM (o':=0) Try.underlying172 rfl rfl rfl sz_33 (by decide)) ?_
  refine LAny.take 4 rfl (by kernel_rfl) (Nb rfl) (KL rfl (by repeat (first|exact Mh _|apply Mt)) (by exact KAR Try.underlying33 rfl sz_33 rfl (KH _))) ?_
  refine KE 5 rfl (by kernel_rfl) (Nb rfl) (KM (o':=18) Try.underlying172 rfl rfl rfl sz_33 (by decide)) ?_
  refine LAny.take 6 rfl (by kernel_rfl) (Nb rfl) (KL rfl (by repeat (first|exact Mh _|apply Mt)) (by exact pj_ld2 _ _ _ _ _ _)) ?_
  refine KE 8 rfl (by kernel_rfl) (Nb rfl) (KC rfl) ?_
  refine KE 9 rfl (by kernel_rfl) (Nb rfl) (KM (o':=0) Try.underlying172 rfl rfl rfl sz_33 (by decide)) ?_
  refine LAny.take 10 rfl (by kernel_rfl) (Nb rfl) (KL rfl (by repeat (first|exact Mh _|apply Mt)) (by exact KAR Try.underlying33 rfl sz_33 rfl (KH _))) ?_
  refine KE 11 rfl (by kernel_rfl) (Nb rfl) (KM (o':=18) Try.underlying172 rfl rfl rfl sz_33 (by decide)) ?_
  refine LAny.take 12 rfl (by kernel_rfl) (Nb rfl) (KL rfl (by repeat (first|exact Mh _|apply Mt)) (by exact pj_ld2 _ _ _ _ _ _)) ?_
  refine KE 15 rfl (by kernel_rfl) (Nb rfl) (KC rfl) ?_
  refine LAny.take 16 rfl (by kernel_rfl) (Nb rfl) (KL rfl (by repeat (first|exact Mh _|apply Mt)) (by exact KO Try.underlying33 rfl sz_33)) ?_
  refine LAny.take 17 rfl (by kernel_rfl) (Nb rfl) (KL rfl (by repeat (first|exact Mh _|apply Mt)) (by exact KO Try.underlying33 rfl sz_33)) ?_
  refine LAny.toP ?_
  refine KAk 20 rfl (.inl zr_33) (Nb rfl) rfl rfl rfl ?_
  refine KAO 7 rfl rfl rfl (Nb rfl) (by kernel_rfl) rfl (KAV (first:=[_]) rfl en_118 rfl (fun w hw=>c_F_Add V hok f bd _ _ w (hw _ (by repeat (first|exact Mh _|apply Mt))))) ?_
  rintro _ _ ⟨rfl,rfl⟩
  refine KAO 13 rfl rfl rfl (Nb rfl) (by kernel_rfl) rfl (KAV (first:=[_]) rfl en_118 rfl (fun w hw=>c_F_Add V hok f bd _ _ w (hw _ (by repeat (first|exact Mh _|apply Mt))))) ?_
  rintro _ _ ⟨rfl,rfl⟩
  refine KAO 14 rfl rfl rfl (Nb rfl) (by kernel_rfl) rfl (KAV (first:=[_]) rfl en_120 rfl (fun w hw=>c_F_Mul V hok f bd _ _ w (hw _ (by repeat (first|exact Mh _|apply Mt))) (hw _ (by repeat (first|exact Mh _|apply Mt))))) ?_
  rintro _ _ ⟨rfl,rfl⟩
  refine KAO 18 rfl rfl rfl (Nb rfl) (by kernel_rfl) rfl (KAV (first:=[_]) rfl en_118 rfl (fun w hw=>c_F_Add V hok f bd _ _ w (hw _ (by repeat (first|exact Mh _|apply Mt))))) ?_
  rintro _ _ ⟨rfl,rfl⟩
  refine KAO 19 rfl rfl rfl (Nb rfl) (by kernel_rfl) rfl (KAV (first:=[_]) rfl en_130 rfl (fun w hw=>c_F_Sub V hok f bd _ _ w (hw _ (by repeat (first|exact Mh _|apply Mt))))) ?_
  rintro _ _ ⟨rfl,rfl⟩
  refine LAnyP.mat (by kernel_rfl) (fun b14=>?_)
  refine LAnyP.toAny ?_
  refine Kr 21 rfl rfl (by kernel_rfl) (by kernel_rfl) (KQ rfl rfl sz_33 (by repeat (first|exact Kl _|exact Kz _ _ _|exact Km _|exact Kn _ _ _|exact KAA _ _ _|exact KY|refine KW rfl ?_|refine KZ ?_ ?_)) (by repeat (first|exact Sh _|apply St_)) (by first|exact KH _|exact KN _ _ _|exact KJ _|exact KV _ _ _|exact Ki _ _ _|rfl|simp [KN,KH,KJ]) ?_)
  refine Ko (by kernel_rfl) ?_
  refine KD ?_
  refine Kg [21] (by kernel_rfl) ?_
  refine KE 0 rfl (by kernel_rfl) (Nb rfl) (KC rfl) ?_
  refine KE 1 rfl (by kernel_rfl) (Nb rfl) (KC rfl) ?_
  refine KE 2 rfl (by kernel_rfl) (Nb rfl) (KC rfl) ?_
  refine KE 3 rfl (by kernel_rfl) (Nb rfl) (KM (o':=9) Try.underlying172 rfl rfl rfl sz_33 (by decide)) ?_
  refine LAny.take 4 rfl (by kernel_rfl) (Nb rfl) (KL rfl (by repeat (first|exact Mh _|apply Mt)) (by exact LoadV.mid Try.underlying33 rfl sz_33 rfl (KH _) (KH _))) ?_
  refine KE 5 rfl (by kernel_rfl) (Nb rfl) (KM (o':=18) Try.underlying172 rfl rfl rfl sz_33 (by decide)) ?_
  refine LAny.take 6 rfl (by kernel_rfl) (Nb rfl) (KL rfl (by repeat (first|exact Mh _|apply Mt)) (by exact pj_ld2 _ _ _ _ _ _)) ?_
  refine KE 8 rfl (by kernel_rfl) (Nb rfl) (KC rfl) ?_
  refine KE 9 rfl (by kernel_rfl) (Nb rfl) (KM (o':=9) Try.underlying172 rfl rfl rfl sz_33 (by decide)) ?_
  refine LAny.take 10 rfl (by kernel_rfl) (Nb rfl) (KL rfl (by repeat (first|exact Mh _|apply Mt)) (by exact LoadV.mid Try.underlying33 rfl sz_33 rfl (KH _) (KH _))) ?_
  refine KE 11 rfl (by kernel_rfl) (Nb rfl) (KM (o':=18) Try.underlying172 rfl rfl rfl sz_33 (by decide)) ?_
  refine LAny.take 12 rfl (by kernel_rfl) (Nb rfl) (KL rfl (by repeat (first|exact Mh _|apply Mt)) (by exact pj_ld2 _ _ _ _ _ _)) ?_
  refine KE 15 rfl (by kernel_rfl) (Nb rfl) (KC rfl) ?_
  refine LAny.take 16 rfl (by kernel_rfl) (Nb rfl) (KL rfl (by repeat (first|exact Mh _|apply Mt)) (by exact KO Try.underlying33 rfl sz_33)) ?_
  refine LAny.take 17 rfl (by kernel_rfl) (Nb rfl) (KL rfl (by repeat (first|exact Mh _|apply Mt)) (by exact KO Try.underlying33 rfl sz_33)) ?_
  refine LAny.toP ?_
  refine KAk 20 rfl (.inl zr_33) (Nb rfl) rfl rfl rfl ?_
  refine KAO 7 rfl rfl rfl (Nb rfl) (by kernel_rfl) rfl (KAV (first:=[_]) rfl en_118 rfl (fun w hw=>c_F_Add V hok f bd _ _ w (hw _ (by repeat (first|exact Mh _|apply Mt))))) ?_
  rintro _ _ ⟨rfl,rfl⟩
  refine KAO 13 rfl rfl rfl (Nb rfl) (by kernel_rfl) rfl (KAV (first:=[_]) rfl en_118 rfl (fun w hw=>c_F_Add V hok f bd _ _ w (hw _ (by repeat (first|exact Mh _|apply Mt))))) ?_
  rintro _ _ ⟨rfl,rfl⟩
  refine KAO 14 rfl rfl rfl (Nb rfl) (by kernel_rfl) rfl (KAV (first:=[_]) rfl en_120 rfl (fun w hw=>c_F_Mul V hok f bd _ _ w (hw _ (by repeat (first|exact Mh _|apply Mt))) (hw _ (by repeat (first|exact Mh _|apply Mt))))) ?_
  rintro _ _ ⟨rfl,rfl⟩
  refine KAO 18 rfl rfl rfl (Nb rfl) (by kernel_rfl) rfl (KAV (first:=[_]) rfl en_118 rfl (fun w hw=>c_F_Add V hok f bd _ _ w (hw _ (by repeat (first|exact Mh _|apply Mt))))) ?_
  rintro _ _ ⟨rfl,rfl⟩
  refine KAO 19 rfl rfl rfl (Nb rfl) (by kernel_rfl) rfl (KAV (first:=[_]) rfl en_130 rfl (fun w hw=>c_F_Sub V hok f bd _ _ w (hw _ (by repeat (first|exact Mh _|apply Mt))))) ?_
  rintro _ _ ⟨rfl,rfl⟩
  refine LAnyP.mat (by kernel_rfl) (fun b15=>?_)
  refine LAnyP.toAny ?_
  refine Kr 21 rfl rfl (by kernel_rfl) (by kernel_rfl) (KQ rfl rfl sz_33 (by repeat (first|exact Kl _|exact Kz _ _ _|exact Km _|exact Kn _ _ _|exact KAA _ _ _|exact KY|refine KW rfl ?_|refine KZ ?_ ?_)) (by repeat (first|exact Sh _|apply St_)) (by first|exact KH _|exact KN _ _ _|exact KJ _|exact KV _ _ _|exact Ki _ _ _|rfl|simp [KN,KH,KJ]) ?_)
  refine Ko (by kernel_rfl) ?_
  refine KD ?_
  refine Kg [18] (by kernel_rfl) ?_
  refine KE 0 rfl (by kernel_rfl) (Nb rfl) (KC rfl) ?_
  refine KE 1 rfl (by kernel_rfl) (Nb rfl) (KC rfl) ?_
  refine KE 2 rfl (by kernel_rfl) (Nb rfl) (KC rfl) ?_
  refine KE 3 rfl (by kernel_rfl) (Nb rfl) (Kc rfl) ?_
  refine KE 4 rfl (by kernel_rfl) (Nb rfl) (KM (o':=60) Try.underlying129 rfl rfl rfl sz_33 (by decide)) ?_
  refine LAny.take 5 rfl (by kernel_rfl) (Nb rfl) (Det.cast (KL rfl (by repeat (first|exact Mh _|apply Mt)) (by exact cvC_ld_t3 _ _ _ _ _ _ _ _ _ _ _ _ _ _ _ _)) (t_val hok)) ?_
  refine LAny.take 6 rfl (by kernel_rfl) (Nb rfl) (KL rfl (by repeat (first|exact Mh _|apply Mt)) (by exact KO Try.underlying33 rfl sz_33)) ?_
  refine KE 8 rfl (by kernel_rfl) (Nb rfl) (KC rfl) ?_
  refine KE 9 rfl (by kernel_rfl) (Nb rfl) (KC rfl) ?_
  refine KE 10 rfl (by kernel_rfl) (Nb rfl) (Kc rfl) ?_
  refine KE 11 rfl (by kernel_rfl) (Nb rfl) (KM (o':=0) Try.underlying129 rfl rfl rfl sz_126 (by decide)) ?_
  refine KE 12 rfl (by kernel_rfl) (Nb rfl) (KM (o':=10) Try.underlying126 rfl rfl rfl sz_33 (by decide)) ?_
  refine LAny.take 13 rfl (by kernel_rfl) (Nb rfl) (Det.cast (KL rfl (by repeat (first|exact Mh _|apply Mt)) (by exact cvC_ld_a _ _ _ _ _ _ _ _ _ _ _ _ _ _ _ _)) (a_val hok)) ?_
  refine LAny.take 14 rfl (by kernel_rfl) (Nb rfl) (KL rfl (by repeat (first|exact Mh _|apply Mt)) (by exact KO Try.underlying33 rfl sz_33)) ?_
  refine LAny.toP ?_
  refine KAk 17 rfl (.inl zr_33) (Nb rfl) rfl rfl rfl ?_
  refine KAO 7 rfl rfl rfl (Nb rfl) (by kernel_rfl) rfl (KAV (first:=[_]) rfl en_120 rfl (fun w hw=>c_F_Mul V hok f bd _ _ w (hw _ (by repeat (first|exact Mh _|apply Mt))) (hw _ (by repeat (first|exact Mh _|apply Mt))))) ?_
  rintro _ _ ⟨rfl,rfl⟩
  refine KAO 15 rfl rfl rfl (Nb rfl) (by kernel_rfl) rfl (KAV (first:=[_]) rfl en_120 rfl (fun w hw=>c_F_Mul V hok f bd _ _ w (hw _ (by repeat (first|exact Mh _|apply Mt))) (hw _ (by repeat (first|exact Mh _|apply Mt))))) ?_
  rintro _ _ ⟨rfl,rfl⟩
  refine KAO 16 rfl rfl rfl (Nb rfl) (by kernel_rfl) rfl (KAV (first:=[_]) rfl en_118 rfl (fun w hw=>c_F_Add V hok f bd _ _ w (hw _ (by repeat (first|exact Mh _|apply Mt))))) ?_
  rintro _ _ ⟨rfl,rfl⟩
  refine LAnyP.mat (by kernel_rfl) (fun b16=>?_)
  refine LAnyP.toAny ?_
  refine Kr 18 rfl rfl (by kernel_rfl) (by kernel_rfl) (KQ rfl rfl sz_33 (by repeat (first|exact Kl _|exact Kz _ _ _|exact Km _|exact Kn _ _ _|exact KAA _ _ _|exact KY|refine KW rfl ?_|refine KZ ?_ ?_)) (by repeat (first|exact Sh _|apply St_)) (by first|exact KH _|exact KN _ _ _|exact KJ _|exact KV _ _ _|exact Ki _ _ _|rfl|simp [KN,KH,KJ]) ?_)
  refine Ko (by kernel_rfl) ?_
  refine KD (KB ?_)
  refine KA (KC rfl) (Nb rfl) ?_
  refine LOps.det (KL rfl (by repeat (first|exact Mh _|apply Mt)) (by exact KO Try.underlying33 rfl sz_33)) (Nb rfl) ?_
  refine LOps.det (KL rfl (by repeat (first|exact Mh _|apply Mt)) (by exact KO Try.underlying33 rfl sz_33)) (Nb rfl) ?_
  refine KI rfl (KS (KP (first:=[_]) rfl en_130 rfl (Nb rfl) (fun w hw=>c_F_Sub V hok f bd _ _ w (hw _ (by repeat (first|exact Mh _|apply Mt)))) ?_))
  refine KI rfl (KS (KR (Ke zr_33) (Nb rfl) (fun b17=>?_)))
  refine KI rfl (KQ rfl rfl sz_33 (by repeat (first|exact Kl _|exact Kz _ _ _|exact Km _|exact Kn _ _ _|exact KAA _ _ _|exact KY|refine KW rfl ?_|refine KZ ?_ ?_)) (by repeat (first|exact Sh _|apply St_)) (by first|exact KH _|exact KN _ _ _|exact KJ _|exact KV _ _ _|exact Ki _ _ _|rfl|simp [KN,KH,KJ]) ?_)
  refine KG ?_
  refine KD (KB ?_)
  refine KA (KC rfl) (Nb rfl) ?_
  refine LOps.det (KL rfl (by repeat (first|exact Mh _|apply Mt)) (by exact KO Try.underlying33 rfl sz_33)) (Nb rfl) ?_
  refine LOps.det (KL rfl (by repeat (first|exact Mh _|apply Mt)) (by exact KO Try.underlying33 rfl sz_33)) (Nb rfl) ?_
  refine KI rfl (KS (KP (first:=[_]) rfl en_118 rfl (Nb rfl) (fun w hw=>c_F_Add V hok f bd _ _ w (hw _ (by repeat (first|exact Mh _|apply Mt)))) ?_))
  refine KI rfl (KQ rfl rfl sz_33 (by repeat (first|exact Kl _|exact Kz _ _ _|exact Km _|exact Kn _ _ _|exact KAA _ _ _|exact KY|refine KW rfl ?_|refine KZ ?_ ?_)) (by repeat (first|exact Sh _|apply St_)) (by first|exact KH _|exact KN _ _ _|exact KJ _|exact KV _ _ _|exact Ki _ _ _|rfl|simp [KN,KH,KJ]) ?_)
  refine KG ?_
  refine KD (KB ?_)
  refine KA (KC rfl) (Nb rfl) ?_
  refine LOps.det (KL rfl (by repeat (first|exact Mh _|apply Mt)) (by exact KO Try.underlying33 rfl sz_33)) (Nb rfl) ?_
  refine LOps.det (KL rfl (by repeat (first|exact Mh _|apply Mt)) (by exact KO Try.underlying33 rfl sz_33)) (Nb rfl) ?_
  refine KI rfl (KS (KP (first:=[_]) rfl en_120 rfl (Nb rfl) (fun w hw=>c_F_Mul V hok f bd _ _ w (hw _ (by repeat (first|exact Mh _|apply Mt))) (hw _ (by repeat (first|exact Mh _|apply Mt)))) ?_))
  refine KI rfl (KS (KR (Ke zr_33) (Nb rfl) (fun b18=>?_)))
  refine KI rfl (KQ rfl rfl sz_33 (by repeat (first|exact Kl _|exact Kz _ _ _|exact Km _|exact Kn _ _ _|exact KAA _ _ _|exact KY|refine KW rfl ?_|refine KZ ?_ ?_)) (by repeat (first|exact Sh _|apply St_)) (by first|exact KH _|exact KN _ _ _|exact KJ _|exact KV _ _ _|exact Ki _ _ _|rfl|simp [KN,KH,KJ]) ?_)
  refine KG ?_
  refine KD ?_
  refine Kg [7] (by kernel_rfl) ?_
  refine KE 0 rfl (by kernel_rfl) (Nb rfl) (KC rfl) ?_
  refine KE 1 rfl (by kernel_rfl) (Nb rfl) (KC rfl) ?_
  refine LAny.take 2 rfl (by kernel_rfl) (Nb rfl) (KL rfl (by repeat (first|exact Mh _|apply Mt)) (by exact KO Try.underlying33 rfl sz_33)) ?_
  refine LAny.take 3 rfl (by kernel_rfl) (Nb rfl) (KL rfl (by repeat (first|exact Mh _|apply Mt)) (by exact KO Try.underlying33 rfl sz_33)) ?_
  refine LAny.take 5 rfl (by kernel_rfl) (Nb rfl) (KL rfl (by repeat (first|exact Mh _|apply Mt)) (by exact KO Try.underlying33 rfl sz_33)) ?_
  refine Kt 4 rfl rfl (by kernel_rfl) (KP (first:=[_]) rfl en_118 rfl (Nb rfl) (fun w hw=>c_F_Add V hok f bd _ _ w (hw _ (by repeat (first|exact Mh _|apply Mt)))) ?_)
  refine Kt 6 rfl rfl (by kernel_rfl) (KP (first:=[_]) rfl en_118 rfl (Nb rfl) (fun w hw=>c_F_Add V hok f bd _ _ w (hw _ (by repeat (first|exact Mh _|apply Mt)))) ?_)
  refine Kr 7 rfl rfl (by kernel_rfl) (by kernel_rfl) (KQ rfl rfl sz_33 (by repeat (first|exact Kl _|exact Kz _ _ _|exact Km _|exact Kn _ _ _|exact KAA _ _ _|exact KY|refine KW rfl ?_|refine KZ ?_ ?_)) (by repeat (first|exact Sh _|apply St_)) (by first|exact KH _|exact KN _ _ _|exact KJ _|exact KV _ _ _|exact Ki _ _ _|rfl|simp [KN,KH,KJ]) ?_)
  refine Ko (by kernel_rfl) ?_
  refine KD ?_
  refine Kg [8] (by kernel_rfl) ?_
  refine KE 0 rfl (by kernel_rfl) (Nb rfl) (KC rfl) ?_
  refine KE 1 rfl (by kernel_rfl) (Nb rfl) (KC rfl) ?_
  refine KE 2 rfl (by kernel_rfl) (Nb rfl) (Kc rfl) ?_
  refine KE 3 rfl (by kernel_rfl) (Nb rfl) (KM (o':=0) Try.underlying129 rfl rfl rfl sz_126 (by decide)) ?_
  refine KE 4 rfl (by kernel_rfl) (Nb rfl) (KM (o':=10) Try.underlying126 rfl rfl rfl sz_33 (by decide)) ?_
  refine LAny.take 5 rfl (by kernel_rfl) (Nb rfl) (Det.cast (KL rfl (by repeat (first|exact Mh _|apply Mt)) (by exact cvC_ld_a _ _ _ _ _ _ _ _ _ _ _ _ _ _ _ _)) (a_val hok)) ?_
  refine LAny.take 6 rfl (by kernel_rfl) (Nb rfl) (KL rfl (by repeat (first|exact Mh _|apply Mt)) (by exact KO Try.underlying33 rfl sz_33)) ?_
  refine Kt 7 rfl rfl (by kernel_rfl) (KP (first:=[_]) rfl en_120 rfl (Nb rfl) (fun w hw=>c_F_Mul V hok f bd _ _ w (hw _ (by repeat (first|exact Mh _|apply Mt))) (hw _ (by repeat (first|exact Mh _|apply Mt)))) ?_)
  refine Kr 8 rfl rfl (by kernel_rfl) (by kernel_rfl) (KQ rfl rfl sz_33 (by repeat (first|exact Kl _|exact Kz _ _ _|exact Km _|exact Kn _ _ _|exact KAA _ _ _|exact KY|refine KW rfl ?_|refine KZ ?_ ?_)) (by repeat (first|exact Sh _|apply St_)) (by first|exact KH _|exact KN _ _ _|exact KJ _|exact KV _ _ _|exact Ki _ _ _|rfl|simp [KN,KH,KJ]) ?_)
  refine Ko (by kernel_rfl) ?_
  refine KD ?_
  refine Kg [7] (by kernel_rfl) ?_
  refine KE 0 rfl (by kernel_rfl) (Nb rfl) (KC rfl) ?_
  refine KE 1 rfl (by kernel_rfl) (Nb rfl) (KC rfl) ?_
  refine KE 2 rfl (by kernel_rfl) (Nb rfl) (Kc rfl) ?_
  refine KE 3 rfl (by kernel_rfl) (Nb rfl) (KM (o':=60) Try.underlying129 rfl rfl rfl sz_33 (by decide)) ?_
  refine LAny.take 4 rfl (by kernel_rfl) (Nb rfl) (Det.cast (KL rfl (by repeat (first|exact Mh _|apply Mt)) (by exact cvC_ld_t3 _ _ _ _ _ _ _ _ _ _ _ _ _ _ _ _)) (t_val hok)) ?_
  refine LAny.take 5 rfl (by kernel_rfl) (Nb rfl) (KL rfl (by repeat (first|exact Mh _|apply Mt)) (by exact KO Try.underlying33 rfl sz_33)) ?_
  refine Kt 6 rfl rfl (by kernel_rfl) (KP (first:=[_]) rfl en_120 rfl (Nb rfl) (fun w hw=>c_F_Mul V hok f bd _ _ w (hw _ (by repeat (first|exact Mh _|apply Mt))) (hw _ (by repeat (first|exact Mh _|apply Mt)))) ?_)
  refine Kr 7 rfl rfl (by kernel_rfl) (by kernel_rfl) (KQ rfl rfl sz_33 (by repeat (first|exact Kl _|exact Kz _ _ _|exact Km _|exact Kn _ _ _|exact KAA _ _ _|exact KY|refine KW rfl ?_|refine KZ ?_ ?_)) (by repeat (first|exact Sh _|apply St_)) (by first|exact KH _|exact KN _ _ _|exact KJ _|exact KV _ _ _|exact Ki _ _ _|rfl|simp [KN,KH,KJ]) ?_)
  refine Ko (by kernel_rfl) ?_
  refine KD (KB ?_)
  refine KA (KC rfl) (Nb rfl) ?_
  refine LOps.det (KL rfl (by repeat (first|exact Mh _|apply Mt)) (by exact KO Try.underlying33 rfl sz_33)) (Nb rfl) ?_
  refine LOps.det (KL rfl (by repeat (first|exact Mh _|apply Mt)) (by exact KO Try.underlying33 rfl sz_33)) (Nb rfl) ?_
  refine KI rfl (KS (KP (first:=[_]) rfl en_118 rfl (Nb rfl) (fun w hw=>c_F_Add V hok f bd _ _ w (hw _ (by repeat (first|exact Mh _|apply Mt)))) ?_))
  refine KI rfl (KQ rfl rfl sz_33 (by repeat (first|exact Kl _|exact Kz _ _ _|exact Km _|exact Kn _ _ _|exact KAA _ _ _|exact KY|refine KW rfl ?_|refine KZ ?_ ?_)) (by repeat (first|exact Sh _|apply St_)) (by first|exact KH _|exact KN _ _ _|exact KJ _|exact KV _ _ _|exact Ki _ _ _|rfl|simp [KN,KH,KJ]) ?_)
  refine KG ?_
  refine KD ?_
  refine Kg [11] (by kernel_rfl) ?_
  refine KE 0 rfl (by kernel_rfl) (Nb rfl) (KC rfl) ?_
  refine KE 1 rfl (by kernel_rfl) (Nb rfl) (KC rfl) ?_
  refine KE 2 rfl (by kernel_rfl) (Nb rfl) (Kc rfl) ?_
  refine KE 3 rfl (by kernel_rfl) (Nb rfl) (KM (o':=0) Try.underlying129 rfl rfl rfl sz_126 (by decide)) ?_
  refine KE 4 rfl (by kernel_rfl) (Nb rfl) (KM (o':=10) Try.underlying126 rfl rfl rfl sz_33 (by decide)) ?_
  refine LAny.take 5 rfl (by kernel_rfl) (Nb rfl) (Det.cast (KL rfl (by repeat (first|exact Mh _|apply Mt)) (by exact cvC_ld_a _ _ _ _ _ _ _ _ _ _ _ _ _ _ _ _)) (a_val hok)) ?_
  refine KE 6 rfl (by kernel_rfl) (Nb rfl) (KC rfl) ?_
  refine LAny.take 7 rfl (by kernel_rfl) (Nb rfl) (KL rfl (by repeat (first|exact Mh _|apply Mt)) (by exact KO Try.underlying33 rfl sz_33)) ?_
  refine LAny.take 8 rfl (by kernel_rfl) (Nb rfl) (KL rfl (by repeat (first|exact Mh _|apply Mt)) (by exact KO Try.underlying33 rfl sz_33)) ?_
  refine Kt 9 rfl rfl (by kernel_rfl) (KP (first:=[_]) rfl en_130 rfl (Nb rfl) (fun w hw=>c_F_Sub V hok f bd _ _ w (hw _ (by repeat (first|exact Mh _|apply Mt)))) ?_)
  refine Kt 10 rfl rfl (by kernel_rfl) (KP (first:=[_]) rfl en_120 rfl (Nb rfl) (fun w hw=>c_F_Mul V hok f bd _ _ w (hw _ (by repeat (first|exact Mh _|apply Mt))) (hw _ (by repeat (first|exact Mh _|apply Mt)))) ?_)
  refine Kr 11 rfl rfl (by kernel_rfl) (by kernel_rfl) (KQ rfl rfl sz_33 (by repeat (first|exact Kl _|exact Kz _ _ _|exact Km _|exact Kn _ _ _|exact KAA _ _ _|exact KY|refine KW rfl ?_|refine KZ ?_ ?_)) (by repeat (first|exact Sh _|apply St_)) (by first|exact KH _|exact KN _ _ _|exact KJ _|exact KV _ _ _|exact Ki _ _ _|rfl|simp [KN,KH,KJ]) ?_)
  refine Ko (by kernel_rfl) ?_
  refine KD (KB ?_)
  refine KA (KC rfl) (Nb rfl) ?_
  refine LOps.det (KL rfl (by repeat (first|exact Mh _|apply Mt)) (by exact KO Try.underlying33 rfl sz_33)) (Nb rfl) ?_
  refine LOps.det (KL rfl (by repeat (first|exact Mh _|apply Mt)) (by exact KO Try.underlying33 rfl sz_33)) (Nb rfl) ?_
  refine KI rfl (KS (KP (first:=[_]) rfl en_118 rfl (Nb rfl) (fun w hw=>c_F_Add V hok f bd _ _ w (hw _ (by repeat (first|exact Mh _|apply Mt)))) ?_))
  refine KI rfl (KQ rfl rfl sz_33 (by repeat (first|exact Kl _|exact Kz _ _ _|exact Km _|exact Kn _ _ _|exact KAA _ _ _|exact KY|refine KW rfl ?_|refine KZ ?_ ?_)) (by repeat (first|exact Sh _|apply St_)) (by first|exact KH _|exact KN _ _ _|exact KJ _|exact KV _ _ _|exact Ki _ _ _|rfl|simp [KN,KH,KJ]) ?_)
  refine KG ?_
  refine KD ?_
  refine Kg [7] (by kernel_rfl) ?_
  refine KE 0 rfl (by kernel_rfl) (Nb rfl) (KC rfl) ?_
  refine LAny.take 1 rfl (by kernel_rfl) (Nb rfl) (KL rfl (by repeat (first|exact Mh _|apply Mt)) (by exact KO Try.underlying33 rfl sz_33)) ?_
  refine KE 2 rfl (by kernel_rfl) (Nb rfl) (KC rfl) ?_
  refine LAny.take 3 rfl (by kernel_rfl) (Nb rfl) (KL rfl (by repeat (first|exact Mh _|apply Mt)) (by exact KO Try.underlying33 rfl sz_33)) ?_
  refine LAny.take 4 rfl (by kernel_rfl) (Nb rfl) (KL rfl (by repeat (first|exact Mh _|apply Mt)) (by exact KO Try.underlying33 rfl sz_33)) ?_
  refine Kt 5 rfl rfl (by kernel_rfl) (KP (first:=[_]) rfl en_120 rfl (Nb rfl) (fun w hw=>c_F_Mul V hok f bd _ _ w (hw _ (by repeat (first|exact Mh _|apply Mt))) (hw _ (by repeat (first|exact Mh _|apply Mt)))) ?_)
  refine Kt 6 rfl rfl (by kernel_rfl) (KP (first:=[_]) rfl en_118 rfl (Nb rfl) (fun w hw=>c_F_Add V hok f bd _ _ w (hw _ (by repeat (first|exact Mh _|apply Mt)))) ?_)
  refine Kr 7 rfl rfl (by kernel_rfl) (by kernel_rfl) (KQ rfl rfl sz_33 (by repeat (first|exact Kl _|exact Kz _ _ _|exact Km _|exact Kn _ _ _|exact KAA _ _ _|exact KY|refine KW rfl ?_|refine KZ ?_ ?_)) (by repeat (first|exact Sh _|apply St_)) (by first|exact KH _|exact KN _ _ _|exact KJ _|exact KV _ _ _|exact Ki _ _ _|rfl|simp [KN,KH,KJ]) ?_)
  refine Ko (by kernel_rfl) ?_
  refine KD ?_
  refine Kg [10] (by kernel_rfl) ?_
  refine KE 0 rfl (by kernel_rfl) (Nb rfl) (KC rfl) ?_
  refine KE 1 rfl (by kernel_rfl) (Nb rfl) (KC rfl) ?_
  refine LAny.take 2 rfl (by kernel_rfl) (Nb rfl) (KL rfl (by repeat (first|exact Mh _|apply Mt)) (by exact KO Try.underlying33 rfl sz_33)) ?_
  refine LAny.take 3 rfl (by kernel_rfl) (Nb rfl) (KL rfl (by repeat (first|exact Mh _|apply Mt)) (by exact KO Try.underlying33 rfl sz_33)) ?_
  refine KE 5 rfl (by kernel_rfl) (Nb rfl) (KC rfl) ?_
  refine LAny.take 6 rfl (by kernel_rfl) (Nb rfl) (KL rfl (by repeat (first|exact Mh _|apply Mt)) (by exact KO Try.underlying33 rfl sz_33)) ?_
  refine LAny.take 7 rfl (by kernel_rfl) (Nb rfl) (KL rfl (by repeat (first|exact Mh _|apply Mt)) (by exact KO Try.underlying33 rfl sz_33)) ?_
  refine Kt 4 rfl rfl (by kernel_rfl) (KP (first:=[_]) rfl en_120 rfl (Nb rfl) (fun w hw=>c_F_Mul V hok f bd _ _ w (hw _ (by repeat (first|exact Mh _|apply Mt))) (hw _ (by repeat (first|exact Mh _|apply Mt)))) ?_)
  refine Kt 8 rfl rfl (by kernel_rfl) (KP (first:=[_]) rfl en_120 rfl (Nb rfl) (fun w hw=>c_F_Mul V hok f bd _ _ w (hw _ (by repeat (first|exact Mh _|apply Mt))) (hw _ (by repeat (first|exact Mh _|apply Mt)))) ?_)
  refine Kt 9 rfl rfl (by kernel_rfl) (KP (first:=[_]) rfl en_130 rfl (Nb rfl) (fun w hw=>c_F_Sub V hok f bd _ _ w (hw _ (by repeat (first|exact Mh _|apply Mt)))) ?_)
  refine Kr 10 rfl rfl (by kernel_rfl) (by kernel_rfl) (KQ rfl rfl sz_33 (by repeat (first|exact Kl _|exact Kz _ _ _|exact Km _|exact Kn _ _ _|exact KAA _ _ _|exact KY|refine KW rfl ?_|refine KZ ?_ ?_)) (by repeat (first|exact Sh _|apply St_)) (by first|exact KH _|exact KN _ _ _|exact KJ _|exact KV _ _ _|exact Ki _ _ _|rfl|simp [KN,KH,KJ]) ?_)
  refine Ko (by kernel_rfl) ?_
  refine KD ?_
  refine Kg [10] (by kernel_rfl) ?_
  refine KE 0 rfl (by kernel_rfl) (Nb rfl) (KC rfl) ?_
  refine KE 1 rfl (by kernel_rfl) (Nb rfl) (KC rfl) ?_
  refine LAny.take 2 rfl (by kernel_rfl) (Nb rfl) (KL rfl (by repeat (first|exact Mh _|apply Mt)) (by exact KO Try.underlying33 rfl sz_33)) ?_
  refine LAny.take 3 rfl (by kernel_rfl) (Nb rfl) (KL rfl (by repeat (first|exact Mh _|apply Mt)) (by exact KO Try.underlying33 rfl sz_33)) ?_
  refine KE 5 rfl (by kernel_rfl) (Nb rfl) (KC rfl) ?_
  refine LAny.take 6 rfl (by kernel_rfl) (Nb rfl) (KL rfl (by repeat (first|exact Mh _|apply Mt)) (by exact KO Try.underlying33 rfl sz_33)) ?_
  refine LAny.take 7 rfl (by kernel_rfl) (Nb rfl) (KL rfl (by repeat (first|exact Mh _|apply Mt)) (by exact KO Try.underlying33 rfl sz_33)) ?_
  refine Kt 4 rfl rfl (by kernel_rfl) (KP (first:=[_]) rfl en_120 rfl (Nb rfl) (fun w hw=>c_F_Mul V hok f bd _ _ w (hw _ (by repeat (first|exact Mh _|apply Mt))) (hw _ (by repeat (first|exact Mh _|apply Mt)))) ?_)
  refine Kt 8 rfl rfl (by kernel_rfl) (KP (first:=[_]) rfl en_120 rfl (Nb rfl) (fun w hw=>c_F_Mul V hok f bd _ _ w (hw _ (by repeat (first|exact Mh _|apply Mt))) (hw _ (by repeat (first|exact Mh _|apply Mt)))) ?_)
  refine Kt 9 rfl rfl (by kernel_rfl) (KP (first:=[_]) rfl en_118 rfl (Nb rfl) (fun w hw=>c_F_Add V hok f bd _ _ w (hw _ (by repeat (first|exact Mh _|apply Mt)))) ?_)
  refine Kr 10 rfl rfl (by kernel_rfl) (by kernel_rfl) (KQ rfl rfl sz_33 (by repeat (first|exact Kl _|exact Kz _ _ _|exact Km _|exact Kn _ _ _|exact KAA _ _ _|exact KY|refine KW rfl ?_|refine KZ ?_ ?_)) (by repeat (first|exact Sh _|apply St_)) (by first|exact KH _|exact KN _ _ _|exact KJ _|exact KV _ _ _|exact Ki _ _ _|rfl|simp [KN,KH,KJ]) ?_)
  refine Ko (by kernel_rfl) ?_
  refine KD (KB ?_)
  refine LOps.det (KL rfl (by repeat (first|exact Mh _|apply Mt)) (by exact KO Try.underlying33 rfl sz_33)) (Nb rfl) ?_
  refine LOps.det (KL rfl (by repeat (first|exact Mh _|apply Mt)) (by exact KO Try.underlying33 rfl sz_33)) (Nb rfl) ?_
  refine LOps.det (KL rfl (by repeat (first|exact Mh _|apply Mt)) (by exact KO Try.underlying33 rfl sz_33)) (Nb rfl) ?_
  refine KA (KT (KAQ pl_172 zr_172 rfl (fill_pj _ _ _)) rfl) (Nb rfl) ?_
  refine KI rfl (KQ rfl rfl sz_172 (by repeat (first|exact Kl _|exact Kz _ _ _|exact Km _|exact Kn _ _ _|exact KAA _ _ _|exact KY|refine KW rfl ?_|refine KZ ?_ ?_)) (by repeat (first|exact Sh _|apply St_)) (by first|exact KH _|exact KN _ _ _|exact KJ _|exact KV _ _ _|exact Ki _ _ _|rfl|simp [KN,KH,KJ]) ?_)
  refine KG (KX ?_)
  refine ⟨[_],.cons ⟨_,_,_,rfl,(by repeat (first|exact Mh _|apply Mt)),by exact KO Try.underlying172 rfl sz_172⟩ .nil,fun a w' hr=>⟨?_,hr.fr.below⟩⟩
  rfl
end Go.Proofs.Ytlmiolnccgjjjaa
set_option linter.unusedVariables false
set_option linter.unusedSimpArgs false
set_option maxRecDepth 20000
namespace Go.Proofs.Ytlmiolnccgjjjaa
open Go Go.RowKit
open Grp
theorem pm_top (V:Cv) (P:Pt V.p) (K:Nat):pmul V.A P (K/2^blen K) = .inf:=by rw [Nat.div_eq_of_lt (lt_blen K)]; rfl
theorem pm_T {V:Cv} (hok:V.Ok) {P:Pt V.p} (hP:On V.A V.B P) {K y:Nat} (h:K/2^y%2 = 1):padd V.A (padd V.A (pmul V.A P (K/2^(y+1))) (pmul V.A P (K/2^(y+1)))) P = pmul V.A P (K/2^y):=by
  have:=pmul_bit hok.crv hP K y
  rwa [if_pos h] at this
theorem pm_F {V:Cv} (hok:V.Ok) {P:Pt V.p} (hP:On V.A V.B P) {K y:Nat} (h:¬ K/2^y%2 = 1):padd V.A (pmul V.A P (K/2^(y+1))) (pmul V.A P (K/2^(y+1))) = pmul V.A P (K/2^y):=by
  have:=pmul_bit hok.crv hP K y
  rwa [if_neg h] at this
theorem c_r_Times (Q:CQ) (V:Cv) (qk:NV) (K:Nat) (q r:NV) (P R:Pt V.p) (w:World) (hc:(crvI Q V).holds w) (hok:V.Ok) (hk:(numT qk K).holds w) (hK:D.nw K≤1000) (hq:(numT q (xv P)).holds w) (hr:(numT r (yv P)).holds w) (hP:On V.A V.B P) (hR:pmul V.A P K = R):Calls Try.prog 38 ([.agg (crvL Q V).toArray,numV qk K,rpV (numV q (xv P)) (numV r (yv P)) (iv P)]:List Value).toArray w (fun e w'=>Num2R w (fp2 q r P []) (xv R) (yv R) (fun u v=>rpV u v (iv R)) e w'):=by
  obtain ⟨hb5,hb521,hba,hbb,hbx,hby,hbn,hbo,hbo2,hbb1,hbn1⟩:=hok.bounds
  have hsz:=hok.sz
  have hsp:=hsz.p
  have hsa:=hsz.a
  have hsb:=hsz.b
  have hp0:V.p≠0:=by omega
  have hpp:0<V.p:=by omega
  have hm17:∀ k,D.nw (k%V.p)≤17:=fun k=>Nat.le_trans (D.nw_mono (Nat.le_of_lt (Nat.mod_lt k hpp))) hsp
  refine Ky (N:=30) (rs:=[.cell 6 38]) [crvI Q V,numT qk K,numT q (xv P),numT r (yv P)] Try.func38 rfl Try.ntmps38 Try.results38 (Nb rfl) ⟨hc,hk,hq,hr,trivial⟩ rfl ?_
  show LCode _ _ _ ⟨_,_⟩ _
  refine KD (KB ?_)
  refine KI rfl (KS (KR (KAD rfl) (Nb rfl) (fun b3=>?_)))
  refine KI rfl (KS (KR (KAD rfl) (Nb rfl) (fun b5=>?_)))
  refine KI rfl (KS (KR (Ke zr_38) (Nb rfl) (fun b6=>?_)))
  refine KG ?_
  refine KD (KB ?_)
  refine KA (KT (KAQ pl_38 zr_38 rfl rfl) (show _ = rpV (.slice none 0 0) (.slice none 0 0) (true) from rfl)) (Nb rfl) ?_
  refine KI rfl (KS (KR (Ke zr_38) (Nb rfl) (fun b7=>?_)))
  refine KI rfl (KQ rfl rfl sz_38 (by repeat (first|exact KY|refine KW rfl ?_)) (by repeat (first|exact Sh _|apply St_)) (by rfl) ?_)
  refine KG ?_
  refine KD ?_
  refine KD ?_
  have hbk:=blen_nw K
  refine LCode.zeroNum ?_
  refine LCode.zeroNum ?_
  refine KB ?_
  refine KA (KC rfl) (Nb rfl) ?_
  refine KI rfl (KS (KP (first:=[]) rfl en_70 rfl (Nb rfl) (fun w hw=>c_n_Bits qk K w (hw _ (by repeat (first|exact Mh _|apply Mt))) (by omega)) ?_))
  refine KA (KK (v:=.int .i64 (((blen K:Nat):Int)-1)) rfl rfl (br_subI (by omega) (by omega))) (Nb rfl) ?_
  refine KA (KF rfl) (Nb rfl) ?_
  refine KG ?_
  refine LCode.block ?_
  refine KAN (α:=Nat×NV×NV) (fun x=>x.1≤blen K∧NFr w.heap.size (fp2 q r P []) x.2.1 (D.nw (xv (pmul V.A P (K/2^x.1))))∧NFr w.heap.size (fp2 q r P []) x.2.2 (D.nw (yv (pmul V.A P (K/2^x.1))))) (fun x=>⟨[(1,numV qk K),(3,.pointer (some ⟨b3,0,none⟩)),(5,.pointer (some ⟨b5,0,none⟩)),(6,.pointer (some ⟨b6,0,none⟩)),(7,.pointer (some ⟨b7,0,none⟩)),(8,.int .i64 (((x.1:Nat):Int)-1))],[.blk b7 ⟨true,rpL (numV x.2.1 (xv (pmul V.A P (K/2^x.1)))) (numV x.2.2 (yv (pmul V.A P (K/2^x.1)))) (iv (pmul V.A P (K/2^x.1))),38,(0,0)⟩,.blk b6 ⟨true,[.slice none 0 0,.slice none 0 0,.bool false],38,(0,0)⟩,.blk b5 ⟨true,rpL (numV q (xv P)) (numV r (yv P)) (iv P),38,(0,0)⟩,.blk b3 ⟨true,crvL Q V,26,(0,0)⟩,numT x.2.1 (xv (pmul V.A P (K/2^x.1))),numT x.2.2 (yv (pmul V.A P (K/2^x.1))),crvI Q V,numT qk K,numT q (xv P),numT r (yv P)]⟩) (fun x=>x.1) ((blen K,⟨true,0,0⟩,⟨true,0,0⟩)) (⟨Nat.le_refl _,by dsimp only; rw [pm_top]; exact nfr_zero _ _,by dsimp only; rw [pm_top]; exact nfr_zero _ _⟩) (by dsimp only; rw [pm_top]; exact KAh (Sub.cells (b:=b7) (cs':=rpL (numV ⟨true,0,0⟩ (xv (Pt.inf:Pt V.p))) (numV ⟨true,0,0⟩ (yv (Pt.inf:Pt V.p))) (iv (Pt.inf:Pt V.p))) (by repeat (first|exact Sh _|apply St_)) rp_nil) (KAG ⟨rfl,rfl,rfl,rfl,rfl,rfl,trivial⟩ (by repeat (first|exact Sel.nil _|refine Sel.cons (by repeat (first|exact Ph _|apply Pt_)) ?_)))) ?_
  rintro x ⟨hx1,hx2,hx3⟩
  refine KD ?_
  refine KD ?_
  rcases Nat.eq_zero_or_pos x.1 with h0|h0
  ·
    refine KB ?_
    refine KA (KC rfl) (Nb rfl) ?_
    refine KA (KK (v:=.bool false) rfl rfl (by rw [h0]; rfl)) (Nb rfl) ?_
    refine KG ?_
    refine Kd rfl ?_
    refine KAH ?_
    refine KD ?_
    have eR:pmul V.A P (K/2^x.1) = R:=by rw [h0,Nat.pow_zero,Nat.div_one]; exact hR
    rw [eR] at hx2 hx3 ⊢
    refine KB ?_
    refine LOps.det (KL rfl (by repeat (first|exact Mh _|apply Mt)) (by exact KO Try.underlying38 rfl sz_38)) (Nb rfl) ?_
    refine KI rfl (KQ rfl rfl sz_38 (by repeat (first|exact KY|refine KW rfl ?_)) (by repeat (first|exact Sh _|apply St_)) (by rfl) ?_)
    refine KG (KX ?_)
    refine ⟨[_],.cons ⟨_,_,_,rfl,(by repeat (first|exact Mh _|apply Mt)),by exact KO Try.underlying38 rfl sz_38⟩ .nil,fun a w' hr=>hr.num2Q (by repeat (first|exact Mh _|apply Mt)) hx2 (by repeat (first|exact Mh _|apply Mt)) hx3⟩
  ·
    obtain ⟨y,hy⟩:∃ y,x.1 = y+1:=⟨x.1-1,by omega⟩
    rw [hy] at hx2 hx3 ⊢
    refine KB ?_
    refine KA (KC rfl) (Nb rfl) ?_
    refine KA (KK (v:=.bool true) rfl rfl (by simp [KAP] <;> omega)) (Nb rfl) ?_
    refine KG ?_
    refine Kw rfl ?_
    refine Kf ?_
    refine KD ?_
    refine LCode.block ?_
    refine KD (KB ?_)
    refine LOps.det (KL rfl (by repeat (first|exact Mh _|apply Mt)) (by exact KO Try.underlying26 rfl sz_26)) (Nb rfl) ?_
    refine LOps.det (KL rfl (by repeat (first|exact Mh _|apply Mt)) (by exact KO Try.underlying38 rfl sz_38)) (Nb rfl) ?_
    refine LOps.det (KL rfl (by repeat (first|exact Mh _|apply Mt)) (by exact KO Try.underlying38 rfl sz_38)) (Nb rfl) ?_
    refine KI rfl (KS (Kx (first:=[]) rfl en_68 rfl (Nb rfl) (fun w hw hs=>(c_r_Plus Q V x.2.1 x.2.2 x.2.1 x.2.2 (pmul V.A P (K/2^(y+1))) (pmul V.A P (K/2^(y+1))) (padd V.A (pmul V.A P (K/2^(y+1))) (pmul V.A P (K/2^(y+1)))) w (hw _ (by repeat (first|exact Mh _|apply Mt))) hok (hw _ (by repeat (first|exact Mh _|apply Mt))) (hw _ (by repeat (first|exact Mh _|apply Mt))) (hw _ (by repeat (first|exact Mh _|apply Mt))) (hw _ (by repeat (first|exact Mh _|apply Mt))) (hok.mul hP _) (hok.mul hP _) rfl).mono fun e w' h=>Num2R.q (Old.pt (by repeat (first|exact Mh _|apply Mt)) (by repeat (first|exact Mh _|apply Mt)) (Old.pt (by repeat (first|exact Mh _|apply Mt)) (by repeat (first|exact Mh _|apply Mt)) (Old.nil _))) hs h) ?_))
    rintro _ _ ⟨qda,qdb,rfl,rfl,hnda,hndb⟩
    refine KI rfl (KQ rfl rfl sz_38 (by repeat (first|exact KY|refine KW rfl ?_)) (by repeat (first|exact Sh _|apply St_)) (by rfl) ?_)
    refine KG ?_
    refine KD (KB ?_)
    refine KA (KC rfl) (Nb rfl) ?_
    refine KA (KC (v:=.int .i64 ((y:Nat):Int)) (by show some _ = some _; congr 2; omega)) (Nb rfl) ?_
    refine KI rfl (KS (KP (first:=[]) rfl en_86 rfl (Nb rfl) (fun w hw=>c_n_Bit qk K (D.nw K) y w (hw _ (by repeat (first|exact Mh _|apply Mt))) (by omega)) ?_))
    refine KA (KK rfl rfl (KAc (b:=1))) (Nb rfl) ?_
    refine KG ?_
    first|refine Kh rfl (fun hbit=>?_) (fun hbit=>?_)|refine Kj rfl (fun hbit=>?_) (fun hbit=>?_)
    ·
      have hbit:K/2^y%2 = 1:=hbit
      refine KB ?_
      refine LOps.det (KL rfl (by repeat (first|exact Mh _|apply Mt)) (by exact KO Try.underlying26 rfl sz_26)) (Nb rfl) ?_
      refine LOps.det (KL rfl (by repeat (first|exact Mh _|apply Mt)) (by exact KO Try.underlying38 rfl sz_38)) (Nb rfl) ?_
      refine LOps.det (KL rfl (by repeat (first|exact Mh _|apply Mt)) (by exact KO Try.underlying38 rfl sz_38)) (Nb rfl) ?_
      refine KI rfl (KS (Kx (first:=[]) rfl en_68 rfl (Nb rfl) (fun w hw hs=>(c_r_Plus Q V qda qdb q r (padd V.A (pmul V.A P (K/2^(y+1))) (pmul V.A P (K/2^(y+1)))) P (pmul V.A P (K/2^y)) w (hw _ (by repeat (first|exact Mh _|apply Mt))) hok (hw _ (by repeat (first|exact Mh _|apply Mt))) (hw _ (by repeat (first|exact Mh _|apply Mt))) (hw _ (by repeat (first|exact Mh _|apply Mt))) (hw _ (by repeat (first|exact Mh _|apply Mt))) (hok.sum (hok.mul hP _) (hok.mul hP _)) hP (pm_T hok hP hbit)).mono fun e w' h=>Num2R.q (Old.pt (by repeat (first|exact Mh _|apply Mt)) (by repeat (first|exact Mh _|apply Mt)) (Old.pt (by repeat (first|exact Mh _|apply Mt)) (by repeat (first|exact Mh _|apply Mt)) (Old.nil _))) hs h) ?_))
      rintro _ _ ⟨qea,qeb,rfl,rfl,hnea,hneb⟩
      refine KI rfl (KQ rfl rfl sz_38 (by repeat (first|exact KY|refine KW rfl ?_)) (by repeat (first|exact Sh _|apply St_)) (by rfl) ?_)
      refine KG ?_
      refine KB ?_
      refine KA (KC (v:=.int .i64 ((y:Nat):Int)) (by show some _ = some _; congr 2; omega)) (Nb rfl) ?_
      refine KA (KK (v:=.int .i64 (((y:Nat):Int)-1)) rfl rfl (br_subI (by omega) (by omega))) (Nb rfl) ?_
      refine KA (KF rfl) (Nb rfl) ?_
      refine KG ?_
      exact ⟨(y,qea,qeb),⟨by dsimp only; omega,NFr.two hnea (NFr.two hnda hx2 hx3 hx2 hx3) (NFr.two hndb hx2 hx3 hx2 hx3) (fp2_q _) (fp2_r _),NFr.two hneb (NFr.two hnda hx2 hx3 hx2 hx3) (NFr.two hndb hx2 hx3 hx2 hx3) (fp2_q _) (fp2_r _)⟩,by dsimp only; omega,KAG ⟨rfl,rfl,rfl,rfl,rfl,rfl,trivial⟩ (by repeat (first|exact Sel.nil _|refine Sel.cons (by repeat (first|exact Ph _|apply Pt_)) ?_))⟩
    ·
      have hbit:¬ K/2^y%2 = 1:=hbit
      refine Kf ?_
      refine KB ?_
      refine KA (KC (v:=.int .i64 ((y:Nat):Int)) (by show some _ = some _; congr 2; omega)) (Nb rfl) ?_
      refine KA (KK (v:=.int .i64 (((y:Nat):Int)-1)) rfl rfl (br_subI (by omega) (by omega))) (Nb rfl) ?_
      refine KA (KF rfl) (Nb rfl) ?_
      refine KG ?_
      rw [pm_F hok hP hbit] at hnda hndb ⊢
      exact ⟨(y,qda,qdb),⟨by dsimp only; omega,NFr.two hnda hx2 hx3 hx2 hx3,NFr.two hndb hx2 hx3 hx2 hx3⟩,by dsimp only; omega,KAG ⟨rfl,rfl,rfl,rfl,rfl,rfl,trivial⟩ (by repeat (first|exact Sel.nil _|refine Sel.cons (by repeat (first|exact Ph _|apply Pt_)) ?_))⟩
def sumT (V:Cv) (T U:Fin V.p×Fin V.p×Fin V.p):Fin V.p×Fin V.p×Fin V.p:=sum3 V.A (V.B+V.B+V.B) T.1 T.2.1 T.2.2 U.1 U.2.1 U.2.2
structure RepT (V:Cv) (T:Fin V.p×Fin V.p×Fin V.p) (P:Pt V.p):Prop where
  rep:Rep T.1 T.2.1 T.2.2 P
  on:On V.A V.B P
theorem RepT.sum {V:Cv} (hok:V.Ok) {T U:Fin V.p×Fin V.p×Fin V.p} {P R:Pt V.p} (h:RepT V T P) (k:RepT V U R):RepT V (sumT V T U) (padd V.A P R):=⟨hok.rep_sum h.rep k.rep h.on k.on,hok.sum h.on k.on⟩
theorem RepT.trip {V:Cv} (hok:V.Ok) {P:Pt V.p} (hP:On V.A V.B P):RepT V (tripF P) P:=⟨hok.rep_trip P,hP⟩
theorem c_SumT (V:Cv) (b f bd:Nat) (hok:V.Ok) (T U:Fin V.p×Fin V.p×Fin V.p) (w:World) (hb:(Item.blk b ⟨false,opL V f,129,(0,0)⟩).holds w) (hf:(Item.blk f ⟨false,fldL V.p bd,162,(0,0)⟩).holds w) (hbd:(Item.blk bd ⟨false,dvL V.p,212,(0,0)⟩).holds w):Calls Try.prog 125 ([.pointer (some ⟨b,0,none⟩),pjF T,pjF U]:List Value).toArray w (fun e w'=>e = .returned (pjF (sumT V T U))∧Below w.heap.size w w') :=
  c_Sum V b f bd hok T.1 T.2.1 T.2.2 U.1 U.2.1 U.2.2 w hb hf hbd
theorem c_PlainT (V:Cv) (b f bd:Nat) (hok:V.Ok) (T:Fin V.p×Fin V.p×Fin V.p) (P:Pt V.p) (w:World) (hb:(Item.blk b ⟨false,opL V f,129,(0,0)⟩).holds w) (hf:(Item.blk f ⟨false,fldL V.p bd,162,(0,0)⟩).holds w) (hbd:(Item.blk bd ⟨false,dvL V.p,212,(0,0)⟩).holds w) (h:RepT V T P):Calls Try.prog 124 ([.pointer (some ⟨b,0,none⟩),pjF T]:List Value).toArray w (fun e w'=>e = .returned (ptP P)∧Below w.heap.size w w'):=by
  have:=c_Plain V b f bd hok T.1 T.2.1 T.2.2 w hb hf hbd
  rwa [Rep.plain hok.prime h.rep] at this
end Go.Proofs.Ytlmiolnccgjjjaa
set_option linter.unusedVariables false
set_option linter.unusedSimpArgs false
set_option maxRecDepth 20000
namespace Go.Proofs.Ytlmiolnccgjjjaa
open Go Go.RowKit
def uidx (x:Int):Nat:=(x%18446744073709551616).toNat
theorem uidx_eq (x:Int):Value.int .u64 (IntKind.u64.wrap x) = Value.int .u64 ((uidx x:Nat):Int):=by
  unfold uidx
  rw [wrap_u64,Int.toNat_of_nonneg (Int.emod_nonneg _ (by decide))]
theorem cvI_idx (x:Int):∃ V,cvI ((1+uidx x%15:Nat):Int) = some V:=by
  rw [cvI_nat]; exact cvOf_some (by omega) (by omega)
theorem cvI_id {id:Int} {V:Cv} (h:cvI id = some V):cvI ((V.id:Nat):Int) = some V:=by rw [(cvI_ok h).2]; exact h
end Go.Proofs.Ytlmiolnccgjjjaa
set_option linter.unusedVariables false
set_option linter.unusedSimpArgs false
set_option maxRecDepth 20000
namespace Go.Proofs.Ytlmiolnccgjjjaa
open Go Go.RowKit
open Grp
theorem eq_pt_t {X Y:Nat} {i:Bool} (hX:X<W9) (hY:Y<W9):EqD 4 Try.prog 35 (ptV X Y i) (ptV X Y i) true:=by
  have:=eq_pt X Y i X Y i hX hY hX hY
  rwa [show (decide (X = X) && (decide (Y = Y) && ((i == i) && true))) = true by simp] at this
theorem Brings.own {w w':World} {H:List Item} {b:Nat} {cs:List Value} {e:TypeId} (hb:Below w.heap.size w w') (h:(Item.blk b ⟨true,cs,e,(0,0)⟩).holds w') (hn:w.heap.size≤b):Brings w H [.blk b ⟨true,cs,e,(0,0)⟩] w' :=
  ⟨hb,(by intro x hx; simp at hx; subst hx; exact h),(by intro x hx k hk; simp at hx; subst hx; simp [Item.fp] at hk; subst hk; exact .inl hn),(by intro x hx _ k hk; simp at hx; subst hx; simp [Item.fp] at hk; subst hk; exact hn),List.pairwise_singleton _ _⟩
end Go.Proofs.Ytlmiolnccgjjjaa
set_option linter.unusedVariables false
set_option linter.unusedSimpArgs false
set_option maxRecDepth 20000
namespace Go.Proofs.Ytlmiolnccgjjjaa
open Go Go.RowKit
open Grp
theorem xG {V:Cv} (hok:V.Ok):xv V.G = V.x:=val_c hok.bounds.2.2.2.2.1
theorem yG {V:Cv} (hok:V.Ok):yv V.G = V.y:=val_c hok.bounds.2.2.2.2.2.1
end Go.Proofs.Ytlmiolnccgjjjaa
set_option linter.unusedVariables false
set_option linter.unusedSimpArgs false
set_option maxRecDepth 20000
namespace Go.Proofs.Ytlmiolnccgjjjaa
open Go Go.RowKit
open Grp
theorem c_cOnB (V:Cv) (b f bd:Nat) (hok:V.Ok) (X Y:Nat) (i r:Bool) (w:World) (hb:(Item.blk b ⟨false,opL V f,129,(0,0)⟩).holds w) (hf:(Item.blk f ⟨false,fldL V.p bd,162,(0,0)⟩).holds w) (hbd:(Item.blk bd ⟨false,dvL V.p,212,(0,0)⟩).holds w) (hX:X<W9) (hY:Y<W9) (hr:onB V.p V.a V.b X Y i = r):Calls Try.prog 81 ([.pointer (some ⟨b,0,none⟩),ptV X Y i]:List Value).toArray w (fun e w'=>e = .returned (.bool r)∧Below w.heap.size w w'):=by
  have:=c_cOn V b f bd hok X Y i w hb hf hbd hX hY
  rwa [hr] at this
theorem c_cOnP (V:Cv) (b f bd:Nat) (hok:V.Ok) (P:Pt V.p) (w:World) (hb:(Item.blk b ⟨false,opL V f,129,(0,0)⟩).holds w) (hf:(Item.blk f ⟨false,fldL V.p bd,162,(0,0)⟩).holds w) (hbd:(Item.blk bd ⟨false,dvL V.p,212,(0,0)⟩).holds w) (hP:On V.A V.B P):Calls Try.prog 81 ([.pointer (some ⟨b,0,none⟩),ptP P]:List Value).toArray w (fun e w'=>e = .returned (.bool true)∧Below w.heap.size w w') :=
  c_cOnB V b f bd hok (xv P) (yv P) (iv P) true w hb hf hbd (pt_w9 hok P).1 (pt_w9 hok P).2 (onB_on hP)
theorem pjFL_length {p:Nat} (T:Fin p×Fin p×Fin p):(pjFL T).length = 27:=Ki _ _ _
theorem pjFL_one {p:Nat} (T:Fin p×Fin p×Fin p):AllOne (pjFL T):=KAA _ _ _
end Go.Proofs.Ytlmiolnccgjjjaa
set_option linter.unusedVariables false
set_option linter.unusedSimpArgs false
set_option maxRecDepth 20000
namespace Go.Proofs.Ytlmiolnccgjjjaa
open Go Go.RowKit
open Grp
section
variable {P:Program} {C:Ctx} {d:Nat} {ty:TypeId} {pos:String} {aft:Array Edge} {K:St→Prop} {x:Operand} {v:Value}
end
theorem pt_set1 (X Y Y':Nat) (i:Bool):splice (ptL X Y i) 9 (natL Y') = ptL X Y' i:=splice_mid (A:=natL X) (B:=natL Y) (D:=[.bool i]) (by simp [ptL]) (KH _) (by rw [KH,KH]) (by simp [ptL])
theorem c_slope (V:Cv) (b f bd:Nat) (hok:V.Ok) (l x1 y1 x2 y2:Fin V.p) (i j:Bool) (w:World) (hb:(Item.blk b ⟨false,opL V f,129,(0,0)⟩).holds w) (hf:(Item.blk f ⟨false,fldL V.p bd,162,(0,0)⟩).holds w) (hbd:(Item.blk bd ⟨false,dvL V.p,212,(0,0)⟩).holds w):Calls Try.prog 135 ([.agg ([.pointer (some ⟨b,0,none⟩)]:List Value).toArray,natV l.val,ptV x1.val y1.val i,ptV x2.val y2.val j]:List Value).toArray w (fun e w'=>e = .returned (ptV (l*l-x1-x2).val (l*(x1-(l*l-x1-x2))-y1).val false)∧Below w.heap.size w w'):=by
  have hbb:=hok.bounds
  have hpW:V.p<W9:=w9_521 hbb.2.1
  refine Ky (N:=42) (rs:=[.cell 8 35]) [.blk b ⟨false,opL V f,129,(0,0)⟩,.blk f ⟨false,fldL V.p bd,162,(0,0)⟩,.blk bd ⟨false,dvL V.p,212,(0,0)⟩] Try.func135 rfl Try.ntmps135 Try.results135 (Nb rfl) ⟨hb,hf,hbd,trivial⟩ rfl ?_
  show LCode _ _ _ ⟨_,_⟩ _
  refine KD (KB ?_)
  refine KI rfl (KS (KR (KAD rfl) (Nb rfl) (fun b4=>?_)))
  refine KI rfl (KS (KR (KAD rfl) (Nb rfl) (fun b5=>?_)))
  refine KI rfl (KS (KR (KAD rfl) (Nb rfl) (fun b6=>?_)))
  refine KI rfl (KS (KR (KAD rfl) (Nb rfl) (fun b7=>?_)))
  refine KI rfl (KS (KR (Ke zr_35) (Nb rfl) (fun b8=>?_)))
  refine KG ?_
  refine KD (KB ?_)
  refine KA (KM (o':=0) Try.underlying148 rfl rfl rfl sz_110 (by decide)) (Nb rfl) ?_
  refine LOps.det (KL rfl (by repeat (first|exact Mh _|apply Mt)) (Kb Try.underlying110 rfl (by first|rfl|exact Ku _ _ _ (by omega)|exact Ks _ (by omega)|exact Kq _ (by omega)|exact dv_m _ _ _ (by omega)))) (Nb rfl) ?_
  refine KA (Kc rfl) (Nb rfl) ?_
  refine KA (KM (o':=59) Try.underlying129 rfl rfl rfl sz_127 (by decide)) (Nb rfl) ?_
  refine LOps.det (KL rfl (by repeat (first|exact Mh _|apply Mt)) (Kb Try.underlying127 rfl (by exact cvC_gt_F _ _ _ _ _ _ _ _ _ _ _ _ _))) (Nb rfl) ?_
  refine KA (KF rfl) (Nb rfl) ?_
  refine KG ?_
  refine KD ?_
  refine Kg [13] (by kernel_rfl) ?_
  refine KE 0 rfl (by kernel_rfl) (Nb rfl) (KC rfl) ?_
  refine KE 1 rfl (by kernel_rfl) (Nb rfl) (KC rfl) ?_
  refine KE 2 rfl (by kernel_rfl) (Nb rfl) (KC rfl) ?_
  refine LAny.take 3 rfl (by kernel_rfl) (Nb rfl) (KL rfl (by repeat (first|exact Mh _|apply Mt)) (by exact KO Try.underlying33 rfl sz_33)) ?_
  refine LAny.take 4 rfl (by kernel_rfl) (Nb rfl) (KL rfl (by repeat (first|exact Mh _|apply Mt)) (by exact KO Try.underlying33 rfl sz_33)) ?_
  refine KE 6 rfl (by kernel_rfl) (Nb rfl) (KM (o':=0) Try.underlying35 rfl rfl rfl sz_33 (by decide)) ?_
  refine LAny.take 7 rfl (by kernel_rfl) (Nb rfl) (KL rfl (by repeat (first|exact Mh _|apply Mt)) (by exact KAR Try.underlying33 rfl sz_33 rfl (KH _))) ?_
  refine KE 9 rfl (by kernel_rfl) (Nb rfl) (KM (o':=0) Try.underlying35 rfl rfl rfl sz_33 (by decide)) ?_
  refine LAny.take 10 rfl (by kernel_rfl) (Nb rfl) (KL rfl (by repeat (first|exact Mh _|apply Mt)) (by exact KAR Try.underlying33 rfl sz_33 rfl (KH _))) ?_
  refine LAny.toP ?_
  refine KAk 12 rfl (.inl zr_33) (Nb rfl) rfl rfl rfl ?_
  refine KAO 5 rfl rfl rfl (Nb rfl) (by kernel_rfl) rfl (KAV (first:=[]) rfl en_120 rfl (fun w hw=>c_F_Mul V hok f bd _ _ w (hw _ (by repeat (first|exact Mh _|apply Mt))) (hw _ (by repeat (first|exact Mh _|apply Mt))))) ?_
  rintro _ _ ⟨rfl,rfl⟩
  refine KAO 8 rfl rfl rfl (Nb rfl) (by kernel_rfl) rfl (KAV (first:=[]) rfl en_130 rfl (fun w hw=>c_F_Sub V hok f bd _ _ w (hw _ (by repeat (first|exact Mh _|apply Mt))))) ?_
  rintro _ _ ⟨rfl,rfl⟩
  refine KAO 11 rfl rfl rfl (Nb rfl) (by kernel_rfl) rfl (KAV (first:=[]) rfl en_130 rfl (fun w hw=>c_F_Sub V hok f bd _ _ w (hw _ (by repeat (first|exact Mh _|apply Mt))))) ?_
  rintro _ _ ⟨rfl,rfl⟩
  refine LAnyP.mat (by kernel_rfl) (fun b10=>?_)
  refine LAnyP.toAny ?_
  refine Kr 13 rfl rfl (by kernel_rfl) (by kernel_rfl) (KQ rfl rfl sz_33 (by repeat (first|exact Kl _|exact Kz _ _ _|exact Km _|exact Kn _ _ _|exact KAA _ _ _|exact KY|refine KW rfl ?_|refine KZ ?_ ?_)) (by repeat (first|exact Sh _|apply St_)) (by first|exact KH _|exact KN _ _ _|exact KJ _|exact KV _ _ _|exact Ki _ _ _|rfl|simp [KN,KH,KJ]) ?_)
  refine Ko (by kernel_rfl) ?_
  refine KD ?_
  refine Kg [14] (by kernel_rfl) ?_
  refine LAny.take 0 rfl (by kernel_rfl) (Nb rfl) (KL rfl (by repeat (first|exact Mh _|apply Mt)) (by exact KO Try.underlying33 rfl sz_33)) ?_
  refine KE 1 rfl (by kernel_rfl) (Nb rfl) (KC rfl) ?_
  refine KE 2 rfl (by kernel_rfl) (Nb rfl) (KC rfl) ?_
  refine LAny.take 3 rfl (by kernel_rfl) (Nb rfl) (KL rfl (by repeat (first|exact Mh _|apply Mt)) (by exact KO Try.underlying33 rfl sz_33)) ?_
  refine KE 4 rfl (by kernel_rfl) (Nb rfl) (KC rfl) ?_
  refine KE 5 rfl (by kernel_rfl) (Nb rfl) (KM (o':=0) Try.underlying35 rfl rfl rfl sz_33 (by decide)) ?_
  refine LAny.take 6 rfl (by kernel_rfl) (Nb rfl) (KL rfl (by repeat (first|exact Mh _|apply Mt)) (by exact KAR Try.underlying33 rfl sz_33 rfl (KH _))) ?_
  refine LAny.take 7 rfl (by kernel_rfl) (Nb rfl) (KL rfl (by repeat (first|exact Mh _|apply Mt)) (by exact KO Try.underlying33 rfl sz_33)) ?_
  refine KE 10 rfl (by kernel_rfl) (Nb rfl) (KM (o':=9) Try.underlying35 rfl rfl rfl sz_33 (by decide)) ?_
  refine LAny.take 11 rfl (by kernel_rfl) (Nb rfl) (KL rfl (by repeat (first|exact Mh _|apply Mt)) (by exact pt_ld1 _ _ _ _ _ _)) ?_
  refine Kt 8 rfl rfl (by kernel_rfl) (KP (first:=[]) rfl en_130 rfl (Nb rfl) (fun w hw=>c_F_Sub V hok f bd _ _ w (hw _ (by repeat (first|exact Mh _|apply Mt)))) ?_)
  refine Kt 9 rfl rfl (by kernel_rfl) (KP (first:=[]) rfl en_120 rfl (Nb rfl) (fun w hw=>c_F_Mul V hok f bd _ _ w (hw _ (by repeat (first|exact Mh _|apply Mt))) (hw _ (by repeat (first|exact Mh _|apply Mt)))) ?_)
  refine Kt 12 rfl rfl (by kernel_rfl) (KP (first:=[]) rfl en_130 rfl (Nb rfl) (fun w hw=>c_F_Sub V hok f bd _ _ w (hw _ (by repeat (first|exact Mh _|apply Mt)))) ?_)
  refine KE 13 rfl (by kernel_rfl) (Nb rfl) (KT (KAQ pl_35 zr_35 rfl (fill_pt _ _)) rfl) ?_
  refine Kr 14 rfl rfl (by kernel_rfl) (by kernel_rfl) (KQ rfl rfl sz_35 (by repeat (first|exact Kl _|exact Kz _ _ _|exact Km _|exact Kn _ _ _|exact KAA _ _ _|exact KY|refine KW rfl ?_|refine KZ ?_ ?_)) (by repeat (first|exact Sh _|apply St_)) (by first|exact KH _|exact KN _ _ _|exact KJ _|exact KV _ _ _|exact Ki _ _ _|rfl|simp [KN,KH,KJ]) ?_)
  refine Ko (by kernel_rfl) ?_
  refine KX ?_
  refine ⟨[_],.cons ⟨_,_,_,rfl,(by repeat (first|exact Mh _|apply Mt)),by exact KO Try.underlying35 rfl sz_35⟩ .nil,fun a w' hr=>⟨?_,hr.fr.below⟩⟩
  rfl
theorem c_gadd (V:Cv) (b f bd:Nat) (hok:V.Ok) (P P2 R:Pt V.p) (w:World) (hb:(Item.blk b ⟨false,opL V f,129,(0,0)⟩).holds w) (hf:(Item.blk f ⟨false,fldL V.p bd,162,(0,0)⟩).holds w) (hbd:(Item.blk bd ⟨false,dvL V.p,212,(0,0)⟩).holds w) (hP:On V.A V.B P) (hP2:On V.A V.B P2) (hR:padd V.A P P2 = R):Calls Try.prog 102 ([.agg ([.pointer (some ⟨b,0,none⟩)]:List Value).toArray,ptP P,ptP P2]:List Value).toArray w (fun e w'=>e = .returned (ptP R)∧Below w.heap.size w w'):=by
  have hbb:=hok.bounds
  have hpW:V.p<W9:=w9_521 hbb.2.1
  refine Ky (N:=96) (rs:=[.cell 6 35]) [.blk b ⟨false,opL V f,129,(0,0)⟩,.blk f ⟨false,fldL V.p bd,162,(0,0)⟩,.blk bd ⟨false,dvL V.p,212,(0,0)⟩] Try.func102 rfl Try.ntmps102 Try.results102 (Nb rfl) ⟨hb,hf,hbd,trivial⟩ rfl ?_
  show LCode _ _ _ ⟨_,_⟩ _
  refine KD (KB ?_)
  refine KI rfl (KS (KR (KAD rfl) (Nb rfl) (fun b3=>?_)))
  refine KI rfl (KS (KR (KAD rfl) (Nb rfl) (fun b4=>?_)))
  refine KI rfl (KS (KR (KAD rfl) (Nb rfl) (fun b5=>?_)))
  refine KI rfl (KS (KR (Ke zr_35) (Nb rfl) (fun b6=>?_)))
  refine KG ?_
  refine KD ?_
  rcases P with _|⟨x1,y1⟩
  ·
    have eR:=(hok.inf_add hP2).symm.trans hR
    subst eR
    refine KB ?_
    refine KA (KM (o':=0) Try.underlying148 rfl rfl rfl sz_110 (by decide)) (Nb rfl) ?_
    refine LOps.det (KL rfl (by repeat (first|exact Mh _|apply Mt)) (Kb Try.underlying110 rfl (by first|rfl|exact Ku _ _ _ (by omega)|exact Ks _ (by omega)|exact Kq _ (by omega)|exact dv_m _ _ _ (by omega)))) (Nb rfl) ?_
    refine KA (Kc rfl) (Nb rfl) ?_
    refine KA (KM (o':=59) Try.underlying129 rfl rfl rfl sz_127 (by decide)) (Nb rfl) ?_
    refine LOps.det (KL rfl (by repeat (first|exact Mh _|apply Mt)) (Kb Try.underlying127 rfl (by exact cvC_gt_F _ _ _ _ _ _ _ _ _ _ _ _ _))) (Nb rfl) ?_
    refine KA (KF rfl) (Nb rfl) ?_
    refine KG ?_
    refine KD ?_
    refine LCode.block ?_
    refine KD (KB ?_)
    refine KA (KM (o':=18) Try.underlying35 rfl rfl rfl sz_4 (by decide)) (Nb rfl) ?_
    refine LOps.det (KL rfl (by repeat (first|exact Mh _|apply Mt)) (Kb Try.underlying4 rfl (by exact pt_gt _ _ _))) (Nb rfl) ?_
    refine KA (KF rfl) (Nb rfl) ?_
    refine KG ?_
    refine Kw rfl ?_
    refine KD (KB ?_)
    refine LOps.det (KL rfl (by repeat (first|exact Mh _|apply Mt)) (by exact KO Try.underlying35 rfl sz_35)) (Nb rfl) ?_
    refine KI rfl (KQ rfl rfl sz_35 (by repeat (first|exact Kl _|exact Kz _ _ _|exact Km _|exact Kn _ _ _|exact KAA _ _ _|exact KY|refine KW rfl ?_|refine KZ ?_ ?_)) (by repeat (first|exact Sh _|apply St_)) (by first|exact KH _|exact KN _ _ _|exact KJ _|exact KV _ _ _|exact Ki _ _ _|rfl|simp [KN,KH,KJ]) ?_)
    refine KG (KX ?_)
    refine ⟨[_],.cons ⟨_,_,_,rfl,(by repeat (first|exact Mh _|apply Mt)),by exact KO Try.underlying35 rfl sz_35⟩ .nil,fun a w' hr=>⟨?_,hr.fr.below⟩⟩
    rfl
  ·
    refine KB ?_
    refine KA (KM (o':=0) Try.underlying148 rfl rfl rfl sz_110 (by decide)) (Nb rfl) ?_
    refine LOps.det (KL rfl (by repeat (first|exact Mh _|apply Mt)) (Kb Try.underlying110 rfl (by first|rfl|exact Ku _ _ _ (by omega)|exact Ks _ (by omega)|exact Kq _ (by omega)|exact dv_m _ _ _ (by omega)))) (Nb rfl) ?_
    refine KA (Kc rfl) (Nb rfl) ?_
    refine KA (KM (o':=59) Try.underlying129 rfl rfl rfl sz_127 (by decide)) (Nb rfl) ?_
    refine LOps.det (KL rfl (by repeat (first|exact Mh _|apply Mt)) (Kb Try.underlying127 rfl (by exact cvC_gt_F _ _ _ _ _ _ _ _ _ _ _ _ _))) (Nb rfl) ?_
    refine KA (KF rfl) (Nb rfl) ?_
    refine KG ?_
    refine KD ?_
    refine LCode.block ?_
    refine KD (KB ?_)
    refine KA (KM (o':=18) Try.underlying35 rfl rfl rfl sz_4 (by decide)) (Nb rfl) ?_
    refine LOps.det (KL rfl (by repeat (first|exact Mh _|apply Mt)) (Kb Try.underlying4 rfl (by exact pt_gt _ _ _))) (Nb rfl) ?_
    refine KA (KF rfl) (Nb rfl) ?_
    refine KG ?_
    refine Kd rfl ?_
    refine KD ?_
    rcases P2 with _|⟨x2,y2⟩
    ·
      have eR:=(hok.add_inf hP).symm.trans hR
      subst eR
      refine KB ?_
      refine KA (KM (o':=18) Try.underlying35 rfl rfl rfl sz_4 (by decide)) (Nb rfl) ?_
      refine LOps.det (KL rfl (by repeat (first|exact Mh _|apply Mt)) (Kb Try.underlying4 rfl (by exact pt_gt _ _ _))) (Nb rfl) ?_
      refine KA (KF rfl) (Nb rfl) ?_
      refine KG ?_
      refine Kw rfl ?_
      refine KD (KB ?_)
      refine LOps.det (KL rfl (by repeat (first|exact Mh _|apply Mt)) (by exact KO Try.underlying35 rfl sz_35)) (Nb rfl) ?_
      refine KI rfl (KQ rfl rfl sz_35 (by repeat (first|exact Kl _|exact Kz _ _ _|exact Km _|exact Kn _ _ _|exact KAA _ _ _|exact KY|refine KW rfl ?_|refine KZ ?_ ?_)) (by repeat (first|exact Sh _|apply St_)) (by first|exact KH _|exact KN _ _ _|exact KJ _|exact KV _ _ _|exact Ki _ _ _|rfl|simp [KN,KH,KJ]) ?_)
      refine KG (KX ?_)
      refine ⟨[_],.cons ⟨_,_,_,rfl,(by repeat (first|exact Mh _|apply Mt)),by exact KO Try.underlying35 rfl sz_35⟩ .nil,fun a w' hr=>⟨?_,hr.fr.below⟩⟩
      rfl
    ·
      refine KB ?_
      refine KA (KM (o':=18) Try.underlying35 rfl rfl rfl sz_4 (by decide)) (Nb rfl) ?_
      refine LOps.det (KL rfl (by repeat (first|exact Mh _|apply Mt)) (Kb Try.underlying4 rfl (by exact pt_gt _ _ _))) (Nb rfl) ?_
      refine KA (KF rfl) (Nb rfl) ?_
      refine KG ?_
      refine Kd rfl ?_
      refine KD ?_
      by_cases hx:x1 = x2
      ·
        refine KB ?_
        refine KA (KM (o':=0) Try.underlying35 rfl rfl rfl sz_33 (by decide)) (Nb rfl) ?_
        refine LOps.det (KL rfl (by repeat (first|exact Mh _|apply Mt)) (by exact KAR Try.underlying33 rfl sz_33 rfl (KH _))) (Nb rfl) ?_
        refine KA (KM (o':=0) Try.underlying35 rfl rfl rfl sz_33 (by decide)) (Nb rfl) ?_
        refine LOps.det (KL rfl (by repeat (first|exact Mh _|apply Mt)) (by exact KAR Try.underlying33 rfl sz_33 rfl (KH _))) (Nb rfl) ?_
        refine KA (KT (Det.nea (by kernel_rfl) (fun w=>eq_nat x1.val x2.val (Nat.lt_trans x1.isLt hpW) (Nat.lt_trans x2.isLt hpW) 10000 (by decide) w) rfl rfl) (show _ = Value.bool false by rw [decide_eq_true (congrArg Fin.val hx)]; rfl)) (Nb rfl) ?_
        refine KA (KF rfl) (Nb rfl) ?_
        refine KG ?_
        refine Kd rfl ?_
        refine KD ?_
        by_cases hy:y1 = y2
        ·
          have hy0:¬ y1.val = 0:=y_pos hok hP
          refine KB ?_
          refine KA (KM (o':=9) Try.underlying35 rfl rfl rfl sz_33 (by decide)) (Nb rfl) ?_
          refine LOps.det (KL rfl (by repeat (first|exact Mh _|apply Mt)) (by exact pt_ld1 _ _ _ _ _ _)) (Nb rfl) ?_
          refine KA (KM (o':=9) Try.underlying35 rfl rfl rfl sz_33 (by decide)) (Nb rfl) ?_
          refine LOps.det (KL rfl (by repeat (first|exact Mh _|apply Mt)) (by exact pt_ld1 _ _ _ _ _ _)) (Nb rfl) ?_
          refine KA (KT (Det.nea (by kernel_rfl) (fun w=>eq_nat y1.val y2.val (Nat.lt_trans y1.isLt hpW) (Nat.lt_trans y2.isLt hpW) 10000 (by decide) w) rfl rfl) (show _ = Value.bool false by rw [decide_eq_true (congrArg Fin.val hy)]; rfl)) (Nb rfl) ?_
          refine KA (KC rfl) (Nb rfl) ?_
          refine KU rfl rfl (KM (o':=9) Try.underlying35 rfl rfl rfl sz_33 (by decide)) (Nb rfl) ?_
          refine KAi rfl rfl (KL rfl (by repeat (first|exact Mh _|apply Mt)) (by exact pt_ld1 _ _ _ _ _ _)) (Nb rfl) ?_
          refine KU rfl rfl (KT (KAQ pl_33 zr_33 rfl rfl) (show _ = natV 0 by unfold natV natL; rw [← vec_zeros 9])) (Nb rfl) ?_
          refine KU rfl rfl (KT (Det.eqa (by kernel_rfl) (fun w=>eq_nat y1.val 0 (Nat.lt_trans y1.isLt hpW) zero_w9 10000 (by decide) w) rfl rfl) (show _ = Value.bool false by rw [decide_eq_false hy0])) (Nb rfl) ?_
          refine KA (KAC rfl rfl) (Nb rfl) ?_
          refine KA (KF rfl) (Nb rfl) ?_
          refine KG ?_
          refine Kd rfl ?_
          refine Kf ?_
          refine KD ?_
          subst hx hy
          have eR:=(add_tangF hok.prime hok.fld hP (fin_ne0 hy0)).symm.trans hR
          subst eR
          refine KB ?_
          refine KA (KC rfl) (Nb rfl) ?_
          refine KA (KM (o':=0) Try.underlying35 rfl rfl rfl sz_33 (by decide)) (Nb rfl) ?_
          refine LOps.det (KL rfl (by repeat (first|exact Mh _|apply Mt)) (by exact KAR Try.underlying33 rfl sz_33 rfl (KH _))) (Nb rfl) ?_
          refine KA (KM (o':=0) Try.underlying35 rfl rfl rfl sz_33 (by decide)) (Nb rfl) ?_
          refine LOps.det (KL rfl (by repeat (first|exact Mh _|apply Mt)) (by exact KAR Try.underlying33 rfl sz_33 rfl (KH _))) (Nb rfl) ?_
          refine KI rfl (KS (KP (first:=[]) rfl en_120 rfl (Nb rfl) (fun w hw=>c_F_Mul V hok f bd _ _ w (hw _ (by repeat (first|exact Mh _|apply Mt))) (hw _ (by repeat (first|exact Mh _|apply Mt)))) ?_))
          refine KI rfl (KS (KR (Ke zr_33) (Nb rfl) (fun b8=>?_)))
          refine KI rfl (KQ rfl rfl sz_33 (by repeat (first|exact Kl _|exact Kz _ _ _|exact Km _|exact Kn _ _ _|exact KAA _ _ _|exact KY|refine KW rfl ?_|refine KZ ?_ ?_)) (by repeat (first|exact Sh _|apply St_)) (by first|exact KH _|exact KN _ _ _|exact KJ _|exact KV _ _ _|exact Ki _ _ _|rfl|simp [KN,KH,KJ]) ?_)
          refine KG ?_
          refine KD ?_
          refine Kg [29] (by kernel_rfl) ?_
          refine LAny.take 0 rfl (by kernel_rfl) (Nb rfl) (KL rfl (by repeat (first|exact Mh _|apply Mt)) (by exact KO Try.underlying148 rfl sz_148)) ?_
          refine KE 1 rfl (by kernel_rfl) (Nb rfl) (KC rfl) ?_
          refine KE 2 rfl (by kernel_rfl) (Nb rfl) (KC rfl) ?_
          refine KE 3 rfl (by kernel_rfl) (Nb rfl) (KC rfl) ?_
          refine KE 4 rfl (by kernel_rfl) (Nb rfl) (KC rfl) ?_
          refine LAny.take 5 rfl (by kernel_rfl) (Nb rfl) (KL rfl (by repeat (first|exact Mh _|apply Mt)) (by exact KO Try.underlying33 rfl sz_33)) ?_
          refine LAny.take 6 rfl (by kernel_rfl) (Nb rfl) (KL rfl (by repeat (first|exact Mh _|apply Mt)) (by exact KO Try.underlying33 rfl sz_33)) ?_
          refine LAny.take 8 rfl (by kernel_rfl) (Nb rfl) (KL rfl (by repeat (first|exact Mh _|apply Mt)) (by exact KO Try.underlying33 rfl sz_33)) ?_
          refine KE 10 rfl (by kernel_rfl) (Nb rfl) (KM (o':=0) Try.underlying148 rfl rfl rfl sz_110 (by decide)) ?_
          refine LAny.take 11 rfl (by kernel_rfl) (Nb rfl) (KL rfl (by repeat (first|exact Mh _|apply Mt)) (Kb Try.underlying110 rfl (by first|rfl|exact Ku _ _ _ (by omega)|exact Ks _ (by omega)|exact Kq _ (by omega)|exact dv_m _ _ _ (by omega)))) ?_
          refine KE 12 rfl (by kernel_rfl) (Nb rfl) (Kc rfl) ?_
          refine KE 13 rfl (by kernel_rfl) (Nb rfl) (KM (o':=0) Try.underlying129 rfl rfl rfl sz_126 (by decide)) ?_
          refine KE 14 rfl (by kernel_rfl) (Nb rfl) (KM (o':=10) Try.underlying126 rfl rfl rfl sz_33 (by decide)) ?_
          refine LAny.take 15 rfl (by kernel_rfl) (Nb rfl) (Det.cast (KL rfl (by repeat (first|exact Mh _|apply Mt)) (by exact cvC_ld_a _ _ _ _ _ _ _ _ _ _ _ _ _ _ _ _)) (a_val hok)) ?_
          refine KE 17 rfl (by kernel_rfl) (Nb rfl) (KC rfl) ?_
          refine KE 18 rfl (by kernel_rfl) (Nb rfl) (KC rfl) ?_
          refine KE 19 rfl (by kernel_rfl) (Nb rfl) (KM (o':=9) Try.underlying35 rfl rfl rfl sz_33 (by decide)) ?_
          refine LAny.take 20 rfl (by kernel_rfl) (Nb rfl) (KL rfl (by repeat (first|exact Mh _|apply Mt)) (by exact pt_ld1 _ _ _ _ _ _)) ?_
          refine KE 21 rfl (by kernel_rfl) (Nb rfl) (KM (o':=9) Try.underlying35 rfl rfl rfl sz_33 (by decide)) ?_
          refine LAny.take 22 rfl (by kernel_rfl) (Nb rfl) (KL rfl (by repeat (first|exact Mh _|apply Mt)) (by exact pt_ld1 _ _ _ _ _ _)) ?_
          refine LAny.take 26 rfl (by kernel_rfl) (Nb rfl) (KL rfl (by repeat (first|exact Mh _|apply Mt)) (by exact KO Try.underlying35 rfl sz_35)) ?_
          refine LAny.take 27 rfl (by kernel_rfl) (Nb rfl) (KL rfl (by repeat (first|exact Mh _|apply Mt)) (by exact KO Try.underlying35 rfl sz_35)) ?_
          refine Kt 7 rfl rfl (by kernel_rfl) (KP (first:=[]) rfl en_118 rfl (Nb rfl) (fun w hw=>c_F_Add V hok f bd _ _ w (hw _ (by repeat (first|exact Mh _|apply Mt)))) ?_)
          refine Kt 9 rfl rfl (by kernel_rfl) (KP (first:=[]) rfl en_118 rfl (Nb rfl) (fun w hw=>c_F_Add V hok f bd _ _ w (hw _ (by repeat (first|exact Mh _|apply Mt)))) ?_)
          refine Kt 16 rfl rfl (by kernel_rfl) (KP (first:=[]) rfl en_118 rfl (Nb rfl) (fun w hw=>c_F_Add V hok f bd _ _ w (hw _ (by repeat (first|exact Mh _|apply Mt)))) ?_)
          refine Kt 23 rfl rfl (by kernel_rfl) (KP (first:=[]) rfl en_118 rfl (Nb rfl) (fun w hw=>c_F_Add V hok f bd _ _ w (hw _ (by repeat (first|exact Mh _|apply Mt)))) ?_)
          refine Kt 24 rfl rfl (by kernel_rfl) (KP (first:=[]) rfl en_136 rfl (Nb rfl) (fun w hw=>c_F_Inv V hok f bd _ w (hw _ (by repeat (first|exact Mh _|apply Mt)))) ?_)
          refine Kt 25 rfl rfl (by kernel_rfl) (KP (first:=[]) rfl en_120 rfl (Nb rfl) (fun w hw=>c_F_Mul V hok f bd _ _ w (hw _ (by repeat (first|exact Mh _|apply Mt))) (hw _ (by repeat (first|exact Mh _|apply Mt)))) ?_)
          refine Kt 28 rfl rfl (by kernel_rfl) (KP (first:=[]) rfl en_135 rfl (Nb rfl) (fun w hw=>c_slope V b f bd hok ((x1*x1+x1*x1+x1*x1+V.A)*finv (y1+y1)) x1 y1 x1 y1 false false w (hw _ (by repeat (first|exact Mh _|apply Mt))) (hw _ (by repeat (first|exact Mh _|apply Mt))) (hw _ (by repeat (first|exact Mh _|apply Mt)))) ?_)
          refine Kr 29 rfl rfl (by kernel_rfl) (by kernel_rfl) (KQ rfl rfl sz_35 (by repeat (first|exact Kl _|exact Kz _ _ _|exact Km _|exact Kn _ _ _|exact KAA _ _ _|exact KY|refine KW rfl ?_|refine KZ ?_ ?_)) (by repeat (first|exact Sh _|apply St_)) (by first|exact KH _|exact KN _ _ _|exact KJ _|exact KV _ _ _|exact Ki _ _ _|rfl|simp [KN,KH,KJ]) ?_)
          refine Ko (by kernel_rfl) ?_
          refine KX ?_
          refine ⟨[_],.cons ⟨_,_,_,rfl,(by repeat (first|exact Mh _|apply Mt)),by exact KO Try.underlying35 rfl sz_35⟩ .nil,fun a w' hr=>⟨?_,hr.fr.below⟩⟩
          rfl
        ·
          have eR:=(add_opp hok.fld hP hP2 hx hy).symm.trans hR
          subst eR
          refine KB ?_
          refine KA (KM (o':=9) Try.underlying35 rfl rfl rfl sz_33 (by decide)) (Nb rfl) ?_
          refine LOps.det (KL rfl (by repeat (first|exact Mh _|apply Mt)) (by exact pt_ld1 _ _ _ _ _ _)) (Nb rfl) ?_
          refine KA (KM (o':=9) Try.underlying35 rfl rfl rfl sz_33 (by decide)) (Nb rfl) ?_
          refine LOps.det (KL rfl (by repeat (first|exact Mh _|apply Mt)) (by exact pt_ld1 _ _ _ _ _ _)) (Nb rfl) ?_
          refine KA (KT (Det.nea (by kernel_rfl) (fun w=>eq_nat y1.val y2.val (Nat.lt_trans y1.isLt hpW) (Nat.lt_trans y2.isLt hpW) 10000 (by decide) w) rfl rfl) (show _ = Value.bool true by rw [decide_eq_false (fun e=>hy (Fin.ext e))]; rfl)) (Nb rfl) ?_
          refine KA (KC rfl) (Nb rfl) ?_
          refine Kv rfl rfl rfl (Nb rfl) ?_
          refine Kv rfl rfl rfl (Nb rfl) ?_
          refine Kv rfl rfl rfl (Nb rfl) ?_
          refine Kv rfl rfl rfl (Nb rfl) ?_
          refine KA (Kp rfl rfl) (Nb rfl) ?_
          refine KA (KF rfl) (Nb rfl) ?_
          refine KG ?_
          refine Kw rfl ?_
          refine KD (KB ?_)
          refine KA (KT (KAQ pl_35 zr_35 rfl fill_ptInf) rfl) (Nb rfl) ?_
          refine KI rfl (KQ rfl rfl sz_35 (by repeat (first|exact Kl _|exact Kz _ _ _|exact Km _|exact Kn _ _ _|exact KAA _ _ _|exact KY|refine KW rfl ?_|refine KZ ?_ ?_)) (by repeat (first|exact Sh _|apply St_)) (by first|exact KH _|exact KN _ _ _|exact KJ _|exact KV _ _ _|exact Ki _ _ _|rfl|simp [KN,KH,KJ]) ?_)
          refine KG (KX ?_)
          refine ⟨[_],.cons ⟨_,_,_,rfl,(by repeat (first|exact Mh _|apply Mt)),by exact KO Try.underlying35 rfl sz_35⟩ .nil,fun a w' hr=>⟨?_,hr.fr.below⟩⟩
          rfl
      ·
        refine KB ?_
        refine KA (KM (o':=0) Try.underlying35 rfl rfl rfl sz_33 (by decide)) (Nb rfl) ?_
        refine LOps.det (KL rfl (by repeat (first|exact Mh _|apply Mt)) (by exact KAR Try.underlying33 rfl sz_33 rfl (KH _))) (Nb rfl) ?_
        refine KA (KM (o':=0) Try.underlying35 rfl rfl rfl sz_33 (by decide)) (Nb rfl) ?_
        refine LOps.det (KL rfl (by repeat (first|exact Mh _|apply Mt)) (by exact KAR Try.underlying33 rfl sz_33 rfl (KH _))) (Nb rfl) ?_
        refine KA (KT (Det.nea (by kernel_rfl) (fun w=>eq_nat x1.val x2.val (Nat.lt_trans x1.isLt hpW) (Nat.lt_trans x2.isLt hpW) 10000 (by decide) w) rfl rfl) (show _ = Value.bool true by rw [decide_eq_false (fun e=>hx (Fin.ext e))]; rfl)) (Nb rfl) ?_
        refine KA (KF rfl) (Nb rfl) ?_
        refine KG ?_
        refine Kw rfl ?_
        refine KD ?_
        have eR:=(add_chordF hok.prime hok.fld hP hP2 hx).symm.trans hR
        subst eR
        refine Kg [20] (by kernel_rfl) ?_
        refine LAny.take 0 rfl (by kernel_rfl) (Nb rfl) (KL rfl (by repeat (first|exact Mh _|apply Mt)) (by exact KO Try.underlying148 rfl sz_148)) ?_
        refine KE 1 rfl (by kernel_rfl) (Nb rfl) (KC rfl) ?_
        refine KE 2 rfl (by kernel_rfl) (Nb rfl) (KC rfl) ?_
        refine KE 3 rfl (by kernel_rfl) (Nb rfl) (KM (o':=9) Try.underlying35 rfl rfl rfl sz_33 (by decide)) ?_
        refine LAny.take 4 rfl (by kernel_rfl) (Nb rfl) (KL rfl (by repeat (first|exact Mh _|apply Mt)) (by exact pt_ld1 _ _ _ _ _ _)) ?_
        refine KE 5 rfl (by kernel_rfl) (Nb rfl) (KM (o':=9) Try.underlying35 rfl rfl rfl sz_33 (by decide)) ?_
        refine LAny.take 6 rfl (by kernel_rfl) (Nb rfl) (KL rfl (by repeat (first|exact Mh _|apply Mt)) (by exact pt_ld1 _ _ _ _ _ _)) ?_
        refine KE 8 rfl (by kernel_rfl) (Nb rfl) (KC rfl) ?_
        refine KE 9 rfl (by kernel_rfl) (Nb rfl) (KC rfl) ?_
        refine KE 10 rfl (by kernel_rfl) (Nb rfl) (KM (o':=0) Try.underlying35 rfl rfl rfl sz_33 (by decide)) ?_
        refine LAny.take 11 rfl (by kernel_rfl) (Nb rfl) (KL rfl (by repeat (first|exact Mh _|apply Mt)) (by exact KAR Try.underlying33 rfl sz_33 rfl (KH _))) ?_
        refine KE 12 rfl (by kernel_rfl) (Nb rfl) (KM (o':=0) Try.underlying35 rfl rfl rfl sz_33 (by decide)) ?_
        refine LAny.take 13 rfl (by kernel_rfl) (Nb rfl) (KL rfl (by repeat (first|exact Mh _|apply Mt)) (by exact KAR Try.underlying33 rfl sz_33 rfl (KH _))) ?_
        refine LAny.take 17 rfl (by kernel_rfl) (Nb rfl) (KL rfl (by repeat (first|exact Mh _|apply Mt)) (by exact KO Try.underlying35 rfl sz_35)) ?_
        refine LAny.take 18 rfl (by kernel_rfl) (Nb rfl) (KL rfl (by repeat (first|exact Mh _|apply Mt)) (by exact KO Try.underlying35 rfl sz_35)) ?_
        refine Kt 7 rfl rfl (by kernel_rfl) (KP (first:=[]) rfl en_130 rfl (Nb rfl) (fun w hw=>c_F_Sub V hok f bd _ _ w (hw _ (by repeat (first|exact Mh _|apply Mt)))) ?_)
        refine Kt 14 rfl rfl (by kernel_rfl) (KP (first:=[]) rfl en_130 rfl (Nb rfl) (fun w hw=>c_F_Sub V hok f bd _ _ w (hw _ (by repeat (first|exact Mh _|apply Mt)))) ?_)
        refine Kt 15 rfl rfl (by kernel_rfl) (KP (first:=[]) rfl en_136 rfl (Nb rfl) (fun w hw=>c_F_Inv V hok f bd _ w (hw _ (by repeat (first|exact Mh _|apply Mt)))) ?_)
        refine Kt 16 rfl rfl (by kernel_rfl) (KP (first:=[]) rfl en_120 rfl (Nb rfl) (fun w hw=>c_F_Mul V hok f bd _ _ w (hw _ (by repeat (first|exact Mh _|apply Mt))) (hw _ (by repeat (first|exact Mh _|apply Mt)))) ?_)
        refine Kt 19 rfl rfl (by kernel_rfl) (KP (first:=[]) rfl en_135 rfl (Nb rfl) (fun w hw=>c_slope V b f bd hok ((y2-y1)*finv (x2-x1)) x1 y1 x2 y2 false false w (hw _ (by repeat (first|exact Mh _|apply Mt))) (hw _ (by repeat (first|exact Mh _|apply Mt))) (hw _ (by repeat (first|exact Mh _|apply Mt)))) ?_)
        refine Kr 20 rfl rfl (by kernel_rfl) (by kernel_rfl) (KQ rfl rfl sz_35 (by repeat (first|exact Kl _|exact Kz _ _ _|exact Km _|exact Kn _ _ _|exact KAA _ _ _|exact KY|refine KW rfl ?_|refine KZ ?_ ?_)) (by repeat (first|exact Sh _|apply St_)) (by first|exact KH _|exact KN _ _ _|exact KJ _|exact KV _ _ _|exact Ki _ _ _|rfl|simp [KN,KH,KJ]) ?_)
        refine Ko (by kernel_rfl) ?_
        refine KX ?_
        refine ⟨[_],.cons ⟨_,_,_,rfl,(by repeat (first|exact Mh _|apply Mt)),by exact KO Try.underlying35 rfl sz_35⟩ .nil,fun a w' hr=>⟨?_,hr.fr.below⟩⟩
        rfl
theorem c_do_ok (id:Int) (V:Cv) (P P2 R:Pt V.p) (fid:FuncId) (w:World) (h:cvI id = some V) (hP:On V.A V.B P) (hP2:On V.A V.B P2) (he:KAM Try.prog fid) (hc:∀ b f bd (w:World),(Item.blk b ⟨false,opL V f,129,(0,0)⟩).holds w→(Item.blk f ⟨false,fldL V.p bd,162,(0,0)⟩).holds w→(Item.blk bd ⟨false,dvL V.p,212,(0,0)⟩).holds w→Calls Try.prog fid ([.agg ([.pointer (some ⟨b,0,none⟩)]:List Value).toArray,ptP P,ptP P2]:List Value).toArray w (fun e w'=>e = .returned (ptP R)∧Below w.heap.size w w')):Calls Try.prog 101 ([.int .i64 id,ptP P,ptP P2,.func (.func fid) #[] #[]]:List Value).toArray w (fun e w'=>e = .returned (.tuple #[ptP R,.int .i64 ((0:Nat):Int)])∧Below w.heap.size w w'):=by
  obtain ⟨hok,hid⟩:=cvI_ok h
  have hbb:=hok.bounds
  have hpW:V.p<W9:=w9_521 hbb.2.1
  have hnW:V.n<W9:=w9_521 hbb.2.2.2.2.2.2.1
  have hbl:=blen_w9 hnW
  have hnb:nby V.n≤72:=by (unfold nby; omega)
  refine Ky (N:=35) (rs:=[.cell 8 35,.tmp 9]) [] Try.func101 rfl Try.ntmps101 Try.results101 (Nb rfl) trivial rfl ?_
  show LCode _ _ _ ⟨_,_⟩ _
  refine KD (KB ?_)
  refine KI rfl (KS (KR (KAD rfl) (Nb rfl) (fun b5=>?_)))
  refine KI rfl (KS (KR (KAD rfl) (Nb rfl) (fun b6=>?_)))
  refine KI rfl (KS (KR (Ke zr_35) (Nb rfl) (fun b8=>?_)))
  refine KA (KF (v:=.int .i64 ((0:Nat):Int)) rfl) (Nb rfl) ?_
  refine KG ?_
  refine KD (KB ?_)
  refine KA (KC rfl) (Nb rfl) ?_
  refine KI rfl (KS (Kx (Post:=fun v its=>∃ b f bd,v = .pointer (some ⟨b,0,none⟩)∧its = [.blk b ⟨false,opL V f,129,(0,0)⟩,.blk f ⟨false,fldL V.p bd,162,(0,0)⟩,.blk bd ⟨false,dvL V.p,212,(0,0)⟩]) (first:=[]) rfl en_80 rfl (Nb rfl) (fun w1 hw hs=>(c_Open _ V w1 h).mono fun e w' ⟨b,f,bd,h1,h2,h3,h4,h5,h6,h7,h8⟩=>⟨_,_,⟨b,f,bd,rfl,rfl⟩,h1,Brings.nums h8 (by intro x hx; simp at hx; rcases hx with rfl|rfl|rfl; exact h2; exact h3; exact h4) (by intro x hx; simp at hx; rcases hx with rfl|rfl|rfl <;> rfl) (by intro x hx k hk; simp at hx; rcases hx with rfl|rfl|rfl <;> simp [Item.fp] at hk <;> subst hk; exact .inl h5; exact .inl h6; exact .inl h7)⟩) ?_))
  rintro _ _ ⟨b,f,bd,rfl,rfl⟩
  refine KA (KF rfl) (Nb rfl) ?_
  refine KG ?_
  refine KD ?_
  refine LCode.block ?_
  refine KD (KB ?_)
  refine KA (KC rfl) (Nb rfl) ?_
  refine KA (KT (Det.eqp Try.underlying110 rfl rfl) (show _ = Value.bool false from rfl)) (Nb rfl) ?_
  refine KA (KF rfl) (Nb rfl) ?_
  refine KG ?_
  refine Kd rfl ?_
  refine KD (KB ?_)
  refine KA (KC rfl) (Nb rfl) ?_
  refine LOps.det (KL rfl (by repeat (first|exact Mh _|apply Mt)) (by exact KO Try.underlying35 rfl sz_35)) (Nb rfl) ?_
  refine KI rfl (KS (KP (first:=[]) rfl en_81 rfl (Nb rfl) (fun w hw=>c_cOnP V b f bd hok (P) w (hw _ (by repeat (first|exact Mh _|apply Mt))) (hw _ (by repeat (first|exact Mh _|apply Mt))) (hw _ (by repeat (first|exact Mh _|apply Mt))) hP) ?_))
  refine KA (KT (Det.not rfl) (show _ = Value.bool false from rfl)) (Nb rfl) ?_
  refine KA (KC rfl) (Nb rfl) ?_
  refine KU rfl rfl (KC rfl) (Nb rfl) ?_
  refine KAi rfl rfl (KL rfl (by repeat (first|exact Mh _|apply Mt)) (by exact KO Try.underlying35 rfl sz_35)) (Nb rfl) ?_
  refine KAS rfl rfl rfl (KS (KP (first:=[]) rfl en_81 rfl (Nb rfl) (fun w hw=>c_cOnP V b f bd hok (P2) w (hw _ (by repeat (first|exact Mh _|apply Mt))) (hw _ (by repeat (first|exact Mh _|apply Mt))) (hw _ (by repeat (first|exact Mh _|apply Mt))) hP2) ?_))
  refine KU rfl rfl (KT (Det.not rfl) (show _ = Value.bool false from rfl)) (Nb rfl) ?_
  refine KA (KAC rfl rfl) (Nb rfl) ?_
  refine KA (KF rfl) (Nb rfl) ?_
  refine KG ?_
  refine Kd rfl ?_
  refine Kf ?_
  refine KD (KB ?_)
  refine KA (KC rfl) (Nb rfl) ?_
  refine KA (KC rfl) (Nb rfl) ?_
  refine KA (KT (KAQ pl_148 zr_148 rfl rfl) (show _ = Value.agg ([.pointer (some ⟨b,0,none⟩)]:List Value).toArray from rfl)) (Nb rfl) ?_
  refine LOps.det (KL rfl (by repeat (first|exact Mh _|apply Mt)) (by exact KO Try.underlying35 rfl sz_35)) (Nb rfl) ?_
  refine LOps.det (KL rfl (by repeat (first|exact Mh _|apply Mt)) (by exact KO Try.underlying35 rfl sz_35)) (Nb rfl) ?_
  refine KI rfl (KS (KP (first:=[]) rfl he rfl (Nb rfl) (fun w hw=>hc b f bd w (hw _ (by repeat (first|exact Mh _|apply Mt))) (hw _ (by repeat (first|exact Mh _|apply Mt))) (hw _ (by repeat (first|exact Mh _|apply Mt)))) ?_))
  refine KI rfl (KQ rfl rfl sz_35 (by repeat (first|exact Kl _|exact Kz _ _ _|exact Km _|exact Kn _ _ _|exact KAA _ _ _|exact KY|refine KW rfl ?_|refine KZ ?_ ?_)) (by repeat (first|exact Sh _|apply St_)) (by first|exact KH _|exact KN _ _ _|exact KJ _|exact KV _ _ _|exact Ki _ _ _|rfl|simp [KN,KH,KJ]) ?_)
  refine KA (KF (v:=.int .i64 ((0:Nat):Int)) rfl) (Nb rfl) ?_
  refine KG (KX ?_)
  refine ⟨[_,_],.cons ⟨_,_,_,rfl,(by repeat (first|exact Mh _|apply Mt)),by exact KO Try.underlying35 rfl sz_35⟩ (.cons rfl .nil),fun a w' hr=>⟨?_,hr.fr.below⟩⟩
  rfl
theorem c_affAdd (id:Int) (V:Cv) (P P2 R:Pt V.p) (w:World) (h:cvI id = some V) (hP:On V.A V.B P) (hP2:On V.A V.B P2) (hR:padd V.A P P2 = R):Calls Try.prog 62 ([.int .i64 id,ptP P,ptP P2]:List Value).toArray w (fun e w'=>e = .returned (.tuple #[ptP R,.int .i64 ((0:Nat):Int)])∧Below w.heap.size w w'):=by
  obtain ⟨hok,hid⟩:=cvI_ok h
  refine Ky (N:=14) (rs:=[.cell 6 35,.tmp 7]) [] Try.func62 rfl Try.ntmps62 Try.results62 (Nb rfl) trivial rfl ?_
  show LCode _ _ _ ⟨_,_⟩ _
  refine KD (KB ?_)
  refine KI rfl (KS (KR (KAD rfl) (Nb rfl) (fun b4=>?_)))
  refine KI rfl (KS (KR (KAD rfl) (Nb rfl) (fun b5=>?_)))
  refine KI rfl (KS (KR (Ke zr_35) (Nb rfl) (fun b6=>?_)))
  refine KA (KF (v:=.int .i64 ((0:Nat):Int)) rfl) (Nb rfl) ?_
  refine KG ?_
  refine KD (KB ?_)
  refine KA (KC rfl) (Nb rfl) ?_
  refine LOps.det (KL rfl (by repeat (first|exact Mh _|apply Mt)) (by exact KO Try.underlying35 rfl sz_35)) (Nb rfl) ?_
  refine LOps.det (KL rfl (by repeat (first|exact Mh _|apply Mt)) (by exact KO Try.underlying35 rfl sz_35)) (Nb rfl) ?_
  refine KI rfl (KS (KP (first:=[]) rfl en_101 rfl (Nb rfl) (fun w hw=>c_do_ok id V P P2 R 102 w h hP hP2 en_102 (fun b f bd w h1 h2 h3=>c_gadd V b f bd hok P P2 R w h1 h2 h3 hP hP2 hR)) ?_))
  refine KA (Ka rfl rfl) (Nb rfl) ?_
  refine KA (Ka rfl rfl) (Nb rfl) ?_
  refine KI rfl (KQ rfl rfl sz_35 (by repeat (first|exact Kl _|exact Kz _ _ _|exact Km _|exact Kn _ _ _|exact KAA _ _ _|exact KY|refine KW rfl ?_|refine KZ ?_ ?_)) (by repeat (first|exact Sh _|apply St_)) (by first|exact KH _|exact KN _ _ _|exact KJ _|exact KV _ _ _|exact Ki _ _ _|rfl|simp [KN,KH,KJ]) ?_)
  refine KA (KF rfl) (Nb rfl) ?_
  refine KG (KX ?_)
  refine ⟨[_,_],.cons ⟨_,_,_,rfl,(by repeat (first|exact Mh _|apply Mt)),by exact KO Try.underlying35 rfl sz_35⟩ (.cons rfl .nil),fun a w' hr=>⟨?_,hr.fr.below⟩⟩
  rfl
end Go.Proofs.Ytlmiolnccgjjjaa
set_option linter.unusedVariables false
set_option linter.unusedSimpArgs false
set_option maxRecDepth 20000
namespace Go.Proofs.Ytlmiolnccgjjjaa
open Go Go.RowKit
open Grp
def ptPL {p:Nat} (P:Pt p):List Value:=ptL (xv P) (yv P) (iv P)
theorem ptPL_length {p:Nat} (P:Pt p):(ptPL P).length = 19:=KV _ _ _
theorem ptPL_one {p:Nat} (P:Pt p):AllOne (ptPL P):=Kn _ _ _
def tabL {p:Nat} (E:Nat→Pt p):Nat→List Value
  | 0=>[]
  | n+1=>tabL E n++ptPL (E n)
theorem tabL_length {p:Nat} (E:Nat→Pt p):∀ n,(tabL E n).length = n*19
  | 0=>rfl
  | n+1=>by show (tabL E n++ptPL (E n)).length = _; rw [List.length_append,tabL_length E n,ptPL_length]; omega
theorem tabL_at {p:Nat} (E:Nat→Pt p) {k:Nat}:∀ {n},k<n→∃ post,tabL E n = tabL E k++(ptPL (E k)++post)
  | 0,h=>by omega
  | n+1,h=>by
    by_cases e:k = n
    · subst e; exact ⟨[],by rw [List.append_nil]; rfl⟩
    · obtain ⟨post,hp⟩:=tabL_at E (show k<n by omega)
      exact ⟨post++ptPL (E n),by show tabL E n++ptPL (E n) = _; rw [hp]; simp only [List.append_assoc]⟩
theorem tab_load {p:Nat} {wr:Bool} {e:TypeId} {fz:Nat×Nat} (E:Nat→Pt p) {k n:Nat} (h:k<n) (rest:List Value):LoadV Try.prog 35 ⟨wr,tabL E n++rest,e,fz⟩ (0+k*19) (ptP (E k)):=by
  obtain ⟨post,hp⟩:=tabL_at E h
  exact LoadV.mid (pre:=tabL E k) (cs:=ptPL (E k)) (post:=post++rest) Try.underlying35 rfl sz_35 (by show tabL E n++rest = _; rw [hp]; simp only [List.append_assoc]) (by rw [tabL_length]; omega) (ptPL_length _)
theorem inf_pt:infOf Try.prog 35 = some (.agg (vec .u64 9 (fun _=>0)++(vec .u64 9 (fun _=>0)++[Value.bool false]):List Value).toArray,19,152):=by kernel_rfl
theorem fill_ptR {p:Nat} (P:Pt p):fillL ((List.range 1).map fun i=>(i*19,19)) (vec .u64 9 (fun _=>0)++(vec .u64 9 (fun _=>0)++[Value.bool false])) [(0,.agg (ptPL P).toArray)] = some (ptPL P):=fillL_whole (by simp [KN]) (ptPL_length P)
theorem row_pt:((Array.range (1*19)).map fun i=>(Value.agg (vec .u64 9 (fun _=>0)++(vec .u64 9 (fun _=>0)++[Value.bool false]):List Value).toArray).cells[i%(Value.agg (vec .u64 9 (fun _=>0)++(vec .u64 9 (fun _=>0)++[Value.bool false]):List Value).toArray).cells.size]!) = (vec .u64 9 (fun _=>0)++(vec .u64 9 (fun _=>0)++[Value.bool false]):List Value).toArray:=by kernel_rfl
noncomputable abbrev mulE (V:Cv) (P:Pt V.p):Nat→Pt V.p:=fun j=>pmul V.A P j
structure TabS (p:Nat) where
  k:Nat
  T:Fin p×Fin p×Fin p
  br:Nat
  cap:Nat
  rest:List Value
theorem Brings.two {w w':World} {b c:Nat} {B D:Blk} (hb:Below w.heap.size w w') (h1:(Item.blk b B).holds w') (h2:(Item.blk c D).holds w') (n1:w.heap.size≤b) (n2:w.heap.size≤c) (hne:c≠b):Brings w [] [.blk b B,.blk c D] w':=by
  have key:∀ x,x∈[Item.blk b B,.blk c D]→∀ k,k∈x.fp→w.heap.size≤k:=fun x hx k hk=>by
    rcases List.mem_cons.1 hx with rfl|hx
    · obtain rfl:k = b:=by simpa [Item.fp] using hk
      exact n1
    · obtain rfl:x = _:=by simpa using hx
      obtain rfl:k = c:=by simpa [Item.fp] using hk
      exact n2
  refine ⟨hb,fun x hx=>?_,fun x hx k hk=>.inl (key x hx k hk),fun x hx _=>key x hx,List.pairwise_cons.2 ⟨fun y hy _ k hk hk'=>?_,List.pairwise_singleton _ _⟩⟩
  · rcases List.mem_cons.1 hx with rfl|hx
    · exact h1
    · obtain rfl:x = _:=by simpa using hx
      exact h2
  · obtain rfl:y = _:=by simpa using hy
    obtain rfl:k = b:=by simpa [Item.fp] using hk
    exact hne (by simpa [Item.fp] using hk':k = c).symm
theorem bringsC {P:Program} {f:FuncId} {a:Array Value} {w:World} {Q:Value→List Item→Prop} (h:Calls P f a w (fun e w'=>∃ v its,Q v its∧e = .returned v∧Brings w [] its w')) (H:List Item):Calls P f a w (fun e w'=>∃ v its,Q v its∧e = .returned v∧Brings w H its w') :=
  h.mono fun e w' ⟨v,its,h1,h2,h3⟩=>⟨v,its,h1,h2,h3.more (fun x hx=>by cases hx)⟩
theorem c_tabOf (V:Cv) (b f bd:Nat) (hok:V.Ok) (P:Pt V.p) (hP:On V.A V.B P) (n:Nat) (hn0:1≤n) (hn:n≤16) (w:World) (hb:(Item.blk b ⟨false,opL V f,129,(0,0)⟩).holds w) (hf:(Item.blk f ⟨false,fldL V.p bd,162,(0,0)⟩).holds w) (hbd:(Item.blk bd ⟨false,dvL V.p,212,(0,0)⟩).holds w):Calls Try.prog 82 ([.pointer (some ⟨b,0,none⟩),ptP P,.int .i64 ((n:Nat):Int)]:List Value).toArray w (fun e w'=>∃ v its,(fun v its=>∃ bt br cap rest,v = .pointer (some ⟨bt,0,none⟩)∧its = [.blk bt ⟨true,[.slice (some ⟨br,0,none⟩) n cap],116,(0,0)⟩,.blk br ⟨true,tabL (mulE V P) n++rest,35,(0,0)⟩]) v its∧e = .returned v∧Brings w [] its w'):=by
  refine Ky (N:=36) (rs:=[.tmp 6]) [.blk b ⟨false,opL V f,129,(0,0)⟩,.blk f ⟨false,fldL V.p bd,162,(0,0)⟩,.blk bd ⟨false,dvL V.p,212,(0,0)⟩] Try.func82 rfl Try.ntmps82 Try.results82 (Nb rfl) ⟨hb,hf,hbd,trivial⟩ rfl ?_
  show LCode _ _ _ ⟨_,_⟩ _
  refine KD (KB ?_)
  refine KI rfl (KS (KR (KAD rfl) (Nb rfl) (fun b4=>?_)))
  refine KA (KF rfl) (Nb rfl) ?_
  refine KG ?_
  refine KD (KB ?_)
  refine KA (KAQ pl_116 zr_116 rfl rfl) (Nb rfl) ?_
  refine KI rfl (KS (KR (KAD rfl) (Nb rfl) (fun b11=>?_)))
  refine KA (KF rfl) (Nb rfl) ?_
  refine KG ?_
  refine KD (KB ?_)
  refine LOps.det (KL rfl (by repeat (first|exact Mh _|apply Mt)) (by exact KO Try.underlying35 rfl sz_35)) (Nb rfl) ?_
  refine KI rfl (KS (KP (first:=[]) rfl en_122 rfl (Nb rfl) (fun w hw=>c_Triple V hok P w) ?_))
  refine KI rfl (KS (KP (first:=[]) rfl en_123 rfl (Nb rfl) (fun w hw=>c_NoneF hok w) ?_))
  refine KI rfl (KS (KR (Ke zr_172) (Nb rfl) (fun b8=>?_)))
  refine KI rfl (KS (KR (Ke zr_172) (Nb rfl) (fun b9=>?_)))
  refine KI rfl (KQ rfl rfl sz_172 (by exact pjFL_one _) (by repeat (first|exact Sh _|apply St_)) (by exact pjFL_length _) ?_)
  refine KI rfl (KQ rfl rfl sz_172 (by exact pjFL_one _) (by repeat (first|exact Sh _|apply St_)) (by exact pjFL_length _) ?_)
  refine KG ?_
  refine KD ?_
  refine KD (KB ?_)
  refine KA (KC rfl) (Nb rfl) ?_
  refine KA (KC (v:=.int .i64 ((0:Nat):Int)) rfl) (Nb rfl) ?_
  refine KG ?_
  refine LCode.block ?_
  refine KAN (α:=Option (TabS V.p)) (fun x=>match x with|none=>True|some y=>1≤y.k∧y.k≤n∧RepT V y.T (pmul V.A P y.k)∧(tabL (mulE V P) y.k).length+y.rest.length = y.cap*19) (fun x=>match x with|none=>⟨[(0,.pointer (some ⟨b,0,none⟩)),(7,.pointer (some ⟨b11,0,none⟩)),(8,.pointer (some ⟨b8,0,none⟩)),(9,.pointer (some ⟨b9,0,none⟩)),(15,.int .i64 ((n:Nat):Int)),(16,.int .i64 ((0:Nat):Int))],[.blk b11 ⟨true,[.slice none 0 0],116,(0,0)⟩,.blk b9 ⟨true,pjFL (tripF (.inf:Pt V.p)),172,(0,0)⟩,.blk b8 ⟨true,pjFL (tripF P),172,(0,0)⟩,.blk b ⟨false,opL V f,129,(0,0)⟩,.blk f ⟨false,fldL V.p bd,162,(0,0)⟩,.blk bd ⟨false,dvL V.p,212,(0,0)⟩]⟩|some y=>⟨[(0,.pointer (some ⟨b,0,none⟩)),(7,.pointer (some ⟨b11,0,none⟩)),(8,.pointer (some ⟨b8,0,none⟩)),(9,.pointer (some ⟨b9,0,none⟩)),(15,.int .i64 ((n:Nat):Int)),(16,.int .i64 ((y.k:Nat):Int))],[.blk b11 ⟨true,[.slice (some ⟨y.br,0,none⟩) y.k y.cap],116,(0,0)⟩,.blk y.br ⟨true,tabL (mulE V P) y.k++y.rest,35,(0,0)⟩,.blk b9 ⟨true,pjFL y.T,172,(0,0)⟩,.blk b8 ⟨true,pjFL (tripF P),172,(0,0)⟩,.blk b ⟨false,opL V f,129,(0,0)⟩,.blk f ⟨false,fldL V.p bd,162,(0,0)⟩,.blk bd ⟨false,dvL V.p,212,(0,0)⟩]⟩) (fun x=>match x with|none=>n+1|some y=>n-y.k) (none) (trivial) (KAG ⟨rfl,rfl,rfl,rfl,rfl,rfl,trivial⟩ (by repeat (first|exact Sel.nil _|refine Sel.cons (by repeat (first|exact Ph _|apply Pt_)) ?_))) ?_
  intro x hx
  refine KD ?_
  rcases x with _|⟨k,T,br,cap,rest⟩
  ·
    refine KB ?_
    refine KA (KK (v:=.bool true) rfl rfl (br_t KAp (by omega))) (Nb rfl) ?_
    refine KG ?_
    refine KD ?_
    refine Kw rfl ?_
    refine Kf ?_
    refine KD ?_
    refine LCode.block ?_
    refine KD ?_
    refine Kg [9,12] (by kernel_rfl) ?_
    refine KE 0 rfl (by kernel_rfl) (Nb rfl) (KC rfl) ?_
    refine KE 1 rfl (by kernel_rfl) (Nb rfl) (KC rfl) ?_
    refine KE 2 rfl (by kernel_rfl) (Nb rfl) (Kc rfl) ?_
    refine KE 3 rfl (by kernel_rfl) (Nb rfl) (KM (o':=0) Try.underlying116 rfl rfl rfl sz_114 (by decide)) ?_
    refine LAny.take 4 rfl (by kernel_rfl) (Nb rfl) (KL rfl (by repeat (first|exact Mh _|apply Mt)) (Kb Try.underlying114 rfl (by first|rfl|exact Ku _ _ _ (by omega)|exact Ks _ (by omega)|exact Kq _ (by omega)|exact dv_m _ _ _ (by omega)))) ?_
    refine KE 5 rfl (by kernel_rfl) (Nb rfl) (KC rfl) ?_
    refine Kt 6 rfl rfl (by kernel_rfl) (LStep.det (KL rfl (by repeat (first|exact Mh _|apply Mt)) (by exact KO Try.underlying172 rfl sz_172)) (Nb rfl) ?_)
    refine Kt 7 rfl rfl (by kernel_rfl) (KP (first:=[]) rfl en_124 rfl (Nb rfl) (fun w hw=>c_PlainT V b f bd hok (tripF (.inf:Pt V.p)) (mulE V P 0) w (hw _ (by repeat (first|exact Mh _|apply Mt))) (hw _ (by repeat (first|exact Mh _|apply Mt))) (hw _ (by repeat (first|exact Mh _|apply Mt))) (RepT.trip hok trivial)) ?_)
    refine Kt 8 rfl rfl (by kernel_rfl) (KR (Makes.row (vs:=[(0,.agg (ptPL (mulE V P 0)).toArray)]) Try.underlying114 inf_pt (by decide) row_pt rfl (fill_ptR (mulE V P 0)) (fun h=>by cases h)) (Nb rfl) (fun b26=>?_))
    refine Kr 9 rfl rfl (by kernel_rfl) (by kernel_rfl) (LStepW.appendNilS (s:=19) (news:=ptPL (mulE V P 0)) rfl rfl Try.underlying114 inf_pt rfl (by repeat (first|exact Mh _|apply Mt)) (ptPL_length _) (by decide) (by decide) (by decide) (Nb rfl) ?_)
    intro b1 cap1 rest1 hc1
    refine KE 10 rfl (by kernel_rfl) (Nb rfl) (Kc rfl) ?_
    refine KE 11 rfl (by kernel_rfl) (Nb rfl) (KM (o':=0) Try.underlying116 rfl rfl rfl sz_114 (by decide)) ?_
    refine Kr 12 rfl rfl (by kernel_rfl) (by kernel_rfl) (KAB rfl rfl rfl sz_114 (by repeat (first|exact Sh _|apply St_)) (by first|(simp only [KN,KH,KJ,KAK]; omega)|(simp; done)|(simp; omega)) (by first|exact KAY _ _ _ _ _|exact KAa _ _ _ _ (by omega)|exact KAZ _ _ _ _|rfl) (by simp) ?_)
    refine Ko (by kernel_rfl) ?_
    refine KB ?_
    refine KA (KC rfl) (Nb rfl) ?_
    refine LOps.det (KL rfl (by repeat (first|exact Mh _|apply Mt)) (by exact KO Try.underlying172 rfl sz_172)) (Nb rfl) ?_
    refine LOps.det (KL rfl (by repeat (first|exact Mh _|apply Mt)) (by exact KO Try.underlying172 rfl sz_172)) (Nb rfl) ?_
    refine KI rfl (KS (KP (first:=[]) rfl en_125 rfl (Nb rfl) (fun w hw=>c_SumT V b f bd hok (tripF (.inf:Pt V.p)) (tripF P) w (hw _ (by repeat (first|exact Mh _|apply Mt))) (hw _ (by repeat (first|exact Mh _|apply Mt))) (hw _ (by repeat (first|exact Mh _|apply Mt)))) ?_))
    refine KI rfl (KQ rfl rfl sz_172 (by exact pjFL_one _) (by repeat (first|exact Sh _|apply St_)) (by exact pjFL_length _) ?_)
    refine KG ?_
    refine KB ?_
    refine KA (KK rfl rfl (KAL (b:=1) (by omega))) (Nb rfl) ?_
    refine KA (KC rfl) (Nb rfl) ?_
    refine KG ?_
    exact ⟨some ⟨0+1,sumT V (tripF (.inf:Pt V.p)) (tripF P),b1,cap1,rest1⟩,⟨Nat.le_add_left _ _,by show 0+1≤n; omega,RepT.sum hok (RepT.trip hok trivial) (RepT.trip hok hP),by rw [ptPL_length] at hc1; show (tabL (mulE V P) (0+1)).length+rest1.length = cap1*19; rw [tabL_length]; omega⟩,by show n-(0+1)<n+1; omega,KAh (Sub.cells (b:=b1) (cs':=tabL (mulE V P) (0+1)++rest1) (by repeat (first|exact Sh _|apply St_)) (by rfl)) (KAG ⟨rfl,rfl,rfl,rfl,rfl,rfl,trivial⟩ (by repeat (first|exact Sel.nil _|refine Sel.cons (by repeat (first|exact Ph _|apply Pt_)) ?_)))⟩
  ·
    obtain ⟨hk1,hkn,hT,hcap⟩:=hx
    dsimp only at hk1 hkn hT hcap
    refine KB ?_
    refine KA (KK rfl rfl (KAp)) (Nb rfl) ?_
    refine KG ?_
    refine KD ?_
    first|refine Kh rfl (fun h17=>?_) (fun h17=>?_)|refine Kj rfl (fun h17=>?_) (fun h17=>?_)
    ·
      have h17:k<n:=h17
      refine Kf ?_
      refine KD ?_
      refine LCode.block ?_
      refine KD ?_
      refine Kg [9,12] (by kernel_rfl) ?_
      refine KE 0 rfl (by kernel_rfl) (Nb rfl) (KC rfl) ?_
      refine KE 1 rfl (by kernel_rfl) (Nb rfl) (KC rfl) ?_
      refine KE 2 rfl (by kernel_rfl) (Nb rfl) (Kc rfl) ?_
      refine KE 3 rfl (by kernel_rfl) (Nb rfl) (KM (o':=0) Try.underlying116 rfl rfl rfl sz_114 (by decide)) ?_
      refine LAny.take 4 rfl (by kernel_rfl) (Nb rfl) (KL rfl (by repeat (first|exact Mh _|apply Mt)) (Kb Try.underlying114 rfl (by first|rfl|exact Ku _ _ _ (by omega)|exact Ks _ (by omega)|exact Kq _ (by omega)|exact dv_m _ _ _ (by omega)))) ?_
      refine KE 5 rfl (by kernel_rfl) (Nb rfl) (KC rfl) ?_
      refine Kt 6 rfl rfl (by kernel_rfl) (LStep.det (KL rfl (by repeat (first|exact Mh _|apply Mt)) (by exact KO Try.underlying172 rfl sz_172)) (Nb rfl) ?_)
      refine Kt 7 rfl rfl (by kernel_rfl) (KP (first:=[]) rfl en_124 rfl (Nb rfl) (fun w hw=>c_PlainT V b f bd hok (T) (mulE V P k) w (hw _ (by repeat (first|exact Mh _|apply Mt))) (hw _ (by repeat (first|exact Mh _|apply Mt))) (hw _ (by repeat (first|exact Mh _|apply Mt))) (hT)) ?_)
      refine Kt 8 rfl rfl (by kernel_rfl) (KR (Makes.row (vs:=[(0,.agg (ptPL (mulE V P k)).toArray)]) Try.underlying114 inf_pt (by decide) row_pt rfl (fill_ptR (mulE V P k)) (fun h=>by cases h)) (Nb rfl) (fun b26=>?_))
      refine Kr 9 rfl rfl (by kernel_rfl) (by kernel_rfl) (LStepW.appendS (s:=19) (m:=1) (xs:=tabL (mulE V P) k) (rest:=rest) (news:=ptPL (mulE V P k)) rfl rfl Try.underlying114 inf_pt rfl (by repeat (first|exact Pick.head _|apply Pick.tail)) (by repeat (first|exact Mh _|apply Mt)) (tabL_length _ _) hcap (ptPL_length _) (ptPL_one _) (by omega) (by omega) (Nb rfl) ?_)
      intro b1 cap1 rest1 hc1
      refine KE 10 rfl (by kernel_rfl) (Nb rfl) (Kc rfl) ?_
      refine KE 11 rfl (by kernel_rfl) (Nb rfl) (KM (o':=0) Try.underlying116 rfl rfl rfl sz_114 (by decide)) ?_
      refine Kr 12 rfl rfl (by kernel_rfl) (by kernel_rfl) (KAB rfl rfl rfl sz_114 (by repeat (first|exact Sh _|apply St_)) (by first|(simp only [KN,KH,KJ,KAK]; omega)|(simp; done)|(simp; omega)) (by first|exact KAY _ _ _ _ _|exact KAa _ _ _ _ (by omega)|exact KAZ _ _ _ _|rfl) (by simp) ?_)
      refine Ko (by kernel_rfl) ?_
      refine KB ?_
      refine KA (KC rfl) (Nb rfl) ?_
      refine LOps.det (KL rfl (by repeat (first|exact Mh _|apply Mt)) (by exact KO Try.underlying172 rfl sz_172)) (Nb rfl) ?_
      refine LOps.det (KL rfl (by repeat (first|exact Mh _|apply Mt)) (by exact KO Try.underlying172 rfl sz_172)) (Nb rfl) ?_
      refine KI rfl (KS (KP (first:=[]) rfl en_125 rfl (Nb rfl) (fun w hw=>c_SumT V b f bd hok (T) (tripF P) w (hw _ (by repeat (first|exact Mh _|apply Mt))) (hw _ (by repeat (first|exact Mh _|apply Mt))) (hw _ (by repeat (first|exact Mh _|apply Mt)))) ?_))
      refine KI rfl (KQ rfl rfl sz_172 (by exact pjFL_one _) (by repeat (first|exact Sh _|apply St_)) (by exact pjFL_length _) ?_)
      refine KG ?_
      refine KB ?_
      refine KA (KK rfl rfl (KAL (b:=1) (by omega))) (Nb rfl) ?_
      refine KA (KC rfl) (Nb rfl) ?_
      refine KG ?_
      exact ⟨some ⟨k+1,sumT V T (tripF P),b1,cap1,rest1⟩,⟨Nat.le_add_left _ _,by show k+1≤n; omega,RepT.sum hok hT (RepT.trip hok hP),by rw [tabL_length,ptPL_length] at hc1; show (tabL (mulE V P) (k+1)).length+rest1.length = cap1*19; rw [tabL_length]; omega⟩,by show n-(k+1)<n-k; omega,KAh (Sub.cells (b:=b1) (cs':=tabL (mulE V P) (k+1)++rest1) (by repeat (first|exact Sh _|apply St_)) (by rfl)) (KAG ⟨rfl,rfl,rfl,rfl,rfl,rfl,trivial⟩ (by repeat (first|exact Sel.nil _|refine Sel.cons (by repeat (first|exact Ph _|apply Pt_)) ?_)))⟩
    ·
      have h17:¬ k<n:=h17
      refine KAH ?_
      refine KD (KB ?_)
      refine KA (KC rfl) (Nb rfl) ?_
      refine KA (KF rfl) (Nb rfl) ?_
      refine KG (KX ?_)
      obtain rfl:k = n:=by omega
      exact ⟨[_],.cons rfl .nil,fun a w' hr=>⟨_,_,⟨b11,br,cap,rest,rfl,rfl⟩,rfl,Brings.two hr.fr.below (hr.hp (.blk b11 ⟨true,_,_,_⟩) (by repeat (first|exact Mh _|apply Mt))) (hr.hp (.blk br ⟨true,_,_,_⟩) (by repeat (first|exact Mh _|apply Mt))) (hr.new (b:=b11) (B:=⟨true,_,_,_⟩) (by repeat (first|exact Mh _|apply Mt)) rfl) (hr.new (b:=br) (B:=⟨true,_,_,_⟩) (by repeat (first|exact Mh _|apply Mt)) rfl) (apart_two hr.dist (b:=b11) (B:=⟨true,_,116,_⟩) (c:=br) (D:=⟨true,_,35,_⟩) (by repeat (first|exact Mh _|apply Mt)) (by repeat (first|exact Mh _|apply Mt)) rfl (fun e=>absurd (show (116:Nat) = 35 from e) (by decide)))⟩⟩
theorem c_tabNew_size (id:Int) (V:Cv) (P:Pt V.p) (n:Int) (w:World) (h:cvI id = some V) (hP:On V.A V.B P) (hn:n<1∨16<n):Calls Try.prog 32 ([.int .i64 id,ptP P,.int .i64 n]:List Value).toArray w (fun e w'=>e = .returned (.tuple #[.pointer none,.int .i64 ((1602:Nat):Int)])∧Below w.heap.size w w'):=by
  obtain ⟨hok,hid⟩:=cvI_ok h
  have hbb:=hok.bounds
  have hpW:V.p<W9:=w9_521 hbb.2.1
  have hnW:V.n<W9:=w9_521 hbb.2.2.2.2.2.2.1
  have hbl:=blen_w9 hnW
  have hnb:nby V.n≤72:=by (unfold nby; omega)
  refine Ky (N:=30) (rs:=[.tmp 6,.tmp 7]) [] Try.func32 rfl Try.ntmps32 Try.results32 (Nb rfl) trivial rfl ?_
  show LCode _ _ _ ⟨_,_⟩ _
  refine KD (KB ?_)
  refine KI rfl (KS (KR (KAD rfl) (Nb rfl) (fun b4=>?_)))
  refine KA (KF rfl) (Nb rfl) ?_
  refine KA (KF (v:=.int .i64 ((0:Nat):Int)) rfl) (Nb rfl) ?_
  refine KG ?_
  refine KD (KB ?_)
  refine KA (KC rfl) (Nb rfl) ?_
  refine KI rfl (KS (Kx (Post:=fun v its=>∃ b f bd,v = .pointer (some ⟨b,0,none⟩)∧its = [.blk b ⟨false,opL V f,129,(0,0)⟩,.blk f ⟨false,fldL V.p bd,162,(0,0)⟩,.blk bd ⟨false,dvL V.p,212,(0,0)⟩]) (first:=[]) rfl en_80 rfl (Nb rfl) (fun w1 hw hs=>(c_Open _ V w1 h).mono fun e w' ⟨b,f,bd,h1,h2,h3,h4,h5,h6,h7,h8⟩=>⟨_,_,⟨b,f,bd,rfl,rfl⟩,h1,Brings.nums h8 (by intro x hx; simp at hx; rcases hx with rfl|rfl|rfl; exact h2; exact h3; exact h4) (by intro x hx; simp at hx; rcases hx with rfl|rfl|rfl <;> rfl) (by intro x hx k hk; simp at hx; rcases hx with rfl|rfl|rfl <;> simp [Item.fp] at hk <;> subst hk; exact .inl h5; exact .inl h6; exact .inl h7)⟩) ?_))
  rintro _ _ ⟨b,f,bd,rfl,rfl⟩
  refine KA (KF rfl) (Nb rfl) ?_
  refine KG ?_
  refine KD ?_
  refine LCode.block ?_
  refine KD (KB ?_)
  refine KA (KC rfl) (Nb rfl) ?_
  refine KA (KT (Det.eqp Try.underlying110 rfl rfl) (show _ = Value.bool false from rfl)) (Nb rfl) ?_
  refine KA (KF rfl) (Nb rfl) ?_
  refine KG ?_
  refine Kd rfl ?_
  refine KD (KB ?_)
  refine KA (KC rfl) (Nb rfl) ?_
  refine LOps.det (KL rfl (by repeat (first|exact Mh _|apply Mt)) (by exact KO Try.underlying35 rfl sz_35)) (Nb rfl) ?_
  refine KI rfl (KS (KP (first:=[]) rfl en_81 rfl (Nb rfl) (fun w hw=>c_cOnP V b f bd hok (P) w (hw _ (by repeat (first|exact Mh _|apply Mt))) (hw _ (by repeat (first|exact Mh _|apply Mt))) (hw _ (by repeat (first|exact Mh _|apply Mt))) hP) ?_))
  refine KA (KT (Det.not rfl) (show _ = Value.bool false from rfl)) (Nb rfl) ?_
  refine KA (KF rfl) (Nb rfl) ?_
  refine KG ?_
  refine Kd rfl ?_
  refine KD ?_
  rcases (show n<1∨(1≤n∧16<n) by omega) with h1|⟨h1,h2⟩
  ·
    refine KB ?_
    refine KA (KC rfl) (Nb rfl) ?_
    refine KA (KK (v:=.bool true) rfl rfl (by simp [KAP]; omega)) (Nb rfl) ?_
    refine KA (KC rfl) (Nb rfl) ?_
    refine Kv rfl rfl rfl (Nb rfl) ?_
    refine Kv rfl rfl rfl (Nb rfl) ?_
    refine KA (Kp rfl rfl) (Nb rfl) ?_
    refine KA (KF rfl) (Nb rfl) ?_
    refine KG ?_
    refine Kw rfl ?_
    refine KD (KB ?_)
    refine KA (KF rfl) (Nb rfl) ?_
    refine KA (KF (v:=.int .i64 ((1602:Nat):Int)) rfl) (Nb rfl) ?_
    refine KG (KX ?_)
    refine ⟨[_,_],.cons rfl (.cons rfl .nil),fun a w' hr=>⟨?_,hr.fr.below⟩⟩
    rfl
  ·
    refine KB ?_
    refine KA (KC rfl) (Nb rfl) ?_
    refine KA (KK (v:=.bool false) rfl rfl (by simp [KAP]; omega)) (Nb rfl) ?_
    refine KA (KC rfl) (Nb rfl) ?_
    refine KU rfl rfl (KC rfl) (Nb rfl) ?_
    refine KU rfl rfl (KK (v:=.bool true) rfl rfl (by simp [KAP]; omega)) (Nb rfl) ?_
    refine KA (KAC rfl rfl) (Nb rfl) ?_
    refine KA (KF rfl) (Nb rfl) ?_
    refine KG ?_
    refine Kw rfl ?_
    refine KD (KB ?_)
    refine KA (KF rfl) (Nb rfl) ?_
    refine KA (KF (v:=.int .i64 ((1602:Nat):Int)) rfl) (Nb rfl) ?_
    refine KG (KX ?_)
    refine ⟨[_,_],.cons rfl (.cons rfl .nil),fun a w' hr=>⟨?_,hr.fr.below⟩⟩
    rfl
theorem c_tabNew (id:Int) (V:Cv) (P:Pt V.p) (n:Nat) (w:World) (h:cvI id = some V) (hP:On V.A V.B P) (hn0:1≤n) (hn:n≤16):Calls Try.prog 32 ([.int .i64 id,ptP P,.int .i64 ((n:Nat):Int)]:List Value).toArray w (fun e w'=>∃ v its,(fun v its=>∃ bt br cap rest,v = .tuple #[.pointer (some ⟨bt,0,none⟩),.int .i64 ((0:Nat):Int)]∧its = [.blk bt ⟨true,[.slice (some ⟨br,0,none⟩) n cap],116,(0,0)⟩,.blk br ⟨true,tabL (mulE V P) n++rest,35,(0,0)⟩]) v its∧e = .returned v∧Brings w [] its w'):=by
  obtain ⟨hok,hid⟩:=cvI_ok h
  have hbb:=hok.bounds
  have hpW:V.p<W9:=w9_521 hbb.2.1
  have hnW:V.n<W9:=w9_521 hbb.2.2.2.2.2.2.1
  have hbl:=blen_w9 hnW
  have hnb:nby V.n≤72:=by (unfold nby; omega)
  refine Ky (N:=30) (rs:=[.tmp 6,.tmp 7]) [] Try.func32 rfl Try.ntmps32 Try.results32 (Nb rfl) trivial rfl ?_
  show LCode _ _ _ ⟨_,_⟩ _
  refine KD (KB ?_)
  refine KI rfl (KS (KR (KAD rfl) (Nb rfl) (fun b4=>?_)))
  refine KA (KF rfl) (Nb rfl) ?_
  refine KA (KF (v:=.int .i64 ((0:Nat):Int)) rfl) (Nb rfl) ?_
  refine KG ?_
  refine KD (KB ?_)
  refine KA (KC rfl) (Nb rfl) ?_
  refine KI rfl (KS (Kx (Post:=fun v its=>∃ b f bd,v = .pointer (some ⟨b,0,none⟩)∧its = [.blk b ⟨false,opL V f,129,(0,0)⟩,.blk f ⟨false,fldL V.p bd,162,(0,0)⟩,.blk bd ⟨false,dvL V.p,212,(0,0)⟩]) (first:=[]) rfl en_80 rfl (Nb rfl) (fun w1 hw hs=>(c_Open _ V w1 h).mono fun e w' ⟨b,f,bd,h1,h2,h3,h4,h5,h6,h7,h8⟩=>⟨_,_,⟨b,f,bd,rfl,rfl⟩,h1,Brings.nums h8 (by intro x hx; simp at hx; rcases hx with rfl|rfl|rfl; exact h2; exact h3; exact h4) (by intro x hx; simp at hx; rcases hx with rfl|rfl|rfl <;> rfl) (by intro x hx k hk; simp at hx; rcases hx with rfl|rfl|rfl <;> simp [Item.fp] at hk <;> subst hk; exact .inl h5; exact .inl h6; exact .inl h7)⟩) ?_))
  rintro _ _ ⟨b,f,bd,rfl,rfl⟩
  refine KA (KF rfl) (Nb rfl) ?_
  refine KG ?_
  refine KD ?_
  refine LCode.block ?_
  refine KD (KB ?_)
  refine KA (KC rfl) (Nb rfl) ?_
  refine KA (KT (Det.eqp Try.underlying110 rfl rfl) (show _ = Value.bool false from rfl)) (Nb rfl) ?_
  refine KA (KF rfl) (Nb rfl) ?_
  refine KG ?_
  refine Kd rfl ?_
  refine KD (KB ?_)
  refine KA (KC rfl) (Nb rfl) ?_
  refine LOps.det (KL rfl (by repeat (first|exact Mh _|apply Mt)) (by exact KO Try.underlying35 rfl sz_35)) (Nb rfl) ?_
  refine KI rfl (KS (KP (first:=[]) rfl en_81 rfl (Nb rfl) (fun w hw=>c_cOnP V b f bd hok (P) w (hw _ (by repeat (first|exact Mh _|apply Mt))) (hw _ (by repeat (first|exact Mh _|apply Mt))) (hw _ (by repeat (first|exact Mh _|apply Mt))) hP) ?_))
  refine KA (KT (Det.not rfl) (show _ = Value.bool false from rfl)) (Nb rfl) ?_
  refine KA (KF rfl) (Nb rfl) ?_
  refine KG ?_
  refine Kd rfl ?_
  refine KD (KB ?_)
  refine KA (KC rfl) (Nb rfl) ?_
  refine KA (KK (v:=.bool false) rfl rfl (br_f (KAp (b:=1)) (by omega))) (Nb rfl) ?_
  refine KA (KC rfl) (Nb rfl) ?_
  refine KU rfl rfl (KC rfl) (Nb rfl) ?_
  refine KU rfl rfl (KK (v:=.bool false) rfl rfl (br_f (br_gtr (b:=16)) (by omega))) (Nb rfl) ?_
  refine KA (KAC rfl rfl) (Nb rfl) ?_
  refine KA (KF rfl) (Nb rfl) ?_
  refine KG ?_
  refine Kd rfl ?_
  refine Kf ?_
  refine KD (KB ?_)
  refine KA (KC rfl) (Nb rfl) ?_
  refine LOps.det (KL rfl (by repeat (first|exact Mh _|apply Mt)) (by exact KO Try.underlying35 rfl sz_35)) (Nb rfl) ?_
  refine KA (KC rfl) (Nb rfl) ?_
  refine KI rfl (KS (KAb (first:=[]) rfl en_82 rfl (Nb rfl) (fun w hw=>bringsC (c_tabOf V b f bd hok P hP n hn0 hn w (hw _ (by repeat (first|exact Mh _|apply Mt))) (hw _ (by repeat (first|exact Mh _|apply Mt))) (hw _ (by repeat (first|exact Mh _|apply Mt)))) _) ?_))
  rintro _ _ ⟨bt,br,cap,rest,rfl,rfl⟩
  refine KA (KF rfl) (Nb rfl) ?_
  refine KA (KF (v:=.int .i64 ((0:Nat):Int)) rfl) (Nb rfl) ?_
  refine KG (KX ?_)
  exact ⟨[_,_],.cons rfl (.cons rfl .nil),fun a w' hr=>⟨_,_,⟨bt,br,cap,rest,rfl,rfl⟩,rfl,Brings.two hr.fr.below (hr.hp (.blk bt ⟨true,_,_,_⟩) (by repeat (first|exact Mh _|apply Mt))) (hr.hp (.blk br ⟨true,_,_,_⟩) (by repeat (first|exact Mh _|apply Mt))) (hr.new (b:=bt) (B:=⟨true,_,_,_⟩) (by repeat (first|exact Mh _|apply Mt)) rfl) (hr.new (b:=br) (B:=⟨true,_,_,_⟩) (by repeat (first|exact Mh _|apply Mt)) rfl) (apart_two hr.dist (b:=bt) (B:=⟨true,_,116,_⟩) (c:=br) (D:=⟨true,_,35,_⟩) (by repeat (first|exact Mh _|apply Mt)) (by repeat (first|exact Mh _|apply Mt)) rfl (fun e=>absurd (show (116:Nat) = 35 from e) (by decide)))⟩⟩
theorem c_tabSize (bt br n cap:Nat) {wr1:Bool} (w:World) (h1:(Item.blk bt ⟨wr1,[.slice (some ⟨br,0,none⟩) n cap],116,(0,0)⟩).holds w):Calls Try.prog 35 ([.pointer (some ⟨bt,0,none⟩)]:List Value).toArray w (fun e w'=>e = .returned (.int .i64 ((n:Nat):Int))∧Below w.heap.size w w'):=by
  refine Ky (N:=10) (rs:=[.tmp 2]) [.blk bt ⟨false,[.slice (some ⟨br,0,none⟩) n cap],116,(0,0)⟩] Try.func35 rfl Try.ntmps35 Try.results35 (Nb rfl) ⟨h1,trivial⟩ rfl ?_
  show LCode _ _ _ ⟨_,_⟩ _
  refine KD (KB ?_)
  refine KA (KF (v:=.int .i64 ((0:Nat):Int)) rfl) (Nb rfl) ?_
  refine KG ?_
  refine KD ?_
  refine KD (KB ?_)
  refine KA (KC rfl) (Nb rfl) ?_
  refine KA (KT (Det.eqp Try.underlying40 rfl rfl) (show _ = Value.bool false from rfl)) (Nb rfl) ?_
  refine KG ?_
  refine Kd rfl ?_
  refine Kf ?_
  refine KD (KB ?_)
  refine KA (KC rfl) (Nb rfl) ?_
  refine KA (Kc rfl) (Nb rfl) ?_
  refine KA (KM (o':=0) Try.underlying116 rfl rfl rfl sz_114 (by decide)) (Nb rfl) ?_
  refine LOps.det (KL rfl (by repeat (first|exact Mh _|apply Mt)) (Kb Try.underlying114 rfl (by first|rfl|exact Ku _ _ _ (by omega)|exact Ks _ (by omega)|exact Kq _ (by omega)|exact dv_m _ _ _ (by omega)))) (Nb rfl) ?_
  refine KA (KAX Try.underlying114 rfl) (Nb rfl) ?_
  refine KA (KF rfl) (Nb rfl) ?_
  refine KG (KX ?_)
  refine ⟨[_],.cons rfl .nil,fun a w' hr=>⟨?_,hr.fr.below⟩⟩
  rfl
def pk (i A:Nat):Nat→Nat
  | 0=>0
  | k+1=>if k = i then A else pk i A k
theorem pk_low {i A:Nat}:∀ {k},k≤i→pk i A k = 0
  | 0,_=>rfl
  | k+1,h=>by
    show (if k = i then A else pk i A k) = 0
    rw [if_neg (by omega)]; exact pk_low (by omega)
theorem pk_last {i A:Nat}:∀ {k},i<k→pk i A k = A
  | 0,h=>by omega
  | k+1,h=>by
    show (if k = i then A else pk i A k) = A
    by_cases e:k = i
    · rw [if_pos e]
    · rw [if_neg e]; exact pk_last (by omega)
theorem pk_m (i k:Nat):(if k = i then 18446744073709551615 else 0) = 0∨(if k = i then 18446744073709551615 else 0) = 18446744073709551615:=by
  by_cases e:k = i
  · exact .inr (if_pos e)
  · exact .inl (if_neg e)
theorem pk_next (F:Nat→Nat) (i k:Nat):pk i (F i) (k+1) = if (if k = i then 18446744073709551615 else 0) = 0 then pk i (F i) k else F k:=by
  show (if k = i then F i else pk i (F i) k) = _
  by_cases e:k = i
  · rw [if_pos e,if_pos e,if_neg (by decide),e]
  · rw [if_neg e,if_neg e,if_pos rfl]
theorem pk_or {i A z k:Nat} (hz:k = i→z = A) (h1:z≤1):pk i A k ||| (z &&& if k = i then 18446744073709551615 else 0) = pk i A (k+1):=by
  show _ = (if k = i then A else pk i A k)
  by_cases e:k = i
  · rw [if_pos e,if_pos e,pk_low (by omega),Nat.zero_or,and_max (by omega)]; exact hz e
  · rw [if_neg e,if_neg e,Nat.and_zero,Nat.or_zero]
theorem pk_lt {i A:Nat} (h:A≤1):∀ k,pk i A k≤1
  | 0=>Nat.zero_le _
  | k+1=>by
    show (if k = i then A else pk i A k)≤1
    split
    · exact h
    · exact pk_lt h k
def ib {p:Nat} (P:Pt p):Nat:=if iv P = true then 1 else 0
theorem ib_le {p:Nat} (P:Pt p):ib P≤1:=by unfold ib; split <;> omega
theorem ib_eq {p:Nat} (P:Pt p):decide (ib P = 1) = iv P:=by unfold ib; cases iv P <;> rfl
section
variable {P:Program} {C:Ctx} {d:Option Tmp} {ty:TypeId} {pos:String} {aft:Array Edge} {g:Option (Nat×Bool)} {st:St} {x y:Operand} {t e:TypeId}
theorem Det.indexSN {s i : Nat} {k : IntKind} {b o l c : Nat} (ht : P.underlying t = some (.slice e)) (he : szOf P e = some s) (hx : evT st.T x = some (.slice (some ⟨b, o, none⟩) l c)) (hy : evT st.T y = some (.int k (i : Int))) (h1 : i < l) :
    Slots P C ⟨d,.indexAddr t x y,ty,pos,aft,g⟩ st (.pointer (some ⟨b,o+i*s,none⟩)):=by
  have:=Det.indexSl (P:=P) (C:=C) (d:=d) (ty:=ty) (pos:=pos) (aft:=aft) (g:=g) (st:=st) ht he hx hy (by omega) (by omega)
  rwa [Int.toNat_natCast] at this
end
theorem pt_zeroK (i A B:Nat):(vec .u64 9 (fun _=>0)++(vec .u64 9 (fun _=>0)++[Value.bool false]):List Value) = ptL (pk i A 0) (pk i B 0) false:=by
  show _ = ptL 0 0 false
  unfold ptL natL; rw [vec_zeros 9]
theorem pt_set0 (X Y X':Nat) (i:Bool):splice (ptL X Y i) 0 (natL X') = ptL X' Y i:=splice_mid (A:=[]) (B:=natL X) (D:=natL Y++[.bool i]) (by simp [ptL]) rfl (by rw [KH,KH]) (by simp [ptL])
theorem pt_set2 (X Y:Nat) (i j:Bool):(ptL X Y i).set 18 (.bool j) = ptL X Y j:=by
  unfold ptL
  rw [List.set_append_right _ _ (by rw [KH]; decide),KH,List.set_append_right _ _ (by rw [KH]; decide),KH]; rfl
theorem c_tabPick (b:Option Nat) (r:TrRow) (l:List Nat) (bt br cap:Nat) (rest:List Value) {wr1 wr2:Bool} (V:Cv) (hok:V.Ok) (E:Nat→Pt V.p) (n i:Nat) (hi:i<n) (hn:n≤16) (w:World) (h0:(trI b r l).holds w) (h1:(Item.blk bt ⟨wr1,[.slice (some ⟨br,0,none⟩) n cap],116,(0,0)⟩).holds w) (h2:(Item.blk br ⟨wr2,tabL (E) n++rest,35,(0,0)⟩).holds w) (n1:Out b r (Item.blk bt ⟨wr1,[.slice (some ⟨br,0,none⟩) n cap],116,(0,0)⟩)) (n2:Out b r (Item.blk br ⟨wr2,tabL (E) n++rest,35,(0,0)⟩)) (hl:l.length≤90000000):Calls Try.prog 34 ([.pointer (some ⟨bt,0,none⟩),trV b,.int .i64 ((i:Nat):Int)]:List Value).toArray w (fun e w'=>TrR w b r (l++List.range n) (.tuple #[ptP (E i),.int .i64 ((0:Nat):Int)]) e w'):=by
  refine calls_tr (N:=75) (rs:=[.cell 6 35,.tmp 7]) b r l [.blk bt ⟨false,[.slice (some ⟨br,0,none⟩) n cap],116,(0,0)⟩,.blk br ⟨false,tabL (E) n++rest,35,(0,0)⟩] Try.func34 rfl Try.ntmps34 Try.results34 (Nb rfl) h0 ⟨h1,h2,trivial⟩ rfl ⟨n1,n2,trivial⟩ ?_
  show LCode _ _ _ ⟨_,_⟩ _
  refine KD (KB ?_)
  refine KI rfl (KS (KR (Ke zr_35) (Nb rfl) (fun b6=>?_)))
  refine KA (KF (v:=.int .i64 ((0:Nat):Int)) rfl) (Nb rfl) ?_
  refine KG ?_
  refine KD ?_
  refine LCode.block ?_
  refine KD (KB ?_)
  refine KA (KC rfl) (Nb rfl) ?_
  refine KA (KT (Det.eqp Try.underlying40 rfl rfl) (show _ = Value.bool false from rfl)) (Nb rfl) ?_
  refine KA (KF rfl) (Nb rfl) ?_
  refine KG ?_
  refine Kd rfl ?_
  refine KD (KB ?_)
  refine KA (KC rfl) (Nb rfl) ?_
  refine KA (KK (v:=.bool false) rfl rfl (br_f (KAp (b:=0)) (Nat.not_lt_zero _))) (Nb rfl) ?_
  refine KA (KC rfl) (Nb rfl) ?_
  refine KU rfl rfl (KC rfl) (Nb rfl) ?_
  refine KU rfl rfl (KC rfl) (Nb rfl) ?_
  refine KU rfl rfl (Kc rfl) (Nb rfl) ?_
  refine KU rfl rfl (KM (o':=0) Try.underlying116 rfl rfl rfl sz_114 (by decide)) (Nb rfl) ?_
  refine KAi rfl rfl (KL rfl (by repeat (first|exact Mh _|apply Mt)) (Kb Try.underlying114 rfl (by first|rfl|exact Ku _ _ _ (by omega)|exact Ks _ (by omega)|exact Kq _ (by omega)|exact dv_m _ _ _ (by omega)))) (Nb rfl) ?_
  refine KU rfl rfl (KAX Try.underlying114 rfl) (Nb rfl) ?_
  refine KU rfl rfl (KK (v:=.bool false) rfl rfl (br_f br_geq (by omega))) (Nb rfl) ?_
  refine KA (KAC rfl rfl) (Nb rfl) ?_
  refine KA (KF rfl) (Nb rfl) ?_
  refine KG ?_
  refine Kd rfl ?_
  refine Kf ?_
  refine KD (KB ?_)
  refine KI rfl (KS (KR (Ke zr_35) (Nb rfl) (fun b8=>?_)))
  refine KG ?_
  refine KD (KB ?_)
  refine KA (KF (v:=.int .u64 ((0:Nat):Int)) rfl) (Nb rfl) ?_
  refine KG ?_
  refine KD ?_
  refine KD (KB ?_)
  refine KA (KC rfl) (Nb rfl) ?_
  refine KA (Kc rfl) (Nb rfl) ?_
  refine KA (KM (o':=0) Try.underlying116 rfl rfl rfl sz_114 (by decide)) (Nb rfl) ?_
  refine LOps.det (KL rfl (by repeat (first|exact Mh _|apply Mt)) (Kb Try.underlying114 rfl (by first|rfl|exact Ku _ _ _ (by omega)|exact Ks _ (by omega)|exact Kq _ (by omega)|exact dv_m _ _ _ (by omega)))) (Nb rfl) ?_
  refine KA (KAX Try.underlying114 rfl) (Nb rfl) ?_
  refine KA (KC (v:=.int .i64 ((0:Nat):Int)) rfl) (Nb rfl) ?_
  refine KG ?_
  refine LCode.block ?_
  refine KAN (α:=Nat×TrRow) (fun x=>x.1≤n) (fun x=>⟨[(0,.pointer (some ⟨bt,0,none⟩)),(1,trV b),(2,.int .i64 ((i:Nat):Int)),(6,.pointer (some ⟨b6,0,none⟩)),(8,.pointer (some ⟨b8,0,none⟩)),(9,.int .u64 ((pk i (ib (E i)) x.1:Nat):Int)),(34,.slice (some ⟨br,0,none⟩) n cap),(35,.int .i64 ((n:Nat):Int)),(36,.int .i64 ((x.1:Nat):Int))],[trI b x.2 (l++List.range x.1),.blk b8 ⟨true,ptL (pk i (xv (E i)) x.1) (pk i (yv (E i)) x.1) false,35,(0,0)⟩,.blk b6 ⟨true,vec .u64 9 (fun _=>0)++(vec .u64 9 (fun _=>0)++[Value.bool false]),35,(0,0)⟩,.blk bt ⟨false,[.slice (some ⟨br,0,none⟩) n cap],116,(0,0)⟩,.blk br ⟨false,tabL (E) n++rest,35,(0,0)⟩]⟩) (fun x=>n-x.1) ((0,r)) (Nat.zero_le _) (KAh (Sub.cells (b:=b8) (cs':=ptL (pk i (xv (E i)) 0) (pk i (yv (E i)) 0) false) (by repeat (first|exact Sh _|apply St_)) (pt_zeroK _ _ _)) (by dsimp only [List.range_zero]; rw [List.append_nil]; exact KAG ⟨rfl,rfl,rfl,rfl,rfl,rfl,rfl,rfl,rfl,trivial⟩ (by repeat (first|exact Sel.nil _|refine Sel.cons (by repeat (first|exact Ph _|apply Pt_)) ?_)))) ?_
  intro x hx
  refine KD (KB ?_)
  refine KA (KK rfl rfl (KAp)) (Nb rfl) ?_
  refine KG ?_
  refine KD ?_
  first|refine Kh rfl (fun h37=>?_) (fun h37=>?_)|refine Kj rfl (fun h37=>?_) (fun h37=>?_)
  ·
    have h37:x.1<n:=h37
    refine Kf ?_
    refine KD ?_
    refine LCode.block ?_
    refine KD (KB ?_)
    refine KA (KC rfl) (Nb rfl) ?_
    refine KA (Det.indexSN Try.underlying114 sz_35 rfl rfl (by omega)) (Nb rfl) ?_
    refine LOps.det (KL rfl (by repeat (first|exact Mh _|apply Mt)) (by exact tab_load E h37 rest)) (Nb rfl) ?_
    refine KI rfl (KS (KR (Ke zr_35) (Nb rfl) (fun b11=>?_)))
    refine KA (KF rfl) (Nb rfl) ?_
    refine KI rfl (KQ rfl rfl sz_35 (by exact Kn _ _ _) (by repeat (first|exact Sh _|apply St_)) (by exact KV _ _ _) ?_)
    refine KG ?_
    refine KD (KB ?_)
    refine KA (KC rfl) (Nb rfl) ?_
    refine KA (KC rfl) (Nb rfl) ?_
    refine KI rfl (LStepW.callT (first:=[]) (r:=x.2) (l:=l++List.range x.1) (l':=l++List.range (x.1+1)) rfl en_83 rfl (Nb rfl) (by repeat (first|exact Pick.head _|apply Pick.tail)) (fun w hw hn=>by rw [List.range_succ,← List.append_assoc]; exact c_trIndex b x.2 _ x.1 w (hw _ (by repeat (first|exact Mh _|apply Mt))) (by rw [List.length_append,List.length_range]; omega)) ?_)
    intro r1
    refine KG ?_
    refine KD (KB ?_)
    refine KA (KC rfl) (Nb rfl) ?_
    refine KA (KAW Try.underlying3 Try.underlying30 rfl (by first|omega|exact Nat.lt_trans (D.limb_lt _ _) (by decide))) (Nb rfl) ?_
    refine KA (KC rfl) (Nb rfl) ?_
    refine KA (KAW Try.underlying3 Try.underlying30 rfl (by first|omega|exact Nat.lt_trans (D.limb_lt _ _) (by decide))) (Nb rfl) ?_
    refine KI rfl (KS (KP (first:=[]) rfl en_84 rfl (Nb rfl) (fun w hw=>c_mEqual x.1 i w (by omega) (by omega)) ?_))
    refine KA (KF rfl) (Nb rfl) ?_
    refine KG ?_
    refine KD ?_
    refine Kg [13,15] (by kernel_rfl) ?_
    refine KE 0 rfl (by kernel_rfl) (Nb rfl) (KC rfl) ?_
    refine KE 1 rfl (by kernel_rfl) (Nb rfl) (KM (o':=0) Try.underlying35 rfl rfl rfl sz_33 (by decide)) ?_
    refine LAny.take 2 rfl (by kernel_rfl) (Nb rfl) (KL rfl (by repeat (first|exact Mh _|apply Mt)) (by exact KAR Try.underlying33 rfl sz_33 rfl (KH _))) ?_
    refine KE 3 rfl (by kernel_rfl) (Nb rfl) (KM (o':=0) Try.underlying35 rfl rfl rfl sz_33 (by decide)) ?_
    refine LAny.take 4 rfl (by kernel_rfl) (Nb rfl) (KL rfl (by repeat (first|exact Mh _|apply Mt)) (by exact KAR Try.underlying33 rfl sz_33 rfl (KH _))) ?_
    refine KE 6 rfl (by kernel_rfl) (Nb rfl) (KC rfl) ?_
    refine KE 7 rfl (by kernel_rfl) (Nb rfl) (KM (o':=9) Try.underlying35 rfl rfl rfl sz_33 (by decide)) ?_
    refine KE 9 rfl (by kernel_rfl) (Nb rfl) (KM (o':=9) Try.underlying35 rfl rfl rfl sz_33 (by decide)) ?_
    refine LAny.take 10 rfl (by kernel_rfl) (Nb rfl) (KL rfl (by repeat (first|exact Mh _|apply Mt)) (by exact pt_ld1 _ _ _ _ _ _)) ?_
    refine LAny.takeW [11,13,14,15] 8 rfl (by kernel_rfl) (Nb rfl) (KL rfl (by repeat (first|exact Mh _|apply Mt)) (by exact pt_ld1 _ _ _ _ _ _)) ?_
    refine Kt 5 rfl rfl (by kernel_rfl) (KP (first:=[]) rfl en_85 rfl (Nb rfl) (fun w hw=>c_mSelect (if x.1 = i then 18446744073709551615 else 0) (xv (E x.1)) (pk i (xv (E i)) x.1) (pk i (xv (E i)) (x.1+1)) w (pk_m _ _) (pk_next (fun j=>xv (E j)) i x.1)) ?_)
    refine KE 12 rfl (by kernel_rfl) (Nb rfl) (KM (o':=0) Try.underlying35 rfl rfl rfl sz_33 (by decide)) ?_
    refine Kt 11 rfl rfl (by kernel_rfl) (KP (first:=[]) rfl en_85 rfl (Nb rfl) (fun w hw=>c_mSelect (if x.1 = i then 18446744073709551615 else 0) (yv (E x.1)) (pk i (yv (E i)) x.1) (pk i (yv (E i)) (x.1+1)) w (pk_m _ _) (pk_next (fun j=>yv (E j)) i x.1)) ?_)
    refine Kr 13 rfl rfl (by kernel_rfl) (by kernel_rfl) (KAT rfl rfl rfl sz_33 (KH _) (Kl _) (by repeat (first|exact Sh _|apply St_)) (by simp only [KV]; decide) (pt_set0 _ _ _ _) (by simp) ?_)
    refine KE 14 rfl (by kernel_rfl) (Nb rfl) (KM (o':=9) Try.underlying35 rfl rfl rfl sz_33 (by decide)) ?_
    refine Kr 15 rfl rfl (by kernel_rfl) (by kernel_rfl) (KAT rfl rfl rfl sz_33 (KH _) (Kl _) (by repeat (first|exact Sh _|apply St_)) (by simp only [KV]; decide) (pt_set1 _ _ _ _) (by simp) ?_)
    refine Ko (by kernel_rfl) ?_
    refine KD (KB ?_)
    refine KA (KF (v:=.int .u64 ((0:Nat):Int)) rfl) (Nb rfl) ?_
    refine KG ?_
    refine KD ?_
    refine KD ?_
    cases hiv:iv (E x.1)
    ·
      refine KB ?_
      refine KA (KM (o':=18) Try.underlying35 rfl rfl rfl sz_4 (by decide)) (Nb rfl) ?_
      refine LOps.det (KL rfl (by repeat (first|exact Mh _|apply Mt)) (Kb Try.underlying4 rfl (by exact pt_gt _ _ _))) (Nb rfl) ?_
      refine KG ?_
      refine Kd rfl ?_
      refine Kf ?_
      refine KB ?_
      refine KA (KC rfl) (Nb rfl) ?_
      refine KA (KC rfl) (Nb rfl) ?_
      refine KA (KC rfl) (Nb rfl) ?_
      refine KA (KK rfl rfl (br_and64 (a:=0) (b:=(if x.1 = i then 18446744073709551615 else 0)) (by decide) (by split <;> decide))) (Nb rfl) ?_
      refine KA (KT (KK rfl rfl (br_or64 (a:=pk i (ib (E i)) x.1) (b:=0 &&& (if x.1 = i then 18446744073709551615 else 0)) (Nat.lt_of_le_of_lt (pk_lt (ib_le _) _) (by decide)) (Nat.lt_of_le_of_lt Nat.and_le_left (by decide)))) (vi (b:=pk i (ib (E i)) (x.1+1)) (pk_or (fun e=>by rw [← e]; unfold ib; rw [hiv]; rfl) (by decide)))) (Nb rfl) ?_
      refine KA (KF rfl) (Nb rfl) ?_
      refine KG ?_
      refine KB ?_
      refine KA (KK rfl rfl (KAL (b:=1) (by omega))) (Nb rfl) ?_
      refine KA (KC rfl) (Nb rfl) ?_
      refine KG ?_
      exact ⟨(x.1+1,r1),by dsimp only; omega,by dsimp only; omega,KAG ⟨rfl,rfl,rfl,rfl,rfl,rfl,rfl,rfl,rfl,trivial⟩ (by repeat (first|exact Sel.nil _|refine Sel.cons (by repeat (first|exact Ph _|apply Pt_)) ?_))⟩
    ·
      refine KB ?_
      refine KA (KM (o':=18) Try.underlying35 rfl rfl rfl sz_4 (by decide)) (Nb rfl) ?_
      refine LOps.det (KL rfl (by repeat (first|exact Mh _|apply Mt)) (Kb Try.underlying4 rfl (by exact pt_gt _ _ _))) (Nb rfl) ?_
      refine KG ?_
      refine Kw rfl ?_
      refine KB ?_
      refine KA (KF (v:=.int .u64 ((1:Nat):Int)) rfl) (Nb rfl) ?_
      refine KG ?_
      refine KB ?_
      refine KA (KC rfl) (Nb rfl) ?_
      refine KA (KC rfl) (Nb rfl) ?_
      refine KA (KC rfl) (Nb rfl) ?_
      refine KA (KK rfl rfl (br_and64 (a:=1) (b:=(if x.1 = i then 18446744073709551615 else 0)) (by decide) (by split <;> decide))) (Nb rfl) ?_
      refine KA (KT (KK rfl rfl (br_or64 (a:=pk i (ib (E i)) x.1) (b:=1 &&& (if x.1 = i then 18446744073709551615 else 0)) (Nat.lt_of_le_of_lt (pk_lt (ib_le _) _) (by decide)) (Nat.lt_of_le_of_lt Nat.and_le_left (by decide)))) (vi (b:=pk i (ib (E i)) (x.1+1)) (pk_or (fun e=>by rw [← e]; unfold ib; rw [hiv]; rfl) (by decide)))) (Nb rfl) ?_
      refine KA (KF rfl) (Nb rfl) ?_
      refine KG ?_
      refine KB ?_
      refine KA (KK rfl rfl (KAL (b:=1) (by omega))) (Nb rfl) ?_
      refine KA (KC rfl) (Nb rfl) ?_
      refine KG ?_
      exact ⟨(x.1+1,r1),by dsimp only; omega,by dsimp only; omega,KAG ⟨rfl,rfl,rfl,rfl,rfl,rfl,rfl,rfl,rfl,trivial⟩ (by repeat (first|exact Sel.nil _|refine Sel.cons (by repeat (first|exact Ph _|apply Pt_)) ?_))⟩
  ·
    have h37:¬ x.1<n:=h37
    refine KAH ?_
    refine KD ?_
    have hx1n:x.1 = n:=by omega
    rw [hx1n,pk_last hi,pk_last hi,pk_last hi]
    refine KB ?_
    refine KA (KC rfl) (Nb rfl) ?_
    refine KA (KT (KK rfl rfl (KAc (b:=1))) (congrArg Value.bool (ib_eq (E i)))) (Nb rfl) ?_
    refine KA (KM (o':=18) Try.underlying35 rfl rfl rfl sz_4 (by decide)) (Nb rfl) ?_
    refine KI rfl (KAB rfl rfl rfl sz_4 (by repeat (first|exact Sh _|apply St_)) (by rw [KV]; decide) (by exact pt_set2 _ _ _ _) (by simp) ?_)
    refine KG ?_
    refine KD (KB ?_)
    refine LOps.det (KL rfl (by repeat (first|exact Mh _|apply Mt)) (by exact KO Try.underlying35 rfl sz_35)) (Nb rfl) ?_
    refine KI rfl (KQ rfl rfl sz_35 (by exact Kn _ _ _) (by repeat (first|exact Sh _|apply St_)) (by exact KV _ _ _) ?_)
    refine KA (KF (v:=.int .i64 ((0:Nat):Int)) rfl) (Nb rfl) ?_
    refine KG (KX ?_)
    exact ⟨[_,_],.cons ⟨_,_,_,rfl,(by repeat (first|exact Mh _|apply Mt)),by exact KO Try.underlying35 rfl sz_35⟩ (.cons rfl .nil),fun a w' hr=>hr.tr (by repeat (first|exact Mh _|apply Mt))⟩
theorem c_tabPick_bad (b:Option Nat) (bt br cap n:Nat) {wr1:Bool} (i:Int) (w:World) (h1:(Item.blk bt ⟨wr1,[.slice (some ⟨br,0,none⟩) n cap],116,(0,0)⟩).holds w) (hi:i<0∨(n:Int)≤i):Calls Try.prog 34 ([.pointer (some ⟨bt,0,none⟩),trV b,.int .i64 i]:List Value).toArray w (fun e w'=>e = .returned (.tuple #[ptV 0 0 false,.int .i64 ((1603:Nat):Int)])∧Below w.heap.size w w'):=by
  refine Ky (N:=75) (rs:=[.cell 6 35,.tmp 7]) [.blk bt ⟨false,[.slice (some ⟨br,0,none⟩) n cap],116,(0,0)⟩] Try.func34 rfl Try.ntmps34 Try.results34 (Nb rfl) ⟨h1,trivial⟩ rfl ?_
  show LCode _ _ _ ⟨_,_⟩ _
  refine KD (KB ?_)
  refine KI rfl (KS (KR (Ke zr_35) (Nb rfl) (fun b6=>?_)))
  refine KA (KF (v:=.int .i64 ((0:Nat):Int)) rfl) (Nb rfl) ?_
  refine KG ?_
  refine KD ?_
  refine LCode.block ?_
  refine KD (KB ?_)
  refine KA (KC rfl) (Nb rfl) ?_
  refine KA (KT (Det.eqp Try.underlying40 rfl rfl) (show _ = Value.bool false from rfl)) (Nb rfl) ?_
  refine KA (KF rfl) (Nb rfl) ?_
  refine KG ?_
  refine Kd rfl ?_
  refine KD ?_
  rcases (show i<0∨(0≤i∧(n:Int)≤i) by omega) with g1|⟨g1,g2⟩
  ·
    refine KB ?_
    refine KA (KC rfl) (Nb rfl) ?_
    refine KA (KK (v:=.bool true) rfl rfl (by simp [KAP]; omega)) (Nb rfl) ?_
    refine KA (KC rfl) (Nb rfl) ?_
    refine Kv rfl rfl rfl (Nb rfl) ?_
    refine Kv rfl rfl rfl (Nb rfl) ?_
    refine Kv rfl rfl rfl (Nb rfl) ?_
    refine Kv rfl rfl rfl (Nb rfl) ?_
    refine Kv rfl rfl rfl (Nb rfl) ?_
    refine Kv rfl rfl rfl (Nb rfl) ?_
    refine Kv rfl rfl rfl (Nb rfl) ?_
    refine KA (Kp rfl rfl) (Nb rfl) ?_
    refine KA (KF rfl) (Nb rfl) ?_
    refine KG ?_
    refine Kw rfl ?_
    refine KD (KB ?_)
    refine KA (KT (KAQ pl_35 zr_35 rfl rfl) (show _ = ptV 0 0 false from pt_zero)) (Nb rfl) ?_
    refine KI rfl (KQ rfl rfl sz_35 (by exact Kn _ _ _) (by repeat (first|exact Sh _|apply St_)) (by simp [KV,KN]) ?_)
    refine KA (KF (v:=.int .i64 ((1603:Nat):Int)) rfl) (Nb rfl) ?_
    refine KG (KX ?_)
    refine ⟨[_,_],.cons ⟨_,_,_,rfl,(by repeat (first|exact Mh _|apply Mt)),by exact KO Try.underlying35 rfl sz_35⟩ (.cons rfl .nil),fun a w' hr=>⟨?_,hr.fr.below⟩⟩
    rfl
  ·
    refine KB ?_
    refine KA (KC rfl) (Nb rfl) ?_
    refine KA (KK (v:=.bool false) rfl rfl (by simp [KAP]; omega)) (Nb rfl) ?_
    refine KA (KC rfl) (Nb rfl) ?_
    refine KU rfl rfl (KC rfl) (Nb rfl) ?_
    refine KU rfl rfl (KC rfl) (Nb rfl) ?_
    refine KU rfl rfl (Kc rfl) (Nb rfl) ?_
    refine KU rfl rfl (KM (o':=0) Try.underlying116 rfl rfl rfl sz_114 (by decide)) (Nb rfl) ?_
    refine KAi rfl rfl (KL rfl (by repeat (first|exact Mh _|apply Mt)) (Kb Try.underlying114 rfl (by first|rfl|exact Ku _ _ _ (by omega)|exact Ks _ (by omega)|exact Kq _ (by omega)|exact dv_m _ _ _ (by omega)))) (Nb rfl) ?_
    refine KU rfl rfl (KAX Try.underlying114 rfl) (Nb rfl) ?_
    refine KU rfl rfl (KK (v:=.bool true) rfl rfl (by simp [KAP]; omega)) (Nb rfl) ?_
    refine KA (KAC rfl rfl) (Nb rfl) ?_
    refine KA (KF rfl) (Nb rfl) ?_
    refine KG ?_
    refine Kw rfl ?_
    refine KD (KB ?_)
    refine KA (KT (KAQ pl_35 zr_35 rfl rfl) (show _ = ptV 0 0 false from pt_zero)) (Nb rfl) ?_
    refine KI rfl (KQ rfl rfl sz_35 (by exact Kn _ _ _) (by repeat (first|exact Sh _|apply St_)) (by simp [KV,KN]) ?_)
    refine KA (KF (v:=.int .i64 ((1603:Nat):Int)) rfl) (Nb rfl) ?_
    refine KG (KX ?_)
    refine ⟨[_,_],.cons ⟨_,_,_,rfl,(by repeat (first|exact Mh _|apply Mt)),by exact KO Try.underlying35 rfl sz_35⟩ (.cons rfl .nil),fun a w' hr=>⟨?_,hr.fr.below⟩⟩
    rfl
end Go.Proofs.Ytlmiolnccgjjjaa
set_option linter.unusedVariables false
set_option linter.unusedSimpArgs false
set_option maxRecDepth 20000
namespace Go.Proofs.Ytlmiolnccgjjjaa
open Go Go.RowKit
open Grp
theorem Brings.one {w w':World} {b:Nat} {B:Blk} (hb:Below w.heap.size w w') (h1:(Item.blk b B).holds w') (n1:w.heap.size≤b):Brings w [] [.blk b B] w':=by
  have key:∀ x,x∈[Item.blk b B]→∀ k,k∈x.fp→w.heap.size≤k:=fun x hx k hk=>by
    obtain rfl:x = _:=by simpa using hx
    obtain rfl:k = b:=by simpa [Item.fp] using hk
    exact n1
  exact ⟨hb, fun x hx => (by obtain rfl : x = _ := by simpa using hx
                             exact h1),fun x hx k hk=>.inl (key x hx k hk),fun x hx _=>key x hx,List.pairwise_singleton _ _⟩
end Go.Proofs.Ytlmiolnccgjjjaa
set_option linter.unusedVariables false
set_option linter.unusedSimpArgs false
set_option maxRecDepth 20000
namespace Go.Proofs.Ytlmiolnccgjjjaa
open Go Go.RowKit
open Grp
theorem c_tabPickN (bt br cap:Nat) (rest:List Value) {wr1 wr2:Bool} (V:Cv) (hok:V.Ok) (E:Nat→Pt V.p) (n i:Nat) (R:Pt V.p) (w:World) (hi:i<n) (hn:n≤16) (h1:(Item.blk bt ⟨wr1,[.slice (some ⟨br,0,none⟩) n cap],116,(0,0)⟩).holds w) (h2:(Item.blk br ⟨wr2,tabL (E) n++rest,35,(0,0)⟩).holds w) (hR:E i = R):Calls Try.prog 34 ([.pointer (some ⟨bt,0,none⟩),.pointer none,.int .i64 ((i:Nat):Int)]:List Value).toArray w (fun e w'=>e = .returned (.tuple #[ptP R,.int .i64 ((0:Nat):Int)])∧Below w.heap.size w w') :=
  hR ▸ (c_tabPick none none [] bt br cap rest V hok E n i hi hn w (trI_nil _ _) h1 h2 (Out.nil _ _) (Out.nil _ _) (Nat.zero_le _)).mono fun e w' h=>TrR.nil h
end Go.Proofs.Ytlmiolnccgjjjaa
set_option linter.unusedVariables false
set_option linter.unusedSimpArgs false
set_option maxRecDepth 20000
namespace Go.Proofs.Ytlmiolnccgjjjaa
open Go Go.RowKit
open Grp
theorem c_r_GP (Q:CQ) (V:Cv) (w:World) (hc:(crvI Q V).holds w) (hok:V.Ok):Calls Try.prog 31 ([.agg (crvL Q V).toArray]:List Value).toArray w (fun e w'=>Num2R w (crvI Q V).fp (xv V.G) (yv V.G) (fun u v=>rpV u v (iv V.G)) e w'):=by
  rw [xG hok,yG hok]
  exact c_r_G Q V w hc
theorem c_r_OutP (V:Cv) (q r:NV) (P:Pt V.p) (w:World) (hq:(numT q (xv P)).holds w) (hr:(numT r (yv P)).holds w):Calls Try.prog 30 ([rpV (numV q (xv P)) (numV r (yv P)) (iv P)]:List Value).toArray w (fun e w'=>e = .returned (ptP P)∧Below w.heap.size w w'):=c_r_Out q r (xv P) (yv P) (iv P) w hq hr
end Go.Proofs.Ytlmiolnccgjjjaa
