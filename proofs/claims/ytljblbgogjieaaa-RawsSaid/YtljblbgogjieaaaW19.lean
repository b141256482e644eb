/- Walks: what functions of the program come to, step by step. -/
import Derived.Test.YtljblbgogjieaaaW18
set_option linter.unusedVariables false
set_option linter.unusedSimpArgs false
set_option maxRecDepth 20000
namespace Go.Proofs.Ytljblbgogjieaaa
open Go Go.RowKit

def cvC (id : Nat) (p : Nat) (a : Nat) (b : Nat) (n : Nat) (gx gy : Nat) (inf : Bool) (bits : Nat) (size : Nat) (leg : Bool) (F : Value) (t3 : Nat) : List Value := [.int .i64 ((id : Nat) : Int)] ++ (natL p ++ (natL a ++ (natL b ++ (natL n ++ (ptL gx gy inf ++ ([.int .i64 ((bits : Nat) : Int)] ++ ([.int .i64 ((size : Nat) : Int)] ++ ([.bool leg] ++ ([F] ++ (natL t3))))))))))
theorem cvC_at_id (id : Nat) (p : Nat) (a : Nat) (b : Nat) (n : Nat) (gx gy : Nat) (inf : Bool) (bits : Nat) (size : Nat) (leg : Bool) (F : Value) (t3 : Nat) : cvC id p a b n gx gy inf bits size leg F t3 = ([]) ++ (([.int .i64 ((id : Nat) : Int)]) ++ (natL p ++ (natL a ++ (natL b ++ (natL n ++ (ptL gx gy inf ++ ([.int .i64 ((bits : Nat) : Int)] ++ ([.int .i64 ((size : Nat) : Int)] ++ ([.bool leg] ++ ([F] ++ (natL t3))))))))))) := by simp only [cvC, List.append_assoc, List.append_nil, List.nil_append]
theorem cvC_len_id  : ([] : List Value).length = 0 := by simp [natL_length, ptL_length]
theorem cvC_set_id (id : Nat) (p : Nat) (a : Nat) (b : Nat) (n : Nat) (gx gy : Nat) (inf : Bool) (bits : Nat) (size : Nat) (leg : Bool) (F : Value) (t3 : Nat) (id' : Nat) : splice (cvC id p a b n gx gy inf bits size leg F t3) 0 ([.int .i64 ((id' : Nat) : Int)]) = cvC id' p a b n gx gy inf bits size leg F t3 := splice_mid (cvC_at_id id p a b n gx gy inf bits size leg F t3) (cvC_len_id) (by simp [natL_length, ptL_length]) (cvC_at_id id' p a b n gx gy inf bits size leg F t3)
theorem cvC_at_p (id : Nat) (p : Nat) (a : Nat) (b : Nat) (n : Nat) (gx gy : Nat) (inf : Bool) (bits : Nat) (size : Nat) (leg : Bool) (F : Value) (t3 : Nat) : cvC id p a b n gx gy inf bits size leg F t3 = ([.int .i64 ((id : Nat) : Int)]) ++ ((natL p) ++ (natL a ++ (natL b ++ (natL n ++ (ptL gx gy inf ++ ([.int .i64 ((bits : Nat) : Int)] ++ ([.int .i64 ((size : Nat) : Int)] ++ ([.bool leg] ++ ([F] ++ (natL t3)))))))))) := by simp only [cvC, List.append_assoc, List.append_nil, List.nil_append]
theorem cvC_len_p (id : Nat) : ([.int .i64 ((id : Nat) : Int)] : List Value).length = 1 := by simp [natL_length, ptL_length]
theorem cvC_set_p (id : Nat) (p : Nat) (a : Nat) (b : Nat) (n : Nat) (gx gy : Nat) (inf : Bool) (bits : Nat) (size : Nat) (leg : Bool) (F : Value) (t3 : Nat) (p' : Nat) : splice (cvC id p a b n gx gy inf bits size leg F t3) 1 (natL p') = cvC id p' a b n gx gy inf bits size leg F t3 := splice_mid (cvC_at_p id p a b n gx gy inf bits size leg F t3) (cvC_len_p id) (by simp [natL_length, ptL_length]) (cvC_at_p id p' a b n gx gy inf bits size leg F t3)
theorem cvC_at_a (id : Nat) (p : Nat) (a : Nat) (b : Nat) (n : Nat) (gx gy : Nat) (inf : Bool) (bits : Nat) (size : Nat) (leg : Bool) (F : Value) (t3 : Nat) : cvC id p a b n gx gy inf bits size leg F t3 = ([.int .i64 ((id : Nat) : Int)] ++ (natL p)) ++ ((natL a) ++ (natL b ++ (natL n ++ (ptL gx gy inf ++ ([.int .i64 ((bits : Nat) : Int)] ++ ([.int .i64 ((size : Nat) : Int)] ++ ([.bool leg] ++ ([F] ++ (natL t3))))))))) := by simp only [cvC, List.append_assoc, List.append_nil, List.nil_append]
theorem cvC_len_a (id : Nat) (p : Nat) : ([.int .i64 ((id : Nat) : Int)] ++ (natL p) : List Value).length = 10 := by simp [natL_length, ptL_length]
theorem cvC_set_a (id : Nat) (p : Nat) (a : Nat) (b : Nat) (n : Nat) (gx gy : Nat) (inf : Bool) (bits : Nat) (size : Nat) (leg : Bool) (F : Value) (t3 : Nat) (a' : Nat) : splice (cvC id p a b n gx gy inf bits size leg F t3) 10 (natL a') = cvC id p a' b n gx gy inf bits size leg F t3 := splice_mid (cvC_at_a id p a b n gx gy inf bits size leg F t3) (cvC_len_a id p) (by simp [natL_length, ptL_length]) (cvC_at_a id p a' b n gx gy inf bits size leg F t3)
theorem cvC_at_b (id : Nat) (p : Nat) (a : Nat) (b : Nat) (n : Nat) (gx gy : Nat) (inf : Bool) (bits : Nat) (size : Nat) (leg : Bool) (F : Value) (t3 : Nat) : cvC id p a b n gx gy inf bits size leg F t3 = ([.int .i64 ((id : Nat) : Int)] ++ (natL p ++ (natL a))) ++ ((natL b) ++ (natL n ++ (ptL gx gy inf ++ ([.int .i64 ((bits : Nat) : Int)] ++ ([.int .i64 ((size : Nat) : Int)] ++ ([.bool leg] ++ ([F] ++ (natL t3)))))))) := by simp only [cvC, List.append_assoc, List.append_nil, List.nil_append]
theorem cvC_len_b (id : Nat) (p : Nat) (a : Nat) : ([.int .i64 ((id : Nat) : Int)] ++ (natL p ++ (natL a)) : List Value).length = 19 := by simp [natL_length, ptL_length]
theorem cvC_set_b (id : Nat) (p : Nat) (a : Nat) (b : Nat) (n : Nat) (gx gy : Nat) (inf : Bool) (bits : Nat) (size : Nat) (leg : Bool) (F : Value) (t3 : Nat) (b' : Nat) : splice (cvC id p a b n gx gy inf bits size leg F t3) 19 (natL b') = cvC id p a b' n gx gy inf bits size leg F t3 := splice_mid (cvC_at_b id p a b n gx gy inf bits size leg F t3) (cvC_len_b id p a) (by simp [natL_length, ptL_length]) (cvC_at_b id p a b' n gx gy inf bits size leg F t3)
theorem cvC_at_n (id : Nat) (p : Nat) (a : Nat) (b : Nat) (n : Nat) (gx gy : Nat) (inf : Bool) (bits : Nat) (size : Nat) (leg : Bool) (F : Value) (t3 : Nat) : cvC id p a b n gx gy inf bits size leg F t3 = ([.int .i64 ((id : Nat) : Int)] ++ (natL p ++ (natL a ++ (natL b)))) ++ ((natL n) ++ (ptL gx gy inf ++ ([.int .i64 ((bits : Nat) : Int)] ++ ([.int .i64 ((size : Nat) : Int)] ++ ([.bool leg] ++ ([F] ++ (natL t3))))))) := by simp only [cvC, List.append_assoc, List.append_nil, List.nil_append]
theorem cvC_len_n (id : Nat) (p : Nat) (a : Nat) (b : Nat) : ([.int .i64 ((id : Nat) : Int)] ++ (natL p ++ (natL a ++ (natL b))) : List Value).length = 28 := by simp [natL_length, ptL_length]
theorem cvC_set_n (id : Nat) (p : Nat) (a : Nat) (b : Nat) (n : Nat) (gx gy : Nat) (inf : Bool) (bits : Nat) (size : Nat) (leg : Bool) (F : Value) (t3 : Nat) (n' : Nat) : splice (cvC id p a b n gx gy inf bits size leg F t3) 28 (natL n') = cvC id p a b n' gx gy inf bits size leg F t3 := splice_mid (cvC_at_n id p a b n gx gy inf bits size leg F t3) (cvC_len_n id p a b) (by simp [natL_length, ptL_length]) (cvC_at_n id p a b n' gx gy inf bits size leg F t3)
theorem cvC_at_g (id : Nat) (p : Nat) (a : Nat) (b : Nat) (n : Nat) (gx gy : Nat) (inf : Bool) (bits : Nat) (size : Nat) (leg : Bool) (F : Value) (t3 : Nat) : cvC id p a b n gx gy inf bits size leg F t3 = ([.int .i64 ((id : Nat) : Int)] ++ (natL p ++ (natL a ++ (natL b ++ (natL n))))) ++ ((ptL gx gy inf) ++ ([.int .i64 ((bits : Nat) : Int)] ++ ([.int .i64 ((size : Nat) : Int)] ++ ([.bool leg] ++ ([F] ++ (natL t3)))))) := by simp only [cvC, List.append_assoc, List.append_nil, List.nil_append]
theorem cvC_len_g (id : Nat) (p : Nat) (a : Nat) (b : Nat) (n : Nat) : ([.int .i64 ((id : Nat) : Int)] ++ (natL p ++ (natL a ++ (natL b ++ (natL n)))) : List Value).length = 37 := by simp [natL_length, ptL_length]
theorem cvC_set_g (id : Nat) (p : Nat) (a : Nat) (b : Nat) (n : Nat) (gx gy : Nat) (inf : Bool) (bits : Nat) (size : Nat) (leg : Bool) (F : Value) (t3 : Nat) (gx' gy' : Nat) (inf' : Bool) : splice (cvC id p a b n gx gy inf bits size leg F t3) 37 (ptL gx' gy' inf') = cvC id p a b n gx' gy' inf' bits size leg F t3 := splice_mid (cvC_at_g id p a b n gx gy inf bits size leg F t3) (cvC_len_g id p a b n) (by simp [natL_length, ptL_length]) (cvC_at_g id p a b n gx' gy' inf' bits size leg F t3)
theorem cvC_at_bits (id : Nat) (p : Nat) (a : Nat) (b : Nat) (n : Nat) (gx gy : Nat) (inf : Bool) (bits : Nat) (size : Nat) (leg : Bool) (F : Value) (t3 : Nat) : cvC id p a b n gx gy inf bits size leg F t3 = ([.int .i64 ((id : Nat) : Int)] ++ (natL p ++ (natL a ++ (natL b ++ (natL n ++ (ptL gx gy inf)))))) ++ (([.int .i64 ((bits : Nat) : Int)]) ++ ([.int .i64 ((size : Nat) : Int)] ++ ([.bool leg] ++ ([F] ++ (natL t3))))) := by simp only [cvC, List.append_assoc, List.append_nil, List.nil_append]
theorem cvC_len_bits (id : Nat) (p : Nat) (a : Nat) (b : Nat) (n : Nat) (gx gy : Nat) (inf : Bool) : ([.int .i64 ((id : Nat) : Int)] ++ (natL p ++ (natL a ++ (natL b ++ (natL n ++ (ptL gx gy inf))))) : List Value).length = 56 := by simp [natL_length, ptL_length]
theorem cvC_set_bits (id : Nat) (p : Nat) (a : Nat) (b : Nat) (n : Nat) (gx gy : Nat) (inf : Bool) (bits : Nat) (size : Nat) (leg : Bool) (F : Value) (t3 : Nat) (bits' : Nat) : splice (cvC id p a b n gx gy inf bits size leg F t3) 56 ([.int .i64 ((bits' : Nat) : Int)]) = cvC id p a b n gx gy inf bits' size leg F t3 := splice_mid (cvC_at_bits id p a b n gx gy inf bits size leg F t3) (cvC_len_bits id p a b n gx gy inf) (by simp [natL_length, ptL_length]) (cvC_at_bits id p a b n gx gy inf bits' size leg F t3)
theorem cvC_at_size (id : Nat) (p : Nat) (a : Nat) (b : Nat) (n : Nat) (gx gy : Nat) (inf : Bool) (bits : Nat) (size : Nat) (leg : Bool) (F : Value) (t3 : Nat) : cvC id p a b n gx gy inf bits size leg F t3 = ([.int .i64 ((id : Nat) : Int)] ++ (natL p ++ (natL a ++ (natL b ++ (natL n ++ (ptL gx gy inf ++ ([.int .i64 ((bits : Nat) : Int)]))))))) ++ (([.int .i64 ((size : Nat) : Int)]) ++ ([.bool leg] ++ ([F] ++ (natL t3)))) := by simp only [cvC, List.append_assoc, List.append_nil, List.nil_append]
theorem cvC_len_size (id : Nat) (p : Nat) (a : Nat) (b : Nat) (n : Nat) (gx gy : Nat) (inf : Bool) (bits : Nat) : ([.int .i64 ((id : Nat) : Int)] ++ (natL p ++ (natL a ++ (natL b ++ (natL n ++ (ptL gx gy inf ++ ([.int .i64 ((bits : Nat) : Int)])))))) : List Value).length = 57 := by simp [natL_length, ptL_length]
theorem cvC_set_size (id : Nat) (p : Nat) (a : Nat) (b : Nat) (n : Nat) (gx gy : Nat) (inf : Bool) (bits : Nat) (size : Nat) (leg : Bool) (F : Value) (t3 : Nat) (size' : Nat) : splice (cvC id p a b n gx gy inf bits size leg F t3) 57 ([.int .i64 ((size' : Nat) : Int)]) = cvC id p a b n gx gy inf bits size' leg F t3 := splice_mid (cvC_at_size id p a b n gx gy inf bits size leg F t3) (cvC_len_size id p a b n gx gy inf bits) (by simp [natL_length, ptL_length]) (cvC_at_size id p a b n gx gy inf bits size' leg F t3)
theorem cvC_at_leg (id : Nat) (p : Nat) (a : Nat) (b : Nat) (n : Nat) (gx gy : Nat) (inf : Bool) (bits : Nat) (size : Nat) (leg : Bool) (F : Value) (t3 : Nat) : cvC id p a b n gx gy inf bits size leg F t3 = ([.int .i64 ((id : Nat) : Int)] ++ (natL p ++ (natL a ++ (natL b ++ (natL n ++ (ptL gx gy inf ++ ([.int .i64 ((bits : Nat) : Int)] ++ ([.int .i64 ((size : Nat) : Int)])))))))) ++ (([.bool leg]) ++ ([F] ++ (natL t3))) := by simp only [cvC, List.append_assoc, List.append_nil, List.nil_append]
theorem cvC_len_leg (id : Nat) (p : Nat) (a : Nat) (b : Nat) (n : Nat) (gx gy : Nat) (inf : Bool) (bits : Nat) (size : Nat) : ([.int .i64 ((id : Nat) : Int)] ++ (natL p ++ (natL a ++ (natL b ++ (natL n ++ (ptL gx gy inf ++ ([.int .i64 ((bits : Nat) : Int)] ++ ([.int .i64 ((size : Nat) : Int)]))))))) : List Value).length = 58 := by simp [natL_length, ptL_length]
theorem cvC_set_leg (id : Nat) (p : Nat) (a : Nat) (b : Nat) (n : Nat) (gx gy : Nat) (inf : Bool) (bits : Nat) (size : Nat) (leg : Bool) (F : Value) (t3 : Nat) (leg' : Bool) : splice (cvC id p a b n gx gy inf bits size leg F t3) 58 ([.bool leg']) = cvC id p a b n gx gy inf bits size leg' F t3 := splice_mid (cvC_at_leg id p a b n gx gy inf bits size leg F t3) (cvC_len_leg id p a b n gx gy inf bits size) (by simp [natL_length, ptL_length]) (cvC_at_leg id p a b n gx gy inf bits size leg' F t3)
theorem cvC_at_F (id : Nat) (p : Nat) (a : Nat) (b : Nat) (n : Nat) (gx gy : Nat) (inf : Bool) (bits : Nat) (size : Nat) (leg : Bool) (F : Value) (t3 : Nat) : cvC id p a b n gx gy inf bits size leg F t3 = ([.int .i64 ((id : Nat) : Int)] ++ (natL p ++ (natL a ++ (natL b ++ (natL n ++ (ptL gx gy inf ++ ([.int .i64 ((bits : Nat) : Int)] ++ ([.int .i64 ((size : Nat) : Int)] ++ ([.bool leg]))))))))) ++ (([F]) ++ (natL t3)) := by simp only [cvC, List.append_assoc, List.append_nil, List.nil_append]
theorem cvC_len_F (id : Nat) (p : Nat) (a : Nat) (b : Nat) (n : Nat) (gx gy : Nat) (inf : Bool) (bits : Nat) (size : Nat) (leg : Bool) : ([.int .i64 ((id : Nat) : Int)] ++ (natL p ++ (natL a ++ (natL b ++ (natL n ++ (ptL gx gy inf ++ ([.int .i64 ((bits : Nat) : Int)] ++ ([.int .i64 ((size : Nat) : Int)] ++ ([.bool leg])))))))) : List Value).length = 59 := by simp [natL_length, ptL_length]
theorem cvC_set_F (id : Nat) (p : Nat) (a : Nat) (b : Nat) (n : Nat) (gx gy : Nat) (inf : Bool) (bits : Nat) (size : Nat) (leg : Bool) (F : Value) (t3 : Nat) (F' : Value) : splice (cvC id p a b n gx gy inf bits size leg F t3) 59 ([F']) = cvC id p a b n gx gy inf bits size leg F' t3 := splice_mid (cvC_at_F id p a b n gx gy inf bits size leg F t3) (cvC_len_F id p a b n gx gy inf bits size leg) (by simp [natL_length, ptL_length]) (cvC_at_F id p a b n gx gy inf bits size leg F' t3)
theorem cvC_at_t3 (id : Nat) (p : Nat) (a : Nat) (b : Nat) (n : Nat) (gx gy : Nat) (inf : Bool) (bits : Nat) (size : Nat) (leg : Bool) (F : Value) (t3 : Nat) : cvC id p a b n gx gy inf bits size leg F t3 = ([.int .i64 ((id : Nat) : Int)] ++ (natL p ++ (natL a ++ (natL b ++ (natL n ++ (ptL gx gy inf ++ ([.int .i64 ((bits : Nat) : Int)] ++ ([.int .i64 ((size : Nat) : Int)] ++ ([.bool leg] ++ ([F])))))))))) ++ ((natL t3) ++ ([])) := by simp only [cvC, List.append_assoc, List.append_nil, List.nil_append]
theorem cvC_len_t3 (id : Nat) (p : Nat) (a : Nat) (b : Nat) (n : Nat) (gx gy : Nat) (inf : Bool) (bits : Nat) (size : Nat) (leg : Bool) (F : Value) : ([.int .i64 ((id : Nat) : Int)] ++ (natL p ++ (natL a ++ (natL b ++ (natL n ++ (ptL gx gy inf ++ ([.int .i64 ((bits : Nat) : Int)] ++ ([.int .i64 ((size : Nat) : Int)] ++ ([.bool leg] ++ ([F]))))))))) : List Value).length = 60 := by simp [natL_length, ptL_length]
theorem cvC_set_t3 (id : Nat) (p : Nat) (a : Nat) (b : Nat) (n : Nat) (gx gy : Nat) (inf : Bool) (bits : Nat) (size : Nat) (leg : Bool) (F : Value) (t3 : Nat) (t3' : Nat) : splice (cvC id p a b n gx gy inf bits size leg F t3) 60 (natL t3') = cvC id p a b n gx gy inf bits size leg F t3' := splice_mid (cvC_at_t3 id p a b n gx gy inf bits size leg F t3) (cvC_len_t3 id p a b n gx gy inf bits size leg F) (by simp [natL_length, ptL_length]) (cvC_at_t3 id p a b n gx gy inf bits size leg F t3')
theorem cvC_length (id : Nat) (p : Nat) (a : Nat) (b : Nat) (n : Nat) (gx gy : Nat) (inf : Bool) (bits : Nat) (size : Nat) (leg : Bool) (F : Value) (t3 : Nat) : (cvC id p a b n gx gy inf bits size leg F t3).length = 69 := by simp [cvC, natL_length, ptL_length]
theorem cvC_one (id : Nat) (p : Nat) (a : Nat) (b : Nat) (n : Nat) (gx gy : Nat) (inf : Bool) (bits : Nat) (size : Nat) (leg : Bool) (F : Value) (t3 : Nat) (hF : one F = true) : AllOne (cvC id p a b n gx gy inf bits size leg F t3) := by unfold cvC; repeat (first | exact natL_one _ | exact ptL_one _ _ _ | exact allOne_nil | exact allOne_cons hF allOne_nil | refine allOne_cons rfl ?_ | refine allOne_append ?_ ?_)
theorem cvC_zero : ([Value.int .i64 ((0 : Nat) : Int)] ++ (vec .u64 9 (fun _ => 0) ++ (vec .u64 9 (fun _ => 0) ++ (vec .u64 9 (fun _ => 0) ++ (vec .u64 9 (fun _ => 0) ++ (vec .u64 9 (fun _ => 0) ++ (vec .u64 9 (fun _ => 0) ++ ([Value.bool false, Value.int .i64 ((0 : Nat) : Int), Value.int .i64 ((0 : Nat) : Int), Value.bool false, Value.pointer none] ++ (vec .u64 9 (fun _ => 0))))))))) : List Value) = cvC 0 0 0 0 0 0 0 false 0 0 false (.pointer none) 0 := by
  simp only [cvC, natL, ptL, vec_zeros 9, List.append_assoc, List.cons_append, List.nil_append]
theorem fillF (F : Value) (h1 : F.cells = #[F]) : fillL [(0, 59), (59, 1), (60, 9)] ([Value.int .i64 ((0 : Nat) : Int)] ++ (vec .u64 9 (fun _ => 0) ++ (vec .u64 9 (fun _ => 0) ++ (vec .u64 9 (fun _ => 0) ++ (vec .u64 9 (fun _ => 0) ++ (vec .u64 9 (fun _ => 0) ++ (vec .u64 9 (fun _ => 0) ++ ([Value.bool false, Value.int .i64 ((0 : Nat) : Int), Value.int .i64 ((0 : Nat) : Int), Value.bool false, Value.pointer none] ++ (vec .u64 9 (fun _ => 0))))))))) ) [(1, F)] = some (cvC 0 0 0 0 0 0 0 false 0 0 false F 0) := by
  rw [cvC_zero]
  refine fillL_step (cs := [F]) rfl (by rw [h1]) rfl (cvC_at_F _ _ _ _ _ _ _ _ _ _ _ _ _) (cvC_len_F _ _ _ _ _ _ _ _ _ _ _) rfl ?_
  unfold fillL
  rw [cvC_at_F]

theorem cvC_gt_id (id : Nat) (p : Nat) (a : Nat) (b : Nat) (n : Nat) (gx gy : Nat) (inf : Bool) (bits : Nat) (size : Nat) (leg : Bool) (F : Value) (t3 : Nat) : (cvC id p a b n gx gy inf bits size leg F t3)[0]? = some (.int .i64 ((id : Nat) : Int)) := get_mid (cvC_at_id id p a b n gx gy inf bits size leg F t3) (cvC_len_id)
theorem cvC_ld_p (id : Nat) (p : Nat) (a : Nat) (b : Nat) (n : Nat) (gx gy : Nat) (inf : Bool) (bits : Nat) (size : Nat) (leg : Bool) (F : Value) (t3 : Nat) (wr : Bool) (e : TypeId) (fz : Nat × Nat) : LoadV Try.prog 25 ⟨wr, cvC id p a b n gx gy inf bits size leg F t3, e, fz⟩ 1 (.agg (natL p).toArray) := LoadV.mid Try.underlying25 rfl sz_25 (cvC_at_p id p a b n gx gy inf bits size leg F t3) (cvC_len_p id) (by simp [natL_length, ptL_length])
theorem cvC_ld_a (id : Nat) (p : Nat) (a : Nat) (b : Nat) (n : Nat) (gx gy : Nat) (inf : Bool) (bits : Nat) (size : Nat) (leg : Bool) (F : Value) (t3 : Nat) (wr : Bool) (e : TypeId) (fz : Nat × Nat) : LoadV Try.prog 25 ⟨wr, cvC id p a b n gx gy inf bits size leg F t3, e, fz⟩ 10 (.agg (natL a).toArray) := LoadV.mid Try.underlying25 rfl sz_25 (cvC_at_a id p a b n gx gy inf bits size leg F t3) (cvC_len_a id p) (by simp [natL_length, ptL_length])
theorem cvC_ld_b (id : Nat) (p : Nat) (a : Nat) (b : Nat) (n : Nat) (gx gy : Nat) (inf : Bool) (bits : Nat) (size : Nat) (leg : Bool) (F : Value) (t3 : Nat) (wr : Bool) (e : TypeId) (fz : Nat × Nat) : LoadV Try.prog 25 ⟨wr, cvC id p a b n gx gy inf bits size leg F t3, e, fz⟩ 19 (.agg (natL b).toArray) := LoadV.mid Try.underlying25 rfl sz_25 (cvC_at_b id p a b n gx gy inf bits size leg F t3) (cvC_len_b id p a) (by simp [natL_length, ptL_length])
theorem cvC_ld_n (id : Nat) (p : Nat) (a : Nat) (b : Nat) (n : Nat) (gx gy : Nat) (inf : Bool) (bits : Nat) (size : Nat) (leg : Bool) (F : Value) (t3 : Nat) (wr : Bool) (e : TypeId) (fz : Nat × Nat) : LoadV Try.prog 25 ⟨wr, cvC id p a b n gx gy inf bits size leg F t3, e, fz⟩ 28 (.agg (natL n).toArray) := LoadV.mid Try.underlying25 rfl sz_25 (cvC_at_n id p a b n gx gy inf bits size leg F t3) (cvC_len_n id p a b) (by simp [natL_length, ptL_length])
theorem cvC_ld_g (id : Nat) (p : Nat) (a : Nat) (b : Nat) (n : Nat) (gx gy : Nat) (inf : Bool) (bits : Nat) (size : Nat) (leg : Bool) (F : Value) (t3 : Nat) (wr : Bool) (e : TypeId) (fz : Nat × Nat) : LoadV Try.prog 60 ⟨wr, cvC id p a b n gx gy inf bits size leg F t3, e, fz⟩ 37 (.agg (ptL gx gy inf).toArray) := LoadV.mid Try.underlying60 rfl sz_60 (cvC_at_g id p a b n gx gy inf bits size leg F t3) (cvC_len_g id p a b n) (by simp [natL_length, ptL_length])
theorem cvC_gt_bits (id : Nat) (p : Nat) (a : Nat) (b : Nat) (n : Nat) (gx gy : Nat) (inf : Bool) (bits : Nat) (size : Nat) (leg : Bool) (F : Value) (t3 : Nat) : (cvC id p a b n gx gy inf bits size leg F t3)[56]? = some (.int .i64 ((bits : Nat) : Int)) := get_mid (cvC_at_bits id p a b n gx gy inf bits size leg F t3) (cvC_len_bits id p a b n gx gy inf)
theorem cvC_gt_size (id : Nat) (p : Nat) (a : Nat) (b : Nat) (n : Nat) (gx gy : Nat) (inf : Bool) (bits : Nat) (size : Nat) (leg : Bool) (F : Value) (t3 : Nat) : (cvC id p a b n gx gy inf bits size leg F t3)[57]? = some (.int .i64 ((size : Nat) : Int)) := get_mid (cvC_at_size id p a b n gx gy inf bits size leg F t3) (cvC_len_size id p a b n gx gy inf bits)
theorem cvC_gt_leg (id : Nat) (p : Nat) (a : Nat) (b : Nat) (n : Nat) (gx gy : Nat) (inf : Bool) (bits : Nat) (size : Nat) (leg : Bool) (F : Value) (t3 : Nat) : (cvC id p a b n gx gy inf bits size leg F t3)[58]? = some (.bool leg) := get_mid (cvC_at_leg id p a b n gx gy inf bits size leg F t3) (cvC_len_leg id p a b n gx gy inf bits size)
theorem cvC_gt_F (id : Nat) (p : Nat) (a : Nat) (b : Nat) (n : Nat) (gx gy : Nat) (inf : Bool) (bits : Nat) (size : Nat) (leg : Bool) (F : Value) (t3 : Nat) : (cvC id p a b n gx gy inf bits size leg F t3)[59]? = some (F) := get_mid (cvC_at_F id p a b n gx gy inf bits size leg F t3) (cvC_len_F id p a b n gx gy inf bits size leg)
theorem cvC_ld_t3 (id : Nat) (p : Nat) (a : Nat) (b : Nat) (n : Nat) (gx gy : Nat) (inf : Bool) (bits : Nat) (size : Nat) (leg : Bool) (F : Value) (t3 : Nat) (wr : Bool) (e : TypeId) (fz : Nat × Nat) : LoadV Try.prog 25 ⟨wr, cvC id p a b n gx gy inf bits size leg F t3, e, fz⟩ 60 (.agg (natL t3).toArray) := LoadV.mid Try.underlying25 rfl sz_25 (cvC_at_t3 id p a b n gx gy inf bits size leg F t3) (cvC_len_t3 id p a b n gx gy inf bits size leg F) (by simp [natL_length, ptL_length])
def rowsB (V : Cv) (s0 s1 s2 s3 s4 : ByteArray) : Bool := (if s0.data.toList = [45, 51] then Nat.beq (V.a + 3) V.p else hexB s0 V.a) && hexB s1 V.b && hexB s2 V.n && hexB s3 V.x && hexB s4 V.y
theorem rowsB_spec {V : Cv} {s0 s1 s2 s3 s4 : ByteArray} (h : rowsB V s0 s1 s2 s3 s4 = true) : ((s0.data.toList = [45, 51] ∧ V.a + 3 = V.p) ∨ (s0.data.toList ≠ [45, 51] ∧ hexB s0 V.a = true)) ∧ hexB s1 V.b = true ∧ hexB s2 V.n = true ∧ hexB s3 V.x = true ∧ hexB s4 V.y = true := by
  simp only [rowsB, Bool.and_eq_true] at h
  obtain ⟨⟨⟨⟨h1, h2⟩, h3⟩, h4⟩, h5⟩ := h
  refine ⟨?_, h2, h3, h4, h5⟩
  split at h1
  · exact .inl ⟨by assumption, Nat.eq_of_beq_eq_true h1⟩
  · exact .inr ⟨by assumption, h1⟩

theorem c_rows (id : Int) (w : World)  : Calls Try.prog 147 ([.int .i64 id] : List Value).toArray w (fun e w' => (∃ V, cvI id = some V ∧ ∃ v, (∃ s0 s1 s2 s3 s4, v = .agg [.string s0, .string s1, .string s2, .string s3, .string s4].toArray ∧ rowsB V s0 s1 s2 s3 s4 = true) ∧ e = .returned v ∧ Below w.heap.size w w') ∨ cvI id = none) := by
  refine calls_ro (N := 50) (rs := [.cell 2 188]) [] Try.func147 rfl Try.ntmps147 Try.results147 (Nat.le_of_ble_eq_true rfl) trivial rfl ?_
  show LCode _ _ _ ⟨_, _⟩ _
  refine LCode.seq ?_
  refine LCode.region ?_
  refine LOps.step rfl (LStep.w (LStep.makes (Makes.allocA zr_188) (Nat.le_of_ble_eq_true rfl) (fun b2 => ?_)))
  refine LOps.nil ?_
  refine LCode.seq ?_
  refine LCode.seq ?_
  refine LCode.region ?_
  refine LOps.detP (Det.move rfl) (Nat.le_of_ble_eq_true rfl) ?_
  refine LOps.nil ?_
  refine LCode.block ?_
  refine LCode.seq ?_
  refine LCode.region ?_
  refine LOps.detP (Det.bin (v := .bool (decide (id = 1))) rfl rfl br_eqI) (Nat.le_of_ble_eq_true rfl) ?_
  refine LOps.detP (Det.assign rfl) (Nat.le_of_ble_eq_true rfl) ?_
  refine LOps.nil ?_
  first | refine LCode.condD rfl (fun hk1 => ?_) (fun hk1 => ?_) | refine LCode.cond rfl (fun hk1 => ?_) (fun hk1 => ?_)
  ·
    refine LCode.seq ?_
    refine LCode.region ?_
    refine LOps.detP (Det.buildN (n := 5) pl_188 zr_188 rfl rfl rfl rfl rfl) (Nat.le_of_ble_eq_true rfl) ?_
    refine LOps.step rfl (LStepW.storeA rfl rfl sz_188 (by repeat (first | exact allOne_nil | refine allOne_cons rfl ?_)) (by repeat (first | exact SetAt.head _ | apply SetAt.tail)) (by rfl) ?_)
    refine LOps.nil ?_
    refine LCode.ret ?_
    refine ⟨[_], .cons ⟨_, _, _, rfl, (by repeat (first | exact List.Mem.head _ | apply List.Mem.tail)), by exact LoadV.whole Try.underlying188 rfl sz_188⟩ .nil, fun a w' hr => ?_⟩
    exact .inl ⟨cv1, by rw [hk1]; rfl, _, ⟨_, _, _, _, _, rfl, by kernel_rfl⟩, rfl, hr.fr.below⟩
  ·
    refine LCode.seq ?_
    refine LCode.region ?_
    refine LOps.detP (Det.bin (v := .bool (decide (id = 2))) rfl rfl br_eqI) (Nat.le_of_ble_eq_true rfl) ?_
    refine LOps.detP (Det.assign rfl) (Nat.le_of_ble_eq_true rfl) ?_
    refine LOps.nil ?_
    first | refine LCode.condD rfl (fun hk2 => ?_) (fun hk2 => ?_) | refine LCode.cond rfl (fun hk2 => ?_) (fun hk2 => ?_)
    ·
      refine LCode.seq ?_
      refine LCode.region ?_
      refine LOps.detP (Det.buildN (n := 5) pl_188 zr_188 rfl rfl rfl rfl rfl) (Nat.le_of_ble_eq_true rfl) ?_
      refine LOps.step rfl (LStepW.storeA rfl rfl sz_188 (by repeat (first | exact allOne_nil | refine allOne_cons rfl ?_)) (by repeat (first | exact SetAt.head _ | apply SetAt.tail)) (by rfl) ?_)
      refine LOps.nil ?_
      refine LCode.ret ?_
      refine ⟨[_], .cons ⟨_, _, _, rfl, (by repeat (first | exact List.Mem.head _ | apply List.Mem.tail)), by exact LoadV.whole Try.underlying188 rfl sz_188⟩ .nil, fun a w' hr => ?_⟩
      exact .inl ⟨cv2, by rw [hk2]; rfl, _, ⟨_, _, _, _, _, rfl, by kernel_rfl⟩, rfl, hr.fr.below⟩
    ·
      refine LCode.seq ?_
      refine LCode.region ?_
      refine LOps.detP (Det.bin (v := .bool (decide (id = 3))) rfl rfl br_eqI) (Nat.le_of_ble_eq_true rfl) ?_
      refine LOps.detP (Det.assign rfl) (Nat.le_of_ble_eq_true rfl) ?_
      refine LOps.nil ?_
      first | refine LCode.condD rfl (fun hk3 => ?_) (fun hk3 => ?_) | refine LCode.cond rfl (fun hk3 => ?_) (fun hk3 => ?_)
      ·
        refine LCode.seq ?_
        refine LCode.region ?_
        refine LOps.detP (Det.buildN (n := 5) pl_188 zr_188 rfl rfl rfl rfl rfl) (Nat.le_of_ble_eq_true rfl) ?_
        refine LOps.step rfl (LStepW.storeA rfl rfl sz_188 (by repeat (first | exact allOne_nil | refine allOne_cons rfl ?_)) (by repeat (first | exact SetAt.head _ | apply SetAt.tail)) (by rfl) ?_)
        refine LOps.nil ?_
        refine LCode.ret ?_
        refine ⟨[_], .cons ⟨_, _, _, rfl, (by repeat (first | exact List.Mem.head _ | apply List.Mem.tail)), by exact LoadV.whole Try.underlying188 rfl sz_188⟩ .nil, fun a w' hr => ?_⟩
        exact .inl ⟨cv3, by rw [hk3]; rfl, _, ⟨_, _, _, _, _, rfl, by kernel_rfl⟩, rfl, hr.fr.below⟩
      ·
        refine LCode.seq ?_
        refine LCode.region ?_
        refine LOps.detP (Det.bin (v := .bool (decide (id = 4))) rfl rfl br_eqI) (Nat.le_of_ble_eq_true rfl) ?_
        refine LOps.detP (Det.assign rfl) (Nat.le_of_ble_eq_true rfl) ?_
        refine LOps.nil ?_
        first | refine LCode.condD rfl (fun hk4 => ?_) (fun hk4 => ?_) | refine LCode.cond rfl (fun hk4 => ?_) (fun hk4 => ?_)
        ·
          refine LCode.seq ?_
          refine LCode.region ?_
          refine LOps.detP (Det.buildN (n := 5) pl_188 zr_188 rfl rfl rfl rfl rfl) (Nat.le_of_ble_eq_true rfl) ?_
          refine LOps.step rfl (LStepW.storeA rfl rfl sz_188 (by repeat (first | exact allOne_nil | refine allOne_cons rfl ?_)) (by repeat (first | exact SetAt.head _ | apply SetAt.tail)) (by rfl) ?_)
          refine LOps.nil ?_
          refine LCode.ret ?_
          refine ⟨[_], .cons ⟨_, _, _, rfl, (by repeat (first | exact List.Mem.head _ | apply List.Mem.tail)), by exact LoadV.whole Try.underlying188 rfl sz_188⟩ .nil, fun a w' hr => ?_⟩
          exact .inl ⟨cv4, by rw [hk4]; rfl, _, ⟨_, _, _, _, _, rfl, by kernel_rfl⟩, rfl, hr.fr.below⟩
        ·
          refine LCode.seq ?_
          refine LCode.region ?_
          refine LOps.detP (Det.bin (v := .bool (decide (id = 5))) rfl rfl br_eqI) (Nat.le_of_ble_eq_true rfl) ?_
          refine LOps.detP (Det.assign rfl) (Nat.le_of_ble_eq_true rfl) ?_
          refine LOps.nil ?_
          first | refine LCode.condD rfl (fun hk5 => ?_) (fun hk5 => ?_) | refine LCode.cond rfl (fun hk5 => ?_) (fun hk5 => ?_)
          ·
            refine LCode.seq ?_
            refine LCode.region ?_
            refine LOps.detP (Det.buildN (n := 5) pl_188 zr_188 rfl rfl rfl rfl rfl) (Nat.le_of_ble_eq_true rfl) ?_
            refine LOps.step rfl (LStepW.storeA rfl rfl sz_188 (by repeat (first | exact allOne_nil | refine allOne_cons rfl ?_)) (by repeat (first | exact SetAt.head _ | apply SetAt.tail)) (by rfl) ?_)
            refine LOps.nil ?_
            refine LCode.ret ?_
            refine ⟨[_], .cons ⟨_, _, _, rfl, (by repeat (first | exact List.Mem.head _ | apply List.Mem.tail)), by exact LoadV.whole Try.underlying188 rfl sz_188⟩ .nil, fun a w' hr => ?_⟩
            exact .inl ⟨cv5, by rw [hk5]; rfl, _, ⟨_, _, _, _, _, rfl, by kernel_rfl⟩, rfl, hr.fr.below⟩
          ·
            refine LCode.seq ?_
            refine LCode.region ?_
            refine LOps.detP (Det.bin (v := .bool (decide (id = 6))) rfl rfl br_eqI) (Nat.le_of_ble_eq_true rfl) ?_
            refine LOps.detP (Det.assign rfl) (Nat.le_of_ble_eq_true rfl) ?_
            refine LOps.nil ?_
            first | refine LCode.condD rfl (fun hk6 => ?_) (fun hk6 => ?_) | refine LCode.cond rfl (fun hk6 => ?_) (fun hk6 => ?_)
            ·
              refine LCode.seq ?_
              refine LCode.region ?_
              refine LOps.detP (Det.buildN (n := 5) pl_188 zr_188 rfl rfl rfl rfl rfl) (Nat.le_of_ble_eq_true rfl) ?_
              refine LOps.step rfl (LStepW.storeA rfl rfl sz_188 (by repeat (first | exact allOne_nil | refine allOne_cons rfl ?_)) (by repeat (first | exact SetAt.head _ | apply SetAt.tail)) (by rfl) ?_)
              refine LOps.nil ?_
              refine LCode.ret ?_
              refine ⟨[_], .cons ⟨_, _, _, rfl, (by repeat (first | exact List.Mem.head _ | apply List.Mem.tail)), by exact LoadV.whole Try.underlying188 rfl sz_188⟩ .nil, fun a w' hr => ?_⟩
              exact .inl ⟨cv6, by rw [hk6]; rfl, _, ⟨_, _, _, _, _, rfl, by kernel_rfl⟩, rfl, hr.fr.below⟩
            ·
              refine LCode.seq ?_
              refine LCode.region ?_
              refine LOps.detP (Det.bin (v := .bool (decide (id = 7))) rfl rfl br_eqI) (Nat.le_of_ble_eq_true rfl) ?_
              refine LOps.detP (Det.assign rfl) (Nat.le_of_ble_eq_true rfl) ?_
              refine LOps.nil ?_
              first | refine LCode.condD rfl (fun hk7 => ?_) (fun hk7 => ?_) | refine LCode.cond rfl (fun hk7 => ?_) (fun hk7 => ?_)
              ·
                refine LCode.seq ?_
                refine LCode.region ?_
                refine LOps.detP (Det.buildN (n := 5) pl_188 zr_188 rfl rfl rfl rfl rfl) (Nat.le_of_ble_eq_true rfl) ?_
                refine LOps.step rfl (LStepW.storeA rfl rfl sz_188 (by repeat (first | exact allOne_nil | refine allOne_cons rfl ?_)) (by repeat (first | exact SetAt.head _ | apply SetAt.tail)) (by rfl) ?_)
                refine LOps.nil ?_
                refine LCode.ret ?_
                refine ⟨[_], .cons ⟨_, _, _, rfl, (by repeat (first | exact List.Mem.head _ | apply List.Mem.tail)), by exact LoadV.whole Try.underlying188 rfl sz_188⟩ .nil, fun a w' hr => ?_⟩
                exact .inl ⟨cv7, by rw [hk7]; rfl, _, ⟨_, _, _, _, _, rfl, by kernel_rfl⟩, rfl, hr.fr.below⟩
              ·
                refine LCode.seq ?_
                refine LCode.region ?_
                refine LOps.detP (Det.bin (v := .bool (decide (id = 8))) rfl rfl br_eqI) (Nat.le_of_ble_eq_true rfl) ?_
                refine LOps.detP (Det.assign rfl) (Nat.le_of_ble_eq_true rfl) ?_
                refine LOps.nil ?_
                first | refine LCode.condD rfl (fun hk8 => ?_) (fun hk8 => ?_) | refine LCode.cond rfl (fun hk8 => ?_) (fun hk8 => ?_)
                ·
                  refine LCode.seq ?_
                  refine LCode.region ?_
                  refine LOps.detP (Det.buildN (n := 5) pl_188 zr_188 rfl rfl rfl rfl rfl) (Nat.le_of_ble_eq_true rfl) ?_
                  refine LOps.step rfl (LStepW.storeA rfl rfl sz_188 (by repeat (first | exact allOne_nil | refine allOne_cons rfl ?_)) (by repeat (first | exact SetAt.head _ | apply SetAt.tail)) (by rfl) ?_)
                  refine LOps.nil ?_
                  refine LCode.ret ?_
                  refine ⟨[_], .cons ⟨_, _, _, rfl, (by repeat (first | exact List.Mem.head _ | apply List.Mem.tail)), by exact LoadV.whole Try.underlying188 rfl sz_188⟩ .nil, fun a w' hr => ?_⟩
                  exact .inl ⟨cv8, by rw [hk8]; rfl, _, ⟨_, _, _, _, _, rfl, by kernel_rfl⟩, rfl, hr.fr.below⟩
                ·
                  refine LCode.seq ?_
                  refine LCode.region ?_
                  refine LOps.detP (Det.bin (v := .bool (decide (id = 9))) rfl rfl br_eqI) (Nat.le_of_ble_eq_true rfl) ?_
                  refine LOps.detP (Det.assign rfl) (Nat.le_of_ble_eq_true rfl) ?_
                  refine LOps.nil ?_
                  first | refine LCode.condD rfl (fun hk9 => ?_) (fun hk9 => ?_) | refine LCode.cond rfl (fun hk9 => ?_) (fun hk9 => ?_)
                  ·
                    refine LCode.seq ?_
                    refine LCode.region ?_
                    refine LOps.detP (Det.buildN (n := 5) pl_188 zr_188 rfl rfl rfl rfl rfl) (Nat.le_of_ble_eq_true rfl) ?_
                    refine LOps.step rfl (LStepW.storeA rfl rfl sz_188 (by repeat (first | exact allOne_nil | refine allOne_cons rfl ?_)) (by repeat (first | exact SetAt.head _ | apply SetAt.tail)) (by rfl) ?_)
                    refine LOps.nil ?_
                    refine LCode.ret ?_
                    refine ⟨[_], .cons ⟨_, _, _, rfl, (by repeat (first | exact List.Mem.head _ | apply List.Mem.tail)), by exact LoadV.whole Try.underlying188 rfl sz_188⟩ .nil, fun a w' hr => ?_⟩
                    exact .inl ⟨cv9, by rw [hk9]; rfl, _, ⟨_, _, _, _, _, rfl, by kernel_rfl⟩, rfl, hr.fr.below⟩
                  ·
                    refine LCode.seq ?_
                    refine LCode.region ?_
                    refine LOps.detP (Det.bin (v := .bool (decide (id = 10))) rfl rfl br_eqI) (Nat.le_of_ble_eq_true rfl) ?_
                    refine LOps.detP (Det.assign rfl) (Nat.le_of_ble_eq_true rfl) ?_
                    refine LOps.nil ?_
                    first | refine LCode.condD rfl (fun hk10 => ?_) (fun hk10 => ?_) | refine LCode.cond rfl (fun hk10 => ?_) (fun hk10 => ?_)
                    ·
                      refine LCode.seq ?_
                      refine LCode.region ?_
                      refine LOps.detP (Det.buildN (n := 5) pl_188 zr_188 rfl rfl rfl rfl rfl) (Nat.le_of_ble_eq_true rfl) ?_
                      refine LOps.step rfl (LStepW.storeA rfl rfl sz_188 (by repeat (first | exact allOne_nil | refine allOne_cons rfl ?_)) (by repeat (first | exact SetAt.head _ | apply SetAt.tail)) (by rfl) ?_)
                      refine LOps.nil ?_
                      refine LCode.ret ?_
                      refine ⟨[_], .cons ⟨_, _, _, rfl, (by repeat (first | exact List.Mem.head _ | apply List.Mem.tail)), by exact LoadV.whole Try.underlying188 rfl sz_188⟩ .nil, fun a w' hr => ?_⟩
                      exact .inl ⟨cv10, by rw [hk10]; rfl, _, ⟨_, _, _, _, _, rfl, by kernel_rfl⟩, rfl, hr.fr.below⟩
                    ·
                      refine LCode.seq ?_
                      refine LCode.region ?_
                      refine LOps.detP (Det.bin (v := .bool (decide (id = 11))) rfl rfl br_eqI) (Nat.le_of_ble_eq_true rfl) ?_
                      refine LOps.detP (Det.assign rfl) (Nat.le_of_ble_eq_true rfl) ?_
                      refine LOps.nil ?_
                      first | refine LCode.condD rfl (fun hk11 => ?_) (fun hk11 => ?_) | refine LCode.cond rfl (fun hk11 => ?_) (fun hk11 => ?_)
                      ·
                        refine LCode.seq ?_
                        refine LCode.region ?_
                        refine LOps.detP (Det.buildN (n := 5) pl_188 zr_188 rfl rfl rfl rfl rfl) (Nat.le_of_ble_eq_true rfl) ?_
                        refine LOps.step rfl (LStepW.storeA rfl rfl sz_188 (by repeat (first | exact allOne_nil | refine allOne_cons rfl ?_)) (by repeat (first | exact SetAt.head _ | apply SetAt.tail)) (by rfl) ?_)
                        refine LOps.nil ?_
                        refine LCode.ret ?_
                        refine ⟨[_], .cons ⟨_, _, _, rfl, (by repeat (first | exact List.Mem.head _ | apply List.Mem.tail)), by exact LoadV.whole Try.underlying188 rfl sz_188⟩ .nil, fun a w' hr => ?_⟩
                        exact .inl ⟨cv11, by rw [hk11]; rfl, _, ⟨_, _, _, _, _, rfl, by kernel_rfl⟩, rfl, hr.fr.below⟩
                      ·
                        refine LCode.seq ?_
                        refine LCode.region ?_
                        refine LOps.detP (Det.bin (v := .bool (decide (id = 12))) rfl rfl br_eqI) (Nat.le_of_ble_eq_true rfl) ?_
                        refine LOps.detP (Det.assign rfl) (Nat.le_of_ble_eq_true rfl) ?_
                        refine LOps.nil ?_
                        first | refine LCode.condD rfl (fun hk12 => ?_) (fun hk12 => ?_) | refine LCode.cond rfl (fun hk12 => ?_) (fun hk12 => ?_)
                        ·
                          refine LCode.seq ?_
                          refine LCode.region ?_
                          refine LOps.detP (Det.buildN (n := 5) pl_188 zr_188 rfl rfl rfl rfl rfl) (Nat.le_of_ble_eq_true rfl) ?_
                          refine LOps.step rfl (LStepW.storeA rfl rfl sz_188 (by repeat (first | exact allOne_nil | refine allOne_cons rfl ?_)) (by repeat (first | exact SetAt.head _ | apply SetAt.tail)) (by rfl) ?_)
                          refine LOps.nil ?_
                          refine LCode.ret ?_
                          refine ⟨[_], .cons ⟨_, _, _, rfl, (by repeat (first | exact List.Mem.head _ | apply List.Mem.tail)), by exact LoadV.whole Try.underlying188 rfl sz_188⟩ .nil, fun a w' hr => ?_⟩
                          exact .inl ⟨cv12, by rw [hk12]; rfl, _, ⟨_, _, _, _, _, rfl, by kernel_rfl⟩, rfl, hr.fr.below⟩
                        ·
                          refine LCode.seq ?_
                          refine LCode.region ?_
                          refine LOps.detP (Det.bin (v := .bool (decide (id = 13))) rfl rfl br_eqI) (Nat.le_of_ble_eq_true rfl) ?_
                          refine LOps.detP (Det.assign rfl) (Nat.le_of_ble_eq_true rfl) ?_
                          refine LOps.nil ?_
                          first | refine LCode.condD rfl (fun hk13 => ?_) (fun hk13 => ?_) | refine LCode.cond rfl (fun hk13 => ?_) (fun hk13 => ?_)
                          ·
                            refine LCode.seq ?_
                            refine LCode.region ?_
                            refine LOps.detP (Det.buildN (n := 5) pl_188 zr_188 rfl rfl rfl rfl rfl) (Nat.le_of_ble_eq_true rfl) ?_
                            refine LOps.step rfl (LStepW.storeA rfl rfl sz_188 (by repeat (first | exact allOne_nil | refine allOne_cons rfl ?_)) (by repeat (first | exact SetAt.head _ | apply SetAt.tail)) (by rfl) ?_)
                            refine LOps.nil ?_
                            refine LCode.ret ?_
                            refine ⟨[_], .cons ⟨_, _, _, rfl, (by repeat (first | exact List.Mem.head _ | apply List.Mem.tail)), by exact LoadV.whole Try.underlying188 rfl sz_188⟩ .nil, fun a w' hr => ?_⟩
                            exact .inl ⟨cv13, by rw [hk13]; rfl, _, ⟨_, _, _, _, _, rfl, by kernel_rfl⟩, rfl, hr.fr.below⟩
                          ·
                            refine LCode.seq ?_
                            refine LCode.region ?_
                            refine LOps.detP (Det.bin (v := .bool (decide (id = 14))) rfl rfl br_eqI) (Nat.le_of_ble_eq_true rfl) ?_
                            refine LOps.detP (Det.assign rfl) (Nat.le_of_ble_eq_true rfl) ?_
                            refine LOps.nil ?_
                            first | refine LCode.condD rfl (fun hk14 => ?_) (fun hk14 => ?_) | refine LCode.cond rfl (fun hk14 => ?_) (fun hk14 => ?_)
                            ·
                              refine LCode.seq ?_
                              refine LCode.region ?_
                              refine LOps.detP (Det.buildN (n := 5) pl_188 zr_188 rfl rfl rfl rfl rfl) (Nat.le_of_ble_eq_true rfl) ?_
                              refine LOps.step rfl (LStepW.storeA rfl rfl sz_188 (by repeat (first | exact allOne_nil | refine allOne_cons rfl ?_)) (by repeat (first | exact SetAt.head _ | apply SetAt.tail)) (by rfl) ?_)
                              refine LOps.nil ?_
                              refine LCode.ret ?_
                              refine ⟨[_], .cons ⟨_, _, _, rfl, (by repeat (first | exact List.Mem.head _ | apply List.Mem.tail)), by exact LoadV.whole Try.underlying188 rfl sz_188⟩ .nil, fun a w' hr => ?_⟩
                              exact .inl ⟨cv14, by rw [hk14]; rfl, _, ⟨_, _, _, _, _, rfl, by kernel_rfl⟩, rfl, hr.fr.below⟩
                            ·
                              refine LCode.seq ?_
                              refine LCode.region ?_
                              refine LOps.detP (Det.bin (v := .bool (decide (id = 15))) rfl rfl br_eqI) (Nat.le_of_ble_eq_true rfl) ?_
                              refine LOps.detP (Det.assign rfl) (Nat.le_of_ble_eq_true rfl) ?_
                              refine LOps.nil ?_
                              first | refine LCode.condD rfl (fun hk15 => ?_) (fun hk15 => ?_) | refine LCode.cond rfl (fun hk15 => ?_) (fun hk15 => ?_)
                              ·
                                refine LCode.seq ?_
                                refine LCode.region ?_
                                refine LOps.detP (Det.buildN (n := 5) pl_188 zr_188 rfl rfl rfl rfl rfl) (Nat.le_of_ble_eq_true rfl) ?_
                                refine LOps.step rfl (LStepW.storeA rfl rfl sz_188 (by repeat (first | exact allOne_nil | refine allOne_cons rfl ?_)) (by repeat (first | exact SetAt.head _ | apply SetAt.tail)) (by rfl) ?_)
                                refine LOps.nil ?_
                                refine LCode.ret ?_
                                refine ⟨[_], .cons ⟨_, _, _, rfl, (by repeat (first | exact List.Mem.head _ | apply List.Mem.tail)), by exact LoadV.whole Try.underlying188 rfl sz_188⟩ .nil, fun a w' hr => ?_⟩
                                exact .inl ⟨cv15, by rw [hk15]; rfl, _, ⟨_, _, _, _, _, rfl, by kernel_rfl⟩, rfl, hr.fr.below⟩
                              ·
                                refine LCode.skip ?_
                                refine LCode.seq ?_
                                refine LCode.region ?_
                                refine LOps.detP (Slots.cast (Det.build pl_188 zr_188 rfl rfl) (show _ = Value.agg [.string ⟨#[]⟩, .string ⟨#[]⟩, .string ⟨#[]⟩, .string ⟨#[]⟩, .string ⟨#[]⟩].toArray from rfl)) (Nat.le_of_ble_eq_true rfl) ?_
                                refine LOps.step rfl (LStepW.storeA rfl rfl sz_188 (by repeat (first | exact allOne_nil | refine allOne_cons rfl ?_)) (by repeat (first | exact SetAt.head _ | apply SetAt.tail)) (by rfl) ?_)
                                refine LOps.nil ?_
                                refine LCode.ret ?_
                                refine ⟨[_], .cons ⟨_, _, _, rfl, (by repeat (first | exact List.Mem.head _ | apply List.Mem.tail)), by exact LoadV.whole Try.underlying188 rfl sz_188⟩ .nil, fun a w' hr => ?_⟩
                                exact .inr (cvI_none hk1 hk2 hk3 hk4 hk5 hk6 hk7 hk8 hk9 hk10 hk11 hk12 hk13 hk14 hk15)

theorem c_rows_some (id : Int) (V : Cv) (w : World) (h : cvI id = some V) : Calls Try.prog 147 ([.int .i64 id] : List Value).toArray w (fun e w' => ∃ v, (∃ s0 s1 s2 s3 s4, v = .agg [.string s0, .string s1, .string s2, .string s3, .string s4].toArray ∧ rowsB V s0 s1 s2 s3 s4 = true) ∧ e = .returned v ∧ Below w.heap.size w w') :=
  (c_rows id w).mono fun e w' h' => by
    rcases h' with ⟨V', hV, h1⟩ | h1
    · rw [h] at hV; cases hV; exact h1
    · rw [h] at h1; cases h1

end Go.Proofs.Ytljblbgogjieaaa
