/- More rules: slices that are made, bytes and strings. -/
import Derived.Test.YtljblbgogjieaaaLw
import Derived.Laws.MakeOwn
import Derived.Laws.BytesString
set_option linter.unusedVariables false
set_option linter.unusedSimpArgs false
namespace Go.Proofs.Ytljblbgogjieaaa
open Go Go.RowKit

theorem Rel.new {w w' : World} {N : Nat} {st : St} {a : Act} {b : Nat} {B : Blk} (h : Rel ⟨w, NoW, N⟩ st a w') (hm : Item.blk b B ∈ st.H) (hw : B.wr = true) : w.heap.size ≤ b := by
  rcases h.own _ hm hw b (by simp [Item.fp]) with h | h
  · exact h
  · exact h.elim
def infOf (P : Program) (e : TypeId) : Option (Value × Nat × Nat) := (P.info? e).bind fun i => i.zero.map fun z => (z, i.size, i.bytes)
theorem inf_spec {P : Program} {e : TypeId} {z : Value} {n m : Nat} (h : infOf P e = some (z, n, m)) : ∃ i, P.info? e = some i ∧ i.zero = some z ∧ i.size = n ∧ i.bytes = m := by
  unfold infOf at h
  cases hi : P.info? e with
  | none => rw [hi] at h; cases h
  | some i =>
    rw [hi] at h
    cases hz : i.zero with
    | none => simp [hz] at h
    | some z' => simp [hz] at h; exact ⟨i, rfl, by rw [hz, h.1], h.2.1, h.2.2⟩
theorem one_cells {v : Value} (h : one v = true) : v.cells = #[v] := by cases v <;> simp_all [one, Value.cells]
section
variable {P : Program} {C : Ctx} {d : Option Tmp} {ty : TypeId} {pos : String} {aft : Array Edge} {g : Option (Nat × Bool)} {st : St} {x y z : Operand} {v u : Value} {t s e : TypeId}
theorem Makes.mkS {n m : Nat} {k k' : IntKind} {zv : Value} (ht : P.underlying t = some (.slice e)) (hi : infOf P e = some (zv, 1, m)) (h1 : one zv = true) (hx : evT st.T x = some (.int k (n : Int))) (hy : evT st.T y = some (.int k' (n : Int)))
    (hb : m * n ≤ 281474976710656) (h63 : n < 9223372036854775808) : Makes P C ⟨d, .makeSlice t x y, ty, pos, aft, g⟩ st (List.replicate n zv) e (fun b => .slice (some ⟨b, 0, none⟩) n n) := by
  unfold Makes
  intro a w hr
  obtain ⟨i, h2, h3, h4, h5⟩ := inf_spec hi
  have hb' : (i.bytes : Int) * (n : Int) ≤ 281474976710656 := by
    have h : ((i.bytes * n : Nat) : Int) ≤ 281474976710656 := by rw [h5]; omega
    rwa [Int.natCast_mul] at h
  have hrun := run_make (P := P) w t e i zv ht h2 h3 k k' n n (by omega) (by omega) hb' (by omega)
  simp only [Int.toNat_natCast, h4, Nat.mul_one] at hrun
  have hc : madeCells zv.cells n = (List.replicate n zv).toArray := by
    rw [one_cells h1]
    apply Array.ext
    · simp [madeCells]
    · intro j hj1 hj2
      simp [madeCells, Nat.mod_one]
  rw [hc] at hrun
  simp [execOp, hr.ev hx, hr.ev hy, hrun]
theorem vec_zero (k : IntKind) (n : Nat) : List.replicate n (Value.int k ((0 : Nat) : Int)) = vec k n (fun _ => 0) := by
  unfold vec
  apply List.ext_getElem?
  intro i
  by_cases h : i < n
  · simp [List.getElem?_replicate, h]
  · simp [List.getElem?_replicate, h]
theorem Makes.mkV {n m : Nat} {k k' kk : IntKind} (ht : P.underlying t = some (.slice e)) (hi : infOf P e = some (.int kk ((0 : Nat) : Int), 1, m)) (hx : evT st.T x = some (.int k (n : Int))) (hy : evT st.T y = some (.int k' (n : Int)))
    (hb : m * n ≤ 281474976710656) (h63 : n < 9223372036854775808) : Makes P C ⟨d, .makeSlice t x y, ty, pos, aft, g⟩ st (vec kk n (fun _ => 0)) e (fun b => .slice (some ⟨b, 0, none⟩) n n) := by
  rw [← vec_zero]; exact Makes.mkS ht hi rfl hx hy hb h63
def strOf (l : List UInt8) : ByteArray := ⟨l.toArray⟩
theorem fold_push : ∀ (ns : List Int) (s : ByteArray), ns.foldl (fun r n => r.push (UInt8.ofNat n.toNat)) s = strOf (s.data.toList ++ ns.map fun n => UInt8.ofNat n.toNat)
  | [], s => by cases s; simp [strOf]
  | n :: ns, s => by
    rw [List.foldl_cons, fold_push ns]
    simp [ByteArray.push]
theorem Det.bytesStr {b o l c : Nat} {B : Blk} {f : Nat → Nat} (hs : P.underlying s = some (.slice e)) (he : P.underlying e = some (.int .u8)) (ht : P.underlying t = some .string) (hx : evT st.T x = some (.slice (some ⟨b, o, none⟩) l c))
    (hm : Item.blk b B ∈ st.H) (hc : (B.cells.drop o).take l = vec .u8 l f) : Det P C ⟨d, .convert s t x, ty, pos, aft, g⟩ st (.string (strOf ((List.range l).map fun i => UInt8.ofNat (f i)))) := by
  unfold Det
  intro a w hr
  have hb := hr.hp _ hm
  simp only [Item.holds] at hb
  have hload : (loadCells ⟨b, o, none⟩ l).run P w = .ok (vec .u8 l f).toArray w := by
    have := run_loadCells_list (P := P) w ⟨b, o, none⟩ (vec .u8 l f) (fun j v hv => by
      rw [← hc] at hv
      have hv' : B.cells[o + j]? = some v := by
        rw [List.getElem?_take] at hv
        split at hv
        · rwa [List.getElem?_drop] at hv
        · cases hv
      have hadd : (⟨b, o, none⟩ : Addr).add j = ⟨b, o + j, none⟩ := by unfold Addr.add; split <;> simp_all
      rw [hadd]
      simp [World.cell?, hb, hv'])
    rwa [vec_length] at this
  have hrun := run_bytesToString (P := P) w ⟨b, o, none⟩ l c ((List.range l).map fun i => (f i : Int)) (by
    rw [hload, List.map_map]; rfl)
  rw [fold_push] at hrun
  have hcv := run_convert_bytes_string (P := P) w s t e (some ⟨b, o, none⟩) l c hs he ht
  simp [execOp, hr.ev hx, hcv, hrun, Function.comp_def]
theorem Det.max0 {k : IntKind} {i : Nat} {ats : Array TypeId} (hx : evT st.T x = some (.int k (i : Int))) (hy : evT st.T y = some (.int k 0)) :
    Slots P C ⟨d, .call { callee := .builtin .max, args := #[x, y], argTypes := ats }, ty, pos, aft, g⟩ st (.int k (i : Int)) := by
  have h := Det.max (P := P) (C := C) (st := st) (d := d) (ty := ty) (pos := pos) (aft := aft) (g := g) (ts := ats) hx hy
  have e : (if (0 : Int) > (i : Int) then (0 : Int) else (i : Int)) = i := by split <;> omega
  rw [e] at h
  exact h
end
theorem fillL_step {pl : List (Nat × Nat)} {z : List Value} {i o s : Nat} {v : Value} {rest : List (Nat × Value)} {A B D cs r : List Value} (hp : pl[i]? = some (o, s)) (hv : v.cells = cs.toArray) (hs : cs.length = s) (hz : z = A ++ (B ++ D)) (hA : A.length = o) (hB : B.length = s)
    (h : fillL pl (A ++ (cs ++ D)) rest = some r) : fillL pl z ((i, v) :: rest) = some r := by
  subst hz
  unfold fillL
  simp only [hp]
  rw [if_neg (by rw [hv]; simp; omega)]
  have e : splice (A ++ (B ++ D)) o v.cells.toList = A ++ (cs ++ D) := by
    rw [hv]
    have h1 : List.drop (o + s) (A ++ (B ++ D)) = D := by
      rw [← List.drop_drop, ← hA, List.drop_left, ← hB, List.drop_left]
    have h2 : List.take o (A ++ (B ++ D)) = A := by rw [← hA, List.take_left]
    simp only [splice, hs, h1, h2, List.append_assoc]
  rw [e]; exact h
theorem fillL_whole {n : Nat} {z cs : List Value} (hz : z.length = n) (hc : cs.length = n) : fillL [(0, n)] z [(0, .agg cs.toArray)] = some cs := by
  refine (fillL_step (A := []) (B := z) (D := []) (cs := cs) rfl rfl hc (by simp) rfl hz rfl).trans ?_
  simp
section
variable {P : Program} {C : Ctx} {d : Option Tmp} {ty : TypeId} {pos : String} {aft : Array Edge} {g : Option (Nat × Bool)} {st : St} {x y z : Operand} {v u : Value} {t s e : TypeId}
theorem Det.s2a {n l c : Nat} {p : Option Addr} (ht : P.underlying t = some (.array n e)) (hx : evT st.T x = some (.slice p l c)) (h : n ≤ l) : Slots P C ⟨d, .sliceToArrayPointer t x, ty, pos, aft, g⟩ st (.pointer p) := by
  unfold Slots
  intro a w hr
  simp [execOp, hr _ _ hx, Instr.arrayAt, run_underlying ht]
  omega
end
/-! ### Equality of structs and arrays -/
def EqD (k : Nat) (P : Program) (t : TypeId) (x y : Value) (r : Bool) : Prop := ∀ d, k ≤ d → ∀ w, (Op.equalIn d t x y).run P w = .ok r w
def PartOf (P : Program) (t : TypeId) (cs : Array Value) (o : Nat) (v : Value) : Prop := ∀ w, (part t cs o).run P w = .ok v w
def EqFs (k : Nat) (P : Program) (xs ys : Array Value) (fs : List Field) (r : Bool) : Prop := ∀ d, k ≤ d → ∀ w, (Op.eqFields d xs ys fs).run P w = .ok r w
section
variable {P : Program} {t e : TypeId} {xs ys : Array Value} {x y : Value} {r r2 : Bool} {k : Nat}
theorem EqD.int {kk k' : IntKind} {a b : Int} (h : P.underlying t = some (.int k')) : EqD 1 P t (.int kk a) (.int kk b) (a == b) := by
  intro d hd w
  obtain ⟨c, rfl⟩ : ∃ c, d = c + 1 := ⟨d - 1, by omega⟩
  exact run_equalIn_int w c t kk k' a b h
theorem EqD.bool {a b : Bool} (h : P.underlying t = some .bool) : EqD 1 P t (.bool a) (.bool b) (a == b) := by
  intro d hd w
  obtain ⟨c, rfl⟩ : ∃ c, d = c + 1 := ⟨d - 1, by omega⟩
  exact run_equalIn_bool' w c t a b h
theorem EqD.str {a b : ByteArray} (h : P.underlying t = some .string) : EqD 1 P t (.string a) (.string b) (a == b) := by
  intro d hd w
  obtain ⟨c, rfl⟩ : ∃ c, d = c + 1 := ⟨d - 1, by omega⟩
  simp [Op.equalIn, run_underlying h]
theorem EqD.mono {j : Nat} (h : EqD k P t x y r) (hj : k ≤ j) : EqD j P t x y r := fun d hd w => h d (Nat.le_trans hj hd) w
theorem EqD.struct {fs : List Field} (hu : P.underlying t = some (.struct fs.toArray)) (hp : P.stoodInHeld t = false) (h : EqFs k P xs ys fs r) : EqD (k + 1) P t (.agg xs) (.agg ys) r := by
  intro d hd w
  obtain ⟨c, rfl⟩ : ∃ c, d = c + 1 := ⟨d - 1, by omega⟩
  have hf : P.fieldsOf t = fs.toArray := by simp [Program.fieldsOf, hu]
  rw [run_equalIn_struct w c t xs ys (by rw [hf]; exact hu) hp, hf]
  exact h c (by omega) w
theorem EqFs.nil : EqFs k P xs ys [] true := fun d _ w => by simp [Op.eqFields]
theorem EqFs.cons {f : Field} {fs : List Field} (hn : f.name ≠ "_") (hx : PartOf P f.type xs f.offset x) (hy : PartOf P f.type ys f.offset y) (he : EqD k P f.type x y r) (hr : EqFs k P xs ys fs r2) : EqFs k P xs ys (f :: fs) (r && r2) := by
  intro d hd w
  simp only [Op.eqFields, if_pos hn, Sem.run_bind, hx w, hy w, he d hd w, Result.andThen_ok]
  cases r
  · simp
  · simp [hr d hd w]
theorem PartOf.one {D : TypeDesc} {cs : List Value} {o : Nat} (hu : P.underlying t = some D) (hn : notAgg D = true) (h : cs[o]? = some x) : PartOf P t cs.toArray o x := by
  intro w
  cases D <;> simp_all [part, isAgg, run_underlying hu, notAgg]
theorem PartOf.agg {D : TypeDesc} {cs l : List Value} {o n : Nat} (hu : P.underlying t = some D) (hn : notAgg D = false) (hs : szOf P t = some n) (h : (cs.drop o).take n = l) : PartOf P t cs.toArray o (.agg l.toArray) := by
  intro w
  have e : cs.toArray.extract o (o + n) = l.toArray := by
    rw [← h]
    apply Array.ext'
    simp [Array.toList_extract, List.take_drop]
  cases D <;> simp_all [part, isAgg, run_underlying hu, notAgg, run_sizeOf hs]
/-- Arrays of numbers. -/
theorem EqD.nums {n : Nat} {kk k' : IntKind} {f g : Nat → Nat} {r : Bool} (hr : r = true ↔ ∀ i, i < n → f i = g i) (hu : P.underlying t = some (.array n e)) (he : P.underlying e = some (.int k')) (hs : szOf P e = some 1) : EqD 2 P t (.agg (vec kk n f).toArray) (.agg (vec kk n g).toArray) r := by
  intro d hd w
  obtain ⟨c, rfl⟩ : ∃ c, d = c + 2 := ⟨d - 2, by omega⟩
  have hp : ∀ (f : Nat → Nat) (i : Nat), i < n → ∀ w, (part e (vec kk n f).toArray i).run P w = .ok (.int kk (f i : Int)) w := fun f i hi => PartOf.one he rfl (vec_get _ _ _ hi)
  have key : ∀ (l : List Nat), (∀ i, i ∈ l → i < n) → (forIn l ((none : Option Bool), ()) (fun i (_ : Option Bool × Unit) => do
      let a ← part e (vec kk n f).toArray (i * 1)
      let b ← part e (vec kk n g).toArray (i * 1)
      let q ← Op.equalIn (c + 1) e a b
      if (!q) = true then pure (ForInStep.done (some false, ())) else pure (ForInStep.yield (none, ())))).run P w = .ok ((if ∀ i, i ∈ l → f i = g i then none else some false), ()) w := by
    intro l
    induction l with
    | nil => intro _; simp
    | cons i l ih =>
      intro hl
      have h1 := hl i (.head _)
      have h2 := ih (fun j hj => hl j (.tail _ hj))
      simp only [List.forIn_cons, Nat.mul_one] at h2 ⊢
      simp only [Sem.run_bind, hp f i h1, hp g i h1, run_equalIn_int w c e kk k' _ _ he, Result.andThen_ok]
      by_cases hfg : f i = g i
      · simp only [hfg, BEq.rfl, Bool.not_true, Bool.false_eq_true, if_false, Sem.run_pure, Result.andThen_ok, h2]
        congr 2
        simp [hfg]
      · have hne : ((f i : Int) == (g i : Int)) = false := by
          simp; omega
        simp only [hne, Bool.not_false, if_true, Sem.run_pure, Result.andThen_ok]
        congr 2
        simp [hfg]
  have hk := key (List.range' 0 n) (fun i hi => by simp [List.mem_range'] at hi; omega)
  rw [show c + 2 = (c + 1) + 1 from rfl, Op.equalIn]
  simp only [Sem.run_bind, run_underlying hu, Result.andThen_ok, run_sizeOf hs, Std.Legacy.Range.forIn_eq_forIn_range', Std.Legacy.Range.size]
  simp only [Nat.sub_zero, Nat.add_sub_cancel, Nat.div_one, hk, Result.andThen_ok]
  have e1 : (∀ i, i ∈ List.range' 0 n → f i = g i) ↔ (∀ i, i < n → f i = g i) := by simp [List.mem_range']
  by_cases h : ∀ i, i < n → f i = g i
  · rw [if_pos (e1.2 h), hr.2 h]; simp
  · have hf : r = false := by
      cases r
      · rfl
      · exact absurd (hr.1 rfl) h
    rw [if_neg (fun h' => h (e1.1 h')), hf]; simp
end
end Go.Proofs.Ytljblbgogjieaaa
