/- Numbers as slices of 32-bit digits: what a state knows of one, how its digits are read, what a call that gives one brings. -/
import Derived.Test.YtljblbgogjieaaaLx
import Derived.Test.YtljblbgogjieaaaLp
import Derived.Test.YtljblbgogjieaaaNum1
set_option linter.unusedVariables false
set_option linter.unusedSimpArgs false
namespace Go.Proofs.Ytljblbgogjieaaa
open Go Go.RowKit

section
variable {a b : Nat}
theorem br_and32 (ha : a < 4294967296) (hb : b < 4294967296) : binRes .and .u32 a .u32 b = some (.int .u32 ((a &&& b : Nat) : Int)) := by
  show some (Value.int .u32 (IntKind.u32.wrap ((BitVec.ofInt 32 (a : Int) &&& BitVec.ofInt 32 (b : Int)).toNat : Int))) = _
  rw [ofInt_nat, ofInt_nat, BitVec.toNat_and, BitVec.toNat_ofNat, BitVec.toNat_ofNat, wrap_u32_nat]
  have h1 : a % 2 ^ 32 = a := Nat.mod_eq_of_lt ha
  have h2 : b % 2 ^ 32 = b := Nat.mod_eq_of_lt hb
  have h3 : a &&& b < 4294967296 := Nat.lt_of_le_of_lt Nat.and_le_left ha
  rw [h1, h2, Nat.mod_eq_of_lt h3]
theorem br_or32 (ha : a < 4294967296) (hb : b < 4294967296) : binRes .or .u32 a .u32 b = some (.int .u32 ((a ||| b : Nat) : Int)) := by
  show some (Value.int .u32 (IntKind.u32.wrap ((BitVec.ofInt 32 (a : Int) ||| BitVec.ofInt 32 (b : Int)).toNat : Int))) = _
  rw [ofInt_nat, ofInt_nat, BitVec.toNat_or, BitVec.toNat_ofNat, BitVec.toNat_ofNat, wrap_u32_nat]
  have h1 : a % 2 ^ 32 = a := Nat.mod_eq_of_lt ha
  have h2 : b % 2 ^ 32 = b := Nat.mod_eq_of_lt hb
  have h3 : a ||| b < 2 ^ 32 := Nat.or_lt_two_pow ha hb
  rw [h1, h2, Nat.mod_eq_of_lt h3]
theorem br_shr32 {k : IntKind} (ha : a < 4294967296) : binRes .shr .u32 a k b = some (.int .u32 ((a / 2 ^ b : Nat) : Int)) := by
  have hb : ¬ ((b : Int) < 0) := by omega
  simp only [binRes, hb, if_false, IntKind.bits, Int.toNat_natCast]
  congr 2
  have : (a : Int).fdiv (2 ^ min b 32) = ((a / 2 ^ min b 32 : Nat) : Int) := by
    rw [show ((2 : Int) ^ min b 32) = ((2 ^ min b 32 : Nat) : Int) by simp, Int.fdiv_eq_ediv_of_nonneg _ (Int.natCast_nonneg _)]
    rfl
  rw [this]
  congr 1
  rcases Nat.lt_or_ge b 32 with h | h
  · rw [Nat.min_eq_left (by omega)]
  · rw [Nat.min_eq_right h]
    have h1 : a / 2 ^ 32 = 0 := Nat.div_eq_of_lt ha
    have h2 : a / 2 ^ b = 0 := Nat.div_eq_of_lt (Nat.lt_of_lt_of_le ha (Nat.pow_le_pow_right (n := 2) (by decide) h))
    rw [h1, h2]
theorem br_shl32 {k : IntKind} : binRes .shl .u32 a k b = some (.int .u32 ((a * 2 ^ b % 4294967296 : Nat) : Int)) := by
  have hb : ¬ ((b : Int) < 0) := by omega
  simp only [binRes, hb, if_false, IntKind.bits, Int.toNat_natCast]
  have : ((a : Int) * 2 ^ min b 32) = ((a * 2 ^ min b 32 : Nat) : Int) := by simp
  rw [this, wrap_u32_nat]
  congr 3
  rcases Nat.lt_or_ge b 32 with h | h
  · rw [Nat.min_eq_left (by omega)]
  · rw [Nat.min_eq_right h]
    obtain ⟨c, rfl⟩ : ∃ c, b = 32 + c := ⟨b - 32, by omega⟩
    rw [Nat.pow_add, show (2 : Nat) ^ 32 = 4294967296 from rfl, ← Nat.mul_assoc, Nat.mul_mod_left, Nat.mul_right_comm, Nat.mul_mod_left]
end
/-- Where a slice of digits lies: 'z' with no digit: nowhere. -/
structure NV where
  z : Bool
  b : Nat
  c : Nat
def pz (q : NV) (n : Nat) : Option Addr := bif q.z && Nat.beq n 0 then none else some ⟨q.b, 0, none⟩
def fpz (q : NV) (n : Nat) : List Nat := bif q.z && Nat.beq n 0 then [] else [q.b]
def numP (q : NV) (A n : Nat) (w : World) : Prop := A < 2 ^ (32 * n) ∧ ((q.z && Nat.beq n 0) = false → ∃ rest ty fz, w.heap[q.b]? = some (.cells (vec .u32 n (D.limb A) ++ rest).toArray ty fz))
def numI (q : NV) (A n : Nat) : Item := .fact (fpz q n) (numP q A n)
def slV (q : NV) (n : Nat) : Value := .slice (pz q n) n q.c
def numV (q : NV) (A : Nat) : Value := slV q (D.nw A)
def numT (q : NV) (A : Nat) : Item := numI q A (D.nw A)
theorem pz_pos (q : NV) {n i : Nat} (h : i < n) : pz q n = some ⟨q.b, 0, none⟩ ∧ fpz q n = [q.b] ∧ (q.z && Nat.beq n 0) = false := by
  have h1 : Nat.beq n 0 = false := by
    cases n with
    | zero => omega
    | succ n => rfl
  simp [pz, fpz, h1]
theorem numI_mk {w : World} {q : NV} {A n : Nat} (hA : A < 2 ^ (32 * n)) (h : (q.z && Nat.beq n 0) = false → ∃ rest ty fz, w.heap[q.b]? = some (.cells (vec .u32 n (D.limb A) ++ rest).toArray ty fz)) : (numI q A n).holds w := by
  refine ⟨?_, fun w' ha => ⟨hA, fun hz => ?_⟩⟩
  · intro k hk
    cases hz : (q.z && Nat.beq n 0) with
    | true => simp [fpz, hz] at hk
    | false =>
      simp [fpz, hz] at hk
      subst hk
      obtain ⟨rest, ty, fz, h'⟩ := h hz
      exact lt_of_get h'
  · obtain ⟨rest, ty, fz, h'⟩ := h hz
    exact ⟨rest, ty, fz, (ha _ (by simp [fpz, hz])).trans h'⟩
theorem numI_get {w : World} {q : NV} {A n : Nat} (h : (numI q A n).holds w) : A < 2 ^ (32 * n) ∧ ((q.z && Nat.beq n 0) = false → ∃ rest ty fz, w.heap[q.b]? = some (.cells (vec .u32 n (D.limb A) ++ rest).toArray ty fz)) := h.2 w (Agree.refl _ _)
theorem numI_lt {w : World} {q : NV} {A n : Nat} (h : (numI q A n).holds w) : A < 2 ^ (32 * n) := (numI_get h).1
theorem numI_nil (w : World) (b c : Nat) : (numI ⟨true, b, c⟩ 0 0).holds w := numI_mk (by decide) (fun h => by cases h)
theorem nw_zero : D.nw 0 = 0 := rfl
theorem numT_nil (w : World) (b c : Nat) : (numT ⟨true, b, c⟩ 0).holds w := numI_nil w b c
theorem numT_lt (A : Nat) : A < 2 ^ (32 * D.nw A) := D.lt_nw A
theorem nw_eq_zero {A : Nat} : D.nw A = 0 ↔ A = 0 := by
  constructor
  · intro h
    have := D.lt_nw A
    rw [h] at this
    simpa using this
  · rintro rfl; rfl
theorem vec_split {k : IntKind} {m n : Nat} (f : Nat → Nat) (h : m ≤ n) : ∃ r, vec k n f = vec k m f ++ r := by
  refine ⟨(vec k n f).drop m, ?_⟩
  have h1 : (vec k n f).take m = vec k m f := by
    simp only [vec]
    rw [← List.map_take, List.take_range, Nat.min_eq_left h]
  rw [← h1, List.take_append_drop]
/-- A row of digits in a block is a number; with fewer digits, if those beyond are noughts. -/
theorem numI_blk {w : World} {b c m n A : Nat} {rest : List Value} {wr : Bool} {ty : TypeId} {fz : Nat × Nat} (h : (Item.blk b ⟨wr, vec .u32 n (D.limb A) ++ rest, ty, fz⟩).holds w) (hm : m ≤ n) (hA : A < 2 ^ (32 * m)) : (numI ⟨false, b, c⟩ A m).holds w := by
  refine numI_mk hA (fun _ => ?_)
  obtain ⟨r, hr⟩ := vec_split (k := .u32) (D.limb A) hm
  refine ⟨r ++ rest, ty, fz, ?_⟩
  simp only [Item.holds] at h
  rw [h, hr, List.append_assoc]
theorem numI_blk0 {w : World} {b c m n A : Nat} {wr : Bool} {ty : TypeId} {fz : Nat × Nat} (h : (Item.blk b ⟨wr, vec .u32 n (D.limb A), ty, fz⟩).holds w) (hm : m ≤ n) (hA : A < 2 ^ (32 * m)) : (numI ⟨false, b, c⟩ A m).holds w := numI_blk (rest := []) (wr := wr) (ty := ty) (fz := fz) (by rw [List.append_nil]; exact h) hm hA
theorem numT_blk {w : World} {b c n A : Nat} {wr : Bool} {ty : TypeId} {fz : Nat × Nat} (h : (Item.blk b ⟨wr, vec .u32 n (D.limb A), ty, fz⟩).holds w) (hA : A < 2 ^ (32 * n)) : (numT ⟨false, b, c⟩ A).holds w := numI_blk0 h (D.nw_le hA) (D.lt_nw A)

section
variable {P : Program} {C : Ctx} {d : Option Tmp} {ty : TypeId} {pos : String} {aft : Array Edge} {g : Option (Nat × Bool)} {st : St} {x y z : Operand} {v u : Value} {t s e : TypeId}
theorem Det.indexN {q : NV} {k : IntKind} {i n c : Nat} (ht : P.underlying t = some (.slice e)) (he : szOf P e = some 1) (hx : evT st.T x = some (.slice (pz q n) n c)) (hy : evT st.T y = some (.int k (i : Int))) (h : i < n) :
    Slots P C ⟨d, .indexAddr t x y, ty, pos, aft, g⟩ st (.pointer (some ⟨q.b, i, none⟩)) := by
  rw [(pz_pos q h).1] at hx
  exact Det.indexS0 ht he hx hy h
theorem Det.loadN {q : NV} {A n i : Nat} {D0 : TypeDesc} (hu : P.underlying t = some D0) (hn : notAgg D0 = true) (hx : evT st.T x = some (.pointer (some ⟨q.b, i, none⟩))) (hm : numI q A n ∈ st.H) (h : i < n) : Det P C ⟨d, .load t x, ty, pos, aft, g⟩ st (.int .u32 (D.limb A i : Int)) := by
  unfold Det
  intro a w hr
  obtain ⟨rest, e', fz, hb⟩ := (numI_get (hr.hp _ hm)).2 (pz_pos q h).2.2
  have hv : LoadV P t ⟨true, vec .u32 n (D.limb A) ++ rest, e', fz⟩ i (.int .u32 (D.limb A i : Int)) := LoadV.one hu hn (by
    show (vec .u32 n (D.limb A) ++ rest)[i]? = _
    rw [List.getElem?_append_left (by rw [vec_length]; exact h)]
    exact vec_get _ _ _ h)
  have hrun := hv.run (b := q.b) (w := w) hb
  simp [execOp, hr.ev hx, Instr.loadAt, Instr.sureAddr, hrun]
theorem Det.loadNT {q : NV} {A i : Nat} {D0 : TypeDesc} (hu : P.underlying t = some D0) (hn : notAgg D0 = true) (hx : evT st.T x = some (.pointer (some ⟨q.b, i, none⟩))) (hm : numT q A ∈ st.H) (h : i < D.nw A) : Det P C ⟨d, .load t x, ty, pos, aft, g⟩ st (.int .u32 (D.limb A i : Int)) := Det.loadN hu hn hx hm h
theorem Det.maxN {k : IntKind} {i j : Nat} {ats : Array TypeId} (hx : evT st.T x = some (.int k (i : Int))) (hy : evT st.T y = some (.int k (j : Int))) :
    Slots P C ⟨d, .call { callee := .builtin .max, args := #[x, y], argTypes := ats }, ty, pos, aft, g⟩ st (.int k ((if i < j then j else i : Nat) : Int)) := by
  have h := Det.max (P := P) (C := C) (st := st) (d := d) (ty := ty) (pos := pos) (aft := aft) (g := g) (ts := ats) hx hy
  have e : (if (j : Int) > (i : Int) then (j : Int) else (i : Int)) = ((if i < j then j else i : Nat) : Int) := by
    split <;> split <;> omega
  rw [e] at h
  exact h
/-- A slice that is written out. -/
theorem fillS_eq (s len : Nat) : ∀ (parts : List (Nat × Value)) (z cs : List Value), fillL ((List.range len).map fun i => (i * s, s)) z parts = some cs → Instr.fill (fun i => some (i * s, s)) z.toArray parts = some cs.toArray
  | [], z, cs, h => by simp [fillL] at h; simp [Instr.fill, h]
  | (i, v) :: rest, z, cs, h => by
    unfold fillL at h
    by_cases hi : i < len
    · simp only [List.getElem?_map, List.getElem?_range hi, Option.map_some] at h
      split at h
      · cases h
      · rename_i hn
        have hn1 : v.cells.size = s := Classical.byContradiction fun e => hn (.inl e)
        have hn2 : i * s + s ≤ z.length := Nat.le_of_not_lt fun e => hn (.inr e)
        unfold Instr.fill
        have hc : (decide (v.cells.size ≠ s) || decide (i * s + v.cells.size > z.toArray.size)) = false := by
          simp; omega
        simp only [hc, Bool.false_eq_true, if_false]
        have hz : (v.cells.zipIdx.foldl (fun (cs : Array Value) (x : Value × Nat) => cs.setIfInBounds (i * s + x.2) x.1) z.toArray) = (splice z (i * s) v.cells.toList).toArray := by
          have := foldl_splice v.cells.toList z (i * s) 0 (by simp; omega)
          simp only [Nat.add_zero] at this
          rw [← this, ← Array.foldl_toList]
          congr 1
          simp
        have h2 := fillS_eq s len rest _ cs h
        rw [← h2]
        congr 1
    · rw [List.getElem?_eq_none (by simp; omega)] at h
      cases h
theorem Makes.row {len n m : Nat} {zv : Value} {ps : List (Nat × Operand)} {vs : List (Nat × Value)} {z0 cs : List Value} (ht : P.underlying t = some (.slice e)) (hi : infOf P e = some (zv, n, m)) (hl : len * n ≤ 16777216) (hz : ((Array.range (len * n)).map fun i => zv.cells[i % zv.cells.size]!) = z0.toArray) (hv : evP st.T ps = some vs)
    (hf : fillL ((List.range len).map fun i => (i * n, n)) z0 vs = some cs) (h0 : len * n = 0 → z0 = []) : Makes P C ⟨d, .buildSlice t len ps.toArray, ty, pos, aft, g⟩ st cs e (fun b => .slice (some ⟨b, 0, none⟩) len len) := by
  unfold Makes
  intro a w hr
  obtain ⟨i, h2, h3, h4, h5⟩ := inf_spec hi
  have h1 := evp_of (fun x u hx => hr.ev hx) hv
  have h6 : (ps.toArray.map fun (i, x) => (i, a.eval x)) = vs.toArray := by
    rw [← h1]; simp
  have h7 : (sizeOf e).run P w = .ok n w := by simp [sizeOf, typeInfo, Sem.run, h2, h4]
  have h8 : (zeroValue e).run P w = .ok zv w := by
    exact run_zeroValue (P := P) (t := e) (z := zv) (by simp [zrOf, h2, h3]) w
  have hle : ¬ (16777216 < len * n) := by omega
  simp only [execOp, h6, Instr.buildSlice, Sem.run_bind, run_underlying ht, h7, Result.andThen_ok]
  simp only [show (2 : Nat) ^ 24 = 16777216 from rfl, gt_iff_lt, hle, if_false]
  by_cases hz0 : len * n = 0
  · have hcs := fillS_eq n len vs z0 cs hf
    have hz1 := h0 hz0
    subst hz1
    simp only [hz0, if_true, Sem.run_bind, Sem.run_pure, Result.andThen_ok]
    have e1 : ((Array.range 0).map fun x => (#[] : Array Value)[x % (#[] : Array Value).size]!) = ([] : List Value).toArray := by simp
    rw [e1, hcs]
    simp [newRow, newObj, Sem.run]
  · have hcs := fillS_eq n len vs z0 cs hf
    simp only [hz0, if_false, Sem.run_bind, h8, Sem.run_pure, Result.andThen_ok]
    rw [hz, hcs]
    simp [newRow, newObj, Sem.run]
/-- A slice of cells of one each. -/
theorem Makes.row1 {len m : Nat} {zv : Value} {ps : List (Nat × Operand)} {vs : List (Nat × Value)} {cs : List Value} (ht : P.underlying t = some (.slice e)) (hi : infOf P e = some (zv, 1, m)) (hl : len ≤ 16777216) (h1 : one zv = true) (hv : evP st.T ps = some vs)
    (hf : fillL ((List.range len).map fun i => (i * 1, 1)) (List.replicate len zv) vs = some cs) : Makes P C ⟨d, .buildSlice t len ps.toArray, ty, pos, aft, g⟩ st cs e (fun b => .slice (some ⟨b, 0, none⟩) len len) := by
  refine Makes.row ht hi (by omega) ?_ hv hf (fun h => by rw [show len = 0 by omega]; rfl)
  rw [one_cells h1]
  apply Array.ext
  · simp
  · intro j hj1 hj2
    simp [Nat.mod_one]
end
theorem eq_str (a b : ByteArray) : (a.toList == b.toList) = decide (a.data.toList = b.data.toList) := by
  rw [ByteArray.toList_eq, ByteArray.toList_eq]
  by_cases h : a.data.toList = b.data.toList
  · rw [decide_eq_true h, h]; simp
  · rw [decide_eq_false h]; simpa using h
theorem eq_str_t {a b : ByteArray} (h : a.data.toList = b.data.toList) : (a.toList == b.toList) = true := by rw [eq_str]; exact decide_eq_true h
theorem eq_str_f {a b : ByteArray} (h : a.data.toList ≠ b.data.toList) : (a.toList == b.toList) = false := by rw [eq_str]; exact decide_eq_false h
def idxP {α : Type} : Nat → List α → List (Nat × α)
  | _, [] => []
  | i, x :: xs => (i, x) :: idxP (i + 1) xs
theorem fillL_idx {len : Nat} : ∀ (vs pre z : List Value), (∀ v, v ∈ vs → one v = true) → z.length = vs.length → pre.length + vs.length = len → fillL ((List.range len).map fun i => (i * 1, 1)) (pre ++ z) (idxP pre.length vs) = some (pre ++ vs)
  | [], pre, z, _, hz, _ => by
    have : z = [] := List.eq_nil_of_length_eq_zero hz
    simp [idxP, fillL, this]
  | v :: vs, pre, z, h1, hz, hl => by
    cases z with
    | nil => simp at hz
    | cons z0 z =>
      have hv := one_cells (h1 v (.head _))
      have ih := fillL_idx (len := len) vs (pre ++ [v]) z (fun u hu => h1 u (.tail _ hu)) (by simpa using hz) (by simp at hl ⊢; omega)
      refine fillL_step (A := pre) (B := [z0]) (D := z) (cs := [v]) (o := pre.length) (s := 1) ?_ (by rw [hv]) rfl (by simp) rfl rfl ?_
      · rw [List.getElem?_map, List.getElem?_range (by simp at hl; omega)]; simp
      · have e : pre ++ ([v] ++ z) = pre ++ [v] ++ z := by simp
        rw [e]
        simp only [List.length_append, List.length_singleton] at ih
        rw [ih]
        simp
theorem evP_idx {T : List (Nat × Value)} : ∀ (xs : List Operand) (vs : List Value) (i : Nat), evL T xs = some vs → evP T (idxP i xs) = some (idxP i vs)
  | [], vs, i, h => by simp [evL] at h; simp [h, idxP, evP]
  | x :: xs, vs, i, h => by
    simp only [evL] at h
    split at h
    · rename_i v vs' h1 h2
      injection h with h
      subst h
      simp [idxP, evP, h1, evP_idx xs vs' (i + 1) h2]
    · cases h
section
variable {P : Program} {C : Ctx} {d : Option Tmp} {ty : TypeId} {pos : String} {aft : Array Edge} {g : Option (Nat × Bool)} {st : St} {x y z : Operand} {v u : Value} {t s e : TypeId}
/-- A slice whose elements, of one cell each, are all written out. -/
theorem Makes.rowN {len m : Nat} {zv : Value} {ps : List (Nat × Operand)} {vs : List Value} (ht : P.underlying t = some (.slice e)) (hi : infOf P e = some (zv, 1, m)) (h1 : one zv = true) (hp : idxP 0 (ps.map Prod.snd) = ps) (hv : evL st.T (ps.map Prod.snd) = some vs) (hl : vs.length = len) (hb : len ≤ 16777216) (ho : vs.all one = true) :
    Makes P C ⟨d, .buildSlice t len ps.toArray, ty, pos, aft, g⟩ st vs e (fun b => .slice (some ⟨b, 0, none⟩) len len) := by
  refine Makes.row1 ht hi hb h1 (hp ▸ evP_idx _ vs 0 hv) ?_
  have := fillL_idx (len := len) vs [] (List.replicate len zv) (fun v hv => List.all_eq_true.1 ho v hv) (by simp [hl]) (by simpa using hl)
  simpa using this
theorem Det.buildN {n : Nat} {ps : List (Nat × Operand)} {vs z : List Value} (hp : plc P t = some ((List.range n).map fun i => (i * 1, 1))) (hz : zrOf P t = some (.agg z.toArray)) (hi : idxP 0 (ps.map Prod.snd) = ps) (hv : evL st.T (ps.map Prod.snd) = some vs) (hl : vs.length = n) (hlz : z.length = n) (ho : vs.all one = true) :
    Slots P C ⟨d, .build t ps.toArray, ty, pos, aft, g⟩ st (.agg vs.toArray) := by
  refine Det.build hp hz (hi ▸ evP_idx _ vs 0 hv) ?_
  have := fillL_idx (len := n) vs [] z (fun v hv => List.all_eq_true.1 ho v hv) (by omega) (by simpa using hl)
  simpa using this
theorem splice_mid {A B D cs cs0 cs' : List Value} {o : Nat} (h0 : cs0 = A ++ (B ++ D)) (hA : A.length = o) (hB : B.length = cs.length) (h1 : cs' = A ++ (cs ++ D)) : splice cs0 o cs = cs' := by
  subst h0 h1 hA
  have e1 : List.drop (A.length + cs.length) (A ++ (B ++ D)) = D := by
    rw [← List.drop_drop, List.drop_left, ← hB, List.drop_left]
  simp only [splice, e1, List.take_left, List.append_assoc]
theorem get_mid {A D cs0 : List Value} {v : Value} {o : Nat} (h0 : cs0 = A ++ (v :: D)) (hA : A.length = o) : cs0[o]? = some v := by
  subst h0 hA
  simp
theorem br_eqI {k : IntKind} {i j : Int} : binRes .eql k i k j = some (.bool (decide (i = j))) := by
  by_cases h : i = j <;> simp [binRes, h]
end
/-- What of a number is not new from 'lo' on lies in 'old'. -/
def NFr (lo : Nat) (old : List Nat) (q : NV) (n : Nat) : Prop := ∀ k, k ∈ fpz q n → lo ≤ k ∨ k ∈ old
/-- A call gives a number. -/
def NumR (w : World) (old : List Nat) (A : Nat) (mk : Value → Value) (e : Ending) (w' : World) : Prop :=
  ∃ q, e = .returned (mk (numV q A)) ∧ (numT q A).holds w' ∧ NFr w.heap.size old q (D.nw A) ∧ Below w.heap.size w w'
/-- .. gives two. -/
def Num2R (w : World) (old : List Nat) (A B : Nat) (mk : Value → Value → Value) (e : Ending) (w' : World) : Prop :=
  ∃ q r, e = .returned (mk (numV q A) (numV r B)) ∧ (numT q A).holds w' ∧ NFr w.heap.size old q (D.nw A) ∧ (numT r B).holds w' ∧ NFr w.heap.size old r (D.nw B) ∧ Below w.heap.size w w'
/-- Blocks that things known (and not ours to write) hang on. -/
inductive Old : List Item → List Nat → Prop where
  | nil (H : List Item) : Old H []
  | cons {H : List Item} {x : Item} {l : List Nat} : x ∈ H → x.wr = false → Old H l → Old H (x.fp ++ l)
theorem Old.spec {H : List Item} {l : List Nat} (h : Old H l) : ∀ k, k ∈ l → ∃ y, y ∈ H ∧ y.wr = false ∧ k ∈ y.fp := by
  induction h with
  | nil => intro k hk; cases hk
  | cons hm hw _ ih =>
    intro k hk
    rcases List.mem_append.1 hk with hk | hk
    · exact ⟨_, hm, hw, hk⟩
    · exact ih k hk
theorem Old.one {H : List Item} {x : Item} (hm : x ∈ H) (hw : x.wr = false) : Old H x.fp := by
  have := Old.cons hm hw (Old.nil H)
  rwa [List.append_nil] at this
theorem Brings.nums {w w' : World} {H its : List Item} (hb : Below w.heap.size w w') (hh : ∀ x, x ∈ its → x.holds w') (hw : ∀ x, x ∈ its → x.wr = false) (hn : ∀ x, x ∈ its → ∀ k, k ∈ x.fp → w.heap.size ≤ k ∨ ∃ y, y ∈ H ∧ y.wr = false ∧ k ∈ y.fp) : Brings w H its w' :=
  ⟨hb, hh, hn, (fun x hx hx' => by rw [hw x hx] at hx'; cases hx'), (List.pairwise_of_forall_mem_list fun x hx y hy h => by rw [hw x hx, hw y hy] at h; rcases h with h | h <;> cases h)⟩
section
variable {P : Program} {C : Ctx} {ty : TypeId} {pos : String} {aft : Array Edge} {d : Nat} {x y z : Operand} {v u : Value} {t s e : TypeId} {K : St → Prop}
/-- A call, with the world's size known to be no less than the walk's own first one. -/
theorem LStep.callZ {T : List (Nat × Value)} {H : List Item} {f : FuncId} {xs : List Operand} {vs first : List Value} {ats : Array TypeId} {Post : Value → List Item → Prop} {g : Option (Nat × Bool)} (hf : evT T x = some (.func (.func f) first.toArray #[])) (he : Enters P f) (ha : evL T xs = some vs) (hd : d < C.N)
    (hc : ∀ w, (∀ x, x ∈ H → x.holds w) → C.w0.heap.size ≤ w.heap.size → Calls P f (first ++ vs).toArray w (fun e w' => ∃ v its, Post v its ∧ e = .returned v ∧ Brings w H its w'))
    (h : ∀ v its, Post v its → K ⟨(d, v) :: T, its ++ H⟩) : LStep P C ⟨some d, .call { callee := .value x, args := xs.toArray, argTypes := ats }, ty, pos, aft, g⟩ ⟨T, H⟩ K := by
  unfold LStep
  intro a w hr Qr
  have hh := LStep.call (C := C) (d := d) (ty := ty) (pos := pos) (aft := aft) (g := g) (ats := ats) (Post := Post) (K := K) (T := T) (H := H) (xs := xs) (vs := vs) (first := first) (x := x) (P := P) hf he ha hd
  obtain ⟨fn, h1, h2, h3⟩ := he
  refine wp_callee (vs := first ++ vs) ?_ (hc w hr.hp hr.fr.size) ?_
  · have := hr.evs ha
    simp [execOp, resolve, hr.ev hf, Deferred.ofValue, invoke, run_call h1 h2 h3, this]
  · rintro e w' ⟨v, its, hp, rfl, hb⟩
    exact ⟨v, rfl, hb.below, _, h v its hp, (hr.brings hb).put hd v⟩
theorem LExt.callZ {T : List (Nat × Value)} {H : List Item} {f : FuncId} {xs : List Operand} {vs first : List Value} {ats : Array TypeId} {Post : Value → List Item → Prop} {g : Option (Nat × Bool)} (hf : evT T x = some (.func (.func f) first.toArray #[])) (he : Enters P f) (ha : evL T xs = some vs)
    (hc : ∀ w, (∀ x, x ∈ H → x.holds w) → C.w0.heap.size ≤ w.heap.size → Calls P f (first ++ vs).toArray w (fun e w' => ∃ v its, Post v its ∧ e = .returned v ∧ Brings w H its w')) :
    LExt P C ⟨some d, .call { callee := .value x, args := xs.toArray, argTypes := ats }, ty, pos, aft, g⟩ T H Post := by
  intro a w hr Qr
  obtain ⟨fn, h1, h2, h3⟩ := he
  refine wp_callee (vs := first ++ vs) ?_ (hc w hr.hp hr.fr.size) ?_
  · have := hr.evs ha
    simp [execOp, resolve, hr.ev hf, Deferred.ofValue, invoke, run_call h1 h2 h3, this]
  · rintro e w' ⟨v, its, hp, rfl, hb⟩
    exact ⟨v, rfl, v, its, hp, rfl, hb⟩
/-- What the caller learns of a number. -/
def NumQ (lo : Nat) (old : List Nat) (A : Nat) (mk : Value → Value) (v : Value) (its : List Item) : Prop := ∃ q, v = mk (numV q A) ∧ its = [numT q A] ∧ NFr lo old q (D.nw A)
def Num2Q (lo : Nat) (old : List Nat) (A B : Nat) (mk : Value → Value → Value) (v : Value) (its : List Item) : Prop := ∃ q r, v = mk (numV q A) (numV r B) ∧ its = [numT q A, numT r B] ∧ NFr lo old q (D.nw A) ∧ NFr lo old r (D.nw B)
theorem NFr.up {lo lo' : Nat} {old : List Nat} {q : NV} {n : Nat} (h : NFr lo' old q n) (hl : lo ≤ lo') : NFr lo old q n := fun k hk => (h k hk).imp (Nat.le_trans hl) id
theorem NFr.old {lo : Nat} {old : List Nat} {q r : NV} {n m : Nat} (h : NFr lo (fpz r m) q n) (h2 : NFr lo old r m) : NFr lo old q n := fun k hk => (h k hk).elim .inl (h2 k)
theorem NFr.self (lo : Nat) (q : NV) (n : Nat) : NFr lo (fpz q n) q n := fun k hk => .inr hk
theorem NFr.nil (lo : Nat) (old : List Nat) (b c : Nat) : NFr lo old ⟨true, b, c⟩ 0 := fun k hk => by cases hk
theorem NFr.blk {lo : Nat} (old : List Nat) {b c n : Nat} (h : lo ≤ b) : NFr lo old ⟨false, b, c⟩ n := fun k hk => by
  simp [fpz] at hk; subst hk; exact .inl h
theorem NFr.any {lo : Nat} {old : List Nat} {q : NV} {n : Nat} (h : NFr lo [] q n) : NFr lo old q n := fun k hk => (h k hk).elim .inl (fun h => by cases h)
theorem NumR.q {w w' : World} {lo : Nat} {H : List Item} {old : List Nat} {A : Nat} {mk : Value → Value} {e : Ending} (ho : Old H old) (hl : lo ≤ w.heap.size) (h : NumR w old A mk e w') : ∃ v its, NumQ lo old A mk v its ∧ e = .returned v ∧ Brings w H its w' := by
  obtain ⟨q, he, hq, hn, hb⟩ := h
  refine ⟨_, _, ⟨q, rfl, rfl, hn.up hl⟩, he, Brings.nums hb (by simpa using hq) (by simp [numT, numI, Item.wr]) ?_⟩
  intro x hx k hk
  simp at hx
  subst hx
  exact (hn k hk).imp id (ho.spec k)
theorem Num2R.q {w w' : World} {lo : Nat} {H : List Item} {old : List Nat} {A B : Nat} {mk : Value → Value → Value} {e : Ending} (ho : Old H old) (hl : lo ≤ w.heap.size) (h : Num2R w old A B mk e w') : ∃ v its, Num2Q lo old A B mk v its ∧ e = .returned v ∧ Brings w H its w' := by
  obtain ⟨q, r, he, hq, hn, hr, hm, hb⟩ := h
  refine ⟨_, _, ⟨q, r, rfl, rfl, hn.up hl, hm.up hl⟩, he, Brings.nums hb (by simp [hq, hr]) (by simp [numT, numI, Item.wr]) ?_⟩
  intro x hx k hk
  simp at hx
  rcases hx with rfl | rfl
  · exact (hn k hk).imp id (ho.spec k)
  · exact (hm k hk).imp id (ho.spec k)
end
/-- At a walk's end: the number in a block of our own. -/
theorem Rel.num {w : World} {N : Nat} {st : St} {a : Act} {w' : World} {old : List Nat} {A n b c : Nat} {ty : TypeId} {fz : Nat × Nat} {mk : Value → Value} (hr : Rel ⟨w, NoW, N⟩ st a w') (hm : Item.blk b ⟨true, vec .u32 n (D.limb A), ty, fz⟩ ∈ st.H) (hA : A < 2 ^ (32 * n)) :
    NumR w old A mk (.returned (mk (.slice (some ⟨b, 0, none⟩) (D.nw A) c))) w' :=
  ⟨⟨false, b, c⟩, rfl, numT_blk (hr.hp _ hm) hA, NFr.blk _ (hr.new hm rfl), hr.fr.below⟩
/-- .. one that a call gave. -/
theorem Rel.numQ {w : World} {N : Nat} {st : St} {a : Act} {w' : World} {old : List Nat} {A : Nat} {q : NV} {mk : Value → Value} (hr : Rel ⟨w, NoW, N⟩ st a w') (hm : numT q A ∈ st.H) (hn : NFr w.heap.size old q (D.nw A)) : NumR w old A mk (.returned (mk (numV q A))) w' :=
  ⟨q, rfl, hr.hp _ hm, hn, hr.fr.below⟩
theorem Rel.numNil {w : World} {N : Nat} {st : St} {a : Act} {w' : World} {old : List Nat} {mk : Value → Value} (hr : Rel ⟨w, NoW, N⟩ st a w') : NumR w old 0 mk (.returned (mk (.slice none 0 0))) w' :=
  ⟨⟨true, 0, 0⟩, rfl, numT_nil _ _ _, NFr.nil _ _ _ _, hr.fr.below⟩
/-- Several numbers as one thing. -/
def grpI (l : List (NV × Nat)) : Item := .fact (l.flatMap fun e => fpz e.1 (D.nw e.2)) (fun w => ∀ e, e ∈ l → numP e.1 e.2 (D.nw e.2) w)
theorem grp_of {w : World} {l : List (NV × Nat)} (h : (grpI l).holds w) {q : NV} {A : Nat} (hm : (q, A) ∈ l) : (numT q A).holds w := by
  have h1 := h.2 w (Agree.refl _ _) _ hm
  exact numI_mk h1.1 h1.2
theorem grp_mk {w : World} {l : List (NV × Nat)} (h : ∀ q A, (q, A) ∈ l → (numT q A).holds w) : (grpI l).holds w := by
  refine ⟨fun k hk => ?_, fun w' ha e he => ?_⟩
  · obtain ⟨e, he, hk⟩ := List.mem_flatMap.1 hk
    exact (h e.1 e.2 he).1 k hk
  · exact (h e.1 e.2 he).2 w' (fun k hk => ha k (List.mem_flatMap.2 ⟨e, he, hk⟩))
theorem grp_fp {l : List (NV × Nat)} {q : NV} {A : Nat} (hm : (q, A) ∈ l) : ∀ k, k ∈ fpz q (D.nw A) → k ∈ (grpI l).fp := fun k hk => List.mem_flatMap.2 ⟨(q, A), hm, hk⟩
end Go.Proofs.Ytljblbgogjieaaa
