/- Part 2 of what the proof leans on: a symbolic execution of the model, walks of the program's functions, and the mathematics. No condition. -/
import Derived.WalkKit
import Derived.Orders
import Derived.Laws.StructEq
import Derived.WalkSpells
import Derived.OrdersHeld
import Derived.KernelRfl
import Derived.Laws.Externs
import Derived.Laws.Bits64
import Derived.Laws.MakeOwn
import Derived.Laws.BytesString
import Derived.Carry
import Derived.WideShapes
import GoSem.Claim
import Derived.Test.YtljblbgogjieaaaProg
import Derived.Laws.AppendOwn
import Derived.Test.YtljblbgogjieaaaRows
import Derived.ProofKit
import Derived.OpenShut
import Derived.Test.YtljblbgogjieaaaR1
set_option linter.unusedVariables false
set_option linter.unusedSimpArgs false
namespace Go.Proofs.Ytljblbgogjieaaa
open Go Go.RowKit
section
variable {a b : Nat}
theorem br_or32 (ha : a < 4294967296) (hb : b < 4294967296) : KAQ .or .u32 a .u32 b = some (.int .u32 ((a ||| b : Nat) : Int)) := by
  show some (Value.int .u32 (IntKind.u32.wrap ((BitVec.ofInt 32 (a : Int) ||| BitVec.ofInt 32 (b : Int)).toNat : Int))) = _
  rw [ofInt_nat, ofInt_nat, BitVec.toNat_or, BitVec.toNat_ofNat, BitVec.toNat_ofNat, wrap_u32_nat]
  have h1 : a % 2 ^ 32 = a := Nat.mod_eq_of_lt ha
  have h2 : b % 2 ^ 32 = b := Nat.mod_eq_of_lt hb
  have h3 : a ||| b < 2 ^ 32 := Nat.or_lt_two_pow ha hb
  rw [h1, h2, Nat.mod_eq_of_lt h3]
theorem br_shr32 {k : IntKind} (ha : a < 4294967296) : KAQ .shr .u32 a k b = some (.int .u32 ((a / 2 ^ b : Nat) : Int)) := by
  have hb : ¬ ((b : Int) < 0) := by omega
  simp only [KAQ, hb, if_false, IntKind.bits, Int.toNat_natCast]
  congr 2
  have : (a : Int).fdiv (2 ^ min b 32) = ((a / 2 ^ min b 32 : Nat) : Int) := by
    rw [show ((2 : Int) ^ min b 32) = ((2 ^ min b 32 : Nat) : Int) by simp, Int.fdiv_eq_ediv_of_nonneg _ (Int.natCast_nonneg _)]
    rfl
  rw [this]
  congr 1
  rcases Nat.lt_or_ge b 32 with h | h
  · rw [Nat.min_eq_left (by omega)]
  · rw [Nat.min_eq_right h]
    have h1 : a / 2 ^ 32 = 0 := Nat.div_eq_of_lt ha
    have h2 : a / 2 ^ b = 0 := Nat.div_eq_of_lt (Nat.lt_of_lt_of_le ha (Nat.pow_le_pow_right (n := 2) (by decide) h))
    rw [h1, h2]
theorem br_shl32 {k : IntKind} : KAQ .shl .u32 a k b = some (.int .u32 ((a * 2 ^ b % 4294967296 : Nat) : Int)) := by
  have hb : ¬ ((b : Int) < 0) := by omega
  simp only [KAQ, hb, if_false, IntKind.bits, Int.toNat_natCast]
  have : ((a : Int) * 2 ^ min b 32) = ((a * 2 ^ min b 32 : Nat) : Int) := by simp
  rw [this, wrap_u32_nat]
  congr 3
  rcases Nat.lt_or_ge b 32 with h | h
  · rw [Nat.min_eq_left (by omega)]
  · rw [Nat.min_eq_right h]
    obtain ⟨c, rfl⟩ : ∃ c, b = 32 + c := ⟨b - 32, by omega⟩
    rw [Nat.pow_add, show (2 : Nat) ^ 32 = 4294967296 from rfl, ← Nat.mul_assoc, Nat.mul_mod_left, Nat.mul_right_comm, Nat.mul_mod_left]
end
structure NV where
  z : Bool
  b : Nat
  c : Nat
def pz (q : NV) (n : Nat) : Option Addr := bif q.z && Nat.beq n 0 then none else some ⟨q.b, 0, none⟩
def fpz (q : NV) (n : Nat) : List Nat := bif q.z && Nat.beq n 0 then [] else [q.b]
def numP (q : NV) (A n : Nat) (w : World) : Prop := A < 2 ^ (32 * n) ∧ ((q.z && Nat.beq n 0) = false → ∃ rest ty fz, w.heap[q.b]? = some (.cells (vec .u32 n (D.limb A) ++ rest).toArray ty fz))
def numI (q : NV) (A n : Nat) : Item := .fact (fpz q n) (numP q A n)
def slV (q : NV) (n : Nat) : Value := .slice (pz q n) n q.c
def numV (q : NV) (A : Nat) : Value := slV q (D.nw A)
def numT (q : NV) (A : Nat) : Item := numI q A (D.nw A)
theorem pz_pos (q : NV) {n i : Nat} (h : i < n) : pz q n = some ⟨q.b, 0, none⟩ ∧ fpz q n = [q.b] ∧ (q.z && Nat.beq n 0) = false := by
  have h1 : Nat.beq n 0 = false := by
    cases n with
    | zero => omega
    | succ n => rfl
  simp [pz, fpz, h1]
theorem numI_mk {w : World} {q : NV} {A n : Nat} (hA : A < 2 ^ (32 * n)) (h : (q.z && Nat.beq n 0) = false → ∃ rest ty fz, w.heap[q.b]? = some (.cells (vec .u32 n (D.limb A) ++ rest).toArray ty fz)) : (numI q A n).holds w := by
  refine ⟨?_, fun w' ha => ⟨hA, fun hz => ?_⟩⟩
  · intro k hk
    cases hz : (q.z && Nat.beq n 0) with
    | true => simp [fpz, hz] at hk
    | false =>
      simp [fpz, hz] at hk
      subst hk
      obtain ⟨rest, ty, fz, h'⟩ := h hz
      exact lt_of_get h'
  · obtain ⟨rest, ty, fz, h'⟩ := h hz
    exact ⟨rest, ty, fz, (ha _ (by simp [fpz, hz])).trans h'⟩
theorem numI_get {w : World} {q : NV} {A n : Nat} (h : (numI q A n).holds w) : A < 2 ^ (32 * n) ∧ ((q.z && Nat.beq n 0) = false → ∃ rest ty fz, w.heap[q.b]? = some (.cells (vec .u32 n (D.limb A) ++ rest).toArray ty fz)) := h.2 w (Agree.refl _ _)
theorem numI_lt {w : World} {q : NV} {A n : Nat} (h : (numI q A n).holds w) : A < 2 ^ (32 * n) := (numI_get h).1
theorem numI_nil (w : World) (b c : Nat) : (numI ⟨true, b, c⟩ 0 0).holds w := numI_mk (by decide) (fun h => by cases h)
theorem nw_zero : D.nw 0 = 0 := rfl
theorem numT_nil (w : World) (b c : Nat) : (numT ⟨true, b, c⟩ 0).holds w := numI_nil w b c
theorem nw_eq_zero {A : Nat} : D.nw A = 0 ↔ A = 0 := by
  constructor
  · intro h
    have := D.lt_nw A
    rw [h] at this
    simpa using this
  · rintro rfl; rfl
theorem vec_split {k : IntKind} {m n : Nat} (f : Nat → Nat) (h : m ≤ n) : ∃ r, vec k n f = vec k m f ++ r := by
  refine ⟨(vec k n f).drop m, ?_⟩
  have h1 : (vec k n f).take m = vec k m f := by
    simp only [vec]
    rw [← List.map_take, List.take_range, Nat.min_eq_left h]
  rw [← h1, List.take_append_drop]
theorem numI_blk {w : World} {b c m n A : Nat} {rest : List Value} {wr : Bool} {ty : TypeId} {fz : Nat × Nat} (h : (Item.blk b ⟨wr, vec .u32 n (D.limb A) ++ rest, ty, fz⟩).holds w) (hm : m ≤ n) (hA : A < 2 ^ (32 * m)) : (numI ⟨false, b, c⟩ A m).holds w := by
  refine numI_mk hA (fun _ => ?_)
  obtain ⟨r, hr⟩ := vec_split (k := .u32) (D.limb A) hm
  refine ⟨r ++ rest, ty, fz, ?_⟩
  simp only [Item.holds] at h
  rw [h, hr, List.append_assoc]
theorem numI_blk0 {w : World} {b c m n A : Nat} {wr : Bool} {ty : TypeId} {fz : Nat × Nat} (h : (Item.blk b ⟨wr, vec .u32 n (D.limb A), ty, fz⟩).holds w) (hm : m ≤ n) (hA : A < 2 ^ (32 * m)) : (numI ⟨false, b, c⟩ A m).holds w := numI_blk (rest := []) (wr := wr) (ty := ty) (fz := fz) (by rw [List.append_nil]; exact h) hm hA
theorem numT_blk {w : World} {b c n A : Nat} {wr : Bool} {ty : TypeId} {fz : Nat × Nat} (h : (Item.blk b ⟨wr, vec .u32 n (D.limb A), ty, fz⟩).holds w) (hA : A < 2 ^ (32 * n)) : (numT ⟨false, b, c⟩ A).holds w := numI_blk0 h (D.nw_le hA) (D.lt_nw A)
section
variable {P : Program} {C : Ctx} {d : Option Tmp} {ty : TypeId} {pos : String} {aft : Array Edge} {g : Option (Nat × Bool)} {st : St} {x y z : Operand} {v u : Value} {t s e : TypeId}
theorem KAj {q : NV} {k : IntKind} {i n c : Nat} (ht : P.underlying t = some (.slice e)) (he : szOf P e = some 1) (hx : evT st.T x = some (.slice (pz q n) n c)) (hy : evT st.T y = some (.int k (i : Int))) (h : i < n) :
    Slots P C ⟨d, .indexAddr t x y, ty, pos, aft, g⟩ st (.pointer (some ⟨q.b, i, none⟩)) := by
  rw [(pz_pos q h).1] at hx
  exact Kv ht he hx hy h
theorem Det.loadN {q : NV} {A n i : Nat} {D0 : TypeDesc} (hu : P.underlying t = some D0) (hn : notAgg D0 = true) (hx : evT st.T x = some (.pointer (some ⟨q.b, i, none⟩))) (hm : numI q A n ∈ st.H) (h : i < n) : Det P C ⟨d, .load t x, ty, pos, aft, g⟩ st (.int .u32 (D.limb A i : Int)) := by
  unfold Det
  intro a w hr
  obtain ⟨rest, e', fz, hb⟩ := (numI_get (hr.hp _ hm)).2 (pz_pos q h).2.2
  have hv : LoadV P t ⟨true, vec .u32 n (D.limb A) ++ rest, e', fz⟩ i (.int .u32 (D.limb A i : Int)) := KP hu hn (by
    show (vec .u32 n (D.limb A) ++ rest)[i]? = _
    rw [List.getElem?_append_left (by rw [KM]; exact h)]
    exact Kn _ _ _ h)
  have hrun := hv.run (b := q.b) (w := w) hb
  simp [execOp, hr.ev hx, Instr.loadAt, Instr.sureAddr, hrun]
theorem Det.maxN {k : IntKind} {i j : Nat} {ats : Array TypeId} (hx : evT st.T x = some (.int k (i : Int))) (hy : evT st.T y = some (.int k (j : Int))) :
    Slots P C ⟨d, .call { callee := .builtin .max, args := #[x, y], argTypes := ats }, ty, pos, aft, g⟩ st (.int k ((if i < j then j else i : Nat) : Int)) := by
  have h := Det.max (P := P) (C := C) (st := st) (d := d) (ty := ty) (pos := pos) (aft := aft) (g := g) (ts := ats) hx hy
  have e : (if (j : Int) > (i : Int) then (j : Int) else (i : Int)) = ((if i < j then j else i : Nat) : Int) := by
    split <;> split <;> omega
  rw [e] at h
  exact h
theorem fillS_eq (s len : Nat) : ∀ (parts : List (Nat × Value)) (z cs : List Value), fillL ((List.range len).map fun i => (i * s, s)) z parts = some cs → Instr.fill (fun i => some (i * s, s)) z.toArray parts = some cs.toArray
  | [], z, cs, h => by simp [fillL] at h; simp [Instr.fill, h]
  | (i, v) :: rest, z, cs, h => by
    unfold fillL at h
    by_cases hi : i < len
    · simp only [List.getElem?_map, List.getElem?_range hi, Option.map_some] at h
      split at h
      · cases h
      · rename_i hn
        have hn1 : v.cells.size = s := Classical.byContradiction fun e => hn (.inl e)
        have hn2 : i * s + s ≤ z.length := Nat.le_of_not_lt fun e => hn (.inr e)
        unfold Instr.fill
        have hc : (decide (v.cells.size ≠ s) || decide (i * s + v.cells.size > z.toArray.size)) = false := by
          simp; omega
        simp only [hc, Bool.false_eq_true, if_false]
        have hz : (v.cells.zipIdx.foldl (fun (cs : Array Value) (x : Value × Nat) => cs.setIfInBounds (i * s + x.2) x.1) z.toArray) = (splice z (i * s) v.cells.toList).toArray := by
          have := foldl_splice v.cells.toList z (i * s) 0 (by simp; omega)
          simp only [Nat.add_zero] at this
          rw [← this, ← Array.foldl_toList]
          congr 1
          simp
        have h2 := fillS_eq s len rest _ cs h
        rw [← h2]
        congr 1
    · rw [List.getElem?_eq_none (by simp; omega)] at h
      cases h
theorem Makes.row {len n m : Nat} {zv : Value} {ps : List (Nat × Operand)} {vs : List (Nat × Value)} {z0 cs : List Value} (ht : P.underlying t = some (.slice e)) (hi : infOf P e = some (zv, n, m)) (hl : len * n ≤ 16777216) (hz : ((Array.range (len * n)).map fun i => zv.cells[i % zv.cells.size]!) = z0.toArray) (hv : evP st.T ps = some vs)
    (hf : fillL ((List.range len).map fun i => (i * n, n)) z0 vs = some cs) (h0 : len * n = 0 → z0 = []) : Makes P C ⟨d, .buildSlice t len ps.toArray, ty, pos, aft, g⟩ st cs e (fun b => .slice (some ⟨b, 0, none⟩) len len) := by
  unfold Makes
  intro a w hr
  obtain ⟨i, h2, h3, h4, h5⟩ := inf_spec hi
  have h1 := evp_of (fun x u hx => hr.ev hx) hv
  have h6 : (ps.toArray.map fun (i, x) => (i, a.eval x)) = vs.toArray := by
    rw [← h1]; simp
  have h7 : (sizeOf e).run P w = .ok n w := by simp [sizeOf, typeInfo, Sem.run, h2, h4]
  have h8 : (zeroValue e).run P w = .ok zv w := by
    exact run_zeroValue (P := P) (t := e) (z := zv) (by simp [zrOf, h2, h3]) w
  have hle : ¬ (16777216 < len * n) := by omega
  simp only [execOp, h6, Instr.buildSlice, Sem.run_bind, run_underlying ht, h7, Result.andThen_ok]
  simp only [show (2 : Nat) ^ 24 = 16777216 from rfl, gt_iff_lt, hle, if_false]
  by_cases hz0 : len * n = 0
  · have hcs := fillS_eq n len vs z0 cs hf
    have hz1 := h0 hz0
    subst hz1
    simp only [hz0, if_true, Sem.run_bind, Sem.run_pure, Result.andThen_ok]
    have e1 : ((Array.range 0).map fun x => (#[] : Array Value)[x % (#[] : Array Value).size]!) = ([] : List Value).toArray := by simp
    rw [e1, hcs]
    simp [newRow, newObj, Sem.run]
  · have hcs := fillS_eq n len vs z0 cs hf
    simp only [hz0, if_false, Sem.run_bind, h8, Sem.run_pure, Result.andThen_ok]
    rw [hz, hcs]
    simp [newRow, newObj, Sem.run]
theorem Makes.row1 {len m : Nat} {zv : Value} {ps : List (Nat × Operand)} {vs : List (Nat × Value)} {cs : List Value} (ht : P.underlying t = some (.slice e)) (hi : infOf P e = some (zv, 1, m)) (hl : len ≤ 16777216) (h1 : one zv = true) (hv : evP st.T ps = some vs)
    (hf : fillL ((List.range len).map fun i => (i * 1, 1)) (List.replicate len zv) vs = some cs) : Makes P C ⟨d, .buildSlice t len ps.toArray, ty, pos, aft, g⟩ st cs e (fun b => .slice (some ⟨b, 0, none⟩) len len) := by
  refine Makes.row ht hi (by omega) ?_ hv hf (fun h => by rw [show len = 0 by omega]; rfl)
  rw [one_cells h1]
  apply Array.ext
  · simp
  · intro j hj1 hj2
    simp [Nat.mod_one]
end
theorem eq_str (a b : ByteArray) : (a.toList == b.toList) = decide (a.data.toList = b.data.toList) := by
  rw [ByteArray.toList_eq, ByteArray.toList_eq]
  by_cases h : a.data.toList = b.data.toList
  · rw [decide_eq_true h, h]; simp
  · rw [decide_eq_false h]; simpa using h
theorem eq_str_t {a b : ByteArray} (h : a.data.toList = b.data.toList) : (a.toList == b.toList) = true := by rw [eq_str]; exact decide_eq_true h
theorem eq_str_f {a b : ByteArray} (h : a.data.toList ≠ b.data.toList) : (a.toList == b.toList) = false := by rw [eq_str]; exact decide_eq_false h
def idxP {α : Type} : Nat → List α → List (Nat × α)
  | _, [] => []
  | i, x :: xs => (i, x) :: idxP (i + 1) xs
theorem fillL_idx {len : Nat} : ∀ (vs pre z : List Value), (∀ v, v ∈ vs → one v = true) → z.length = vs.length → pre.length + vs.length = len → fillL ((List.range len).map fun i => (i * 1, 1)) (pre ++ z) (idxP pre.length vs) = some (pre ++ vs)
  | [], pre, z, _, hz, _ => by
    have : z = [] := List.eq_nil_of_length_eq_zero hz
    simp [idxP, fillL, this]
  | v :: vs, pre, z, h1, hz, hl => by
    cases z with
    | nil => simp at hz
    | cons z0 z =>
      have hv := one_cells (h1 v (.head _))
      have ih := fillL_idx (len := len) vs (pre ++ [v]) z (fun u hu => h1 u (.tail _ hu)) (by simpa using hz) (by simp at hl ⊢; omega)
      refine fillL_step (A := pre) (B := [z0]) (D := z) (cs := [v]) (o := pre.length) (s := 1) ?_ (by rw [hv]) rfl (by simp) rfl rfl ?_
      · rw [List.getElem?_map, List.getElem?_range (by simp at hl; omega)]; simp
      · have e : pre ++ ([v] ++ z) = pre ++ [v] ++ z := by simp
        rw [e]
        simp only [List.length_append, List.length_singleton] at ih
        rw [ih]
        simp
theorem evP_idx {T : List (Nat × Value)} : ∀ (xs : List Operand) (vs : List Value) (i : Nat), evL T xs = some vs → evP T (idxP i xs) = some (idxP i vs)
  | [], vs, i, h => by simp [evL] at h; simp [h, idxP, evP]
  | x :: xs, vs, i, h => by
    simp only [evL] at h
    split at h
    · rename_i v vs' h1 h2
      injection h with h
      subst h
      simp [idxP, evP, h1, evP_idx xs vs' (i + 1) h2]
    · cases h
section
variable {P : Program} {C : Ctx} {d : Option Tmp} {ty : TypeId} {pos : String} {aft : Array Edge} {g : Option (Nat × Bool)} {st : St} {x y z : Operand} {v u : Value} {t s e : TypeId}
theorem KAS {len m : Nat} {zv : Value} {ps : List (Nat × Operand)} {vs : List Value} (ht : P.underlying t = some (.slice e)) (hi : infOf P e = some (zv, 1, m)) (h1 : one zv = true) (hp : idxP 0 (ps.map Prod.snd) = ps) (hv : evL st.T (ps.map Prod.snd) = some vs) (hl : vs.length = len) (hb : len ≤ 16777216) (ho : vs.all one = true) :
    Makes P C ⟨d, .buildSlice t len ps.toArray, ty, pos, aft, g⟩ st vs e (fun b => .slice (some ⟨b, 0, none⟩) len len) := by
  refine Makes.row1 ht hi hb h1 (hp ▸ evP_idx _ vs 0 hv) ?_
  have := fillL_idx (len := len) vs [] (List.replicate len zv) (fun v hv => List.all_eq_true.1 ho v hv) (by simp [hl]) (by simpa using hl)
  simpa using this
theorem Det.buildN {n : Nat} {ps : List (Nat × Operand)} {vs z : List Value} (hp : plc P t = some ((List.range n).map fun i => (i * 1, 1))) (hz : zrOf P t = some (.agg z.toArray)) (hi : idxP 0 (ps.map Prod.snd) = ps) (hv : evL st.T (ps.map Prod.snd) = some vs) (hl : vs.length = n) (hlz : z.length = n) (ho : vs.all one = true) :
    Slots P C ⟨d, .build t ps.toArray, ty, pos, aft, g⟩ st (.agg vs.toArray) := by
  refine KAl hp hz (hi ▸ evP_idx _ vs 0 hv) ?_
  have := fillL_idx (len := n) vs [] z (fun v hv => List.all_eq_true.1 ho v hv) (by omega) (by simpa using hl)
  simpa using this
theorem splice_mid {A B D cs cs0 cs' : List Value} {o : Nat} (h0 : cs0 = A ++ (B ++ D)) (hA : A.length = o) (hB : B.length = cs.length) (h1 : cs' = A ++ (cs ++ D)) : splice cs0 o cs = cs' := by
  subst h0 h1 hA
  have e1 : List.drop (A.length + cs.length) (A ++ (B ++ D)) = D := by
    rw [← List.drop_drop, List.drop_left, ← hB, List.drop_left]
  simp only [splice, e1, List.take_left, List.append_assoc]
theorem get_mid {A D cs0 : List Value} {v : Value} {o : Nat} (h0 : cs0 = A ++ (v :: D)) (hA : A.length = o) : cs0[o]? = some v := by
  subst h0 hA
  simp
theorem KAc {k : IntKind} {i j : Int} : KAQ .eql k i k j = some (.bool (decide (i = j))) := by
  by_cases h : i = j <;> simp [KAQ, h]
end
def NFr (lo : Nat) (old : List Nat) (q : NV) (n : Nat) : Prop := ∀ k, k ∈ fpz q n → lo ≤ k ∨ k ∈ old
def NumR (w : World) (old : List Nat) (A : Nat) (mk : Value → Value) (e : Ending) (w' : World) : Prop :=
  ∃ q, e = .returned (mk (numV q A)) ∧ (numT q A).holds w' ∧ NFr w.heap.size old q (D.nw A) ∧ Below w.heap.size w w'
def Num2R (w : World) (old : List Nat) (A B : Nat) (mk : Value → Value → Value) (e : Ending) (w' : World) : Prop :=
  ∃ q r, e = .returned (mk (numV q A) (numV r B)) ∧ (numT q A).holds w' ∧ NFr w.heap.size old q (D.nw A) ∧ (numT r B).holds w' ∧ NFr w.heap.size old r (D.nw B) ∧ Below w.heap.size w w'
inductive Old : List Item → List Nat → Prop where
  | nil (H : List Item) : Old H []
  | cons {H : List Item} {x : Item} {l : List Nat} : x ∈ H → x.wr = false → Old H l → Old H (x.fp ++ l)
theorem Old.spec {H : List Item} {l : List Nat} (h : Old H l) : ∀ k, k ∈ l → ∃ y, y ∈ H ∧ y.wr = false ∧ k ∈ y.fp := by
  induction h with
  | nil => intro k hk; cases hk
  | cons hm hw _ ih =>
    intro k hk
    rcases List.mem_append.1 hk with hk | hk
    · exact ⟨_, hm, hw, hk⟩
    · exact ih k hk
theorem Old.one {H : List Item} {x : Item} (hm : x ∈ H) (hw : x.wr = false) : Old H x.fp := by
  have := Old.cons hm hw (Old.nil H)
  rwa [List.append_nil] at this
theorem Brings.nums {w w' : World} {H its : List Item} (hb : Below w.heap.size w w') (hh : ∀ x, x ∈ its → x.holds w') (hw : ∀ x, x ∈ its → x.wr = false) (hn : ∀ x, x ∈ its → ∀ k, k ∈ x.fp → w.heap.size ≤ k ∨ ∃ y, y ∈ H ∧ y.wr = false ∧ k ∈ y.fp) : Brings w H its w' :=
  ⟨hb, hh, hn, (fun x hx hx' => by rw [hw x hx] at hx'; cases hx'), (List.pairwise_of_forall_mem_list fun x hx y hy h => by rw [hw x hx, hw y hy] at h; rcases h with h | h <;> cases h)⟩
section
variable {P : Program} {C : Ctx} {ty : TypeId} {pos : String} {aft : Array Edge} {d : Nat} {x y z : Operand} {v u : Value} {t s e : TypeId} {K : St → Prop}
theorem KV {T : List (Nat × Value)} {H : List Item} {f : FuncId} {xs : List Operand} {vs first : List Value} {ats : Array TypeId} {Post : Value → List Item → Prop} {g : Option (Nat × Bool)} (hf : evT T x = some (.func (.func f) first.toArray #[])) (he : KAO P f) (ha : evL T xs = some vs) (hd : d < C.N)
    (hc : ∀ w, (∀ x, x ∈ H → x.holds w) → C.w0.heap.size ≤ w.heap.size → Calls P f (first ++ vs).toArray w (fun e w' => ∃ v its, Post v its ∧ e = .returned v ∧ Brings w H its w'))
    (h : ∀ v its, Post v its → K ⟨(d, v) :: T, its ++ H⟩) : LStep P C ⟨some d, .call { callee := .value x, args := xs.toArray, argTypes := ats }, ty, pos, aft, g⟩ ⟨T, H⟩ K := by
  unfold LStep
  intro a w hr Qr
  have hh := LStep.call (C := C) (d := d) (ty := ty) (pos := pos) (aft := aft) (g := g) (ats := ats) (Post := Post) (K := K) (T := T) (H := H) (xs := xs) (vs := vs) (first := first) (x := x) (P := P) hf he ha hd
  obtain ⟨fn, h1, h2, h3⟩ := he
  refine wp_callee (vs := first ++ vs) ?_ (hc w hr.hp hr.fr.size) ?_
  · have := hr.evs ha
    simp [execOp, resolve, hr.ev hf, Deferred.ofValue, invoke, run_call h1 h2 h3, this]
  · rintro e w' ⟨v, its, hp, rfl, hb⟩
    exact ⟨v, rfl, hb.below, _, h v its hp, (hr.brings hb).put hd v⟩
theorem LExt.callZ {T : List (Nat × Value)} {H : List Item} {f : FuncId} {xs : List Operand} {vs first : List Value} {ats : Array TypeId} {Post : Value → List Item → Prop} {g : Option (Nat × Bool)} (hf : evT T x = some (.func (.func f) first.toArray #[])) (he : KAO P f) (ha : evL T xs = some vs)
    (hc : ∀ w, (∀ x, x ∈ H → x.holds w) → C.w0.heap.size ≤ w.heap.size → Calls P f (first ++ vs).toArray w (fun e w' => ∃ v its, Post v its ∧ e = .returned v ∧ Brings w H its w')) :
    LExt P C ⟨some d, .call { callee := .value x, args := xs.toArray, argTypes := ats }, ty, pos, aft, g⟩ T H Post := by
  intro a w hr Qr
  obtain ⟨fn, h1, h2, h3⟩ := he
  refine wp_callee (vs := first ++ vs) ?_ (hc w hr.hp hr.fr.size) ?_
  · have := hr.evs ha
    simp [execOp, resolve, hr.ev hf, Deferred.ofValue, invoke, run_call h1 h2 h3, this]
  · rintro e w' ⟨v, its, hp, rfl, hb⟩
    exact ⟨v, rfl, v, its, hp, rfl, hb⟩
def NumQ (lo : Nat) (old : List Nat) (A : Nat) (mk : Value → Value) (v : Value) (its : List Item) : Prop := ∃ q, v = mk (numV q A) ∧ its = [numT q A] ∧ NFr lo old q (D.nw A)
def Num2Q (lo : Nat) (old : List Nat) (A B : Nat) (mk : Value → Value → Value) (v : Value) (its : List Item) : Prop := ∃ q r, v = mk (numV q A) (numV r B) ∧ its = [numT q A, numT r B] ∧ NFr lo old q (D.nw A) ∧ NFr lo old r (D.nw B)
theorem NFr.up {lo lo' : Nat} {old : List Nat} {q : NV} {n : Nat} (h : NFr lo' old q n) (hl : lo ≤ lo') : NFr lo old q n := fun k hk => (h k hk).imp (Nat.le_trans hl) id
theorem NFr.old {lo : Nat} {old : List Nat} {q r : NV} {n m : Nat} (h : NFr lo (fpz r m) q n) (h2 : NFr lo old r m) : NFr lo old q n := fun k hk => (h k hk).elim .inl (h2 k)
theorem NFr.self (lo : Nat) (q : NV) (n : Nat) : NFr lo (fpz q n) q n := fun k hk => .inr hk
theorem NFr.nil (lo : Nat) (old : List Nat) (b c : Nat) : NFr lo old ⟨true, b, c⟩ 0 := fun k hk => by cases hk
theorem NFr.blk {lo : Nat} (old : List Nat) {b c n : Nat} (h : lo ≤ b) : NFr lo old ⟨false, b, c⟩ n := fun k hk => by
  simp [fpz] at hk; subst hk; exact .inl h
theorem NFr.any {lo : Nat} {old : List Nat} {q : NV} {n : Nat} (h : NFr lo [] q n) : NFr lo old q n := fun k hk => (h k hk).elim .inl (fun h => by cases h)
theorem KAW {w w' : World} {lo : Nat} {H : List Item} {old : List Nat} {A : Nat} {mk : Value → Value} {e : Ending} (ho : Old H old) (hl : lo ≤ w.heap.size) (h : NumR w old A mk e w') : ∃ v its, NumQ lo old A mk v its ∧ e = .returned v ∧ Brings w H its w' := by
  obtain ⟨q, he, hq, hn, hb⟩ := h
  refine ⟨_, _, ⟨q, rfl, rfl, hn.up hl⟩, he, Brings.nums hb (by simpa using hq) (by simp [numT, numI, Item.wr]) ?_⟩
  intro x hx k hk
  simp at hx
  subst hx
  exact (hn k hk).imp id (ho.spec k)
theorem KAR {w w' : World} {lo : Nat} {H : List Item} {old : List Nat} {A B : Nat} {mk : Value → Value → Value} {e : Ending} (ho : Old H old) (hl : lo ≤ w.heap.size) (h : Num2R w old A B mk e w') : ∃ v its, Num2Q lo old A B mk v its ∧ e = .returned v ∧ Brings w H its w' := by
  obtain ⟨q, r, he, hq, hn, hr, hm, hb⟩ := h
  refine ⟨_, _, ⟨q, r, rfl, rfl, hn.up hl, hm.up hl⟩, he, Brings.nums hb (by simp [hq, hr]) (by simp [numT, numI, Item.wr]) ?_⟩
  intro x hx k hk
  simp at hx
  rcases hx with rfl | rfl
  · exact (hn k hk).imp id (ho.spec k)
  · exact (hm k hk).imp id (ho.spec k)
end
theorem Rel.num {w : World} {N : Nat} {st : St} {a : Act} {w' : World} {old : List Nat} {A n b c : Nat} {ty : TypeId} {fz : Nat × Nat} {mk : Value → Value} (hr : Rel ⟨w, NoW, N⟩ st a w') (hm : Item.blk b ⟨true, vec .u32 n (D.limb A), ty, fz⟩ ∈ st.H) (hA : A < 2 ^ (32 * n)) :
    NumR w old A mk (.returned (mk (.slice (some ⟨b, 0, none⟩) (D.nw A) c))) w' :=
  ⟨⟨false, b, c⟩, rfl, numT_blk (hr.hp _ hm) hA, NFr.blk _ (hr.new hm rfl), hr.fr.below⟩
theorem Rel.numQ {w : World} {N : Nat} {st : St} {a : Act} {w' : World} {old : List Nat} {A : Nat} {q : NV} {mk : Value → Value} (hr : Rel ⟨w, NoW, N⟩ st a w') (hm : numT q A ∈ st.H) (hn : NFr w.heap.size old q (D.nw A)) : NumR w old A mk (.returned (mk (numV q A))) w' :=
  ⟨q, rfl, hr.hp _ hm, hn, hr.fr.below⟩
theorem Rel.numNil {w : World} {N : Nat} {st : St} {a : Act} {w' : World} {old : List Nat} {mk : Value → Value} (hr : Rel ⟨w, NoW, N⟩ st a w') : NumR w old 0 mk (.returned (mk (.slice none 0 0))) w' :=
  ⟨⟨true, 0, 0⟩, rfl, numT_nil _ _ _, NFr.nil _ _ _ _, hr.fr.below⟩
def grpI (l : List (NV × Nat)) : Item := .fact (l.flatMap fun e => fpz e.1 (D.nw e.2)) (fun w => ∀ e, e ∈ l → numP e.1 e.2 (D.nw e.2) w)
theorem grp_of {w : World} {l : List (NV × Nat)} (h : (grpI l).holds w) {q : NV} {A : Nat} (hm : (q, A) ∈ l) : (numT q A).holds w := by
  have h1 := h.2 w (Agree.refl _ _) _ hm
  exact numI_mk h1.1 h1.2
theorem grp_mk {w : World} {l : List (NV × Nat)} (h : ∀ q A, (q, A) ∈ l → (numT q A).holds w) : (grpI l).holds w := by
  refine ⟨fun k hk => ?_, fun w' ha e he => ?_⟩
  · obtain ⟨e, he, hk⟩ := List.mem_flatMap.1 hk
    exact (h e.1 e.2 he).1 k hk
  · exact (h e.1 e.2 he).2 w' (fun k hk => ha k (List.mem_flatMap.2 ⟨e, he, hk⟩))
end Go.Proofs.Ytljblbgogjieaaa
set_option linter.unusedVariables false
namespace Go.Proofs.Ytljblbgogjieaaa
open Go Go.RowKit
section
variable {P : Program} {W : World} {r : Reach} {base : Nat} {t : TypeId} {v : Value}
theorem val_i64 (ht : P.underlying t = some (.int .i64)) (h : Value.okWide P W r base t v) : ∃ n : Int, -9223372036854775808 ≤ n ∧ n < 9223372036854775808 ∧ v = .int .i64 n := by
  unfold Value.okWide at h
  simp only [ht] at h
  unfold Cell.okWide at h
  rw [ht] at h
  cases v <;> simp [Cell.ok, ht] at h
  obtain ⟨rfl, h⟩ := h
  simp [IntKind.has, IntKind.min, IntKind.max, IntKind.bits, IntKind.signed] at h
  exact ⟨_, by omega, by omega, rfl⟩
end
section
variable {P : Program} {W : World} {r : Reach} {base : Nat} {t u ub : TypeId} {v : Value} {D : TypeDesc}
end
end Go.Proofs.Ytljblbgogjieaaa
namespace Go.Proofs.Ytljblbgogjieaaa
open Go Go.RowKit
theorem sz_3 : szOf Try.prog 3 = some 1 := by kernel_rfl
theorem inf_3 : infOf Try.prog 3 = some (Value.int .i64 ((0 : Nat) : Int), 1, 8) := by kernel_rfl
theorem sz_4 : szOf Try.prog 4 = some 1 := by kernel_rfl
theorem sz_9 : szOf Try.prog 9 = some 1 := by kernel_rfl
theorem inf_9 : infOf Try.prog 9 = some (Value.string ⟨#[]⟩, 1, 16) := by kernel_rfl
theorem sz_22 : szOf Try.prog 22 = some 1 := by kernel_rfl
theorem sz_23 : szOf Try.prog 23 = some 9 := by kernel_rfl
theorem pl_23 : plc Try.prog 23 = some ((List.range 9).map fun i => (i * 1, 1)) := by kernel_rfl
theorem zr_23 : zrOf Try.prog 23 = some (.agg (vec .u64 9 (fun _ => 0)).toArray) := by kernel_rfl
theorem sz_25 : szOf Try.prog 25 = some 9 := by kernel_rfl
theorem pl_25 : plc Try.prog 25 = some [(0, 9)] := by kernel_rfl
theorem zr_25 : zrOf Try.prog 25 = some (.agg (vec .u64 9 (fun _ => 0)).toArray) := by kernel_rfl
theorem sz_29 : szOf Try.prog 29 = some 1 := by kernel_rfl
theorem sz_31 : szOf Try.prog 31 = some 7 := by kernel_rfl
theorem pl_31 : plc Try.prog 31 = some [(0, 1), (1, 1), (2, 1), (3, 1), (4, 1), (5, 1), (6, 1)] := by kernel_rfl
theorem zr_31 : zrOf Try.prog 31 = some (.agg ([Value.int .i64 ((0 : Nat) : Int), Value.slice none 0 0, Value.slice none 0 0, Value.slice none 0 0, Value.slice none 0 0, Value.slice none 0 0, Value.slice none 0 0]).toArray) := by kernel_rfl
theorem sz_56 : szOf Try.prog 56 = some 1 := by kernel_rfl
theorem inf_56 : infOf Try.prog 56 = some (Value.int .u32 ((0 : Nat) : Int), 1, 4) := by kernel_rfl
theorem sz_60 : szOf Try.prog 60 = some 19 := by kernel_rfl
theorem pl_60 : plc Try.prog 60 = some [(0, 9), (9, 9), (18, 1)] := by kernel_rfl
theorem zr_60 : zrOf Try.prog 60 = some (.agg (vec .u64 9 (fun _ => 0) ++ (vec .u64 9 (fun _ => 0) ++ ([Value.bool false]))).toArray) := by kernel_rfl
theorem sz_62 : szOf Try.prog 62 = some 59 := by kernel_rfl
theorem pl_62 : plc Try.prog 62 = some [(0, 1), (1, 9), (10, 9), (19, 9), (28, 9), (37, 19), (56, 1), (57, 1), (58, 1)] := by kernel_rfl
theorem zr_62 : zrOf Try.prog 62 = some (.agg ([Value.int .i64 ((0 : Nat) : Int)] ++ (vec .u64 9 (fun _ => 0) ++ (vec .u64 9 (fun _ => 0) ++ (vec .u64 9 (fun _ => 0) ++ (vec .u64 9 (fun _ => 0) ++ (vec .u64 9 (fun _ => 0) ++ (vec .u64 9 (fun _ => 0) ++ ([Value.bool false, Value.int .i64 ((0 : Nat) : Int), Value.int .i64 ((0 : Nat) : Int), Value.bool false])))))))).toArray) := by kernel_rfl
theorem sz_73 : szOf Try.prog 73 = some 3 := by kernel_rfl
theorem pl_73 : plc Try.prog 73 = some [(0, 1), (1, 1), (2, 1)] := by kernel_rfl
theorem zr_73 : zrOf Try.prog 73 = some (.agg ([Value.slice none 0 0, Value.slice none 0 0, Value.bool false]).toArray) := by kernel_rfl
theorem sz_145 : szOf Try.prog 145 = some 1 := by kernel_rfl
theorem pl_147 : plc Try.prog 147 = some [(0, 59), (59, 1), (60, 9)] := by kernel_rfl
theorem zr_147 : zrOf Try.prog 147 = some (.agg ([Value.int .i64 ((0 : Nat) : Int)] ++ (vec .u64 9 (fun _ => 0) ++ (vec .u64 9 (fun _ => 0) ++ (vec .u64 9 (fun _ => 0) ++ (vec .u64 9 (fun _ => 0) ++ (vec .u64 9 (fun _ => 0) ++ (vec .u64 9 (fun _ => 0) ++ ([Value.bool false, Value.int .i64 ((0 : Nat) : Int), Value.int .i64 ((0 : Nat) : Int), Value.bool false, Value.pointer none] ++ (vec .u64 9 (fun _ => 0)))))))))).toArray) := by kernel_rfl
theorem sz_188 : szOf Try.prog 188 = some 5 := by kernel_rfl
theorem pl_188 : plc Try.prog 188 = some [(0, 1), (1, 1), (2, 1), (3, 1), (4, 1)] := by kernel_rfl
theorem zr_188 : zrOf Try.prog 188 = some (.agg ([Value.string ⟨#[]⟩, Value.string ⟨#[]⟩, Value.string ⟨#[]⟩, Value.string ⟨#[]⟩, Value.string ⟨#[]⟩]).toArray) := by kernel_rfl
theorem sz_190 : szOf Try.prog 190 = some 1 := by kernel_rfl
theorem sz_192 : szOf Try.prog 192 = some 1 := by kernel_rfl
theorem pl_192 : plc Try.prog 192 = some [(0, 1)] := by kernel_rfl
theorem zr_192 : zrOf Try.prog 192 = some (.agg ([Value.pointer none]).toArray) := by kernel_rfl
theorem pl_194 : plc Try.prog 194 = some [(0, 9), (9, 1)] := by kernel_rfl
theorem zr_194 : zrOf Try.prog 194 = some (.agg (vec .u64 9 (fun _ => 0) ++ ([Value.pointer none])).toArray) := by kernel_rfl
theorem sz_228 : szOf Try.prog 228 = some 18 := by kernel_rfl
theorem sz_230 : szOf Try.prog 230 = some 18 := by kernel_rfl
theorem zr_230 : zrOf Try.prog 230 = some (.agg (vec .u64 18 (fun _ => 0)).toArray) := by kernel_rfl
theorem pl_241 : plc Try.prog 241 = some [(0, 9), (9, 1), (10, 1)] := by kernel_rfl
theorem zr_241 : zrOf Try.prog 241 = some (.agg (vec .u64 9 (fun _ => 0) ++ ([Value.int .i64 ((0 : Nat) : Int), Value.int .i64 ((0 : Nat) : Int)])).toArray) := by kernel_rfl
theorem zr_243 : zrOf Try.prog 243 = some (.agg (vec .u64 19 (fun _ => 0)).toArray) := by kernel_rfl
theorem en_43 : KAO Try.prog 43 := ⟨_, Try.func43, by kernel_rfl, by kernel_rfl⟩
theorem en_46 : KAO Try.prog 46 := ⟨_, Try.func46, by kernel_rfl, by kernel_rfl⟩
theorem en_50 : KAO Try.prog 50 := ⟨_, Try.func50, by kernel_rfl, by kernel_rfl⟩
theorem en_51 : KAO Try.prog 51 := ⟨_, Try.func51, by kernel_rfl, by kernel_rfl⟩
theorem en_52 : KAO Try.prog 52 := ⟨_, Try.func52, by kernel_rfl, by kernel_rfl⟩
theorem en_55 : KAO Try.prog 55 := ⟨_, Try.func55, by kernel_rfl, by kernel_rfl⟩
theorem en_56 : KAO Try.prog 56 := ⟨_, Try.func56, by kernel_rfl, by kernel_rfl⟩
theorem en_57 : KAO Try.prog 57 := ⟨_, Try.func57, by kernel_rfl, by kernel_rfl⟩
theorem en_59 : KAO Try.prog 59 := ⟨_, Try.func59, by kernel_rfl, by kernel_rfl⟩
theorem en_61 : KAO Try.prog 61 := ⟨_, Try.func61, by kernel_rfl, by kernel_rfl⟩
theorem en_63 : KAO Try.prog 63 := ⟨_, Try.func63, by kernel_rfl, by kernel_rfl⟩
theorem en_64 : KAO Try.prog 64 := ⟨_, Try.func64, by kernel_rfl, by kernel_rfl⟩
theorem en_65 : KAO Try.prog 65 := ⟨_, Try.func65, by kernel_rfl, by kernel_rfl⟩
theorem en_66 : KAO Try.prog 66 := ⟨_, Try.func66, by kernel_rfl, by kernel_rfl⟩
theorem en_67 : KAO Try.prog 67 := ⟨_, Try.func67, by kernel_rfl, by kernel_rfl⟩
theorem en_68 : KAO Try.prog 68 := ⟨_, Try.func68, by kernel_rfl, by kernel_rfl⟩
theorem en_69 : KAO Try.prog 69 := ⟨_, Try.func69, by kernel_rfl, by kernel_rfl⟩
theorem en_70 : KAO Try.prog 70 := ⟨_, Try.func70, by kernel_rfl, by kernel_rfl⟩
theorem en_71 : KAO Try.prog 71 := ⟨_, Try.func71, by kernel_rfl, by kernel_rfl⟩
theorem en_72 : KAO Try.prog 72 := ⟨_, Try.func72, by kernel_rfl, by kernel_rfl⟩
theorem en_73 : KAO Try.prog 73 := ⟨_, Try.func73, by kernel_rfl, by kernel_rfl⟩
theorem en_74 : KAO Try.prog 74 := ⟨_, Try.func74, by kernel_rfl, by kernel_rfl⟩
theorem en_75 : KAO Try.prog 75 := ⟨_, Try.func75, by kernel_rfl, by kernel_rfl⟩
theorem en_76 : KAO Try.prog 76 := ⟨_, Try.func76, by kernel_rfl, by kernel_rfl⟩
theorem en_79 : KAO Try.prog 79 := ⟨_, Try.func79, by kernel_rfl, by kernel_rfl⟩
theorem en_93 : KAO Try.prog 93 := ⟨_, Try.func93, by kernel_rfl, by kernel_rfl⟩
theorem en_110 : KAO Try.prog 110 := ⟨_, Try.func110, by kernel_rfl, by kernel_rfl⟩
theorem en_111 : KAO Try.prog 111 := ⟨_, Try.func111, by kernel_rfl, by kernel_rfl⟩
theorem en_112 : KAO Try.prog 112 := ⟨_, Try.func112, by kernel_rfl, by kernel_rfl⟩
theorem en_113 : KAO Try.prog 113 := ⟨_, Try.func113, by kernel_rfl, by kernel_rfl⟩
theorem en_118 : KAO Try.prog 118 := ⟨_, Try.func118, by kernel_rfl, by kernel_rfl⟩
theorem en_119 : KAO Try.prog 119 := ⟨_, Try.func119, by kernel_rfl, by kernel_rfl⟩
theorem en_120 : KAO Try.prog 120 := ⟨_, Try.func120, by kernel_rfl, by kernel_rfl⟩
theorem en_122 : KAO Try.prog 122 := ⟨_, Try.func122, by kernel_rfl, by kernel_rfl⟩
theorem en_125 : KAO Try.prog 125 := ⟨_, Try.func125, by kernel_rfl, by kernel_rfl⟩
theorem en_144 : KAO Try.prog 144 := ⟨_, Try.func144, by kernel_rfl, by kernel_rfl⟩
theorem en_145 : KAO Try.prog 145 := ⟨_, Try.func145, by kernel_rfl, by kernel_rfl⟩
theorem en_146 : KAO Try.prog 146 := ⟨_, Try.func146, by kernel_rfl, by kernel_rfl⟩
theorem en_147 : KAO Try.prog 147 := ⟨_, Try.func147, by kernel_rfl, by kernel_rfl⟩
theorem en_148 : KAO Try.prog 148 := ⟨_, Try.func148, by kernel_rfl, by kernel_rfl⟩
theorem en_149 : KAO Try.prog 149 := ⟨_, Try.func149, by kernel_rfl, by kernel_rfl⟩
theorem en_150 : KAO Try.prog 150 := ⟨_, Try.func150, by kernel_rfl, by kernel_rfl⟩
theorem en_151 : KAO Try.prog 151 := ⟨_, Try.func151, by kernel_rfl, by kernel_rfl⟩
theorem en_152 : KAO Try.prog 152 := ⟨_, Try.func152, by kernel_rfl, by kernel_rfl⟩
theorem en_153 : KAO Try.prog 153 := ⟨_, Try.func153, by kernel_rfl, by kernel_rfl⟩
theorem en_154 : KAO Try.prog 154 := ⟨_, Try.func154, by kernel_rfl, by kernel_rfl⟩
theorem en_155 : KAO Try.prog 155 := ⟨_, Try.func155, by kernel_rfl, by kernel_rfl⟩
theorem en_156 : KAO Try.prog 156 := ⟨_, Try.func156, by kernel_rfl, by kernel_rfl⟩
theorem en_157 : KAO Try.prog 157 := ⟨_, Try.func157, by kernel_rfl, by kernel_rfl⟩
theorem en_169 : KAO Try.prog 169 := ⟨_, Try.func169, by kernel_rfl, by kernel_rfl⟩
theorem en_170 : KAO Try.prog 170 := ⟨_, Try.func170, by kernel_rfl, by kernel_rfl⟩
theorem ex_171 : Extern1 Try.prog 171 sub64Entry := ⟨_, Try.func171, by kernel_rfl, by kernel_rfl, by kernel_rfl, by kernel_rfl⟩
theorem en_172 : KAO Try.prog 172 := ⟨_, Try.func172, by kernel_rfl, by kernel_rfl⟩
theorem en_173 : KAO Try.prog 173 := ⟨_, Try.func173, by kernel_rfl, by kernel_rfl⟩
theorem en_174 : KAO Try.prog 174 := ⟨_, Try.func174, by kernel_rfl, by kernel_rfl⟩
theorem en_175 : KAO Try.prog 175 := ⟨_, Try.func175, by kernel_rfl, by kernel_rfl⟩
theorem en_183 : KAO Try.prog 183 := ⟨_, Try.func183, by kernel_rfl, by kernel_rfl⟩
theorem ex_184 : Extern1 Try.prog 184 add64Entry := ⟨_, Try.func184, by kernel_rfl, by kernel_rfl, by kernel_rfl, by kernel_rfl⟩
theorem en_185 : KAO Try.prog 185 := ⟨_, Try.func185, by kernel_rfl, by kernel_rfl⟩
theorem en_186 : KAO Try.prog 186 := ⟨_, Try.func186, by kernel_rfl, by kernel_rfl⟩
theorem en_187 : KAO Try.prog 187 := ⟨_, Try.func187, by kernel_rfl, by kernel_rfl⟩
theorem en_192 : KAO Try.prog 192 := ⟨_, Try.func192, by kernel_rfl, by kernel_rfl⟩
theorem en_193 : KAO Try.prog 193 := ⟨_, Try.func193, by kernel_rfl, by kernel_rfl⟩
theorem en_194 : KAO Try.prog 194 := ⟨_, Try.func194, by kernel_rfl, by kernel_rfl⟩
theorem en_195 : KAO Try.prog 195 := ⟨_, Try.func195, by kernel_rfl, by kernel_rfl⟩
theorem en_196 : KAO Try.prog 196 := ⟨_, Try.func196, by kernel_rfl, by kernel_rfl⟩
theorem en_197 : KAO Try.prog 197 := ⟨_, Try.func197, by kernel_rfl, by kernel_rfl⟩
end Go.Proofs.Ytljblbgogjieaaa
set_option linter.unusedVariables false
set_option linter.unusedSimpArgs false
set_option maxRecDepth 20000
namespace Go.Proofs.Ytljblbgogjieaaa
open Go Go.RowKit
theorem c_nat_Add (A B : Nat) (hA : A < W9) (hB : B < W9) (w : World)  : Calls Try.prog 174 ([natV A, natV B] : List Value).toArray w (fun e w' => e = .returned (.tuple #[natV ((A + B) % W9), .bool (decide (W9 ≤ A + B))]) ∧ Below w.heap.size w w') := by
  refine KAB (N := 31) (rs := [.cell 4 25, .tmp 5]) [] Try.func174 rfl Try.ntmps174 Try.results174 (Nb rfl) trivial rfl ?_
  show LCode _ _ _ ⟨_, _⟩ _
  refine KE (KB ?_)
  refine KK rfl (KY (KS (KAM rfl) (Nb rfl) (fun b2 => ?_)))
  refine KK rfl (KY (KS (KAM rfl) (Nb rfl) (fun b3 => ?_)))
  refine KK rfl (KY (KS (Kp zr_25) (Nb rfl) (fun b4 => ?_)))
  refine KA (KF rfl) (Nb rfl) ?_
  refine KG ?_
  refine KE (KB ?_)
  refine KA (KF (v := .int .u64 ((0 : Nat) : Int)) rfl) (Nb rfl) ?_
  refine KG ?_
  refine KE ?_
  refine KE (KB ?_)
  refine KA (KD (v := .int .i64 ((0 : Nat) : Int)) rfl) (Nb rfl) ?_
  refine KG ?_
  refine LCode.block ?_
  refine KAH (α := Nat) (fun x => x ≤ 9) (fun x => ⟨[(2, .pointer (some ⟨b2, 0, none⟩)), (3, .pointer (some ⟨b3, 0, none⟩)), (4, .pointer (some ⟨b4, 0, none⟩)), (6, .int .u64 ((carry A B x : Nat) : Int)), (8, .int .i64 ((x : Nat) : Int))], [.blk b4 ⟨true, vec .u64 9 (fun _ => 0), 25, (0, 0)⟩, .blk b3 ⟨true, natL B, 25, (0, 0)⟩, .blk b2 ⟨true, vec .u64 9 (fun j => if j < x then limb (A + B) j else limb A j), 25, (0, 0)⟩]⟩) (fun x => 9 - x) (0) (by omega) (KAE ⟨rfl, rfl, rfl, by rw [carry_zero]; rfl, rfl, trivial⟩ (by repeat (first | exact Sel.nil _ | refine Sel.cons (by repeat (first | exact Ph _ | apply Pt_)) ?_))) ?_
  intro x hx
  have hc := carry_le A B x
  have ha := add_limb A B x
  have hl := limb_lt (A + B) x
  refine KE (KB ?_)
  refine KA (KH rfl rfl (br_lss (b := 9))) (Nb rfl) ?_
  refine KG ?_
  refine KE ?_
  first | refine KU rfl (fun h9 => ?_) (fun h9 => ?_) | refine KX rfl (fun h9 => ?_) (fun h9 => ?_)
  ·
    have h9 : x < 9 := h9
    refine Ke ?_
    refine KE ?_
    refine LCode.block ?_
    refine KE (KB ?_)
    refine KA (KD rfl) (Nb rfl) ?_
    refine KA (KF rfl) (Nb rfl) ?_
    refine KG ?_
    refine Kc [16] (by kernel_rfl) ?_
    refine KC 0 rfl (by kernel_rfl) (Nb rfl) (KD rfl) ?_
    refine KC 1 rfl (by kernel_rfl) (Nb rfl) (KD rfl) ?_
    refine KC 2 rfl (by kernel_rfl) (Nb rfl) (KI (o' := 0) Try.underlying25 rfl rfl rfl sz_23 (by decide)) ?_
    refine KC 3 rfl (by kernel_rfl) (Nb rfl) (Kx Try.underlying23 sz_22 rfl rfl (by omega)) ?_
    refine LAny.take 4 rfl (by kernel_rfl) (Nb rfl) (KL rfl (by repeat (first | exact Mh _ | apply Mt)) (KP Try.underlying22 rfl (by exact Kn _ _ _ (by omega)))) ?_
    refine KC 5 rfl (by kernel_rfl) (Nb rfl) (KD rfl) ?_
    refine KC 6 rfl (by kernel_rfl) (Nb rfl) (KI (o' := 0) Try.underlying25 rfl rfl rfl sz_23 (by decide)) ?_
    refine KC 7 rfl (by kernel_rfl) (Nb rfl) (Kx Try.underlying23 sz_22 rfl rfl (by omega)) ?_
    refine LAny.take 8 rfl (by kernel_rfl) (Nb rfl) (KL rfl (by repeat (first | exact Mh _ | apply Mt)) (KP Try.underlying22 rfl (by exact Kl _ (by omega)))) ?_
    refine KC 9 rfl (by kernel_rfl) (Nb rfl) (KD rfl) ?_
    refine KC 10 rfl (by kernel_rfl) (Nb rfl) (Det.add64 ex_184 rfl rfl rfl (by omega)) ?_
    refine KC 11 rfl (by kernel_rfl) (Nb rfl) (KD rfl) ?_
    refine KC 12 rfl (by kernel_rfl) (Nb rfl) (Kt rfl rfl) ?_
    refine KC 13 rfl (by kernel_rfl) (Nb rfl) (Kt rfl rfl) ?_
    refine KC 14 rfl (by kernel_rfl) (Nb rfl) (KI (o' := 0) Try.underlying25 rfl rfl rfl sz_23 (by decide)) ?_
    refine KC 15 rfl (by kernel_rfl) (Nb rfl) (Kx Try.underlying23 sz_22 rfl rfl (by omega)) ?_
    refine KAA 16 rfl rfl (by kernel_rfl) (by kernel_rfl) (Kw rfl rfl rfl sz_22 (by repeat (first | exact Sh _ | apply St_)) (by first | (simp only [KM, KJ, KN, KAI]; omega) | (simp; omega)) (by first | exact KAX _ _ _ _ _ | exact KAb _ _ _ _ (by omega) | exact KAZ _ _ _ _ | rfl) (by simp) ?_)
    refine KC 17 rfl (by kernel_rfl) (Nb rfl) (KF rfl) ?_
    refine Kj (by kernel_rfl) ?_
    refine KB ?_
    refine KA (KH rfl rfl (KAG (b := 1) (by omega))) (Nb rfl) ?_
    refine KA (KD rfl) (Nb rfl) ?_
    refine KG ?_
    refine ⟨x + 1, by omega, by omega, KAi (Sub.cells (b := b2) (cs' := vec .u64 9 (fun j => if j < x + 1 then limb (A + B) j else limb A j)) (by repeat (first | exact Sh _ | apply St_)) ?_) (KAE ⟨rfl, rfl, rfl, congrArg (fun n : Nat => some (Value.int .u64 (n : Int))) ?_, rfl, trivial⟩ (by repeat (first | exact Sel.nil _ | refine Sel.cons (by repeat (first | exact Ph _ | apply Pt_)) ?_)))⟩
    · apply KAP
      intro j hj
      by_cases e : j = x
      · subst e
        simp
        omega
      · simp only [e, if_false]
        by_cases e2 : j < x
        · rw [if_pos e2, if_pos (by omega)]
        · rw [if_neg e2, if_neg (by omega)]
    · simp
      omega
  ·
    have h9 : ¬ x < 9 := h9
    refine KAC ?_
    refine KE (KB ?_)
    refine LOps.det (KL rfl (by repeat (first | exact Mh _ | apply Mt)) (by exact KR Try.underlying25 rfl sz_25)) (Nb rfl) ?_
    refine KA (KD rfl) (Nb rfl) ?_
    refine KA (KH rfl rfl (br_eql (b := 1))) (Nb rfl) ?_
    refine KK rfl (Kb rfl rfl sz_25 (by repeat (first | exact Ky _ | exact KAT _ _ _ | exact KAJ _ | exact KAK _ _ _ | exact KAV _ _ _ | exact Kf | refine KZ rfl ?_ | refine Ko ?_ ?_)) (by repeat (first | exact Sh _ | apply St_)) (by first | exact KJ _ | exact KM _ _ _ | exact KN _ | exact Kd _ _ _ | exact KAD _ _ _ | rfl | simp [KM, KJ, KN]) ?_)
    refine KA (KF rfl) (Nb rfl) ?_
    refine KG (KQ ?_)
    obtain rfl : x = 9 := by omega
    refine ⟨[_, _], .cons ⟨_, _, _, rfl, (by repeat (first | exact Mh _ | apply Mt)), by exact KR Try.underlying25 rfl sz_25⟩ (.cons rfl .nil), fun a w' hr => ⟨?_, hr.fr.below⟩⟩
    rw [natV_mod]
    have h1 : (vec IntKind.u64 9 fun j => if j < 9 then limb (A + B) j else limb A j) = natL (A + B) := KAP (fun i hi => if_pos hi)
    have h2 : decide (carry A B 9 = 1) = decide (W9 ≤ A + B) := by
      rw [carry_nine A B 9 rfl hA hB]
      by_cases h : W9 ≤ A + B <;> simp [h]
    show Ending.returned (.tuple #[.agg (vec IntKind.u64 9 fun j => if j < 9 then limb (A + B) j else limb A j).toArray, .bool (decide (carry A B 9 = 1))]) = _
    rw [h1, h2]
    rfl
theorem c_nat_Sub (A B : Nat) (hA : A < W9) (hB : B < W9) (w : World)  : Calls Try.prog 149 ([natV A, natV B] : List Value).toArray w (fun e w' => e = .returned (.tuple #[natV (dif A B), .bool (decide (A < B))]) ∧ Below w.heap.size w w') := by
  refine KAB (N := 31) (rs := [.cell 4 25, .tmp 5]) [] Try.func149 rfl Try.ntmps149 Try.results149 (Nb rfl) trivial rfl ?_
  show LCode _ _ _ ⟨_, _⟩ _
  refine KE (KB ?_)
  refine KK rfl (KY (KS (KAM rfl) (Nb rfl) (fun b2 => ?_)))
  refine KK rfl (KY (KS (KAM rfl) (Nb rfl) (fun b3 => ?_)))
  refine KK rfl (KY (KS (Kp zr_25) (Nb rfl) (fun b4 => ?_)))
  refine KA (KF rfl) (Nb rfl) ?_
  refine KG ?_
  refine KE (KB ?_)
  refine KA (KF (v := .int .u64 ((0 : Nat) : Int)) rfl) (Nb rfl) ?_
  refine KG ?_
  refine KE ?_
  refine KE (KB ?_)
  refine KA (KD (v := .int .i64 ((0 : Nat) : Int)) rfl) (Nb rfl) ?_
  refine KG ?_
  refine LCode.block ?_
  refine KAH (α := Nat) (fun x => x ≤ 9) (fun x => ⟨[(2, .pointer (some ⟨b2, 0, none⟩)), (3, .pointer (some ⟨b3, 0, none⟩)), (4, .pointer (some ⟨b4, 0, none⟩)), (6, .int .u64 ((borrow A B x : Nat) : Int)), (8, .int .i64 ((x : Nat) : Int))], [.blk b4 ⟨true, vec .u64 9 (fun _ => 0), 25, (0, 0)⟩, .blk b3 ⟨true, natL B, 25, (0, 0)⟩, .blk b2 ⟨true, vec .u64 9 (fun j => if j < x then limb (dif A B) j else limb A j), 25, (0, 0)⟩]⟩) (fun x => 9 - x) (0) (by omega) (KAE ⟨rfl, rfl, rfl, by rw [borrow_zero]; rfl, rfl, trivial⟩ (by repeat (first | exact Sel.nil _ | refine Sel.cons (by repeat (first | exact Ph _ | apply Pt_)) ?_))) ?_
  intro x hx
  have hc := borrow_le A B x
  refine KE (KB ?_)
  refine KA (KH rfl rfl (br_lss (b := 9))) (Nb rfl) ?_
  refine KG ?_
  refine KE ?_
  first | refine KU rfl (fun h9 => ?_) (fun h9 => ?_) | refine KX rfl (fun h9 => ?_) (fun h9 => ?_)
  ·
    have h9 : x < 9 := h9
    have ha := sub_limb A B x hA hB h9
    have hb := borrow_succ A B x
    refine Ke ?_
    refine KE ?_
    refine LCode.block ?_
    refine KE (KB ?_)
    refine KA (KD rfl) (Nb rfl) ?_
    refine KA (KF rfl) (Nb rfl) ?_
    refine KG ?_
    refine Kc [16] (by kernel_rfl) ?_
    refine KC 0 rfl (by kernel_rfl) (Nb rfl) (KD rfl) ?_
    refine KC 1 rfl (by kernel_rfl) (Nb rfl) (KD rfl) ?_
    refine KC 2 rfl (by kernel_rfl) (Nb rfl) (KI (o' := 0) Try.underlying25 rfl rfl rfl sz_23 (by decide)) ?_
    refine KC 3 rfl (by kernel_rfl) (Nb rfl) (Kx Try.underlying23 sz_22 rfl rfl (by omega)) ?_
    refine LAny.take 4 rfl (by kernel_rfl) (Nb rfl) (KL rfl (by repeat (first | exact Mh _ | apply Mt)) (KP Try.underlying22 rfl (by exact Kn _ _ _ (by omega)))) ?_
    refine KC 5 rfl (by kernel_rfl) (Nb rfl) (KD rfl) ?_
    refine KC 6 rfl (by kernel_rfl) (Nb rfl) (KI (o' := 0) Try.underlying25 rfl rfl rfl sz_23 (by decide)) ?_
    refine KC 7 rfl (by kernel_rfl) (Nb rfl) (Kx Try.underlying23 sz_22 rfl rfl (by omega)) ?_
    refine LAny.take 8 rfl (by kernel_rfl) (Nb rfl) (KL rfl (by repeat (first | exact Mh _ | apply Mt)) (KP Try.underlying22 rfl (by exact Kl _ (by omega)))) ?_
    refine KC 9 rfl (by kernel_rfl) (Nb rfl) (KD rfl) ?_
    refine KC 10 rfl (by kernel_rfl) (Nb rfl) (Det.sub64 ex_171 rfl rfl rfl (by omega)) ?_
    refine KC 11 rfl (by kernel_rfl) (Nb rfl) (KD rfl) ?_
    refine KC 12 rfl (by kernel_rfl) (Nb rfl) (Kt rfl rfl) ?_
    refine KC 13 rfl (by kernel_rfl) (Nb rfl) (Kt rfl rfl) ?_
    refine KC 14 rfl (by kernel_rfl) (Nb rfl) (KI (o' := 0) Try.underlying25 rfl rfl rfl sz_23 (by decide)) ?_
    refine KC 15 rfl (by kernel_rfl) (Nb rfl) (Kx Try.underlying23 sz_22 rfl rfl (by omega)) ?_
    refine KAA 16 rfl rfl (by kernel_rfl) (by kernel_rfl) (Kw rfl rfl rfl sz_22 (by repeat (first | exact Sh _ | apply St_)) (by first | (simp only [KM, KJ, KN, KAI]; omega) | (simp; omega)) (by first | exact KAX _ _ _ _ _ | exact KAb _ _ _ _ (by omega) | exact KAZ _ _ _ _ | rfl) (by simp) ?_)
    refine KC 17 rfl (by kernel_rfl) (Nb rfl) (KF rfl) ?_
    refine Kj (by kernel_rfl) ?_
    refine KB ?_
    refine KA (KH rfl rfl (KAG (b := 1) (by omega))) (Nb rfl) ?_
    refine KA (KD rfl) (Nb rfl) ?_
    refine KG ?_
    refine ⟨x + 1, by omega, by omega, KAi (Sub.cells (b := b2) (cs' := vec .u64 9 (fun j => if j < x + 1 then limb (dif A B) j else limb A j)) (by repeat (first | exact Sh _ | apply St_)) ?_) (KAE ⟨rfl, rfl, rfl, congrArg (fun n : Nat => some (Value.int .u64 (n : Int))) ?_, rfl, trivial⟩ (by repeat (first | exact Sel.nil _ | refine Sel.cons (by repeat (first | exact Ph _ | apply Pt_)) ?_)))⟩
    · apply KAP
      intro j hj
      by_cases e : j = x
      · subst e
        simp
        omega
      · simp only [e, if_false]
        by_cases e2 : j < x
        · rw [if_pos e2, if_pos (by omega)]
        · rw [if_neg e2, if_neg (by omega)]
    · simp
      omega
  ·
    have h9 : ¬ x < 9 := h9
    refine KAC ?_
    refine KE (KB ?_)
    refine LOps.det (KL rfl (by repeat (first | exact Mh _ | apply Mt)) (by exact KR Try.underlying25 rfl sz_25)) (Nb rfl) ?_
    refine KA (KD rfl) (Nb rfl) ?_
    refine KA (KH rfl rfl (br_eql (b := 1))) (Nb rfl) ?_
    refine KK rfl (Kb rfl rfl sz_25 (by repeat (first | exact Ky _ | exact KAT _ _ _ | exact KAJ _ | exact KAK _ _ _ | exact KAV _ _ _ | exact Kf | refine KZ rfl ?_ | refine Ko ?_ ?_)) (by repeat (first | exact Sh _ | apply St_)) (by first | exact KJ _ | exact KM _ _ _ | exact KN _ | exact Kd _ _ _ | exact KAD _ _ _ | rfl | simp [KM, KJ, KN]) ?_)
    refine KA (KF rfl) (Nb rfl) ?_
    refine KG (KQ ?_)
    obtain rfl : x = 9 := by omega
    refine ⟨[_, _], .cons ⟨_, _, _, rfl, (by repeat (first | exact Mh _ | apply Mt)), by exact KR Try.underlying25 rfl sz_25⟩ (.cons rfl .nil), fun a w' hr => ⟨?_, hr.fr.below⟩⟩
    have h1 : (vec IntKind.u64 9 fun j => if j < 9 then limb (dif A B) j else limb A j) = natL (dif A B) := KAP (fun i hi => if_pos hi)
    have h2 : decide (borrow A B 9 = 1) = decide (A < B) := by
      rw [borrow_nine A B 9 rfl hA hB]
      by_cases h : A < B <;> simp [h]
    show Ending.returned (.tuple #[.agg (vec IntKind.u64 9 fun j => if j < 9 then limb (dif A B) j else limb A j).toArray, .bool (decide (borrow A B 9 = 1))]) = _
    rw [h1, h2]
    rfl
theorem c_nat_used (A b : Nat) (wr : Bool) (w : World) (hb : (Item.blk b ⟨wr, natL A, 25, (0, 0)⟩).holds w) (hA : A < W9) : Calls Try.prog 172 ([.pointer (some ⟨b, 0, none⟩)] : List Value).toArray w (fun e w' => e = .returned (.int .i64 ((nw A : Nat) : Int)) ∧ Below w.heap.size w w') := by
  refine KAB (N := 19) (rs := [.tmp 2]) [.blk b ⟨false, natL A, 25, (0, 0)⟩] Try.func172 rfl Try.ntmps172 Try.results172 (Nb rfl) ⟨hb, trivial⟩ rfl ?_
  show LCode _ _ _ ⟨_, _⟩ _
  refine KE (KB ?_)
  refine KA (KF (v := .int .i64 ((0 : Nat) : Int)) rfl) (Nb rfl) ?_
  refine KG ?_
  refine KE (KB ?_)
  refine KA (KF (v := .int .i64 ((9 : Nat) : Int)) rfl) (Nb rfl) ?_
  refine KG ?_
  refine KE ?_
  refine LCode.block ?_
  refine KAH (α := Nat) (fun x => x ≤ 9 ∧ A < 2 ^ (64 * x)) (fun x => ⟨[(0, .pointer (some ⟨b, 0, none⟩)), (3, .int .i64 ((x : Nat) : Int))], [.blk b ⟨false, natL A, 25, (0, 0)⟩]⟩) (fun x => x) (9) (⟨by omega, lt_w9_pow hA 9 rfl⟩) (KAE ⟨rfl, rfl, trivial⟩ (by repeat (first | exact Sel.nil _ | refine Sel.cons (by repeat (first | exact Ph _ | apply Pt_)) ?_))) ?_
  rintro x ⟨hx, hlt⟩
  refine KE ?_
  refine KE ?_
  by_cases h0 : 0 < x
  ·
    refine KB ?_
    refine KA (KD rfl) (Nb rfl) ?_
    refine KA (KH rfl rfl (br_t (br_gtr (b := 0)) h0)) (Nb rfl) ?_
    refine KA (KD rfl) (Nb rfl) ?_
    refine Kg rfl rfl (KD rfl) (Nb rfl) ?_
    refine Kg rfl rfl (KD rfl) (Nb rfl) ?_
    refine Kg rfl rfl (KH rfl rfl (br_sub (b := 1) (by omega) (by omega))) (Nb rfl) ?_
    refine Kg rfl rfl (KW rfl) (Nb rfl) ?_
    refine Kg rfl rfl (KI (o' := 0) Try.underlying25 rfl rfl rfl sz_23 (by decide)) (Nb rfl) ?_
    refine Kg rfl rfl (Kx Try.underlying23 sz_22 rfl rfl (by omega)) (Nb rfl) ?_
    refine LOps.detG rfl rfl (KL rfl (by repeat (first | exact Mh _ | apply Mt)) (KP Try.underlying22 rfl (by exact Kl _ (show x - 1 < 9 by omega)))) (Nb rfl) ?_
    refine Kg rfl rfl (KH rfl rfl (br_eql (b := 0))) (Nb rfl) ?_
    refine KA (Km rfl rfl) (Nb rfl) ?_
    refine KG ?_
    first | refine KU rfl (fun h15 => ?_) (fun h15 => ?_) | refine KX rfl (fun h15 => ?_) (fun h15 => ?_)
    ·
      have h15 : limb A (x - 1) = 0 := by have := h15; simpa using this
      refine Ke ?_
      refine LCode.block ?_
      refine KB ?_
      refine KA (KD rfl) (Nb rfl) ?_
      refine KA (KH rfl rfl (br_sub (b := 1) (by omega) (by omega))) (Nb rfl) ?_
      refine KA (KF rfl) (Nb rfl) ?_
      refine KG ?_
      refine ⟨x - 1, ⟨by omega, ?_⟩, by omega, KAE ⟨rfl, rfl, trivial⟩ (by repeat (first | exact Sel.nil _ | refine Sel.cons (by repeat (first | exact Ph _ | apply Pt_)) ?_))⟩
      exact lt_of_limb_zero (A := A) (n := x - 1) (by rw [show x - 1 + 1 = x by omega]; exact hlt) h15
    ·
      have h15 : ¬ limb A (x - 1) = 0 := by have := h15; simpa using this
      refine KAC ?_
      refine KE (KB ?_)
      refine KA (KD rfl) (Nb rfl) ?_
      refine KA (KF rfl) (Nb rfl) ?_
      refine KG (KQ ?_)
      have he : nw A = x := nw_eq hlt (.inr (le_of_limb (A := A) (n := x - 1) (by rw [show x - 1 + 1 = x by omega]; exact hlt) h15))
      refine ⟨[_], .cons rfl .nil, fun a w' hr => ⟨?_, hr.fr.below⟩⟩
      rw [he]; rfl
  ·
    refine KB ?_
    refine KA (KD rfl) (Nb rfl) ?_
    refine KA (KH rfl rfl (br_f (br_gtr (b := 0)) h0)) (Nb rfl) ?_
    refine KA (KD rfl) (Nb rfl) ?_
    refine Kr rfl rfl rfl (Nb rfl) ?_
    refine Kr rfl rfl rfl (Nb rfl) ?_
    refine Kr rfl rfl rfl (Nb rfl) ?_
    refine Kr rfl rfl rfl (Nb rfl) ?_
    refine Kr rfl rfl rfl (Nb rfl) ?_
    refine Kr rfl rfl rfl (Nb rfl) ?_
    refine Kr rfl rfl rfl (Nb rfl) ?_
    refine Kr rfl rfl rfl (Nb rfl) ?_
    refine KA (KAL rfl rfl) (Nb rfl) ?_
    refine KG ?_
    refine Ku rfl ?_
    refine KAC ?_
    refine KE (KB ?_)
    refine KA (KD rfl) (Nb rfl) ?_
    refine KA (KF rfl) (Nb rfl) ?_
    refine KG (KQ ?_)
    have he : nw A = x := nw_eq hlt (.inl (by omega))
    refine ⟨[_], .cons rfl .nil, fun a w' hr => ⟨?_, hr.fr.below⟩⟩
    rw [he]; rfl
theorem c_nat_Cmp (A B : Nat) (hA : A < W9) (hB : B < W9) (w : World)  : Calls Try.prog 113 ([natV A, natV B] : List Value).toArray w (fun e w' => e = .returned (.int .i64 (cmpI A B)) ∧ Below w.heap.size w w') := by
  refine KAB (N := 30) (rs := [.tmp 4]) [] Try.func113 rfl Try.ntmps113 Try.results113 (Nb rfl) trivial rfl ?_
  show LCode _ _ _ ⟨_, _⟩ _
  refine KE (KB ?_)
  refine KK rfl (KY (KS (KAM rfl) (Nb rfl) (fun b2 => ?_)))
  refine KK rfl (KY (KS (KAM rfl) (Nb rfl) (fun b3 => ?_)))
  refine KA (KF (v := .int .i64 ((0 : Nat) : Int)) rfl) (Nb rfl) ?_
  refine KG ?_
  refine KE ?_
  refine KE (KB ?_)
  refine KA (KF (v := .int .i64 ((8 : Nat) : Int)) rfl) (Nb rfl) ?_
  refine KG ?_
  refine LCode.block ?_
  refine KAH (α := Nat) (fun x => x ≤ 9 ∧ A / 2 ^ (64 * x) = B / 2 ^ (64 * x)) (fun x => ⟨[(2, .pointer (some ⟨b2, 0, none⟩)), (3, .pointer (some ⟨b3, 0, none⟩)), (5, .int .i64 ((x : Int) - 1))], [.blk b3 ⟨true, natL B, 25, (0, 0)⟩, .blk b2 ⟨true, natL A, 25, (0, 0)⟩]⟩) (fun x => x) (9) (⟨by omega, by rw [Nat.div_eq_of_lt (lt_w9_pow hA 9 rfl), Nat.div_eq_of_lt (lt_w9_pow hB 9 rfl)]⟩) (KAE ⟨rfl, rfl, rfl, trivial⟩ (by repeat (first | exact Sel.nil _ | refine Sel.cons (by repeat (first | exact Ph _ | apply Pt_)) ?_))) ?_
  rintro x ⟨hx, hab⟩
  refine KE ?_
  refine KE ?_
  rcases Nat.eq_zero_or_pos x with h0 | h0
  ·
    refine KB ?_
    refine KA (KD rfl) (Nb rfl) ?_
    refine KA (KH (v := .bool false) rfl rfl (by subst h0; rfl)) (Nb rfl) ?_
    refine KG ?_
    refine Ku rfl ?_
    refine KAC ?_
    refine KE (KB ?_)
    refine KA (KF (v := .int .i64 ((0 : Nat) : Int)) rfl) (Nb rfl) ?_
    refine KG (KQ ?_)
    have he : A = B := by subst h0; simpa using hab
    refine ⟨[_], .cons rfl .nil, fun a w' hr => ⟨?_, hr.fr.below⟩⟩
    simp [resOf, cmpI, he]
  ·
    obtain ⟨x, rfl⟩ : ∃ y, x = y + 1 := ⟨x - 1, by omega⟩
    refine KB ?_
    refine KA (KD rfl) (Nb rfl) ?_
    refine KA (KH (v := .bool true) rfl rfl (by simp [KAQ])) (Nb rfl) ?_
    refine KG ?_
    refine KAF rfl ?_
    refine Ke ?_
    refine KE ?_
    refine LCode.block ?_
    refine LCode.block ?_
    refine KE ?_
    refine Kc [] (by kernel_rfl) ?_
    refine KC 0 rfl (by kernel_rfl) (Nb rfl) (KD (v := .int .i64 ((x : Nat) : Int)) (by show some _ = some _; congr 2; omega)) ?_
    refine KC 1 rfl (by kernel_rfl) (Nb rfl) (KI (o' := 0) Try.underlying25 rfl rfl rfl sz_23 (by decide)) ?_
    refine KC 2 rfl (by kernel_rfl) (Nb rfl) (Kx Try.underlying23 sz_22 rfl rfl (by omega)) ?_
    refine LAny.take 3 rfl (by kernel_rfl) (Nb rfl) (KL rfl (by repeat (first | exact Mh _ | apply Mt)) (KP Try.underlying22 rfl (by exact Kl _ (show x < 9 by omega)))) ?_
    refine KC 4 rfl (by kernel_rfl) (Nb rfl) (KD (v := .int .i64 ((x : Nat) : Int)) (by show some _ = some _; congr 2; omega)) ?_
    refine KC 5 rfl (by kernel_rfl) (Nb rfl) (KI (o' := 0) Try.underlying25 rfl rfl rfl sz_23 (by decide)) ?_
    refine KC 6 rfl (by kernel_rfl) (Nb rfl) (Kx Try.underlying23 sz_22 rfl rfl (by omega)) ?_
    refine LAny.take 7 rfl (by kernel_rfl) (Nb rfl) (KL rfl (by repeat (first | exact Mh _ | apply Mt)) (KP Try.underlying22 rfl (by exact Kl _ (show x < 9 by omega)))) ?_
    refine KC 8 rfl (by kernel_rfl) (Nb rfl) (KH rfl rfl (br_lss)) ?_
    refine KC 9 rfl (by kernel_rfl) (Nb rfl) (KF rfl) ?_
    refine Kj (by kernel_rfl) ?_
    first | refine KU rfl (fun h10 => ?_) (fun h10 => ?_) | refine KX rfl (fun h10 => ?_) (fun h10 => ?_)
    ·
      refine KE (KB ?_)
      refine KA (KF rfl) (Nb rfl) ?_
      refine KG (KQ ?_)
      have he : A < B := lt_of_limb hab h10
      refine ⟨[_], .cons rfl .nil, fun a w' hr => ⟨?_, hr.fr.below⟩⟩
      simp [resOf, cmpI, he]
    ·
      refine KE ?_
      refine Kc [] (by kernel_rfl) ?_
      refine KC 0 rfl (by kernel_rfl) (Nb rfl) (KD (v := .int .i64 ((x : Nat) : Int)) (by show some _ = some _; congr 2; omega)) ?_
      refine KC 1 rfl (by kernel_rfl) (Nb rfl) (KI (o' := 0) Try.underlying25 rfl rfl rfl sz_23 (by decide)) ?_
      refine KC 2 rfl (by kernel_rfl) (Nb rfl) (Kx Try.underlying23 sz_22 rfl rfl (by omega)) ?_
      refine LAny.take 3 rfl (by kernel_rfl) (Nb rfl) (KL rfl (by repeat (first | exact Mh _ | apply Mt)) (KP Try.underlying22 rfl (by exact Kl _ (show x < 9 by omega)))) ?_
      refine KC 4 rfl (by kernel_rfl) (Nb rfl) (KD (v := .int .i64 ((x : Nat) : Int)) (by show some _ = some _; congr 2; omega)) ?_
      refine KC 5 rfl (by kernel_rfl) (Nb rfl) (KI (o' := 0) Try.underlying25 rfl rfl rfl sz_23 (by decide)) ?_
      refine KC 6 rfl (by kernel_rfl) (Nb rfl) (Kx Try.underlying23 sz_22 rfl rfl (by omega)) ?_
      refine LAny.take 7 rfl (by kernel_rfl) (Nb rfl) (KL rfl (by repeat (first | exact Mh _ | apply Mt)) (KP Try.underlying22 rfl (by exact Kl _ (show x < 9 by omega)))) ?_
      refine KC 8 rfl (by kernel_rfl) (Nb rfl) (KH rfl rfl (br_gtr)) ?_
      refine KC 9 rfl (by kernel_rfl) (Nb rfl) (KF rfl) ?_
      refine Kj (by kernel_rfl) ?_
      first | refine KU rfl (fun h20 => ?_) (fun h20 => ?_) | refine KX rfl (fun h20 => ?_) (fun h20 => ?_)
      ·
        refine KE (KB ?_)
        refine KA (KF (v := .int .i64 ((1 : Nat) : Int)) rfl) (Nb rfl) ?_
        refine KG (KQ ?_)
        have he : B < A := lt_of_limb hab.symm h20
        have he2 : ¬ A < B := by omega
        refine ⟨[_], .cons rfl .nil, fun a w' hr => ⟨?_, hr.fr.below⟩⟩
        simp [resOf, cmpI, he, he2]
      ·
        refine Ke ?_
        refine KB ?_
        refine KA (KD (v := .int .i64 ((x : Nat) : Int)) (by show some _ = some _; congr 2; omega)) (Nb rfl) ?_
        refine KA (KH rfl rfl rfl) (Nb rfl) ?_
        refine KA (KF rfl) (Nb rfl) ?_
        refine KG ?_
        refine ⟨x, ⟨by omega, ?_⟩, by omega, KAE ⟨rfl, rfl, ?_, trivial⟩ (by repeat (first | exact Sel.nil _ | refine Sel.cons (by repeat (first | exact Ph _ | apply Pt_)) ?_))⟩
        · have h1 : limb A x = limb B x := by omega
          exact (div_eq_iff_limb A B x).2 ⟨hab, h1⟩
        · exact congrArg (fun i : Int => some (Value.int .i64 i)) (wrap_i64 (by omega) (by omega))
end Go.Proofs.Ytljblbgogjieaaa
set_option linter.unusedVariables false
set_option linter.unusedSimpArgs false
set_option maxRecDepth 20000
namespace Go.Proofs.Ytljblbgogjieaaa
open Go Go.RowKit
theorem c_Mul64 (x y : Nat) (hx : x < 18446744073709551616) (hy : y < 18446744073709551616) (w : World)  : Calls Try.prog 193 ([.int .u64 ((x : Nat) : Int), .int .u64 ((y : Nat) : Int)] : List Value).toArray w (fun e w' => e = .returned (.tuple #[.int .u64 ((x * y / 18446744073709551616 : Nat) : Int), .int .u64 ((x * y % 18446744073709551616 : Nat) : Int)]) ∧ Below w.heap.size w w') := by
  refine KAB (N := 51) (rs := [.tmp 4, .tmp 5]) [] Try.func193 rfl Try.ntmps193 Try.results193 (Nb rfl) trivial rfl ?_
  show LCode _ _ _ ⟨_, _⟩ _
  refine KE (KB ?_)
  refine KA (KF (v := .int .u64 ((0 : Nat) : Int)) rfl) (Nb rfl) ?_
  refine KA (KF (v := .int .u64 ((0 : Nat) : Int)) rfl) (Nb rfl) ?_
  refine KG ?_
  refine KE (KB ?_)
  refine KA (KD rfl) (Nb rfl) ?_
  refine KA (KH rfl rfl (br_and64 (b := 4294967295) (by omega) (by omega))) (Nb rfl) ?_
  refine KA (KF rfl) (Nb rfl) ?_
  refine KG ?_
  refine KE (KB ?_)
  refine KA (KD rfl) (Nb rfl) ?_
  refine KA (KH rfl rfl (KAd (b := 32) (by omega))) (Nb rfl) ?_
  refine KA (KF rfl) (Nb rfl) ?_
  refine KG ?_
  refine KE (KB ?_)
  refine KA (KD rfl) (Nb rfl) ?_
  refine KA (KH rfl rfl (br_and64 (b := 4294967295) (by omega) (by omega))) (Nb rfl) ?_
  refine KA (KF rfl) (Nb rfl) ?_
  refine KG ?_
  refine KE (KB ?_)
  refine KA (KD rfl) (Nb rfl) ?_
  refine KA (KH rfl rfl (KAd (b := 32) (by omega))) (Nb rfl) ?_
  refine KA (KF rfl) (Nb rfl) ?_
  refine KG ?_
  refine KE (KB ?_)
  refine KA (KD rfl) (Nb rfl) ?_
  refine KA (KD rfl) (Nb rfl) ?_
  refine KA (KH rfl rfl (br_mul64)) (Nb rfl) ?_
  refine KA (KF rfl) (Nb rfl) ?_
  refine KG ?_
  refine KE (KB ?_)
  refine KA (KD rfl) (Nb rfl) ?_
  refine KA (KD rfl) (Nb rfl) ?_
  refine KA (KH rfl rfl (br_mul64)) (Nb rfl) ?_
  refine KA (KD rfl) (Nb rfl) ?_
  refine KA (KH rfl rfl (KAd (b := 32) (by omega))) (Nb rfl) ?_
  refine KA (KH rfl rfl (KAa)) (Nb rfl) ?_
  refine KA (KF rfl) (Nb rfl) ?_
  refine KG ?_
  refine KE (KB ?_)
  refine KA (KD rfl) (Nb rfl) ?_
  refine KA (KH rfl rfl (br_and64 (b := 4294967295) (by omega) (by omega))) (Nb rfl) ?_
  refine KA (KF rfl) (Nb rfl) ?_
  refine KG ?_
  refine KE (KB ?_)
  refine KA (KD rfl) (Nb rfl) ?_
  refine KA (KH rfl rfl (KAd (b := 32) (by omega))) (Nb rfl) ?_
  refine KA (KF rfl) (Nb rfl) ?_
  refine KG ?_
  refine KE (KB ?_)
  refine KA (KD rfl) (Nb rfl) ?_
  refine KA (KD rfl) (Nb rfl) ?_
  refine KA (KD rfl) (Nb rfl) ?_
  refine KA (KH rfl rfl (br_mul64)) (Nb rfl) ?_
  refine KA (KH rfl rfl (KAa)) (Nb rfl) ?_
  refine KA (KF rfl) (Nb rfl) ?_
  refine KG ?_
  refine KE (KB ?_)
  refine KA (KD rfl) (Nb rfl) ?_
  refine KA (KD rfl) (Nb rfl) ?_
  refine KA (KH rfl rfl (br_mul64)) (Nb rfl) ?_
  refine KA (KD rfl) (Nb rfl) ?_
  refine KA (KH rfl rfl (KAa)) (Nb rfl) ?_
  refine KA (KD rfl) (Nb rfl) ?_
  refine KA (KH rfl rfl (KAd (b := 32) (by omega))) (Nb rfl) ?_
  refine KA (KH rfl rfl (KAa)) (Nb rfl) ?_
  refine KA (KF rfl) (Nb rfl) ?_
  refine KG ?_
  refine KE (KB ?_)
  refine KA (KD rfl) (Nb rfl) ?_
  refine KA (KD rfl) (Nb rfl) ?_
  refine KA (KH rfl rfl (br_mul64)) (Nb rfl) ?_
  refine KA (KF rfl) (Nb rfl) ?_
  refine KG (KQ ?_)
  refine ⟨[_, _], .cons rfl (.cons rfl .nil), fun a w' hr => ⟨?_, hr.fr.below⟩⟩
  have h := mul64_hi x y hx hy
  rw [← h]
  rfl
def lenTab : List UInt8 := [0, 1, 2, 2, 3, 3, 3, 3, 4, 4, 4, 4, 4, 4, 4, 4, 5, 5, 5, 5, 5, 5, 5, 5, 5, 5, 5, 5, 5, 5, 5, 5, 6, 6, 6, 6, 6, 6, 6, 6, 6, 6, 6, 6, 6, 6, 6, 6, 6, 6, 6, 6, 6, 6, 6, 6, 6, 6, 6, 6, 6, 6, 6, 6, 7, 7, 7, 7, 7, 7, 7, 7, 7, 7, 7, 7, 7, 7, 7, 7, 7, 7, 7, 7, 7, 7, 7, 7, 7, 7, 7, 7, 7, 7, 7, 7, 7, 7, 7, 7, 7, 7, 7, 7, 7, 7, 7, 7, 7, 7, 7, 7, 7, 7, 7, 7, 7, 7, 7, 7, 7, 7, 7, 7, 7, 7, 7, 7, 8, 8, 8, 8, 8, 8, 8, 8, 8, 8, 8, 8, 8, 8, 8, 8, 8, 8, 8, 8, 8, 8, 8, 8, 8, 8, 8, 8, 8, 8, 8, 8, 8, 8, 8, 8, 8, 8, 8, 8, 8, 8, 8, 8, 8, 8, 8, 8, 8, 8, 8, 8, 8, 8, 8, 8, 8, 8, 8, 8, 8, 8, 8, 8, 8, 8, 8, 8, 8, 8, 8, 8, 8, 8, 8, 8, 8, 8, 8, 8, 8, 8, 8, 8, 8, 8, 8, 8, 8, 8, 8, 8, 8, 8, 8, 8, 8, 8, 8, 8, 8, 8, 8, 8, 8, 8, 8, 8, 8, 8, 8, 8, 8, 8, 8, 8, 8, 8, 8, 8, 8, 8, 8, 8, 8, 8, 8, 8]
theorem len_tab : ∀ i, i < 256 → (lenTab.getD i 0).toNat = blen i := by decide +kernel
theorem len_tab_int (i : Nat) (h : i < 256) : (Value.int .u8 ((lenTab.getD ((i : Int).toNat) 0).toNat : Int)) = .int .u8 ((blen i : Nat) : Int) := by rw [Int.toNat_natCast, len_tab i h]
theorem blen_m8 (z : Nat) : blen (z % 256) ≤ 8 := blen_le (Nat.mod_lt _ (by decide))
theorem c_Len64 (x : Nat) (hx : x < 18446744073709551616) (w : World)  : Calls Try.prog 173 ([.int .u64 ((x : Nat) : Int)] : List Value).toArray w (fun e w' => e = .returned (.int .i64 ((blen x : Nat) : Int)) ∧ Below w.heap.size w w') := by
  refine KAB (N := 25) (rs := [.tmp 2]) [] Try.func173 rfl Try.ntmps173 Try.results173 (Nb rfl) trivial rfl ?_
  show LCode _ _ _ ⟨_, _⟩ _
  refine KE (KB ?_)
  refine KA (KF (v := .int .i64 ((0 : Nat) : Int)) rfl) (Nb rfl) ?_
  refine KG ?_
  refine KE ?_
  refine KE (KB ?_)
  refine KA (KD rfl) (Nb rfl) ?_
  refine KA (KH rfl rfl (br_geq (b := 4294967296))) (Nb rfl) ?_
  refine KG ?_
  first | refine KU rfl (fun h4 => ?_) (fun h4 => ?_) | refine KX rfl (fun h4 => ?_) (fun h4 => ?_)
  ·
    refine KE (KB ?_)
    refine KA (KD rfl) (Nb rfl) ?_
    refine KA (KH rfl rfl (KAd (b := 32) (by omega))) (Nb rfl) ?_
    refine KA (KF rfl) (Nb rfl) ?_
    refine KG ?_
    refine KB ?_
    refine KA (KF (v := .int .i64 ((32 : Nat) : Int)) rfl) (Nb rfl) ?_
    refine KG ?_
    refine KE ?_
    refine KE (KB ?_)
    refine KA (KD rfl) (Nb rfl) ?_
    refine KA (KH rfl rfl (br_geq (b := 65536))) (Nb rfl) ?_
    refine KG ?_
    first | refine KU rfl (fun h8 => ?_) (fun h8 => ?_) | refine KX rfl (fun h8 => ?_) (fun h8 => ?_)
    ·
      refine KE (KB ?_)
      refine KA (KD rfl) (Nb rfl) ?_
      refine KA (KH rfl rfl (KAd (b := 16) (by omega))) (Nb rfl) ?_
      refine KA (KF rfl) (Nb rfl) ?_
      refine KG ?_
      refine KB ?_
      refine KA (KD rfl) (Nb rfl) ?_
      refine KA (KH rfl rfl (KAG (b := 16) (by omega))) (Nb rfl) ?_
      refine KA (KF rfl) (Nb rfl) ?_
      refine KG ?_
      refine KE ?_
      refine KE (KB ?_)
      refine KA (KD rfl) (Nb rfl) ?_
      refine KA (KH rfl rfl (br_geq (b := 256))) (Nb rfl) ?_
      refine KG ?_
      first | refine KU rfl (fun h14 => ?_) (fun h14 => ?_) | refine KX rfl (fun h14 => ?_) (fun h14 => ?_)
      ·
        refine KE (KB ?_)
        refine KA (KD rfl) (Nb rfl) ?_
        refine KA (KH rfl rfl (KAd (b := 8) (by omega))) (Nb rfl) ?_
        refine KA (KF rfl) (Nb rfl) ?_
        refine KG ?_
        refine KB ?_
        refine KA (KD rfl) (Nb rfl) ?_
        refine KA (KH rfl rfl (KAG (b := 8) (by omega))) (Nb rfl) ?_
        refine KA (KF rfl) (Nb rfl) ?_
        refine KG ?_
        refine KE (KB ?_)
        refine KA (KD rfl) (Nb rfl) ?_
        refine KA (KD rfl) (Nb rfl) ?_
        refine KA (Det.conv8 Try.underlying22 Try.underlying5 rfl) (Nb rfl) ?_
        refine KA (KT (Det.indexStr Try.underlying9 rfl rfl (by omega) (by show ((_ % 256 : Nat) : Int) < 256; omega)) (len_tab_int _ (Nat.mod_lt _ (by decide)))) (Nb rfl) ?_
        refine KA (Det.convi Try.underlying5 Try.underlying3 rfl (Nat.lt_of_le_of_lt (blen_m8 _) (by decide))) (Nb rfl) ?_
        refine KA (KH rfl rfl (KAG (Nat.lt_of_le_of_lt (Nat.add_le_add_left (blen_m8 _) _) (by omega)))) (Nb rfl) ?_
        refine KA (KF rfl) (Nb rfl) ?_
        refine KG (KQ ?_)
        have hm : ∀ z : Nat, z < 256 → blen (z % 256) = blen z := fun z hz => by rw [Nat.mod_eq_of_lt hz]
        refine ⟨[_], .cons rfl .nil, fun a w' hr => ⟨?_, hr.fr.below⟩⟩
        refine congrArg (fun n : Nat => Ending.returned (.int .i64 (n : Int))) ?_
        have e32 := blen_shr (k := 32) (show 2 ^ 32 ≤ x by omega)
        have e16 := blen_shr (k := 16) (show 2 ^ 16 ≤ (x / 2 ^ 32) by omega)
        have e8 := blen_shr (k := 8) (show 2 ^ 8 ≤ ((x / 2 ^ 32) / 2 ^ 16) by omega)
        rw [hm (((x / 2 ^ 32) / 2 ^ 16) / 2 ^ 8) (by omega)]
        omega
      ·
        refine Ke ?_
        refine KE (KB ?_)
        refine KA (KD rfl) (Nb rfl) ?_
        refine KA (KD rfl) (Nb rfl) ?_
        refine KA (Det.conv8 Try.underlying22 Try.underlying5 rfl) (Nb rfl) ?_
        refine KA (KT (Det.indexStr Try.underlying9 rfl rfl (by omega) (by show ((_ % 256 : Nat) : Int) < 256; omega)) (len_tab_int _ (Nat.mod_lt _ (by decide)))) (Nb rfl) ?_
        refine KA (Det.convi Try.underlying5 Try.underlying3 rfl (Nat.lt_of_le_of_lt (blen_m8 _) (by decide))) (Nb rfl) ?_
        refine KA (KH rfl rfl (KAG (Nat.lt_of_le_of_lt (Nat.add_le_add_left (blen_m8 _) _) (by omega)))) (Nb rfl) ?_
        refine KA (KF rfl) (Nb rfl) ?_
        refine KG (KQ ?_)
        have hm : ∀ z : Nat, z < 256 → blen (z % 256) = blen z := fun z hz => by rw [Nat.mod_eq_of_lt hz]
        refine ⟨[_], .cons rfl .nil, fun a w' hr => ⟨?_, hr.fr.below⟩⟩
        refine congrArg (fun n : Nat => Ending.returned (.int .i64 (n : Int))) ?_
        have e32 := blen_shr (k := 32) (show 2 ^ 32 ≤ x by omega)
        have e16 := blen_shr (k := 16) (show 2 ^ 16 ≤ (x / 2 ^ 32) by omega)
        rw [hm ((x / 2 ^ 32) / 2 ^ 16) (by omega)]
        omega
    ·
      refine Ke ?_
      refine KE ?_
      refine KE (KB ?_)
      refine KA (KD rfl) (Nb rfl) ?_
      refine KA (KH rfl rfl (br_geq (b := 256))) (Nb rfl) ?_
      refine KG ?_
      first | refine KU rfl (fun h14 => ?_) (fun h14 => ?_) | refine KX rfl (fun h14 => ?_) (fun h14 => ?_)
      ·
        refine KE (KB ?_)
        refine KA (KD rfl) (Nb rfl) ?_
        refine KA (KH rfl rfl (KAd (b := 8) (by omega))) (Nb rfl) ?_
        refine KA (KF rfl) (Nb rfl) ?_
        refine KG ?_
        refine KB ?_
        refine KA (KD rfl) (Nb rfl) ?_
        refine KA (KH rfl rfl (KAG (b := 8) (by omega))) (Nb rfl) ?_
        refine KA (KF rfl) (Nb rfl) ?_
        refine KG ?_
        refine KE (KB ?_)
        refine KA (KD rfl) (Nb rfl) ?_
        refine KA (KD rfl) (Nb rfl) ?_
        refine KA (Det.conv8 Try.underlying22 Try.underlying5 rfl) (Nb rfl) ?_
        refine KA (KT (Det.indexStr Try.underlying9 rfl rfl (by omega) (by show ((_ % 256 : Nat) : Int) < 256; omega)) (len_tab_int _ (Nat.mod_lt _ (by decide)))) (Nb rfl) ?_
        refine KA (Det.convi Try.underlying5 Try.underlying3 rfl (Nat.lt_of_le_of_lt (blen_m8 _) (by decide))) (Nb rfl) ?_
        refine KA (KH rfl rfl (KAG (Nat.lt_of_le_of_lt (Nat.add_le_add_left (blen_m8 _) _) (by omega)))) (Nb rfl) ?_
        refine KA (KF rfl) (Nb rfl) ?_
        refine KG (KQ ?_)
        have hm : ∀ z : Nat, z < 256 → blen (z % 256) = blen z := fun z hz => by rw [Nat.mod_eq_of_lt hz]
        refine ⟨[_], .cons rfl .nil, fun a w' hr => ⟨?_, hr.fr.below⟩⟩
        refine congrArg (fun n : Nat => Ending.returned (.int .i64 (n : Int))) ?_
        have e32 := blen_shr (k := 32) (show 2 ^ 32 ≤ x by omega)
        have e8 := blen_shr (k := 8) (show 2 ^ 8 ≤ (x / 2 ^ 32) by omega)
        rw [hm ((x / 2 ^ 32) / 2 ^ 8) (by omega)]
        omega
      ·
        refine Ke ?_
        refine KE (KB ?_)
        refine KA (KD rfl) (Nb rfl) ?_
        refine KA (KD rfl) (Nb rfl) ?_
        refine KA (Det.conv8 Try.underlying22 Try.underlying5 rfl) (Nb rfl) ?_
        refine KA (KT (Det.indexStr Try.underlying9 rfl rfl (by omega) (by show ((_ % 256 : Nat) : Int) < 256; omega)) (len_tab_int _ (Nat.mod_lt _ (by decide)))) (Nb rfl) ?_
        refine KA (Det.convi Try.underlying5 Try.underlying3 rfl (Nat.lt_of_le_of_lt (blen_m8 _) (by decide))) (Nb rfl) ?_
        refine KA (KH rfl rfl (KAG (Nat.lt_of_le_of_lt (Nat.add_le_add_left (blen_m8 _) _) (by omega)))) (Nb rfl) ?_
        refine KA (KF rfl) (Nb rfl) ?_
        refine KG (KQ ?_)
        have hm : ∀ z : Nat, z < 256 → blen (z % 256) = blen z := fun z hz => by rw [Nat.mod_eq_of_lt hz]
        refine ⟨[_], .cons rfl .nil, fun a w' hr => ⟨?_, hr.fr.below⟩⟩
        refine congrArg (fun n : Nat => Ending.returned (.int .i64 (n : Int))) ?_
        have e32 := blen_shr (k := 32) (show 2 ^ 32 ≤ x by omega)
        rw [hm (x / 2 ^ 32) (by omega)]
        omega
  ·
    refine Ke ?_
    refine KE ?_
    refine KE (KB ?_)
    refine KA (KD rfl) (Nb rfl) ?_
    refine KA (KH rfl rfl (br_geq (b := 65536))) (Nb rfl) ?_
    refine KG ?_
    first | refine KU rfl (fun h8 => ?_) (fun h8 => ?_) | refine KX rfl (fun h8 => ?_) (fun h8 => ?_)
    ·
      refine KE (KB ?_)
      refine KA (KD rfl) (Nb rfl) ?_
      refine KA (KH rfl rfl (KAd (b := 16) (by omega))) (Nb rfl) ?_
      refine KA (KF rfl) (Nb rfl) ?_
      refine KG ?_
      refine KB ?_
      refine KA (KD rfl) (Nb rfl) ?_
      refine KA (KH rfl rfl (KAG (b := 16) (by omega))) (Nb rfl) ?_
      refine KA (KF rfl) (Nb rfl) ?_
      refine KG ?_
      refine KE ?_
      refine KE (KB ?_)
      refine KA (KD rfl) (Nb rfl) ?_
      refine KA (KH rfl rfl (br_geq (b := 256))) (Nb rfl) ?_
      refine KG ?_
      first | refine KU rfl (fun h14 => ?_) (fun h14 => ?_) | refine KX rfl (fun h14 => ?_) (fun h14 => ?_)
      ·
        refine KE (KB ?_)
        refine KA (KD rfl) (Nb rfl) ?_
        refine KA (KH rfl rfl (KAd (b := 8) (by omega))) (Nb rfl) ?_
        refine KA (KF rfl) (Nb rfl) ?_
        refine KG ?_
        refine KB ?_
        refine KA (KD rfl) (Nb rfl) ?_
        refine KA (KH rfl rfl (KAG (b := 8) (by omega))) (Nb rfl) ?_
        refine KA (KF rfl) (Nb rfl) ?_
        refine KG ?_
        refine KE (KB ?_)
        refine KA (KD rfl) (Nb rfl) ?_
        refine KA (KD rfl) (Nb rfl) ?_
        refine KA (Det.conv8 Try.underlying22 Try.underlying5 rfl) (Nb rfl) ?_
        refine KA (KT (Det.indexStr Try.underlying9 rfl rfl (by omega) (by show ((_ % 256 : Nat) : Int) < 256; omega)) (len_tab_int _ (Nat.mod_lt _ (by decide)))) (Nb rfl) ?_
        refine KA (Det.convi Try.underlying5 Try.underlying3 rfl (Nat.lt_of_le_of_lt (blen_m8 _) (by decide))) (Nb rfl) ?_
        refine KA (KH rfl rfl (KAG (Nat.lt_of_le_of_lt (Nat.add_le_add_left (blen_m8 _) _) (by omega)))) (Nb rfl) ?_
        refine KA (KF rfl) (Nb rfl) ?_
        refine KG (KQ ?_)
        have hm : ∀ z : Nat, z < 256 → blen (z % 256) = blen z := fun z hz => by rw [Nat.mod_eq_of_lt hz]
        refine ⟨[_], .cons rfl .nil, fun a w' hr => ⟨?_, hr.fr.below⟩⟩
        refine congrArg (fun n : Nat => Ending.returned (.int .i64 (n : Int))) ?_
        have e16 := blen_shr (k := 16) (show 2 ^ 16 ≤ x by omega)
        have e8 := blen_shr (k := 8) (show 2 ^ 8 ≤ (x / 2 ^ 16) by omega)
        rw [hm ((x / 2 ^ 16) / 2 ^ 8) (by omega)]
        omega
      ·
        refine Ke ?_
        refine KE (KB ?_)
        refine KA (KD rfl) (Nb rfl) ?_
        refine KA (KD rfl) (Nb rfl) ?_
        refine KA (Det.conv8 Try.underlying22 Try.underlying5 rfl) (Nb rfl) ?_
        refine KA (KT (Det.indexStr Try.underlying9 rfl rfl (by omega) (by show ((_ % 256 : Nat) : Int) < 256; omega)) (len_tab_int _ (Nat.mod_lt _ (by decide)))) (Nb rfl) ?_
        refine KA (Det.convi Try.underlying5 Try.underlying3 rfl (Nat.lt_of_le_of_lt (blen_m8 _) (by decide))) (Nb rfl) ?_
        refine KA (KH rfl rfl (KAG (Nat.lt_of_le_of_lt (Nat.add_le_add_left (blen_m8 _) _) (by omega)))) (Nb rfl) ?_
        refine KA (KF rfl) (Nb rfl) ?_
        refine KG (KQ ?_)
        have hm : ∀ z : Nat, z < 256 → blen (z % 256) = blen z := fun z hz => by rw [Nat.mod_eq_of_lt hz]
        refine ⟨[_], .cons rfl .nil, fun a w' hr => ⟨?_, hr.fr.below⟩⟩
        refine congrArg (fun n : Nat => Ending.returned (.int .i64 (n : Int))) ?_
        have e16 := blen_shr (k := 16) (show 2 ^ 16 ≤ x by omega)
        rw [hm (x / 2 ^ 16) (by omega)]
        omega
    ·
      refine Ke ?_
      refine KE ?_
      refine KE (KB ?_)
      refine KA (KD rfl) (Nb rfl) ?_
      refine KA (KH rfl rfl (br_geq (b := 256))) (Nb rfl) ?_
      refine KG ?_
      first | refine KU rfl (fun h14 => ?_) (fun h14 => ?_) | refine KX rfl (fun h14 => ?_) (fun h14 => ?_)
      ·
        refine KE (KB ?_)
        refine KA (KD rfl) (Nb rfl) ?_
        refine KA (KH rfl rfl (KAd (b := 8) (by omega))) (Nb rfl) ?_
        refine KA (KF rfl) (Nb rfl) ?_
        refine KG ?_
        refine KB ?_
        refine KA (KD rfl) (Nb rfl) ?_
        refine KA (KH rfl rfl (KAG (b := 8) (by omega))) (Nb rfl) ?_
        refine KA (KF rfl) (Nb rfl) ?_
        refine KG ?_
        refine KE (KB ?_)
        refine KA (KD rfl) (Nb rfl) ?_
        refine KA (KD rfl) (Nb rfl) ?_
        refine KA (Det.conv8 Try.underlying22 Try.underlying5 rfl) (Nb rfl) ?_
        refine KA (KT (Det.indexStr Try.underlying9 rfl rfl (by omega) (by show ((_ % 256 : Nat) : Int) < 256; omega)) (len_tab_int _ (Nat.mod_lt _ (by decide)))) (Nb rfl) ?_
        refine KA (Det.convi Try.underlying5 Try.underlying3 rfl (Nat.lt_of_le_of_lt (blen_m8 _) (by decide))) (Nb rfl) ?_
        refine KA (KH rfl rfl (KAG (Nat.lt_of_le_of_lt (Nat.add_le_add_left (blen_m8 _) _) (by omega)))) (Nb rfl) ?_
        refine KA (KF rfl) (Nb rfl) ?_
        refine KG (KQ ?_)
        have hm : ∀ z : Nat, z < 256 → blen (z % 256) = blen z := fun z hz => by rw [Nat.mod_eq_of_lt hz]
        refine ⟨[_], .cons rfl .nil, fun a w' hr => ⟨?_, hr.fr.below⟩⟩
        refine congrArg (fun n : Nat => Ending.returned (.int .i64 (n : Int))) ?_
        have e8 := blen_shr (k := 8) (show 2 ^ 8 ≤ x by omega)
        rw [hm (x / 2 ^ 8) (by omega)]
        omega
      ·
        refine Ke ?_
        refine KE (KB ?_)
        refine KA (KD rfl) (Nb rfl) ?_
        refine KA (KD rfl) (Nb rfl) ?_
        refine KA (Det.conv8 Try.underlying22 Try.underlying5 rfl) (Nb rfl) ?_
        refine KA (KT (Det.indexStr Try.underlying9 rfl rfl (by omega) (by show ((_ % 256 : Nat) : Int) < 256; omega)) (len_tab_int _ (Nat.mod_lt _ (by decide)))) (Nb rfl) ?_
        refine KA (Det.convi Try.underlying5 Try.underlying3 rfl (Nat.lt_of_le_of_lt (blen_m8 _) (by decide))) (Nb rfl) ?_
        refine KA (KH rfl rfl (KAG (Nat.lt_of_le_of_lt (Nat.add_le_add_left (blen_m8 _) _) (by omega)))) (Nb rfl) ?_
        refine KA (KF rfl) (Nb rfl) ?_
        refine KG (KQ ?_)
        have hm : ∀ z : Nat, z < 256 → blen (z % 256) = blen z := fun z hz => by rw [Nat.mod_eq_of_lt hz]
        refine ⟨[_], .cons rfl .nil, fun a w' hr => ⟨?_, hr.fr.below⟩⟩
        refine congrArg (fun n : Nat => Ending.returned (.int .i64 (n : Int))) ?_
        rw [hm x (by omega)]
        omega
theorem c_LeadingZeros64 (x : Nat) (hx : x < 18446744073709551616) (w : World)  : Calls Try.prog 192 ([.int .u64 ((x : Nat) : Int)] : List Value).toArray w (fun e w' => e = .returned (.int .i64 ((64 - blen x : Nat) : Int)) ∧ Below w.heap.size w w') := by
  refine KAB (N := 6) (rs := [.tmp 2]) [] Try.func192 rfl Try.ntmps192 Try.results192 (Nb rfl) trivial rfl ?_
  show LCode _ _ _ ⟨_, _⟩ _
  refine KE (KB ?_)
  refine KA (KF (v := .int .i64 ((0 : Nat) : Int)) rfl) (Nb rfl) ?_
  refine KG ?_
  refine KE (KB ?_)
  refine KA (KD rfl) (Nb rfl) ?_
  refine KK rfl (KY (KO (first := []) rfl en_173 rfl (Nb rfl) (fun w hw => c_Len64 _ (by omega) w) ?_))
  refine KA (KH rfl rfl (br_sub (a := 64) (blen_le hx) (by omega))) (Nb rfl) ?_
  refine KA (KF rfl) (Nb rfl) ?_
  refine KG (KQ ?_)
  refine ⟨[_], .cons rfl .nil, fun a w' hr => ⟨?_, hr.fr.below⟩⟩
  rfl
theorem c_Div64 (hi lo y : Nat) (hlo : lo < 18446744073709551616) (hy : 9223372036854775808 ≤ y) (hy2 : y < 18446744073709551616) (hh : hi < y) (w : World)  : Calls Try.prog 197 ([.int .u64 ((hi : Nat) : Int), .int .u64 ((lo : Nat) : Int), .int .u64 ((y : Nat) : Int)] : List Value).toArray w (fun e w' => e = .returned (.tuple #[.int .u64 (((hi * 18446744073709551616 + lo) / y : Nat) : Int), .int .u64 (((hi * 18446744073709551616 + lo) % y : Nat) : Int)]) ∧ Below w.heap.size w w') := by
  have hb : 64 - blen y = 0 := by have := le_blen (A := y) (n := 63) (by omega); omega
  refine KAB (N := 135) (rs := [.tmp 6, .tmp 7]) [] Try.func197 rfl Try.ntmps197 Try.results197 (Nb rfl) trivial rfl ?_
  show LCode _ _ _ ⟨_, _⟩ _
  refine KE (KB ?_)
  refine KA (KF (v := .int .u64 ((0 : Nat) : Int)) rfl) (Nb rfl) ?_
  refine KA (KF (v := .int .u64 ((0 : Nat) : Int)) rfl) (Nb rfl) ?_
  refine KG ?_
  refine KE ?_
  refine KE (KB ?_)
  refine KA (KD rfl) (Nb rfl) ?_
  refine KA (KH rfl rfl (br_f (br_eql (b := 0)) (by omega))) (Nb rfl) ?_
  refine KG ?_
  refine Ku rfl ?_
  refine Ke ?_
  refine KE ?_
  refine KE (KB ?_)
  refine KA (KD rfl) (Nb rfl) ?_
  refine KA (KD rfl) (Nb rfl) ?_
  refine KA (KH rfl rfl (br_f br_leq (by omega))) (Nb rfl) ?_
  refine KG ?_
  refine Ku rfl ?_
  refine Ke ?_
  refine KE ?_
  refine KE (KB ?_)
  refine KA (KD rfl) (Nb rfl) ?_
  refine KA (KH rfl rfl (br_eql (b := 0))) (Nb rfl) ?_
  refine KG ?_
  first | refine KU rfl (fun h27 => ?_) (fun h27 => ?_) | refine KX rfl (fun h27 => ?_) (fun h27 => ?_)
  ·
    refine KE ?_
    refine Kc [] (by kernel_rfl) ?_
    refine KC 0 rfl (by kernel_rfl) (Nb rfl) (KD rfl) ?_
    refine KC 1 rfl (by kernel_rfl) (Nb rfl) (KD rfl) ?_
    refine KC 2 rfl (by kernel_rfl) (Nb rfl) (KH rfl rfl (br_quo64 (by omega) (by omega))) ?_
    refine KC 3 rfl (by kernel_rfl) (Nb rfl) (KD rfl) ?_
    refine KC 4 rfl (by kernel_rfl) (Nb rfl) (KD rfl) ?_
    refine KC 5 rfl (by kernel_rfl) (Nb rfl) (KH rfl rfl (br_rem64 (by omega))) ?_
    refine KC 6 rfl (by kernel_rfl) (Nb rfl) (KF rfl) ?_
    refine KC 7 rfl (by kernel_rfl) (Nb rfl) (KF rfl) ?_
    refine Kj (by kernel_rfl) ?_
    refine KQ ?_
    refine ⟨[_, _], .cons rfl (.cons rfl .nil), fun a w' hr => ⟨?_, hr.fr.below⟩⟩
    subst h27
    rw [Nat.zero_mul, Nat.zero_add]
    rfl
  ·
    refine Ke ?_
    refine KE (KB ?_)
    refine KA (KD rfl) (Nb rfl) ?_
    refine KK rfl (KY (KO (first := []) rfl en_192 rfl (Nb rfl) (fun w hw => c_LeadingZeros64 _ (by omega) w) ?_))
    refine KA (KT (v := .int .u64 ((64 - blen y : Nat) : Int)) (KAU Try.underlying3 Try.underlying46 rfl (by omega)) (by rw [hb])) (Nb rfl) ?_
    refine KA (KF rfl) (Nb rfl) ?_
    refine KG ?_
    refine KE (KB ?_)
    refine KA (KD rfl) (Nb rfl) ?_
    refine KA (KD rfl) (Nb rfl) ?_
    refine KA (KT (KH rfl rfl (br_shl64 (b := 0))) (vi (b := y) (by omega))) (Nb rfl) ?_
    refine KA (KF rfl) (Nb rfl) ?_
    refine KG ?_
    refine KE (KB ?_)
    refine KA (KD rfl) (Nb rfl) ?_
    refine KA (KH rfl rfl (KAd (b := 32) (by omega))) (Nb rfl) ?_
    refine KA (KF rfl) (Nb rfl) ?_
    refine KG ?_
    refine KE (KB ?_)
    refine KA (KD rfl) (Nb rfl) ?_
    refine KA (KT (KH rfl rfl (br_and64 (b := 4294967295) (by omega) (by omega))) (vi (b := y % 4294967296) (by rw [and32]))) (Nb rfl) ?_
    refine KA (KF rfl) (Nb rfl) ?_
    refine KG ?_
    refine KE (KB ?_)
    refine KA (KD rfl) (Nb rfl) ?_
    refine KA (KD rfl) (Nb rfl) ?_
    refine KA (KT (KH rfl rfl (br_shl64 (b := 0))) (vi (b := hi) (by omega))) (Nb rfl) ?_
    refine KA (KD rfl) (Nb rfl) ?_
    refine KA (KD rfl) (Nb rfl) ?_
    refine KA (KH (v := .int .u64 ((64 : Nat) : Int)) rfl rfl rfl) (Nb rfl) ?_
    refine KA (KT (KH rfl rfl (KAd (b := 64) (by omega))) (vi (b := 0) (by omega))) (Nb rfl) ?_
    refine KA (KT (KH rfl rfl (br_or64 (by omega) (by omega))) (vi (b := hi) (by rw [Nat.or_zero]))) (Nb rfl) ?_
    refine KA (KF rfl) (Nb rfl) ?_
    refine KG ?_
    refine KE (KB ?_)
    refine KA (KD rfl) (Nb rfl) ?_
    refine KA (KD rfl) (Nb rfl) ?_
    refine KA (KT (KH rfl rfl (br_shl64 (b := 0))) (vi (b := lo) (by omega))) (Nb rfl) ?_
    refine KA (KF rfl) (Nb rfl) ?_
    refine KG ?_
    refine KE (KB ?_)
    refine KA (KD rfl) (Nb rfl) ?_
    refine KA (KH rfl rfl (KAd (b := 32) (by omega))) (Nb rfl) ?_
    refine KA (KF rfl) (Nb rfl) ?_
    refine KG ?_
    refine KE (KB ?_)
    refine KA (KD rfl) (Nb rfl) ?_
    refine KA (KT (KH rfl rfl (br_and64 (b := 4294967295) (by omega) (by omega))) (vi (b := lo % 4294967296) (by rw [and32]))) (Nb rfl) ?_
    refine KA (KF rfl) (Nb rfl) ?_
    refine KG ?_
    refine KE (KB ?_)
    refine KA (KD rfl) (Nb rfl) ?_
    refine KA (KD rfl) (Nb rfl) ?_
    refine KA (KH rfl rfl (br_quo64 (by omega) (by omega))) (Nb rfl) ?_
    refine KA (KF rfl) (Nb rfl) ?_
    refine KG ?_
    refine KE (KB ?_)
    refine KA (KD rfl) (Nb rfl) ?_
    refine KA (KD rfl) (Nb rfl) ?_
    refine KA (KD rfl) (Nb rfl) ?_
    refine KA (KH rfl rfl (br_mul64)) (Nb rfl) ?_
    refine KA (KT (KH rfl rfl (br_sub64 (Nat.mod_lt _ (by decide)))) (vi (b := hi % (y / 2 ^ 32)) (minus_div (by omega)))) (Nb rfl) ?_
    refine KA (KF rfl) (Nb rfl) ?_
    refine KG ?_
    refine LCode.cut (α := Unit) (fun _ => True) (fun _ => ⟨[(2, .int .u64 ((y : Nat) : Int)), (9, .int .u64 ((y / 2 ^ 32 : Nat) : Int)), (10, .int .u64 ((y % 4294967296 : Nat) : Int)), (11, .int .u64 ((hi : Nat) : Int)), (12, .int .u64 ((lo : Nat) : Int)), (13, .int .u64 ((lo / 2 ^ 32 : Nat) : Int)), (14, .int .u64 ((lo % 4294967296 : Nat) : Int)), (8, .int .u64 ((0 : Nat) : Int)), (15, .int .u64 (((hi * 4294967296 + lo / 2 ^ 32) / y : Nat) : Int))], []⟩) ?_ ?_
    ·
      refine LCode.block ?_
      refine KAH (α := Nat × Nat) (fun x => x.1 * (y / 2 ^ 32) + x.2 = hi ∧ (hi * 4294967296 + lo / 2 ^ 32) / y ≤ x.1 ∧ x.2 < 4294967296) (fun x => ⟨[(2, .int .u64 ((y : Nat) : Int)), (9, .int .u64 ((y / 2 ^ 32 : Nat) : Int)), (10, .int .u64 ((y % 4294967296 : Nat) : Int)), (11, .int .u64 ((hi : Nat) : Int)), (12, .int .u64 ((lo : Nat) : Int)), (13, .int .u64 ((lo / 2 ^ 32 : Nat) : Int)), (14, .int .u64 ((lo % 4294967296 : Nat) : Int)), (8, .int .u64 ((0 : Nat) : Int)), (15, .int .u64 ((x.1 : Nat) : Int)), (16, .int .u64 ((x.2 : Nat) : Int))], []⟩) (fun x => x.1) ((hi / (y / 2 ^ 32), hi % (y / 2 ^ 32))) (half_init _ _ _ hy hy2 (by first | assumption | exact Nat.mod_lt _ (by omega)) (by omega)) (KAE (by exact ⟨rfl, rfl, rfl, rfl, rfl, rfl, rfl, rfl, rfl, rfl, trivial⟩) (by repeat (first | exact Sel.nil _ | refine Sel.cons (by repeat (first | exact Ph _ | apply Pt_)) ?_))) ?_
      rintro x ⟨hq1, hq2, hq3⟩
      have hql : x.1 < 18446744073709551616 := by
        have h1 : x.1 * 1 ≤ x.1 * (y / 2 ^ 32) := Nat.mul_le_mul_left _ (by omega)
        have h2 : hi < y := by first | assumption | exact Nat.mod_lt _ (by omega)
        generalize x.1 * (y / 2 ^ 32) = z at *
        omega
      refine KE ?_
      refine KE ?_
      rcases Nat.lt_or_ge x.1 4294967296 with hge | hge
      rotate_left
      ·
        refine KB ?_
        refine KA (KD rfl) (Nb rfl) ?_
        refine KA (KH rfl rfl (br_t (br_geq (b := 4294967296)) hge)) (Nb rfl) ?_
        refine KA (KD rfl) (Nb rfl) ?_
        refine Kr rfl rfl rfl (Nb rfl) ?_
        refine Kr rfl rfl rfl (Nb rfl) ?_
        refine Kr rfl rfl rfl (Nb rfl) ?_
        refine Kr rfl rfl rfl (Nb rfl) ?_
        refine Kr rfl rfl rfl (Nb rfl) ?_
        refine Kr rfl rfl rfl (Nb rfl) ?_
        refine Kr rfl rfl rfl (Nb rfl) ?_
        refine Kr rfl rfl rfl (Nb rfl) ?_
        refine KA (Km rfl rfl) (Nb rfl) ?_
        refine KG ?_
        have hcont : 4294967296 ≤ x.1 ∨ (x.1 < 4294967296 ∧ 4294967296 * x.2 + (lo / 2 ^ 32) < x.1 * (y % 4294967296)) := .inl hge
        have hm := half_more (by omega) (by first | assumption | exact Nat.mod_lt _ (by omega)) (by omega) hq1 hq2 hcont
        refine KAF rfl ?_
        refine Ke ?_
        refine LCode.block ?_
        refine KE (KB ?_)
        refine KA (KD rfl) (Nb rfl) ?_
        refine KA (KT (KH rfl rfl (br_sub64 (b := 1) (by omega))) (vi (b := x.1 - 1) (by have := hm.1; have : x.1 < 18446744073709551616 := hql; omega))) (Nb rfl) ?_
        refine KA (KF rfl) (Nb rfl) ?_
        refine KG ?_
        refine KE (KB ?_)
        refine KA (KD rfl) (Nb rfl) ?_
        refine KA (KD rfl) (Nb rfl) ?_
        refine KA (KT (KH rfl rfl KAa) (vi (b := x.2 + y / 2 ^ 32) (by omega))) (Nb rfl) ?_
        refine KA (KF rfl) (Nb rfl) ?_
        refine KG ?_
        refine KE (KB ?_)
        refine KA (KD rfl) (Nb rfl) ?_
        refine KA (KH rfl rfl (br_geq (b := 4294967296))) (Nb rfl) ?_
        refine KG ?_
        first | refine KU rfl (fun hbrk => ?_) (fun hbrk => ?_) | refine KX rfl (fun hbrk => ?_) (fun hbrk => ?_)
        ·
          refine KAC ?_
          have hqq := half_break hy (by first | assumption | exact Nat.mod_lt _ (by omega)) hm.2.1 hm.2.2 hbrk
          rw [hqq]
          exact ⟨(), trivial, KAE (by exact ⟨rfl, rfl, rfl, rfl, rfl, rfl, rfl, rfl, rfl, trivial⟩) (by repeat (first | exact Sel.nil _ | refine Sel.cons (by repeat (first | exact Ph _ | apply Pt_)) ?_))⟩
        ·
          refine Ke ?_
          refine ⟨(x.1 - 1, x.2 + y / 2 ^ 32), ⟨hm.2.1, hm.2.2, Nat.lt_of_not_le hbrk⟩, ?_, KAE (by exact ⟨rfl, rfl, rfl, rfl, rfl, rfl, rfl, rfl, rfl, rfl, trivial⟩) (by repeat (first | exact Sel.nil _ | refine Sel.cons (by repeat (first | exact Ph _ | apply Pt_)) ?_))⟩
          show x.1 - 1 < x.1
          have := hm.1
          omega
      ·
        refine KB ?_
        refine KA (KD rfl) (Nb rfl) ?_
        refine KA (KH rfl rfl (br_f (br_geq (b := 4294967296)) (Nat.not_le_of_lt hge))) (Nb rfl) ?_
        refine KA (KD rfl) (Nb rfl) ?_
        refine Kg rfl rfl (KD rfl) (Nb rfl) ?_
        refine Kg rfl rfl (KD rfl) (Nb rfl) ?_
        refine Kg rfl rfl (KT (KH rfl rfl br_mul64) (vi (b := x.1 * (y % 4294967296)) (by exact Nat.mod_eq_of_lt (by have := Nat.mul_le_mul (show x.1 ≤ 4294967295 by omega) (show y % 4294967296 ≤ 4294967295 by omega); omega)))) (Nb rfl) ?_
        refine Kg rfl rfl (KD rfl) (Nb rfl) ?_
        refine Kg rfl rfl (KH rfl rfl (br_mul64 (a := 4294967296))) (Nb rfl) ?_
        refine Kg rfl rfl (KD rfl) (Nb rfl) ?_
        refine Kg rfl rfl (KT (KH rfl rfl KAa) (vi (b := 4294967296 * x.2 + (lo / 2 ^ 32)) (by omega))) (Nb rfl) ?_
        refine Kg rfl rfl (KH rfl rfl (br_gtr)) (Nb rfl) ?_
        refine KA (KAL rfl rfl) (Nb rfl) ?_
        refine KG ?_
        first | refine KU rfl (fun hgt => ?_) (fun hgt => ?_) | refine KX rfl (fun hgt => ?_) (fun hgt => ?_)
        ·
          have hcont : 4294967296 ≤ x.1 ∨ (x.1 < 4294967296 ∧ 4294967296 * x.2 + (lo / 2 ^ 32) < x.1 * (y % 4294967296)) := .inr ⟨by omega, hgt⟩
          have hm := half_more (by omega) (by first | assumption | exact Nat.mod_lt _ (by omega)) (by omega) hq1 hq2 hcont
          refine Ke ?_
          refine LCode.block ?_
          refine KE (KB ?_)
          refine KA (KD rfl) (Nb rfl) ?_
          refine KA (KT (KH rfl rfl (br_sub64 (b := 1) (by omega))) (vi (b := x.1 - 1) (by have := hm.1; have : x.1 < 18446744073709551616 := hql; omega))) (Nb rfl) ?_
          refine KA (KF rfl) (Nb rfl) ?_
          refine KG ?_
          refine KE (KB ?_)
          refine KA (KD rfl) (Nb rfl) ?_
          refine KA (KD rfl) (Nb rfl) ?_
          refine KA (KT (KH rfl rfl KAa) (vi (b := x.2 + y / 2 ^ 32) (by omega))) (Nb rfl) ?_
          refine KA (KF rfl) (Nb rfl) ?_
          refine KG ?_
          refine KE (KB ?_)
          refine KA (KD rfl) (Nb rfl) ?_
          refine KA (KH rfl rfl (br_geq (b := 4294967296))) (Nb rfl) ?_
          refine KG ?_
          first | refine KU rfl (fun hbrk => ?_) (fun hbrk => ?_) | refine KX rfl (fun hbrk => ?_) (fun hbrk => ?_)
          ·
            refine KAC ?_
            have hqq := half_break hy (by first | assumption | exact Nat.mod_lt _ (by omega)) hm.2.1 hm.2.2 hbrk
            rw [hqq]
            exact ⟨(), trivial, KAE (by exact ⟨rfl, rfl, rfl, rfl, rfl, rfl, rfl, rfl, rfl, trivial⟩) (by repeat (first | exact Sel.nil _ | refine Sel.cons (by repeat (first | exact Ph _ | apply Pt_)) ?_))⟩
          ·
            refine Ke ?_
            refine ⟨(x.1 - 1, x.2 + y / 2 ^ 32), ⟨hm.2.1, hm.2.2, Nat.lt_of_not_le hbrk⟩, ?_, KAE (by exact ⟨rfl, rfl, rfl, rfl, rfl, rfl, rfl, rfl, rfl, rfl, trivial⟩) (by repeat (first | exact Sel.nil _ | refine Sel.cons (by repeat (first | exact Ph _ | apply Pt_)) ?_))⟩
            show x.1 - 1 < x.1
            have := hm.1
            omega
        ·
          have hle : x.1 * (y % 4294967296) ≤ 4294967296 * x.2 + (lo / 2 ^ 32) := Nat.le_of_not_lt hgt
          refine KAC ?_
          have hqq := half_quit (by omega) hq1 hq2 hle
          rw [hqq]
          exact ⟨(), trivial, KAE (by exact ⟨rfl, rfl, rfl, rfl, rfl, rfl, rfl, rfl, rfl, trivial⟩) (by repeat (first | exact Sel.nil _ | refine Sel.cons (by repeat (first | exact Ph _ | apply Pt_)) ?_))⟩
    ·
      intro _ _
      refine KE (KB ?_)
      refine KA (KD rfl) (Nb rfl) ?_
      refine KA (KH rfl rfl (br_mul64 (b := 4294967296))) (Nb rfl) ?_
      refine KA (KD rfl) (Nb rfl) ?_
      refine KA (KH rfl rfl (KAa)) (Nb rfl) ?_
      refine KA (KD rfl) (Nb rfl) ?_
      refine KA (KD rfl) (Nb rfl) ?_
      refine KA (KH rfl rfl (br_mul64)) (Nb rfl) ?_
      refine KA (KT (KH rfl rfl (br_sub64 (Nat.mod_lt _ (by decide)))) (vi (b := (hi * 4294967296 + lo / 2 ^ 32) % y) (by exact half_rest (by omega) hy2))) (Nb rfl) ?_
      refine KA (KF rfl) (Nb rfl) ?_
      refine KG ?_
      refine KE ?_
      have hrr : (hi * 4294967296 + lo / 2 ^ 32) % y < y := Nat.mod_lt _ (by omega)
      refine KB ?_
      refine KA (KD rfl) (Nb rfl) ?_
      refine KA (KD rfl) (Nb rfl) ?_
      refine KA (KH rfl rfl (br_quo64 (by omega) (by omega))) (Nb rfl) ?_
      refine KA (KF rfl) (Nb rfl) ?_
      refine KG ?_
      refine KE (KB ?_)
      refine KA (KD rfl) (Nb rfl) ?_
      refine KA (KD rfl) (Nb rfl) ?_
      refine KA (KD rfl) (Nb rfl) ?_
      refine KA (KH rfl rfl (br_mul64)) (Nb rfl) ?_
      refine KA (KT (KH rfl rfl (br_sub64 (Nat.mod_lt _ (by decide)))) (vi (b := ((hi * 4294967296 + lo / 2 ^ 32) % y) % (y / 2 ^ 32)) (minus_div (by omega)))) (Nb rfl) ?_
      refine KA (KF rfl) (Nb rfl) ?_
      refine KG ?_
      refine LCode.cut (α := Unit) (fun _ => True) (fun _ => ⟨[(2, .int .u64 ((y : Nat) : Int)), (9, .int .u64 ((y / 2 ^ 32 : Nat) : Int)), (10, .int .u64 ((y % 4294967296 : Nat) : Int)), (14, .int .u64 ((lo % 4294967296 : Nat) : Int)), (8, .int .u64 ((0 : Nat) : Int)), (15, .int .u64 (((hi * 4294967296 + lo / 2 ^ 32) / y : Nat) : Int)), (17, .int .u64 (((hi * 4294967296 + lo / 2 ^ 32) % y : Nat) : Int)), (18, .int .u64 ((((hi * 4294967296 + lo / 2 ^ 32) % y * 4294967296 + lo % 4294967296) / y : Nat) : Int))], []⟩) ?_ ?_
      ·
        refine LCode.block ?_
        refine KAH (α := Nat × Nat) (fun x => x.1 * (y / 2 ^ 32) + x.2 = ((hi * 4294967296 + lo / 2 ^ 32) % y) ∧ (((hi * 4294967296 + lo / 2 ^ 32) % y) * 4294967296 + lo % 4294967296) / y ≤ x.1 ∧ x.2 < 4294967296) (fun x => ⟨[(2, .int .u64 ((y : Nat) : Int)), (9, .int .u64 ((y / 2 ^ 32 : Nat) : Int)), (10, .int .u64 ((y % 4294967296 : Nat) : Int)), (14, .int .u64 ((lo % 4294967296 : Nat) : Int)), (8, .int .u64 ((0 : Nat) : Int)), (15, .int .u64 (((hi * 4294967296 + lo / 2 ^ 32) / y : Nat) : Int)), (17, .int .u64 (((hi * 4294967296 + lo / 2 ^ 32) % y : Nat) : Int)), (18, .int .u64 ((x.1 : Nat) : Int)), (16, .int .u64 ((x.2 : Nat) : Int))], []⟩) (fun x => x.1) ((((hi * 4294967296 + lo / 2 ^ 32) % y) / (y / 2 ^ 32), ((hi * 4294967296 + lo / 2 ^ 32) % y) % (y / 2 ^ 32))) (half_init _ _ _ hy hy2 (by first | assumption | exact Nat.mod_lt _ (by omega)) (by omega)) (KAE (by exact ⟨rfl, rfl, rfl, rfl, rfl, rfl, rfl, rfl, rfl, trivial⟩) (by repeat (first | exact Sel.nil _ | refine Sel.cons (by repeat (first | exact Ph _ | apply Pt_)) ?_))) ?_
        rintro x ⟨hq1, hq2, hq3⟩
        have hql : x.1 < 18446744073709551616 := by
          have h1 : x.1 * 1 ≤ x.1 * (y / 2 ^ 32) := Nat.mul_le_mul_left _ (by omega)
          have h2 : ((hi * 4294967296 + lo / 2 ^ 32) % y) < y := by first | assumption | exact Nat.mod_lt _ (by omega)
          generalize x.1 * (y / 2 ^ 32) = z at *
          omega
        refine KE ?_
        refine KE ?_
        rcases Nat.lt_or_ge x.1 4294967296 with hge | hge
        rotate_left
        ·
          refine KB ?_
          refine KA (KD rfl) (Nb rfl) ?_
          refine KA (KH rfl rfl (br_t (br_geq (b := 4294967296)) hge)) (Nb rfl) ?_
          refine KA (KD rfl) (Nb rfl) ?_
          refine Kr rfl rfl rfl (Nb rfl) ?_
          refine Kr rfl rfl rfl (Nb rfl) ?_
          refine Kr rfl rfl rfl (Nb rfl) ?_
          refine Kr rfl rfl rfl (Nb rfl) ?_
          refine Kr rfl rfl rfl (Nb rfl) ?_
          refine Kr rfl rfl rfl (Nb rfl) ?_
          refine Kr rfl rfl rfl (Nb rfl) ?_
          refine Kr rfl rfl rfl (Nb rfl) ?_
          refine KA (Km rfl rfl) (Nb rfl) ?_
          refine KG ?_
          have hcont : 4294967296 ≤ x.1 ∨ (x.1 < 4294967296 ∧ 4294967296 * x.2 + (lo % 4294967296) < x.1 * (y % 4294967296)) := .inl hge
          have hm := half_more (by omega) (by first | assumption | exact Nat.mod_lt _ (by omega)) (by omega) hq1 hq2 hcont
          refine KAF rfl ?_
          refine Ke ?_
          refine LCode.block ?_
          refine KE (KB ?_)
          refine KA (KD rfl) (Nb rfl) ?_
          refine KA (KT (KH rfl rfl (br_sub64 (b := 1) (by omega))) (vi (b := x.1 - 1) (by have := hm.1; have : x.1 < 18446744073709551616 := hql; omega))) (Nb rfl) ?_
          refine KA (KF rfl) (Nb rfl) ?_
          refine KG ?_
          refine KE (KB ?_)
          refine KA (KD rfl) (Nb rfl) ?_
          refine KA (KD rfl) (Nb rfl) ?_
          refine KA (KT (KH rfl rfl KAa) (vi (b := x.2 + y / 2 ^ 32) (by omega))) (Nb rfl) ?_
          refine KA (KF rfl) (Nb rfl) ?_
          refine KG ?_
          refine KE (KB ?_)
          refine KA (KD rfl) (Nb rfl) ?_
          refine KA (KH rfl rfl (br_geq (b := 4294967296))) (Nb rfl) ?_
          refine KG ?_
          first | refine KU rfl (fun hbrk => ?_) (fun hbrk => ?_) | refine KX rfl (fun hbrk => ?_) (fun hbrk => ?_)
          ·
            refine KAC ?_
            have hqq := half_break hy (by first | assumption | exact Nat.mod_lt _ (by omega)) hm.2.1 hm.2.2 hbrk
            rw [hqq]
            exact ⟨(), trivial, KAE (by exact ⟨rfl, rfl, rfl, rfl, rfl, rfl, rfl, rfl, trivial⟩) (by repeat (first | exact Sel.nil _ | refine Sel.cons (by repeat (first | exact Ph _ | apply Pt_)) ?_))⟩
          ·
            refine Ke ?_
            refine ⟨(x.1 - 1, x.2 + y / 2 ^ 32), ⟨hm.2.1, hm.2.2, Nat.lt_of_not_le hbrk⟩, ?_, KAE (by exact ⟨rfl, rfl, rfl, rfl, rfl, rfl, rfl, rfl, rfl, trivial⟩) (by repeat (first | exact Sel.nil _ | refine Sel.cons (by repeat (first | exact Ph _ | apply Pt_)) ?_))⟩
            show x.1 - 1 < x.1
            have := hm.1
            omega
        ·
          refine KB ?_
          refine KA (KD rfl) (Nb rfl) ?_
          refine KA (KH rfl rfl (br_f (br_geq (b := 4294967296)) (Nat.not_le_of_lt hge))) (Nb rfl) ?_
          refine KA (KD rfl) (Nb rfl) ?_
          refine Kg rfl rfl (KD rfl) (Nb rfl) ?_
          refine Kg rfl rfl (KD rfl) (Nb rfl) ?_
          refine Kg rfl rfl (KT (KH rfl rfl br_mul64) (vi (b := x.1 * (y % 4294967296)) (by exact Nat.mod_eq_of_lt (by have := Nat.mul_le_mul (show x.1 ≤ 4294967295 by omega) (show y % 4294967296 ≤ 4294967295 by omega); omega)))) (Nb rfl) ?_
          refine Kg rfl rfl (KD rfl) (Nb rfl) ?_
          refine Kg rfl rfl (KH rfl rfl (br_mul64 (a := 4294967296))) (Nb rfl) ?_
          refine Kg rfl rfl (KD rfl) (Nb rfl) ?_
          refine Kg rfl rfl (KT (KH rfl rfl KAa) (vi (b := 4294967296 * x.2 + (lo % 4294967296)) (by omega))) (Nb rfl) ?_
          refine Kg rfl rfl (KH rfl rfl (br_gtr)) (Nb rfl) ?_
          refine KA (KAL rfl rfl) (Nb rfl) ?_
          refine KG ?_
          first | refine KU rfl (fun hgt => ?_) (fun hgt => ?_) | refine KX rfl (fun hgt => ?_) (fun hgt => ?_)
          ·
            have hcont : 4294967296 ≤ x.1 ∨ (x.1 < 4294967296 ∧ 4294967296 * x.2 + (lo % 4294967296) < x.1 * (y % 4294967296)) := .inr ⟨by omega, hgt⟩
            have hm := half_more (by omega) (by first | assumption | exact Nat.mod_lt _ (by omega)) (by omega) hq1 hq2 hcont
            refine Ke ?_
            refine LCode.block ?_
            refine KE (KB ?_)
            refine KA (KD rfl) (Nb rfl) ?_
            refine KA (KT (KH rfl rfl (br_sub64 (b := 1) (by omega))) (vi (b := x.1 - 1) (by have := hm.1; have : x.1 < 18446744073709551616 := hql; omega))) (Nb rfl) ?_
            refine KA (KF rfl) (Nb rfl) ?_
            refine KG ?_
            refine KE (KB ?_)
            refine KA (KD rfl) (Nb rfl) ?_
            refine KA (KD rfl) (Nb rfl) ?_
            refine KA (KT (KH rfl rfl KAa) (vi (b := x.2 + y / 2 ^ 32) (by omega))) (Nb rfl) ?_
            refine KA (KF rfl) (Nb rfl) ?_
            refine KG ?_
            refine KE (KB ?_)
            refine KA (KD rfl) (Nb rfl) ?_
            refine KA (KH rfl rfl (br_geq (b := 4294967296))) (Nb rfl) ?_
            refine KG ?_
            first | refine KU rfl (fun hbrk => ?_) (fun hbrk => ?_) | refine KX rfl (fun hbrk => ?_) (fun hbrk => ?_)
            ·
              refine KAC ?_
              have hqq := half_break hy (by first | assumption | exact Nat.mod_lt _ (by omega)) hm.2.1 hm.2.2 hbrk
              rw [hqq]
              exact ⟨(), trivial, KAE (by exact ⟨rfl, rfl, rfl, rfl, rfl, rfl, rfl, rfl, trivial⟩) (by repeat (first | exact Sel.nil _ | refine Sel.cons (by repeat (first | exact Ph _ | apply Pt_)) ?_))⟩
            ·
              refine Ke ?_
              refine ⟨(x.1 - 1, x.2 + y / 2 ^ 32), ⟨hm.2.1, hm.2.2, Nat.lt_of_not_le hbrk⟩, ?_, KAE (by exact ⟨rfl, rfl, rfl, rfl, rfl, rfl, rfl, rfl, rfl, trivial⟩) (by repeat (first | exact Sel.nil _ | refine Sel.cons (by repeat (first | exact Ph _ | apply Pt_)) ?_))⟩
              show x.1 - 1 < x.1
              have := hm.1
              omega
          ·
            have hle : x.1 * (y % 4294967296) ≤ 4294967296 * x.2 + (lo % 4294967296) := Nat.le_of_not_lt hgt
            refine KAC ?_
            have hqq := half_quit (by omega) hq1 hq2 hle
            rw [hqq]
            exact ⟨(), trivial, KAE (by exact ⟨rfl, rfl, rfl, rfl, rfl, rfl, rfl, rfl, trivial⟩) (by repeat (first | exact Sel.nil _ | refine Sel.cons (by repeat (first | exact Ph _ | apply Pt_)) ?_))⟩
      ·
        intro _ _
        refine KE (KB ?_)
        refine KA (KD rfl) (Nb rfl) ?_
        refine KA (KH rfl rfl (br_mul64 (b := 4294967296))) (Nb rfl) ?_
        refine KA (KD rfl) (Nb rfl) ?_
        refine KA (KH rfl rfl (KAa)) (Nb rfl) ?_
        refine KA (KD rfl) (Nb rfl) ?_
        refine KA (KH rfl rfl (br_mul64 (b := 4294967296))) (Nb rfl) ?_
        refine KA (KD rfl) (Nb rfl) ?_
        refine KA (KH rfl rfl (KAa)) (Nb rfl) ?_
        refine KA (KD rfl) (Nb rfl) ?_
        refine KA (KD rfl) (Nb rfl) ?_
        refine KA (KH rfl rfl (br_mul64)) (Nb rfl) ?_
        refine KA (KT (KH rfl rfl (br_sub64 (Nat.mod_lt _ (by decide)))) (vi (b := (((hi * 4294967296 + lo / 2 ^ 32) % y) * 4294967296 + lo % 4294967296) % y) (by exact half_rest (by omega) hy2))) (Nb rfl) ?_
        refine KA (KD rfl) (Nb rfl) ?_
        refine KA (KT (KH rfl rfl (KAd (b := 0) (Nat.lt_trans (Nat.mod_lt _ (by omega)) hy2))) (vi (b := (((hi * 4294967296 + lo / 2 ^ 32) % y) * 4294967296 + lo % 4294967296) % y) (by rw [Nat.pow_zero, Nat.div_one]))) (Nb rfl) ?_
        refine KA (KF rfl) (Nb rfl) ?_
        refine KA (KF rfl) (Nb rfl) ?_
        refine KG (KQ ?_)
        have hv := halves (hi := hi) (lo := lo) (show 0 < y by omega)
        have hq9 : (hi * 18446744073709551616 + lo) / y < 18446744073709551616 := by
          rw [Nat.div_lt_iff_lt_mul (by omega), Nat.mul_comm]
          omega
        refine ⟨[_, _], .cons rfl (.cons rfl .nil), fun a w' hr => ⟨?_, hr.fr.below⟩⟩
        rw [← hv.1, ← hv.2]
        rw [← hv.1] at hq9
        refine congrArg (fun n : Nat => Ending.returned (.tuple #[.int .u64 (n : Int), _])) ?_
        exact wrap_sum hq9
end Go.Proofs.Ytljblbgogjieaaa
set_option linter.unusedVariables false
set_option linter.unusedSimpArgs false
set_option maxRecDepth 20000
namespace Go.Proofs.Ytljblbgogjieaaa
open Go Go.RowKit
theorem nw_ne {A : Nat} (h : nw A ≠ 0) : 2 ^ (64 * (nw A - 1)) ≤ A := by
  have h0 : A ≠ 0 := by intro e; subst e; exact h rfl
  refine Nat.le_trans (Nat.pow_le_pow_right (by decide) ?_) (blen_pos h0)
  unfold nw at *; omega
theorem bits_words {A : Nat} (h : nw A ≠ 0) : (nw A - 1) * 64 + blen (limb A (nw A - 1)) = blen A := by
  have h1 := nw_ne h
  rw [limb_top (A := A) (n := nw A - 1) (by rw [show nw A - 1 + 1 = nw A by omega]; exact lt_nw A)]
  have := blen_shr h1
  omega
theorem mod_nw (A : Nat) : A % 2 ^ (64 * nw A) = A := Nat.mod_eq_of_lt (lt_nw A)
theorem mod_zero_word (A B : Nat) : A % 2 ^ (64 * 0) * B = 0 := by rw [Nat.mul_zero, Nat.pow_zero, Nat.mod_one, Nat.zero_mul]
theorem row_end {X c A B i : Nat} (h : X + c * 2 ^ (64 * (i + nw B)) = A % 2 ^ (64 * i) * B + limb A i * (B % 2 ^ (64 * nw B)) * 2 ^ (64 * i)) (hX : X < 2 ^ (64 * (i + nw B))) :
    setl X (i + nw B) c = A % 2 ^ (64 * (i + 1)) * B := by
  have h0 := limb_high hX (Nat.le_refl _)
  have h1 := setl_eq X (i + nw B) c
  rw [h0, Nat.zero_mul, Nat.add_zero] at h1
  rw [h1, h, mod_nw, mod_succ_limb, Nat.add_mul]
  congr 1
  rw [Nat.mul_assoc, Nat.mul_comm, Nat.mul_assoc, Nat.mul_assoc, Nat.mul_comm B]
  exact Nat.mul_assoc _ _ _
theorem row_zero (A B i : Nat) : A % 2 ^ (64 * i) * B + 0 * 2 ^ (64 * (i + 0)) = A % 2 ^ (64 * i) * B + limb A i * (B % 2 ^ (64 * 0)) * 2 ^ (64 * i) := by
  rw [Nat.mul_zero, Nat.pow_zero, Nat.mod_one, Nat.mul_zero, Nat.zero_mul, Nat.zero_mul]
theorem row_lt (A B i : Nat) : A % 2 ^ (64 * i) * B < 2 ^ (64 * (i + nw B)) := by
  rw [pow64_add]
  exact Nat.mul_lt_mul_of_lt_of_le (Nat.mod_lt _ (pow64_pos i)) (Nat.le_of_lt (lt_nw B)) (pow64_pos _)
theorem bit_of (A i : Nat) : (limb A (i / 64) / 2 ^ (i % 64) &&& 1) = A / 2 ^ i % 2 := by
  rw [Nat.and_one_is_mod]
  have h1 : A / 2 ^ i = A / 2 ^ (64 * (i / 64)) / 2 ^ (i % 64) := by
    rw [Nat.div_div_eq_div_mul, ← Nat.pow_add]; congr 2; omega
  rw [h1]
  unfold limb
  generalize A / 2 ^ (64 * (i / 64)) = q
  have hr : i % 64 < 64 := Nat.mod_lt _ (by decide)
  generalize i % 64 = r at *
  have e : (18446744073709551616 : Nat) = 2 ^ r * (2 * 2 ^ (63 - r)) := by
    rw [← Nat.pow_succ', ← Nat.pow_add, show r + (63 - r + 1) = 64 by omega]
  rw [e, Nat.mod_mul_right_div_self, Nat.mod_mul_right_mod]
theorem c_nat_Mul (A B : Nat) (hA : A < W9) (hB : B < W9) (w : World)  : Calls Try.prog 185 ([natV A, natV B] : List Value).toArray w (fun e w' => e = .returned (wideV (A * B)) ∧ Below w.heap.size w w') := by
  refine KAB (N := 74) (rs := [.cell 4 230]) [] Try.func185 rfl Try.ntmps185 Try.results185 (Nb rfl) trivial rfl ?_
  show LCode _ _ _ ⟨_, _⟩ _
  refine KE (KB ?_)
  refine KK rfl (KY (KS (KAM rfl) (Nb rfl) (fun b2 => ?_)))
  refine KK rfl (KY (KS (KAM rfl) (Nb rfl) (fun b3 => ?_)))
  refine KK rfl (KY (KS (Kp zr_230) (Nb rfl) (fun b4 => ?_)))
  refine KG ?_
  refine KE (KB ?_)
  refine KK rfl (KY (KS (Kp zr_230) (Nb rfl) (fun b5 => ?_)))
  refine KG ?_
  refine KE (KB ?_)
  refine KK rfl (KY (KO (first := []) rfl en_172 rfl (Nb rfl) (fun w hw => c_nat_used _ _ _ w (hw _ (by repeat (first | exact Mh _ | apply Mt))) (by omega)) ?_))
  refine KK rfl (KY (KO (first := []) rfl en_172 rfl (Nb rfl) (fun w hw => c_nat_used _ _ _ w (hw _ (by repeat (first | exact Mh _ | apply Mt))) (by omega)) ?_))
  refine KA (KF rfl) (Nb rfl) ?_
  refine KA (KF rfl) (Nb rfl) ?_
  refine KG ?_
  refine KE ?_
  refine KE (KB ?_)
  refine KA (KD rfl) (Nb rfl) ?_
  refine KA (KD (v := .int .i64 ((0 : Nat) : Int)) rfl) (Nb rfl) ?_
  refine KG ?_
  refine LCode.block ?_
  refine KAH (α := Nat) (fun x => x ≤ nw A) (fun x => ⟨[(2, .pointer (some ⟨b2, 0, none⟩)), (3, .pointer (some ⟨b3, 0, none⟩)), (4, .pointer (some ⟨b4, 0, none⟩)), (5, .pointer (some ⟨b5, 0, none⟩)), (7, .int .i64 ((nw B : Nat) : Int)), (16, .int .i64 ((nw A : Nat) : Int)), (17, .int .i64 ((x : Nat) : Int))], [.blk b5 ⟨true, wideL (A % 2 ^ (64 * x) * B), 230, (0, 0)⟩, .blk b4 ⟨true, vec .u64 18 (fun _ => 0), 230, (0, 0)⟩, .blk b3 ⟨true, natL B, 25, (0, 0)⟩, .blk b2 ⟨true, natL A, 25, (0, 0)⟩]⟩) (fun x => nw A - x) (0) (Nat.zero_le _) (KAi (Sub.cells (b := b5) (cs' := wideL (A % 2 ^ (64 * 0) * B)) (by repeat (first | exact Sh _ | apply St_)) (by rw [mod_zero_word]; exact vec_zeros 18)) (KAE ⟨rfl, rfl, rfl, rfl, rfl, rfl, rfl, trivial⟩ (by repeat (first | exact Sel.nil _ | refine Sel.cons (by repeat (first | exact Ph _ | apply Pt_)) ?_)))) ?_
  intro i hi
  refine KE ?_
  have hA9 := nw_w9 hA
  have hB9 := nw_w9 hB
  refine KB ?_
  refine KA (KH rfl rfl (br_lss)) (Nb rfl) ?_
  refine KG ?_
  refine KE ?_
  first | refine KU rfl (fun h18 => ?_) (fun h18 => ?_) | refine KX rfl (fun h18 => ?_) (fun h18 => ?_)
  ·
    refine Ke ?_
    refine KE ?_
    refine LCode.block ?_
    refine KE (KB ?_)
    refine KA (KD rfl) (Nb rfl) ?_
    refine KA (KF rfl) (Nb rfl) ?_
    refine KG ?_
    refine KE (KB ?_)
    refine KA (KF (v := .int .u64 ((0 : Nat) : Int)) rfl) (Nb rfl) ?_
    refine KG ?_
    refine KE ?_
    refine KE (KB ?_)
    refine KA (KD rfl) (Nb rfl) ?_
    refine KA (KD (v := .int .i64 ((0 : Nat) : Int)) rfl) (Nb rfl) ?_
    refine KG ?_
    refine LCode.block ?_
    refine KAH (α := Nat × Nat × Nat) (fun x => x.1 ≤ nw B ∧ x.2.2 < 18446744073709551616 ∧ x.2.1 < 2 ^ (64 * (i + nw B)) ∧ x.2.1 + x.2.2 * 2 ^ (64 * (i + x.1)) = A % 2 ^ (64 * i) * B + limb A i * (B % 2 ^ (64 * x.1)) * 2 ^ (64 * i)) (fun x => ⟨[(2, .pointer (some ⟨b2, 0, none⟩)), (3, .pointer (some ⟨b3, 0, none⟩)), (4, .pointer (some ⟨b4, 0, none⟩)), (5, .pointer (some ⟨b5, 0, none⟩)), (7, .int .i64 ((nw B : Nat) : Int)), (8, .int .i64 ((i : Nat) : Int)), (9, .int .u64 ((x.2.2 : Nat) : Int)), (16, .int .i64 ((nw A : Nat) : Int)), (17, .int .i64 ((i : Nat) : Int)), (20, .int .i64 ((nw B : Nat) : Int)), (21, .int .i64 ((x.1 : Nat) : Int))], [.blk b5 ⟨true, wideL x.2.1, 230, (0, 0)⟩, .blk b4 ⟨true, vec .u64 18 (fun _ => 0), 230, (0, 0)⟩, .blk b3 ⟨true, natL B, 25, (0, 0)⟩, .blk b2 ⟨true, natL A, 25, (0, 0)⟩]⟩) (fun x => nw B - x.1) ((0, A % 2 ^ (64 * i) * B, 0)) (⟨Nat.zero_le _, show (0 : Nat) < 18446744073709551616 by decide, row_lt A B i, row_zero A B i⟩) (KAE ⟨rfl, rfl, rfl, rfl, rfl, rfl, rfl, rfl, rfl, rfl, rfl, trivial⟩ (by repeat (first | exact Sel.nil _ | refine Sel.cons (by repeat (first | exact Ph _ | apply Pt_)) ?_))) ?_
    intro x ⟨hx1, hx2, hx3, hx4⟩
    refine KE (KB ?_)
    refine KA (KH rfl rfl (br_lss)) (Nb rfl) ?_
    refine KG ?_
    refine KE ?_
    first | refine KU rfl (fun h22 => ?_) (fun h22 => ?_) | refine KX rfl (fun h22 => ?_) (fun h22 => ?_)
    ·
      refine Ke ?_
      refine KE ?_
      refine LCode.block ?_
      refine KE (KB ?_)
      refine KA (KD rfl) (Nb rfl) ?_
      refine KA (KF rfl) (Nb rfl) ?_
      refine KG ?_
      refine KE ?_
      have hla := limb_lt A i
      have hlb := limb_lt B x.1
      have hlx := limb_lt x.2.1 (i + x.1)
      have h18 : i < nw A := h18
      have h22 : x.1 < nw B := h22
      refine Kc [] (by kernel_rfl) ?_
      refine KC 0 rfl (by kernel_rfl) (Nb rfl) (KD rfl) ?_
      refine KC 1 rfl (by kernel_rfl) (Nb rfl) (KI (o' := 0) Try.underlying25 rfl rfl rfl sz_23 (by decide)) ?_
      refine KC 2 rfl (by kernel_rfl) (Nb rfl) (Kx Try.underlying23 sz_22 rfl rfl (by omega)) ?_
      refine LAny.take 3 rfl (by kernel_rfl) (Nb rfl) (KL rfl (by repeat (first | exact Mh _ | apply Mt)) (KP Try.underlying22 rfl (by exact Kl _ (show i < 9 by omega)))) ?_
      refine KC 4 rfl (by kernel_rfl) (Nb rfl) (KD rfl) ?_
      refine KC 5 rfl (by kernel_rfl) (Nb rfl) (KI (o' := 0) Try.underlying25 rfl rfl rfl sz_23 (by decide)) ?_
      refine KC 6 rfl (by kernel_rfl) (Nb rfl) (Kx Try.underlying23 sz_22 rfl rfl (by omega)) ?_
      refine LAny.take 7 rfl (by kernel_rfl) (Nb rfl) (KL rfl (by repeat (first | exact Mh _ | apply Mt)) (KP Try.underlying22 rfl (by exact Kl _ (show x.1 < 9 by omega)))) ?_
      refine Kq 8 rfl rfl (by kernel_rfl) (KO (first := []) rfl en_193 rfl (Nb rfl) (fun w hw => c_Mul64 _ _ (by omega) (by omega) w) ?_)
      refine KC 9 rfl (by kernel_rfl) (Nb rfl) (KD rfl) ?_
      refine KC 10 rfl (by kernel_rfl) (Nb rfl) (Kt rfl rfl) ?_
      refine KC 11 rfl (by kernel_rfl) (Nb rfl) (Kt rfl rfl) ?_
      refine KC 12 rfl (by kernel_rfl) (Nb rfl) (KF rfl) ?_
      refine KC 13 rfl (by kernel_rfl) (Nb rfl) (KF rfl) ?_
      refine Kj (by kernel_rfl) ?_
      refine KE (KB ?_)
      refine KA (KF (v := .int .u64 ((0 : Nat) : Int)) rfl) (Nb rfl) ?_
      refine KG ?_
      refine KE (KB ?_)
      refine KA (KD rfl) (Nb rfl) ?_
      refine KA (KD rfl) (Nb rfl) ?_
      refine KA (KD rfl) (Nb rfl) ?_
      refine KA (KH rfl rfl (KAG (by omega))) (Nb rfl) ?_
      refine KA (KI (o' := 0) Try.underlying230 rfl rfl rfl sz_228 (by decide)) (Nb rfl) ?_
      refine KA (Kx Try.underlying228 sz_22 rfl rfl (by omega)) (Nb rfl) ?_
      refine LOps.det (KL rfl (by repeat (first | exact Mh _ | apply Mt)) (KP Try.underlying22 rfl (by exact Kh _ (show i + x.1 < 18 by omega)))) (Nb rfl) ?_
      refine KA (Det.add64 (c := 0) ex_184 rfl rfl rfl (by omega)) (Nb rfl) ?_
      refine KA (KD rfl) (Nb rfl) ?_
      refine KA (Kt rfl rfl) (Nb rfl) ?_
      refine KA (Kt rfl rfl) (Nb rfl) ?_
      refine KA (KF rfl) (Nb rfl) ?_
      refine KA (KF rfl) (Nb rfl) ?_
      refine KG ?_
      refine KE (KB ?_)
      refine KA (KD rfl) (Nb rfl) ?_
      refine KA (KD rfl) (Nb rfl) ?_
      refine KA (KH rfl rfl (KAa)) (Nb rfl) ?_
      refine KA (KF rfl) (Nb rfl) ?_
      refine KG ?_
      refine KE (KB ?_)
      refine KA (KD rfl) (Nb rfl) ?_
      refine KA (KD rfl) (Nb rfl) ?_
      refine KA (Det.add64 (c := 0) ex_184 rfl rfl rfl (by omega)) (Nb rfl) ?_
      refine KA (KD rfl) (Nb rfl) ?_
      refine KA (Kt rfl rfl) (Nb rfl) ?_
      refine KA (Kt rfl rfl) (Nb rfl) ?_
      refine KA (KF rfl) (Nb rfl) ?_
      refine KA (KF rfl) (Nb rfl) ?_
      refine KG ?_
      refine KB ?_
      refine KA (KD rfl) (Nb rfl) ?_
      refine KA (KD rfl) (Nb rfl) ?_
      refine KA (KH rfl rfl (KAG (by omega))) (Nb rfl) ?_
      refine KA (KD rfl) (Nb rfl) ?_
      refine KA (KD rfl) (Nb rfl) ?_
      refine KA (KD rfl) (Nb rfl) ?_
      refine KA (KH rfl rfl (KAa)) (Nb rfl) ?_
      refine KA (KI (o' := 0) Try.underlying230 rfl rfl rfl sz_228 (by decide)) (Nb rfl) ?_
      refine KA (Kx Try.underlying228 sz_22 rfl rfl (by omega)) (Nb rfl) ?_
      refine KK rfl (Kw rfl rfl rfl sz_22 (by repeat (first | exact Sh _ | apply St_)) (by first | (simp only [KM, KJ, KN, KAI]; omega) | (simp; omega)) (by first | exact KAX _ _ _ _ _ | exact KAb _ _ _ _ (by omega) | exact KAZ _ _ _ _ | rfl) (by simp) ?_)
      refine KA (KF rfl) (Nb rfl) ?_
      refine KG ?_
      refine KB ?_
      refine KA (KH rfl rfl (KAG (b := 1) (by omega))) (Nb rfl) ?_
      refine KA (KD rfl) (Nb rfl) ?_
      refine KG ?_
      have hw := row_word (limb_lt A i) (limb_lt B x.1) (limb_lt x.2.1 (i + x.1)) hx2
      have hp := row_parts (limb_lt x.2.1 (i + x.1)) hx2 hw
      refine ⟨(x.1 + 1, setl x.2.1 (i + x.1) ((limb A i * limb B x.1 + limb x.2.1 (i + x.1) + x.2.2) % 18446744073709551616), (limb A i * limb B x.1 + limb x.2.1 (i + x.1) + x.2.2) / 18446744073709551616), ⟨by omega, by dsimp only; omega, setl_lt hx3 (by omega) (Nat.mod_lt _ (by decide)), row_step hx4 rfl rfl⟩, by dsimp only; omega,
        KAi (Sub.cells (b := b5) (cs' := wideL (setl x.2.1 (i + x.1) ((limb A i * limb B x.1 + limb x.2.1 (i + x.1) + x.2.2) % 18446744073709551616))) (by repeat (first | exact Sh _ | apply St_)) ?_) (KAE ⟨rfl, rfl, rfl, rfl, rfl, rfl, congrArg some (vi hp.2), rfl, rfl, rfl, rfl, trivial⟩ (by repeat (first | exact Sel.nil _ | refine Sel.cons (by repeat (first | exact Ph _ | apply Pt_)) ?_)))⟩
      rw [hp.1]
      exact vec_setl (Nat.mod_lt _ (by decide))
    ·
      refine KAC ?_
      have h18 : i < nw A := h18
      refine KB ?_
      refine KA (KD rfl) (Nb rfl) ?_
      refine KA (KD rfl) (Nb rfl) ?_
      refine KA (KH rfl rfl (KAG (by omega))) (Nb rfl) ?_
      refine KA (KD rfl) (Nb rfl) ?_
      refine KA (KI (o' := 0) Try.underlying230 rfl rfl rfl sz_228 (by decide)) (Nb rfl) ?_
      refine KA (Kx Try.underlying228 sz_22 rfl rfl (by omega)) (Nb rfl) ?_
      refine KK rfl (Kw rfl rfl rfl sz_22 (by repeat (first | exact Sh _ | apply St_)) (by first | (simp only [KM, KJ, KN, KAI]; omega) | (simp; omega)) (by first | exact KAX _ _ _ _ _ | exact KAb _ _ _ _ (by omega) | exact KAZ _ _ _ _ | rfl) (by simp) ?_)
      refine KG ?_
      refine KB ?_
      refine KA (KH rfl rfl (KAG (b := 1) (by omega))) (Nb rfl) ?_
      refine KA (KD rfl) (Nb rfl) ?_
      refine KG ?_
      refine ⟨i + 1, by omega, by omega, KAi (Sub.cells (b := b5) (cs' := wideL (A % 2 ^ (64 * (i + 1)) * B)) (by repeat (first | exact Sh _ | apply St_)) ?_) (KAE ⟨rfl, rfl, rfl, rfl, rfl, rfl, rfl, trivial⟩ (by repeat (first | exact Sel.nil _ | refine Sel.cons (by repeat (first | exact Ph _ | apply Pt_)) ?_)))⟩
      have hk : x.1 = nw B := by omega
      rw [hk] at hx4
      rw [← row_end hx4 hx3]
      exact vec_setl hx2
  ·
    refine KAC ?_
    refine KE (KB ?_)
    refine LOps.det (KL rfl (by repeat (first | exact Mh _ | apply Mt)) (by exact KR Try.underlying230 rfl sz_230)) (Nb rfl) ?_
    refine KK rfl (Kb rfl rfl sz_230 (by repeat (first | exact Ky _ | exact KAT _ _ _ | exact KAJ _ | exact KAK _ _ _ | exact KAV _ _ _ | exact Kf | refine KZ rfl ?_ | refine Ko ?_ ?_)) (by repeat (first | exact Sh _ | apply St_)) (by first | exact KJ _ | exact KM _ _ _ | exact KN _ | exact Kd _ _ _ | exact KAD _ _ _ | rfl | simp [KM, KJ, KN]) ?_)
    refine KG (KQ ?_)
    have hi9 : i = nw A := by omega
    subst hi9
    refine ⟨[_], .cons ⟨_, _, _, rfl, (by repeat (first | exact Mh _ | apply Mt)), by exact KR Try.underlying230 rfl sz_230⟩ .nil, fun a w' hr => ⟨?_, hr.fr.below⟩⟩
    rw [mod_nw]
    rfl
theorem c_nat_Bits (A : Nat) (hA : A < W9) (w : World)  : Calls Try.prog 151 ([natV A] : List Value).toArray w (fun e w' => e = .returned (.int .i64 ((blen A : Nat) : Int)) ∧ Below w.heap.size w w') := by
  refine KAB (N := 17) (rs := [.tmp 2]) [] Try.func151 rfl Try.ntmps151 Try.results151 (Nb rfl) trivial rfl ?_
  show LCode _ _ _ ⟨_, _⟩ _
  refine KE (KB ?_)
  refine KK rfl (KY (KS (KAM rfl) (Nb rfl) (fun b1 => ?_)))
  refine KA (KF (v := .int .i64 ((0 : Nat) : Int)) rfl) (Nb rfl) ?_
  refine KG ?_
  refine KE (KB ?_)
  refine KK rfl (KY (KO (first := []) rfl en_172 rfl (Nb rfl) (fun w hw => c_nat_used _ _ _ w (hw _ (by repeat (first | exact Mh _ | apply Mt))) (by omega)) ?_))
  refine KA (KF rfl) (Nb rfl) ?_
  refine KG ?_
  refine KE ?_
  refine KE (KB ?_)
  refine KA (KD rfl) (Nb rfl) ?_
  refine KA (KH rfl rfl (br_eql (b := 0))) (Nb rfl) ?_
  refine KG ?_
  first | refine KU rfl (fun h6 => ?_) (fun h6 => ?_) | refine KX rfl (fun h6 => ?_) (fun h6 => ?_)
  ·
    refine KE (KB ?_)
    refine KA (KF (v := .int .i64 ((0 : Nat) : Int)) rfl) (Nb rfl) ?_
    refine KG (KQ ?_)
    have hz : blen A = 0 := by
      unfold nw at h6
      omega
    refine ⟨[_], .cons rfl .nil, fun a w' hr => ⟨?_, hr.fr.below⟩⟩
    rw [hz]
    rfl
  ·
    have hA9 := nw_w9 hA
    have hbl : blen (limb A (nw A - 1)) ≤ 64 := blen_le (limb_lt _ _)
    have hll := limb_lt A (nw A - 1)
    refine Ke ?_
    refine KE (KB ?_)
    refine KA (KD rfl) (Nb rfl) ?_
    refine KA (KH rfl rfl (br_sub (b := 1) (by omega) (by omega))) (Nb rfl) ?_
    refine KA (KH rfl rfl (br_mul (b := 64) (by omega))) (Nb rfl) ?_
    refine KA (KD rfl) (Nb rfl) ?_
    refine KA (KH rfl rfl (br_sub (b := 1) (by omega) (by omega))) (Nb rfl) ?_
    refine KA (KI (o' := 0) Try.underlying25 rfl rfl rfl sz_23 (by decide)) (Nb rfl) ?_
    refine KA (Kx Try.underlying23 sz_22 rfl rfl (by omega)) (Nb rfl) ?_
    refine LOps.det (KL rfl (by repeat (first | exact Mh _ | apply Mt)) (KP Try.underlying22 rfl (by exact Kl _ (show nw A - 1 < 9 by omega)))) (Nb rfl) ?_
    refine KK rfl (KY (KO (first := []) rfl en_173 rfl (Nb rfl) (fun w hw => c_Len64 _ (by omega) w) ?_))
    refine KA (KH rfl rfl (KAG (by omega))) (Nb rfl) ?_
    refine KA (KF rfl) (Nb rfl) ?_
    refine KG (KQ ?_)
    refine ⟨[_], .cons rfl .nil, fun a w' hr => ⟨?_, hr.fr.below⟩⟩
    rw [← bits_words h6]
    rfl
theorem c_nat_Small (x : Nat) (hx : x < 9223372036854775808) (w : World)  : Calls Try.prog 150 ([.int .i64 ((x : Nat) : Int)] : List Value).toArray w (fun e w' => e = .returned (natV x) ∧ Below w.heap.size w w') := by
  refine KAB (N := 8) (rs := [.cell 2 25]) [] Try.func150 rfl Try.ntmps150 Try.results150 (Nb rfl) trivial rfl ?_
  show LCode _ _ _ ⟨_, _⟩ _
  refine KE (KB ?_)
  refine KK rfl (KY (KS (Kp zr_25) (Nb rfl) (fun b2 => ?_)))
  refine KG ?_
  refine KE (KB ?_)
  refine KA (KD rfl) (Nb rfl) ?_
  refine KA (Det.max0 rfl rfl) (Nb rfl) ?_
  refine KA (KAU Try.underlying3 Try.underlying22 rfl (by first | omega | exact Nat.lt_trans (D.limb_lt _ _) (by decide))) (Nb rfl) ?_
  refine KA (KAl pl_23 zr_23 rfl (by exact fill_small (by omega))) (Nb rfl) ?_
  refine KA (KAl pl_25 zr_25 rfl (by exact fillL_whole (KM _ _ _) (KJ _))) (Nb rfl) ?_
  refine KK rfl (Kb rfl rfl sz_25 (by repeat (first | exact Ky _ | exact KAT _ _ _ | exact KAJ _ | exact KAK _ _ _ | exact KAV _ _ _ | exact Kf | refine KZ rfl ?_ | refine Ko ?_ ?_)) (by repeat (first | exact Sh _ | apply St_)) (by first | exact KJ _ | exact KM _ _ _ | exact KN _ | exact Kd _ _ _ | exact KAD _ _ _ | rfl | simp [KM, KJ, KN]) ?_)
  refine KG (KQ ?_)
  refine ⟨[_], .cons ⟨_, _, _, rfl, (by repeat (first | exact Mh _ | apply Mt)), by exact KR Try.underlying25 rfl sz_25⟩ .nil, fun a w' hr => ⟨?_, hr.fr.below⟩⟩
  rfl
end Go.Proofs.Ytljblbgogjieaaa
set_option linter.unusedVariables false
set_option linter.unusedSimpArgs false
set_option maxRecDepth 20000
namespace Go.Proofs.Ytljblbgogjieaaa
open Go Go.RowKit
theorem drop_step {l : List UInt8} {x : Nat} (h : x < l.length) : l.drop (l.length - (x + 1)) = l.getD (l.length - 1 - x) 0 :: l.drop (l.length - x) := by
  rw [show l.length - x = l.length - (x + 1) + 1 by omega, List.drop_eq_getElem_cons (by omega)]
  congr 1
  rw [List.getD_eq_getElem?_getD, List.getElem?_eq_getElem (by omega)]
  simp only [Option.getD_some]
  congr 1
  omega
theorem size_list (s : ByteArray) : s.data.toList.length = s.size := rfl
end Go.Proofs.Ytljblbgogjieaaa
set_option linter.unusedVariables false
set_option linter.unusedSimpArgs false
set_option maxRecDepth 20000
namespace Go.Proofs.Ytljblbgogjieaaa
open Go Go.RowKit
theorem c_length (A b l c : Nat) (ty : TypeId) (wr : Bool) (w : World) (hb : (Item.blk b ⟨wr, vec .u64 c (limb A), ty, (0, 0)⟩).holds w) (hlc : l ≤ c) (hc : c < 9223372036854775808) (hA : A < 2 ^ (64 * l)) : Calls Try.prog 187 ([.slice (some ⟨b, 0, none⟩) l c] : List Value).toArray w (fun e w' => e = .returned (.int .i64 ((nw A : Nat) : Int)) ∧ Below w.heap.size w w') := by
  refine KAB (N := 19) (rs := [.tmp 2]) [.blk b ⟨false, vec .u64 c (limb A), ty, (0, 0)⟩] Try.func187 rfl Try.ntmps187 Try.results187 (Nb rfl) ⟨hb, trivial⟩ rfl ?_
  show LCode _ _ _ ⟨_, _⟩ _
  refine KE (KB ?_)
  refine KA (KF (v := .int .i64 ((0 : Nat) : Int)) rfl) (Nb rfl) ?_
  refine KG ?_
  refine KE (KB ?_)
  refine KA (KD rfl) (Nb rfl) ?_
  refine KA (KAY Try.underlying234 rfl) (Nb rfl) ?_
  refine KA (KF rfl) (Nb rfl) ?_
  refine KG ?_
  refine KE ?_
  refine LCode.block ?_
  refine KAH (α := Nat) (fun x => x ≤ l ∧ A < 2 ^ (64 * x)) (fun x => ⟨[(0, .slice (some ⟨b, 0, none⟩) l c), (3, .int .i64 ((x : Nat) : Int))], [.blk b ⟨false, vec .u64 c (limb A), ty, (0, 0)⟩]⟩) (fun x => x) (l) (⟨Nat.le_refl _, hA⟩) (KAE ⟨rfl, rfl, trivial⟩ (by repeat (first | exact Sel.nil _ | refine Sel.cons (by repeat (first | exact Ph _ | apply Pt_)) ?_))) ?_
  rintro x ⟨hx, hlt⟩
  refine KE ?_
  refine KE ?_
  by_cases h0 : 0 < x
  ·
    refine KB ?_
    refine KA (KD rfl) (Nb rfl) ?_
    refine KA (KH rfl rfl (br_t (br_gtr (b := 0)) h0)) (Nb rfl) ?_
    refine KA (KD rfl) (Nb rfl) ?_
    refine Kg rfl rfl (KD rfl) (Nb rfl) ?_
    refine Kg rfl rfl (KD rfl) (Nb rfl) ?_
    refine Kg rfl rfl (KH rfl rfl (br_sub (b := 1) (by omega) (by omega))) (Nb rfl) ?_
    refine Kg rfl rfl (Kv Try.underlying234 sz_22 rfl rfl (by omega)) (Nb rfl) ?_
    refine LOps.detG rfl rfl (KL rfl (by repeat (first | exact Mh _ | apply Mt)) (KP Try.underlying22 rfl (by exact Kn _ _ _ (show x - 1 < c by omega)))) (Nb rfl) ?_
    refine Kg rfl rfl (KH rfl rfl (br_eql (b := 0))) (Nb rfl) ?_
    refine KA (Km rfl rfl) (Nb rfl) ?_
    refine KG ?_
    first | refine KU rfl (fun h15 => ?_) (fun h15 => ?_) | refine KX rfl (fun h15 => ?_) (fun h15 => ?_)
    ·
      have h15 : limb A (x - 1) = 0 := by have := h15; simpa using this
      refine Ke ?_
      refine LCode.block ?_
      refine KB ?_
      refine KA (KD rfl) (Nb rfl) ?_
      refine KA (KH rfl rfl (br_sub (b := 1) (by omega) (by omega))) (Nb rfl) ?_
      refine KA (KF rfl) (Nb rfl) ?_
      refine KG ?_
      refine ⟨x - 1, ⟨by omega, ?_⟩, by omega, KAE ⟨rfl, rfl, trivial⟩ (by repeat (first | exact Sel.nil _ | refine Sel.cons (by repeat (first | exact Ph _ | apply Pt_)) ?_))⟩
      exact lt_of_limb_zero (A := A) (n := x - 1) (by rw [show x - 1 + 1 = x by omega]; exact hlt) h15
    ·
      have h15 : ¬ limb A (x - 1) = 0 := by have := h15; simpa using this
      refine KAC ?_
      refine KE (KB ?_)
      refine KA (KD rfl) (Nb rfl) ?_
      refine KA (KF rfl) (Nb rfl) ?_
      refine KG (KQ ?_)
      have he : nw A = x := nw_eq hlt (.inr (le_of_limb (A := A) (n := x - 1) (by rw [show x - 1 + 1 = x by omega]; exact hlt) h15))
      refine ⟨[_], .cons rfl .nil, fun a w' hr => ⟨?_, hr.fr.below⟩⟩
      rw [he]; rfl
  ·
    refine KB ?_
    refine KA (KD rfl) (Nb rfl) ?_
    refine KA (KH rfl rfl (br_f (br_gtr (b := 0)) h0)) (Nb rfl) ?_
    refine KA (KD rfl) (Nb rfl) ?_
    refine Kr rfl rfl rfl (Nb rfl) ?_
    refine Kr rfl rfl rfl (Nb rfl) ?_
    refine Kr rfl rfl rfl (Nb rfl) ?_
    refine Kr rfl rfl rfl (Nb rfl) ?_
    refine Kr rfl rfl rfl (Nb rfl) ?_
    refine Kr rfl rfl rfl (Nb rfl) ?_
    refine KA (KAL rfl rfl) (Nb rfl) ?_
    refine KG ?_
    refine Ku rfl ?_
    refine KAC ?_
    refine KE (KB ?_)
    refine KA (KD rfl) (Nb rfl) ?_
    refine KA (KF rfl) (Nb rfl) ?_
    refine KG (KQ ?_)
    have he : nw A = x := nw_eq hlt (.inl (by omega))
    refine ⟨[_], .cons rfl .nil, fun a w' hr => ⟨?_, hr.fr.below⟩⟩
    rw [he]; rfl
def dvL (m : Nat) : List Value := dv (limb (dnm m)) (nw m) (dsh m)
theorem Brings.blk1 {w w' : World} {H : List Item} {b : Nat} {B : Blk} (hb : Below w.heap.size w w') (hn : w.heap.size ≤ b) (hh : (Item.blk b B).holds w') : Brings w H [.blk b B] w' :=
  ⟨hb, fun x hx => by simp at hx; subst hx; exact hh, fun x hx k hk => by simp at hx; subst hx; simp [Item.fp] at hk; subst hk; exact .inl hn,
    fun x hx _ k hk => by simp at hx; subst hx; simp [Item.fp] at hk; subst hk; exact hn, List.pairwise_singleton _ _⟩
theorem of_word {m x : Nat} (h0 : 0 < dsh m) (hm : m ≠ 0) (hx : 0 < x) : (limb m x * 2 ^ dsh m % 18446744073709551616 ||| limb m (x - 1) / 2 ^ (64 - dsh m)) = limb (dnm m) x := by
  unfold dnm
  rw [limb_shl m (dsh m) x (dsh_lt hm) h0, if_neg (by omega), or_low (limb_lt _ _) h0 (dsh_lt hm)]
theorem of_word0 {m x : Nat} (hm : m ≠ 0) (h : x = 0 ∨ dsh m = 0) : limb m x * 2 ^ dsh m % 18446744073709551616 = limb (dnm m) x := by
  rcases Nat.eq_zero_or_pos (dsh m) with h0 | h0
  · unfold dnm
    rw [h0, Nat.pow_zero, Nat.mul_one, Nat.mul_one, Nat.mod_eq_of_lt (limb_lt _ _)]
  · unfold dnm
    rw [limb_shl m (dsh m) x (dsh_lt hm) h0, if_pos (by omega), Nat.add_zero]
theorem lz_top {m : Nat} (hm : m ≠ 0) : 64 - blen (limb m (nw m - 1)) = dsh m := by
  have h := bits_words (A := m) (by have := nw_pos hm; omega)
  have := blen_le (n := 64) (limb_lt m (nw m - 1))
  have := nw_pos hm
  unfold dsh; omega
theorem c_of (m bm : Nat) (wr : Bool) (hm0 : m ≠ 0) (w : World) (hb : (Item.blk bm ⟨wr, natL m, 25, (0, 0)⟩).holds w) (hm : m < W9) : Calls Try.prog 183 ([.pointer (some ⟨bm, 0, none⟩)] : List Value).toArray w (fun e w' => ∃ b, e = .returned (.pointer (some ⟨b, 0, none⟩)) ∧ w.heap.size ≤ b ∧ (Item.blk b ⟨false, dvL m, 241, (0, 0)⟩).holds w' ∧ Below w.heap.size w w') := by
  refine KAB (N := 86) (rs := [.tmp 2]) [.blk bm ⟨false, natL m, 25, (0, 0)⟩] Try.func183 rfl Try.ntmps183 Try.results183 (Nb rfl) ⟨hb, trivial⟩ rfl ?_
  show LCode _ _ _ ⟨_, _⟩ _
  refine KE (KB ?_)
  refine KA (KF rfl) (Nb rfl) ?_
  refine KG ?_
  refine KE ?_
  refine Kc [] (by kernel_rfl) ?_
  refine KC 0 rfl (by kernel_rfl) (Nb rfl) (KD rfl) ?_
  refine KC 1 rfl (by kernel_rfl) (Nb rfl) (KW rfl) ?_
  refine KC 2 rfl (by kernel_rfl) (Nb rfl) (KI (o' := 0) Try.underlying25 rfl rfl rfl sz_23 (by decide)) ?_
  refine LAny.take 3 rfl (by kernel_rfl) (Nb rfl) (KL rfl (by repeat (first | exact Mh _ | apply Mt)) (by exact KR Try.underlying23 rfl sz_23)) ?_
  refine KC 4 rfl (by kernel_rfl) (Nb rfl) (KD rfl) ?_
  refine KC 5 rfl (by kernel_rfl) (Nb rfl) (KW rfl) ?_
  refine KC 6 rfl (by kernel_rfl) (Nb rfl) (KI (o' := 0) Try.underlying25 rfl rfl rfl sz_23 (by decide)) ?_
  refine KC 7 rfl (by kernel_rfl) (Nb rfl) (Det.slArr Try.underlying23 sz_22 rfl) ?_
  refine Kq 8 rfl rfl (by kernel_rfl) (KO (first := []) rfl en_187 rfl (Nb rfl) (fun w hw => c_length m bm 9 9 _ false w (hw _ (by repeat (first | exact Mh _ | apply Mt))) (Nat.le_refl _) (by decide) (lt_w9_pow hm 9 rfl)) ?_)
  refine KC 9 rfl (by kernel_rfl) (Nb rfl) (KAl pl_241 zr_241 rfl (show fillL _ _ _ = some (dv (limb m) (nw m) 0) from (fillL_step (A := []) (B := vec .u64 9 (fun _ => 0)) (D := [.int .i64 ((0 : Nat) : Int), .int .i64 ((0 : Nat) : Int)]) (cs := natL m) rfl rfl (KJ _) rfl rfl (KM _ _ _) ((fillL_step (A := natL m) (B := [.int .i64 ((0 : Nat) : Int)]) (D := [.int .i64 ((0 : Nat) : Int)]) (cs := [.int .i64 ((nw m : Nat) : Int)]) rfl rfl rfl rfl (KJ _) rfl rfl).trans rfl)))) ?_
  refine Kq 10 rfl rfl (by kernel_rfl) (KS (KAM rfl) (Nb rfl) (fun b15 => ?_))
  refine KC 11 rfl (by kernel_rfl) (Nb rfl) (KF rfl) ?_
  refine Kj (by kernel_rfl) ?_
  refine KE ?_
  have hn0 := nw_pos hm0
  have hn9 := nw_w9 hm
  have hs64 := dsh_lt hm0
  refine Kc [14] (by kernel_rfl) ?_
  refine KC 0 rfl (by kernel_rfl) (Nb rfl) (KD rfl) ?_
  refine KC 1 rfl (by kernel_rfl) (Nb rfl) (KD rfl) ?_
  refine KC 2 rfl (by kernel_rfl) (Nb rfl) (KD rfl) ?_
  refine KC 3 rfl (by kernel_rfl) (Nb rfl) (KW rfl) ?_
  refine KC 4 rfl (by kernel_rfl) (Nb rfl) (KI (o' := 9) Try.underlying241 rfl rfl rfl sz_3 (by decide)) ?_
  refine LAny.take 5 rfl (by kernel_rfl) (Nb rfl) (KL rfl (by repeat (first | exact Mh _ | apply Mt)) (KP Try.underlying3 rfl (by first | rfl | exact Kn _ _ _ (by omega) | exact Kl _ (by omega) | exact Kh _ (by omega) | exact dv_m _ _ _ (by omega)))) ?_
  refine KC 6 rfl (by kernel_rfl) (Nb rfl) (KH rfl rfl (br_sub (b := 1) (by omega) (by omega))) ?_
  refine KC 7 rfl (by kernel_rfl) (Nb rfl) (KW rfl) ?_
  refine KC 8 rfl (by kernel_rfl) (Nb rfl) (KI (o' := 0) Try.underlying241 rfl rfl rfl sz_23 (by decide)) ?_
  refine KC 9 rfl (by kernel_rfl) (Nb rfl) (Kx Try.underlying23 sz_22 rfl rfl (by omega)) ?_
  refine LAny.take 10 rfl (by kernel_rfl) (Nb rfl) (KL rfl (by repeat (first | exact Mh _ | apply Mt)) (KP Try.underlying22 rfl (by exact dv_m _ _ _ (show nw m - 1 < 9 by omega)))) ?_
  refine Kq 11 rfl rfl (by kernel_rfl) (KO (first := []) rfl en_192 rfl (Nb rfl) (fun w hw => c_LeadingZeros64 _ (limb_lt _ _) w) ?_)
  refine KC 12 rfl (by kernel_rfl) (Nb rfl) (KW rfl) ?_
  refine KC 13 rfl (by kernel_rfl) (Nb rfl) (KI (o' := 10) Try.underlying241 rfl rfl rfl sz_3 (by decide)) ?_
  refine KAA 14 rfl rfl (by kernel_rfl) (by kernel_rfl) (Kw rfl rfl rfl sz_3 (by repeat (first | exact Sh _ | apply St_)) (by simp only [KAI]; omega) (show (dv (limb m) (nw m) 0).set 10 _ = dv (limb m) (nw m) (dsh m) by rw [← lz_top hm0]; exact KAZ _ _ _ _) (by simp) ?_)
  refine Kj (by kernel_rfl) ?_
  refine KE ?_
  refine KE (KB ?_)
  refine KA (KD rfl) (Nb rfl) ?_
  refine KA (KW rfl) (Nb rfl) ?_
  refine KA (KI (o' := 9) Try.underlying241 rfl rfl rfl sz_3 (by decide)) (Nb rfl) ?_
  refine LOps.det (KL rfl (by repeat (first | exact Mh _ | apply Mt)) (KP Try.underlying3 rfl (by first | rfl | exact Kn _ _ _ (by omega) | exact Kl _ (by omega) | exact Kh _ (by omega) | exact dv_m _ _ _ (by omega)))) (Nb rfl) ?_
  refine KA (KH rfl rfl (br_sub (b := 1) (by omega) (by omega))) (Nb rfl) ?_
  refine KA (KF rfl) (Nb rfl) ?_
  refine KG ?_
  refine LCode.block ?_
  refine KAH (α := Nat) (fun x => x ≤ nw m) (fun x => ⟨[(3, .pointer (some ⟨b15, 0, none⟩)), (4, .int .i64 ((x : Int) - 1))], [.blk b15 ⟨true, dv (fun j => if x ≤ j then limb (dnm m) j else limb m j) (nw m) (dsh m), 241, (0, 0)⟩]⟩) (fun x => x) (nw m) (Nat.le_refl _) (KAi (Sub.cells (b := b15) (cs' := dv (fun j => if nw m ≤ j then limb (dnm m) j else limb m j) (nw m) (dsh m)) (by repeat (first | exact Sh _ | apply St_)) (dv_congr fun j _ => by
    by_cases e : nw m ≤ j
    · rw [if_pos e, limb_high (lt_nw m) e, limb_high (dnm_lt m) e]
    · rw [if_neg e])) (KAE ⟨rfl, congrArg (fun i : Int => some (Value.int .i64 i)) (by omega), trivial⟩ (by repeat (first | exact Sel.nil _ | refine Sel.cons (by repeat (first | exact Ph _ | apply Pt_)) ?_)))) ?_
  intro x hx
  refine KE ?_
  refine KE ?_
  rcases Nat.eq_zero_or_pos x with h0 | h0
  ·
    refine KB ?_
    refine KA (KD rfl) (Nb rfl) ?_
    refine KA (KH (v := .bool false) rfl rfl (by subst h0; rfl)) (Nb rfl) ?_
    refine KG ?_
    refine Ku rfl ?_
    refine KAC ?_
    refine KE (KB ?_)
    refine KA (KD rfl) (Nb rfl) ?_
    refine KA (KF rfl) (Nb rfl) ?_
    refine KG (KQ ?_)
    have e0 : (dv (fun j => if 0 ≤ j then limb (dnm m) j else limb m j) (nw m) (dsh m)) = dvL m := dv_congr fun j _ => if_pos (Nat.zero_le _)
    refine ⟨[_], .cons rfl .nil, fun a w' hr => ⟨b15, rfl, hr.new (by repeat (first | exact Mh _ | apply Mt)) rfl, ?_, hr.fr.below⟩⟩
    have := hr.hp _ (by repeat (first | exact Mh _ | apply Mt))
    rw [← e0]
    subst h0
    exact this
  ·
    obtain ⟨y, rfl⟩ : ∃ y, x = y + 1 := ⟨x - 1, by omega⟩
    refine KB ?_
    refine KA (KD rfl) (Nb rfl) ?_
    refine KA (KH (v := .bool true) rfl rfl (by simp [KAQ])) (Nb rfl) ?_
    refine KG ?_
    refine KAF rfl ?_
    refine Ke ?_
    refine KE ?_
    refine LCode.block ?_
    refine KE ?_
    refine Kc [14] (by kernel_rfl) ?_
    refine KC 0 rfl (by kernel_rfl) (Nb rfl) (KD rfl) ?_
    refine KC 1 rfl (by kernel_rfl) (Nb rfl) (KD (v := .int .i64 ((y : Nat) : Int)) (by show some _ = some _; congr 2; omega)) ?_
    refine KC 2 rfl (by kernel_rfl) (Nb rfl) (KW rfl) ?_
    refine KC 3 rfl (by kernel_rfl) (Nb rfl) (KI (o' := 0) Try.underlying241 rfl rfl rfl sz_23 (by decide)) ?_
    refine KC 4 rfl (by kernel_rfl) (Nb rfl) (Kx Try.underlying23 sz_22 rfl rfl (by omega)) ?_
    refine LAny.take 5 rfl (by kernel_rfl) (Nb rfl) (KL rfl (by repeat (first | exact Mh _ | apply Mt)) (KP Try.underlying22 rfl (by exact (dv_m _ _ _ (show y < 9 by omega)).trans (congrArg some (vi (b := limb m y) (if_neg (by omega))))))) ?_
    refine KC 6 rfl (by kernel_rfl) (Nb rfl) (KD rfl) ?_
    refine KC 7 rfl (by kernel_rfl) (Nb rfl) (KW rfl) ?_
    refine KC 8 rfl (by kernel_rfl) (Nb rfl) (KI (o' := 10) Try.underlying241 rfl rfl rfl sz_3 (by decide)) ?_
    refine LAny.take 9 rfl (by kernel_rfl) (Nb rfl) (KL rfl (by repeat (first | exact Mh _ | apply Mt)) (KP Try.underlying3 rfl (by first | rfl | exact Kn _ _ _ (by omega) | exact Kl _ (by omega) | exact Kh _ (by omega) | exact dv_m _ _ _ (by omega)))) ?_
    refine KC 10 rfl (by kernel_rfl) (Nb rfl) (KH rfl rfl (br_shl64)) ?_
    refine KC 11 rfl (by kernel_rfl) (Nb rfl) (KW rfl) ?_
    refine KC 12 rfl (by kernel_rfl) (Nb rfl) (KI (o' := 0) Try.underlying241 rfl rfl rfl sz_23 (by decide)) ?_
    refine KC 13 rfl (by kernel_rfl) (Nb rfl) (Kx Try.underlying23 sz_22 rfl rfl (by omega)) ?_
    refine KAA 14 rfl rfl (by kernel_rfl) (by kernel_rfl) (Kw rfl rfl rfl sz_22 (by repeat (first | exact Sh _ | apply St_)) (by first | (simp only [KM, KJ, KN, KAI]; omega) | (simp; omega)) (by first | exact KAX _ _ _ _ _ | exact KAb _ _ _ _ (by omega) | exact KAZ _ _ _ _ | rfl) (by simp) ?_)
    refine Kj (by kernel_rfl) ?_
    refine KE ?_
    rcases Nat.eq_zero_or_pos y with hy0 | hy0
    rotate_left
    rcases Nat.eq_zero_or_pos (dsh m) with hs0 | hs0
    ·
      refine KB ?_
      refine KA (KD (v := .int .i64 ((y : Nat) : Int)) (by show some _ = some _; congr 2; omega)) (Nb rfl) ?_
      refine KA (KH rfl rfl (br_t (br_gtr (b := 0)) hy0)) (Nb rfl) ?_
      refine KA (KD rfl) (Nb rfl) ?_
      refine Kg rfl rfl (KD rfl) (Nb rfl) ?_
      refine Kg rfl rfl (KW rfl) (Nb rfl) ?_
      refine Kg rfl rfl (KI (o' := 10) Try.underlying241 rfl rfl rfl sz_3 (by decide)) (Nb rfl) ?_
      refine LOps.detG rfl rfl (KL rfl (by repeat (first | exact Mh _ | apply Mt)) (KP Try.underlying3 rfl (by first | rfl | exact Kn _ _ _ (by omega) | exact Kl _ (by omega) | exact Kh _ (by omega) | exact dv_m _ _ _ (by omega)))) (Nb rfl) ?_
      refine Kg rfl rfl (KH rfl rfl (br_f (br_gtr (b := 0)) (by omega))) (Nb rfl) ?_
      refine KA (Km rfl rfl) (Nb rfl) ?_
      refine KG ?_
      refine Ku rfl ?_
      refine Ke ?_
      refine KB ?_
      refine KA (KD (v := .int .i64 ((y : Nat) : Int)) (by show some _ = some _; congr 2; omega)) (Nb rfl) ?_
      refine KA (KH rfl rfl rfl) (Nb rfl) ?_
      refine KA (KF rfl) (Nb rfl) ?_
      refine KG ?_
      refine ⟨y, by omega, by omega, KAi (Sub.cells (b := b15) (cs' := dv (fun j => if y ≤ j then limb (dnm m) j else limb m j) (nw m) (dsh m)) (by repeat (first | exact Sh _ | apply St_)) (dv_congr fun j hj => ?_)) (KAE ⟨rfl, ?_, trivial⟩ (by repeat (first | exact Sel.nil _ | refine Sel.cons (by repeat (first | exact Ph _ | apply Pt_)) ?_)))⟩
      · by_cases e : j = y
        · subst e
          rw [if_pos rfl, if_pos (Nat.le_refl _)]
          exact of_word0 hm0 (.inr hs0)
        · simp only [e, if_false]
          by_cases e2 : y + 1 ≤ j
          · rw [if_pos e2, if_pos (by omega)]
          · rw [if_neg e2, if_neg (by omega)]
      · exact congrArg (fun i : Int => some (Value.int .i64 i)) (wrap_i64 (by omega) (by omega))
    ·
      refine KB ?_
      refine KA (KD (v := .int .i64 ((y : Nat) : Int)) (by show some _ = some _; congr 2; omega)) (Nb rfl) ?_
      refine KA (KH rfl rfl (br_t (br_gtr (b := 0)) hy0)) (Nb rfl) ?_
      refine KA (KD rfl) (Nb rfl) ?_
      refine Kg rfl rfl (KD rfl) (Nb rfl) ?_
      refine Kg rfl rfl (KW rfl) (Nb rfl) ?_
      refine Kg rfl rfl (KI (o' := 10) Try.underlying241 rfl rfl rfl sz_3 (by decide)) (Nb rfl) ?_
      refine LOps.detG rfl rfl (KL rfl (by repeat (first | exact Mh _ | apply Mt)) (KP Try.underlying3 rfl (by first | rfl | exact Kn _ _ _ (by omega) | exact Kl _ (by omega) | exact Kh _ (by omega) | exact dv_m _ _ _ (by omega)))) (Nb rfl) ?_
      refine Kg rfl rfl (KH rfl rfl (br_t (br_gtr (b := 0)) hs0)) (Nb rfl) ?_
      refine KA (Km rfl rfl) (Nb rfl) ?_
      refine KG ?_
      refine KAF rfl ?_
      refine Kc [23] (by kernel_rfl) ?_
      refine KC 0 rfl (by kernel_rfl) (Nb rfl) (KD rfl) ?_
      refine KC 1 rfl (by kernel_rfl) (Nb rfl) (KD (v := .int .i64 ((y : Nat) : Int)) (by show some _ = some _; congr 2; omega)) ?_
      refine KC 2 rfl (by kernel_rfl) (Nb rfl) (KW rfl) ?_
      refine KC 3 rfl (by kernel_rfl) (Nb rfl) (KI (o' := 0) Try.underlying241 rfl rfl rfl sz_23 (by decide)) ?_
      refine KC 4 rfl (by kernel_rfl) (Nb rfl) (Kx Try.underlying23 sz_22 rfl rfl (by omega)) ?_
      refine LAny.take 5 rfl (by kernel_rfl) (Nb rfl) (KL rfl (by repeat (first | exact Mh _ | apply Mt)) (KP Try.underlying22 rfl (by exact (dv_m _ _ _ (show y < 9 by omega)).trans (congrArg some (vi (b := limb m y * 2 ^ dsh m % 18446744073709551616) (if_pos rfl)))))) ?_
      refine KC 6 rfl (by kernel_rfl) (Nb rfl) (KD rfl) ?_
      refine KC 7 rfl (by kernel_rfl) (Nb rfl) (KD (v := .int .i64 ((y : Nat) : Int)) (by show some _ = some _; congr 2; omega)) ?_
      refine KC 8 rfl (by kernel_rfl) (Nb rfl) (KH rfl rfl (br_sub (b := 1) (by omega) (by omega))) ?_
      refine KC 9 rfl (by kernel_rfl) (Nb rfl) (KW rfl) ?_
      refine KC 10 rfl (by kernel_rfl) (Nb rfl) (KI (o' := 0) Try.underlying241 rfl rfl rfl sz_23 (by decide)) ?_
      refine KC 11 rfl (by kernel_rfl) (Nb rfl) (Kx Try.underlying23 sz_22 rfl rfl (by omega)) ?_
      refine LAny.take 12 rfl (by kernel_rfl) (Nb rfl) (KL rfl (by repeat (first | exact Mh _ | apply Mt)) (KP Try.underlying22 rfl (by exact (dv_m _ _ _ (show y - 1 < 9 by omega)).trans (congrArg some (vi (b := limb m (y - 1)) (by rw [if_neg (by omega), if_neg (by omega)])))))) ?_
      refine KC 13 rfl (by kernel_rfl) (Nb rfl) (KD rfl) ?_
      refine KC 14 rfl (by kernel_rfl) (Nb rfl) (KW rfl) ?_
      refine KC 15 rfl (by kernel_rfl) (Nb rfl) (KI (o' := 10) Try.underlying241 rfl rfl rfl sz_3 (by decide)) ?_
      refine LAny.take 16 rfl (by kernel_rfl) (Nb rfl) (KL rfl (by repeat (first | exact Mh _ | apply Mt)) (KP Try.underlying3 rfl (by first | rfl | exact Kn _ _ _ (by omega) | exact Kl _ (by omega) | exact Kh _ (by omega) | exact dv_m _ _ _ (by omega)))) ?_
      refine KC 17 rfl (by kernel_rfl) (Nb rfl) (KH rfl rfl (br_sub (a := 64) (by omega) (by omega))) ?_
      refine KC 18 rfl (by kernel_rfl) (Nb rfl) (KH rfl rfl (KAd (limb_lt _ _))) ?_
      refine KC 19 rfl (by kernel_rfl) (Nb rfl) (KH rfl rfl (br_or64 (Nat.mod_lt _ (by decide)) (Nat.lt_of_le_of_lt (Nat.div_le_self _ _) (limb_lt _ _)))) ?_
      refine KC 20 rfl (by kernel_rfl) (Nb rfl) (KW rfl) ?_
      refine KC 21 rfl (by kernel_rfl) (Nb rfl) (KI (o' := 0) Try.underlying241 rfl rfl rfl sz_23 (by decide)) ?_
      refine KC 22 rfl (by kernel_rfl) (Nb rfl) (Kx Try.underlying23 sz_22 rfl rfl (by omega)) ?_
      refine KAA 23 rfl rfl (by kernel_rfl) (by kernel_rfl) (Kw rfl rfl rfl sz_22 (by repeat (first | exact Sh _ | apply St_)) (by first | (simp only [KM, KJ, KN, KAI]; omega) | (simp; omega)) (by first | exact KAX _ _ _ _ _ | exact KAb _ _ _ _ (by omega) | exact KAZ _ _ _ _ | rfl) (by simp) ?_)
      refine Kj (by kernel_rfl) ?_
      refine KB ?_
      refine KA (KD (v := .int .i64 ((y : Nat) : Int)) (by show some _ = some _; congr 2; omega)) (Nb rfl) ?_
      refine KA (KH rfl rfl rfl) (Nb rfl) ?_
      refine KA (KF rfl) (Nb rfl) ?_
      refine KG ?_
      refine ⟨y, by omega, by omega, KAi (Sub.cells (b := b15) (cs' := dv (fun j => if y ≤ j then limb (dnm m) j else limb m j) (nw m) (dsh m)) (by repeat (first | exact Sh _ | apply St_)) (dv_congr fun j hj => ?_)) (KAE ⟨rfl, ?_, trivial⟩ (by repeat (first | exact Sel.nil _ | refine Sel.cons (by repeat (first | exact Ph _ | apply Pt_)) ?_)))⟩
      · by_cases e : j = y
        · subst e
          rw [if_pos rfl, if_pos (Nat.le_refl _)]
          exact of_word hs0 hm0 hy0
        · simp only [e, if_false]
          by_cases e2 : y + 1 ≤ j
          · rw [if_pos e2, if_pos (by omega)]
          · rw [if_neg e2, if_neg (by omega)]
      · exact congrArg (fun i : Int => some (Value.int .i64 i)) (wrap_i64 (by omega) (by omega))
    ·
      refine KB ?_
      refine KA (KD (v := .int .i64 ((y : Nat) : Int)) (by show some _ = some _; congr 2; omega)) (Nb rfl) ?_
      refine KA (KH rfl rfl (br_f (br_gtr (b := 0)) (by omega))) (Nb rfl) ?_
      refine KA (KD rfl) (Nb rfl) ?_
      refine Kr rfl rfl rfl (Nb rfl) ?_
      refine Kr rfl rfl rfl (Nb rfl) ?_
      refine Kr rfl rfl rfl (Nb rfl) ?_
      refine Kr rfl rfl rfl (Nb rfl) ?_
      refine Kr rfl rfl rfl (Nb rfl) ?_
      refine KA (KAL rfl rfl) (Nb rfl) ?_
      refine KG ?_
      refine Ku rfl ?_
      refine Ke ?_
      refine KB ?_
      refine KA (KD (v := .int .i64 ((y : Nat) : Int)) (by show some _ = some _; congr 2; omega)) (Nb rfl) ?_
      refine KA (KH rfl rfl rfl) (Nb rfl) ?_
      refine KA (KF rfl) (Nb rfl) ?_
      refine KG ?_
      refine ⟨y, by omega, by omega, KAi (Sub.cells (b := b15) (cs' := dv (fun j => if y ≤ j then limb (dnm m) j else limb m j) (nw m) (dsh m)) (by repeat (first | exact Sh _ | apply St_)) (dv_congr fun j hj => ?_)) (KAE ⟨rfl, ?_, trivial⟩ (by repeat (first | exact Sel.nil _ | refine Sel.cons (by repeat (first | exact Ph _ | apply Pt_)) ?_)))⟩
      · by_cases e : j = y
        · subst e
          rw [if_pos rfl, if_pos (Nat.le_refl _)]
          exact of_word0 hm0 (.inl hy0)
        · simp only [e, if_false]
          by_cases e2 : y + 1 ≤ j
          · rw [if_pos e2, if_pos (by omega)]
          · rw [if_neg e2, if_neg (by omega)]
      · exact congrArg (fun i : Int => some (Value.int .i64 i)) (wrap_i64 (by omega) (by omega))
end Go.Proofs.Ytljblbgogjieaaa
set_option linter.unusedVariables false
set_option linter.unusedSimpArgs false
set_option maxRecDepth 20000
namespace Go.Proofs.Ytljblbgogjieaaa
open Go Go.RowKit
theorem dvL_m (m : Nat) {i : Nat} (h : i < 9) : (dvL m)[i]? = some (.int .u64 (limb (dnm m) i : Int)) := dv_m _ _ _ h
theorem dvL_n (m : Nat) : (dvL m)[9]? = some (.int .i64 (nw m : Int)) := dv_n _ _ _
theorem dvL_s (m : Nat) : (dvL m)[10]? = some (.int .i64 (dsh m : Int)) := dv_s _ _ _
theorem guess_facts {U m a : Nat} (hm : m ≠ 0) (hU : U < dnm m * 2 ^ (64 * (a + 1))) :
    limb U (a + nw m) * 18446744073709551616 + limb U (a + nw m - 1) = U / 2 ^ (64 * a) / 2 ^ (64 * (nw m - 1)) ∧ limb (dnm m) (nw m - 1) = dnm m / 2 ^ (64 * (nw m - 1)) ∧ 9223372036854775808 ≤ limb (dnm m) (nw m - 1) ∧
    U / 2 ^ (64 * a) / dnm m ≤ U / 2 ^ (64 * a) / 2 ^ (64 * (nw m - 1)) / limb (dnm m) (nw m - 1) := by
  have hn := nw_pos hm
  have h1 := win_lt (dnm_lt m) hU
  rw [Nat.add_assoc] at h1
  have h2 := win_div h1
  obtain ⟨h3, h4⟩ := dnm_top hm
  refine ⟨?_, h3, h4, ?_⟩
  · rw [show a + nw m - 1 = a + (nw m - 1) by omega, ← limb_div, ← limb_div]
    have := two_words (R := U / 2 ^ (64 * a)) (j := nw m - 1) (by rw [show nw m - 1 + 2 = nw m + 1 by omega]; exact h2)
    rw [this, show nw m - 1 + 1 = nw m by omega]
  · rw [h3]
    apply div_cut (pow64_pos _)
    rw [← h3]; omega
theorem guess_step {U m a q r : Nat} (hm : m ≠ 0) (hn : 2 ≤ nw m) (h1 : q * limb (dnm m) (nw m - 1) + r = U / 2 ^ (64 * a) / 2 ^ (64 * (nw m - 1)))
    (h2 : r * 18446744073709551616 + limb U (a + nw m - 2) < q * limb (dnm m) (nw m - 2)) : U / 2 ^ (64 * a) / dnm m < q := by
  refine guess_more (k := 2 ^ (64 * (nw m - 2))) (M := 18446744073709551616) (pow64_pos _) (dnm_pos hm) (top := limb (dnm m) (nw m - 1)) (d2 := limb (dnm m) (nw m - 2)) ?_ (R2 := U / 2 ^ (64 * a) / 2 ^ (64 * (nw m - 1))) (u2 := limb U (a + nw m - 2)) ?_ h1 h2
  · have := two_words (R := dnm m) (j := nw m - 2) (by rw [show nw m - 2 + 2 = nw m by omega]; exact dnm_lt m)
    rw [this, show nw m - 2 + 1 = nw m - 1 by omega]
  · have := next_word (U / 2 ^ (64 * a)) (nw m - 2)
    rw [this, limb_div, show nw m - 2 + 1 = nw m - 1 by omega, show a + (nw m - 2) = a + nw m - 2 by omega]
theorem two_le {a b r u : Nat} (hb : b < 18446744073709551616) (hu : u < 18446744073709551616) (h : r < a ∨ (a = r ∧ u < b)) : r * 18446744073709551616 + u < a * 18446744073709551616 + b := by omega
theorem prod_parts (p : Nat) : p / 18446744073709551616 * 18446744073709551616 + p % 18446744073709551616 = p := by omega
theorem guess_next {top r q d2 u R2 : Nat} (h1 : q * top + r = R2) (h0 : 0 < q) : (q - 1) * top + (r + top) = R2 := by
  obtain ⟨p, rfl⟩ : ∃ p, q = p + 1 := ⟨q - 1, by omega⟩
  rw [Nat.add_mul] at h1
  rw [Nat.add_sub_cancel]; omega
theorem c_guess (m U bd bu at_ : Nat) (wu : Bool) (hm0 : m ≠ 0) (w : World) (hbd : (Item.blk bd ⟨false, dvL m, 241, (0, 0)⟩).holds w) (hbu : (Item.blk bu ⟨wu, vec .u64 19 (limb U), 243, (0, 0)⟩).holds w) (hm : m < W9) (hat : at_ + nw m < 19) (hU : U < dnm m * 2 ^ (64 * (at_ + 1))) : Calls Try.prog 194 ([.pointer (some ⟨bd, 0, none⟩), .slice (some ⟨bu, 0, none⟩) 19 19, .int .i64 ((at_ : Nat) : Int)] : List Value).toArray w (fun e w' => ∃ q, (q < 18446744073709551616 ∧ U / 2 ^ (64 * at_) / dnm m ≤ q) ∧ e = .returned (.int .u64 ((q : Nat) : Int)) ∧ Below w.heap.size w w') := by
  refine KAB (N := 108) (rs := [.tmp 6]) [.blk bd ⟨false, dvL m, 241, (0, 0)⟩, .blk bu ⟨false, vec .u64 19 (limb U), 243, (0, 0)⟩] Try.func194 rfl Try.ntmps194 Try.results194 (Nb rfl) ⟨hbd, hbu, trivial⟩ rfl ?_
  show LCode _ _ _ ⟨_, _⟩ _
  refine KE (KB ?_)
  refine KA (KF (v := .int .u64 ((0 : Nat) : Int)) rfl) (Nb rfl) ?_
  refine KG ?_
  refine KE ?_
  have hn0 := nw_pos hm0
  have hn9 := nw_w9 hm
  obtain ⟨hf1, hf2, hf3, hf4⟩ := guess_facts hm0 hU
  have hlt := limb_lt (dnm m) (nw m - 1)
  have hlu := limb_lt U (at_ + nw m - 1)
  refine Kc [] (by kernel_rfl) ?_
  refine KC 0 rfl (by kernel_rfl) (Nb rfl) (KD rfl) ?_
  refine KC 1 rfl (by kernel_rfl) (Nb rfl) (KD rfl) ?_
  refine KC 2 rfl (by kernel_rfl) (Nb rfl) (KW rfl) ?_
  refine KC 3 rfl (by kernel_rfl) (Nb rfl) (KI (o' := 9) Try.underlying241 rfl rfl rfl sz_3 (by decide)) ?_
  refine LAny.take 4 rfl (by kernel_rfl) (Nb rfl) (KL rfl (by repeat (first | exact Mh _ | apply Mt)) (KP Try.underlying3 rfl (dvL_n _))) ?_
  refine KC 5 rfl (by kernel_rfl) (Nb rfl) (KH rfl rfl (br_sub (b := 1) (by omega) (by omega))) ?_
  refine KC 6 rfl (by kernel_rfl) (Nb rfl) (KW rfl) ?_
  refine KC 7 rfl (by kernel_rfl) (Nb rfl) (KI (o' := 0) Try.underlying241 rfl rfl rfl sz_23 (by decide)) ?_
  refine KC 8 rfl (by kernel_rfl) (Nb rfl) (Kx Try.underlying23 sz_22 rfl rfl (by omega)) ?_
  refine LAny.take 9 rfl (by kernel_rfl) (Nb rfl) (KL rfl (by repeat (first | exact Mh _ | apply Mt)) (KP Try.underlying22 rfl (by exact dvL_m _ (show nw m - 1 < 9 by omega)))) ?_
  refine KC 10 rfl (by kernel_rfl) (Nb rfl) (KF rfl) ?_
  refine Kj (by kernel_rfl) ?_
  refine KE ?_
  refine Kc [] (by kernel_rfl) ?_
  refine KC 0 rfl (by kernel_rfl) (Nb rfl) (KD rfl) ?_
  refine KC 1 rfl (by kernel_rfl) (Nb rfl) (KD rfl) ?_
  refine KC 2 rfl (by kernel_rfl) (Nb rfl) (KD rfl) ?_
  refine KC 3 rfl (by kernel_rfl) (Nb rfl) (KW rfl) ?_
  refine KC 4 rfl (by kernel_rfl) (Nb rfl) (KI (o' := 9) Try.underlying241 rfl rfl rfl sz_3 (by decide)) ?_
  refine LAny.take 5 rfl (by kernel_rfl) (Nb rfl) (KL rfl (by repeat (first | exact Mh _ | apply Mt)) (KP Try.underlying3 rfl (dvL_n _))) ?_
  refine KC 6 rfl (by kernel_rfl) (Nb rfl) (KH rfl rfl (KAG (by omega))) ?_
  refine KC 7 rfl (by kernel_rfl) (Nb rfl) (Kv Try.underlying234 sz_22 rfl rfl (by omega)) ?_
  refine LAny.take 8 rfl (by kernel_rfl) (Nb rfl) (KL rfl (by repeat (first | exact Mh _ | apply Mt)) (KP Try.underlying22 rfl (by exact Kn _ _ _ (show at_ + nw m < 19 by omega)))) ?_
  refine KC 9 rfl (by kernel_rfl) (Nb rfl) (KD rfl) ?_
  refine KC 10 rfl (by kernel_rfl) (Nb rfl) (KD rfl) ?_
  refine KC 11 rfl (by kernel_rfl) (Nb rfl) (KD rfl) ?_
  refine KC 12 rfl (by kernel_rfl) (Nb rfl) (KW rfl) ?_
  refine KC 13 rfl (by kernel_rfl) (Nb rfl) (KI (o' := 9) Try.underlying241 rfl rfl rfl sz_3 (by decide)) ?_
  refine LAny.take 14 rfl (by kernel_rfl) (Nb rfl) (KL rfl (by repeat (first | exact Mh _ | apply Mt)) (KP Try.underlying3 rfl (dvL_n _))) ?_
  refine KC 15 rfl (by kernel_rfl) (Nb rfl) (KH rfl rfl (KAG (by omega))) ?_
  refine KC 16 rfl (by kernel_rfl) (Nb rfl) (KH rfl rfl (br_sub (b := 1) (by omega) (by omega))) ?_
  refine KC 17 rfl (by kernel_rfl) (Nb rfl) (Kv Try.underlying234 sz_22 rfl rfl (by omega)) ?_
  refine LAny.take 18 rfl (by kernel_rfl) (Nb rfl) (KL rfl (by repeat (first | exact Mh _ | apply Mt)) (KP Try.underlying22 rfl (by exact Kn _ _ _ (show at_ + nw m - 1 < 19 by omega)))) ?_
  refine KC 19 rfl (by kernel_rfl) (Nb rfl) (KF rfl) ?_
  refine KC 20 rfl (by kernel_rfl) (Nb rfl) (KF rfl) ?_
  refine Kj (by kernel_rfl) ?_
  refine KE ?_
  refine KE (KB ?_)
  refine KA (KD rfl) (Nb rfl) ?_
  refine KA (KD rfl) (Nb rfl) ?_
  refine KA (KH rfl rfl (br_geq)) (Nb rfl) ?_
  refine KG ?_
  first | refine KU rfl (fun h46 => ?_) (fun h46 => ?_) | refine KX rfl (fun h46 => ?_) (fun h46 => ?_)
  ·
    refine KE (KB ?_)
    refine KA (KF (v := .int .u64 ((18446744073709551615 : Nat) : Int)) rfl) (Nb rfl) ?_
    refine KG (KQ ?_)
    refine ⟨[_], .cons rfl .nil, fun a w' hr => ⟨18446744073709551615, ?_, rfl, hr.fr.below⟩⟩
    exact ⟨by decide, by have := quo_lt (dnm_pos hm0) hU; omega⟩
  ·
    have h46 : limb U (at_ + nw m) < limb (dnm m) (nw m - 1) := Nat.lt_of_not_le h46
    have hq9 : U / 2 ^ (64 * at_) / 2 ^ (64 * (nw m - 1)) / limb (dnm m) (nw m - 1) < 18446744073709551616 := by
      rw [← hf1, Nat.div_lt_iff_lt_mul (by omega), Nat.mul_comm]
      omega
    refine Ke ?_
    refine KE (KB ?_)
    refine KA (KD rfl) (Nb rfl) ?_
    refine KA (KD rfl) (Nb rfl) ?_
    refine KA (KD rfl) (Nb rfl) ?_
    refine KK rfl (KY (KO (v := .tuple #[.int .u64 ((U / 2 ^ (64 * at_) / 2 ^ (64 * (nw m - 1)) / limb (dnm m) (nw m - 1) : Nat) : Int), .int .u64 ((U / 2 ^ (64 * at_) / 2 ^ (64 * (nw m - 1)) % limb (dnm m) (nw m - 1) : Nat) : Int)]) (first := []) rfl en_197 rfl (Nb rfl) (fun w hw => by have h := c_Div64 (limb U (at_ + nw m)) (limb U (at_ + nw m - 1)) _ (limb_lt _ _) hf3 hlt h46 w; rw [hf1] at h; exact h) ?_))
    refine KA (KD rfl) (Nb rfl) ?_
    refine KA (Kt rfl rfl) (Nb rfl) ?_
    refine KA (Kt rfl rfl) (Nb rfl) ?_
    refine KA (KF rfl) (Nb rfl) ?_
    refine KA (KF rfl) (Nb rfl) ?_
    refine KG ?_
    refine KE ?_
    refine KE (KB ?_)
    refine KA (KD rfl) (Nb rfl) ?_
    refine KA (KW rfl) (Nb rfl) ?_
    refine KA (KI (o' := 9) Try.underlying241 rfl rfl rfl sz_3 (by decide)) (Nb rfl) ?_
    refine LOps.det (KL rfl (by repeat (first | exact Mh _ | apply Mt)) (KP Try.underlying3 rfl (dvL_n _))) (Nb rfl) ?_
    refine KA (KH rfl rfl (br_eql (b := 1))) (Nb rfl) ?_
    refine KG ?_
    first | refine KU rfl (fun h58 => ?_) (fun h58 => ?_) | refine KX rfl (fun h58 => ?_) (fun h58 => ?_)
    ·
      refine KE (KB ?_)
      refine KA (KD rfl) (Nb rfl) ?_
      refine KA (KF rfl) (Nb rfl) ?_
      refine KG (KQ ?_)
      refine ⟨[_], .cons rfl .nil, fun a w' hr => ⟨(U / 2 ^ (64 * at_) / 2 ^ (64 * (nw m - 1))) / limb (dnm m) (nw m - 1), ?_, rfl, hr.fr.below⟩⟩
      exact ⟨hq9, hf4⟩
    ·
      refine Ke ?_
      refine LCode.block ?_
      refine KAH (α := Nat × Nat) (fun x => x.1 * limb (dnm m) (nw m - 1) + x.2 = U / 2 ^ (64 * at_) / 2 ^ (64 * (nw m - 1)) ∧ U / 2 ^ (64 * at_) / dnm m ≤ x.1 ∧ x.1 < 18446744073709551616 ∧ x.2 < 18446744073709551616) (fun x => ⟨[(0, .pointer (some ⟨bd, 0, none⟩)), (1, .slice (some ⟨bu, 0, none⟩) 19 19), (2, .int .i64 ((at_ : Nat) : Int)), (7, .int .u64 ((limb (dnm m) (nw m - 1) : Nat) : Int)), (10, .int .u64 ((x.1 : Nat) : Int)), (11, .int .u64 ((x.2 : Nat) : Int))], [.blk bd ⟨false, dvL m, 241, (0, 0)⟩, .blk bu ⟨false, vec .u64 19 (limb U), 243, (0, 0)⟩]⟩) (fun x => x.1) (((U / 2 ^ (64 * at_) / 2 ^ (64 * (nw m - 1))) / limb (dnm m) (nw m - 1), (U / 2 ^ (64 * at_) / 2 ^ (64 * (nw m - 1))) % limb (dnm m) (nw m - 1))) (⟨by rw [Nat.mul_comm]; exact Nat.div_add_mod _ _, hf4, hq9, Nat.lt_trans (Nat.mod_lt _ (by omega)) hlt⟩) (KAE ⟨rfl, rfl, rfl, rfl, rfl, rfl, trivial⟩ (by repeat (first | exact Sel.nil _ | refine Sel.cons (by repeat (first | exact Ph _ | apply Pt_)) ?_))) ?_
      intro x ⟨hx1, hx2, hx3, hx4⟩
      have h58 : ¬ nw m = 1 := h58
      refine LCode.block ?_
      refine KE ?_
      refine Kc [] (by kernel_rfl) ?_
      refine KC 0 rfl (by kernel_rfl) (Nb rfl) (KD rfl) ?_
      refine KC 1 rfl (by kernel_rfl) (Nb rfl) (KD rfl) ?_
      refine KC 2 rfl (by kernel_rfl) (Nb rfl) (KD rfl) ?_
      refine KC 3 rfl (by kernel_rfl) (Nb rfl) (KW rfl) ?_
      refine KC 4 rfl (by kernel_rfl) (Nb rfl) (KI (o' := 9) Try.underlying241 rfl rfl rfl sz_3 (by decide)) ?_
      refine LAny.take 5 rfl (by kernel_rfl) (Nb rfl) (KL rfl (by repeat (first | exact Mh _ | apply Mt)) (KP Try.underlying3 rfl (dvL_n _))) ?_
      refine KC 6 rfl (by kernel_rfl) (Nb rfl) (KH rfl rfl (br_sub (b := 2) (by omega) (by omega))) ?_
      refine KC 7 rfl (by kernel_rfl) (Nb rfl) (KW rfl) ?_
      refine KC 8 rfl (by kernel_rfl) (Nb rfl) (KI (o' := 0) Try.underlying241 rfl rfl rfl sz_23 (by decide)) ?_
      refine KC 9 rfl (by kernel_rfl) (Nb rfl) (Kx Try.underlying23 sz_22 rfl rfl (by omega)) ?_
      refine LAny.take 10 rfl (by kernel_rfl) (Nb rfl) (KL rfl (by repeat (first | exact Mh _ | apply Mt)) (KP Try.underlying22 rfl (by exact dvL_m _ (show nw m - 2 < 9 by omega)))) ?_
      refine Kq 11 rfl rfl (by kernel_rfl) (KO (first := []) rfl en_193 rfl (Nb rfl) (fun w hw => c_Mul64 _ _ hx3 (limb_lt _ _) w) ?_)
      refine KC 12 rfl (by kernel_rfl) (Nb rfl) (KD rfl) ?_
      refine KC 13 rfl (by kernel_rfl) (Nb rfl) (Kt rfl rfl) ?_
      refine KC 14 rfl (by kernel_rfl) (Nb rfl) (Kt rfl rfl) ?_
      refine KC 15 rfl (by kernel_rfl) (Nb rfl) (KF rfl) ?_
      refine KC 16 rfl (by kernel_rfl) (Nb rfl) (KF rfl) ?_
      refine Kj (by kernel_rfl) ?_
      refine KE ?_
      refine KE ?_
      rcases Nat.lt_trichotomy (x.1 * limb (dnm m) (nw m - 2) / 18446744073709551616) x.2 with h9 | h9 | h9
      ·
        refine KB ?_
        refine KA (KD rfl) (Nb rfl) ?_
        refine KA (KD rfl) (Nb rfl) ?_
        refine KA (KH rfl rfl (br_t br_lss h9)) (Nb rfl) ?_
        refine KA (KD rfl) (Nb rfl) ?_
        refine Kr rfl rfl rfl (Nb rfl) ?_
        refine Kr rfl rfl rfl (Nb rfl) ?_
        refine Kr rfl rfl rfl (Nb rfl) ?_
        refine Kr rfl rfl rfl (Nb rfl) ?_
        refine LOps.skipU rfl rfl (Nb rfl) ?_
        refine LOps.skipU rfl rfl (Nb rfl) ?_
        refine LOps.skipU rfl rfl (Nb rfl) ?_
        refine LOps.skipU rfl rfl (Nb rfl) ?_
        refine LOps.skipU rfl rfl (Nb rfl) ?_
        refine LOps.skipU rfl rfl (Nb rfl) ?_
        refine LOps.skipU rfl rfl (Nb rfl) ?_
        refine LOps.skipU rfl rfl (Nb rfl) ?_
        refine LOps.skipU rfl rfl (Nb rfl) ?_
        refine LOps.skipU rfl rfl (Nb rfl) ?_
        refine LOps.skipU rfl rfl (Nb rfl) ?_
        refine LOps.skipU rfl rfl (Nb rfl) ?_
        refine Kr rfl rfl rfl (Nb rfl) ?_
        refine KA (Km rfl rfl) (Nb rfl) ?_
        refine KG ?_
        refine KAF rfl ?_
        refine KE (KB ?_)
        refine KA (KD rfl) (Nb rfl) ?_
        refine KA (KF rfl) (Nb rfl) ?_
        refine KG (KQ ?_)
        refine ⟨[_], .cons rfl .nil, fun a w' hr => ⟨x.1, ?_, rfl, hr.fr.below⟩⟩
        exact ⟨hx3, hx2⟩
      ·
        refine KB ?_
        refine KA (KD rfl) (Nb rfl) ?_
        refine KA (KD rfl) (Nb rfl) ?_
        refine KA (KH rfl rfl (br_f br_lss (by omega))) (Nb rfl) ?_
        refine KA (KD rfl) (Nb rfl) ?_
        refine Kg rfl rfl (KD rfl) (Nb rfl) ?_
        refine Kg rfl rfl (KD rfl) (Nb rfl) ?_
        refine Kg rfl rfl (KH rfl rfl (br_t br_eql h9)) (Nb rfl) ?_
        refine Kg rfl rfl (KD rfl) (Nb rfl) ?_
        refine Kg rfl rfl (KD rfl) (Nb rfl) ?_
        refine Kg rfl rfl (KD rfl) (Nb rfl) ?_
        refine Kg rfl rfl (KD rfl) (Nb rfl) ?_
        refine Kg rfl rfl (KD rfl) (Nb rfl) ?_
        refine Kg rfl rfl (KW rfl) (Nb rfl) ?_
        refine Kg rfl rfl (KI (o' := 9) Try.underlying241 rfl rfl rfl sz_3 (by decide)) (Nb rfl) ?_
        refine LOps.detG rfl rfl (KL rfl (by repeat (first | exact Mh _ | apply Mt)) (KP Try.underlying3 rfl (dvL_n _))) (Nb rfl) ?_
        refine Kg rfl rfl (KH rfl rfl (KAG (by omega))) (Nb rfl) ?_
        refine Kg rfl rfl (KH rfl rfl (br_sub (b := 2) (by omega) (by omega))) (Nb rfl) ?_
        refine Kg rfl rfl (Kv Try.underlying234 sz_22 rfl rfl (by omega)) (Nb rfl) ?_
        refine LOps.detG rfl rfl (KL rfl (by repeat (first | exact Mh _ | apply Mt)) (KP Try.underlying22 rfl (by exact Kn _ _ _ (show at_ + nw m - 2 < 19 by omega)))) (Nb rfl) ?_
        refine Kg rfl rfl (KH rfl rfl (br_leq)) (Nb rfl) ?_
        refine Kg rfl rfl (Km rfl rfl) (Nb rfl) ?_
        refine KA (KAL rfl rfl) (Nb rfl) ?_
        refine KG ?_
        first | refine KU rfl (fun h96 => ?_) (fun h96 => ?_) | refine KX rfl (fun h96 => ?_) (fun h96 => ?_)
        ·
          refine KE (KB ?_)
          refine KA (KD rfl) (Nb rfl) ?_
          refine KA (KF rfl) (Nb rfl) ?_
          refine KG (KQ ?_)
          refine ⟨[_], .cons rfl .nil, fun a w' hr => ⟨x.1, ?_, rfl, hr.fr.below⟩⟩
          exact ⟨hx3, hx2⟩
        ·
          have h96 : ¬ x.1 * limb (dnm m) (nw m - 2) % 18446744073709551616 ≤ limb U (at_ + nw m - 2) := h96
          have hq := guess_step hm0 (by omega) hx1 (by rw [← prod_parts (x.1 * limb (dnm m) (nw m - 2))]; exact two_le (Nat.mod_lt _ (by decide)) (limb_lt _ _) (.inr ⟨h9, by omega⟩))
          have hq0 := Nat.lt_of_le_of_lt (Nat.zero_le _) hq
          refine Ke ?_
          refine KE (KB ?_)
          refine KA (KD rfl) (Nb rfl) ?_
          refine KA (KT (KH rfl rfl (br_sub64 (b := 1) (by decide))) (vi (b := x.1 - 1) (by omega))) (Nb rfl) ?_
          refine KA (KF rfl) (Nb rfl) ?_
          refine KG ?_
          refine KE (KB ?_)
          refine KA (KD rfl) (Nb rfl) ?_
          refine KA (KD rfl) (Nb rfl) ?_
          refine KA (KH rfl rfl (KAa)) (Nb rfl) ?_
          refine KA (KF rfl) (Nb rfl) ?_
          refine KG ?_
          refine KE ?_
          refine KE (KB ?_)
          refine KA (KD rfl) (Nb rfl) ?_
          refine KA (KD rfl) (Nb rfl) ?_
          refine KA (KH rfl rfl (br_lss)) (Nb rfl) ?_
          refine KG ?_
          first | refine KU rfl (fun h105 => ?_) (fun h105 => ?_) | refine KX rfl (fun h105 => ?_) (fun h105 => ?_)
          ·
            have h105 : (x.2 + limb (dnm m) (nw m - 1)) % 18446744073709551616 < x.2 := h105
            refine KE (KB ?_)
            refine KA (KD rfl) (Nb rfl) ?_
            refine KA (KF rfl) (Nb rfl) ?_
            refine KG (KQ ?_)
            refine ⟨[_], .cons rfl .nil, fun a w' hr => ⟨x.1 - 1, ?_, rfl, hr.fr.below⟩⟩
            exact ⟨by omega, Nat.le_sub_one_of_lt hq⟩
          ·
            have h105 : ¬ (x.2 + limb (dnm m) (nw m - 1)) % 18446744073709551616 < x.2 := h105
            refine Ke ?_
            refine KB ?_
            refine KA (KD rfl) (Nb rfl) ?_
            refine KA (KF rfl) (Nb rfl) ?_
            refine KG ?_
            refine ⟨(x.1 - 1, x.2 + limb (dnm m) (nw m - 1)), ⟨guess_next (d2 := 0) (u := 0) hx1 hq0, Nat.le_sub_one_of_lt hq, by dsimp only; omega, by dsimp only; omega⟩, by dsimp only; omega, KAE ⟨rfl, rfl, rfl, rfl, rfl, congrArg some (vi (by dsimp only; omega)), trivial⟩ (by repeat (first | exact Sel.nil _ | refine Sel.cons (by repeat (first | exact Ph _ | apply Pt_)) ?_))⟩
      ·
        refine KB ?_
        refine KA (KD rfl) (Nb rfl) ?_
        refine KA (KD rfl) (Nb rfl) ?_
        refine KA (KH rfl rfl (br_f br_lss (by omega))) (Nb rfl) ?_
        refine KA (KD rfl) (Nb rfl) ?_
        refine Kg rfl rfl (KD rfl) (Nb rfl) ?_
        refine Kg rfl rfl (KD rfl) (Nb rfl) ?_
        refine Kg rfl rfl (KH rfl rfl (br_f br_eql (by omega))) (Nb rfl) ?_
        refine Kg rfl rfl (KD rfl) (Nb rfl) ?_
        refine Kr rfl rfl rfl (Nb rfl) ?_
        refine Kr rfl rfl rfl (Nb rfl) ?_
        refine Kr rfl rfl rfl (Nb rfl) ?_
        refine Kr rfl rfl rfl (Nb rfl) ?_
        refine Kr rfl rfl rfl (Nb rfl) ?_
        refine Kr rfl rfl rfl (Nb rfl) ?_
        refine Kr rfl rfl rfl (Nb rfl) ?_
        refine Kr rfl rfl rfl (Nb rfl) ?_
        refine Kr rfl rfl rfl (Nb rfl) ?_
        refine Kr rfl rfl rfl (Nb rfl) ?_
        refine Kr rfl rfl rfl (Nb rfl) ?_
        refine Kr rfl rfl rfl (Nb rfl) ?_
        refine Kg rfl rfl (KAL rfl rfl) (Nb rfl) ?_
        refine KA (KAL rfl rfl) (Nb rfl) ?_
        refine KG ?_
        have hq := guess_step hm0 (by omega) hx1 (by rw [← prod_parts (x.1 * limb (dnm m) (nw m - 2))]; exact two_le (Nat.mod_lt _ (by decide)) (limb_lt _ _) (.inl h9))
        have hq0 := Nat.lt_of_le_of_lt (Nat.zero_le _) hq
        refine Ku rfl ?_
        refine Ke ?_
        refine KE (KB ?_)
        refine KA (KD rfl) (Nb rfl) ?_
        refine KA (KT (KH rfl rfl (br_sub64 (b := 1) (by decide))) (vi (b := x.1 - 1) (by omega))) (Nb rfl) ?_
        refine KA (KF rfl) (Nb rfl) ?_
        refine KG ?_
        refine KE (KB ?_)
        refine KA (KD rfl) (Nb rfl) ?_
        refine KA (KD rfl) (Nb rfl) ?_
        refine KA (KH rfl rfl (KAa)) (Nb rfl) ?_
        refine KA (KF rfl) (Nb rfl) ?_
        refine KG ?_
        refine KE ?_
        refine KE (KB ?_)
        refine KA (KD rfl) (Nb rfl) ?_
        refine KA (KD rfl) (Nb rfl) ?_
        refine KA (KH rfl rfl (br_lss)) (Nb rfl) ?_
        refine KG ?_
        first | refine KU rfl (fun h105 => ?_) (fun h105 => ?_) | refine KX rfl (fun h105 => ?_) (fun h105 => ?_)
        ·
          have h105 : (x.2 + limb (dnm m) (nw m - 1)) % 18446744073709551616 < x.2 := h105
          refine KE (KB ?_)
          refine KA (KD rfl) (Nb rfl) ?_
          refine KA (KF rfl) (Nb rfl) ?_
          refine KG (KQ ?_)
          refine ⟨[_], .cons rfl .nil, fun a w' hr => ⟨x.1 - 1, ?_, rfl, hr.fr.below⟩⟩
          exact ⟨by omega, Nat.le_sub_one_of_lt hq⟩
        ·
          have h105 : ¬ (x.2 + limb (dnm m) (nw m - 1)) % 18446744073709551616 < x.2 := h105
          refine Ke ?_
          refine KB ?_
          refine KA (KD rfl) (Nb rfl) ?_
          refine KA (KF rfl) (Nb rfl) ?_
          refine KG ?_
          refine ⟨(x.1 - 1, x.2 + limb (dnm m) (nw m - 1)), ⟨guess_next (d2 := 0) (u := 0) hx1 hq0, Nat.le_sub_one_of_lt hq, by dsimp only; omega, by dsimp only; omega⟩, by dsimp only; omega, KAE ⟨rfl, rfl, rfl, rfl, rfl, congrArg some (vi (by dsimp only; omega)), trivial⟩ (by repeat (first | exact Sel.nil _ | refine Sel.cons (by repeat (first | exact Ph _ | apply Pt_)) ?_))⟩
end Go.Proofs.Ytljblbgogjieaaa
set_option linter.unusedVariables false
set_option linter.unusedSimpArgs false
set_option maxRecDepth 20000
namespace Go.Proofs.Ytljblbgogjieaaa
open Go Go.RowKit
theorem take_pre {U q D a : Nat} : U + q * (D % 2 ^ (64 * 0)) * 2 ^ (64 * a) = U + (0 + 0) * 2 ^ (64 * (a + 0)) := by
  rw [Nat.mul_zero, Nat.pow_zero, Nat.mod_one, Nat.mul_zero, Nat.zero_mul, Nat.zero_mul]
theorem back_pre {U D a : Nat} : U + 0 * 2 ^ (64 * (a + 0)) = U + (D % 2 ^ (64 * 0)) * 2 ^ (64 * a) := by
  rw [Nat.mul_zero, Nat.pow_zero, Nat.mod_one, Nat.zero_mul, Nat.zero_mul]
theorem c_take (m U bd bu at_ q : Nat) (hq : q < 18446744073709551616) (w : World) (hbd : (Item.blk bd ⟨false, dvL m, 241, (0, 0)⟩).holds w) (hbu : (Item.blk bu ⟨true, vec .u64 19 (limb U), 243, (0, 0)⟩).holds w) (hne : bd ≠ bu) (hm : m < W9) (hat : at_ + nw m < 19) (hU : U < 2 ^ (64 * (at_ + nw m + 1))) : Calls Try.prog 195 ([.pointer (some ⟨bd, 0, none⟩), .slice (some ⟨bu, 0, none⟩) 19 19, .int .i64 ((at_ : Nat) : Int), .int .u64 ((q : Nat) : Int)] : List Value).toArray w (fun e w' => ∃ v cs', (∃ U' bw, bw ≤ 1 ∧ U' < 2 ^ (64 * (at_ + nw m + 1)) ∧ U' + q * dnm m * 2 ^ (64 * at_) = U + bw * 2 ^ (64 * (at_ + nw m + 1)) ∧ v = .bool (decide (bw = 1)) ∧ cs' = vec .u64 19 (limb U')) ∧ e = .returned v ∧ (Item.blk bu ⟨true, cs', 243, (0, 0)⟩).holds w' ∧ Fr (fun k => k = bu) w w') := by
  refine calls_w1 (N := 85) (rs := [.tmp 8]) bu (vec .u64 19 (limb U)) 243 (0, 0) [.blk bd ⟨false, dvL m, 241, (0, 0)⟩] Try.func195 rfl Try.ntmps195 Try.results195 (Nb rfl) hbu ⟨hbd, trivial⟩ rfl (by intro x hx; simp at hx; subst hx; simp [Item.fp]; exact fun e => hne e.symm) ?_
  show LCode _ _ _ ⟨_, _⟩ _
  refine KE ?_
  have hn9 := nw_w9 hm
  refine KB ?_
  refine KA (KF rfl) (Nb rfl) ?_
  refine KG ?_
  refine KE (KB ?_)
  refine KA (KF (v := .int .u64 ((0 : Nat) : Int)) rfl) (Nb rfl) ?_
  refine KA (KF (v := .int .u64 ((0 : Nat) : Int)) rfl) (Nb rfl) ?_
  refine KG ?_
  refine KE ?_
  refine KE (KB ?_)
  refine KA (KD rfl) (Nb rfl) ?_
  refine KA (KW rfl) (Nb rfl) ?_
  refine KA (KI (o' := 9) Try.underlying241 rfl rfl rfl sz_3 (by decide)) (Nb rfl) ?_
  refine LOps.det (KL rfl (by repeat (first | exact Mh _ | apply Mt)) (KP Try.underlying3 rfl (dvL_n _))) (Nb rfl) ?_
  refine KA (KD (v := .int .i64 ((0 : Nat) : Int)) rfl) (Nb rfl) ?_
  refine KG ?_
  refine LCode.block ?_
  refine KAH (α := Nat × Nat × Nat × Nat) (fun x => x.1 ≤ nw m ∧ x.2.2.1 ≤ 1 ∧ x.2.2.2 < 18446744073709551616 ∧ x.2.1 < 2 ^ (64 * (at_ + nw m + 1)) ∧ x.2.1 + q * (dnm m % 2 ^ (64 * x.1)) * 2 ^ (64 * at_) = U + (x.2.2.1 + x.2.2.2) * 2 ^ (64 * (at_ + x.1))) (fun x => ⟨[(0, .pointer (some ⟨bd, 0, none⟩)), (1, .slice (some ⟨bu, 0, none⟩) 19 19), (2, .int .i64 ((at_ : Nat) : Int)), (3, .int .u64 ((q : Nat) : Int)), (9, .int .u64 ((x.2.2.1 : Nat) : Int)), (10, .int .u64 ((x.2.2.2 : Nat) : Int)), (18, .int .i64 ((nw m : Nat) : Int)), (19, .int .i64 ((x.1 : Nat) : Int))], [.blk bu ⟨true, vec .u64 19 (limb x.2.1), 243, (0, 0)⟩, .blk bd ⟨false, dvL m, 241, (0, 0)⟩]⟩) (fun x => nw m - x.1) ((0, U, 0, 0)) (⟨Nat.zero_le _, Nat.zero_le _, show (0 : Nat) < 18446744073709551616 by decide, hU, take_pre⟩) (KAE ⟨rfl, rfl, rfl, rfl, rfl, rfl, rfl, rfl, trivial⟩ (by repeat (first | exact Sel.nil _ | refine Sel.cons (by repeat (first | exact Ph _ | apply Pt_)) ?_))) ?_
  intro x ⟨hx1, hx2, hx3, hx4, hx5⟩
  refine KE (KB ?_)
  refine KA (KH rfl rfl (br_lss)) (Nb rfl) ?_
  refine KG ?_
  refine KE ?_
  first | refine KU rfl (fun h20 => ?_) (fun h20 => ?_) | refine KX rfl (fun h20 => ?_) (fun h20 => ?_)
  ·
    have h20 : x.1 < nw m := h20
    refine Ke ?_
    refine KE ?_
    refine LCode.block ?_
    refine KE (KB ?_)
    refine KA (KD rfl) (Nb rfl) ?_
    refine KA (KF rfl) (Nb rfl) ?_
    refine KG ?_
    refine KE (KB ?_)
    refine KA (KD rfl) (Nb rfl) ?_
    refine KA (KD rfl) (Nb rfl) ?_
    refine KA (KD rfl) (Nb rfl) ?_
    refine KA (KW rfl) (Nb rfl) ?_
    refine KA (KI (o' := 0) Try.underlying241 rfl rfl rfl sz_23 (by decide)) (Nb rfl) ?_
    refine KA (Kx Try.underlying23 sz_22 rfl rfl (by omega)) (Nb rfl) ?_
    refine LOps.det (KL rfl (by repeat (first | exact Mh _ | apply Mt)) (KP Try.underlying22 rfl (by exact dvL_m _ (show x.1 < 9 by omega)))) (Nb rfl) ?_
    refine KK rfl (KY (KO (first := []) rfl en_193 rfl (Nb rfl) (fun w hw => c_Mul64 _ _ hq (limb_lt _ _) w) ?_))
    refine KA (KD rfl) (Nb rfl) ?_
    refine KA (Kt rfl rfl) (Nb rfl) ?_
    refine KA (Kt rfl rfl) (Nb rfl) ?_
    refine KA (KF rfl) (Nb rfl) ?_
    refine KA (KF rfl) (Nb rfl) ?_
    refine KG ?_
    refine KE (KB ?_)
    refine KA (KF (v := .int .u64 ((0 : Nat) : Int)) rfl) (Nb rfl) ?_
    refine KG ?_
    refine KE (KB ?_)
    refine KA (KD rfl) (Nb rfl) ?_
    refine KA (KD rfl) (Nb rfl) ?_
    refine KA (Det.add64 (c := 0) ex_184 rfl rfl rfl (by omega)) (Nb rfl) ?_
    refine KA (KD rfl) (Nb rfl) ?_
    refine KA (Kt rfl rfl) (Nb rfl) ?_
    refine KA (Kt rfl rfl) (Nb rfl) ?_
    refine KA (KF rfl) (Nb rfl) ?_
    refine KA (KF rfl) (Nb rfl) ?_
    refine KG ?_
    refine KE (KB ?_)
    refine KA (KD rfl) (Nb rfl) ?_
    refine KA (KD rfl) (Nb rfl) ?_
    refine KA (KH rfl rfl (KAa)) (Nb rfl) ?_
    refine KA (KF rfl) (Nb rfl) ?_
    refine KG ?_
    refine KB ?_
    refine KA (KD rfl) (Nb rfl) ?_
    refine KA (KD rfl) (Nb rfl) ?_
    refine KA (KD rfl) (Nb rfl) ?_
    refine KA (KH rfl rfl (KAG (by omega))) (Nb rfl) ?_
    refine KA (KD rfl) (Nb rfl) ?_
    refine KA (KD rfl) (Nb rfl) ?_
    refine KA (KD rfl) (Nb rfl) ?_
    refine KA (KH rfl rfl (KAG (by omega))) (Nb rfl) ?_
    refine KA (Kv Try.underlying234 sz_22 rfl rfl (by omega)) (Nb rfl) ?_
    refine LOps.det (KL rfl (by repeat (first | exact Mh _ | apply Mt)) (KP Try.underlying22 rfl (by exact Kn _ _ _ (show at_ + x.1 < 19 by omega)))) (Nb rfl) ?_
    refine KA (KD rfl) (Nb rfl) ?_
    refine KA (KD rfl) (Nb rfl) ?_
    refine KA (Det.sub64 ex_171 rfl rfl rfl (by omega)) (Nb rfl) ?_
    refine KA (KD rfl) (Nb rfl) ?_
    refine KA (Kt rfl rfl) (Nb rfl) ?_
    refine KA (Kt rfl rfl) (Nb rfl) ?_
    refine KA (Kv Try.underlying234 sz_22 rfl rfl (by omega)) (Nb rfl) ?_
    refine KK rfl (Kw rfl rfl rfl sz_22 (by repeat (first | exact Sh _ | apply St_)) (by first | (simp only [KM, KJ, KN, KAI]; omega) | (simp; omega)) (by first | exact KAX _ _ _ _ _ | exact KAb _ _ _ _ (by omega) | exact KAZ _ _ _ _ | rfl) (by simp) ?_)
    refine KA (KF rfl) (Nb rfl) ?_
    refine KG ?_
    refine KB ?_
    refine KA (KH rfl rfl (KAG (b := 1) (by omega))) (Nb rfl) ?_
    refine KA (KD rfl) (Nb rfl) ?_
    refine KG ?_
    have hw := mul_word hq (limb_lt (dnm m) x.1) hx3
    have hp := mul_parts hx3 hw
    refine ⟨(x.1 + 1, setl x.2.1 (at_ + x.1) ((limb x.2.1 (at_ + x.1) + 18446744073709551616 - (q * limb (dnm m) x.1 + x.2.2.2) % 18446744073709551616 - x.2.2.1) % 18446744073709551616), (if limb x.2.1 (at_ + x.1) < (q * limb (dnm m) x.1 + x.2.2.2) % 18446744073709551616 + x.2.2.1 then 1 else 0), (q * limb (dnm m) x.1 + x.2.2.2) / 18446744073709551616), ⟨by dsimp only; omega, by dsimp only; split <;> omega, by dsimp only; omega, setl_lt hx4 (by omega) (Nat.mod_lt _ (by decide)), take_step hx5 rfl (sub_word (limb_lt _ _) (Nat.mod_lt _ (by decide)) hx2)⟩, by dsimp only; omega,
      KAi (Sub.cells (b := bu) (cs' := vec .u64 19 (limb (setl x.2.1 (at_ + x.1) ((limb x.2.1 (at_ + x.1) + 18446744073709551616 - (q * limb (dnm m) x.1 + x.2.2.2) % 18446744073709551616 - x.2.2.1) % 18446744073709551616)))) (by repeat (first | exact Sh _ | apply St_)) ?_) (KAE ⟨rfl, rfl, rfl, rfl, congrArg some (vi (by dsimp only; rw [hp.1])), congrArg some (vi hp.2), rfl, rfl, trivial⟩ (by repeat (first | exact Sel.nil _ | refine Sel.cons (by repeat (first | exact Ph _ | apply Pt_)) ?_)))⟩
    rw [hp.1]
    exact vec_setl (Nat.mod_lt _ (by decide))
  ·
    have h20 : ¬ x.1 < nw m := h20
    have he : x.1 = nw m := by omega
    rw [he] at hx5
    refine KAC ?_
    refine KE ?_
    refine Kc [23] (by kernel_rfl) ?_
    refine KC 0 rfl (by kernel_rfl) (Nb rfl) (KD rfl) ?_
    refine KC 1 rfl (by kernel_rfl) (Nb rfl) (KD rfl) ?_
    refine KC 2 rfl (by kernel_rfl) (Nb rfl) (KD rfl) ?_
    refine KC 3 rfl (by kernel_rfl) (Nb rfl) (KW rfl) ?_
    refine KC 4 rfl (by kernel_rfl) (Nb rfl) (KI (o' := 9) Try.underlying241 rfl rfl rfl sz_3 (by decide)) ?_
    refine LAny.take 5 rfl (by kernel_rfl) (Nb rfl) (KL rfl (by repeat (first | exact Mh _ | apply Mt)) (KP Try.underlying3 rfl (dvL_n _))) ?_
    refine KC 6 rfl (by kernel_rfl) (Nb rfl) (KH rfl rfl (KAG (by omega))) ?_
    refine KC 7 rfl (by kernel_rfl) (Nb rfl) (KD rfl) ?_
    refine KC 8 rfl (by kernel_rfl) (Nb rfl) (KD rfl) ?_
    refine KC 9 rfl (by kernel_rfl) (Nb rfl) (KD rfl) ?_
    refine KC 10 rfl (by kernel_rfl) (Nb rfl) (KW rfl) ?_
    refine KC 11 rfl (by kernel_rfl) (Nb rfl) (KI (o' := 9) Try.underlying241 rfl rfl rfl sz_3 (by decide)) ?_
    refine LAny.take 12 rfl (by kernel_rfl) (Nb rfl) (KL rfl (by repeat (first | exact Mh _ | apply Mt)) (KP Try.underlying3 rfl (dvL_n _))) ?_
    refine KC 13 rfl (by kernel_rfl) (Nb rfl) (KH rfl rfl (KAG (by omega))) ?_
    refine KC 14 rfl (by kernel_rfl) (Nb rfl) (Kv Try.underlying234 sz_22 rfl rfl (by omega)) ?_
    refine LAny.take 15 rfl (by kernel_rfl) (Nb rfl) (KL rfl (by repeat (first | exact Mh _ | apply Mt)) (KP Try.underlying22 rfl (by exact Kn _ _ _ (show at_ + nw m < 19 by omega)))) ?_
    refine KC 16 rfl (by kernel_rfl) (Nb rfl) (KD rfl) ?_
    refine KC 17 rfl (by kernel_rfl) (Nb rfl) (KD rfl) ?_
    refine KC 18 rfl (by kernel_rfl) (Nb rfl) (Det.sub64 ex_171 rfl rfl rfl (by omega)) ?_
    refine KC 19 rfl (by kernel_rfl) (Nb rfl) (KD rfl) ?_
    refine KC 20 rfl (by kernel_rfl) (Nb rfl) (Kt rfl rfl) ?_
    refine KC 21 rfl (by kernel_rfl) (Nb rfl) (Kt rfl rfl) ?_
    refine KC 22 rfl (by kernel_rfl) (Nb rfl) (Kv Try.underlying234 sz_22 rfl rfl (by omega)) ?_
    refine KAA 23 rfl rfl (by kernel_rfl) (by kernel_rfl) (Kw rfl rfl rfl sz_22 (by repeat (first | exact Sh _ | apply St_)) (by first | (simp only [KM, KJ, KN, KAI]; omega) | (simp; omega)) (by first | exact KAX _ _ _ _ _ | exact KAb _ _ _ _ (by omega) | exact KAZ _ _ _ _ | rfl) (by simp) ?_)
    refine KC 24 rfl (by kernel_rfl) (Nb rfl) (KF rfl) ?_
    refine Kj (by kernel_rfl) ?_
    refine KE (KB ?_)
    refine KA (KD rfl) (Nb rfl) ?_
    refine KA (KH rfl rfl (br_eql (b := 1))) (Nb rfl) ?_
    refine KA (KF rfl) (Nb rfl) ?_
    refine KG (KQ ?_)
    refine ⟨[_], .cons rfl .nil, fun a w' hr => ⟨_, _, ⟨setl x.2.1 (at_ + nw m) ((limb x.2.1 (at_ + nw m) + 18446744073709551616 - x.2.2.2 - x.2.2.1) % 18446744073709551616), (if limb x.2.1 (at_ + nw m) < x.2.2.2 + x.2.2.1 then 1 else 0), by split <;> omega, setl_lt hx4 (by omega) (Nat.mod_lt _ (by decide)), take_last (dnm_lt m) hx5 (sub_word (limb_lt _ _) hx3 hx2), rfl, vec_setl (Nat.mod_lt _ (by decide))⟩, rfl, hr.hp _ (by repeat (first | exact Mh _ | apply Mt)), hr.fr⟩⟩
theorem c_back (m U bd bu at_ : Nat) (w : World) (hbd : (Item.blk bd ⟨false, dvL m, 241, (0, 0)⟩).holds w) (hbu : (Item.blk bu ⟨true, vec .u64 19 (limb U), 243, (0, 0)⟩).holds w) (hne : bd ≠ bu) (hm : m < W9) (hat : at_ + nw m < 19) (hU : U < 2 ^ (64 * (at_ + nw m + 1))) : Calls Try.prog 196 ([.pointer (some ⟨bd, 0, none⟩), .slice (some ⟨bu, 0, none⟩) 19 19, .int .i64 ((at_ : Nat) : Int)] : List Value).toArray w (fun e w' => ∃ v cs', (∃ U' c, c ≤ 1 ∧ U' < 2 ^ (64 * (at_ + nw m + 1)) ∧ U' + c * 2 ^ (64 * (at_ + (nw m + 1))) = U + dnm m * 2 ^ (64 * at_) ∧ v = .bool (decide (c = 1)) ∧ cs' = vec .u64 19 (limb U')) ∧ e = .returned v ∧ (Item.blk bu ⟨true, cs', 243, (0, 0)⟩).holds w' ∧ Fr (fun k => k = bu) w w') := by
  refine calls_w1 (N := 63) (rs := [.tmp 6]) bu (vec .u64 19 (limb U)) 243 (0, 0) [.blk bd ⟨false, dvL m, 241, (0, 0)⟩] Try.func196 rfl Try.ntmps196 Try.results196 (Nb rfl) hbu ⟨hbd, trivial⟩ rfl (by intro x hx; simp at hx; subst hx; simp [Item.fp]; exact fun e => hne e.symm) ?_
  show LCode _ _ _ ⟨_, _⟩ _
  refine KE ?_
  have hn9 := nw_w9 hm
  refine KB ?_
  refine KA (KF rfl) (Nb rfl) ?_
  refine KG ?_
  refine KE (KB ?_)
  refine KA (KF (v := .int .u64 ((0 : Nat) : Int)) rfl) (Nb rfl) ?_
  refine KG ?_
  refine KE ?_
  refine KE (KB ?_)
  refine KA (KD rfl) (Nb rfl) ?_
  refine KA (KW rfl) (Nb rfl) ?_
  refine KA (KI (o' := 9) Try.underlying241 rfl rfl rfl sz_3 (by decide)) (Nb rfl) ?_
  refine LOps.det (KL rfl (by repeat (first | exact Mh _ | apply Mt)) (KP Try.underlying3 rfl (dvL_n _))) (Nb rfl) ?_
  refine KA (KD (v := .int .i64 ((0 : Nat) : Int)) rfl) (Nb rfl) ?_
  refine KG ?_
  refine LCode.block ?_
  refine KAH (α := Nat × Nat × Nat) (fun x => x.1 ≤ nw m ∧ x.2.2 ≤ 1 ∧ x.2.1 < 2 ^ (64 * (at_ + nw m + 1)) ∧ x.2.1 + x.2.2 * 2 ^ (64 * (at_ + x.1)) = U + (dnm m % 2 ^ (64 * x.1)) * 2 ^ (64 * at_)) (fun x => ⟨[(0, .pointer (some ⟨bd, 0, none⟩)), (1, .slice (some ⟨bu, 0, none⟩) 19 19), (2, .int .i64 ((at_ : Nat) : Int)), (7, .int .u64 ((x.2.2 : Nat) : Int)), (12, .int .i64 ((nw m : Nat) : Int)), (13, .int .i64 ((x.1 : Nat) : Int))], [.blk bu ⟨true, vec .u64 19 (limb x.2.1), 243, (0, 0)⟩, .blk bd ⟨false, dvL m, 241, (0, 0)⟩]⟩) (fun x => nw m - x.1) ((0, U, 0)) (⟨Nat.zero_le _, Nat.zero_le _, hU, back_pre⟩) (KAE ⟨rfl, rfl, rfl, rfl, rfl, rfl, trivial⟩ (by repeat (first | exact Sel.nil _ | refine Sel.cons (by repeat (first | exact Ph _ | apply Pt_)) ?_))) ?_
  intro x ⟨hx1, hx2, hx4, hx5⟩
  refine KE (KB ?_)
  refine KA (KH rfl rfl (br_lss)) (Nb rfl) ?_
  refine KG ?_
  refine KE ?_
  first | refine KU rfl (fun h20 => ?_) (fun h20 => ?_) | refine KX rfl (fun h20 => ?_) (fun h20 => ?_)
  ·
    have h20 : x.1 < nw m := h20
    refine Ke ?_
    refine KE ?_
    refine LCode.block ?_
    refine KE (KB ?_)
    refine KA (KD rfl) (Nb rfl) ?_
    refine KA (KF rfl) (Nb rfl) ?_
    refine KG ?_
    refine Kc [22] (by kernel_rfl) ?_
    refine KC 0 rfl (by kernel_rfl) (Nb rfl) (KD rfl) ?_
    refine KC 1 rfl (by kernel_rfl) (Nb rfl) (KD rfl) ?_
    refine KC 2 rfl (by kernel_rfl) (Nb rfl) (KD rfl) ?_
    refine KC 3 rfl (by kernel_rfl) (Nb rfl) (KH rfl rfl (KAG (by omega))) ?_
    refine KC 4 rfl (by kernel_rfl) (Nb rfl) (KD rfl) ?_
    refine KC 5 rfl (by kernel_rfl) (Nb rfl) (KD rfl) ?_
    refine KC 6 rfl (by kernel_rfl) (Nb rfl) (KD rfl) ?_
    refine KC 7 rfl (by kernel_rfl) (Nb rfl) (KH rfl rfl (KAG (by omega))) ?_
    refine KC 8 rfl (by kernel_rfl) (Nb rfl) (Kv Try.underlying234 sz_22 rfl rfl (by omega)) ?_
    refine LAny.take 9 rfl (by kernel_rfl) (Nb rfl) (KL rfl (by repeat (first | exact Mh _ | apply Mt)) (KP Try.underlying22 rfl (by exact Kn _ _ _ (show at_ + x.1 < 19 by omega)))) ?_
    refine KC 10 rfl (by kernel_rfl) (Nb rfl) (KD rfl) ?_
    refine KC 11 rfl (by kernel_rfl) (Nb rfl) (KD rfl) ?_
    refine KC 12 rfl (by kernel_rfl) (Nb rfl) (KW rfl) ?_
    refine KC 13 rfl (by kernel_rfl) (Nb rfl) (KI (o' := 0) Try.underlying241 rfl rfl rfl sz_23 (by decide)) ?_
    refine KC 14 rfl (by kernel_rfl) (Nb rfl) (Kx Try.underlying23 sz_22 rfl rfl (by omega)) ?_
    refine LAny.take 15 rfl (by kernel_rfl) (Nb rfl) (KL rfl (by repeat (first | exact Mh _ | apply Mt)) (KP Try.underlying22 rfl (by exact dvL_m _ (show x.1 < 9 by omega)))) ?_
    refine KC 16 rfl (by kernel_rfl) (Nb rfl) (KD rfl) ?_
    refine KC 17 rfl (by kernel_rfl) (Nb rfl) (Det.add64 ex_184 rfl rfl rfl (by omega)) ?_
    refine KC 18 rfl (by kernel_rfl) (Nb rfl) (KD rfl) ?_
    refine KC 19 rfl (by kernel_rfl) (Nb rfl) (Kt rfl rfl) ?_
    refine KC 20 rfl (by kernel_rfl) (Nb rfl) (Kt rfl rfl) ?_
    refine KC 21 rfl (by kernel_rfl) (Nb rfl) (Kv Try.underlying234 sz_22 rfl rfl (by omega)) ?_
    refine KAA 22 rfl rfl (by kernel_rfl) (by kernel_rfl) (Kw rfl rfl rfl sz_22 (by repeat (first | exact Sh _ | apply St_)) (by first | (simp only [KM, KJ, KN, KAI]; omega) | (simp; omega)) (by first | exact KAX _ _ _ _ _ | exact KAb _ _ _ _ (by omega) | exact KAZ _ _ _ _ | rfl) (by simp) ?_)
    refine KC 23 rfl (by kernel_rfl) (Nb rfl) (KF rfl) ?_
    refine Kj (by kernel_rfl) ?_
    refine KB ?_
    refine KA (KH rfl rfl (KAG (b := 1) (by omega))) (Nb rfl) ?_
    refine KA (KD rfl) (Nb rfl) ?_
    refine KG ?_
    refine ⟨(x.1 + 1, setl x.2.1 (at_ + x.1) ((limb x.2.1 (at_ + x.1) + limb (dnm m) x.1 + x.2.2) % 18446744073709551616), (limb x.2.1 (at_ + x.1) + limb (dnm m) x.1 + x.2.2) / 18446744073709551616), ⟨by dsimp only; omega, add_carry (limb_lt _ _) (limb_lt _ _) hx2, setl_lt hx4 (by omega) (Nat.mod_lt _ (by decide)), back_step hx5 add_word⟩, by dsimp only; omega,
      KAi (Sub.cells (b := bu) (cs' := vec .u64 19 (limb (setl x.2.1 (at_ + x.1) ((limb x.2.1 (at_ + x.1) + limb (dnm m) x.1 + x.2.2) % 18446744073709551616)))) (by repeat (first | exact Sh _ | apply St_)) (vec_setl (Nat.mod_lt _ (by decide)))) (KAE ⟨rfl, rfl, rfl, rfl, rfl, rfl, trivial⟩ (by repeat (first | exact Sel.nil _ | refine Sel.cons (by repeat (first | exact Ph _ | apply Pt_)) ?_)))⟩
  ·
    have h20 : ¬ x.1 < nw m := h20
    have he : x.1 = nw m := by omega
    rw [he] at hx5
    refine KAC ?_
    refine KE ?_
    refine Kc [22] (by kernel_rfl) ?_
    refine KC 0 rfl (by kernel_rfl) (Nb rfl) (KD rfl) ?_
    refine KC 1 rfl (by kernel_rfl) (Nb rfl) (KD rfl) ?_
    refine KC 2 rfl (by kernel_rfl) (Nb rfl) (KD rfl) ?_
    refine KC 3 rfl (by kernel_rfl) (Nb rfl) (KW rfl) ?_
    refine KC 4 rfl (by kernel_rfl) (Nb rfl) (KI (o' := 9) Try.underlying241 rfl rfl rfl sz_3 (by decide)) ?_
    refine LAny.take 5 rfl (by kernel_rfl) (Nb rfl) (KL rfl (by repeat (first | exact Mh _ | apply Mt)) (KP Try.underlying3 rfl (dvL_n _))) ?_
    refine KC 6 rfl (by kernel_rfl) (Nb rfl) (KH rfl rfl (KAG (by omega))) ?_
    refine KC 7 rfl (by kernel_rfl) (Nb rfl) (KD rfl) ?_
    refine KC 8 rfl (by kernel_rfl) (Nb rfl) (KD rfl) ?_
    refine KC 9 rfl (by kernel_rfl) (Nb rfl) (KD rfl) ?_
    refine KC 10 rfl (by kernel_rfl) (Nb rfl) (KW rfl) ?_
    refine KC 11 rfl (by kernel_rfl) (Nb rfl) (KI (o' := 9) Try.underlying241 rfl rfl rfl sz_3 (by decide)) ?_
    refine LAny.take 12 rfl (by kernel_rfl) (Nb rfl) (KL rfl (by repeat (first | exact Mh _ | apply Mt)) (KP Try.underlying3 rfl (dvL_n _))) ?_
    refine KC 13 rfl (by kernel_rfl) (Nb rfl) (KH rfl rfl (KAG (by omega))) ?_
    refine KC 14 rfl (by kernel_rfl) (Nb rfl) (Kv Try.underlying234 sz_22 rfl rfl (by omega)) ?_
    refine LAny.take 15 rfl (by kernel_rfl) (Nb rfl) (KL rfl (by repeat (first | exact Mh _ | apply Mt)) (KP Try.underlying22 rfl (by exact Kn _ _ _ (show at_ + nw m < 19 by omega)))) ?_
    refine KC 16 rfl (by kernel_rfl) (Nb rfl) (KD rfl) ?_
    refine KC 17 rfl (by kernel_rfl) (Nb rfl) (Det.add64 (j := 0) ex_184 rfl rfl rfl (by omega)) ?_
    refine KC 18 rfl (by kernel_rfl) (Nb rfl) (KD rfl) ?_
    refine KC 19 rfl (by kernel_rfl) (Nb rfl) (Kt rfl rfl) ?_
    refine KC 20 rfl (by kernel_rfl) (Nb rfl) (Kt rfl rfl) ?_
    refine KC 21 rfl (by kernel_rfl) (Nb rfl) (Kv Try.underlying234 sz_22 rfl rfl (by omega)) ?_
    refine KAA 22 rfl rfl (by kernel_rfl) (by kernel_rfl) (Kw rfl rfl rfl sz_22 (by repeat (first | exact Sh _ | apply St_)) (by first | (simp only [KM, KJ, KN, KAI]; omega) | (simp; omega)) (by first | exact KAX _ _ _ _ _ | exact KAb _ _ _ _ (by omega) | exact KAZ _ _ _ _ | rfl) (by simp) ?_)
    refine KC 23 rfl (by kernel_rfl) (Nb rfl) (KF rfl) ?_
    refine Kj (by kernel_rfl) ?_
    refine KE (KB ?_)
    refine KA (KD rfl) (Nb rfl) ?_
    refine KA (KH rfl rfl (br_eql (b := 1))) (Nb rfl) ?_
    refine KA (KF rfl) (Nb rfl) ?_
    refine KG (KQ ?_)
    have hb := back_step (a := at_) (i := nw m) (D := dnm m) hx5 (lo := (limb x.2.1 (at_ + nw m) + 0 + x.2.2) % 18446744073709551616) (c' := (limb x.2.1 (at_ + nw m) + 0 + x.2.2) / 18446744073709551616) (by rw [limb_high (dnm_lt m) (Nat.le_refl _)]; exact add_word)
    rw [Nat.mod_eq_of_lt (Nat.lt_of_lt_of_le (dnm_lt m) (Nat.pow_le_pow_right (by decide) (by omega)))] at hb
    refine ⟨[_], .cons rfl .nil, fun a w' hr => ⟨_, _, ⟨setl x.2.1 (at_ + nw m) ((limb x.2.1 (at_ + nw m) + 0 + x.2.2) % 18446744073709551616), (limb x.2.1 (at_ + nw m) + 0 + x.2.2) / 18446744073709551616, add_carry (limb_lt _ _) (by decide) hx2, setl_lt hx4 (by omega) (Nat.mod_lt _ (by decide)), hb, rfl, vec_setl (Nat.mod_lt _ (by decide))⟩, rfl, hr.hp _ (by repeat (first | exact Mh _ | apply Mt)), hr.fr⟩⟩
end Go.Proofs.Ytljblbgogjieaaa
set_option linter.unusedVariables false
set_option linter.unusedSimpArgs false
set_option maxRecDepth 20000
namespace Go.Proofs.Ytljblbgogjieaaa
open Go Go.RowKit
theorem fill_zero (W s : Nat) : W % 2 ^ (64 * 0) * 2 ^ s = 0 := by rw [Nat.mul_zero, Nat.pow_zero, Nat.mod_one, Nat.zero_mul]
theorem rest_or {U s i : Nat} (hs : s < 64) : (limb U i / 2 ^ s ||| limb U (i + 1) * 2 ^ (64 - s) % 18446744073709551616) = limb (U / 2 ^ s) i := by
  have := shr_or (A := U) (w := 0) (r := s) (i := i) hs
  rwa [Nat.add_zero, Nat.mul_zero, Nat.zero_add] at this
theorem quo_store {K x y : Nat} (hx : x < 18446744073709551616) (j : Nat) : (if j = y then x else limb (K * 2 ^ (64 * (y + 1))) j) = limb ((K * 18446744073709551616 + x) * 2 ^ (64 * y)) j := by
  have h0 : limb (K * 2 ^ (64 * (y + 1))) y = 0 := by
    unfold limb
    rw [pow64_succ, ← Nat.mul_assoc, Nat.mul_div_cancel _ (pow64_pos y), Nat.mul_mod_left]
  have := limb_addl (K * 2 ^ (64 * (y + 1))) x y j (by rw [h0]; omega)
  rw [h0, Nat.zero_add] at this
  rw [← this, Nat.add_mul, pow64_succ, Nat.mul_assoc]
theorem quo_sum {U U0 K x y D V : Nat} (h1 : U + x * D * 2 ^ (64 * y) = U0) (h2 : U0 + K * 2 ^ (64 * (y + 1)) * D = V) : U + (K * 18446744073709551616 + x) * 2 ^ (64 * y) * D = V := by
  rw [← h2, ← h1, pow64_succ]
  generalize 2 ^ (64 * y) = A
  grind
theorem c_divide (m W bd bw l c : Nat) (tw : TypeId) (ww : Bool) (hm0 : m ≠ 0) (w : World) (hbd : (Item.blk bd ⟨false, dvL m, 241, (0, 0)⟩).holds w) (hbw : (Item.blk bw ⟨ww, vec .u64 c (limb W), tw, (0, 0)⟩).holds w) (hm : m < W9) (hlc : l ≤ c) (hc : c ≤ 18) (hW : W < 2 ^ (64 * l)) : Calls Try.prog 186 ([.pointer (some ⟨bd, 0, none⟩), .slice (some ⟨bw, 0, none⟩) l c] : List Value).toArray w (fun e w' => e = .returned (.tuple #[wideV (W / m), natV (W % m)]) ∧ Below w.heap.size w w') := by
  refine KAB (N := 124) (rs := [.cell 4 230, .cell 5 25]) [.blk bd ⟨false, dvL m, 241, (0, 0)⟩, .blk bw ⟨false, vec .u64 c (limb W), tw, (0, 0)⟩] Try.func186 rfl Try.ntmps186 Try.results186 (Nb rfl) ⟨hbd, hbw, trivial⟩ rfl ?_
  show LCode _ _ _ ⟨_, _⟩ _
  refine KE ?_
  have hn0 := nw_pos hm0
  have hn9 := nw_w9 hm
  have hs64 := dsh_lt hm0
  refine KB ?_
  refine KK rfl (KY (KS (Kp zr_230) (Nb rfl) (fun b4 => ?_)))
  refine KK rfl (KY (KS (Kp zr_25) (Nb rfl) (fun b5 => ?_)))
  refine KG ?_
  refine KE (KB ?_)
  refine KK rfl (KY (KS (Kp zr_243) (Nb rfl) (fun b6 => ?_)))
  refine KG ?_
  refine KE (KB ?_)
  refine KK rfl (KY (KS (Kp zr_230) (Nb rfl) (fun b7 => ?_)))
  refine KG ?_
  refine KE ?_
  refine KE (KB ?_)
  refine KA (KD rfl) (Nb rfl) ?_
  refine KA (KAY Try.underlying234 rfl) (Nb rfl) ?_
  refine KA (KD (v := .int .i64 ((0 : Nat) : Int)) rfl) (Nb rfl) ?_
  refine KG ?_
  refine LCode.block ?_
  refine KAH (α := Nat) (fun x => x ≤ l) (fun x => ⟨[(0, .pointer (some ⟨bd, 0, none⟩)), (1, .slice (some ⟨bw, 0, none⟩) l c), (4, .pointer (some ⟨b4, 0, none⟩)), (5, .pointer (some ⟨b5, 0, none⟩)), (6, .pointer (some ⟨b6, 0, none⟩)), (7, .pointer (some ⟨b7, 0, none⟩)), (15, .slice (some ⟨bw, 0, none⟩) l c), (16, .int .i64 ((l : Nat) : Int)), (17, .int .i64 ((x : Nat) : Int))], [.blk b6 ⟨true, vec .u64 19 (limb (W % 2 ^ (64 * x) * 2 ^ dsh m)), 243, (0, 0)⟩, .blk b7 ⟨true, vec .u64 18 (fun _ => 0), 230, (0, 0)⟩, .blk b5 ⟨true, vec .u64 9 (fun _ => 0), 25, (0, 0)⟩, .blk b4 ⟨true, vec .u64 18 (fun _ => 0), 230, (0, 0)⟩, .blk bd ⟨false, dvL m, 241, (0, 0)⟩, .blk bw ⟨false, vec .u64 c (limb W), tw, (0, 0)⟩]⟩) (fun x => l - x) (0) (Nat.zero_le _) (KAi (Sub.cells (b := b6) (cs' := vec .u64 19 (limb (W % 2 ^ (64 * 0) * 2 ^ dsh m))) (by repeat (first | exact Sh _ | apply St_)) (by rw [fill_zero]; exact vec_zeros 19)) (KAE ⟨rfl, rfl, rfl, rfl, rfl, rfl, rfl, rfl, rfl, trivial⟩ (by repeat (first | exact Sel.nil _ | refine Sel.cons (by repeat (first | exact Ph _ | apply Pt_)) ?_)))) ?_
  intro x hx
  refine KE (KB ?_)
  refine KA (KH rfl rfl (br_lss)) (Nb rfl) ?_
  refine KG ?_
  refine KE ?_
  first | refine KU rfl (fun h18 => ?_) (fun h18 => ?_) | refine KX rfl (fun h18 => ?_) (fun h18 => ?_)
  ·
    have h18 : x < l := h18
    refine Ke ?_
    refine KE ?_
    refine LCode.block ?_
    refine KE (KB ?_)
    refine KA (KD rfl) (Nb rfl) ?_
    refine KA (Kv Try.underlying234 sz_22 rfl rfl (by omega)) (Nb rfl) ?_
    refine LOps.det (KL rfl (by repeat (first | exact Mh _ | apply Mt)) (KP Try.underlying22 rfl (by exact Kn _ _ _ (show x < c by omega)))) (Nb rfl) ?_
    refine KA (KF rfl) (Nb rfl) ?_
    refine KA (KF rfl) (Nb rfl) ?_
    refine KG ?_
    refine KE ?_
    refine Kc [11] (by kernel_rfl) ?_
    refine KC 0 rfl (by kernel_rfl) (Nb rfl) (KD rfl) ?_
    refine KC 1 rfl (by kernel_rfl) (Nb rfl) (Kx Try.underlying243 sz_22 rfl rfl (by omega)) ?_
    refine LAny.take 2 rfl (by kernel_rfl) (Nb rfl) (KL rfl (by repeat (first | exact Mh _ | apply Mt)) (KP Try.underlying22 rfl (by exact Kn _ _ _ (show x < 19 by omega)))) ?_
    refine KC 3 rfl (by kernel_rfl) (Nb rfl) (KD rfl) ?_
    refine KC 4 rfl (by kernel_rfl) (Nb rfl) (KD rfl) ?_
    refine KC 5 rfl (by kernel_rfl) (Nb rfl) (KW rfl) ?_
    refine KC 6 rfl (by kernel_rfl) (Nb rfl) (KI (o' := 10) Try.underlying241 rfl rfl rfl sz_3 (by decide)) ?_
    refine LAny.take 7 rfl (by kernel_rfl) (Nb rfl) (KL rfl (by repeat (first | exact Mh _ | apply Mt)) (KP Try.underlying3 rfl (dvL_s _))) ?_
    refine KC 8 rfl (by kernel_rfl) (Nb rfl) (KH rfl rfl (br_shl64)) ?_
    refine KC 9 rfl (by kernel_rfl) (Nb rfl) (KH rfl rfl (br_or64 (limb_lt _ _) (Nat.mod_lt _ (by decide)))) ?_
    refine KC 10 rfl (by kernel_rfl) (Nb rfl) (Kx Try.underlying243 sz_22 rfl rfl (by omega)) ?_
    refine KAA 11 rfl rfl (by kernel_rfl) (by kernel_rfl) (Kw rfl rfl rfl sz_22 (by repeat (first | exact Sh _ | apply St_)) (by first | (simp only [KM, KJ, KN, KAI]; omega) | (simp; omega)) (by first | exact KAX _ _ _ _ _ | exact KAb _ _ _ _ (by omega) | exact KAZ _ _ _ _ | rfl) (by simp) ?_)
    refine Kj (by kernel_rfl) ?_
    refine KE (KB ?_)
    refine KA (KD rfl) (Nb rfl) ?_
    refine KA (KW rfl) (Nb rfl) ?_
    refine KA (KI (o' := 10) Try.underlying241 rfl rfl rfl sz_3 (by decide)) (Nb rfl) ?_
    refine LOps.det (KL rfl (by repeat (first | exact Mh _ | apply Mt)) (KP Try.underlying3 rfl (dvL_s _))) (Nb rfl) ?_
    refine KA (KH rfl rfl (br_gtr (b := 0))) (Nb rfl) ?_
    refine KG ?_
    first | refine KU rfl (fun h37 => ?_) (fun h37 => ?_) | refine KX rfl (fun h37 => ?_) (fun h37 => ?_)
    ·
      have h37 : 0 < dsh m := h37
      refine KB ?_
      refine KA (KD rfl) (Nb rfl) ?_
      refine KA (KH rfl rfl (KAG (b := 1) (by omega))) (Nb rfl) ?_
      refine KA (KD rfl) (Nb rfl) ?_
      refine KA (KD rfl) (Nb rfl) ?_
      refine KA (KW rfl) (Nb rfl) ?_
      refine KA (KI (o' := 10) Try.underlying241 rfl rfl rfl sz_3 (by decide)) (Nb rfl) ?_
      refine LOps.det (KL rfl (by repeat (first | exact Mh _ | apply Mt)) (KP Try.underlying3 rfl (dvL_s _))) (Nb rfl) ?_
      refine KA (KH rfl rfl (br_sub (a := 64) (by omega) (by omega))) (Nb rfl) ?_
      refine KA (KH rfl rfl (KAd (limb_lt _ _))) (Nb rfl) ?_
      refine KA (Kx Try.underlying243 sz_22 rfl rfl (by omega)) (Nb rfl) ?_
      refine KK rfl (Kw rfl rfl rfl sz_22 (by repeat (first | exact Sh _ | apply St_)) (by first | (simp only [KM, KJ, KN, KAI]; omega) | (simp; omega)) (by first | exact KAX _ _ _ _ _ | exact KAb _ _ _ _ (by omega) | exact KAZ _ _ _ _ | rfl) (by simp) ?_)
      refine KG ?_
      refine KB ?_
      refine KA (KH rfl rfl (KAG (b := 1) (by omega))) (Nb rfl) ?_
      refine KA (KD rfl) (Nb rfl) ?_
      refine KG ?_
      refine ⟨x + 1, by omega, by omega, KAi (Sub.cells (b := b6) (cs' := vec .u64 19 (limb (W % 2 ^ (64 * (x + 1)) * 2 ^ dsh m))) (by repeat (first | exact Sh _ | apply St_)) (KAP fun j _ => (fill_step hs64 j).symm)) (KAE ⟨rfl, rfl, rfl, rfl, rfl, rfl, rfl, rfl, rfl, trivial⟩ (by repeat (first | exact Sel.nil _ | refine Sel.cons (by repeat (first | exact Ph _ | apply Pt_)) ?_)))⟩
    ·
      have h37 : ¬ 0 < dsh m := h37
      refine Ke ?_
      refine KB ?_
      refine KA (KH rfl rfl (KAG (b := 1) (by omega))) (Nb rfl) ?_
      refine KA (KD rfl) (Nb rfl) ?_
      refine KG ?_
      refine ⟨x + 1, by omega, by omega, KAi (Sub.cells (b := b6) (cs' := vec .u64 19 (limb (W % 2 ^ (64 * (x + 1)) * 2 ^ dsh m))) (by repeat (first | exact Sh _ | apply St_)) (KAP fun j _ => ?_)) (KAE ⟨rfl, rfl, rfl, rfl, rfl, rfl, rfl, rfl, rfl, trivial⟩ (by repeat (first | exact Sel.nil _ | refine Sel.cons (by repeat (first | exact Ph _ | apply Pt_)) ?_)))⟩
      rw [fill_step hs64 j]
      by_cases e : j = x + 1
      · rw [if_pos e, if_neg (by omega), e, (fill_word hs64).2, show 64 - dsh m = 64 by omega]
        exact (Nat.div_eq_of_lt (limb_lt W x)).symm
      · rw [if_neg e]
  ·
    have h18 : ¬ x < l := h18
    have hxl : x = l := by omega
    subst hxl
    refine KAC ?_
    refine KE ?_
    refine KE (KB ?_)
    refine KA (KD rfl) (Nb rfl) ?_
    refine KA (KAY Try.underlying234 rfl) (Nb rfl) ?_
    refine KA (KD rfl) (Nb rfl) ?_
    refine KA (KW rfl) (Nb rfl) ?_
    refine KA (KI (o' := 9) Try.underlying241 rfl rfl rfl sz_3 (by decide)) (Nb rfl) ?_
    refine LOps.det (KL rfl (by repeat (first | exact Mh _ | apply Mt)) (KP Try.underlying3 rfl (dvL_n _))) (Nb rfl) ?_
    refine KA (KH (v := .int .i64 ((x : Int) - (nw m : Int))) rfl rfl (br_subI (by omega) (by omega))) (Nb rfl) ?_
    refine KA (KF rfl) (Nb rfl) ?_
    refine KG ?_
    refine LCode.block ?_
    refine KAH (α := Int × Nat × Nat) (fun x => (-20 ≤ x.1 ∧ x.1 + nw m ≤ 18) ∧ x.2.1 + x.2.2 * 2 ^ (64 * (x.1 + 1).toNat) * dnm m = W * 2 ^ dsh m ∧ x.2.1 < dnm m * 2 ^ (64 * (x.1 + 1).toNat)) (fun x => ⟨[(0, .pointer (some ⟨bd, 0, none⟩)), (4, .pointer (some ⟨b4, 0, none⟩)), (5, .pointer (some ⟨b5, 0, none⟩)), (6, .pointer (some ⟨b6, 0, none⟩)), (7, .pointer (some ⟨b7, 0, none⟩)), (10, .int .i64 x.1)], [.blk b6 ⟨true, vec .u64 19 (limb x.2.1), 243, (0, 0)⟩, .blk b7 ⟨true, wideL (x.2.2 * 2 ^ (64 * (x.1 + 1).toNat)), 230, (0, 0)⟩, .blk b5 ⟨true, vec .u64 9 (fun _ => 0), 25, (0, 0)⟩, .blk b4 ⟨true, vec .u64 18 (fun _ => 0), 230, (0, 0)⟩, .blk bd ⟨false, dvL m, 241, (0, 0)⟩]⟩) (fun x => (x.1 + 1).toNat) (((x : Int) - nw m, W * 2 ^ dsh m, 0)) (⟨⟨by dsimp only; omega, by dsimp only; omega⟩, by dsimp only; rw [Nat.zero_mul, Nat.zero_mul, Nat.add_zero], by
      dsimp only
      rcases Nat.lt_or_ge x (nw m) with hlt | hge
      · rw [show ((x : Int) - nw m + 1).toNat = 0 by omega, Nat.mul_zero, Nat.pow_zero, Nat.mul_one]
        exact div_short hm0 hlt hW
      · rw [show ((x : Int) - nw m + 1).toNat = x - nw m + 1 by omega]
        exact div_begin hm0 hge hW⟩) (KAi (Sub.cells (b := b6) (cs' := vec .u64 19 (limb (W * 2 ^ dsh m))) (by repeat (first | exact Sh _ | apply St_)) (by rw [Nat.mod_eq_of_lt hW])) (KAi (Sub.cells (b := b7) (cs' := wideL (0 * 2 ^ (64 * ((x : Int) - nw m + 1).toNat))) (by repeat (first | exact Sh _ | apply St_)) (by rw [Nat.zero_mul]; exact vec_zeros 18)) (KAE ⟨rfl, rfl, rfl, rfl, rfl, rfl, trivial⟩ (by repeat (first | exact Sel.nil _ | refine Sel.cons (by repeat (first | exact Ph _ | apply Pt_)) ?_))))) ?_
    intro x ⟨⟨hx1, hx2⟩, hx3, hx4⟩
    refine KE ?_
    refine KE ?_
    rcases Int.lt_or_le x.1 0 with hz | hz
    ·
      refine KB ?_
      refine KA (KD rfl) (Nb rfl) ?_
      refine KA (KH (v := .bool false) rfl rfl (by simp [KAQ]; omega)) (Nb rfl) ?_
      refine KG ?_
      have ha0 : (x.1 + 1).toNat = 0 := by omega
      rw [ha0, Nat.mul_zero, Nat.pow_zero, Nat.mul_one] at hx3
      rw [ha0, Nat.mul_zero, Nat.pow_zero, Nat.mul_one] at hx4
      have hend := div_end hm0 hx3 hx4
      refine Ku rfl ?_
      refine KAC ?_
      refine KE (KB ?_)
      refine KK rfl (KY (KS (Kp zr_25) (Nb rfl) (fun b13 => ?_)))
      refine KG ?_
      refine KE ?_
      refine KE (KB ?_)
      refine KA (KD rfl) (Nb rfl) ?_
      refine KA (KW rfl) (Nb rfl) ?_
      refine KA (KI (o' := 9) Try.underlying241 rfl rfl rfl sz_3 (by decide)) (Nb rfl) ?_
      refine LOps.det (KL rfl (by repeat (first | exact Mh _ | apply Mt)) (KP Try.underlying3 rfl (dvL_n _))) (Nb rfl) ?_
      refine KA (KD (v := .int .i64 ((0 : Nat) : Int)) rfl) (Nb rfl) ?_
      refine KG ?_
      refine LCode.block ?_
      refine KAH (α := Nat) (fun i => i ≤ nw m) (fun i => ⟨[(0, .pointer (some ⟨bd, 0, none⟩)), (4, .pointer (some ⟨b4, 0, none⟩)), (5, .pointer (some ⟨b5, 0, none⟩)), (6, .pointer (some ⟨b6, 0, none⟩)), (7, .pointer (some ⟨b7, 0, none⟩)), (13, .pointer (some ⟨b13, 0, none⟩)), (84, .int .i64 ((nw m : Nat) : Int)), (85, .int .i64 ((i : Nat) : Int))], [.blk b13 ⟨true, vec .u64 9 (fun j => if j < i then limb (x.2.1 / 2 ^ dsh m) j else 0), 25, (0, 0)⟩, .blk b6 ⟨true, vec .u64 19 (limb x.2.1), 243, (0, 0)⟩, .blk b7 ⟨true, wideL (x.2.2 * 2 ^ (64 * (x.1 + 1).toNat)), 230, (0, 0)⟩, .blk b5 ⟨true, vec .u64 9 (fun _ => 0), 25, (0, 0)⟩, .blk b4 ⟨true, vec .u64 18 (fun _ => 0), 230, (0, 0)⟩, .blk bd ⟨false, dvL m, 241, (0, 0)⟩]⟩) (fun i => nw m - i) (0) (Nat.zero_le _) (KAE ⟨rfl, rfl, rfl, rfl, rfl, rfl, rfl, rfl, trivial⟩ (by repeat (first | exact Sel.nil _ | refine Sel.cons (by repeat (first | exact Ph _ | apply Pt_)) ?_))) ?_
      intro i hi
      refine KE (KB ?_)
      refine KA (KH rfl rfl (br_lss)) (Nb rfl) ?_
      refine KG ?_
      refine KE ?_
      first | refine KU rfl (fun h86 => ?_) (fun h86 => ?_) | refine KX rfl (fun h86 => ?_) (fun h86 => ?_)
      ·
        have h86 : i < nw m := h86
        refine Ke ?_
        refine KE ?_
        refine LCode.block ?_
        refine KE (KB ?_)
        refine KA (KD rfl) (Nb rfl) ?_
        refine KA (KF rfl) (Nb rfl) ?_
        refine KG ?_
        refine KE ?_
        refine Kc [11] (by kernel_rfl) ?_
        refine KC 0 rfl (by kernel_rfl) (Nb rfl) (KD rfl) ?_
        refine KC 1 rfl (by kernel_rfl) (Nb rfl) (KD rfl) ?_
        refine KC 2 rfl (by kernel_rfl) (Nb rfl) (Kx Try.underlying243 sz_22 rfl rfl (by omega)) ?_
        refine LAny.take 3 rfl (by kernel_rfl) (Nb rfl) (KL rfl (by repeat (first | exact Mh _ | apply Mt)) (KP Try.underlying22 rfl (by exact Kn _ _ _ (show i < 19 by omega)))) ?_
        refine KC 4 rfl (by kernel_rfl) (Nb rfl) (KD rfl) ?_
        refine KC 5 rfl (by kernel_rfl) (Nb rfl) (KW rfl) ?_
        refine KC 6 rfl (by kernel_rfl) (Nb rfl) (KI (o' := 10) Try.underlying241 rfl rfl rfl sz_3 (by decide)) ?_
        refine LAny.take 7 rfl (by kernel_rfl) (Nb rfl) (KL rfl (by repeat (first | exact Mh _ | apply Mt)) (KP Try.underlying3 rfl (dvL_s _))) ?_
        refine KC 8 rfl (by kernel_rfl) (Nb rfl) (KH rfl rfl (KAd (limb_lt _ _))) ?_
        refine KC 9 rfl (by kernel_rfl) (Nb rfl) (KI (o' := 0) Try.underlying25 rfl rfl rfl sz_23 (by decide)) ?_
        refine KC 10 rfl (by kernel_rfl) (Nb rfl) (Kx Try.underlying23 sz_22 rfl rfl (by omega)) ?_
        refine KAA 11 rfl rfl (by kernel_rfl) (by kernel_rfl) (Kw rfl rfl rfl sz_22 (by repeat (first | exact Sh _ | apply St_)) (by first | (simp only [KM, KJ, KN, KAI]; omega) | (simp; omega)) (by first | exact KAX _ _ _ _ _ | exact KAb _ _ _ _ (by omega) | exact KAZ _ _ _ _ | rfl) (by simp) ?_)
        refine Kj (by kernel_rfl) ?_
        refine KE (KB ?_)
        refine KA (KD rfl) (Nb rfl) ?_
        refine KA (KW rfl) (Nb rfl) ?_
        refine KA (KI (o' := 10) Try.underlying241 rfl rfl rfl sz_3 (by decide)) (Nb rfl) ?_
        refine LOps.det (KL rfl (by repeat (first | exact Mh _ | apply Mt)) (KP Try.underlying3 rfl (dvL_s _))) (Nb rfl) ?_
        refine KA (KH rfl rfl (br_gtr (b := 0))) (Nb rfl) ?_
        refine KG ?_
        first | refine KU rfl (fun h103 => ?_) (fun h103 => ?_) | refine KX rfl (fun h103 => ?_) (fun h103 => ?_)
        ·
          have h103 : 0 < dsh m := h103
          refine Kc [17] (by kernel_rfl) ?_
          refine KC 0 rfl (by kernel_rfl) (Nb rfl) (KD rfl) ?_
          refine KC 1 rfl (by kernel_rfl) (Nb rfl) (KI (o' := 0) Try.underlying25 rfl rfl rfl sz_23 (by decide)) ?_
          refine KC 2 rfl (by kernel_rfl) (Nb rfl) (Kx Try.underlying23 sz_22 rfl rfl (by omega)) ?_
          refine LAny.take 3 rfl (by kernel_rfl) (Nb rfl) (KL (v := .int .u64 ((limb x.2.1 i / 2 ^ dsh m : Nat) : Int)) rfl (by repeat (first | exact Mh _ | apply Mt)) (KP Try.underlying22 rfl (by exact (Kn .u64 9 (fun j => if j = i then limb x.2.1 i / 2 ^ dsh m else if j < i then limb (x.2.1 / 2 ^ dsh m) j else 0) (show i < 9 by omega)).trans (by show some (Value.int .u64 ((if i = i then _ else _ : Nat) : Int)) = _; rw [if_pos rfl])))) ?_
          refine KC 4 rfl (by kernel_rfl) (Nb rfl) (KD rfl) ?_
          refine KC 5 rfl (by kernel_rfl) (Nb rfl) (KH rfl rfl (KAG (b := 1) (by omega))) ?_
          refine KC 6 rfl (by kernel_rfl) (Nb rfl) (Kx Try.underlying243 sz_22 rfl rfl (by omega)) ?_
          refine LAny.take 7 rfl (by kernel_rfl) (Nb rfl) (KL rfl (by repeat (first | exact Mh _ | apply Mt)) (KP Try.underlying22 rfl (by exact Kn _ _ _ (show i + 1 < 19 by omega)))) ?_
          refine KC 8 rfl (by kernel_rfl) (Nb rfl) (KD rfl) ?_
          refine KC 9 rfl (by kernel_rfl) (Nb rfl) (KW rfl) ?_
          refine KC 10 rfl (by kernel_rfl) (Nb rfl) (KI (o' := 10) Try.underlying241 rfl rfl rfl sz_3 (by decide)) ?_
          refine LAny.take 11 rfl (by kernel_rfl) (Nb rfl) (KL rfl (by repeat (first | exact Mh _ | apply Mt)) (KP Try.underlying3 rfl (dvL_s _))) ?_
          refine KC 12 rfl (by kernel_rfl) (Nb rfl) (KH rfl rfl (br_sub (a := 64) (by omega) (by omega))) ?_
          refine KC 13 rfl (by kernel_rfl) (Nb rfl) (KH rfl rfl (br_shl64)) ?_
          refine KC 14 rfl (by kernel_rfl) (Nb rfl) (KH rfl rfl (br_or64 (Nat.lt_of_le_of_lt (Nat.div_le_self _ _) (limb_lt _ _)) (Nat.mod_lt _ (by decide)))) ?_
          refine KC 15 rfl (by kernel_rfl) (Nb rfl) (KI (o' := 0) Try.underlying25 rfl rfl rfl sz_23 (by decide)) ?_
          refine KC 16 rfl (by kernel_rfl) (Nb rfl) (Kx Try.underlying23 sz_22 rfl rfl (by omega)) ?_
          refine KAA 17 rfl rfl (by kernel_rfl) (by kernel_rfl) (Kw rfl rfl rfl sz_22 (by repeat (first | exact Sh _ | apply St_)) (by first | (simp only [KM, KJ, KN, KAI]; omega) | (simp; omega)) (by first | exact KAX _ _ _ _ _ | exact KAb _ _ _ _ (by omega) | exact KAZ _ _ _ _ | rfl) (by simp) ?_)
          refine Kj (by kernel_rfl) ?_
          refine KB ?_
          refine KA (KH rfl rfl (KAG (b := 1) (by omega))) (Nb rfl) ?_
          refine KA (KD rfl) (Nb rfl) ?_
          refine KG ?_
          refine ⟨i + 1, by omega, by omega, KAi (Sub.cells (b := b13) (cs' := vec .u64 9 (fun j => if j < i + 1 then limb (x.2.1 / 2 ^ dsh m) j else 0)) (by repeat (first | exact Sh _ | apply St_)) (KAP fun j _ => ?_)) (KAE ⟨rfl, rfl, rfl, rfl, rfl, rfl, rfl, rfl, trivial⟩ (by repeat (first | exact Sel.nil _ | refine Sel.cons (by repeat (first | exact Ph _ | apply Pt_)) ?_)))⟩
          by_cases e : j = i
          · subst e
            rw [if_pos rfl, if_pos (by omega)]
            exact rest_or hs64
          · rw [if_neg e, if_neg e]
            by_cases e2 : j < i
            · rw [if_pos e2, if_pos (by omega)]
            · rw [if_neg e2, if_neg (by omega)]
        ·
          have h103 : ¬ 0 < dsh m := h103
          refine Ke ?_
          refine KB ?_
          refine KA (KH rfl rfl (KAG (b := 1) (by omega))) (Nb rfl) ?_
          refine KA (KD rfl) (Nb rfl) ?_
          refine KG ?_
          refine ⟨i + 1, by omega, by omega, KAi (Sub.cells (b := b13) (cs' := vec .u64 9 (fun j => if j < i + 1 then limb (x.2.1 / 2 ^ dsh m) j else 0)) (by repeat (first | exact Sh _ | apply St_)) (KAP fun j _ => ?_)) (KAE ⟨rfl, rfl, rfl, rfl, rfl, rfl, rfl, rfl, trivial⟩ (by repeat (first | exact Sel.nil _ | refine Sel.cons (by repeat (first | exact Ph _ | apply Pt_)) ?_)))⟩
          by_cases e : j = i
          · subst e
            rw [if_pos rfl, if_pos (by omega), show dsh m = 0 by omega, Nat.pow_zero, Nat.div_one, Nat.div_one]
          · rw [if_neg e]
            by_cases e2 : j < i
            · rw [if_pos e2, if_pos (by omega)]
            · rw [if_neg e2, if_neg (by omega)]
      ·
        have h86 : ¬ i < nw m := h86
        have hin : i = nw m := by omega
        subst hin
        refine KAC ?_
        refine KE ?_
        refine Kc [2, 3] (by kernel_rfl) ?_
        refine LAny.take 0 rfl (by kernel_rfl) (Nb rfl) (KL rfl (by repeat (first | exact Mh _ | apply Mt)) (by exact KR Try.underlying230 rfl sz_230)) ?_
        refine LAny.twoX 1 2 rfl rfl rfl rfl (by kernel_rfl) (.inr (LStep.det (KL rfl (by repeat (first | exact Mh _ | apply Mt)) (by exact KR Try.underlying25 rfl sz_25)) (Nb rfl) ?_)) (.inl ⟨rfl, Kb rfl rfl sz_230 (by repeat (first | exact Ky _ | exact KAT _ _ _ | exact KAJ _ | exact KAK _ _ _ | exact KAV _ _ _ | exact Kf | refine KZ rfl ?_ | refine Ko ?_ ?_)) (by repeat (first | exact Sh _ | apply St_)) (by first | exact KJ _ | exact KM _ _ _ | exact KN _ | exact Kd _ _ _ | exact KAD _ _ _ | rfl | simp [KM, KJ, KN]) ?_⟩)
        ·
          refine KAA 2 rfl rfl (by kernel_rfl) (by kernel_rfl) (Kb rfl rfl sz_230 (by repeat (first | exact Ky _ | exact KAT _ _ _ | exact KAJ _ | exact KAK _ _ _ | exact KAV _ _ _ | exact Kf | refine KZ rfl ?_ | refine Ko ?_ ?_)) (by repeat (first | exact Sh _ | apply St_)) (by first | exact KJ _ | exact KM _ _ _ | exact KN _ | exact Kd _ _ _ | exact KAD _ _ _ | rfl | simp [KM, KJ, KN]) ?_)
          refine KAA 3 rfl rfl (by kernel_rfl) (by kernel_rfl) (Kb rfl rfl sz_25 (by repeat (first | exact Ky _ | exact KAT _ _ _ | exact KAJ _ | exact KAK _ _ _ | exact KAV _ _ _ | exact Kf | refine KZ rfl ?_ | refine Ko ?_ ?_)) (by repeat (first | exact Sh _ | apply St_)) (by first | exact KJ _ | exact KM _ _ _ | exact KN _ | exact Kd _ _ _ | exact KAD _ _ _ | rfl | simp [KM, KJ, KN]) ?_)
          refine Kj (by kernel_rfl) ?_
          refine KQ ?_
          have hr9 : (vec IntKind.u64 9 fun j => if j < nw m then limb (x.2.1 / 2 ^ dsh m) j else 0) = natL (W % m) := by
            rw [← hend.2]
            apply KAP
            intro j hj
            by_cases e : j < nw m
            · rw [if_pos e]
            · rw [if_neg e, limb_high (Nat.lt_of_le_of_lt (Nat.div_le_self _ _) (Nat.lt_trans hx4 (dnm_lt m))) (by omega)]
          have hq9 : wideL (x.2.2 * 2 ^ (64 * (x.1 + 1).toNat)) = wideL (W / m) := by rw [ha0, Nat.mul_zero, Nat.pow_zero, Nat.mul_one, hend.1]
          refine ⟨[_, _], .cons ⟨_, _, _, rfl, (by repeat (first | exact Mh _ | apply Mt)), by exact KR Try.underlying230 rfl sz_230⟩ (.cons ⟨_, _, _, rfl, (by repeat (first | exact Mh _ | apply Mt)), by exact KR Try.underlying25 rfl sz_25⟩ .nil), fun a w' hr => ⟨?_, hr.fr.below⟩⟩
          show Ending.returned (.tuple #[.agg (wideL (x.2.2 * 2 ^ (64 * (x.1 + 1).toNat))).toArray, .agg (vec IntKind.u64 9 fun j => if j < nw m then limb (x.2.1 / 2 ^ dsh m) j else 0).toArray]) = _
          rw [hr9, hq9]
          rfl
        ·
          refine LAny.take 1 rfl (by kernel_rfl) (Nb rfl) (KL rfl (by repeat (first | exact Mh _ | apply Mt)) (by exact KR Try.underlying25 rfl sz_25)) ?_
          refine KAA 3 rfl rfl (by kernel_rfl) (by kernel_rfl) (Kb rfl rfl sz_25 (by repeat (first | exact Ky _ | exact KAT _ _ _ | exact KAJ _ | exact KAK _ _ _ | exact KAV _ _ _ | exact Kf | refine KZ rfl ?_ | refine Ko ?_ ?_)) (by repeat (first | exact Sh _ | apply St_)) (by first | exact KJ _ | exact KM _ _ _ | exact KN _ | exact Kd _ _ _ | exact KAD _ _ _ | rfl | simp [KM, KJ, KN]) ?_)
          refine Kj (by kernel_rfl) ?_
          refine KQ ?_
          have hr9 : (vec IntKind.u64 9 fun j => if j < nw m then limb (x.2.1 / 2 ^ dsh m) j else 0) = natL (W % m) := by
            rw [← hend.2]
            apply KAP
            intro j hj
            by_cases e : j < nw m
            · rw [if_pos e]
            · rw [if_neg e, limb_high (Nat.lt_of_le_of_lt (Nat.div_le_self _ _) (Nat.lt_trans hx4 (dnm_lt m))) (by omega)]
          have hq9 : wideL (x.2.2 * 2 ^ (64 * (x.1 + 1).toNat)) = wideL (W / m) := by rw [ha0, Nat.mul_zero, Nat.pow_zero, Nat.mul_one, hend.1]
          refine ⟨[_, _], .cons ⟨_, _, _, rfl, (by repeat (first | exact Mh _ | apply Mt)), by exact KR Try.underlying230 rfl sz_230⟩ (.cons ⟨_, _, _, rfl, (by repeat (first | exact Mh _ | apply Mt)), by exact KR Try.underlying25 rfl sz_25⟩ .nil), fun a w' hr => ⟨?_, hr.fr.below⟩⟩
          show Ending.returned (.tuple #[.agg (wideL (x.2.2 * 2 ^ (64 * (x.1 + 1).toNat))).toArray, .agg (vec IntKind.u64 9 fun j => if j < nw m then limb (x.2.1 / 2 ^ dsh m) j else 0).toArray]) = _
          rw [hr9, hq9]
          rfl
    ·
      refine KB ?_
      refine KA (KD rfl) (Nb rfl) ?_
      refine KA (KH (v := .bool true) rfl rfl (by simp [KAQ]; omega)) (Nb rfl) ?_
      refine KG ?_
      obtain ⟨y, hy⟩ : ∃ y : Nat, x.1 = y := ⟨x.1.toNat, by omega⟩
      have ha1 : (x.1 + 1).toNat = y + 1 := by omega
      rw [ha1] at hx3
      rw [ha1] at hx4
      refine KAF rfl ?_
      refine Ke ?_
      refine KE ?_
      refine LCode.block ?_
      refine KE (KB ?_)
      refine KA (KD rfl) (Nb rfl) ?_
      refine KA (Det.slArr Try.underlying243 sz_22 rfl) (Nb rfl) ?_
      refine KA (KD (v := .int .i64 ((y : Nat) : Int)) (by show some _ = some _; rw [hy])) (Nb rfl) ?_
      refine KK rfl (KY (LStep.callV (Post := fun v => ∃ q : Nat, (q < 18446744073709551616 ∧ x.2.1 / 2 ^ (64 * y) / dnm m ≤ q) ∧ v = .int .u64 ((q : Nat) : Int)) (first := []) rfl en_194 rfl (Nb rfl) (fun w hw => (c_guess m x.2.1 bd b6 y true hm0 w (hw _ (by repeat (first | exact Mh _ | apply Mt))) (hw _ (by repeat (first | exact Mh _ | apply Mt))) hm (by omega) hx4).mono fun e w' ⟨q, h, h1, h2⟩ => ⟨_, ⟨q, h, rfl⟩, h1, h2⟩) ?_))
      rintro _ ⟨q, ⟨hq1, hq2⟩, rfl⟩
      refine KA (KF rfl) (Nb rfl) ?_
      refine KG ?_
      refine KE ?_
      refine KE (KB ?_)
      refine KA (KD rfl) (Nb rfl) ?_
      refine KA (Det.slArr Try.underlying243 sz_22 rfl) (Nb rfl) ?_
      refine KA (KD (v := .int .i64 ((y : Nat) : Int)) (by show some _ = some _; rw [hy])) (Nb rfl) ?_
      refine KA (KD rfl) (Nb rfl) ?_
      refine KK rfl (LStepW.callWF (Post := fun v cs' => ∃ U' bw, bw ≤ 1 ∧ U' < 2 ^ (64 * (y + nw m + 1)) ∧ U' + q * dnm m * 2 ^ (64 * y) = x.2.1 + bw * 2 ^ (64 * (y + nw m + 1)) ∧ v = .bool (decide (bw = 1)) ∧ cs' = vec .u64 19 (limb U')) (first := []) rfl en_195 rfl (Nb rfl) (fun cs' => (by repeat (first | exact Sh _ | apply St_))) (fun w hw hap => c_take m x.2.1 bd b6 y q hq1 w (hw _ (by repeat (first | exact Mh _ | apply Mt))) (hw _ (by repeat (first | exact Mh _ | apply Mt))) (apart_blk hap (b := b6) (by repeat (first | exact Mh _ | apply Mt)) (c := bd) (by repeat (first | exact Mh _ | apply Mt)) rfl rfl) hm (by omega) (win_lt (dnm_lt m) hx4)) ?_)
      rintro _ _ ⟨U1, bw1, ht1, ht2, ht3, rfl, rfl⟩
      refine KA (KF rfl) (Nb rfl) ?_
      refine KG ?_
      refine LCode.block ?_
      refine KAH (α := Nat × Nat × Nat) (fun k => k.2.2 ≤ 1 ∧ k.2.1 < 2 ^ (64 * (y + nw m + 1)) ∧ k.2.1 + k.1 * dnm m * 2 ^ (64 * y) = x.2.1 + k.2.2 * 2 ^ (64 * (y + nw m + 1)) ∧ x.2.1 / 2 ^ (64 * y) / dnm m ≤ k.1 ∧ k.1 < 18446744073709551616) (fun k => ⟨[(0, .pointer (some ⟨bd, 0, none⟩)), (4, .pointer (some ⟨b4, 0, none⟩)), (5, .pointer (some ⟨b5, 0, none⟩)), (6, .pointer (some ⟨b6, 0, none⟩)), (7, .pointer (some ⟨b7, 0, none⟩)), (10, .int .i64 ((y : Nat) : Int)), (11, .int .u64 ((k.1 : Nat) : Int)), (12, .bool (decide (k.2.2 = 1)))], [.blk b6 ⟨true, vec .u64 19 (limb k.2.1), 243, (0, 0)⟩, .blk b7 ⟨true, wideL (x.2.2 * 2 ^ (64 * (x.1 + 1).toNat)), 230, (0, 0)⟩, .blk b5 ⟨true, vec .u64 9 (fun _ => 0), 25, (0, 0)⟩, .blk b4 ⟨true, vec .u64 18 (fun _ => 0), 230, (0, 0)⟩, .blk bd ⟨false, dvL m, 241, (0, 0)⟩]⟩) (fun k => k.1) ((q, U1, bw1)) (⟨ht1, ht2, ht3, hq2, hq1⟩) (KAE ⟨rfl, rfl, rfl, rfl, rfl, congrArg (fun i : Int => some (Value.int .i64 i)) hy, rfl, rfl, trivial⟩ (by repeat (first | exact Sel.nil _ | refine Sel.cons (by repeat (first | exact Ph _ | apply Pt_)) ?_))) ?_
      intro k ⟨hk1, hk2, hk3, hk4, hk5⟩
      refine KE ?_
      refine KE (KB ?_)
      refine KA (KD rfl) (Nb rfl) ?_
      refine KG ?_
      first | refine KU rfl (fun h69 => ?_) (fun h69 => ?_) | refine KX rfl (fun h69 => ?_) (fun h69 => ?_)
      ·
        have h69 : k.2.2 = 1 := h69
        rw [h69, Nat.one_mul] at hk3
        have hqw := quo_word hk2 hk3 hk4 (dnm_pos hm0)
        refine Ke ?_
        refine KE ?_
        refine LCode.block ?_
        refine KB ?_
        refine KA (KD rfl) (Nb rfl) ?_
        refine KA (KT (KH rfl rfl (br_sub64 (b := 1) (by decide))) (vi (b := k.1 - 1) (by omega))) (Nb rfl) ?_
        refine KA (KF rfl) (Nb rfl) ?_
        refine KG ?_
        refine KB ?_
        refine KA (KD rfl) (Nb rfl) ?_
        refine KA (Det.slArr Try.underlying243 sz_22 rfl) (Nb rfl) ?_
        refine KA (KD rfl) (Nb rfl) ?_
        refine KK rfl (LStepW.callWF (Post := fun v cs' => ∃ U' c, c ≤ 1 ∧ U' < 2 ^ (64 * (y + nw m + 1)) ∧ U' + c * 2 ^ (64 * (y + (nw m + 1))) = k.2.1 + dnm m * 2 ^ (64 * y) ∧ v = .bool (decide (c = 1)) ∧ cs' = vec .u64 19 (limb U')) (first := []) rfl en_196 rfl (Nb rfl) (fun cs' => (by repeat (first | exact Sh _ | apply St_))) (fun w hw hap => c_back m k.2.1 bd b6 y w (hw _ (by repeat (first | exact Mh _ | apply Mt))) (hw _ (by repeat (first | exact Mh _ | apply Mt))) (apart_blk hap (b := b6) (by repeat (first | exact Mh _ | apply Mt)) (c := bd) (by repeat (first | exact Mh _ | apply Mt)) rfl rfl) hm (by omega) hk2) ?_)
        rintro _ _ ⟨U2, c2, hb1, hb2, hb3, rfl, rfl⟩
        refine KA (Det.not rfl) (Nb rfl) ?_
        refine KA (KF rfl) (Nb rfl) ?_
        refine KG ?_
        refine ⟨(k.1 - 1, U2, 1 - c2), ⟨by dsimp only; omega, hb2, quo_back hqw.2 hk3 (by rw [← Nat.add_assoc] at hb3; exact hb3) hb1, hqw.1, by dsimp only; omega⟩, by have := hqw.2; dsimp only; omega, KAE ⟨rfl, rfl, rfl, rfl, rfl, rfl, rfl, ?_, trivial⟩ (by repeat (first | exact Sel.nil _ | refine Sel.cons (by repeat (first | exact Ph _ | apply Pt_)) ?_))⟩
        refine congrArg (fun b : Bool => some (Value.bool b)) ?_
        rcases Nat.le_one_iff_eq_zero_or_eq_one.1 hb1 with h | h <;> subst h <;> rfl
      ·
        have h69 : ¬ k.2.2 = 1 := h69
        have hk0 : k.2.2 = 0 := by omega
        rw [hk0, Nat.zero_mul, Nat.add_zero] at hk3
        have hdn := quo_done (dnm_pos hm0) hk3 hk4
        refine KAC ?_
        refine KB ?_
        refine KA (KD rfl) (Nb rfl) ?_
        refine KA (KD rfl) (Nb rfl) ?_
        refine KA (KI (o' := 0) Try.underlying230 rfl rfl rfl sz_228 (by decide)) (Nb rfl) ?_
        refine KA (Kx Try.underlying228 sz_22 rfl rfl (by omega)) (Nb rfl) ?_
        refine KK rfl (Kw rfl rfl rfl sz_22 (by repeat (first | exact Sh _ | apply St_)) (by first | (simp only [KM, KJ, KN, KAI]; omega) | (simp; omega)) (by first | exact KAX _ _ _ _ _ | exact KAb _ _ _ _ (by omega) | exact KAZ _ _ _ _ | rfl) (by simp) ?_)
        refine KG ?_
        refine KB ?_
        refine KA (KD rfl) (Nb rfl) ?_
        refine KA (KH (v := .int .i64 ((y : Int) - 1)) rfl rfl (br_subI (by omega) (by omega))) (Nb rfl) ?_
        refine KA (KF rfl) (Nb rfl) ?_
        refine KG ?_
        refine ⟨((y : Int) - 1, k.2.1, x.2.2 * 18446744073709551616 + k.1), ⟨⟨by dsimp only; omega, by dsimp only; omega⟩, ?_, ?_⟩, by dsimp only; omega, KAi (Sub.cells (b := b7) (cs' := wideL ((x.2.2 * 18446744073709551616 + k.1) * 2 ^ (64 * ((y : Int) - 1 + 1).toNat))) (by repeat (first | exact Sh _ | apply St_)) (KAP fun j _ => ?_)) (KAE ⟨rfl, rfl, rfl, rfl, rfl, rfl, trivial⟩ (by repeat (first | exact Sel.nil _ | refine Sel.cons (by repeat (first | exact Ph _ | apply Pt_)) ?_)))⟩
        · dsimp only
          rw [show ((y : Int) - 1 + 1).toNat = y by omega]
          exact quo_sum hk3 hx3
        · dsimp only
          rw [show ((y : Int) - 1 + 1).toNat = y by omega]
          exact hdn
        · rw [show ((y : Int) - 1 + 1).toNat = y by omega, ha1]
          exact quo_store hk5 j
end Go.Proofs.Ytljblbgogjieaaa
set_option linter.unusedVariables false
set_option linter.unusedSimpArgs false
set_option maxRecDepth 20000
namespace Go.Proofs.Ytljblbgogjieaaa
open Go Go.RowKit
theorem nat_eq_iff {A B : Nat} (hA : A < W9) (hB : B < W9) : (decide (A = B)) = true ↔ ∀ i, i < 9 → limb A i = limb B i := by
  constructor
  · intro h i _; rw [of_decide_eq_true h]
  · intro h; exact decide_eq_true (limb_ext hA hB h)
theorem take_all (A : Nat) : (natL A).take 9 = natL A := List.take_of_length_le (by rw [KJ]; exact Nat.le_refl _)
theorem eq_nat (A B : Nat) (hA : A < W9) (hB : B < W9) : EqD 3 Try.prog 25 (natV A) (natV B) (decide (A = B)) := by
  rw [← Bool.and_true (decide (A = B))]
  exact EqD.struct (fs := [_]) Try.underlying25 (by kernel_rfl) (EqFs.cons (by decide) (PartOf.agg Try.underlying23 rfl sz_23 (take_all A)) (PartOf.agg Try.underlying23 rfl sz_23 (take_all B)) (EqD.nums (nat_eq_iff hA hB) Try.underlying23 Try.underlying22 sz_22) EqFs.nil)
theorem mul_pow18 {A B : Nat} (hA : A < W9) (hB : B < W9) : ∀ i, i = 18 → A * B < 2 ^ (64 * i) := fun i h => by
  rw [w18 h]; exact mul_w18 hA hB
theorem nw_mul {A B : Nat} (hA : A < W9) (hB : B < W9) : nw (A * B) ≤ 18 := nw_le (mul_pow18 hA hB 18 rfl)
theorem c_By (m : Nat) (hm0 : m ≠ 0) (hm : m < W9) (w : World)  : Calls Try.prog 170 ([natV m] : List Value).toArray w (fun e w' => ∃ b, e = .returned (.agg [.pointer (some ⟨b, 0, none⟩)].toArray) ∧ w.heap.size ≤ b ∧ (Item.blk b ⟨false, dvL m, 241, (0, 0)⟩).holds w' ∧ Below w.heap.size w w') := by
  refine KAB (N := 5) (rs := [.cell 2 192]) [] Try.func170 rfl Try.ntmps170 Try.results170 (Nb rfl) trivial rfl ?_
  show LCode _ _ _ ⟨_, _⟩ _
  refine KE (KB ?_)
  refine KK rfl (KY (KS (KAM rfl) (Nb rfl) (fun b1 => ?_)))
  refine KK rfl (KY (KS (Kp zr_192) (Nb rfl) (fun b2 => ?_)))
  refine KG ?_
  refine KE (KB ?_)
  refine KK rfl (KY (LStep.call (Post := fun v its => ∃ b, v = .pointer (some ⟨b, 0, none⟩) ∧ its = [.blk b ⟨true, dvL m, 241, (0, 0)⟩]) (first := []) rfl en_183 rfl (Nb rfl) (fun w hw => (c_of m b1 _ hm0 w (hw _ (by repeat (first | exact Mh _ | apply Mt))) hm).mono fun e w' ⟨b, h1, h2, h3, h4⟩ => ⟨_, _, ⟨b, rfl, rfl⟩, h1, Brings.blk1 h4 h2 h3⟩) ?_))
  rintro _ _ ⟨bd, rfl, rfl⟩
  refine KA (KAl pl_192 zr_192 rfl (((fillL_step (A := ([] : List Value)) (B := ([Value.pointer none])) (D := ([] : List Value)) (cs := [.pointer (some ⟨bd, 0, none⟩)]) rfl rfl (by first | exact KJ _ | exact KM _ _ _ | exact KN _ | exact KAI _ _ _ | rfl | (simp only [List.length_append, List.length_cons, List.length_nil, KJ, KM, KN, KAI, Kd, KAD])) (by first | rfl | simp only [List.append_assoc, List.nil_append, List.append_nil, List.cons_append]) (by first | exact KJ _ | exact KM _ _ _ | exact KN _ | exact KAI _ _ _ | rfl | (simp only [List.length_append, List.length_cons, List.length_nil, KJ, KM, KN, KAI, Kd, KAD])) (by first | exact KJ _ | exact KM _ _ _ | exact KN _ | exact KAI _ _ _ | rfl | (simp only [List.length_append, List.length_cons, List.length_nil, KJ, KM, KN, KAI, Kd, KAD])) rfl) : fillL _ _ _ = _).trans (congrArg some (show _ = ([.pointer (some ⟨bd, 0, none⟩)]) from by first | rfl | simp only [List.append_assoc, List.nil_append, List.append_nil, List.cons_append])))) (Nb rfl) ?_
  refine KK rfl (Kb rfl rfl sz_192 (by repeat (first | exact Ky _ | exact KAT _ _ _ | exact KAJ _ | exact KAK _ _ _ | exact KAV _ _ _ | exact Kf | refine KZ rfl ?_ | refine Ko ?_ ?_)) (by repeat (first | exact Sh _ | apply St_)) (by first | exact KJ _ | exact KM _ _ _ | exact KN _ | exact Kd _ _ _ | exact KAD _ _ _ | rfl | simp [KM, KJ, KN]) ?_)
  refine KG (KQ ?_)
  refine ⟨[_], .cons ⟨_, _, _, rfl, (by repeat (first | exact Mh _ | apply Mt)), by exact KR Try.underlying192 rfl sz_192⟩ .nil, fun a w' hr => ⟨bd, rfl, hr.new (B := ⟨true, dvL m, 241, (0, 0)⟩) (by repeat (first | exact Mh _ | apply Mt)) rfl, (show (Item.blk bd ⟨true, dvL m, 241, (0, 0)⟩).holds w' from hr.hp _ (by repeat (first | exact Mh _ | apply Mt))), hr.fr.below⟩⟩
theorem c_Mul (m A B bd : Nat) (hm0 : m ≠ 0) (hm : m < W9) (w : World) (hbd : (Item.blk bd ⟨false, dvL m, 241, (0, 0)⟩).holds w) (hA : A < W9) (hB : B < W9) : Calls Try.prog 175 ([.agg [.pointer (some ⟨bd, 0, none⟩)].toArray, natV A, natV B] : List Value).toArray w (fun e w' => e = .returned (natV (A * B % m)) ∧ Below w.heap.size w w') := by
  refine KAB (N := 25) (rs := [.cell 6 25]) [.blk bd ⟨false, dvL m, 241, (0, 0)⟩] Try.func175 rfl Try.ntmps175 Try.results175 (Nb rfl) ⟨hbd, trivial⟩ rfl ?_
  show LCode _ _ _ ⟨_, _⟩ _
  refine KE (KB ?_)
  refine KK rfl (KY (KS (KAM rfl) (Nb rfl) (fun b3 => ?_)))
  refine KK rfl (KY (KS (KAM rfl) (Nb rfl) (fun b4 => ?_)))
  refine KK rfl (KY (KS (KAM rfl) (Nb rfl) (fun b5 => ?_)))
  refine KK rfl (KY (KS (Kp zr_25) (Nb rfl) (fun b6 => ?_)))
  refine KG ?_
  refine KE (KB ?_)
  refine LOps.det (KL rfl (by repeat (first | exact Mh _ | apply Mt)) (by exact KR Try.underlying25 rfl sz_25)) (Nb rfl) ?_
  refine LOps.det (KL rfl (by repeat (first | exact Mh _ | apply Mt)) (by exact KR Try.underlying25 rfl sz_25)) (Nb rfl) ?_
  refine KK rfl (KY (KO (first := []) rfl en_185 rfl (Nb rfl) (fun w hw => c_nat_Mul A B hA hB w) ?_))
  refine KK rfl (KY (KS (Kp zr_230) (Nb rfl) (fun b7 => ?_)))
  refine KK rfl (Kb rfl rfl sz_230 (by repeat (first | exact Ky _ | exact KAT _ _ _ | exact KAJ _ | exact KAK _ _ _ | exact KAV _ _ _ | exact Kf | refine KZ rfl ?_ | refine Ko ?_ ?_)) (by repeat (first | exact Sh _ | apply St_)) (by first | exact KJ _ | exact KM _ _ _ | exact KN _ | exact Kd _ _ _ | exact KAD _ _ _ | rfl | simp [KM, KJ, KN]) ?_)
  refine KG ?_
  refine KE ?_
  refine Kc [13, 14] (by kernel_rfl) ?_
  refine KC 0 rfl (by kernel_rfl) (Nb rfl) (KI (o' := 0) Try.underlying192 rfl rfl rfl sz_190 (by decide)) ?_
  refine LAny.take 1 rfl (by kernel_rfl) (Nb rfl) (KL rfl (by repeat (first | exact Mh _ | apply Mt)) (KP Try.underlying190 rfl (by first | rfl | exact Kn _ _ _ (by omega) | exact Kl _ (by omega) | exact Kh _ (by omega) | exact dv_m _ _ _ (by omega)))) ?_
  refine KC 2 rfl (by kernel_rfl) (Nb rfl) (KI (o' := 0) Try.underlying230 rfl rfl rfl sz_228 (by decide)) ?_
  refine KC 3 rfl (by kernel_rfl) (Nb rfl) (KI (o' := 0) Try.underlying230 rfl rfl rfl sz_228 (by decide)) ?_
  refine KC 4 rfl (by kernel_rfl) (Nb rfl) (Det.slArr Try.underlying228 sz_22 rfl) ?_
  refine LAny.toP ?_
  refine LAnyP.start 11 rfl (.inl zr_230) (Nb rfl) rfl rfl rfl ?_
  refine LAnyP.start 12 rfl (.inl zr_25) (Nb rfl) rfl rfl rfl ?_
  refine LAnyP.step 5 rfl rfl rfl (Nb rfl) (by kernel_rfl) rfl (LExt.callF (first := []) rfl en_187 rfl (fun w hw => c_length (A * B) b7 18 18 _ true w (hw _ (by repeat (first | exact Mh _ | apply Mt))) (Nat.le_refl _) (by decide) (mul_pow18 hA hB 18 rfl))) ?_
  rintro _ _ ⟨rfl, rfl⟩
  refine LAnyP.takeP 6 rfl (by kernel_rfl) (Nb rfl) rfl (Det.slArrH Try.underlying228 sz_22 rfl rfl (by omega) (by have := nw_mul hA hB; omega)) ?_
  refine LAnyP.step 7 rfl rfl rfl (Nb rfl) (by kernel_rfl) rfl (LExt.callF (first := []) rfl en_186 rfl (fun w hw => c_divide m (A * B) bd b7 (nw (A * B)) 18 _ true hm0 w (hw _ (by repeat (first | exact Mh _ | apply Mt))) (hw _ (by repeat (first | exact Mh _ | apply Mt))) hm (nw_mul hA hB) (by decide) (lt_nw _))) ?_
  rintro _ _ ⟨rfl, rfl⟩
  refine LAnyP.takeP 8 rfl (by kernel_rfl) (Nb rfl) rfl (KD rfl) ?_
  refine LAnyP.takeP 9 rfl (by kernel_rfl) (Nb rfl) rfl (Kt rfl rfl) ?_
  refine LAnyP.takeP 10 rfl (by kernel_rfl) (Nb rfl) rfl (Kt rfl rfl) ?_
  refine LAnyP.mat (by kernel_rfl) (fun b9 => ?_)
  refine LAnyP.mat (by kernel_rfl) (fun b8 => ?_)
  refine LAnyP.toAny ?_
  refine KAA 13 rfl rfl (by kernel_rfl) (by kernel_rfl) (Kb rfl rfl sz_230 (by repeat (first | exact Ky _ | exact KAT _ _ _ | exact KAJ _ | exact KAK _ _ _ | exact KAV _ _ _ | exact Kf | refine KZ rfl ?_ | refine Ko ?_ ?_)) (by repeat (first | exact Sh _ | apply St_)) (by first | exact KJ _ | exact KM _ _ _ | exact KN _ | exact Kd _ _ _ | exact KAD _ _ _ | rfl | simp [KM, KJ, KN]) ?_)
  refine KAA 14 rfl rfl (by kernel_rfl) (by kernel_rfl) (Kb rfl rfl sz_25 (by repeat (first | exact Ky _ | exact KAT _ _ _ | exact KAJ _ | exact KAK _ _ _ | exact KAV _ _ _ | exact Kf | refine KZ rfl ?_ | refine Ko ?_ ?_)) (by repeat (first | exact Sh _ | apply St_)) (by first | exact KJ _ | exact KM _ _ _ | exact KN _ | exact Kd _ _ _ | exact KAD _ _ _ | rfl | simp [KM, KJ, KN]) ?_)
  refine Kj (by kernel_rfl) ?_
  refine KE (KB ?_)
  refine LOps.det (KL rfl (by repeat (first | exact Mh _ | apply Mt)) (by exact KR Try.underlying25 rfl sz_25)) (Nb rfl) ?_
  refine KK rfl (Kb rfl rfl sz_25 (by repeat (first | exact Ky _ | exact KAT _ _ _ | exact KAJ _ | exact KAK _ _ _ | exact KAV _ _ _ | exact Kf | refine KZ rfl ?_ | refine Ko ?_ ?_)) (by repeat (first | exact Sh _ | apply St_)) (by first | exact KJ _ | exact KM _ _ _ | exact KN _ | exact Kd _ _ _ | exact KAD _ _ _ | rfl | simp [KM, KJ, KN]) ?_)
  refine KG (KQ ?_)
  refine ⟨[_], .cons ⟨_, _, _, rfl, (by repeat (first | exact Mh _ | apply Mt)), by exact KR Try.underlying25 rfl sz_25⟩ .nil, fun a w' hr => ⟨?_, hr.fr.below⟩⟩
  rfl
end Go.Proofs.Ytljblbgogjieaaa
set_option linter.unusedVariables false
namespace Go.Proofs.Ytljblbgogjieaaa
open Go Go.RowKit
theorem word_digits (A i : Nat) : limb A i = D.limb A (2 * i) + 4294967296 * D.limb A (2 * i + 1) := by
  unfold limb D.limb
  have h1 : A / 2 ^ (32 * (2 * i + 1)) = A / 2 ^ (64 * i) / 4294967296 := by
    rw [Nat.div_div_eq_div_mul, show (4294967296 : Nat) = 2 ^ 32 from rfl, ← Nat.pow_add]; congr 2; omega
  rw [h1, show 32 * (2 * i) = 64 * i by omega]
  generalize A / 2 ^ (64 * i) = q
  omega
theorem digit_low (A i : Nat) : limb A i % 4294967296 = D.limb A (2 * i) := by
  have := word_digits A i
  have := D.limb_lt A (2 * i)
  omega
theorem digit_high (A i : Nat) : limb A i / 4294967296 = D.limb A (2 * i + 1) := by
  have := word_digits A i
  have := D.limb_lt A (2 * i)
  omega
theorem or_digits {a b : Nat} (ha : a < 4294967296) (hb : b < 4294967296) : (a ||| b * 4294967296 % 18446744073709551616) = a + 4294967296 * b := by
  have h := or_high (a := a) (z := b) (s := 32) ha (by decide)
  rw [show (2 : Nat) ^ 32 = 4294967296 from rfl] at h
  rw [h, Nat.mod_eq_of_lt (by omega)]; omega
theorem word_or (A i : Nat) : (D.limb A (2 * i) ||| D.limb A (2 * i + 1) * 4294967296 % 18446744073709551616) = limb A i := by
  rw [or_digits (D.limb_lt _ _) (D.limb_lt _ _), word_digits]
theorem w9_digits {i : Nat} (h : i = 18) : 2 ^ (32 * i) = W9 := by
  obtain ⟨j, hj⟩ : ∃ j : Nat, j = 9 := ⟨9, rfl⟩
  rw [← w9 hj, show 32 * i = 64 * j by omega]
theorem lt_w9_dig {A : Nat} (h : A < W9) : ∀ n, n = 18 → A < 2 ^ (32 * n) := fun n hn => by rw [w9_digits hn]; exact h
namespace D
theorem limb_zero (i : Nat) : limb 0 i = 0 := by simp [limb]
theorem nw_ne {A : Nat} (h : nw A ≠ 0) : 2 ^ (32 * (nw A - 1)) ≤ A := by
  have hA : A ≠ 0 := fun e => h (by rw [e]; rfl)
  have h1 := blen_pos hA
  have h2 := blen_ne hA
  exact Nat.le_trans (Nat.pow_le_pow_right (by decide) (by unfold nw; omega)) h1
theorem bits_words {A : Nat} (h : nw A ≠ 0) : 32 * (nw A - 1) + blen (limb A (nw A - 1)) = blen A := by
  have h1 := nw_ne h
  rw [limb_top (A := A) (n := nw A - 1) (by rw [show nw A - 1 + 1 = nw A by omega]; exact lt_nw A)]
  have := blen_shr h1
  omega
theorem nw_mono {A B : Nat} (h : A ≤ B) : nw A ≤ nw B := nw_le (Nat.lt_of_le_of_lt h (lt_nw B))
theorem lt_of_nw {A B : Nat} (h : nw A < nw B) : A < B := Nat.lt_of_not_le fun h' => by have := nw_mono h'; omega
theorem carry_borrow {A B : Nat} (h : B ≤ A) (i : Nat) : carry B (A - B) i = borrow A B i := by
  have hp := pow64_pos i
  have h0 : (B % 2 ^ (32 * i) + (A - B) % 2 ^ (32 * i)) % 2 ^ (32 * i) = A % 2 ^ (32 * i) := by rw [← Nat.add_mod]; congr 1; omega
  unfold carry borrow
  have h1 := Nat.mod_lt B hp
  have h2 := Nat.mod_lt (A - B) hp
  generalize B % 2 ^ (32 * i) = b at *
  generalize (A - B) % 2 ^ (32 * i) = d at *
  generalize A % 2 ^ (32 * i) = a at *
  generalize 2 ^ (32 * i) = M at *
  by_cases hc : b + d < M
  · rw [Nat.mod_eq_of_lt hc] at h0
    rw [Nat.div_eq_of_lt hc, if_neg (by omega)]
  · have e : b + d = (b + d - M) + M := by omega
    rw [e, Nat.add_mod_right, Nat.mod_eq_of_lt (by omega)] at h0
    rw [e, Nat.add_div_right _ hp, Nat.div_eq_of_lt (by omega), if_pos (by omega)]
theorem sub_limb {A B : Nat} (h : B ≤ A) (i : Nat) : (limb A i + 4294967296 - limb B i - borrow A B i) % 4294967296 = limb (A - B) i ∧ 1 - (limb A i + 4294967296 - limb B i - borrow A B i) / 4294967296 = borrow A B (i + 1) := by
  have h1 := add_limb B (A - B) i
  rw [carry_borrow h, carry_borrow h, show B + (A - B) = A by omega] at h1
  have h2 := limb_lt A i
  have h3 := limb_lt B i
  have h4 := limb_lt (A - B) i
  have h5 := borrow_le A B i
  have h6 := borrow_le A B (i + 1)
  omega
theorem add_lt {A B k : Nat} (hA : A < 2 ^ (32 * k)) (hB : B < 2 ^ (32 * k)) : A + B < 2 ^ (32 * (k + 1)) := by
  rw [pow64_succ]; omega
theorem carry_top {A B k : Nat} (hA : A < 2 ^ (32 * k)) (hB : B < 2 ^ (32 * k)) : carry A B k = limb (A + B) k := by
  unfold carry limb
  rw [Nat.mod_eq_of_lt hA, Nat.mod_eq_of_lt hB, Nat.mod_eq_of_lt]
  rw [Nat.div_lt_iff_lt_mul (pow64_pos k)]
  have := pow64_pos k
  omega
theorem ext {n A B : Nat} (hA : A < 2 ^ (32 * n)) (hB : B < 2 ^ (32 * n)) (h : ∀ i, i < n → limb A i = limb B i) : A = B := by
  have key : ∀ k, k ≤ n → A / 2 ^ (32 * (n - k)) = B / 2 ^ (32 * (n - k)) := by
    intro k
    induction k with
    | zero => intro _; rw [Nat.sub_zero, Nat.div_eq_of_lt hA, Nat.div_eq_of_lt hB]
    | succ k ih =>
      intro hk
      refine (div_eq_iff_limb A B (n - (k + 1))).2 ⟨?_, h _ (by omega)⟩
      rw [show n - (k + 1) + 1 = n - k by omega]
      exact ih (by omega)
  have := key n (Nat.le_refl _)
  simpa using this
theorem limb_below {V y s i k w : Nat} (hs : s * w = 32) (hk : k < w) (hi : V % 2 ^ (s * (w * i + k + 1)) = 0) (hy : y < 2 ^ s) : (limb V i ||| y * 2 ^ (s * k) % 4294967296) < 4294967296 ∧
    ∀ j, limb (V + y * 2 ^ (s * (w * i + k))) j = if j = i then (limb V i ||| y * 2 ^ (s * k) % 4294967296) else limb V j := by
  have h1 : 2 ^ (s * (w * i + k)) = 2 ^ (s * k) * 2 ^ (32 * i) := by
    rw [← Nat.pow_add, Nat.mul_add, ← Nat.mul_assoc, hs]; congr 1; omega
  have hle : s * k + s ≤ 32 := by
    have : s * (k + 1) ≤ s * w := Nat.mul_le_mul_left _ hk
    rw [Nat.mul_succ] at this
    omega
  have hpos : 0 < 2 ^ (s * k) := Nat.pow_pos (by decide)
  have hylt : y * 2 ^ (s * k) < 2 ^ (s * k + s) := by
    rw [Nat.add_comm, Nat.pow_add]; exact Nat.mul_lt_mul_of_pos_right hy hpos
  have hle2 : 2 ^ (s * k + s) ≤ 4294967296 := by
    have : 2 ^ (s * k + s) ≤ 2 ^ 32 := Nat.pow_le_pow_right (by decide) hle
    exact this
  have h2 : 2 ^ (s * (w * i + k + 1)) = 2 ^ (s * k + s) * 2 ^ (32 * i) := by
    rw [← Nat.pow_add, Nat.mul_add, Nat.mul_add, ← Nat.mul_assoc, hs]; congr 1; omega
  obtain ⟨m, hm⟩ := Nat.dvd_of_mod_eq_zero hi
  have hl : limb V i = m * 2 ^ (s * k + s) % 4294967296 := by
    unfold limb
    rw [hm, h2, show 2 ^ (s * k + s) * 2 ^ (32 * i) * m = m * 2 ^ (s * k + s) * 2 ^ (32 * i) by rw [Nat.mul_comm _ m, Nat.mul_assoc], Nat.mul_div_cancel _ (pow64_pos _)]
  have ho : (limb V i ||| y * 2 ^ (s * k) % 4294967296) = limb V i + y * 2 ^ (s * k) := by
    rw [Nat.mod_eq_of_lt (show y * 2 ^ (s * k) < 4294967296 by omega), hl, Nat.or_comm, or_high hylt hle, Nat.add_comm]
  have hlt : limb V i + y * 2 ^ (s * k) < 4294967296 := by
    rw [← ho]
    exact Nat.or_lt_two_pow (n := 32) (limb_lt V i) (Nat.mod_lt _ (by decide))
  rw [ho]
  refine ⟨hlt, fun j => ?_⟩
  have := limb_addl V (y * 2 ^ (s * k)) i j hlt
  rw [← this, h1, Nat.mul_assoc]
end D
theorem limb_piece64 {V y s i k w : Nat} (hs : s * w = 64) (hk : k < w) (hi : V < 2 ^ (s * (w * i + k))) (hy : y < 2 ^ s) : (limb V i ||| y * 2 ^ (s * k) % 18446744073709551616) < 18446744073709551616 ∧
    ∀ j, limb (y * 2 ^ (s * (w * i + k)) + V) j = if j = i then (limb V i ||| y * 2 ^ (s * k) % 18446744073709551616) else limb V j := by
  have h1 : 2 ^ (s * (w * i + k)) = 2 ^ (s * k) * 2 ^ (64 * i) := by
    rw [← Nat.pow_add, Nat.mul_add, ← Nat.mul_assoc, hs]; congr 1; omega
  have hl : limb V i < 2 ^ (s * k) := by
    have : V / 2 ^ (64 * i) < 2 ^ (s * k) := by
      rw [Nat.div_lt_iff_lt_mul (pow64_pos _), ← h1]; exact hi
    exact Nat.lt_of_le_of_lt (Nat.mod_le _ _) this
  have hle : s * k + s ≤ 64 := by
    have : s * (k + 1) ≤ s * w := Nat.mul_le_mul_left _ hk
    rw [Nat.mul_succ] at this
    omega
  have hlt : y * 2 ^ (s * k) + 2 ^ (s * k) ≤ 18446744073709551616 := by
    have h2 : (y + 1) * 2 ^ (s * k) ≤ 2 ^ s * 2 ^ (s * k) := Nat.mul_le_mul_right _ hy
    have h3 : 2 ^ s * 2 ^ (s * k) ≤ 2 ^ 64 := by rw [← Nat.pow_add]; exact Nat.pow_le_pow_right (by decide) (by omega)
    rw [Nat.add_mul] at h2
    have h4 : (2 : Nat) ^ 64 = 18446744073709551616 := rfl
    omega
  have hpos : 0 < 2 ^ (s * k) := Nat.pow_pos (by decide)
  have ho : (limb V i ||| y * 2 ^ (s * k) % 18446744073709551616) = limb V i + y * 2 ^ (s * k) := by
    rw [or_high hl (by omega), Nat.mod_eq_of_lt (by omega)]
  rw [ho]
  refine ⟨by omega, fun j => ?_⟩
  have := limb_addl V (y * 2 ^ (s * k)) i j (by omega)
  rw [← this, h1, Nat.mul_assoc, Nat.add_comm]
end Go.Proofs.Ytljblbgogjieaaa
set_option linter.unusedVariables false
set_option linter.unusedSimpArgs false
set_option maxRecDepth 20000
namespace Go.Proofs.Ytljblbgogjieaaa
open Go Go.RowKit
theorem c_trim (A b n c m : Nat) (ty : TypeId) (wr : Bool) (w : World) (hb : (Item.blk b ⟨wr, vec .u32 m (D.limb A), ty, (0, 0)⟩).holds w) (hnm : n ≤ m) (hnc : n ≤ c) (hc : n < 9223372036854775808) (hA : A < 2 ^ (32 * n)) : Calls Try.prog 120 ([.slice (some ⟨b, 0, none⟩) n c] : List Value).toArray w (fun e w' => e = .returned (.slice (some ⟨b, 0, none⟩) (D.nw A) c) ∧ Below w.heap.size w w') := by
  refine KAB (N := 21) (rs := [.tmp 2]) [.blk b ⟨false, vec .u32 m (D.limb A), ty, (0, 0)⟩] Try.func120 rfl Try.ntmps120 Try.results120 (Nb rfl) ⟨hb, trivial⟩ rfl ?_
  show LCode _ _ _ ⟨_, _⟩ _
  refine KE (KB ?_)
  refine KA (KF rfl) (Nb rfl) ?_
  refine KG ?_
  refine KE (KB ?_)
  refine KA (KD rfl) (Nb rfl) ?_
  refine KA (KAY Try.underlying29 rfl) (Nb rfl) ?_
  refine KA (KF rfl) (Nb rfl) ?_
  refine KG ?_
  refine KE ?_
  refine LCode.block ?_
  refine KAH (α := Nat) (fun x => x ≤ n ∧ A < 2 ^ (32 * x)) (fun x => ⟨[(0, .slice (some ⟨b, 0, none⟩) n c), (3, .int .i64 ((x : Nat) : Int))], [.blk b ⟨false, vec .u32 m (D.limb A), ty, (0, 0)⟩]⟩) (fun x => x) (n) (⟨Nat.le_refl _, hA⟩) (KAE ⟨rfl, rfl, trivial⟩ (by repeat (first | exact Sel.nil _ | refine Sel.cons (by repeat (first | exact Ph _ | apply Pt_)) ?_))) ?_
  rintro x ⟨hx, hlt⟩
  refine KE ?_
  refine KE ?_
  by_cases h0 : 0 < x
  ·
    refine KB ?_
    refine KA (KD rfl) (Nb rfl) ?_
    refine KA (KH rfl rfl (br_t (br_gtr (b := 0)) h0)) (Nb rfl) ?_
    refine KA (KD rfl) (Nb rfl) ?_
    refine Kg rfl rfl (KD rfl) (Nb rfl) ?_
    refine Kg rfl rfl (KD rfl) (Nb rfl) ?_
    refine Kg rfl rfl (KH rfl rfl (br_sub (b := 1) (by omega) (by omega))) (Nb rfl) ?_
    refine Kg rfl rfl (Kv Try.underlying29 sz_56 rfl rfl (by omega)) (Nb rfl) ?_
    refine LOps.detG rfl rfl (KL rfl (by repeat (first | exact Mh _ | apply Mt)) (KP Try.underlying56 rfl (by exact Kn _ _ _ (show x - 1 < m by omega)))) (Nb rfl) ?_
    refine Kg rfl rfl (KH rfl rfl (br_eql (b := 0))) (Nb rfl) ?_
    refine KA (Km rfl rfl) (Nb rfl) ?_
    refine KG ?_
    first | refine KU rfl (fun h15 => ?_) (fun h15 => ?_) | refine KX rfl (fun h15 => ?_) (fun h15 => ?_)
    ·
      have h15 : D.limb A (x - 1) = 0 := by have := h15; simpa using this
      refine Ke ?_
      refine LCode.block ?_
      refine KB ?_
      refine KA (KD rfl) (Nb rfl) ?_
      refine KA (KH rfl rfl (br_sub (b := 1) (by omega) (by omega))) (Nb rfl) ?_
      refine KA (KF rfl) (Nb rfl) ?_
      refine KG ?_
      refine ⟨x - 1, ⟨by omega, ?_⟩, by omega, KAE ⟨rfl, rfl, trivial⟩ (by repeat (first | exact Sel.nil _ | refine Sel.cons (by repeat (first | exact Ph _ | apply Pt_)) ?_))⟩
      exact D.lt_of_limb_zero (A := A) (n := x - 1) (by rw [show x - 1 + 1 = x by omega]; exact hlt) h15
    ·
      have h15 : ¬ D.limb A (x - 1) = 0 := by have := h15; simpa using this
      refine KAC ?_
      refine KE (KB ?_)
      refine KA (KD rfl) (Nb rfl) ?_
      refine KA (KD rfl) (Nb rfl) ?_
      refine KA (Det.slH Try.underlying29 sz_56 rfl rfl (by omega) (by omega)) (Nb rfl) ?_
      refine KA (KF rfl) (Nb rfl) ?_
      refine KG (KQ ?_)
      have he : D.nw A = x := D.nw_eq hlt (.inr (D.le_of_limb (A := A) (n := x - 1) (by rw [show x - 1 + 1 = x by omega]; exact hlt) h15))
      refine ⟨[_], .cons rfl .nil, fun a w' hr => ⟨?_, hr.fr.below⟩⟩
      rw [he]; rfl
  ·
    refine KB ?_
    refine KA (KD rfl) (Nb rfl) ?_
    refine KA (KH rfl rfl (br_f (br_gtr (b := 0)) h0)) (Nb rfl) ?_
    refine KA (KD rfl) (Nb rfl) ?_
    refine Kr rfl rfl rfl (Nb rfl) ?_
    refine Kr rfl rfl rfl (Nb rfl) ?_
    refine Kr rfl rfl rfl (Nb rfl) ?_
    refine Kr rfl rfl rfl (Nb rfl) ?_
    refine Kr rfl rfl rfl (Nb rfl) ?_
    refine Kr rfl rfl rfl (Nb rfl) ?_
    refine KA (KAL rfl rfl) (Nb rfl) ?_
    refine KG ?_
    refine Ku rfl ?_
    refine KAC ?_
    refine KE (KB ?_)
    refine KA (KD rfl) (Nb rfl) ?_
    refine KA (KD rfl) (Nb rfl) ?_
    refine KA (Det.slH Try.underlying29 sz_56 rfl rfl (by omega) (by omega)) (Nb rfl) ?_
    refine KA (KF rfl) (Nb rfl) ?_
    refine KG (KQ ?_)
    have he : D.nw A = x := D.nw_eq hlt (.inl (by omega))
    refine ⟨[_], .cons rfl .nil, fun a w' hr => ⟨?_, hr.fr.below⟩⟩
    rw [he]; rfl
theorem c_n_From (A : Nat) (hA : A < W9) (w : World)  : Calls Try.prog 52 ([natV A] : List Value).toArray w (fun e w' => NumR w ([]) (A) (fun v => v) e w') := by
  refine KAB (N := 33) (rs := [.tmp 2]) [] Try.func52 rfl Try.ntmps52 Try.results52 (Nb rfl) trivial rfl ?_
  show LCode _ _ _ ⟨_, _⟩ _
  refine KE (KB ?_)
  refine KK rfl (KY (KS (KAM rfl) (Nb rfl) (fun b1 => ?_)))
  refine KA (KF rfl) (Nb rfl) ?_
  refine KG ?_
  refine KE (KB ?_)
  refine KK rfl (KY (KS (Makes.mkV Try.underlying29 inf_56 rfl rfl (by decide) (by decide)) (Nb rfl) (fun b5 => ?_)))
  refine KA (KF rfl) (Nb rfl) ?_
  refine KG ?_
  refine KE ?_
  refine KE (KB ?_)
  refine KA (KF (v := .int .i64 ((0 : Nat) : Int)) rfl) (Nb rfl) ?_
  refine KG ?_
  refine LCode.block ?_
  refine KAH (α := Nat) (fun x => x ≤ 9) (fun x => ⟨[(1, .pointer (some ⟨b1, 0, none⟩)), (3, .slice (some ⟨b5, 0, none⟩) 18 18), (4, .int .i64 ((x : Nat) : Int))], [.blk b5 ⟨true, vec .u32 18 (fun j => if j < 2 * x then D.limb A j else 0), 56, (0, 0)⟩, .blk b1 ⟨true, natL A, 25, (0, 0)⟩]⟩) (fun x => 9 - x) (0) (Nat.zero_le _) (KAE ⟨rfl, rfl, rfl, trivial⟩ (by repeat (first | exact Sel.nil _ | refine Sel.cons (by repeat (first | exact Ph _ | apply Pt_)) ?_))) ?_
  intro x hx
  refine KE ?_
  refine KE (KB ?_)
  refine KA (KD rfl) (Nb rfl) ?_
  refine KA (KH rfl rfl (br_lss (b := 9))) (Nb rfl) ?_
  refine KG ?_
  first | refine KU rfl (fun h7 => ?_) (fun h7 => ?_) | refine KX rfl (fun h7 => ?_) (fun h7 => ?_)
  ·
    refine Ke ?_
    refine KE ?_
    refine LCode.block ?_
    refine KE (KB ?_)
    refine KA (KD rfl) (Nb rfl) ?_
    refine KA (KD rfl) (Nb rfl) ?_
    refine KA (KH rfl rfl (br_mul (a := 2) (by omega))) (Nb rfl) ?_
    refine KA (KD rfl) (Nb rfl) ?_
    refine KA (KI (o' := 0) Try.underlying25 rfl rfl rfl sz_23 (by decide)) (Nb rfl) ?_
    refine KA (Kx Try.underlying23 sz_22 rfl rfl (by omega)) (Nb rfl) ?_
    refine LOps.det (KL rfl (by repeat (first | exact Mh _ | apply Mt)) (KP Try.underlying22 rfl (by exact Kl _ (by omega)))) (Nb rfl) ?_
    refine KA (KH rfl rfl (br_and64 (b := 4294967295) (limb_lt _ _) (by decide))) (Nb rfl) ?_
    refine KA (KAh Try.underlying22 Try.underlying56 rfl) (Nb rfl) ?_
    refine KA (Kv Try.underlying29 sz_56 rfl rfl (by omega)) (Nb rfl) ?_
    refine KK rfl (Kw rfl rfl rfl sz_56 (by repeat (first | exact Sh _ | apply St_)) (by first | (simp only [KM, KJ, KN, KAI]; omega) | (simp; omega)) (by first | exact KAX _ _ _ _ _ | exact KAb _ _ _ _ (by omega) | exact KAZ _ _ _ _ | rfl) (by simp) ?_)
    refine KG ?_
    refine KB ?_
    refine KA (KD rfl) (Nb rfl) ?_
    refine KA (KD rfl) (Nb rfl) ?_
    refine KA (KH rfl rfl (br_mul (a := 2) (by omega))) (Nb rfl) ?_
    refine KA (KH rfl rfl (KAG (b := 1) (by omega))) (Nb rfl) ?_
    refine KA (KD rfl) (Nb rfl) ?_
    refine KA (KI (o' := 0) Try.underlying25 rfl rfl rfl sz_23 (by decide)) (Nb rfl) ?_
    refine KA (Kx Try.underlying23 sz_22 rfl rfl (by omega)) (Nb rfl) ?_
    refine LOps.det (KL rfl (by repeat (first | exact Mh _ | apply Mt)) (KP Try.underlying22 rfl (by exact Kl _ (by omega)))) (Nb rfl) ?_
    refine KA (KH rfl rfl (KAd (b := 32) (limb_lt _ _))) (Nb rfl) ?_
    refine KA (KAh Try.underlying22 Try.underlying56 rfl) (Nb rfl) ?_
    refine KA (Kv Try.underlying29 sz_56 rfl rfl (by omega)) (Nb rfl) ?_
    refine KK rfl (Kw rfl rfl rfl sz_56 (by repeat (first | exact Sh _ | apply St_)) (by first | (simp only [KM, KJ, KN, KAI]; omega) | (simp; omega)) (by first | exact KAX _ _ _ _ _ | exact KAb _ _ _ _ (by omega) | exact KAZ _ _ _ _ | rfl) (by simp) ?_)
    refine KG ?_
    refine KB ?_
    refine KA (KD rfl) (Nb rfl) ?_
    refine KA (KH rfl rfl (KAG (b := 1) (by omega))) (Nb rfl) ?_
    refine KA (KF rfl) (Nb rfl) ?_
    refine KG ?_
    refine ⟨x + 1, by omega, by omega, KAi (Sub.cells (b := b5) (cs' := vec .u32 18 (fun j => if j < 2 * (x + 1) then D.limb A j else 0)) (by repeat (first | exact Sh _ | apply St_)) (KAP fun j hj => ?_)) (KAE ⟨rfl, rfl, rfl, trivial⟩ (by repeat (first | exact Sel.nil _ | refine Sel.cons (by repeat (first | exact Ph _ | apply Pt_)) ?_)))⟩
    by_cases e : j = 2 * x + 1
    · rw [if_pos e, if_pos (by omega), e, ← digit_high]
      exact Nat.mod_eq_of_lt (by have := limb_lt A x; rw [show (2 : Nat) ^ 32 = 4294967296 from rfl]; omega)
    · rw [if_neg e]
      by_cases e2 : j = 2 * x
      · rw [if_pos e2, if_pos (by omega), e2, and32, Nat.mod_mod, digit_low]
      · rw [if_neg e2]
        by_cases e3 : j < 2 * x
        · rw [if_pos e3, if_pos (by omega)]
        · rw [if_neg e3, if_neg (by omega)]
  ·
    refine KAC ?_
    refine KE ?_
    obtain rfl : x = 9 := by omega
    refine LCode.sub (Sub.cells (b := b5) (cs' := vec .u32 18 (D.limb A)) (by repeat (first | exact Sh _ | apply St_)) (KAP fun j hj => if_pos (by omega))) ?_
    refine KB ?_
    refine KA (KD rfl) (Nb rfl) ?_
    refine KK rfl (KY (KO (first := []) rfl en_120 rfl (Nb rfl) (fun w hw => c_trim A b5 18 18 18 _ true w (hw _ (by repeat (first | exact Mh _ | apply Mt))) (Nat.le_refl _) (Nat.le_refl _) (by decide) (lt_w9_dig hA 18 rfl)) ?_))
    refine KA (KF rfl) (Nb rfl) ?_
    refine KG (KQ ?_)
    refine ⟨[_], .cons rfl .nil, fun a w' hr => hr.num (by repeat (first | exact Mh _ | apply Mt)) (lt_w9_dig hA 18 rfl)⟩
theorem c_n_digit (q : NV) (A n i : Nat) (w : World) (hq : (numI q A n).holds w) : Calls Try.prog 118 ([slV q n, .int .i64 ((i : Nat) : Int)] : List Value).toArray w (fun e w' => e = .returned (.int .u64 ((D.limb A i : Nat) : Int)) ∧ Below w.heap.size w w') := by
  have hA := numI_lt hq
  refine KAB (N := 14) (rs := [.tmp 4]) [numI q A n] Try.func118 rfl Try.ntmps118 Try.results118 (Nb rfl) ⟨hq, trivial⟩ rfl ?_
  show LCode _ _ _ ⟨_, _⟩ _
  refine KE (KB ?_)
  refine KA (KF (v := .int .u64 ((0 : Nat) : Int)) rfl) (Nb rfl) ?_
  refine KG ?_
  refine KE ?_
  refine KE (KB ?_)
  refine KA (KD rfl) (Nb rfl) ?_
  refine KA (KD rfl) (Nb rfl) ?_
  refine KA (KAY Try.underlying29 rfl) (Nb rfl) ?_
  refine KA (KH rfl rfl (br_lss)) (Nb rfl) ?_
  refine KG ?_
  first | refine KU rfl (fun h8 => ?_) (fun h8 => ?_) | refine KX rfl (fun h8 => ?_) (fun h8 => ?_)
  ·
    have h8 : i < n := h8
    refine KE (KB ?_)
    refine KA (KD rfl) (Nb rfl) ?_
    refine KA (KD rfl) (Nb rfl) ?_
    refine KA (KAj Try.underlying29 sz_56 rfl rfl (by omega)) (Nb rfl) ?_
    refine LOps.det (Det.loadN Try.underlying56 rfl rfl (by repeat (first | exact Mh _ | apply Mt)) (by omega)) (Nb rfl) ?_
    refine KA (KAU Try.underlying56 Try.underlying22 rfl (by first | omega | exact Nat.lt_trans (D.limb_lt _ _) (by decide))) (Nb rfl) ?_
    refine KA (KF rfl) (Nb rfl) ?_
    refine KG (KQ ?_)
    refine ⟨[_], .cons rfl .nil, fun a w' hr => ⟨rfl, hr.fr.below⟩⟩
  ·
    have h8 : ¬ i < n := h8
    refine Ke ?_
    refine KE (KB ?_)
    refine KA (KF (v := .int .u64 ((0 : Nat) : Int)) rfl) (Nb rfl) ?_
    refine KG (KQ ?_)
    have hz : D.limb A i = 0 := D.limb_high (n := n) hA (by omega)
    refine ⟨[_], .cons rfl .nil, fun a w' hr => ⟨?_, hr.fr.below⟩⟩
    rw [hz]; rfl
end Go.Proofs.Ytljblbgogjieaaa
set_option linter.unusedVariables false
set_option linter.unusedSimpArgs false
set_option maxRecDepth 20000
namespace Go.Proofs.Ytljblbgogjieaaa
open Go Go.RowKit
theorem c_n_Nat (q : NV) (A n : Nat) (w : World) (hq : (numI q A n).holds w) : Calls Try.prog 50 ([slV q n] : List Value).toArray w (fun e w' => e = .returned (natV A) ∧ Below w.heap.size w w') := by
  refine KAB (N := 24) (rs := [.cell 2 25]) [numI q A n] Try.func50 rfl Try.ntmps50 Try.results50 (Nb rfl) ⟨hq, trivial⟩ rfl ?_
  show LCode _ _ _ ⟨_, _⟩ _
  refine KE (KB ?_)
  refine KK rfl (KY (KS (Kp zr_25) (Nb rfl) (fun b2 => ?_)))
  refine KG ?_
  refine KE (KB ?_)
  refine KK rfl (KY (KS (Kp zr_25) (Nb rfl) (fun b3 => ?_)))
  refine KG ?_
  refine KE ?_
  refine KE (KB ?_)
  refine KA (KF (v := .int .i64 ((0 : Nat) : Int)) rfl) (Nb rfl) ?_
  refine KG ?_
  refine LCode.block ?_
  refine KAH (α := Nat) (fun x => x ≤ 9) (fun x => ⟨[(0, slV q n), (2, .pointer (some ⟨b2, 0, none⟩)), (3, .pointer (some ⟨b3, 0, none⟩)), (4, .int .i64 ((x : Nat) : Int))], [.blk b3 ⟨true, vec .u64 9 (fun j => if j < x then limb A j else 0), 25, (0, 0)⟩, .blk b2 ⟨true, vec .u64 9 (fun _ => 0), 25, (0, 0)⟩, numI q A n]⟩) (fun x => 9 - x) (0) (Nat.zero_le _) (KAE ⟨rfl, rfl, rfl, rfl, trivial⟩ (by repeat (first | exact Sel.nil _ | refine Sel.cons (by repeat (first | exact Ph _ | apply Pt_)) ?_))) ?_
  intro x hx
  refine KE ?_
  refine KE (KB ?_)
  refine KA (KD rfl) (Nb rfl) ?_
  refine KA (KH rfl rfl (br_lss (b := 9))) (Nb rfl) ?_
  refine KG ?_
  first | refine KU rfl (fun h6 => ?_) (fun h6 => ?_) | refine KX rfl (fun h6 => ?_) (fun h6 => ?_)
  ·
    refine Ke ?_
    refine KE ?_
    refine LCode.block ?_
    refine KB ?_
    refine KA (KD rfl) (Nb rfl) ?_
    refine KA (KD rfl) (Nb rfl) ?_
    refine KA (KD rfl) (Nb rfl) ?_
    refine KA (KH rfl rfl (br_mul (a := 2) (by omega))) (Nb rfl) ?_
    refine KK rfl (KY (KO (first := []) rfl en_118 rfl (Nb rfl) (fun w hw => c_n_digit _ _ _ _ w (hw _ (by repeat (first | exact Mh _ | apply Mt)))) ?_))
    refine KA (KD rfl) (Nb rfl) ?_
    refine KA (KD rfl) (Nb rfl) ?_
    refine KA (KH rfl rfl (br_mul (a := 2) (by omega))) (Nb rfl) ?_
    refine KA (KH rfl rfl (KAG (b := 1) (by omega))) (Nb rfl) ?_
    refine KK rfl (KY (KO (first := []) rfl en_118 rfl (Nb rfl) (fun w hw => c_n_digit _ _ _ _ w (hw _ (by repeat (first | exact Mh _ | apply Mt)))) ?_))
    refine KA (KH rfl rfl (br_shl64 (b := 32))) (Nb rfl) ?_
    refine KA (KH rfl rfl (br_or64 (Nat.lt_trans (D.limb_lt _ _) (by decide)) (Nat.mod_lt _ (by decide)))) (Nb rfl) ?_
    refine KA (KI (o' := 0) Try.underlying25 rfl rfl rfl sz_23 (by decide)) (Nb rfl) ?_
    refine KA (Kx Try.underlying23 sz_22 rfl rfl (by omega)) (Nb rfl) ?_
    refine KK rfl (Kw rfl rfl rfl sz_22 (by repeat (first | exact Sh _ | apply St_)) (by first | (simp only [KM, KJ, KN, KAI]; omega) | (simp; omega)) (by first | exact KAX _ _ _ _ _ | exact KAb _ _ _ _ (by omega) | exact KAZ _ _ _ _ | rfl) (by simp) ?_)
    refine KG ?_
    refine KB ?_
    refine KA (KD rfl) (Nb rfl) ?_
    refine KA (KH rfl rfl (KAG (b := 1) (by omega))) (Nb rfl) ?_
    refine KA (KF rfl) (Nb rfl) ?_
    refine KG ?_
    refine ⟨x + 1, by omega, by omega, KAi (Sub.cells (b := b3) (cs' := vec .u64 9 (fun j => if j < x + 1 then limb A j else 0)) (by repeat (first | exact Sh _ | apply St_)) (KAP fun j hj => ?_)) (KAE ⟨rfl, rfl, rfl, rfl, trivial⟩ (by repeat (first | exact Sel.nil _ | refine Sel.cons (by repeat (first | exact Ph _ | apply Pt_)) ?_)))⟩
    by_cases e : j = x
    · rw [if_pos e, if_pos (by omega), e]
      exact word_or A x
    · rw [if_neg e]
      by_cases e3 : j < x
      · rw [if_pos e3, if_pos (by omega)]
      · rw [if_neg e3, if_neg (by omega)]
  ·
    refine KAC ?_
    refine KE ?_
    obtain rfl : x = 9 := by omega
    refine LCode.sub (Sub.cells (b := b3) (cs' := natL A) (by repeat (first | exact Sh _ | apply St_)) (KAP fun j hj => if_pos (by omega))) ?_
    refine KB ?_
    refine LOps.det (KL rfl (by repeat (first | exact Mh _ | apply Mt)) (by exact KR Try.underlying25 rfl sz_25)) (Nb rfl) ?_
    refine KK rfl (Kb rfl rfl sz_25 (by repeat (first | exact Ky _ | exact KAT _ _ _ | exact KAJ _ | exact KAK _ _ _ | exact KAV _ _ _ | exact Kf | refine KZ rfl ?_ | refine Ko ?_ ?_)) (by repeat (first | exact Sh _ | apply St_)) (by first | exact KJ _ | exact KM _ _ _ | exact KN _ | exact Kd _ _ _ | exact KAD _ _ _ | rfl | simp [KM, KJ, KN]) ?_)
    refine KG (KQ ?_)
    refine ⟨[_], .cons ⟨_, _, _, rfl, (by repeat (first | exact Mh _ | apply Mt)), by exact KR Try.underlying25 rfl sz_25⟩ .nil, fun a w' hr => ⟨?_, hr.fr.below⟩⟩
    rfl
theorem c_n_Cmp (q r : NV) (A B : Nat) (w : World) (hq : (numT q A).holds w) (hr : (numT r B).holds w) (hA : D.nw A ≤ 1000000) : Calls Try.prog 70 ([numV q A, numV r B] : List Value).toArray w (fun e w' => e = .returned (.int .i64 (cmpI A B)) ∧ Below w.heap.size w w') := by
  refine KAB (N := 41) (rs := [.tmp 4]) [numT q A, numT r B] Try.func70 rfl Try.ntmps70 Try.results70 (Nb rfl) ⟨hq, hr, trivial⟩ rfl ?_
  show LCode _ _ _ ⟨_, _⟩ _
  refine KE (KB ?_)
  refine KA (KF (v := .int .i64 ((0 : Nat) : Int)) rfl) (Nb rfl) ?_
  refine KG ?_
  refine KE ?_
  refine KE (KB ?_)
  refine KA (KD rfl) (Nb rfl) ?_
  refine KA (KAY Try.underlying29 rfl) (Nb rfl) ?_
  refine KA (KD rfl) (Nb rfl) ?_
  refine KA (KAY Try.underlying29 rfl) (Nb rfl) ?_
  refine KA (KH rfl rfl (br_neq)) (Nb rfl) ?_
  refine KG ?_
  first | refine KU rfl (fun h10 => ?_) (fun h10 => ?_) | refine KX rfl (fun h10 => ?_) (fun h10 => ?_)
  ·
    have h10 : ¬ D.nw A = D.nw B := by have := h10; simpa using this
    refine KE ?_
    refine KE (KB ?_)
    refine KA (KD rfl) (Nb rfl) ?_
    refine KA (KAY Try.underlying29 rfl) (Nb rfl) ?_
    refine KA (KD rfl) (Nb rfl) ?_
    refine KA (KAY Try.underlying29 rfl) (Nb rfl) ?_
    refine KA (KH rfl rfl (br_lss)) (Nb rfl) ?_
    refine KG ?_
    first | refine KU rfl (fun h15 => ?_) (fun h15 => ?_) | refine KX rfl (fun h15 => ?_) (fun h15 => ?_)
    ·
      have h15 : D.nw A < D.nw B := by have := h15; simpa using this
      refine KE (KB ?_)
      refine KA (KF rfl) (Nb rfl) ?_
      refine KG (KQ ?_)
      have he : A < B := D.lt_of_nw h15
      refine ⟨[_], .cons rfl .nil, fun a w' hr => ⟨?_, hr.fr.below⟩⟩
      simp [resOf, cmpI, he]
    ·
      have h15 : ¬ D.nw A < D.nw B := by have := h15; simpa using this
      refine Ke ?_
      refine KE (KB ?_)
      refine KA (KF (v := .int .i64 ((1 : Nat) : Int)) rfl) (Nb rfl) ?_
      refine KG (KQ ?_)
      have he : B < A := D.lt_of_nw (by omega)
      have he2 : ¬ A < B := by omega
      refine ⟨[_], .cons rfl .nil, fun a w' hr => ⟨?_, hr.fr.below⟩⟩
      simp [resOf, cmpI, he, he2]
  ·
    have h10 : D.nw A = D.nw B := by have := h10; simpa using this
    refine Ke ?_
    refine KE ?_
    refine KE (KB ?_)
    refine KA (KD rfl) (Nb rfl) ?_
    refine KA (KAY Try.underlying29 rfl) (Nb rfl) ?_
    refine KA (KH (v := .int .i64 ((D.nw A : Int) - 1)) rfl rfl (br_subI (by omega) (by omega))) (Nb rfl) ?_
    refine KA (KF rfl) (Nb rfl) ?_
    refine KG ?_
    refine LCode.block ?_
    refine KAH (α := Nat) (fun x => x ≤ D.nw A ∧ A / 2 ^ (32 * x) = B / 2 ^ (32 * x)) (fun x => ⟨[(0, numV q A), (1, numV r B), (5, .int .i64 ((x : Int) - 1))], [numT q A, numT r B]⟩) (fun x => x) (D.nw A) (⟨Nat.le_refl _, by rw [Nat.div_eq_of_lt (D.lt_nw A), h10, Nat.div_eq_of_lt (D.lt_nw B)]⟩) (KAE ⟨rfl, rfl, rfl, trivial⟩ (by repeat (first | exact Sel.nil _ | refine Sel.cons (by repeat (first | exact Ph _ | apply Pt_)) ?_))) ?_
    rintro x ⟨hx, hab⟩
    refine KE ?_
    refine KE ?_
    rcases Nat.eq_zero_or_pos x with h0 | h0
    ·
      refine KB ?_
      refine KA (KD rfl) (Nb rfl) ?_
      refine KA (KH (v := .bool false) rfl rfl (by subst h0; rfl)) (Nb rfl) ?_
      refine KG ?_
      refine Ku rfl ?_
      refine KAC ?_
      refine KE (KB ?_)
      refine KA (KF (v := .int .i64 ((0 : Nat) : Int)) rfl) (Nb rfl) ?_
      refine KG (KQ ?_)
      have he : A = B := by subst h0; simpa using hab
      refine ⟨[_], .cons rfl .nil, fun a w' hr => ⟨?_, hr.fr.below⟩⟩
      simp [resOf, cmpI, he]
    ·
      obtain ⟨x, rfl⟩ : ∃ y, x = y + 1 := ⟨x - 1, by omega⟩
      refine KB ?_
      refine KA (KD rfl) (Nb rfl) ?_
      refine KA (KH (v := .bool true) rfl rfl (by simp [KAQ])) (Nb rfl) ?_
      refine KG ?_
      refine KAF rfl ?_
      refine Ke ?_
      refine KE ?_
      refine LCode.block ?_
      refine KE ?_
      refine Kc [] (by kernel_rfl) ?_
      refine KC 0 rfl (by kernel_rfl) (Nb rfl) (KD rfl) ?_
      refine KC 1 rfl (by kernel_rfl) (Nb rfl) (KD (v := .int .i64 ((x : Nat) : Int)) (by show some _ = some _; congr 2; omega)) ?_
      refine KC 2 rfl (by kernel_rfl) (Nb rfl) (KAj Try.underlying29 sz_56 rfl rfl (by omega)) ?_
      refine LAny.take 3 rfl (by kernel_rfl) (Nb rfl) (Det.loadN Try.underlying56 rfl rfl (by repeat (first | exact Mh _ | apply Mt)) (by omega)) ?_
      refine KC 4 rfl (by kernel_rfl) (Nb rfl) (KD rfl) ?_
      refine KC 5 rfl (by kernel_rfl) (Nb rfl) (KD (v := .int .i64 ((x : Nat) : Int)) (by show some _ = some _; congr 2; omega)) ?_
      refine KC 6 rfl (by kernel_rfl) (Nb rfl) (KAj Try.underlying29 sz_56 rfl rfl (by omega)) ?_
      refine LAny.take 7 rfl (by kernel_rfl) (Nb rfl) (Det.loadN Try.underlying56 rfl rfl (by repeat (first | exact Mh _ | apply Mt)) (by omega)) ?_
      refine KC 8 rfl (by kernel_rfl) (Nb rfl) (KH rfl rfl (br_neq)) ?_
      refine Kj (by kernel_rfl) ?_
      first | refine KU rfl (fun h31 => ?_) (fun h31 => ?_) | refine KX rfl (fun h31 => ?_) (fun h31 => ?_)
      ·
        refine KE ?_
        refine KE ?_
        refine Kc [] (by kernel_rfl) ?_
        refine KC 0 rfl (by kernel_rfl) (Nb rfl) (KD rfl) ?_
        refine KC 1 rfl (by kernel_rfl) (Nb rfl) (KD (v := .int .i64 ((x : Nat) : Int)) (by show some _ = some _; congr 2; omega)) ?_
        refine KC 2 rfl (by kernel_rfl) (Nb rfl) (KAj Try.underlying29 sz_56 rfl rfl (by omega)) ?_
        refine LAny.take 3 rfl (by kernel_rfl) (Nb rfl) (Det.loadN Try.underlying56 rfl rfl (by repeat (first | exact Mh _ | apply Mt)) (by omega)) ?_
        refine KC 4 rfl (by kernel_rfl) (Nb rfl) (KD rfl) ?_
        refine KC 5 rfl (by kernel_rfl) (Nb rfl) (KD (v := .int .i64 ((x : Nat) : Int)) (by show some _ = some _; congr 2; omega)) ?_
        refine KC 6 rfl (by kernel_rfl) (Nb rfl) (KAj Try.underlying29 sz_56 rfl rfl (by omega)) ?_
        refine LAny.take 7 rfl (by kernel_rfl) (Nb rfl) (Det.loadN Try.underlying56 rfl rfl (by repeat (first | exact Mh _ | apply Mt)) (by omega)) ?_
        refine KC 8 rfl (by kernel_rfl) (Nb rfl) (KH rfl rfl (br_lss)) ?_
        refine Kj (by kernel_rfl) ?_
        first | refine KU rfl (fun h40 => ?_) (fun h40 => ?_) | refine KX rfl (fun h40 => ?_) (fun h40 => ?_)
        ·
          refine KE (KB ?_)
          refine KA (KF rfl) (Nb rfl) ?_
          refine KG (KQ ?_)
          have he : A < B := D.lt_of_limb hab h40
          refine ⟨[_], .cons rfl .nil, fun a w' hr => ⟨?_, hr.fr.below⟩⟩
          simp [resOf, cmpI, he]
        ·
          refine Ke ?_
          refine KE (KB ?_)
          refine KA (KF (v := .int .i64 ((1 : Nat) : Int)) rfl) (Nb rfl) ?_
          refine KG (KQ ?_)
          have he : B < A := D.lt_of_limb hab.symm (by omega)
          have he2 : ¬ A < B := by omega
          refine ⟨[_], .cons rfl .nil, fun a w' hr => ⟨?_, hr.fr.below⟩⟩
          simp [resOf, cmpI, he, he2]
      ·
        refine Ke ?_
        refine KB ?_
        refine KA (KD (v := .int .i64 ((x : Nat) : Int)) (by show some _ = some _; congr 2; omega)) (Nb rfl) ?_
        refine KA (KH rfl rfl rfl) (Nb rfl) ?_
        refine KA (KF rfl) (Nb rfl) ?_
        refine KG ?_
        refine ⟨x, ⟨by omega, ?_⟩, by omega, KAE ⟨rfl, rfl, ?_, trivial⟩ (by repeat (first | exact Sel.nil _ | refine Sel.cons (by repeat (first | exact Ph _ | apply Pt_)) ?_))⟩
        · have h1 : D.limb A x = D.limb B x := by have := h31; omega
          exact (D.div_eq_iff_limb A B x).2 ⟨hab, h1⟩
        · exact congrArg (fun i : Int => some (Value.int .i64 i)) (wrap_i64 (by omega) (by omega))
theorem c_n_Sub (q r : NV) (A B : Nat) (w : World) (hq : (numT q A).holds w) (hr : (numT r B).holds w) (hBA : B ≤ A) (hA : D.nw A ≤ 1000000) : Calls Try.prog 65 ([numV q A, numV r B] : List Value).toArray w (fun e w' => NumR w ([]) (A - B) (fun v => v) e w') := by
  refine KAB (N := 39) (rs := [.tmp 4]) [numT q A, numT r B] Try.func65 rfl Try.ntmps65 Try.results65 (Nb rfl) ⟨hq, hr, trivial⟩ rfl ?_
  show LCode _ _ _ ⟨_, _⟩ _
  refine KE (KB ?_)
  refine KA (KF rfl) (Nb rfl) ?_
  refine KG ?_
  refine KE (KB ?_)
  refine KA (KD rfl) (Nb rfl) ?_
  refine KA (KAY Try.underlying29 rfl) (Nb rfl) ?_
  refine KK rfl (KY (KS (Makes.mkV Try.underlying29 inf_56 rfl rfl (by omega) (by omega)) (Nb rfl) (fun b11 => ?_)))
  refine KA (KF rfl) (Nb rfl) ?_
  refine KG ?_
  refine KE (KB ?_)
  refine KA (KF (v := .int .u64 ((0 : Nat) : Int)) rfl) (Nb rfl) ?_
  refine KG ?_
  refine KE ?_
  refine KE (KB ?_)
  refine KA (KF (v := .int .i64 ((0 : Nat) : Int)) rfl) (Nb rfl) ?_
  refine KG ?_
  refine LCode.block ?_
  refine KAH (α := Nat) (fun x => x ≤ D.nw A) (fun x => ⟨[(0, numV q A), (1, numV r B), (5, .slice (some ⟨b11, 0, none⟩) (D.nw A) (D.nw A)), (6, .int .u64 ((D.borrow A B x : Nat) : Int)), (7, .int .i64 ((x : Nat) : Int))], [.blk b11 ⟨true, vec .u32 (D.nw A) (fun j => if j < x then D.limb (A - B) j else 0), 56, (0, 0)⟩, numT q A, numT r B]⟩) (fun x => D.nw A - x) (0) (Nat.zero_le _) (KAE ⟨rfl, rfl, rfl, by rw [D.borrow_zero]; rfl, rfl, trivial⟩ (by repeat (first | exact Sel.nil _ | refine Sel.cons (by repeat (first | exact Ph _ | apply Pt_)) ?_))) ?_
  intro x hx
  refine KE ?_
  refine KE (KB ?_)
  refine KA (KD rfl) (Nb rfl) ?_
  refine KA (KD rfl) (Nb rfl) ?_
  refine KA (KAY Try.underlying29 rfl) (Nb rfl) ?_
  refine KA (KH rfl rfl (br_lss)) (Nb rfl) ?_
  refine KG ?_
  first | refine KU rfl (fun h15 => ?_) (fun h15 => ?_) | refine KX rfl (fun h15 => ?_) (fun h15 => ?_)
  ·
    refine Ke ?_
    refine KE ?_
    refine LCode.block ?_
    refine KE ?_
    have hs := D.sub_limb hBA x
    have hbr := D.borrow_le A B x
    have hla := D.limb_lt A x
    have hlb := D.limb_lt B x
    refine KB ?_
    refine KA (KD rfl) (Nb rfl) ?_
    refine KA (KD rfl) (Nb rfl) ?_
    refine KK rfl (KY (KO (first := []) rfl en_118 rfl (Nb rfl) (fun w hw => c_n_digit q A (D.nw A) x w (hw _ (by repeat (first | exact Mh _ | apply Mt)))) ?_))
    refine KA (KH rfl rfl (KAa (b := 4294967296))) (Nb rfl) ?_
    refine KA (KD rfl) (Nb rfl) ?_
    refine KA (KD rfl) (Nb rfl) ?_
    refine KK rfl (KY (KO (first := []) rfl en_118 rfl (Nb rfl) (fun w hw => c_n_digit r B (D.nw B) x w (hw _ (by repeat (first | exact Mh _ | apply Mt)))) ?_))
    refine KA (KH rfl rfl (br_sub64 (by omega))) (Nb rfl) ?_
    refine KA (KD rfl) (Nb rfl) ?_
    refine KA (KH rfl rfl (br_sub64 (by omega))) (Nb rfl) ?_
    refine KA (KF rfl) (Nb rfl) ?_
    refine KG ?_
    refine KE (KB ?_)
    refine KA (KD rfl) (Nb rfl) ?_
    refine KA (KD rfl) (Nb rfl) ?_
    refine KA (KD rfl) (Nb rfl) ?_
    refine KA (KH rfl rfl (br_and64 (b := 4294967295) (by omega) (by decide))) (Nb rfl) ?_
    refine KA (KAh Try.underlying22 Try.underlying56 rfl) (Nb rfl) ?_
    refine KA (Kv Try.underlying29 sz_56 rfl rfl (by omega)) (Nb rfl) ?_
    refine KK rfl (Kw rfl rfl rfl sz_56 (by repeat (first | exact Sh _ | apply St_)) (by first | (simp only [KM, KJ, KN, KAI]; omega) | (simp; omega)) (by first | exact KAX _ _ _ _ _ | exact KAb _ _ _ _ (by omega) | exact KAZ _ _ _ _ | rfl) (by simp) ?_)
    refine KG ?_
    refine KB ?_
    refine KA (KD rfl) (Nb rfl) ?_
    refine KA (KH rfl rfl (KAd (b := 32) (by omega))) (Nb rfl) ?_
    refine KA (KH rfl rfl (br_sub64 (a := 1) (by omega))) (Nb rfl) ?_
    refine KA (KF rfl) (Nb rfl) ?_
    refine KG ?_
    refine KB ?_
    refine KA (KD rfl) (Nb rfl) ?_
    refine KA (KH rfl rfl (KAG (b := 1) (by omega))) (Nb rfl) ?_
    refine KA (KF rfl) (Nb rfl) ?_
    refine KG ?_
    refine ⟨x + 1, by omega, by omega, KAi (Sub.cells (b := b11) (cs' := vec .u32 (D.nw A) (fun j => if j < x + 1 then D.limb (A - B) j else 0)) (by repeat (first | exact Sh _ | apply St_)) (KAP fun j hj => ?_)) (KAE ⟨rfl, rfl, rfl, congrArg (fun n : Nat => some (Value.int .u64 (n : Int))) ?_, rfl, trivial⟩ (by repeat (first | exact Sel.nil _ | refine Sel.cons (by repeat (first | exact Ph _ | apply Pt_)) ?_)))⟩
    · by_cases e : j = x
      · rw [if_pos e, if_pos (by omega), e, and32]
        omega
      · rw [if_neg e]
        by_cases e3 : j < x
        · rw [if_pos e3, if_pos (by omega)]
        · rw [if_neg e3, if_neg (by omega)]
    · omega
  ·
    refine KAC ?_
    refine KE ?_
    obtain rfl : x = D.nw A := by omega
    refine LCode.sub (Sub.cells (b := b11) (cs' := vec .u32 (D.nw A) (D.limb (A - B))) (by repeat (first | exact Sh _ | apply St_)) (KAP fun j hj => if_pos hj)) ?_
    refine KB ?_
    refine KA (KD rfl) (Nb rfl) ?_
    refine KK rfl (KY (KO (first := []) rfl en_120 rfl (Nb rfl) (fun w hw => c_trim (A - B) b11 (D.nw A) (D.nw A) (D.nw A) _ true w (hw _ (by repeat (first | exact Mh _ | apply Mt))) (Nat.le_refl _) (Nat.le_refl _) (by omega) (Nat.lt_of_le_of_lt (Nat.sub_le _ _) (D.lt_nw A))) ?_))
    refine KA (KF rfl) (Nb rfl) ?_
    refine KG (KQ ?_)
    refine ⟨[_], .cons rfl .nil, fun a w' hr => hr.num (by repeat (first | exact Mh _ | apply Mt)) (Nat.lt_of_le_of_lt (Nat.sub_le _ _) (D.lt_nw A))⟩
end Go.Proofs.Ytljblbgogjieaaa
