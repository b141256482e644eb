/- A symbolic execution of the model's code: what is known of a function's slots and of memory ('St'), what it means for a machine's state ('Rel'), and a rule for each form of control and each operation. Nothing here speaks of one program. -/
import Derived.WalkKit
import Derived.Orders
import Derived.Laws.StructEq
import Derived.WalkSpells
import Derived.OrdersHeld
import Derived.KernelRfl
import Derived.Laws.Externs
import Derived.Laws.Bits64
set_option linter.unusedVariables false
set_option linter.unusedSimpArgs false
namespace Go.Proofs.Ytljblbgogjieaaa
open Go Go.RowKit

/-- The value that is known of slot 'k': the newest entry counts. -/
def look (k : Nat) : List (Nat × Value) → Option Value
  | [] => none
  | (j, v) :: t => bif Nat.beq j k then some v else look k t

/-- A block of cells that is known whole. 'wr': it is ours to write. -/
structure Blk where
  wr : Bool
  cells : List Value
  elem : TypeId
  frz : Nat × Nat

/-- One thing that is known of memory: a block; or a fact that hangs on some blocks alone, none of them ours to write. -/
inductive Item where
  | blk (b : Nat) (B : Blk)
  | fact (fp : List Nat) (φ : World → Prop)

def Item.fp : Item → List Nat
  | .blk b _ => [b]
  | .fact fp _ => fp
def Item.wr : Item → Bool
  | .blk _ B => B.wr
  | .fact _ _ => false
def Agree (fp : List Nat) (w w' : World) : Prop := ∀ k, k ∈ fp → w'.heap[k]? = w.heap[k]?
def Item.holds (w : World) : Item → Prop
  | .blk b B => w.heap[b]? = some (.cells B.cells.toArray B.elem B.frz)
  | .fact fp φ => (∀ k, k ∈ fp → k < w.heap.size) ∧ ∀ w', Agree fp w w' → φ w'

theorem lt_of_get {w : World} {b : Nat} {o : Obj} (h : w.heap[b]? = some o) : b < w.heap.size := by
  rcases Nat.lt_or_ge b w.heap.size with h' | h'
  · exact h'
  · rw [Array.getElem?_eq_none h'] at h; cases h
theorem Item.lt {w : World} {x : Item} (h : x.holds w) : ∀ k, k ∈ x.fp → k < w.heap.size := by
  cases x with
  | blk b B => intro k hk; simp [Item.fp] at hk; subst hk; exact lt_of_get h
  | fact fp φ => exact h.1
theorem Agree.refl (fp : List Nat) (w : World) : Agree fp w w := fun _ _ => rfl
theorem Agree.trans {fp : List Nat} {a b c : World} (h : Agree fp a b) (k : Agree fp b c) : Agree fp a c := fun i hi => (k i hi).trans (h i hi)
theorem Item.holds_agree {w w' : World} {x : Item} (h : x.holds w) (ha : Agree x.fp w w') (hs : w.heap.size ≤ w'.heap.size) : x.holds w' := by
  cases x with
  | blk b B => exact (ha b (by simp [Item.fp])).trans h
  | fact fp φ => exact ⟨fun k hk => Nat.lt_of_lt_of_le (h.1 k hk) hs, fun w'' ha' => h.2 w'' (ha.trans ha')⟩

/-- What a state knows. -/
structure St where
  T : List (Nat × Value)
  H : List Item

/-- Two things are apart if one of them may be written. -/
def Apart (x y : Item) : Prop := (x.wr = true ∨ y.wr = true) → ∀ k, k ∈ x.fp → k ∉ y.fp
theorem Apart.symm {x y : Item} (h : Apart x y) : Apart y x := fun hw k hk hx => h hw.symm k hx hk

/-- From 'w0' on nothing that was there has turned, but for the blocks of 'W'. -/
structure Fr (W : Nat → Prop) (w0 w : World) : Prop where
  os : w.os = w0.os
  tape : w.tape = w0.tape
  output : w.output = w0.output
  size : w0.heap.size ≤ w.heap.size
  block : ∀ k, k < w0.heap.size → ¬ W k → w.heap[k]? = w0.heap[k]?
theorem Fr.refl (W : Nat → Prop) (w : World) : Fr W w w := ⟨rfl, rfl, rfl, Nat.le_refl _, fun _ _ _ => rfl⟩
abbrev NoW : Nat → Prop := fun _ => False
theorem Fr.below {w0 w : World} (h : Fr NoW w0 w) : Below w0.heap.size w0 w := ⟨h.os, h.tape, h.output, h.size, fun k hk => h.block k hk (fun x => x)⟩
theorem Below.fr {w0 w : World} (h : Below w0.heap.size w0 w) : Fr NoW w0 w := ⟨h.os, h.tape, h.output, h.size, fun k hk _ => h.block k hk⟩

/-- The call that is walked: its world at entry, what it may write of it, how many slots it has. -/
structure Ctx where
  w0 : World
  W : Nat → Prop
  N : Nat

structure Rel (C : Ctx) (st : St) (a : Act) (w : World) : Prop where
  size : a.tmps.size = C.N
  defers : a.defers = []
  tm : ∀ k v, look k st.T = some v → a.tmps[k]? = some v
  hp : ∀ x, x ∈ st.H → x.holds w
  own : ∀ x, x ∈ st.H → x.wr = true → ∀ k, k ∈ x.fp → C.w0.heap.size ≤ k ∨ C.W k
  dist : st.H.Pairwise Apart
  fr : Fr C.W C.w0 w

/-- What holds of a real state if it is one of a known state that meets 'Q'. -/
def RQ (C : Ctx) (Q : Exit → St → Prop) (e : Exit) (a : Act) (w : World) : Prop := ∃ st, Q e st ∧ Rel C st a w

/-- What is known in 'y' is known in 'x' (a state may forget). -/
def Sub (C : Ctx) (y x : St) : Prop := ∀ a w, Rel C x a w → Rel C y a w
theorem Sub.refl (C : Ctx) (x : St) : Sub C x x := fun _ _ h => h

/-! ### Control -/
def LCode (P : Program) (C : Ctx) (c : Code) (st : St) (Q : Exit → St → Prop) : Prop := ∀ a w, Rel C st a w → c.wp P (RQ C Q) a w

theorem Code.wp_mono {P : Program} {c : Code} {Q Q' : Exit → Act → World → Prop} {a : Act} {w : World} (h : ∀ e a w, Q e a w → Q' e a w) (hc : c.wp P Q a w) : c.wp P Q' a w :=
  fun b k cs => let ⟨e, a', w', q, r⟩ := hc b k cs; ⟨e, a', w', h _ _ _ q, r⟩

theorem LCode.sub {P : Program} {C : Ctx} {c : Code} {x y : St} {Q : Exit → St → Prop} (hs : Sub C y x) (h : LCode P C c y Q) : LCode P C c x Q := fun a w hr => h a w (hs a w hr)
theorem LCode.mono {P : Program} {C : Ctx} {c : Code} {x : St} {Q Q' : Exit → St → Prop} (hq : ∀ e s, Q e s → Q' e s) (h : LCode P C c x Q) : LCode P C c x Q' :=
  fun a w hr => Code.wp_mono (fun _ _ _ ⟨st, q, r⟩ => ⟨st, hq _ _ q, r⟩) (h a w hr)

/-- Behind the first part the second is gone through. -/
def LThen (K : St → Prop) (Q : Exit → St → Prop) : Exit → St → Prop
  | .normal, st => K st
  | e, st => Q e st
theorem LCode.seq {P : Program} {C : Ctx} {x y : Code} {st : St} {Q : Exit → St → Prop} (h : LCode P C x st (LThen (fun s => LCode P C y s Q) Q)) : LCode P C (.seq x y) st Q := by
  intro a w hr
  refine wp_seq (Code.wp_mono ?_ (h a w hr))
  rintro e a' w' ⟨s, hq, hr'⟩
  cases e <;> first | exact hq a' w' hr' | exact ⟨s, hq, hr'⟩
theorem LCode.skip {P : Program} {C : Ctx} {st : St} {Q : Exit → St → Prop} (h : Q .normal st) : LCode P C .skip st Q := fun a w hr => wp_skip ⟨st, h, hr⟩
theorem LCode.ret {P : Program} {C : Ctx} {st : St} {Q : Exit → St → Prop} (h : Q .ret st) : LCode P C .ret st Q := fun a w hr => wp_ret ⟨st, h, hr⟩
theorem LCode.exit {P : Program} {C : Ctx} {st : St} {Q : Exit → St → Prop} {id : Nat} (h : Q (.exit id) st) : LCode P C (.exit id) st Q := fun a w hr => wp_exit ⟨st, h, hr⟩
theorem Rel.slot {C : Ctx} {st : St} {a : Act} {w : World} (h : Rel C st a w) {k : Nat} {v : Value} (hl : look k st.T = some v) : a.eval (.tmp k) = v := by
  have := h.tm k v hl
  simp [Act.eval, this]
theorem LCode.cond {P : Program} {C : Ctx} {c : Nat} {x y : Code} {st : St} {Q : Exit → St → Prop} {t : Bool} (hc : look c st.T = some (.bool t)) (ht : t = true → LCode P C x st Q) (hf : t = false → LCode P C y st Q) :
    LCode P C (.cond (.tmp c) x y) st Q := fun a w hr => wp_cond_split (hr.slot hc) (fun e => ht e a w hr) (fun e => hf e a w hr)
theorem LCode.cond_true {P : Program} {C : Ctx} {c : Nat} {x y : Code} {st : St} {Q : Exit → St → Prop} (hc : look c st.T = some (.bool true)) (ht : LCode P C x st Q) :
    LCode P C (.cond (.tmp c) x y) st Q := fun a w hr => wp_cond_true (hr.slot hc) (ht a w hr)
theorem LCode.cond_false {P : Program} {C : Ctx} {c : Nat} {x y : Code} {st : St} {Q : Exit → St → Prop} (hc : look c st.T = some (.bool false)) (hf : LCode P C y st Q) :
    LCode P C (.cond (.tmp c) x y) st Q := fun a w hr => wp_cond_false (hr.slot hc) (hf a w hr)
theorem LCode.condD {P : Program} {C : Ctx} {c : Nat} {x y : Code} {st : St} {Q : Exit → St → Prop} {p : Prop} [Decidable p] (hc : look c st.T = some (.bool (decide p))) (ht : p → LCode P C x st Q) (hf : ¬ p → LCode P C y st Q) :
    LCode P C (.cond (.tmp c) x y) st Q := LCode.cond hc (fun h => ht (of_decide_eq_true h)) (fun h => hf (of_decide_eq_false h))
def LBlock (id : Nat) (Q : Exit → St → Prop) : Exit → St → Prop
  | .exit id', st => bif Nat.beq id' id then Q .normal st else Q (.exit id') st
  | e, st => Q e st
theorem LCode.block {P : Program} {C : Ctx} {id : Nat} {c : Code} {st : St} {Q : Exit → St → Prop} (h : LCode P C c st (LBlock id Q)) : LCode P C (.block id c) st Q := by
  intro a w hr
  refine wp_block (Code.wp_mono ?_ (h a w hr))
  rintro e a' w' ⟨s, hq, hr'⟩
  cases e <;> try exact ⟨s, hq, hr'⟩
  case exit id' =>
    simp only [LBlock] at hq
    simp only [Exit.inBlock]
    cases hb : Nat.beq id' id with
    | true => rw [hb] at hq; rw [if_pos (Nat.eq_of_beq_eq_true hb)]; exact ⟨s, hq, hr'⟩
    | false =>
      rw [hb] at hq
      rw [if_neg (fun e => by rw [e] at hb; simp at hb)]
      exact ⟨s, hq, hr'⟩
/-- A loop, by a family of states: at each round's head the state is one of it; a measure goes down. -/
theorem LCode.loop {P : Program} {C : Ctx} {c : Code} {st : St} {Q : Exit → St → Prop} {α : Type} (p : α → Prop) (inv : α → St) (μ : α → Nat) (x0 : α) (h0 : p x0) (hs : Sub C (inv x0) st)
    (round : ∀ x, p x → LCode P C c (inv x) (LThen (fun s => ∃ y, p y ∧ μ y < μ x ∧ Sub C (inv y) s) Q)) : LCode P C (.loop c) st Q := by
  intro a w hr
  have key : ∀ n x, μ x = n → p x → ∀ a w, Rel C (inv x) a w → (Code.loop c).wp P (RQ C Q) a w := by
    intro n x hn hp a w hr
    refine wp_loop (fun a w => ∃ x, p x ∧ Rel C (inv x) a w) (fun a w => Classical.epsilon (fun m => (∃ x, p x ∧ Rel C (inv x) a w ∧ μ x = m) ∧ ∀ y, p y → Rel C (inv y) a w → m ≤ μ y)) ⟨x, hp, hr⟩ ?_
    rintro a w ⟨x1, hp1, hr1⟩
    have least : ∃ m, (∃ x, p x ∧ Rel C (inv x) a w ∧ μ x = m) ∧ ∀ y, p y → Rel C (inv y) a w → m ≤ μ y := by
      have main : ∀ n x, p x → Rel C (inv x) a w → μ x ≤ n → ∃ m, (∃ x, p x ∧ Rel C (inv x) a w ∧ μ x = m) ∧ ∀ y, p y → Rel C (inv y) a w → m ≤ μ y := by
        intro n
        induction n with
        | zero => exact fun x hx hrx hle => ⟨μ x, ⟨x, hx, hrx, rfl⟩, fun y _ _ => by omega⟩
        | succ n ih =>
          intro x hx hrx hle
          by_cases hex : ∃ y, p y ∧ Rel C (inv y) a w ∧ μ y < μ x
          · obtain ⟨y, hy, hry, hlt⟩ := hex
            exact ih y hy hry (by omega)
          · exact ⟨μ x, ⟨x, hx, hrx, rfl⟩, fun y hy hry => by
              rcases Nat.lt_or_ge (μ y) (μ x) with h' | h'
              · exact absurd ⟨y, hy, hry, h'⟩ hex
              · exact h'⟩
      exact main _ x1 hp1 hr1 (Nat.le_refl _)
    obtain ⟨⟨x2, hp2, hr2, hm2⟩, hmin⟩ := Classical.epsilon_spec least
    refine Code.wp_mono ?_ (round x2 hp2 a w hr2)
    rintro e a' w' ⟨s, hq, hr'⟩
    cases e <;> try exact ⟨s, hq, hr'⟩
    case normal =>
      obtain ⟨y, hy, hlt, hsub⟩ := hq
      have hry := hsub a' w' hr'
      refine ⟨⟨y, hy, hry⟩, ?_⟩
      have least' : ∃ m, (∃ x, p x ∧ Rel C (inv x) a' w' ∧ μ x = m) ∧ ∀ y, p y → Rel C (inv y) a' w' → m ≤ μ y := by
        have main : ∀ n x, p x → Rel C (inv x) a' w' → μ x ≤ n → ∃ m, (∃ x, p x ∧ Rel C (inv x) a' w' ∧ μ x = m) ∧ ∀ y, p y → Rel C (inv y) a' w' → m ≤ μ y := by
          intro n
          induction n with
          | zero => exact fun x hx hrx hle => ⟨μ x, ⟨x, hx, hrx, rfl⟩, fun y _ _ => by omega⟩
          | succ n ih =>
            intro x hx hrx hle
            by_cases hex : ∃ y, p y ∧ Rel C (inv y) a' w' ∧ μ y < μ x
            · obtain ⟨y, hy, hry, hlt⟩ := hex
              exact ih y hy hry (by omega)
            · exact ⟨μ x, ⟨x, hx, hrx, rfl⟩, fun y hy hry => by
                rcases Nat.lt_or_ge (μ y) (μ x) with h' | h'
                · exact absurd ⟨y, hy, hry, h'⟩ hex
                · exact h'⟩
        exact main _ y hy hry (Nat.le_refl _)
      obtain ⟨_, hmin'⟩ := Classical.epsilon_spec least'
      have := hmin' y hy hry
      omega
  exact key _ x0 rfl h0 a w (hs a w hr)

/-! ### Regions in the text's order -/
def LOps (P : Program) (C : Ctx) (ops : Array Oper) (rest : List Oper) (st : St) (Q : Exit → St → Prop) : Prop := ∀ a w, Rel C st a w → wpList P ops (RQ C Q) rest a w
theorem LOps.nil {P : Program} {C : Ctx} {ops : Array Oper} {st : St} {Q : Exit → St → Prop} (h : Q .normal st) : LOps P C ops [] st Q := fun a w hr => wpList_nil ⟨st, h, hr⟩
theorem LCode.region {P : Program} {C : Ctx} {id : Nat} {l : List Oper} {st : St} {Q : Exit → St → Prop} (h : LOps P C l.toArray l st Q) : LCode P C (.region id l.toArray false) st Q :=
  fun a w hr => wp_region_lit (h a w hr)
theorem LOps.sub {P : Program} {C : Ctx} {ops : Array Oper} {rest : List Oper} {x y : St} {Q : Exit → St → Prop} (hs : Sub C y x) (h : LOps P C ops rest y Q) : LOps P C ops rest x Q := fun a w hr => h a w (hs a w hr)

/-- What an operand is known to be. -/
def evT (T : List (Nat × Value)) : Operand → Option Value
  | .tmp t => look t T
  | .const v => some v
  | .func f => some (.func (.func f) #[] #[])
  | .global g => some (.pointer (some ⟨g, 0, none⟩))
theorem Rel.ev {C : Ctx} {st : St} {a : Act} {w : World} (h : Rel C st a w) {x : Operand} {v : Value} (hl : evT st.T x = some v) : a.eval x = v := by
  cases x with
  | tmp k => exact h.slot hl
  | const u => simp [evT] at hl; simp [Act.eval, hl]
  | func f => simp [evT] at hl; simp [Act.eval, hl]
  | global g => simp [evT] at hl; simp [Act.eval, hl]

/-- A slot is written. -/
theorem Rel.put {C : Ctx} {st : St} {a : Act} {w : World} (h : Rel C st a w) {d : Nat} (hd : d < C.N) (v : Value) : Rel C ⟨(d, v) :: st.T, st.H⟩ (a.put (some d) v) w := by
  refine ⟨by simp [Act.put, h.size], h.defers, ?_, h.hp, h.own, h.dist, h.fr⟩
  intro k u hl
  simp only [look] at hl
  by_cases e : d = k
  · subst e
    simp at hl
    subst hl
    simp [Act.put, h.size, hd]
  · have : Nat.beq d k = false := by
      cases hb : Nat.beq d k with
      | false => rfl
      | true => exact absurd (Nat.eq_of_beq_eq_true hb) e
    rw [this] at hl
    have := h.tm k u hl
    simp [Act.put, Array.getElem?_setIfInBounds_ne e, this]
/-- A slot is forgotten to be what it was: it is written with what nobody knows. -/
theorem Rel.put_none {C : Ctx} {st : St} {a : Act} {w : World} (h : Rel C st a w) (v : Value) : Rel C st (a.put none v) w := h
/-- The world turns where nothing is known. -/
theorem Rel.world {C : Ctx} {st : St} {a : Act} {w w' : World} (h : Rel C st a w) (hs : w.heap.size ≤ w'.heap.size) (ha : ∀ k, k < w.heap.size → w'.heap[k]? = w.heap[k]?)
    (ho : w'.os = w.os) (ht : w'.tape = w.tape) (hu : w'.output = w.output) : Rel C st a w' :=
  ⟨h.size, h.defers, h.tm, fun x hx => Item.holds_agree (h.hp x hx) (fun k hk => ha k (Item.lt (h.hp x hx) k hk)) hs, h.own, h.dist,
    ⟨ho.trans h.fr.os, ht.trans h.fr.tape, hu.trans h.fr.output, Nat.le_trans h.fr.size hs, fun k hk hw => (ha k (Nat.lt_of_lt_of_le hk h.fr.size)).trans (h.fr.block k hk hw)⟩⟩
theorem Rel.below {C : Ctx} {st : St} {a : Act} {w w' : World} (h : Rel C st a w) (hb : Below w.heap.size w w') : Rel C st a w' :=
  h.world hb.size hb.block hb.os hb.tape hb.output
theorem Rel.drew {C : Ctx} {st : St} {a : Act} {w : World} (h : Rel C st a w) : Rel C st a { w with drawn := w.drawn + 1 } :=
  h.world (Nat.le_refl _) (fun _ _ => rfl) rfl rfl rfl

/-- What an operation yields that looks at its slots alone. -/
def Slots (P : Program) (C : Ctx) (o : Oper) (st : St) (v : Value) : Prop := ∀ (a : Act) (w : World), (∀ x u, evT st.T x = some u → a.eval x = u) → (execOp a.eval o).run P w = .ok (.value v) w
/-- An operation that yields one value and leaves the world as it is. -/
def Det (P : Program) (C : Ctx) (o : Oper) (st : St) (v : Value) : Prop := ∀ a w, Rel C st a w → (execOp a.eval o).run P w = .ok (.value v) w
theorem Slots.det {P : Program} {C : Ctx} {o : Oper} {st : St} {v : Value} (h : Slots P C o st v) : Det P C o st v := fun a w hr => h a w (fun x u hx => hr.ev hx)
theorem LOps.det {T : List (Nat × Value)} {H : List Item} {P : Program} {C : Ctx} {ops : Array Oper} {op : Op} {ty : TypeId} {pos : String} {aft : Array Edge} {d : Nat} {rest : List Oper} {v : Value} {Q : Exit → St → Prop}
    (hy : Det P C ⟨some d, op, ty, pos, aft, none⟩ ⟨T, H⟩ v) (hd : d < C.N) (h : LOps P C ops rest ⟨(d, v) :: T, H⟩ Q) : LOps P C ops (⟨some d, op, ty, pos, aft, none⟩ :: rest) ⟨T, H⟩ Q := by
  intro a w hr
  refine wpList_plain rfl fun K hK => ?_
  unfold Oper.wp
  rw [hy a w hr]
  exact hK _ _ (h _ _ (hr.put hd v))
theorem LOps.detP {T : List (Nat × Value)} {H : List Item} {P : Program} {C : Ctx} {ops : Array Oper} {op : Op} {ty : TypeId} {pos : String} {aft : Array Edge} {d : Nat} {rest : List Oper} {v : Value} {Q : Exit → St → Prop}
    (hy : Slots P C ⟨some d, op, ty, pos, aft, none⟩ ⟨T, H⟩ v) (hd : d < C.N) (h : LOps P C ops rest ⟨(d, v) :: T, H⟩ Q) : LOps P C ops (⟨some d, op, ty, pos, aft, none⟩ :: rest) ⟨T, H⟩ Q := LOps.det hy.det hd h

def evL (T : List (Nat × Value)) : List Operand → Option (List Value)
  | [] => some []
  | x :: xs => match evT T x, evL T xs with
    | some v, some vs => some (v :: vs)
    | _, _ => none
theorem evs_of {T : List (Nat × Value)} {a : Act} (h : ∀ x u, evT T x = some u → a.eval x = u) : ∀ {xs : List Operand} {vs : List Value}, evL T xs = some vs → xs.map a.eval = vs
  | [], vs, hl => by simp [evL] at hl; simp [hl]
  | x :: xs, vs, hl => by
    simp only [evL] at hl
    split at hl
    · rename_i v vs' h1 h2
      cases hl
      simp [h _ _ h1, evs_of h h2]
    · cases hl
/-- How many cells a type's values have; its zero. -/
def szOf (P : Program) (t : TypeId) : Option Nat := (P.info? t).map (·.size)
def zrOf (P : Program) (t : TypeId) : Option Value := (P.info? t).bind (·.zero)
theorem run_sizeOf {P : Program} {t : TypeId} {n : Nat} (h : szOf P t = some n) (w : World) : (sizeOf t).run P w = .ok n w := by
  unfold szOf at h
  cases hi : P.info? t with
  | none => simp [hi] at h
  | some i => simp [hi] at h; simp [sizeOf, typeInfo, hi, h]
theorem run_zeroValue {P : Program} {t : TypeId} {z : Value} (h : zrOf P t = some z) (w : World) : (zeroValue t).run P w = .ok z w := by
  unfold zrOf at h
  cases hi : P.info? t with
  | none => simp [hi] at h
  | some i => simp [hi] at h; simp [zeroValue, typeInfo, hi, h]

section
variable {P : Program} {C : Ctx} {d : Option Tmp} {ty : TypeId} {pos : String} {aft : Array Edge} {g : Option (Nat × Bool)} {st : St} {x y z : Operand} {v u : Value} {t s : TypeId}

theorem Det.move (hx : evT st.T x = some v) : Slots P C ⟨d, .move x, ty, pos, aft, g⟩ st v := fun a w hr => by simp [execOp, hr _ _ hx]
theorem Det.assign (hx : evT st.T x = some v) : Slots P C ⟨d, .assign x, ty, pos, aft, g⟩ st v := fun a w hr => by simp [execOp, hr _ _ hx]
theorem Det.pick {b : Bool} {v1 v2 : Value} (hc : evT st.T z = some (.bool b)) (hx : evT st.T x = some v1) (hy : evT st.T y = some v2) :
    Slots P C ⟨d, .pick z x y, ty, pos, aft, g⟩ st (if b then v1 else v2) := fun a w hr => by simp [execOp, hr _ _ hc, hr _ _ hx, hr _ _ hy, asBool]
theorem Det.pick_true {v1 : Value} (hc : evT st.T z = some (.bool true)) (hx : evT st.T x = some v1) :
    Slots P C ⟨d, .pick z x y, ty, pos, aft, g⟩ st v1 := fun a w hr => by simp [execOp, hr _ _ hc, hr _ _ hx, asBool]
theorem Det.pick_false {v2 : Value} (hc : evT st.T z = some (.bool false)) (hy : evT st.T y = some v2) :
    Slots P C ⟨d, .pick z x y, ty, pos, aft, g⟩ st v2 := fun a w hr => by simp [execOp, hr _ _ hc, hr _ _ hy, asBool]
theorem Det.nilCheck {p : Addr} (hx : evT st.T x = some (.pointer (some p))) : Slots P C ⟨d, .nilCheck x, ty, pos, aft, g⟩ st (.pointer (some p)) := fun a w hr => by
  simp [execOp, hr _ _ hx]
theorem Det.nilCheckFunc {f : FuncId} {xs ys : Array Value} (hx : evT st.T x = some (.func (.func f) xs ys)) : Slots P C ⟨d, .nilCheck x, ty, pos, aft, g⟩ st (.func (.func f) xs ys) := fun a w hr => by
  simp [execOp, hr _ _ hx]

/-- What two whole numbers come to. -/
def binRes (op : BinOp) (k : IntKind) (a : Int) (k' : IntKind) (b : Int) : Option Value :=
  match op with
  | .shl => if b < 0 then none else some (.int k (k.wrap (a * 2 ^ min b.toNat k.bits)))
  | .shr => if b < 0 then none else some (.int k (a.fdiv (2 ^ min b.toNat k.bits)))
  | .add => if k = k' then some (.int k (k.wrap (a + b))) else none
  | .sub => if k = k' then some (.int k (k.wrap (a - b))) else none
  | .mul => if k = k' then some (.int k (k.wrap (a * b))) else none
  | .quo => if k = k' then (if b = 0 then none else some (.int k (k.wrap (a.tdiv b)))) else none
  | .rem => if k = k' then (if b = 0 then none else some (.int k (a.tmod b))) else none
  | .and => if k = k' then some (.int k (k.wrap (BitVec.ofInt k.bits a &&& BitVec.ofInt k.bits b).toNat)) else none
  | .or => if k = k' then some (.int k (k.wrap (BitVec.ofInt k.bits a ||| BitVec.ofInt k.bits b).toNat)) else none
  | .xor => if k = k' then some (.int k (k.wrap (BitVec.ofInt k.bits a ^^^ BitVec.ofInt k.bits b).toNat)) else none
  | .andNot => if k = k' then some (.int k (k.wrap (BitVec.ofInt k.bits a &&& ~~~BitVec.ofInt k.bits b).toNat)) else none
  | .eql => if k = k' then some (.bool (a == b)) else none
  | .neq => if k = k' then some (.bool (a != b)) else none
  | .lss => if k = k' then some (.bool (decide (a < b))) else none
  | .leq => if k = k' then some (.bool (decide (a ≤ b))) else none
  | .gtr => if k = k' then some (.bool (decide (a > b))) else none
  | .geq => if k = k' then some (.bool (decide (a ≥ b))) else none
theorem Det.bin {op : BinOp} {k k' : IntKind} {i j : Int} {yt : TypeId} (hx : evT st.T x = some (.int k i)) (hy : evT st.T y = some (.int k' j)) (hv : binRes op k i k' j = some v) :
    Slots P C ⟨d, .binOp op t x y yt, ty, pos, aft, g⟩ st v := fun a w hr => by
  have h1 := hr _ _ hx
  have h2 := hr _ _ hy
  cases op <;> simp only [binRes] at hv <;> (try split at hv) <;> (try split at hv) <;> (first | cases hv | (injection hv with hv; subst hv; skip)) <;>
    simp_all [execOp, eqGuard, binOp, Op.shift, Op.intArith, Op.intDiv, Op.intBits, Op.intCmp] <;> (intro hlt; exfalso; omega)
theorem Det.cat {a b : ByteArray} {yt : TypeId} (hx : evT st.T x = some (.string a)) (hy : evT st.T y = some (.string b)) (hs : a.size + b.size ≤ 9223372036854775807) :
    Slots P C ⟨d, .binOp .add t x y yt, ty, pos, aft, g⟩ st (.string (a ++ b)) := fun c w hr => by
  have h1 := hr _ _ hx
  have h2 := hr _ _ hy
  have h3 : ¬ (((a.size + b.size : Nat) : Int) > IntKind.i64.max) := by
    have : IntKind.i64.max = 9223372036854775807 := by decide
    rw [this]; omega
  simp only [execOp, eqGuard, binOp_string_add, h1, h2, Op.stringOp, h3]
  simp [h3]
theorem Det.eqs {a b : ByteArray} {yt : TypeId} (hx : evT st.T x = some (.string a)) (hy : evT st.T y = some (.string b)) :
    Slots P C ⟨d, .binOp .eql t x y yt, ty, pos, aft, g⟩ st (.bool (a.toList == b.toList)) := fun c w hr => by
  simp [execOp, eqGuard, binOp, Op.stringOp, hr _ _ hx, hr _ _ hy]
theorem Det.nes {a b : ByteArray} {yt : TypeId} (hx : evT st.T x = some (.string a)) (hy : evT st.T y = some (.string b)) :
    Slots P C ⟨d, .binOp .neq t x y yt, ty, pos, aft, g⟩ st (.bool (!(a.toList == b.toList))) := fun c w hr => by
  simp [execOp, eqGuard, binOp, Op.stringOp, hr _ _ hx, hr _ _ hy]
theorem Det.eqb {a b : Bool} {yt : TypeId} (ht : P.underlying t = some .bool) (hx : evT st.T x = some (.bool a)) (hy : evT st.T y = some (.bool b)) :
    Slots P C ⟨d, .binOp .eql t x y yt, ty, pos, aft, g⟩ st (.bool (a == b)) := fun c w hr => by
  simp [execOp, eqGuard, hr _ _ hx, hr _ _ hy, run_eql_bool w t a b ht]
theorem Det.neb {a b : Bool} {yt : TypeId} (ht : P.underlying t = some .bool) (hx : evT st.T x = some (.bool a)) (hy : evT st.T y = some (.bool b)) :
    Slots P C ⟨d, .binOp .neq t x y yt, ty, pos, aft, g⟩ st (.bool (!(a == b))) := fun c w hr => by
  simp [execOp, eqGuard, hr _ _ hx, hr _ _ hy, run_neq_bool w t a b ht]
theorem run_equalIn_ptr_nil (P : Program) (w : World) (n : Nat) (e : TypeId) (p : Option Addr) (ht : P.underlying t = some (.pointer e)) : (Op.equalIn (n + 1) t (.pointer p) (.pointer none)).run P w = .ok p.isNone w := by
  cases p <;> simp [Op.equalIn, run_underlying ht]
theorem Det.eqp {p : Option Addr} {e : TypeId} {yt : TypeId} (ht : P.underlying t = some (.pointer e)) (hx : evT st.T x = some (.pointer p)) (hy : evT st.T y = some (.pointer none)) :
    Slots P C ⟨d, .binOp .eql t x y yt, ty, pos, aft, g⟩ st (.bool p.isNone) := fun c w hr => by
  simp [execOp, eqGuard, hr _ _ hx, hr _ _ hy, binOp, Op.equal, Op.maxDepth, run_equalIn_ptr_nil P w 9999 e p ht]
theorem Det.nep {p : Option Addr} {e : TypeId} {yt : TypeId} (ht : P.underlying t = some (.pointer e)) (hx : evT st.T x = some (.pointer p)) (hy : evT st.T y = some (.pointer none)) :
    Slots P C ⟨d, .binOp .neq t x y yt, ty, pos, aft, g⟩ st (.bool p.isSome) := fun c w hr => by
  cases p <;> simp [execOp, eqGuard, hr _ _ hx, hr _ _ hy, binOp, Op.equal, Op.maxDepth, run_equalIn_ptr_nil P w 9999 e _ ht]
theorem run_equalIn_sl_nil (P : Program) (w : World) (n : Nat) (e : TypeId) (p : Option Addr) (l c l' c' : Nat) (ht : P.underlying t = some (.slice e)) : (Op.equalIn (n + 1) t (.slice p l c) (.slice none l' c')).run P w = .ok p.isNone w := by
  cases p <;> simp [Op.equalIn, run_underlying ht]
theorem Det.eqsl {p : Option Addr} {l c l' c' : Nat} {e : TypeId} {yt : TypeId} (ht : P.underlying t = some (.slice e)) (hx : evT st.T x = some (.slice p l c)) (hy : evT st.T y = some (.slice none l' c')) :
    Slots P C ⟨d, .binOp .eql t x y yt, ty, pos, aft, g⟩ st (.bool p.isNone) := fun a w hr => by
  simp [execOp, eqGuard, hr _ _ hx, hr _ _ hy, binOp, Op.equal, Op.maxDepth, run_equalIn_sl_nil P w 9999 e p l c l' c' ht]
theorem Det.nesl {p : Option Addr} {l c l' c' : Nat} {e : TypeId} {yt : TypeId} (ht : P.underlying t = some (.slice e)) (hx : evT st.T x = some (.slice p l c)) (hy : evT st.T y = some (.slice none l' c')) :
    Slots P C ⟨d, .binOp .neq t x y yt, ty, pos, aft, g⟩ st (.bool p.isSome) := fun a w hr => by
  cases p <;> simp [execOp, eqGuard, hr _ _ hx, hr _ _ hy, binOp, Op.equal, Op.maxDepth, run_equalIn_sl_nil P w 9999 e _ l c l' c' ht]
/-- Two structs (arrays): what 'equalIn' comes to is told by whoever uses it. -/
theorem Det.eqa {a b : Array Value} {r : Bool} {yt : TypeId} (hg : P.eqGuardType P.depth t = false) (he : ∀ w, (Op.equalIn 10000 t (.agg a) (.agg b)).run P w = .ok r w)
    (hx : evT st.T x = some (.agg a)) (hy : evT st.T y = some (.agg b)) : Slots P C ⟨d, .binOp .eql t x y yt, ty, pos, aft, g⟩ st (.bool r) := fun c w hr => by
  simp [execOp, hr _ _ hx, hr _ _ hy, run_eqGuard_agg w .eql t x y a b hg, binOp, Op.equal, Op.maxDepth, he w]
theorem Det.nea {a b : Array Value} {r : Bool} {yt : TypeId} (hg : P.eqGuardType P.depth t = false) (he : ∀ w, (Op.equalIn 10000 t (.agg a) (.agg b)).run P w = .ok r w)
    (hx : evT st.T x = some (.agg a)) (hy : evT st.T y = some (.agg b)) : Slots P C ⟨d, .binOp .neq t x y yt, ty, pos, aft, g⟩ st (.bool (!r)) := fun c w hr => by
  simp [execOp, hr _ _ hx, hr _ _ hy, run_eqGuard_agg w .neq t x y a b hg, binOp, Op.equal, Op.maxDepth, he w]

theorem Det.not {b : Bool} (hx : evT st.T x = some (.bool b)) : Slots P C ⟨d, .unOp .not t x, ty, pos, aft, g⟩ st (.bool (!b)) := fun a w hr => by
  simp [execOp, hr _ _ hx, Op.unary]
theorem Det.neg {k : IntKind} {i : Int} (hx : evT st.T x = some (.int k i)) : Slots P C ⟨d, .unOp .neg t x, ty, pos, aft, g⟩ st (.int k (k.wrap (0 - i))) := fun a w hr => by
  simp [execOp, hr _ _ hx, Op.unary, Op.intArith]
theorem Det.cpl {k : IntKind} {i : Int} (hx : evT st.T x = some (.int k i)) (hs : k.signed = false) : Slots P C ⟨d, .unOp .xor t x, ty, pos, aft, g⟩ st (.int k (k.wrap (BitVec.ofInt k.bits k.max ^^^ BitVec.ofInt k.bits i).toNat)) := fun a w hr => by
  simp [execOp, hr _ _ hx, Op.unary, Op.intBits, hs]
theorem Det.conv {k k' : IntKind} {i : Int} {src : TypeDesc} (hs : P.underlying s = some src) (ht : P.underlying t = some (.int k')) (hx : evT st.T x = some (.int k i)) :
    Slots P C ⟨d, .convert s t x, ty, pos, aft, g⟩ st (.int k' (k'.wrap i)) := fun a w hr => by
  simp [execOp, hr _ _ hx, convert, run_underlying hs, run_underlying ht, Conv.intToInt]
theorem Det.convs {b : ByteArray} {src : TypeDesc} (hs : P.underlying s = some src) (ht : P.underlying t = some .string) (hx : evT st.T x = some (.string b)) :
    Slots P C ⟨d, .convert s t x, ty, pos, aft, g⟩ st (.string b) := fun a w hr => by
  simp [execOp, hr _ _ hx, convert, run_underlying hs, run_underlying ht]

/-! ### Places and parts -/
theorem Det.fieldAddr {fs : Array Field} {n : Nat} {f : Field} {b o : Nat} (ht : P.underlying t = some (.struct fs)) (hf : fs[n]? = some f) (hx : evT st.T x = some (.pointer (some ⟨b, o, none⟩)))
    (hp : ∀ w, (fieldPlace ⟨b, o, none⟩ f).run P w = .ok ⟨b, o + f.offset, none⟩ w) : Slots P C ⟨d, .fieldAddr t x n, ty, pos, aft, g⟩ st (.pointer (some ⟨b, o + f.offset, none⟩)) := fun a w hr => by
  simp [execOp, hr _ _ hx, Instr.fieldAt, run_underlying ht, hf, Instr.sureAddr, hp w]
theorem Det.indexArr {n : Nat} {e : TypeId} {k : IntKind} {i : Int} {b o : Nat} (ht : P.underlying t = some (.array n e)) (he : szOf P e = some 1) (hx : evT st.T x = some (.pointer (some ⟨b, o, none⟩)))
    (hy : evT st.T y = some (.int k i)) (h0 : 0 ≤ i) (h1 : i < n) : Slots P C ⟨d, .indexAddr t x y, ty, pos, aft, g⟩ st (.pointer (some ⟨b, o + i.toNat, none⟩)) := fun a w hr => by
  have hb : (0 ≤ i ∧ i < (n : Int)) := ⟨h0, h1⟩
  simp [execOp, hr _ _ hx, hr _ _ hy, Instr.indexAt, asIntOf, run_underlying ht, Instr.sureAddr, hb, run_sizeOf he, Addr.add]
theorem Det.indexSl {e : TypeId} {k : IntKind} {i : Int} {b o l c n : Nat} (ht : P.underlying t = some (.slice e)) (he : szOf P e = some n) (hx : evT st.T x = some (.slice (some ⟨b, o, none⟩) l c))
    (hy : evT st.T y = some (.int k i)) (h0 : 0 ≤ i) (h1 : i < l) : Slots P C ⟨d, .indexAddr t x y, ty, pos, aft, g⟩ st (.pointer (some ⟨b, o + i.toNat * n, none⟩)) := fun a w hr => by
  have hb : (0 ≤ i ∧ i < (l : Int)) := ⟨h0, h1⟩
  simp [execOp, hr _ _ hx, hr _ _ hy, Instr.indexAt, asIntOf, run_underlying ht, hb, run_sizeOf he, Addr.add]
theorem Det.indexStr {k : IntKind} {i : Int} {b : ByteArray} (ht : P.underlying t = some .string) (hx : evT st.T x = some (.string b))
    (hy : evT st.T y = some (.int k i)) (h0 : 0 ≤ i) (h1 : i < b.size) : Slots P C ⟨d, .index t x y, ty, pos, aft, g⟩ st (.int .u8 ((b.data.toList.getD i.toNat 0).toNat : Int)) := fun a w hr => by
  have h2 : i.toNat < b.size := by omega
  have h3 : b[i.toNat]? = some (b.data.toList.getD i.toNat 0) := by
    rw [ByteArray.getElem?_lt' b _ h2]
    simp [List.getD, ByteArray.getElem_eq_getElem_data, h2, Array.getElem?_eq_getElem (show i.toNat < b.data.size from h2)]
  simp [execOp, hr _ _ hx, hr _ _ hy, Instr.index, asIntOf, run_underlying ht, h0, h3]
theorem Det.extract {vs : Array Value} {n : Nat} (hx : evT st.T x = some (.tuple vs)) (hn : vs[n]? = some v) : Slots P C ⟨d, .extract x n, ty, pos, aft, g⟩ st v := fun a w hr => by
  simp [execOp, hr _ _ hx, Instr.extract, hn]
theorem Det.len {l c : Nat} {p : Option Addr} {e : TypeId} (ht : P.underlying t = some (.slice e)) (hx : evT st.T x = some (.slice p l c)) :
    Slots P C ⟨d, .call { callee := .builtin .len, args := #[x], argTypes := #[t] }, ty, pos, aft, g⟩ st (.int .i64 l) := fun a w hr => by
  simp [execOp, hr _ _ hx, resolve, invoke, builtin, Builtin.len_, run_underlying ht, goInt]
theorem Det.lens {b : ByteArray} (ht : P.underlying t = some .string) (hx : evT st.T x = some (.string b)) :
    Slots P C ⟨d, .call { callee := .builtin .len, args := #[x], argTypes := #[t] }, ty, pos, aft, g⟩ st (.int .i64 b.size) := fun a w hr => by
  simp [execOp, hr _ _ hx, resolve, invoke, builtin, Builtin.len_, run_underlying ht, goInt]
theorem Det.max {k k' : IntKind} {i j : Int} {ts : Array TypeId} (hx : evT st.T x = some (.int k i)) (hy : evT st.T y = some (.int k' j)) :
    Slots P C ⟨d, .call { callee := .builtin .max, args := #[x, y], argTypes := ts }, ty, pos, aft, g⟩ st (.int k (if j > i then j else i)) := fun a w hr => by
  simp [execOp, hr _ _ hx, hr _ _ hy, resolve, invoke, builtin, run_max_int2]
theorem Det.min {k k' : IntKind} {i j : Int} {ts : Array TypeId} (hx : evT st.T x = some (.int k i)) (hy : evT st.T y = some (.int k' j)) :
    Slots P C ⟨d, .call { callee := .builtin .min, args := #[x, y], argTypes := ts }, ty, pos, aft, g⟩ st (.int k (if j < i then j else i)) := fun a w hr => by
  simp [execOp, hr _ _ hx, hr _ _ hy, resolve, invoke, builtin, run_min_int2]
/-- An array's slice. -/
theorem Det.slArr {n : Nat} {e : TypeId} {b o : Nat} (ht : P.underlying t = some (.array n e)) {m : Nat} (he : szOf P e = some m) (hx : evT st.T x = some (.pointer (some ⟨b, o, none⟩))) :
    Slots P C ⟨d, .slice t x none none none, ty, pos, aft, g⟩ st (.slice (some ⟨b, o, none⟩) n n) := fun a w hr => by
  simp [execOp, hr _ _ hx, Instr.sliceAt, run_underlying ht, Instr.sureAddr, Instr.sliceBounds, run_sizeOf he, Addr.add]
theorem Det.slArrH {n : Nat} {e : TypeId} {b o : Nat} {k : IntKind} {h : Int} (ht : P.underlying t = some (.array n e)) {m : Nat} (he : szOf P e = some m) (hx : evT st.T x = some (.pointer (some ⟨b, o, none⟩)))
    (hz : evT st.T z = some (.int k h)) (h0 : 0 ≤ h) (h1 : h ≤ n) :
    Slots P C ⟨d, .slice t x none (some z) none, ty, pos, aft, g⟩ st (.slice (some ⟨b, o, none⟩) h.toNat n) := fun a w hr => by
  simp [execOp, hr _ _ hx, hr _ _ hz, Instr.sliceAt, run_underlying ht, Instr.sureAddr, Instr.sliceBounds, run_sliceBound, h0, h1, run_sizeOf he, Addr.add]
theorem Det.slStrL {k : IntKind} {l : Int} {b : ByteArray} (ht : P.underlying t = some .string) (hx : evT st.T x = some (.string b)) (hz : evT st.T z = some (.int k l)) (h0 : 0 ≤ l) (h1 : l ≤ b.size) :
    Slots P C ⟨d, .slice t x (some z) none none, ty, pos, aft, g⟩ st (.string (b.extract l.toNat b.size)) := fun a w hr => by
  simp [execOp, hr _ _ hx, hr _ _ hz, Instr.sliceAt, Instr.slice, run_underlying ht, Instr.sliceBounds, run_sliceBound, h0, h1]
theorem Det.slStrH {k : IntKind} {h : Int} {b : ByteArray} (ht : P.underlying t = some .string) (hx : evT st.T x = some (.string b)) (hz : evT st.T z = some (.int k h)) (h0 : 0 ≤ h) (h1 : h ≤ b.size) :
    Slots P C ⟨d, .slice t x none (some z) none, ty, pos, aft, g⟩ st (.string (b.extract 0 h.toNat)) := fun a w hr => by
  simp [execOp, hr _ _ hx, hr _ _ hz, Instr.sliceAt, Instr.slice, run_underlying ht, Instr.sliceBounds, run_sliceBound, h0, h1]
theorem Det.slStrLH {k k' : IntKind} {l h : Int} {b : ByteArray} (ht : P.underlying t = some .string) (hx : evT st.T x = some (.string b)) (hy : evT st.T y = some (.int k l)) (hz : evT st.T z = some (.int k' h))
    (h0 : 0 ≤ l) (h1 : l ≤ h) (h2 : h ≤ b.size) :
    Slots P C ⟨d, .slice t x (some y) (some z) none, ty, pos, aft, g⟩ st (.string (b.extract l.toNat h.toNat)) := fun a w hr => by
  have h3 : 0 ≤ h := by omega
  have h4 : (h.toNat : Int) = h := by omega
  simp [execOp, hr _ _ hx, hr _ _ hy, hr _ _ hz, Instr.sliceAt, Instr.slice, run_underlying ht, Instr.sliceBounds, run_sliceBound, h0, h1, h2, h3, h4]
theorem Det.sl {p : Option Addr} {e : TypeId} {l c : Nat} (ht : P.underlying t = some (.slice e)) {m : Nat} (he : szOf P e = some m) (hx : evT st.T x = some (.slice p l c)) :
    Slots P C ⟨d, .slice t x none none none, ty, pos, aft, g⟩ st (.slice p l c) := fun a w hr => by
  cases p <;> simp [execOp, hr _ _ hx, Instr.sliceAt, Instr.slice, run_underlying ht, Instr.sliceBounds, run_sizeOf he, Addr.add]
theorem Det.slH {p : Option Addr} {e : TypeId} {l c : Nat} {k : IntKind} {h : Int} (ht : P.underlying t = some (.slice e)) {m : Nat} (he : szOf P e = some m) (hx : evT st.T x = some (.slice p l c))
    (hz : evT st.T z = some (.int k h)) (h0 : 0 ≤ h) (h1 : h ≤ c) :
    Slots P C ⟨d, .slice t x none (some z) none, ty, pos, aft, g⟩ st (.slice p h.toNat c) := fun a w hr => by
  cases p <;> simp [execOp, hr _ _ hx, hr _ _ hz, Instr.sliceAt, Instr.slice, run_underlying ht, Instr.sliceBounds, run_sliceBound, h0, h1, run_sizeOf he, Addr.add]
theorem Det.makeFunc {fn : Fn} : Slots P C ⟨d, .makeFunc fn #[] #[], ty, pos, aft, g⟩ st (.func fn #[] #[]) := fun a w hr => by
  simp [execOp, Instr.makeFunc]
theorem Det.makeFunc1 {fn : Fn} (hx : evT st.T x = some v) : Slots P C ⟨d, .makeFunc fn #[x] #[], ty, pos, aft, g⟩ st (.func fn #[v] #[]) := fun a w hr => by
  simp [execOp, Instr.makeFunc, hr _ _ hx]
theorem Det.makeFuncC1 {fn : Fn} (hx : evT st.T x = some v) : Slots P C ⟨d, .makeFunc fn #[] #[x], ty, pos, aft, g⟩ st (.func fn #[] #[v]) := fun a w hr => by
  simp [execOp, Instr.makeFunc, hr _ _ hx]
end

/-- A value of one cell. -/
def one (v : Value) : Bool := match v with
  | .agg _ => false
  | .tuple _ => false
  | _ => true
def notAgg : TypeDesc → Bool
  | .struct _ => false
  | .array _ _ => false
  | _ => true
theorem run_isAgg_no {P : Program} {t : TypeId} {D : TypeDesc} (hu : P.underlying t = some D) (hn : notAgg D = true) (w : World) : (isAgg t).run P w = .ok false w := by
  cases D <;> simp_all [isAgg, run_underlying hu, notAgg]
theorem run_isAgg_yes {P : Program} {t : TypeId} {D : TypeDesc} (hu : P.underlying t = some D) (hn : notAgg D = false) (w : World) : (isAgg t).run P w = .ok true w := by
  cases D <;> simp_all [isAgg, run_underlying hu, notAgg]
theorem cell_of {w : World} {b : Nat} {B : Blk} (h : (Item.blk b B).holds w) (o : Nat) : w.cell? ⟨b, o, none⟩ = B.cells[o]? := by
  simp only [Item.holds] at h
  simp [World.cell?, h]
/-- A variable of type 't' at place 'o' of a known block. -/
def LoadV (P : Program) (t : TypeId) (B : Blk) (o : Nat) (v : Value) : Prop :=
  (∃ D, P.underlying t = some D ∧ notAgg D = true ∧ B.cells[o]? = some v) ∨
  (∃ D n cs, P.underlying t = some D ∧ notAgg D = false ∧ szOf P t = some n ∧ (B.cells.drop o).take n = cs ∧ o + n ≤ B.cells.length ∧ v = .agg cs.toArray)
theorem LoadV.one {P : Program} {t : TypeId} {B : Blk} {o : Nat} {v : Value} {D : TypeDesc} (hu : P.underlying t = some D) (hn : notAgg D = true) (h : B.cells[o]? = some v) : LoadV P t B o v := .inl ⟨D, hu, hn, h⟩
theorem LoadV.many {P : Program} {t : TypeId} {B : Blk} {o n : Nat} {cs : List Value} {D : TypeDesc} (hu : P.underlying t = some D) (hn : notAgg D = false) (hs : szOf P t = some n) (h : (B.cells.drop o).take n = cs) (hl : o + n ≤ B.cells.length) :
    LoadV P t B o (.agg cs.toArray) := .inr ⟨D, n, cs, hu, hn, hs, h, hl, rfl⟩
theorem LoadV.whole {P : Program} {t : TypeId} {B : Blk} {D : TypeDesc} (hu : P.underlying t = some D) (hn : notAgg D = false) (hs : szOf P t = some B.cells.length) :
    LoadV P t B 0 (.agg B.cells.toArray) := .inr ⟨D, _, B.cells, hu, hn, hs, by simp, by simp, rfl⟩
/-- A part of a block: what lies ahead of it, it, what lies behind. -/
theorem LoadV.mid {P : Program} {t : TypeId} {B : Blk} {o n : Nat} {pre cs post : List Value} {D : TypeDesc} (hu : P.underlying t = some D) (hn : notAgg D = false) (hs : szOf P t = some n) (hB : B.cells = pre ++ (cs ++ post)) (hp : pre.length = o) (hc : cs.length = n) :
    LoadV P t B o (.agg cs.toArray) := by
  subst hp
  subst hc
  exact .inr ⟨D, _, cs, hu, hn, hs, by rw [hB]; simp, by rw [hB]; simp, rfl⟩
theorem LoadV.first {P : Program} {t : TypeId} {B : Blk} {n : Nat} {cs post : List Value} {D : TypeDesc} (hu : P.underlying t = some D) (hn : notAgg D = false) (hs : szOf P t = some n) (hB : B.cells = cs ++ post) (hc : cs.length = n) :
    LoadV P t B 0 (.agg cs.toArray) := LoadV.mid (pre := []) hu hn hs hB rfl hc
theorem LoadV.last {P : Program} {t : TypeId} {B : Blk} {o n : Nat} {pre cs : List Value} {D : TypeDesc} (hu : P.underlying t = some D) (hn : notAgg D = false) (hs : szOf P t = some n) (hB : B.cells = pre ++ cs) (hp : pre.length = o) (hc : cs.length = n) :
    LoadV P t B o (.agg cs.toArray) := LoadV.mid (post := []) hu hn hs (by simpa using hB) hp hc
theorem LoadV.run {P : Program} {t : TypeId} {B : Blk} {b o : Nat} {v : Value} {w : World} (h : LoadV P t B o v) (hb : (Item.blk b B).holds w) : (loadVar t ⟨b, o, none⟩).run P w = .ok v w := by
  rcases h with ⟨D, hu, hn, hc⟩ | ⟨D, n, cs, hu, hn, hs, hc, hl, rfl⟩
  · simp only [loadVar, Sem.run_bind, run_isAgg_no hu hn, Result.andThen_ok]
    simp [run_load, cell_of hb, hc]
  · have hlen : cs.length = n := by rw [← hc]; simp; omega
    have h1 := run_loadCells_list (P := P) w ⟨b, o, none⟩ cs (fun j u hj => by
      have ha : (⟨b, o, none⟩ : Addr).add j = ⟨b, o + j, none⟩ := by unfold Addr.add; split <;> simp_all
      rw [ha, cell_of hb]
      have hj' : j < cs.length := by
        rcases Nat.lt_or_ge j cs.length with h' | h'
        · exact h'
        · rw [List.getElem?_eq_none h'] at hj; cases hj
      rw [← hc, List.getElem?_take] at hj
      rw [if_pos (by omega), List.getElem?_drop] at hj
      exact hj)
    rw [hlen] at h1
    have h2 := run_isAgg_yes (P := P) hu hn w
    have h3 := run_sizeOf hs w
    simp [loadVar, h2, h3, h1]

section
variable {P : Program} {C : Ctx} {d : Option Tmp} {ty : TypeId} {pos : String} {aft : Array Edge} {g : Option (Nat × Bool)} {st : St} {x y z : Operand} {v u : Value} {t s : TypeId}
theorem Det.load {b o : Nat} {B : Blk} (hx : evT st.T x = some (.pointer (some ⟨b, o, none⟩))) (hm : Item.blk b B ∈ st.H) (hv : LoadV P t B o v) : Det P C ⟨d, .load t x, ty, pos, aft, g⟩ st v := fun a w hr => by
  simp [execOp, hr.ev hx, Instr.loadAt, Instr.sureAddr, hv.run (hr.hp _ hm)]
end

/-! ### New blocks -/
theorem holds_alloc {w : World} {x : Item} (h : x.holds w) (o : Obj) : x.holds (w.alloc o) :=
  Item.holds_agree h (fun k hk => Below.heap_alloc _ _ _ (Item.lt h k hk)) (by simp)
theorem Rel.alloc {C : Ctx} {st : St} {a : Act} {w : World} (h : Rel C st a w) (cs : List Value) (e : TypeId) :
    Rel C ⟨st.T, .blk w.heap.size ⟨true, cs, e, (0, 0)⟩ :: st.H⟩ a (w.alloc (.cells cs.toArray e)) := by
  refine ⟨h.size, h.defers, h.tm, ?_, ?_, ?_, ?_⟩
  · intro x hx
    rcases List.mem_cons.1 hx with rfl | hx
    · exact heap_alloc_new _ _
    · exact holds_alloc (h.hp x hx) _
  · intro x hx hw k hk
    rcases List.mem_cons.1 hx with rfl | hx
    · simp [Item.fp] at hk; subst hk; exact .inl h.fr.size
    · exact h.own x hx hw k hk
  · refine List.pairwise_cons.2 ⟨fun y hy _ k hk hk' => ?_, h.dist⟩
    simp [Item.fp] at hk; subst hk
    exact Nat.lt_irrefl _ (Item.lt (h.hp y hy) _ hk')
  · exact ⟨h.fr.os, h.fr.tape, h.fr.output, by have := h.fr.size; simp; omega, fun k hk hw => (Below.heap_alloc _ _ _ (Nat.lt_of_lt_of_le hk h.fr.size)).trans (h.fr.block k hk hw)⟩

section
variable {P : Program} {C : Ctx} {ops : Array Oper} {ty : TypeId} {pos : String} {aft : Array Edge} {d : Nat} {rest : List Oper} {st : St} {Q : Exit → St → Prop} {x y z : Operand} {v u : Value} {t s e : TypeId}
/-- An operation that makes one block and yields a value that hangs on its number. -/
def Makes (P : Program) (C : Ctx) (o : Oper) (st : St) (cs : List Value) (e : TypeId) (v : Nat → Value) : Prop :=
  ∀ a w, Rel C st a w → (execOp a.eval o).run P w = .ok (.value (v w.heap.size)) (w.alloc (.cells cs.toArray e))
theorem LOps.makes {op : Op} {cs : List Value} {v : Nat → Value} (hy : Makes P C ⟨some d, op, ty, pos, aft, none⟩ st cs e v) (hd : d < C.N)
    (h : ∀ b, LOps P C ops rest ⟨(d, v b) :: st.T, .blk b ⟨true, cs, e, (0, 0)⟩ :: st.H⟩ Q) : LOps P C ops (⟨some d, op, ty, pos, aft, none⟩ :: rest) st Q := by
  intro a w hr
  refine wpList_plain rfl fun K hK => ?_
  unfold Oper.wp
  rw [hy a w hr]
  exact hK _ _ (h _ _ _ ((hr.alloc cs e).put hd _))
variable {dd : Option Tmp} {g : Option (Nat × Bool)}
theorem Makes.alloc {z : Value} {cs : List Value} (hz : zrOf P t = some z) (hc : z.cells = cs.toArray) : Makes P C ⟨dd, .alloc t, ty, pos, aft, g⟩ st cs t (fun b => .pointer (some ⟨b, 0, none⟩)) := fun a w hr => by
  simp [execOp, Instr.alloc, run_zeroValue hz, newVar, newRow, newObj, Sem.run, hc]
theorem Makes.box {cs : List Value} (hx : evT st.T x = some v) (hc : v.cells = cs.toArray) : Makes P C ⟨dd, .box t x, ty, pos, aft, g⟩ st cs t (fun b => .pointer (some ⟨b, 0, none⟩)) := fun a w hr => by
  simp [execOp, hr.ev hx, Instr.box, newVar, newRow, newObj, Sem.run, hc]
end

section
variable {P : Program} {C : Ctx} {dd : Option Tmp} {ty : TypeId} {pos : String} {aft : Array Edge} {g : Option (Nat × Bool)} {st : St} {x : Operand} {v : Value} {t : TypeId}
theorem Makes.allocA {cs : List Value} (hz : zrOf P t = some (.agg cs.toArray)) : Makes P C ⟨dd, .alloc t, ty, pos, aft, g⟩ st cs t (fun b => .pointer (some ⟨b, 0, none⟩)) := Makes.alloc hz rfl
theorem Makes.alloc1 {v : Value} (hz : zrOf P t = some v) (h1 : one v = true) : Makes P C ⟨dd, .alloc t, ty, pos, aft, g⟩ st [v] t (fun b => .pointer (some ⟨b, 0, none⟩)) :=
  Makes.alloc hz (by cases v <;> simp_all [one, Value.cells])
theorem Makes.boxA {cs : List Value} (hx : evT st.T x = some (.agg cs.toArray)) : Makes P C ⟨dd, .box t x, ty, pos, aft, g⟩ st cs t (fun b => .pointer (some ⟨b, 0, none⟩)) := Makes.box hx rfl
theorem Makes.box1 (hx : evT st.T x = some v) (h1 : one v = true) : Makes P C ⟨dd, .box t x, ty, pos, aft, g⟩ st [v] t (fun b => .pointer (some ⟨b, 0, none⟩)) :=
  Makes.box hx (by cases v <;> simp_all [one, Value.cells])
end

/-! ### Writes -/
/-- Block 'b' is B in the one list and B' in the other; all else is one. -/
inductive SetAt (b : Nat) (B B' : Blk) : List Item → List Item → Prop where
  | head (l : List Item) : SetAt b B B' (.blk b B :: l) (.blk b B' :: l)
  | tail (x : Item) {l l' : List Item} : SetAt b B B' l l' → SetAt b B B' (x :: l) (x :: l')
theorem SetAt.mem {b : Nat} {B B' : Blk} {l l' : List Item} (h : SetAt b B B' l l') : Item.blk b B ∈ l := by
  induction h with
  | head l => exact .head _
  | tail x h ih => exact .tail _ ih
theorem SetAt.all {b : Nat} {B B' : Blk} {l l' : List Item} (h : SetAt b B B' l l') {p p' : Item → Prop} (hd : l.Pairwise Apart) (hw : B.wr = true)
    (hp : ∀ x, x ∈ l → p x) (hn : p' (.blk b B')) (hk : ∀ x, x ∈ l → p x → b ∉ x.fp → p' x) : ∀ x, x ∈ l' → p' x := by
  induction h with
  | head l =>
    intro x hx
    rcases List.mem_cons.1 hx with rfl | hx
    · exact hn
    · exact hk x (.tail _ hx) (hp x (.tail _ hx)) ((List.pairwise_cons.1 hd).1 x hx (.inl hw) b (by simp [Item.fp]))
  | tail y h ih =>
    intro x hx
    rcases List.mem_cons.1 hx with rfl | hx
    · exact hk x (.head _) (hp x (.head _)) (fun hb => (List.pairwise_cons.1 hd).1 _ h.mem (.inr hw) b hb (by simp [Item.fp]))
    · exact ih (List.pairwise_cons.1 hd).2 (fun x hx => hp x (.tail _ hx)) (fun x hx => hk x (.tail _ hx)) x hx
theorem SetAt.apart {b : Nat} {B B' : Blk} {l l' : List Item} (h : SetAt b B B' l l') (hd : l.Pairwise Apart) (hw : B.wr = true) : l'.Pairwise Apart := by
  induction h with
  | head l =>
    obtain ⟨h1, h2⟩ := List.pairwise_cons.1 hd
    exact List.pairwise_cons.2 ⟨fun y hy _ k hk => h1 y hy (.inl hw) k hk, h2⟩
  | tail x h ih =>
    obtain ⟨h1, h2⟩ := List.pairwise_cons.1 hd
    refine List.pairwise_cons.2 ⟨?_, ih h2⟩
    exact h.all h2 hw h1 (fun _ k hk hk' => h1 _ h.mem (.inr hw) k hk hk') (fun y _ hy _ => hy)
theorem Rel.setBlk {C : Ctx} {st : St} {a : Act} {w w' : World} {b : Nat} {B B' : Blk} {H' : List Item} (h : Rel C st a w) (hs : SetAt b B B' st.H H') (hw : B.wr = true)
    (hb : (Item.blk b B').holds w') (hk : ∀ k, k ≠ b → w'.heap[k]? = w.heap[k]?) (hz : w'.heap.size = w.heap.size) (ho : w'.os = w.os) (ht : w'.tape = w.tape) (hu : w'.output = w.output) :
    Rel C ⟨st.T, H'⟩ a w' := by
  have hag : ∀ x, x ∈ st.H → x.holds w → b ∉ x.fp → x.holds w' := fun x _ hx hb' => Item.holds_agree hx (fun k hk' => hk k (fun e => hb' (e ▸ hk'))) (by omega)
  refine ⟨h.size, h.defers, h.tm, hs.all h.dist hw h.hp hb hag, ?_, hs.apart h.dist hw, ?_⟩
  · refine hs.all (p := fun x => x.wr = true → ∀ k, k ∈ x.fp → C.w0.heap.size ≤ k ∨ C.W k) h.dist hw h.own ?_ (fun x _ hx _ => hx)
    intro _ k hk'
    exact h.own _ hs.mem hw k hk'
  · refine ⟨ho.trans h.fr.os, ht.trans h.fr.tape, hu.trans h.fr.output, by have := h.fr.size; omega, fun k hk1 hk2 => ?_⟩
    have hne : k ≠ b := by
      rintro rfl
      rcases h.own _ hs.mem hw k (by simp [Item.fp]) with h1 | h1
      · omega
      · exact hk2 h1
    exact (hk k hne).trans (h.fr.block k hk1 hk2)
/-- A row of cells put into a block from 'o' on. -/
def splice (l : List Value) (o : Nat) (cs : List Value) : List Value := l.take o ++ cs ++ l.drop (o + cs.length)
theorem splice_nil (l : List Value) (o : Nat) (h : o ≤ l.length) : splice l o [] = l := by simp [splice]
theorem splice_one (l : List Value) (o : Nat) (v : Value) (h : o < l.length) : splice l o [v] = l.set o v := by
  simp [splice, List.set_eq_take_append_cons_drop, h]
theorem splice_whole (l cs : List Value) (h : cs.length = l.length) : splice l 0 cs = cs := by simp [splice, h]
theorem splice_length (l : List Value) (o : Nat) (cs : List Value) (h : o + cs.length ≤ l.length) : (splice l o cs).length = l.length := by simp [splice]; omega
theorem splice_cons (l : List Value) (o : Nat) (v : Value) (cs : List Value) (h : o + (cs.length + 1) ≤ l.length) : splice l o (v :: cs) = splice (l.set o v) (o + 1) cs := by
  apply List.ext_getElem?
  intro i
  simp only [splice, List.getElem?_append, List.getElem?_take, List.getElem?_drop, List.length_take, List.length_append, List.length_cons, List.length_set, List.getElem?_set, List.getElem?_cons]
  repeat' split
  all_goals first
    | omega
    | rfl
    | (congr 1; omega)
    | (simp_all; done)
    | (simp_all; omega)
    | skip
/-- One-cell values only. -/
def AllOne (cs : List Value) : Prop := ∀ c, c ∈ cs → one c = true
theorem run_storeCells {P : Program} (b : Nat) (e : TypeId) (frz : Nat × Nat) : ∀ (cs : List Value) (i o : Nat) (l : List Value) (w : World), w.heap[b]? = some (.cells l.toArray e frz) → AllOne cs → o + (i + cs.length) ≤ l.length →
    (∀ j, j < cs.length → ¬ (frz.1 ≤ o + (i + j) ∧ o + (i + j) < frz.2)) →
    ∃ w', (storeCells ⟨b, o, none⟩ cs i).run P w = .ok () w' ∧ w'.heap[b]? = some (.cells (splice l (o + i) cs).toArray e frz) ∧ (∀ k, k ≠ b → w'.heap[k]? = w.heap[k]?) ∧ w'.heap.size = w.heap.size ∧ w'.os = w.os ∧ w'.tape = w.tape ∧ w'.output = w.output
  | [], i, o, l, w, hb, _, hl, _ => ⟨w, by simp [storeCells], by rw [splice_nil _ _ (by simpa using hl)]; exact hb, fun _ _ => rfl, rfl, rfl, rfl, rfl⟩
  | c :: cs, i, o, l, w, hb, h1, hl, hf => by
    have hlen : o + i < l.length := by simp at hl; omega
    have ha : (⟨b, o, none⟩ : Addr).add i = ⟨b, o + i, none⟩ := by unfold Addr.add; split <;> simp_all
    have hcell : w.cell? ⟨b, o + i, none⟩ = some l[o + i] := by simp [World.cell?, hb, hlen]
    have hfr : w.frozen? ⟨b, o + i, none⟩ = false := by
      have := hf 0 (by simp)
      simp only [World.frozen?, hb]
      simp only [Nat.add_zero] at this
      simp only [Bool.and_eq_false_iff, decide_eq_false_iff_not]
      rcases Classical.em (frz.1 ≤ o + i) with h | h
      · exact .inr (fun h' => this ⟨h, h'⟩)
      · exact .inl h
    have hb' : (w.setCell ⟨b, o + i, none⟩ c).heap[b]? = some (.cells (l.set (o + i) c).toArray e frz) := by
      simp [World.setCell, Array.getElem?_modify, hb]
    obtain ⟨w', r, hx, hk, hz, ho, ht, hu⟩ := run_storeCells (P := P) b e frz cs (i + 1) o (l.set (o + i) c) _ hb' (fun c' hc' => h1 c' (.tail _ hc')) (by simp at hl ⊢; omega)
      (fun j hj => by have := hf (j + 1) (by simp; omega); rwa [show i + (j + 1) = i + 1 + j from by omega] at this)
    have hone : one c = true := h1 c (.head _)
    have hst : (store ⟨b, o + i, none⟩ c).run P w = .ok () (w.setCell ⟨b, o + i, none⟩ c) := by
      cases c <;> simp_all [store, Sem.run, one]
    refine ⟨w', ?_, ?_, fun k hk' => (hk k hk').trans (heap_setCell_other _ _ _ _ hk'), by simpa using hz, ho, ht, hu⟩
    · simp only [storeCells, ha, Sem.run_bind, hst, Result.andThen_ok]
      exact r
    · rw [splice_cons _ _ _ _ (by simp at hl; omega)]
      exact hx

section
variable {P : Program} {C : Ctx} {ops : Array Oper} {ty : TypeId} {pos : String} {aft : Array Edge} {d : Nat} {rest : List Oper} {st : St} {Q : Exit → St → Prop} {x y z : Operand} {v u : Value} {t s e : TypeId}
theorem wanted_none {o : Oper} (h : o.guard = none) (f : Nat → Option Bool) : Region.wanted o f = true := by simp [Region.wanted, h]
end

/-! ### Calls -/
def Enters (P : Program) (f : FuncId) : Prop := ∃ fn, P.funcs[f]? = some fn ∧ (fn.name == "runtime.NumGoroutine") = false ∧ fn.body.isNone = false
theorem Rel.evs {C : Ctx} {st : St} {a : Act} {w : World} (h : Rel C st a w) {xs : List Operand} {vs : List Value} (hl : evL st.T xs = some vs) : xs.map a.eval = vs := evs_of (fun x u hx => h.ev hx) hl
/-- What a call brings: things of memory that are new, or hang on what was known and is nobody's to write. -/
structure Brings (w : World) (H its : List Item) (w' : World) : Prop where
  below : Below w.heap.size w w'
  hp : ∀ x, x ∈ its → x.holds w'
  new : ∀ x, x ∈ its → ∀ k, k ∈ x.fp → w.heap.size ≤ k ∨ ∃ y, y ∈ H ∧ y.wr = false ∧ k ∈ y.fp
  wr : ∀ x, x ∈ its → x.wr = true → ∀ k, k ∈ x.fp → w.heap.size ≤ k
  dist : its.Pairwise Apart
theorem Brings.none {w w' : World} {H : List Item} (h : Below w.heap.size w w') : Brings w H [] w' := ⟨h, by simp, by simp, by simp, .nil⟩
theorem Rel.brings {C : Ctx} {st : St} {a : Act} {w w' : World} {its : List Item} (h : Rel C st a w) (hb : Brings w st.H its w') : Rel C ⟨st.T, its ++ st.H⟩ a w' := by
  have h' := h.below hb.below
  refine ⟨h.size, h.defers, h.tm, ?_, ?_, ?_, h'.fr⟩
  · intro x hx
    rcases List.mem_append.1 hx with hx | hx
    · exact hb.hp x hx
    · exact h'.hp x hx
  · intro x hx hw k hk
    rcases List.mem_append.1 hx with hx | hx
    · have := hb.wr x hx hw k hk
      have := h.fr.size
      exact .inl (by omega)
    · exact h.own x hx hw k hk
  · refine List.pairwise_append.2 ⟨hb.dist, h.dist, fun x hx y hy hw k hk hk' => ?_⟩
    have hlt := Item.lt (h.hp y hy) k hk'
    cases hxw : x.wr with
    | true => have := hb.wr x hx hxw k hk; omega
    | false =>
      have hyw : y.wr = true := by rcases hw with hw | hw; · rw [hxw] at hw; cases hw
                                   · exact hw
      rcases hb.new x hx k hk with hn | ⟨z, hz, hzw, hkz⟩
      · omega
      · have key : ∀ (l : List Item), l.Pairwise Apart → y ∈ l → z ∈ l → False := by
          intro l hl hyl hzl
          induction l with
          | nil => cases hyl
          | cons q l ih =>
            obtain ⟨h1, h2⟩ := List.pairwise_cons.1 hl
            rcases List.mem_cons.1 hyl with rfl | hyl <;> rcases List.mem_cons.1 hzl with rfl | hzl
            · rw [hyw] at hzw; cases hzw
            · exact h1 z hzl (.inl hyw) k hk' hkz
            · exact h1 y (by assumption) (.inr hyw) k hkz hk'
            · exact ih h2 (by assumption) (by assumption)
        exact key st.H h.dist hy hz
theorem run_call {P : Program} {f : FuncId} {fn : Func} (h1 : P.funcs[f]? = some fn) (h2 : (fn.name == "runtime.NumGoroutine") = false) (h3 : fn.body.isNone = false) (args : Array Value) (w : World) :
    (callFunc f args).run P w = .ok (.enter f args) w := by
  have h2' : ¬ fn.name = "runtime.NumGoroutine" := by simpa using h2
  have h3' : ¬ fn.body = none := by intro h; rw [h] at h3; cases h3
  simp [callFunc, program, Sem.run, h1, h2', h3']
section
variable {P : Program} {C : Ctx} {ops : Array Oper} {ty : TypeId} {pos : String} {aft : Array Edge} {d : Nat} {rest : List Oper} {st : St} {Q : Exit → St → Prop} {x y z : Operand} {v u : Value} {t s e : TypeId}
theorem wp_callee {o : Oper} {a : Act} {w : World} {f : FuncId} {vs : List Value} {R : Ending → World → Prop} {K : Act → World → Prop} {Q' : Exit → Act → World → Prop}
    (hrun : (execOp a.eval o).run P w = .ok (.enter f vs.toArray) w) (hc : Calls P f vs.toArray w R) (hR : ∀ e w', R e w' → ∃ v, e = .returned v ∧ K (a.put o.dst v) w') : o.wp P a w K Q' := by
  unfold Oper.wp
  rw [hrun]
  exact Calls.mono hc fun e w' he => by
    obtain ⟨v, rfl, hk⟩ := hR e w' he
    exact hk
end

/-! ### A function's begin and end -/
def ResV (P : Program) (st : St) : ResultVar → Value → Prop
  | .tmp k, v => look k st.T = some v
  | .cell s t, v => ∃ b o B, look s st.T = some (.pointer (some ⟨b, o, none⟩)) ∧ Item.blk b B ∈ st.H ∧ LoadV P t B o v
def resSem (tmps : Array Value) : ResultVar → Sem Value
  | .tmp t => pure (tmps.getD t undef)
  | .cell p t => do loadVar t (← asAddr (tmps.getD p undef))
theorem run_resV {P : Program} {C : Ctx} {st : St} {a : Act} {w : World} (hr : Rel C st a w) {r : ResultVar} {v : Value} (h : ResV P st r v) : (resSem a.tmps r).run P w = .ok v w := by
  cases r with
  | tmp k =>
    have := hr.slot h
    simp [Act.eval] at this
    simp [resSem, this]
  | cell p t =>
    obtain ⟨b, o, B, h1, h2, h3⟩ := h
    have := hr.slot h1
    simp [Act.eval] at this
    simp [resSem, this, asAddr, h3.run (hr.hp _ h2)]
/-- The results as they stand in the slots. -/
inductive ResAll (P : Program) (st : St) : List ResultVar → List Value → Prop where
  | nil : ResAll P st [] []
  | cons {r : ResultVar} {v : Value} {rs : List ResultVar} {vs : List Value} : ResV P st r v → ResAll P st rs vs → ResAll P st (r :: rs) (v :: vs)
def resOf : List Value → Value
  | [v] => v
  | vs => .tuple vs.toArray
theorem results_eq (fn : Func) (tmps : Array Value) : results fn tmps = (do
    let vs ← fn.results.mapM (resSem tmps)
    pure (if h : vs.size = 1 then vs[0] else .tuple vs)) := by
  unfold results
  congr 1
theorem run_results {P : Program} {C : Ctx} {st : St} {a : Act} {w : World} (hr : Rel C st a w) {fn : Func} {vs : List Value} {rs : List ResultVar} (hf : fn.results = rs.toArray) (h : ResAll P st rs vs) : (results fn a.tmps).run P w = .ok (resOf vs) w := by
  have key : ∀ {rs : List ResultVar} {vs : List Value}, ResAll P st rs vs → (rs.mapM (resSem a.tmps)).run P w = .ok vs w := by
    intro rs vs h
    induction h with
    | nil => simp
    | cons h1 h2 ih =>
      have h1' := run_resV hr h1
      rename_i r v rs vs
      simp only [List.mapM_cons, Sem.run_bind]
      rw [h1']
      simp only [Result.andThen_ok]
      rw [ih]
      simp
  rw [results_eq]
  simp only [hf, Sem.run_bind]
  rw [List.mapM_toArray]
  simp only [Sem.run_map, key h, Result.andThen_ok]
  match vs with
  | [] => simp [resOf]
  | [v] => simp [resOf]
  | v :: u :: vs => simp [resOf]
/-- What must hold where a function ends: its results, and what the caller is told. -/
def LEnd (P : Program) (C : Ctx) (rs : List ResultVar) (R : Value → Act → World → Prop) : Exit → St → Prop
  | .normal, st => ∃ vs, ResAll P st rs vs ∧ ∀ a w, Rel C st a w → R (resOf vs) a w
  | .ret, st => ∃ vs, ResAll P st rs vs ∧ ∀ a w, Rel C st a w → R (resOf vs) a w
  | _, _ => False
/-- The slots at the begin: the arguments. -/
def argT : Nat → List Value → List (Nat × Value)
  | _, [] => []
  | i, v :: vs => (i, v) :: argT (i + 1) vs
theorem look_argT : ∀ (vs : List Value) (i k : Nat) (v : Value), look k (argT i vs) = some v → i ≤ k ∧ vs[k - i]? = some v
  | [], i, k, v, h => by simp [argT, look] at h
  | u :: vs, i, k, v, h => by
    simp only [argT, look] at h
    cases hb : Nat.beq i k with
    | true =>
      have := Nat.eq_of_beq_eq_true hb
      subst this
      simp at h
      subst h
      simp
    | false =>
      rw [hb] at h
      obtain ⟨h1, h2⟩ := look_argT vs (i + 1) k v h
      refine ⟨by omega, ?_⟩
      rw [show k - i = (k - (i + 1)) + 1 by omega]
      simpa using h2
theorem calls_walk {P : Program} {f : FuncId} {fn : Func} {c : Code} {vs : List Value} {w : World} {H : List Item} {W : Nat → Prop} {rs : List ResultVar} {N : Nat} {R : Ending → World → Prop} (hf : P.funcs[f]? = some fn) (hb : fn.body = some c) (hn : fn.ntmps = N) (hs : fn.results = rs.toArray)
    (hlen : vs.length ≤ N) (hH : ∀ x, x ∈ H → x.holds w) (hW : ∀ x, x ∈ H → x.wr = true → ∀ k, k ∈ x.fp → W k) (hd : H.Pairwise Apart)
    (h : LCode P ⟨w, W, N⟩ c ⟨argT 0 vs, H⟩ (LEnd P ⟨w, W, N⟩ rs fun v _ w' => R (.returned v) w')) : Calls P f vs.toArray w R := by
  refine calls_of_wp hf hb (Code.wp_mono ?_ (h _ w ?_))
  · rintro e a w' ⟨st, hq, hr⟩
    cases e <;> simp only [LEnd] at hq
    case normal => obtain ⟨us, h1, h2⟩ := hq; exact ⟨hr.defers, _, run_results hr hs h1, h2 a w' hr⟩
    case ret => obtain ⟨us, h1, h2⟩ := hq; exact ⟨hr.defers, _, run_results hr hs h1, h2 a w' hr⟩
  · refine ⟨?_, rfl, ?_, hH, fun x hx hw k hk => .inr (hW x hx hw k hk), hd, Fr.refl _ _⟩
    · simp [hn]; omega
    · intro k v hl
      obtain ⟨_, h2⟩ := look_argT vs 0 k v hl
      simp only [Nat.sub_zero] at h2
      have hk : k < vs.length := by
        rcases Nat.lt_or_ge k vs.length with h' | h'
        · exact h'
        · rw [List.getElem?_eq_none h'] at h2; cases h2
      simp only [Array.getElem?_append, List.size_toArray, hk, if_true]
      simpa using h2

/-- What is asked of the world behind an operation that is not late: nothing that was there has turned. -/
def Sx (pr : Bool) (w w' : World) : Prop := pr = true ∨ Below w.heap.size w w'
theorem Sx.next {pr : Bool} {w w1 : World} {l : Bool} (hl : l = true → pr = true) (h : l = true ∨ Below w.heap.size w w1) : ∀ w2, Sx pr w1 w2 → Sx pr w w2 := by
  rintro w2 (h2 | h2)
  · exact .inl h2
  · rcases h with h | h
    · exact .inl (hl h)
    · exact .inr (h.trans (h2.mono h.size))
theorem YieldsIf.sub {P : Program} {ops : Array Oper} {S S' : World → Prop} {o : Oper} {v : Value} {a : Act} (h : YieldsIf P ops S o v a) (hs : ∀ w, S' w → S w) : YieldsIf P ops S' o v a :=
  h.imp (fun ⟨h1, h2⟩ => ⟨h1, fun w hw => h2 w (hs w hw)⟩) id

section
variable {P : Program} {ops : Array Oper} {Q : Exit → Act → World → Prop} {md : Region.Mode} {L : List Nat}
/-- Whatever order is picked from here on; behind each operation that is not late ('L') all that was there is as it was. -/
def wpAnyX (P : Program) (md : Region.Mode) (ops : Array Oper) (Q : Exit → Act → World → Prop) (L : List Nat) : Nat → Array Bool → Act → World → Prop
  | 0, listed, a, w => Region.ready md ops listed = [] ∧ Q .normal a w
  | fuel + 1, listed, a, w =>
    (Region.ready md ops listed = [] → Q .normal a w) ∧
    ∀ i ∈ Region.ready md ops listed, wpOp P ops Q i (fun a' w' => (L.contains i = true ∨ Below w.heap.size w w') ∧ wpAnyX P md ops Q L fuel (listed.setIfInBounds i true) a' w') a w
theorem wpAny_of_X : ∀ (fuel : Nat) (listed : Array Bool) (a : Act) (w : World), wpAnyX P md ops Q L fuel listed a w → wpAny P md ops Q fuel listed a w
  | 0, _, _, _, h => h
  | fuel + 1, _, _, _, h => ⟨h.1, fun i hi => wpOp_mono (fun a' w' h' => wpAny_of_X fuel _ a' w' h'.2) (h.2 i hi)⟩
theorem wpAnyX_first {i : Nat} {oi : Oper} {v : Value} {pr : Bool} (hi : ops[i]? = some oi) (hL : L.contains i = false) (hsel : ∀ (j : Nat) (o : Oper) cs b, ops[j]? = some o → o.op ≠ .select cs b)
    (hQ : ∀ c a w, ¬ Q (.panic c) a w) :
    ∀ (fuel : Nat) (listed : Array Bool) (a : Act) (w : World),
      (∀ j oj, ops[j]? = some oj → j ≠ i → listed.getD j true = false → (∀ e ∈ oj.after, Region.binds md e = true → e.on ≠ i) → oi.apart ops oj = true ∧ (L.contains j = true → pr = true)) →
      i ∈ Region.ready md ops listed → YieldsIf P ops (Sx pr w) oi v a →
      wpAnyX P md ops Q L fuel (listed.setIfInBounds i true) (a.put oi.dst v) w → wpAnyX P md ops Q L (fuel + 1) listed a w := by
  intro fuel
  induction fuel with
  | zero =>
    intro listed a w _ hr hy H
    refine ⟨fun h => (by rw [h] at hr; cases hr), fun j hj => ?_⟩
    by_cases hji : j = i
    · subst hji
      exact hy.wpOp hi (.inr (Below.refl _ _)) ⟨.inr (Below.refl _ _), H⟩
    · have := ready_mono hj hji
      rw [H.1] at this
      cases this
  | succ fuel ih =>
    intro listed a w hfree hr hy H
    refine ⟨fun h => (by rw [h] at hr; cases hr), fun j hj => ?_⟩
    by_cases hji : j = i
    · subst hji
      exact hy.wpOp hi (.inr (Below.refl _ _)) ⟨.inr (Below.refl _ _), H⟩
    · have h1 := H.2 j (ready_mono hj hji)
      obtain ⟨hjun, oj, hoj, hall⟩ := mem_ready.1 hj
      have hnot : ∀ e ∈ oj.after, Region.binds md e = true → e.on ≠ i := fun e he hb heq => by
        have h1 := hall e he hb
        have h0 := (mem_ready.1 hr).1
        rw [heq] at h1
        rcases Nat.lt_or_ge i listed.size with h' | h'
        · simp [h'] at h0 h1; rw [h0] at h1; cases h1
        · simp [Array.getElem?_eq_none h'] at h1
      obtain ⟨hap, hlate⟩ := hfree j oj hoj hji hjun hnot
      have h2 := wpOp_putIf hoj hap (fun cs b => hsel i oi cs b hi) (fun cs b => hsel j oj cs b hoj) (fun c a w hq => absurd hq (hQ c _ w)) hy h1
      have hfree' : ∀ k ok, ops[k]? = some ok → k ≠ i → (listed.setIfInBounds j true).getD k true = false →
          (∀ e ∈ ok.after, Region.binds md e = true → e.on ≠ i) → oi.apart ops ok = true ∧ (L.contains k = true → pr = true) := fun k ok hk hki hun hno => by
        refine hfree k ok hk hki ?_ hno
        by_cases hjk : j = k
        · subst hjk; exact hjun
        · rw [getD_set_ne true hjk] at hun; exact hun
      refine wpOp_mono (fun a' w' h3 => ⟨h3.2.1, ih (listed.setIfInBounds j true) a' w' hfree' (ready_mono hr (Ne.symm hji)) (YieldsIf.sub h3.1 (Sx.next hlate h3.2.1)) ?_⟩) h2
      rw [Array.setIfInBounds_comm _ _ hji]
      exact h3.2.2
/-- The check by numbers: every other operation that has not come up waits for 'i', or is apart from it (and is not late, if 'i' looks into memory). -/
def freeX (md : Region.Mode) (ops : Array Oper) (L : List Nat) (pr : Bool) (listed : Array Bool) (i : Nat) : Bool :=
  !L.contains i && (Region.ready md ops listed).contains i && match ops[i]? with
  | none => false
  | some oi => (List.range ops.size).all fun j => j == i || listed.getD j true || match ops[j]? with
      | some oj => oj.after.any (fun e => Region.binds md e && e.on == i) || (oi.apart ops oj && (!L.contains j || pr))
      | none => true
theorem freeX_spec {i : Nat} {oi : Oper} {pr : Bool} {listed : Array Bool} (hi : ops[i]? = some oi) (h : freeX md ops L pr listed i = true) :
    L.contains i = false ∧ i ∈ Region.ready md ops listed ∧ ∀ (j : Nat) (oj : Oper), ops[j]? = some oj → j ≠ i → listed.getD j true = false → (∀ e ∈ oj.after, Region.binds md e = true → e.on ≠ i) →
      oi.apart ops oj = true ∧ (L.contains j = true → pr = true) := by
  simp only [freeX, hi, Bool.and_eq_true, List.all_eq_true, List.mem_range] at h
  obtain ⟨⟨hL, hr⟩, h⟩ := h
  refine ⟨by simpa using hL, by simpa using hr, fun j oj hj hne hun hno => ?_⟩
  have h1 := h j (Array.getElem?_eq_some_iff.1 hj).1
  simp only [hj, Bool.or_eq_true, beq_iff_eq, hne, false_or, hun, Bool.false_eq_true] at h1
  rcases h1 with h1 | h1
  · obtain ⟨e, he, hb⟩ := Array.any_eq_true'.1 h1
    simp only [Bool.and_eq_true, beq_iff_eq] at hb
    exact absurd hb.2 (hno e he hb.1)
  · simp only [Bool.and_eq_true, Bool.or_eq_true, Bool.not_eq_true'] at h1
    refine ⟨h1.1, fun hl => ?_⟩
    rcases h1.2 with h2 | h2
    · rw [hl] at h2; cases h2
    · exact h2
end

def nth : List Oper → Nat → Option Oper
  | [], _ => none
  | o :: _, 0 => some o
  | _ :: l, n + 1 => nth l n
theorem nth_eq : ∀ (l : List Oper) (i : Nat), l.toArray[i]? = nth l i
  | [], _ => by simp [nth]
  | o :: l, 0 => by simp [nth]
  | o :: l, n + 1 => by
    have := nth_eq l n
    simp only [List.getElem?_toArray] at this
    simpa [nth] using this
/-- One operation, gone through: behind it the state is one of 'K'. -/
def LStepW (P : Program) (C : Ctx) (o : Oper) (st : St) (K : St → Prop) : Prop :=
  ∀ a w, Rel C st a w → ∀ Qr, o.wp P a w (fun a' w' => ∃ s, K s ∧ Rel C s a' w') Qr
/-- .. and nothing that was there has turned. -/
def LStep (P : Program) (C : Ctx) (o : Oper) (st : St) (K : St → Prop) : Prop :=
  ∀ a w, Rel C st a w → ∀ Qr, o.wp P a w (fun a' w' => Below w.heap.size w w' ∧ ∃ s, K s ∧ Rel C s a' w') Qr
theorem LStep.w {P : Program} {C : Ctx} {o : Oper} {st : St} {K : St → Prop} (h : LStep P C o st K) : LStepW P C o st K := fun a w hr Qr => Oper.wp_mono (fun _ _ h => h.2) (h a w hr Qr)
theorem LOps.step {P : Program} {C : Ctx} {ops : Array Oper} {o : Oper} {rest : List Oper} {st : St} {Q : Exit → St → Prop} (hg : o.guard = none) (h : LStepW P C o st (fun s => LOps P C ops rest s Q)) : LOps P C ops (o :: rest) st Q := by
  intro a w hr
  exact wpList_plain hg fun K hK => Oper.wp_mono (fun a' w' ⟨s, hs, hr'⟩ => hK _ _ (hs a' w' hr')) (h a w hr _)

theorem LOps.stepG {P : Program} {C : Ctx} {l rest : List Oper} {o : Oper} {j dj : Nat} {b : Bool} {st : St} {Q : Exit → St → Prop} (hg : o.guard = some (j, b)) (hj : (nth l j).bind (·.dst) = some dj) (hb : look dj st.T = some (.bool b))
    (h : LStepW P C o st (fun s => LOps P C l.toArray rest s Q)) : LOps P C l.toArray (o :: rest) st Q := by
  intro a w hr
  have hw : Region.wanted o (yielded l.toArray a.tmps) = true := by
    have := hr.tm _ _ hb
    simp only [Region.wanted, hg, yielded, nth_eq, hj, Option.bind_some, this]
    simp
  simp only [wpList, hw, if_true]
  exact .inl (Oper.wp_mono (fun a' w' ⟨s, hs, hr'⟩ => hs a' w' hr') (h a w hr _))
def OnlyN (Q : Exit → St → Prop) : Exit → St → Prop
  | .normal, s => Q .normal s
  | _, _ => False
def LAny (P : Program) (C : Ctx) (ops : Array Oper) (L : List Nat) (fuel : Nat) (listed : Array Bool) (st : St) (Q : Exit → St → Prop) : Prop :=
  ∀ a w, Rel C st a w → wpAnyX P .any ops (RQ C (OnlyN Q)) L fuel listed a w
theorem LCode.regionD {P : Program} {C : Ctx} {id : Nat} {l : List Oper} {st : St} {Q : Exit → St → Prop} (L : List Nat) (hm : P.follows .mixedOrders = true) (h : LAny P C l.toArray L l.length (Array.replicate l.length false) st Q) :
    LCode P C (.region id l.toArray true) st Q := by
  intro a w hr
  refine wp_region_any hm (wpAny_of_X (L := L) _ _ _ _ ?_)
  have := h a _ hr.drew
  simp only [List.size_toArray]
  have key : ∀ (fuel : Nat) (listed : Array Bool) (a : Act) (w : World), wpAnyX P .any l.toArray (RQ C (OnlyN Q)) L fuel listed a w → wpAnyX P .any l.toArray (RQ C Q) L fuel listed a w := by
    have hq : ∀ a w, RQ C (OnlyN Q) .normal a w → RQ C Q .normal a w := fun a w h => h
    have hp : ∀ e a w, RQ C (OnlyN Q) e a w → RQ C Q e a w := by
      rintro e a w ⟨s, h1, h2⟩
      cases e <;> first | exact ⟨s, h1, h2⟩ | exact h1.elim
    have up : ∀ (i : Nat) (K K' : Act → World → Prop) (a : Act) (w : World), (∀ a w, K a w → K' a w) → wpOp P l.toArray (RQ C (OnlyN Q)) i K a w → wpOp P l.toArray (RQ C Q) i K' a w := by
      intro i K K' a w hK h
      have h := wpOp_mono hK h
      unfold wpOp at *
      split
      · simpa [*] using h
      · rename_i o ho
        simp only [ho] at h
        split
        · rename_i hw
          simp only [hw, if_true] at h
          rcases h with h | ⟨h1, a0, w0, h2⟩
          · refine .inl ?_
            unfold Oper.wp at *
            generalize (execOp a.eval o).run P w = r at *
            cases r with
            | ok n w' =>
              cases n <;> simp only [Oper.upon] at h ⊢ <;> first
                | exact h
                | exact Calls.mono h (fun e w'' he => by
                    cases e with
                    | returned v => exact he
                    | panicked c => exact hp _ _ _ he
                    | outgrown => obtain ⟨a0, w0, h2⟩ := he; exact ⟨a0, w0, hp _ _ _ h2⟩)
            | halt x w' =>
              cases x <;> simp only [Oper.upon] at h ⊢ <;> first | exact h | exact hp _ _ _ h
          · exact .inr ⟨h1, a0, w0, hp _ _ _ h2⟩
        · rename_i hw
          simp only [hw] at h
          exact h
    intro fuel
    induction fuel with
    | zero => exact fun listed a w h => ⟨h.1, hq _ _ h.2⟩
    | succ fuel ih => exact fun listed a w h => ⟨fun h0 => hq _ _ (h.1 h0), fun i hi => up i _ _ a w (fun a' w' h' => ⟨h'.1, ih _ _ _ h'.2⟩) (h.2 i hi)⟩
  exact key _ _ _ _ this
theorem Rel.sx {C : Ctx} {st : St} {a : Act} {w w' : World} (h : Rel C st a w) (hs : Sx false w w') : Rel C st a w' := by
  rcases hs with hs | hs
  · cases hs
  · exact h.below hs
section
variable {P : Program} {C : Ctx} {ops : Array Oper} {L : List Nat} {fuel : Nat} {listed : Array Bool} {st : St} {Q : Exit → St → Prop} {op : Op} {ty : TypeId} {pos : String} {aft : Array Edge} {d : Nat} {v : Value}
theorem not_panic (c : List PanicEntry) (a : Act) (w : World) : ¬ RQ C (OnlyN Q) (.panic c) a w := fun ⟨_, h, _⟩ => h
def takeOK (l : List Oper) (L : List Nat) (pr : Bool) (listed : Array Bool) (i : Nat) : Bool := Region.noSelect l.toArray && freeX .any l.toArray L pr listed i
/-- Number 'i' looks, and is taken first. -/
theorem LAny.take {T : List (Nat × Value)} {H : List Item} {l : List Oper} (i : Nat) (hi : nth l i = some ⟨some d, op, ty, pos, aft, none⟩) (hf : takeOK l L false listed i = true) (hd : d < C.N)
    (hy : Det P C ⟨some d, op, ty, pos, aft, none⟩ ⟨T, H⟩ v) (h : LAny P C l.toArray L fuel (listed.setIfInBounds i true) ⟨(d, v) :: T, H⟩ Q) : LAny P C l.toArray L (fuel + 1) listed ⟨T, H⟩ Q := by
  intro a w hr
  simp only [takeOK, Bool.and_eq_true] at hf
  have hi' := (nth_eq l i).trans hi
  obtain ⟨h1, h2, h3⟩ := freeX_spec hi' hf.2
  exact wpAnyX_first (pr := false) hi' h1 (Region.noSelect_spec hf.1) not_panic fuel listed a w h3 h2 (.inl ⟨by simp [Region.wanted], fun w' hw' => hy a w' (hr.sx hw')⟩) (h _ _ (hr.put hd v))
/-- A guarded operation whose guard says yes. -/
theorem LAny.takeG {T : List (Nat × Value)} {H : List Item} {l : List Oper} {j dj : Nat} {b : Bool} (i : Nat) (hi : nth l i = some ⟨some d, op, ty, pos, aft, some (j, b)⟩) (hj : (nth l j).bind (·.dst) = some dj) (hb : look dj T = some (.bool b)) (hf : takeOK l L false listed i = true) (hd : d < C.N)
    (hy : Det P C ⟨some d, op, ty, pos, aft, some (j, b)⟩ ⟨T, H⟩ v) (h : LAny P C l.toArray L fuel (listed.setIfInBounds i true) ⟨(d, v) :: T, H⟩ Q) : LAny P C l.toArray L (fuel + 1) listed ⟨T, H⟩ Q := by
  intro a w hr
  simp only [takeOK, Bool.and_eq_true] at hf
  have hi' := (nth_eq l i).trans hi
  obtain ⟨h1, h2, h3⟩ := freeX_spec hi' hf.2
  have hw : Region.wanted ⟨some d, op, ty, pos, aft, some (j, b)⟩ (yielded l.toArray a.tmps) = true := by
    have := hr.tm _ _ hb
    simp only [Region.wanted, yielded, nth_eq, hj, Option.bind_some, this]
    simp
  exact wpAnyX_first (pr := false) hi' h1 (Region.noSelect_spec hf.1) not_panic fuel listed a w h3 h2 (.inl ⟨hw, fun w' hw' => hy a w' (hr.sx hw')⟩) (h _ _ (hr.put hd v))
/-- A guarded operation whose guard says no. -/
theorem LAny.skip {T : List (Nat × Value)} {H : List Item} {l : List Oper} {j dj : Nat} {b b' : Bool} (i : Nat) (hi : nth l i = some ⟨some d, op, ty, pos, aft, some (j, b)⟩) (hj : (nth l j).bind (·.dst) = some dj) (hb : look dj T = some (.bool b')) (hne : (b' == b) = false) (hf : takeOK l L true listed i = true) (hd : d < C.N)
    (h : LAny P C l.toArray L fuel (listed.setIfInBounds i true) ⟨(d, undef) :: T, H⟩ Q) : LAny P C l.toArray L (fuel + 1) listed ⟨T, H⟩ Q := by
  intro a w hr
  simp only [takeOK, Bool.and_eq_true] at hf
  have hi' := (nth_eq l i).trans hi
  obtain ⟨h1, h2, h3⟩ := freeX_spec hi' hf.2
  have hw : Region.wanted ⟨some d, op, ty, pos, aft, some (j, b)⟩ (yielded l.toArray a.tmps) = false := by
    have := hr.tm _ _ hb
    simp only [Region.wanted, yielded, nth_eq, hj, Option.bind_some, this]
    simpa using hne
  exact wpAnyX_first (pr := true) hi' h1 (Region.noSelect_spec hf.1) not_panic fuel listed a w h3 h2 (.inr ⟨hw, rfl⟩) (h _ _ (hr.put hd undef))
/-- The same in the text's order. -/
theorem LOps.detG {T : List (Nat × Value)} {H : List Item} {l rest : List Oper} {j dj : Nat} {b : Bool} (hj : (nth l j).bind (·.dst) = some dj) (hb : look dj T = some (.bool b)) (hy : Det P C ⟨some d, op, ty, pos, aft, some (j, b)⟩ ⟨T, H⟩ v) (hd : d < C.N)
    (h : LOps P C l.toArray rest ⟨(d, v) :: T, H⟩ Q) : LOps P C l.toArray (⟨some d, op, ty, pos, aft, some (j, b)⟩ :: rest) ⟨T, H⟩ Q := by
  intro a w hr
  have hw : Region.wanted ⟨some d, op, ty, pos, aft, some (j, b)⟩ (yielded l.toArray a.tmps) = true := by
    have := hr.tm _ _ hb
    simp only [Region.wanted, yielded, nth_eq, hj, Option.bind_some, this]
    simp
  simp only [wpList, hw, if_true]
  refine .inl ?_
  unfold Oper.wp
  rw [hy a w hr]
  exact h _ _ (hr.put hd v)
theorem LOps.detGP {T : List (Nat × Value)} {H : List Item} {l rest : List Oper} {j dj : Nat} {b : Bool} (hj : (nth l j).bind (·.dst) = some dj) (hb : look dj T = some (.bool b)) (hy : Slots P C ⟨some d, op, ty, pos, aft, some (j, b)⟩ ⟨T, H⟩ v) (hd : d < C.N)
    (h : LOps P C l.toArray rest ⟨(d, v) :: T, H⟩ Q) : LOps P C l.toArray (⟨some d, op, ty, pos, aft, some (j, b)⟩ :: rest) ⟨T, H⟩ Q := LOps.detG hj hb hy.det hd h
theorem LOps.skip {T : List (Nat × Value)} {H : List Item} {l rest : List Oper} {j dj : Nat} {b b' : Bool} (hj : (nth l j).bind (·.dst) = some dj) (hb : look dj T = some (.bool b')) (hne : (b' == b) = false) (hd : d < C.N)
    (h : LOps P C l.toArray rest ⟨(d, undef) :: T, H⟩ Q) : LOps P C l.toArray (⟨some d, op, ty, pos, aft, some (j, b)⟩ :: rest) ⟨T, H⟩ Q := by
  intro a w hr
  have hw : Region.wanted ⟨some d, op, ty, pos, aft, some (j, b)⟩ (yielded l.toArray a.tmps) = false := by
    have := hr.tm _ _ hb
    simp only [Region.wanted, yielded, nth_eq, hj, Option.bind_some, this]
    simpa using hne
  simp only [wpList, hw]
  exact h _ _ (hr.put hd undef)
theorem LOps.skipU {T : List (Nat × Value)} {H : List Item} {l rest : List Oper} {j dj : Nat} {b : Bool} (hj : (nth l j).bind (·.dst) = some dj) (hb : look dj T = some undef) (hd : d < C.N)
    (h : LOps P C l.toArray rest ⟨(d, undef) :: T, H⟩ Q) : LOps P C l.toArray (⟨some d, op, ty, pos, aft, some (j, b)⟩ :: rest) ⟨T, H⟩ Q := by
  intro a w hr
  have hw : Region.wanted ⟨some d, op, ty, pos, aft, some (j, b)⟩ (yielded l.toArray a.tmps) = false := by
    have := hr.tm _ _ hb
    simp only [Region.wanted, yielded, nth_eq, hj, Option.bind_some, this]
    simp [undef]
  simp only [wpList, hw]
  exact h _ _ (hr.put hd undef)
theorem LAny.skipU {T : List (Nat × Value)} {H : List Item} {l : List Oper} {j dj : Nat} {b : Bool} (i : Nat) (hi : nth l i = some ⟨some d, op, ty, pos, aft, some (j, b)⟩) (hj : (nth l j).bind (·.dst) = some dj) (hb : look dj T = some undef) (hf : takeOK l L true listed i = true) (hd : d < C.N)
    (h : LAny P C l.toArray L fuel (listed.setIfInBounds i true) ⟨(d, undef) :: T, H⟩ Q) : LAny P C l.toArray L (fuel + 1) listed ⟨T, H⟩ Q := by
  intro a w hr
  simp only [takeOK, Bool.and_eq_true] at hf
  have hi' := (nth_eq l i).trans hi
  obtain ⟨h1, h2, h3⟩ := freeX_spec hi' hf.2
  have hw : Region.wanted ⟨some d, op, ty, pos, aft, some (j, b)⟩ (yielded l.toArray a.tmps) = false := by
    have := hr.tm _ _ hb
    simp only [Region.wanted, yielded, nth_eq, hj, Option.bind_some, this]
    simp [undef]
  exact wpAnyX_first (pr := true) hi' h1 (Region.noSelect_spec hf.1) not_panic fuel listed a w h3 h2 (.inr ⟨hw, rfl⟩) (h _ _ (hr.put hd undef))
theorem LAny.takeP {T : List (Nat × Value)} {H : List Item} {l : List Oper} (i : Nat) (hi : nth l i = some ⟨some d, op, ty, pos, aft, none⟩) (hf : takeOK l L true listed i = true) (hd : d < C.N)
    (hy : Slots P C ⟨some d, op, ty, pos, aft, none⟩ ⟨T, H⟩ v) (h : LAny P C l.toArray L fuel (listed.setIfInBounds i true) ⟨(d, v) :: T, H⟩ Q) : LAny P C l.toArray L (fuel + 1) listed ⟨T, H⟩ Q := by
  intro a w hr
  simp only [takeOK, Bool.and_eq_true] at hf
  have hi' := (nth_eq l i).trans hi
  obtain ⟨h1, h2, h3⟩ := freeX_spec hi' hf.2
  exact wpAnyX_first (pr := true) hi' h1 (Region.noSelect_spec hf.1) not_panic fuel listed a w h3 h2 (.inl ⟨by simp [Region.wanted], fun w' _ => hy a w' (fun x u hx => hr.ev hx)⟩) (h _ _ (hr.put hd v))
theorem LAny.takeGP {T : List (Nat × Value)} {H : List Item} {l : List Oper} {j dj : Nat} {b : Bool} (i : Nat) (hi : nth l i = some ⟨some d, op, ty, pos, aft, some (j, b)⟩) (hj : (nth l j).bind (·.dst) = some dj) (hb : look dj T = some (.bool b)) (hf : takeOK l L true listed i = true) (hd : d < C.N)
    (hy : Slots P C ⟨some d, op, ty, pos, aft, some (j, b)⟩ ⟨T, H⟩ v) (h : LAny P C l.toArray L fuel (listed.setIfInBounds i true) ⟨(d, v) :: T, H⟩ Q) : LAny P C l.toArray L (fuel + 1) listed ⟨T, H⟩ Q := by
  intro a w hr
  simp only [takeOK, Bool.and_eq_true] at hf
  have hi' := (nth_eq l i).trans hi
  obtain ⟨h1, h2, h3⟩ := freeX_spec hi' hf.2
  have hw : Region.wanted ⟨some d, op, ty, pos, aft, some (j, b)⟩ (yielded l.toArray a.tmps) = true := by
    have := hr.tm _ _ hb
    simp only [Region.wanted, yielded, nth_eq, hj, Option.bind_some, this]
    simp
  exact wpAnyX_first (pr := true) hi' h1 (Region.noSelect_spec hf.1) not_panic fuel listed a w h3 h2 (.inl ⟨hw, fun w' _ => hy a w' (fun x u hx => hr.ev hx)⟩) (h _ _ (hr.put hd v))
/-- Nothing else may come up: number 'i' comes. -/
theorem LAny.one {l : List Oper} {o : Oper} (i : Nat) (hi : nth l i = some o) (hg : o.guard = none) (hr : Region.ready .any l.toArray listed = [i]) (h : LStep P C o st (fun s => LAny P C l.toArray L fuel (listed.setIfInBounds i true) s Q)) : LAny P C l.toArray L (fuel + 1) listed st Q := by
  intro a w hrel
  refine ⟨fun h0 => (by rw [hr] at h0; cases h0), fun j hj => ?_⟩
  rw [hr] at hj
  obtain rfl : j = i := by simpa using hj
  unfold wpOp
  simp only [nth_eq, hi, wanted_none hg, if_true]
  exact .inl (Oper.wp_mono (fun a' w' ⟨hb, s, hs, hr'⟩ => ⟨.inr hb, hs a' w' hr'⟩) (h a w hrel _))
theorem LAny.oneG {l : List Oper} {o : Oper} {j dj : Nat} {b : Bool} (i : Nat) (hi : nth l i = some o) (hg : o.guard = some (j, b)) (hj : (nth l j).bind (·.dst) = some dj) (hb : look dj st.T = some (.bool b)) (hr : Region.ready .any l.toArray listed = [i]) (h : LStep P C o st (fun s => LAny P C l.toArray L fuel (listed.setIfInBounds i true) s Q)) : LAny P C l.toArray L (fuel + 1) listed st Q := by
  intro a w hrel
  refine ⟨fun h0 => (by rw [hr] at h0; cases h0), fun k hk => ?_⟩
  rw [hr] at hk
  obtain rfl : k = i := by simpa using hk
  have hw : Region.wanted o (yielded l.toArray a.tmps) = true := by
    have := hrel.tm _ _ hb
    simp only [Region.wanted, hg, yielded, nth_eq, hj, Option.bind_some, this]
    simp
  unfold wpOp
  simp only [nth_eq, hi, hw, if_true]
  exact .inl (Oper.wp_mono (fun a' w' ⟨hb, s, hs, hr'⟩ => ⟨.inr hb, hs a' w' hr'⟩) (h a w hrel _))
/-- The same of a late one. -/
theorem LAny.late {l : List Oper} {o : Oper} (i : Nat) (hi : nth l i = some o) (hg : o.guard = none) (hl : L.contains i = true) (hr : Region.ready .any l.toArray listed = [i]) (h : LStepW P C o st (fun s => LAny P C l.toArray L fuel (listed.setIfInBounds i true) s Q)) : LAny P C l.toArray L (fuel + 1) listed st Q := by
  intro a w hrel
  refine ⟨fun h0 => (by rw [hr] at h0; cases h0), fun j hj => ?_⟩
  rw [hr] at hj
  obtain rfl : j = i := by simpa using hj
  unfold wpOp
  simp only [nth_eq, hi, wanted_none hg, if_true]
  exact .inl (Oper.wp_mono (fun a' w' ⟨s, hs, hr'⟩ => ⟨.inl hl, hs a' w' hr'⟩) (h a w hrel _))
/-- Two may come up. -/
theorem LAny.two {l : List Oper} {o1 o2 : Oper} (i1 i2 : Nat) (hi1 : nth l i1 = some o1) (hi2 : nth l i2 = some o2) (hg1 : o1.guard = none) (hg2 : o2.guard = none) (hr : Region.ready .any l.toArray listed = [i1, i2])
    (h1 : LStep P C o1 st (fun s => LAny P C l.toArray L fuel (listed.setIfInBounds i1 true) s Q)) (h2 : LStep P C o2 st (fun s => LAny P C l.toArray L fuel (listed.setIfInBounds i2 true) s Q)) : LAny P C l.toArray L (fuel + 1) listed st Q := by
  intro a w hrel
  refine ⟨fun h0 => (by rw [hr] at h0; cases h0), fun j hj => ?_⟩
  rw [hr] at hj
  have hj' : j = i1 ∨ j = i2 := by simpa using hj
  rcases hj' with rfl | rfl
  · unfold wpOp
    simp only [nth_eq, hi1, wanted_none hg1, if_true]
    exact .inl (Oper.wp_mono (fun a' w' ⟨hb, s, hs, hr'⟩ => ⟨.inr hb, hs a' w' hr'⟩) (h1 a w hrel _))
  · unfold wpOp
    simp only [nth_eq, hi2, wanted_none hg2, if_true]
    exact .inl (Oper.wp_mono (fun a' w' ⟨hb, s, hs, hr'⟩ => ⟨.inr hb, hs a' w' hr'⟩) (h2 a w hrel _))
/-- One of several: late, or not. -/
def LStepX (P : Program) (C : Ctx) (L : List Nat) (i : Nat) (o : Oper) (st : St) (K : St → Prop) : Prop := (L.contains i = true ∧ LStepW P C o st K) ∨ LStep P C o st K
theorem LStepX.wp {o : Oper} {i : Nat} {K : St → Prop} {K2 : Act → World → Prop} {Qr : Exit → Act → World → Prop} (h : LStepX P C L i o st K) {a : Act} {w : World} (hr : Rel C st a w) (hK : ∀ s a' w', K s → Rel C s a' w' → K2 a' w') :
    o.wp P a w (fun a' w' => (L.contains i = true ∨ Below w.heap.size w w') ∧ K2 a' w') Qr := by
  rcases h with ⟨hl, h⟩ | h
  · exact Oper.wp_mono (fun a' w' ⟨s, hs, hr'⟩ => ⟨.inl hl, hK s a' w' hs hr'⟩) (h a w hr _)
  · exact Oper.wp_mono (fun a' w' ⟨hb, s, hs, hr'⟩ => ⟨.inr hb, hK s a' w' hs hr'⟩) (h a w hr _)
theorem LAny.twoX {l : List Oper} {o1 o2 : Oper} (i1 i2 : Nat) (hi1 : nth l i1 = some o1) (hi2 : nth l i2 = some o2) (hg1 : o1.guard = none) (hg2 : o2.guard = none) (hr : Region.ready .any l.toArray listed = [i1, i2])
    (h1 : LStepX P C L i1 o1 st (fun s => LAny P C l.toArray L fuel (listed.setIfInBounds i1 true) s Q)) (h2 : LStepX P C L i2 o2 st (fun s => LAny P C l.toArray L fuel (listed.setIfInBounds i2 true) s Q)) : LAny P C l.toArray L (fuel + 1) listed st Q := by
  intro a w hrel
  refine ⟨fun h0 => (by rw [hr] at h0; cases h0), fun j hj => ?_⟩
  rw [hr] at hj
  have hj' : j = i1 ∨ j = i2 := by simpa using hj
  rcases hj' with rfl | rfl
  · unfold wpOp
    simp only [nth_eq, hi1, wanted_none hg1, if_true]
    exact .inl (h1.wp hrel fun s a' w' hs hr' => hs a' w' hr')
  · unfold wpOp
    simp only [nth_eq, hi2, wanted_none hg2, if_true]
    exact .inl (h2.wp hrel fun s a' w' hs hr' => hs a' w' hr')
theorem LAny.threeX {l : List Oper} {o1 o2 o3 : Oper} (i1 i2 i3 : Nat) (hi1 : nth l i1 = some o1) (hi2 : nth l i2 = some o2) (hi3 : nth l i3 = some o3) (hg1 : o1.guard = none) (hg2 : o2.guard = none) (hg3 : o3.guard = none) (hr : Region.ready .any l.toArray listed = [i1, i2, i3])
    (h1 : LStepX P C L i1 o1 st (fun s => LAny P C l.toArray L fuel (listed.setIfInBounds i1 true) s Q)) (h2 : LStepX P C L i2 o2 st (fun s => LAny P C l.toArray L fuel (listed.setIfInBounds i2 true) s Q)) (h3 : LStepX P C L i3 o3 st (fun s => LAny P C l.toArray L fuel (listed.setIfInBounds i3 true) s Q)) : LAny P C l.toArray L (fuel + 1) listed st Q := by
  intro a w hrel
  refine ⟨fun h0 => (by rw [hr] at h0; cases h0), fun j hj => ?_⟩
  rw [hr] at hj
  have hj' : j = i1 ∨ j = i2 ∨ j = i3 := by simpa using hj
  rcases hj' with rfl | rfl | rfl
  · unfold wpOp
    simp only [nth_eq, hi1, wanted_none hg1, if_true]
    exact .inl (h1.wp hrel fun s a' w' hs hr' => hs a' w' hr')
  · unfold wpOp
    simp only [nth_eq, hi2, wanted_none hg2, if_true]
    exact .inl (h2.wp hrel fun s a' w' hs hr' => hs a' w' hr')
  · unfold wpOp
    simp only [nth_eq, hi3, wanted_none hg3, if_true]
    exact .inl (h3.wp hrel fun s a' w' hs hr' => hs a' w' hr')
theorem LAny.done (hr : Region.ready .any ops listed = []) (h : Q .normal st) : LAny P C ops L fuel listed st Q := by
  intro a w hrel
  cases fuel with
  | zero => exact ⟨hr, st, h, hrel⟩
  | succ n => exact ⟨fun _ => ⟨st, h, hrel⟩, by rw [hr]; simp⟩
theorem LAny.sub {y : St} (hs : Sub C y st) (h : LAny P C ops L fuel listed y Q) : LAny P C ops L fuel listed st Q := fun a w hr => h a w (hs a w hr)
end

/-! ### Steps -/
section
variable {P : Program} {C : Ctx} {ty : TypeId} {pos : String} {aft : Array Edge} {d : Nat} {st : St} {K : St → Prop} {x y z : Operand} {v u : Value} {t s e : TypeId}
theorem LStep.det {T : List (Nat × Value)} {H : List Item} {op : Op} {g : Option (Nat × Bool)} (hy : Det P C ⟨some d, op, ty, pos, aft, g⟩ ⟨T, H⟩ v) (hd : d < C.N) (h : K ⟨(d, v) :: T, H⟩) : LStep P C ⟨some d, op, ty, pos, aft, g⟩ ⟨T, H⟩ K := by
  intro a w hr Qr
  unfold Oper.wp
  rw [hy a w hr]
  exact ⟨Below.refl _ _, _, h, hr.put hd _⟩
theorem LStep.detP {T : List (Nat × Value)} {H : List Item} {op : Op} {g : Option (Nat × Bool)} (hy : Slots P C ⟨some d, op, ty, pos, aft, g⟩ ⟨T, H⟩ v) (hd : d < C.N) (h : K ⟨(d, v) :: T, H⟩) : LStep P C ⟨some d, op, ty, pos, aft, g⟩ ⟨T, H⟩ K := LStep.det hy.det hd h
theorem LStep.makes {T : List (Nat × Value)} {H : List Item} {op : Op} {cs : List Value} {v : Nat → Value} {g : Option (Nat × Bool)} (hy : Makes P C ⟨some d, op, ty, pos, aft, g⟩ ⟨T, H⟩ cs e v) (hd : d < C.N)
    (h : ∀ b, K ⟨(d, v b) :: T, .blk b ⟨true, cs, e, (0, 0)⟩ :: H⟩) : LStep P C ⟨some d, op, ty, pos, aft, g⟩ ⟨T, H⟩ K := by
  intro a w hr Qr
  unfold Oper.wp
  rw [hy a w hr]
  exact ⟨(Below.refl _ _).alloc (Nat.le_refl _) _, _, h _, (hr.alloc cs e).put hd _⟩
theorem LStepW.storeN {T : List (Nat × Value)} {H : List Item} {b o n : Nat} {e : TypeId} {fz : Nat × Nat} {cs0 cs cs' : List Value} {H' : List Item} {g : Option (Nat × Bool)} (hx : evT T x = some (.pointer (some ⟨b, o, none⟩))) (hy : evT T y = some v) (hv : v.cells = cs.toArray) (hn : szOf P t = some n) (hcs : cs.length = n)
    (h1 : AllOne cs) (hs : SetAt b ⟨true, cs0, e, fz⟩ ⟨true, cs', e, fz⟩ H H') (hl : o + n ≤ cs0.length) (hc' : splice cs0 o cs = cs') (hf : ∀ j, j < n → ¬ (fz.1 ≤ o + j ∧ o + j < fz.2))
    (h : K ⟨T, H'⟩) : LStepW P C ⟨none, .store t x y, ty, pos, aft, g⟩ ⟨T, H⟩ K := by
  subst hc'
  intro a w hr Qr
  have hb := hr.hp _ hs.mem
  obtain ⟨w', r, hx', hk, hz, ho, ht, hu⟩ := run_storeCells (P := P) b e fz cs 0 o cs0 w hb h1 (by omega) (fun j hj => by simpa using hf j (by omega))
  unfold Oper.wp
  have hsz : v.cells.size = n := by rw [hv]; simpa using hcs
  have hrun : (execOp a.eval ⟨none, .store t x y, ty, pos, aft, g⟩).run P w = .ok .skip w' := by
    simp [execOp, hr.ev hx, hr.ev hy, Instr.storeAt, Instr.sureAddr, storeVar, run_sizeOf hn, hcs, hv, r]
  rw [hrun]
  exact ⟨_, h, hr.setBlk hs rfl (by simpa [Item.holds] using hx') hk hz ho ht hu⟩
theorem LStepW.store1 {T : List (Nat × Value)} {H : List Item} {b o : Nat} {e : TypeId} {fz : Nat × Nat} {cs0 cs' : List Value} {H' : List Item} {g : Option (Nat × Bool)} (hx : evT T x = some (.pointer (some ⟨b, o, none⟩))) (hy : evT T y = some v) (hv : one v = true) (hn : szOf P t = some 1)
    (hs : SetAt b ⟨true, cs0, e, fz⟩ ⟨true, cs', e, fz⟩ H H') (hl : o < cs0.length) (hc' : cs0.set o v = cs') (hf : ¬ (fz.1 ≤ o ∧ o < fz.2))
    (h : K ⟨T, H'⟩) : LStepW P C ⟨none, .store t x y, ty, pos, aft, g⟩ ⟨T, H⟩ K := by
  have hc : v.cells = [v].toArray := by cases v <;> simp_all [Value.cells, one]
  refine LStepW.storeN (cs := [v]) hx hy hc hn rfl (by intro c hc'; simp at hc'; rwa [hc']) hs (by omega) ?_ (fun j hj => (by
    obtain rfl : j = 0 := by omega
    simpa using hf)) h
  rw [splice_one _ _ _ hl]; exact hc'
/-- A store of a whole block's worth. -/
theorem LStepW.storeA {T : List (Nat × Value)} {H : List Item} {b : Nat} {e : TypeId} {cs0 cs : List Value} {H' : List Item} {g : Option (Nat × Bool)} (hx : evT T x = some (.pointer (some ⟨b, 0, none⟩))) (hy : evT T y = some (.agg cs.toArray)) (hn : szOf P t = some cs.length)
    (h1 : AllOne cs) (hs : SetAt b ⟨true, cs0, e, (0, 0)⟩ ⟨true, cs, e, (0, 0)⟩ H H') (hl : cs.length = cs0.length)
    (h : K ⟨T, H'⟩) : LStepW P C ⟨none, .store t x y, ty, pos, aft, g⟩ ⟨T, H⟩ K :=
  LStepW.storeN hx hy rfl hn rfl h1 hs (by omega) (splice_whole _ _ hl) (fun j _ => by simp) h
theorem LStep.call {T : List (Nat × Value)} {H : List Item} {f : FuncId} {xs : List Operand} {vs first : List Value} {ats : Array TypeId} {Post : Value → List Item → Prop} {g : Option (Nat × Bool)} (hf : evT T x = some (.func (.func f) first.toArray #[])) (he : Enters P f) (ha : evL T xs = some vs) (hd : d < C.N)
    (hc : ∀ w, (∀ x, x ∈ H → x.holds w) → Calls P f (first ++ vs).toArray w (fun e w' => ∃ v its, Post v its ∧ e = .returned v ∧ Brings w H its w'))
    (h : ∀ v its, Post v its → K ⟨(d, v) :: T, its ++ H⟩) : LStep P C ⟨some d, .call { callee := .value x, args := xs.toArray, argTypes := ats }, ty, pos, aft, g⟩ ⟨T, H⟩ K := by
  intro a w hr Qr
  obtain ⟨fn, h1, h2, h3⟩ := he
  refine wp_callee (vs := first ++ vs) ?_ (hc w hr.hp) ?_
  · have := hr.evs ha
    simp [execOp, resolve, hr.ev hf, Deferred.ofValue, invoke, run_call h1 h2 h3, this]
  · rintro e w' ⟨v, its, hp, rfl, hb⟩
    exact ⟨v, rfl, hb.below, _, h v its hp, (hr.brings hb).put hd v⟩
theorem LStep.callF {T : List (Nat × Value)} {H : List Item} {f : FuncId} {xs : List Operand} {vs first : List Value} {ats : Array TypeId} {g : Option (Nat × Bool)} (hf : evT T x = some (.func (.func f) first.toArray #[])) (he : Enters P f) (ha : evL T xs = some vs) (hd : d < C.N)
    (hc : ∀ w, (∀ x, x ∈ H → x.holds w) → Calls P f (first ++ vs).toArray w (fun e w' => e = .returned v ∧ Below w.heap.size w w'))
    (h : K ⟨(d, v) :: T, H⟩) : LStep P C ⟨some d, .call { callee := .value x, args := xs.toArray, argTypes := ats }, ty, pos, aft, g⟩ ⟨T, H⟩ K :=
  LStep.call (Post := fun u its => u = v ∧ its = []) hf he ha hd
    (fun w hw => (hc w hw).mono fun e w' ⟨h1, h2⟩ => ⟨v, [], ⟨rfl, rfl⟩, h1, Brings.none h2⟩)
    (by rintro u its ⟨rfl, rfl⟩; exact h)
theorem LStep.callV {T : List (Nat × Value)} {H : List Item} {f : FuncId} {xs : List Operand} {vs first : List Value} {ats : Array TypeId} {Post : Value → Prop} {g : Option (Nat × Bool)} (hf : evT T x = some (.func (.func f) first.toArray #[])) (he : Enters P f) (ha : evL T xs = some vs) (hd : d < C.N)
    (hc : ∀ w, (∀ x, x ∈ H → x.holds w) → Calls P f (first ++ vs).toArray w (fun e w' => ∃ v, Post v ∧ e = .returned v ∧ Below w.heap.size w w'))
    (h : ∀ v, Post v → K ⟨(d, v) :: T, H⟩) : LStep P C ⟨some d, .call { callee := .value x, args := xs.toArray, argTypes := ats }, ty, pos, aft, g⟩ ⟨T, H⟩ K :=
  LStep.call (Post := fun u its => Post u ∧ its = []) hf he ha hd
    (fun w hw => (hc w hw).mono fun e w' ⟨v, h0, h1, h2⟩ => ⟨v, [], ⟨h0, rfl⟩, h1, Brings.none h2⟩)
    (by rintro u its ⟨hp, rfl⟩; exact h u hp)
end

/-- All of a list's things hold. -/
def Hold (w : World) : List Item → Prop
  | [] => True
  | x :: t => x.holds w ∧ Hold w t
theorem Hold.mem {w : World} {H : List Item} (h : Hold w H) : ∀ x, x ∈ H → x.holds w := by
  induction H with
  | nil => intro x hx; cases hx
  | cons y t ih =>
    intro x hx
    rcases List.mem_cons.1 hx with rfl | hx
    · exact h.1
    · exact ih h.2 x hx
/-- The frame of a function that writes nothing that it was handed. -/
theorem calls_ro {P : Program} {f : FuncId} {fn : Func} {c : Code} {vs : List Value} {w : World} (H : List Item) {rs : List ResultVar} {N : Nat} {R : Ending → World → Prop} (hf : P.funcs[f]? = some fn) (hb : fn.body = some c) (hn : fn.ntmps = N) (hs : fn.results = rs.toArray)
    (hlen : vs.length ≤ N) (hH : Hold w H) (hro : H.all (fun x => !x.wr) = true)
    (h : LCode P ⟨w, NoW, N⟩ c ⟨argT 0 vs, H⟩ (LEnd P ⟨w, NoW, N⟩ rs fun v _ w' => R (.returned v) w')) : Calls P f vs.toArray w R := by
  have hr : ∀ x, x ∈ H → x.wr = false := by
    intro x hx
    have := List.all_eq_true.1 hro x hx
    simpa using this
  refine calls_walk hf hb hn hs hlen hH.mem (fun x hx hw => by rw [hr x hx] at hw; cases hw) ?_ h
  exact List.pairwise_of_forall_mem_list fun x hx y hy hw => by rw [hr x hx, hr y hy] at hw; rcases hw with hw | hw <;> cases hw

/-! ### Forgetting -/
def AllIn : List (Nat × Value) → List (Nat × Value) → Prop
  | [], _ => True
  | (k, v) :: t, T => look k T = some v ∧ AllIn t T
theorem AllIn.look {T2 T1 : List (Nat × Value)} (h : AllIn T2 T1) : ∀ k v, look k T2 = some v → look k T1 = some v := by
  induction T2 with
  | nil => intro k v h; simp [Go.Proofs.Ytljblbgogjieaaa.look] at h
  | cons e t ih =>
    obtain ⟨j, u⟩ := e
    intro k v hl
    simp only [Go.Proofs.Ytljblbgogjieaaa.look] at hl
    cases hb : Nat.beq j k with
    | true =>
      have := Nat.eq_of_beq_eq_true hb
      subst this
      simp at hl
      subst hl
      exact h.1
    | false => rw [hb] at hl; exact ih h.2 k v hl
/-- One thing picked out of a list. -/
inductive Pick (x : Item) : List Item → List Item → Prop where
  | head (l : List Item) : Pick x (x :: l) l
  | tail (y : Item) {l l' : List Item} : Pick x l l' → Pick x (y :: l) (y :: l')
inductive Sel : List Item → List Item → Prop where
  | nil (l : List Item) : Sel l []
  | cons {x : Item} {l l' m : List Item} : Pick x l l' → Sel l' m → Sel l (x :: m)
theorem Pick.perm {x : Item} {l l' : List Item} (h : Pick x l l') : l.Perm (x :: l') := by
  induction h with
  | head l => exact List.Perm.refl _
  | tail y h ih => exact (List.Perm.cons y ih).trans (List.Perm.swap _ _ _)
theorem Sel.spec {l m : List Item} (h : Sel l m) : ∃ r, l.Perm (m ++ r) := by
  induction h with
  | nil l => exact ⟨l, List.Perm.refl _⟩
  | cons hp _ ih =>
    obtain ⟨r, hr⟩ := ih
    exact ⟨r, hp.perm.trans (List.Perm.cons _ hr)⟩
theorem Sub.mk {C : Ctx} {T1 T2 : List (Nat × Value)} {H1 H2 : List Item} (ht : AllIn T2 T1) (hh : Sel H1 H2) : Sub C ⟨T2, H2⟩ ⟨T1, H1⟩ := by
  intro a w h
  obtain ⟨r, hr⟩ := hh.spec
  have hd : (H2 ++ r).Pairwise Apart := (List.Perm.pairwise_iff (fun h => Apart.symm h) hr).1 h.dist
  have hm : ∀ x, x ∈ H2 → x ∈ H1 := fun x hx => hr.mem_iff.2 (List.mem_append.2 (.inl hx))
  exact ⟨h.size, h.defers, fun k v hl => h.tm k v (ht.look k v hl), fun x hx => h.hp x (hm x hx), fun x hx => h.own x (hm x hx), (List.pairwise_append.1 hd).1, h.fr⟩
theorem Sub.trans {C : Ctx} {x y z : St} (h : Sub C x y) (k : Sub C y z) : Sub C x z := fun a w hr => h a w (k a w hr)
theorem Sub.re {C : Ctx} {x y z : St} (k : Sub C y z) (h : Sub C x y) : Sub C x z := fun a w hr => h a w (k a w hr)
/-- A block's cells, said in other words. -/
theorem Sub.cells {C : Ctx} {T : List (Nat × Value)} {b : Nat} {wr : Bool} {cs cs' : List Value} {e : TypeId} {fz : Nat × Nat} {H H' : List Item} (hs : SetAt b ⟨wr, cs, e, fz⟩ ⟨wr, cs', e, fz⟩ H H') (h : cs = cs') : Sub C ⟨T, H'⟩ ⟨T, H⟩ := by
  subst h
  have : H = H' := by
    induction hs with
    | head l => rfl
    | tail x _ ih => rw [ih]
  subst this
  exact Sub.refl _ _
/-- A cut: both ways of the first part lead to a state of one family. -/
theorem LCode.cut {P : Program} {C : Ctx} {x y : Code} {st : St} {Q : Exit → St → Prop} {α : Type} (p : α → Prop) (mid : α → St) (h : LCode P C x st (LThen (fun s => ∃ a, p a ∧ Sub C (mid a) s) Q)) (k : ∀ a, p a → LCode P C y (mid a) Q) :
    LCode P C (.seq x y) st Q := by
  refine LCode.seq (LCode.mono ?_ h)
  intro e s hq
  cases e <;> try exact hq
  obtain ⟨a, ha, hs⟩ := hq
  exact (k a ha).sub hs
/-- A read-only thing that all of it hangs on a known block's being what it is. -/
theorem LCode.fact {P : Program} {C : Ctx} {c : Code} {st : St} {Q : Exit → St → Prop} (H' : List Item) (h : ∀ a w, Rel C st a w → Rel C ⟨st.T, H'⟩ a w) (k : LCode P C c ⟨st.T, H'⟩ Q) : LCode P C c st Q := fun a w hr => k a w (h a w hr)

/-! ### Calls that write into one block that is ours -/
theorem Rel.setFr {C : Ctx} {st : St} {a : Act} {w w' : World} {b : Nat} {B B' : Blk} {H' : List Item} (h : Rel C st a w) (hs : SetAt b B B' st.H H') (hw : B.wr = true)
    (hb : (Item.blk b B').holds w') (hf : Fr (fun k => k = b) w w') : Rel C ⟨st.T, H'⟩ a w' := by
  have hag : ∀ x, x ∈ st.H → x.holds w → b ∉ x.fp → x.holds w' := fun x _ hx hb' => Item.holds_agree hx (fun k hk' => hf.block k (Item.lt hx k hk') (fun e => hb' (e ▸ hk'))) hf.size
  refine ⟨h.size, h.defers, h.tm, hs.all h.dist hw h.hp hb hag, ?_, hs.apart h.dist hw, ?_⟩
  · refine hs.all (p := fun x => x.wr = true → ∀ k, k ∈ x.fp → C.w0.heap.size ≤ k ∨ C.W k) h.dist hw h.own ?_ (fun x _ hx _ => hx)
    intro _ k hk'
    exact h.own _ hs.mem hw k hk'
  · refine ⟨hf.os.trans h.fr.os, hf.tape.trans h.fr.tape, hf.output.trans h.fr.output, Nat.le_trans h.fr.size hf.size, fun k hk1 hk2 => ?_⟩
    have hne : k ≠ b := by
      rintro rfl
      rcases h.own _ hs.mem hw k (by simp [Item.fp]) with h1 | h1
      · omega
      · exact hk2 h1
    exact (hf.block k (Nat.lt_of_lt_of_le hk1 h.fr.size) hne).trans (h.fr.block k hk1 hk2)
theorem apart_mem {H : List Item} (h : H.Pairwise Apart) {x y : Item} (hx : x ∈ H) (hy : y ∈ H) (hxw : x.wr = true) (hyw : y.wr = false) : ∀ k, k ∈ x.fp → k ∉ y.fp := by
  induction H with
  | nil => cases hx
  | cons q l ih =>
    obtain ⟨h1, h2⟩ := List.pairwise_cons.1 h
    rcases List.mem_cons.1 hx with e1 | hx1
    · rcases List.mem_cons.1 hy with e2 | hy1
      · rw [e1] at hxw; rw [e2, hxw] at hyw; cases hyw
      · rw [e1] at hxw ⊢; exact h1 y hy1 (.inl hxw)
    · rcases List.mem_cons.1 hy with e2 | hy1
      · rw [e2]; exact fun k hk hk' => h1 x hx1 (.inr hxw) k hk' hk
      · exact ih h2 hx1 hy1
theorem apart_blk {H : List Item} (h : H.Pairwise Apart) {b c : Nat} {B D : Blk} (hx : Item.blk b B ∈ H) (hy : Item.blk c D ∈ H) (hxw : B.wr = true) (hyw : D.wr = false) : c ≠ b :=
  fun e => apart_mem h hx hy hxw hyw b (by simp [Item.fp]) (by simp [Item.fp, e])
section
variable {P : Program} {C : Ctx} {ty : TypeId} {pos : String} {aft : Array Edge} {d : Nat} {K : St → Prop} {x : Operand} {v : Value}
theorem LStepW.callWE {T : List (Nat × Value)} {H : List Item} {f : FuncId} {xs : List Operand} {vs first : List Value} {ats : Array TypeId} {g : Option (Nat × Bool)} {b : Nat} {cs0 : List Value} {e : TypeId} {fz : Nat × Nat} {Post : Value → List Value → Prop} (hf : evT T x = some (.func (.func f) first.toArray #[])) (he : Enters P f) (ha : evL T xs = some vs) (hd : d < C.N)
    (hm : Item.blk b ⟨true, cs0, e, fz⟩ ∈ H)
    (hc : ∀ w, (∀ x, x ∈ H → x.holds w) → H.Pairwise Apart → Calls P f (first ++ vs).toArray w (fun e' w' => ∃ v cs', Post v cs' ∧ e' = .returned v ∧ (Item.blk b ⟨true, cs', e, fz⟩).holds w' ∧ Fr (fun k => k = b) w w'))
    (h : ∀ v cs' H', Post v cs' → SetAt b ⟨true, cs0, e, fz⟩ ⟨true, cs', e, fz⟩ H H' → K ⟨(d, v) :: T, H'⟩) : LStepW P C ⟨some d, .call { callee := .value x, args := xs.toArray, argTypes := ats }, ty, pos, aft, g⟩ ⟨T, H⟩ K := by
  intro a w hr Qr
  obtain ⟨fn, h1, h2, h3⟩ := he
  refine wp_callee (vs := first ++ vs) ?_ (hc w hr.hp hr.dist) ?_
  · have := hr.evs ha
    simp [execOp, resolve, hr.ev hf, Deferred.ofValue, invoke, run_call h1 h2 h3, this]
  · rintro e' w' ⟨v, cs', hp, rfl, hb, hfr⟩
    obtain ⟨H', hs⟩ : ∃ H', SetAt b ⟨true, cs0, e, fz⟩ ⟨true, cs', e, fz⟩ H H' := by
      clear hc h hr
      induction H with
      | nil => cases hm
      | cons q l ih =>
        rcases List.mem_cons.1 hm with rfl | hm
        · exact ⟨_, .head _⟩
        · obtain ⟨H', h'⟩ := ih hm; exact ⟨_, .tail _ h'⟩
    exact ⟨v, rfl, _, h v cs' H' hp hs, (hr.setFr hs rfl hb hfr).put hd v⟩
theorem LStepW.callWF {T : List (Nat × Value)} {H : List Item} {Hf : List Value → List Item} {f : FuncId} {xs : List Operand} {vs first : List Value} {ats : Array TypeId} {g : Option (Nat × Bool)} {b : Nat} {cs0 : List Value} {e : TypeId} {fz : Nat × Nat} {Post : Value → List Value → Prop} (hf : evT T x = some (.func (.func f) first.toArray #[])) (he : Enters P f) (ha : evL T xs = some vs) (hd : d < C.N)
    (hs : ∀ cs', SetAt b ⟨true, cs0, e, fz⟩ ⟨true, cs', e, fz⟩ H (Hf cs'))
    (hc : ∀ w, (∀ x, x ∈ H → x.holds w) → H.Pairwise Apart → Calls P f (first ++ vs).toArray w (fun e' w' => ∃ v cs', Post v cs' ∧ e' = .returned v ∧ (Item.blk b ⟨true, cs', e, fz⟩).holds w' ∧ Fr (fun k => k = b) w w'))
    (h : ∀ v cs', Post v cs' → K ⟨(d, v) :: T, Hf cs'⟩) : LStepW P C ⟨some d, .call { callee := .value x, args := xs.toArray, argTypes := ats }, ty, pos, aft, g⟩ ⟨T, H⟩ K := by
  intro a w hr Qr
  obtain ⟨fn, h1, h2, h3⟩ := he
  refine wp_callee (vs := first ++ vs) ?_ (hc w hr.hp hr.dist) ?_
  · have := hr.evs ha
    simp [execOp, resolve, hr.ev hf, Deferred.ofValue, invoke, run_call h1 h2 h3, this]
  · rintro e' w' ⟨v, cs', hp, rfl, hb, hfr⟩
    exact ⟨v, rfl, _, h v cs' hp, (hr.setFr (hs cs') rfl hb hfr).put hd v⟩
theorem SetAt.det {b : Nat} {B B' : Blk} {l l1 l2 : List Item} (hd : l.Pairwise Apart) (hw : B.wr = true) (h1 : SetAt b B B' l l1) (h2 : SetAt b B B' l l2) : l1 = l2 := by
  induction h1 generalizing l2 with
  | head l =>
    cases h2 with
    | head => rfl
    | tail x h =>
      exact absurd (by simp [Item.fp]) ((List.pairwise_cons.1 hd).1 _ h.mem (.inl hw) b (by simp [Item.fp]))
  | tail x h ih =>
    cases h2 with
    | head => exact absurd (by simp [Item.fp]) ((List.pairwise_cons.1 hd).1 _ h.mem (.inl hw) b (by simp [Item.fp]))
    | tail x h' => rw [ih (List.pairwise_cons.1 hd).2 h']
theorem LStepW.callW {T : List (Nat × Value)} {H H' : List Item} {f : FuncId} {xs : List Operand} {vs first : List Value} {ats : Array TypeId} {g : Option (Nat × Bool)} {b : Nat} {cs0 cs' : List Value} {e : TypeId} {fz : Nat × Nat} (hf : evT T x = some (.func (.func f) first.toArray #[])) (he : Enters P f) (ha : evL T xs = some vs) (hd : d < C.N)
    (hs : SetAt b ⟨true, cs0, e, fz⟩ ⟨true, cs', e, fz⟩ H H')
    (hc : ∀ w, (∀ x, x ∈ H → x.holds w) → H.Pairwise Apart → Calls P f (first ++ vs).toArray w (fun e' w' => e' = .returned v ∧ (Item.blk b ⟨true, cs', e, fz⟩).holds w' ∧ Fr (fun k => k = b) w w'))
    (h : K ⟨(d, v) :: T, H'⟩) : LStepW P C ⟨some d, .call { callee := .value x, args := xs.toArray, argTypes := ats }, ty, pos, aft, g⟩ ⟨T, H⟩ K := by
  intro a w hr Qr
  obtain ⟨fn, h1, h2, h3⟩ := he
  refine wp_callee (vs := first ++ vs) ?_ (hc w hr.hp hr.dist) ?_
  · have := hr.evs ha
    simp [execOp, resolve, hr.ev hf, Deferred.ofValue, invoke, run_call h1 h2 h3, this]
  · rintro e' w' ⟨rfl, hb, hfr⟩
    exact ⟨v, rfl, _, h, (hr.setFr hs rfl hb hfr).put hd v⟩
end
/-- The frame of a function that writes into one block that it was handed. -/
theorem calls_w1 {P : Program} {f : FuncId} {fn : Func} {c : Code} {vs : List Value} {w : World} (b : Nat) (cs0 : List Value) (e : TypeId) (fz : Nat × Nat) (H : List Item) {rs : List ResultVar} {N : Nat} {R : Ending → World → Prop} (hf : P.funcs[f]? = some fn) (hb : fn.body = some c) (hn : fn.ntmps = N) (hs : fn.results = rs.toArray)
    (hlen : vs.length ≤ N) (h0 : (Item.blk b ⟨true, cs0, e, fz⟩).holds w) (hH : Hold w H) (hro : H.all (fun x => !x.wr) = true) (hne : ∀ x, x ∈ H → b ∉ x.fp)
    (h : LCode P ⟨w, fun k => k = b, N⟩ c ⟨argT 0 vs, .blk b ⟨true, cs0, e, fz⟩ :: H⟩ (LEnd P ⟨w, fun k => k = b, N⟩ rs fun v _ w' => R (.returned v) w')) : Calls P f vs.toArray w R := by
  have hr : ∀ x, x ∈ H → x.wr = false := by
    intro x hx
    have := List.all_eq_true.1 hro x hx
    simpa using this
  refine calls_walk hf hb hn hs hlen ?_ ?_ ?_ h
  · intro x hx
    rcases List.mem_cons.1 hx with rfl | hx
    · exact h0
    · exact hH.mem x hx
  · intro x hx hw k hk
    rcases List.mem_cons.1 hx with rfl | hx
    · simpa [Item.fp] using hk
    · rw [hr x hx] at hw; cases hw
  · refine List.pairwise_cons.2 ⟨fun y hy _ k hk hk' => ?_, List.pairwise_of_forall_mem_list fun x hx y hy hw => by rw [hr x hx, hr y hy] at hw; rcases hw with hw | hw <;> cases hw⟩
    simp [Item.fp] at hk
    subst hk
    exact hne y hy hk'

/-! ### Whole numbers -/
theorem wrap_i64 {i : Int} (h1 : -9223372036854775808 ≤ i) (h2 : i < 9223372036854775808) : IntKind.i64.wrap i = i := by
  unfold IntKind.wrap
  simp [IntKind.signed, IntKind.bits]
  omega
theorem wrap_nat {n : Nat} (h : n < 9223372036854775808) : IntKind.i64.wrap (n : Int) = n := wrap_i64 (by omega) (by omega)
theorem wrap_u64 (i : Int) : IntKind.u64.wrap i = i % 18446744073709551616 := by
  simp [IntKind.wrap, IntKind.signed, IntKind.bits]
theorem wrap_u32 (i : Int) : IntKind.u32.wrap i = i % 4294967296 := by
  simp [IntKind.wrap, IntKind.signed, IntKind.bits]
theorem wrap_u8 (i : Int) : IntKind.u8.wrap i = i % 256 := by
  simp [IntKind.wrap, IntKind.signed, IntKind.bits]
theorem wrap_u64_nat (n : Nat) : IntKind.u64.wrap (n : Int) = ((n % 18446744073709551616 : Nat) : Int) := by rw [wrap_u64]; omega
theorem wrap_u32_nat (n : Nat) : IntKind.u32.wrap (n : Int) = ((n % 4294967296 : Nat) : Int) := by rw [wrap_u32]; omega
theorem wrap_u8_nat (n : Nat) : IntKind.u8.wrap (n : Int) = ((n % 256 : Nat) : Int) := by rw [wrap_u8]; omega

section
variable {a b : Nat}
theorem br_add (h : a + b < 9223372036854775808) : binRes .add .i64 a .i64 b = some (.int .i64 ((a + b : Nat) : Int)) := by
  simp only [binRes, if_true]
  rw [wrap_i64 (by omega) (by omega)]
  simp
theorem br_sub (h : b ≤ a) (h2 : a < 9223372036854775808) : binRes .sub .i64 a .i64 b = some (.int .i64 ((a - b : Nat) : Int)) := by
  simp only [binRes, if_true]
  rw [wrap_i64 (by omega) (by omega)]
  congr 2; omega
theorem br_mul (h : a * b < 9223372036854775808) : binRes .mul .i64 a .i64 b = some (.int .i64 ((a * b : Nat) : Int)) := by
  simp only [binRes, if_true]
  rw [show ((a : Int) * b) = ((a * b : Nat) : Int) from (Int.natCast_mul a b).symm, wrap_i64 (by omega) (by omega)]
theorem br_quo (hb : b ≠ 0) (h2 : a < 9223372036854775808) : binRes .quo .i64 a .i64 b = some (.int .i64 ((a / b : Nat) : Int)) := by
  have hb' : ¬ ((b : Int) = 0) := by omega
  have h3 : a / b ≤ a := Nat.div_le_self a b
  have h4 : (a : Int).tdiv (b : Int) = ((a / b : Nat) : Int) := rfl
  simp only [binRes, if_true, hb', if_false]
  rw [h4]
  rw [wrap_nat (n := a / b) (Nat.lt_of_le_of_lt h3 h2)]
theorem br_rem (hb : b ≠ 0) : binRes .rem .i64 a .i64 b = some (.int .i64 ((a % b : Nat) : Int)) := by
  have hb' : ¬ ((b : Int) = 0) := by omega
  simp only [binRes, if_true, hb', if_false]
  rfl
theorem br_lss {k : IntKind} : binRes .lss k a k b = some (.bool (decide (a < b))) := by simp [binRes]
theorem br_leq {k : IntKind} : binRes .leq k a k b = some (.bool (decide (a ≤ b))) := by simp [binRes]
theorem br_gtr {k : IntKind} : binRes .gtr k a k b = some (.bool (decide (b < a))) := by simp [binRes]
theorem br_geq {k : IntKind} : binRes .geq k a k b = some (.bool (decide (b ≤ a))) := by simp [binRes]
theorem br_eql {k : IntKind} : binRes .eql k a k b = some (.bool (decide (a = b))) := by
  simp only [binRes, if_true]
  congr 2
  rw [Bool.eq_iff_iff]; simp; omega
theorem br_neq {k : IntKind} : binRes .neq k a k b = some (.bool (decide (a ≠ b))) := by
  simp only [binRes, if_true]
  congr 2
  rw [Bool.eq_iff_iff]; simp; omega
theorem br_t {op : BinOp} {k k' : IntKind} {i j : Int} {p : Prop} [Decidable p] (h : binRes op k i k' j = some (.bool (decide p))) (hp : p) : binRes op k i k' j = some (.bool true) := by rw [h, decide_eq_true hp]
theorem br_f {op : BinOp} {k k' : IntKind} {i j : Int} {p : Prop} [Decidable p] (h : binRes op k i k' j = some (.bool (decide p))) (hp : ¬ p) : binRes op k i k' j = some (.bool false) := by rw [h, decide_eq_false hp]
/-! Words of 64 bits. -/
theorem br_add64 : binRes .add .u64 a .u64 b = some (.int .u64 (((a + b) % 18446744073709551616 : Nat) : Int)) := by
  simp only [binRes, if_true]
  rw [show ((a : Int) + b) = ((a + b : Nat) : Int) by simp, wrap_u64_nat]
theorem br_mul64 : binRes .mul .u64 a .u64 b = some (.int .u64 (((a * b) % 18446744073709551616 : Nat) : Int)) := by
  simp only [binRes, if_true]
  rw [show ((a : Int) * b) = ((a * b : Nat) : Int) by simp, wrap_u64_nat]
theorem br_sub64 (hb : b < 18446744073709551616) : binRes .sub .u64 a .u64 b = some (.int .u64 (((a + (18446744073709551616 - b)) % 18446744073709551616 : Nat) : Int)) := by
  simp only [binRes, if_true, wrap_u64]
  congr 2
  omega
theorem ofInt_nat (n m : Nat) : BitVec.ofInt n (m : Int) = BitVec.ofNat n m := by
  apply BitVec.eq_of_toNat_eq
  simp [BitVec.toNat_ofInt]
theorem br_and64 (ha : a < 18446744073709551616) (hb : b < 18446744073709551616) : binRes .and .u64 a .u64 b = some (.int .u64 ((a &&& b : Nat) : Int)) := by
  show some (Value.int .u64 (IntKind.u64.wrap ((BitVec.ofInt 64 (a : Int) &&& BitVec.ofInt 64 (b : Int)).toNat : Int))) = _
  rw [ofInt_nat, ofInt_nat, BitVec.toNat_and, BitVec.toNat_ofNat, BitVec.toNat_ofNat, wrap_u64_nat]
  have h1 : a % 2 ^ 64 = a := Nat.mod_eq_of_lt ha
  have h2 : b % 2 ^ 64 = b := Nat.mod_eq_of_lt hb
  have h3 : a &&& b < 18446744073709551616 := Nat.lt_of_le_of_lt Nat.and_le_left ha
  rw [h1, h2, Nat.mod_eq_of_lt h3]
theorem br_or64 (ha : a < 18446744073709551616) (hb : b < 18446744073709551616) : binRes .or .u64 a .u64 b = some (.int .u64 ((a ||| b : Nat) : Int)) := by
  show some (Value.int .u64 (IntKind.u64.wrap ((BitVec.ofInt 64 (a : Int) ||| BitVec.ofInt 64 (b : Int)).toNat : Int))) = _
  rw [ofInt_nat, ofInt_nat, BitVec.toNat_or, BitVec.toNat_ofNat, BitVec.toNat_ofNat, wrap_u64_nat]
  have h1 : a % 2 ^ 64 = a := Nat.mod_eq_of_lt ha
  have h2 : b % 2 ^ 64 = b := Nat.mod_eq_of_lt hb
  have h3 : a ||| b < 2 ^ 64 := Nat.or_lt_two_pow ha hb
  rw [h1, h2, Nat.mod_eq_of_lt h3]
theorem br_xor64 (ha : a < 18446744073709551616) (hb : b < 18446744073709551616) : binRes .xor .u64 a .u64 b = some (.int .u64 ((a ^^^ b : Nat) : Int)) := by
  show some (Value.int .u64 (IntKind.u64.wrap ((BitVec.ofInt 64 (a : Int) ^^^ BitVec.ofInt 64 (b : Int)).toNat : Int))) = _
  rw [ofInt_nat, ofInt_nat, BitVec.toNat_xor, BitVec.toNat_ofNat, BitVec.toNat_ofNat, wrap_u64_nat]
  have h1 : a % 2 ^ 64 = a := Nat.mod_eq_of_lt ha
  have h2 : b % 2 ^ 64 = b := Nat.mod_eq_of_lt hb
  have h3 : a ^^^ b < 2 ^ 64 := Nat.xor_lt_two_pow ha hb
  rw [h1, h2, Nat.mod_eq_of_lt h3]
theorem br_shr64 {k : IntKind} (ha : a < 18446744073709551616) : binRes .shr .u64 a k b = some (.int .u64 ((a / 2 ^ b : Nat) : Int)) := by
  have hb : ¬ ((b : Int) < 0) := by omega
  simp only [binRes, hb, if_false, IntKind.bits, Int.toNat_natCast]
  congr 2
  have : (a : Int).fdiv (2 ^ min b 64) = ((a / 2 ^ min b 64 : Nat) : Int) := by
    rw [show ((2 : Int) ^ min b 64) = ((2 ^ min b 64 : Nat) : Int) by simp, Int.fdiv_eq_ediv_of_nonneg _ (Int.natCast_nonneg _)]
    rfl
  rw [this]
  congr 1
  rcases Nat.lt_or_ge b 64 with h | h
  · rw [Nat.min_eq_left (by omega)]
  · rw [Nat.min_eq_right h]
    have h1 : a / 2 ^ 64 = 0 := Nat.div_eq_of_lt ha
    have h2 : a / 2 ^ b = 0 := Nat.div_eq_of_lt (Nat.lt_of_lt_of_le ha (Nat.pow_le_pow_right (n := 2) (by decide) h))
    rw [h1, h2]
theorem br_shl64 {k : IntKind} : binRes .shl .u64 a k b = some (.int .u64 ((a * 2 ^ b % 18446744073709551616 : Nat) : Int)) := by
  have hb : ¬ ((b : Int) < 0) := by omega
  simp only [binRes, hb, if_false, IntKind.bits, Int.toNat_natCast]
  have : ((a : Int) * 2 ^ min b 64) = ((a * 2 ^ min b 64 : Nat) : Int) := by simp
  rw [this, wrap_u64_nat]
  congr 3
  rcases Nat.lt_or_ge b 64 with h | h
  · rw [Nat.min_eq_left (by omega)]
  · rw [Nat.min_eq_right h]
    obtain ⟨c, rfl⟩ : ∃ c, b = 64 + c := ⟨b - 64, by omega⟩
    rw [Nat.pow_add, show (2 : Nat) ^ 64 = 18446744073709551616 from rfl, ← Nat.mul_assoc, Nat.mul_mod_left, Nat.mul_right_comm, Nat.mul_mod_left]
end

/-! ### Places at an index -/
theorem br_subI {i j : Int} (h1 : -9223372036854775808 ≤ i - j) (h2 : i - j < 9223372036854775808) : binRes .sub .i64 i .i64 j = some (.int .i64 (i - j)) := by
  simp only [binRes, if_true, wrap_i64 h1 h2]
theorem br_addI {i j : Int} (h1 : -9223372036854775808 ≤ i + j) (h2 : i + j < 9223372036854775808) : binRes .add .i64 i .i64 j = some (.int .i64 (i + j)) := by
  simp only [binRes, if_true, wrap_i64 h1 h2]
theorem br_quo64 {a b : Nat} (hb : b ≠ 0) (ha : a < 18446744073709551616) : binRes .quo .u64 a .u64 b = some (.int .u64 ((a / b : Nat) : Int)) := by
  have hb' : (b : Int) ≠ 0 := by omega
  simp only [binRes, if_true, hb', if_false, wrap_u64]
  congr 2
  have : a / b ≤ a := Nat.div_le_self _ _
  rw [Int.tdiv_eq_ediv_of_nonneg (by omega)]
  have h2 : (a : Int) / (b : Int) = ((a / b : Nat) : Int) := rfl
  rw [h2]
  generalize a / b = q at *
  omega
theorem br_rem64 {a b : Nat} (hb : b ≠ 0) : binRes .rem .u64 a .u64 b = some (.int .u64 ((a % b : Nat) : Int)) := by
  have hb' : (b : Int) ≠ 0 := by omega
  simp only [binRes, if_true, hb', if_false]
  congr 2
def nthF : List Field → Nat → Option Field
  | [], _ => none
  | o :: _, 0 => some o
  | _ :: l, n + 1 => nthF l n
theorem nthF_eq : ∀ (l : List Field) (i : Nat), l.toArray[i]? = nthF l i
  | [], _ => by simp [nthF]
  | o :: l, 0 => by simp [nthF]
  | o :: l, n + 1 => by
    have := nthF_eq l n
    simp only [List.getElem?_toArray] at this
    simpa [nthF] using this
section
variable {P : Program} {C : Ctx} {d : Option Tmp} {ty : TypeId} {pos : String} {aft : Array Edge} {g : Option (Nat × Bool)} {st : St} {x y z : Operand} {v u : Value} {t s : TypeId}
theorem Det.fieldA {fs : List Field} {n : Nat} {f : Field} {b o o' m : Nat} (ht : P.underlying t = some (.struct fs.toArray)) (hf : nthF fs n = some f) (hx : evT st.T x = some (.pointer (some ⟨b, o, none⟩)))
    (ho : o + f.offset = o') (hz : szOf P f.type = some m) (hm : m ≠ 0) : Slots P C ⟨d, .fieldAddr t x n, ty, pos, aft, g⟩ st (.pointer (some ⟨b, o', none⟩)) := by
  subst ho
  refine Det.fieldAddr ht ((nthF_eq fs n).trans hf) hx (fun w => ?_)
  unfold szOf at hz
  cases hi : P.info? f.type with
  | none => simp [hi] at hz
  | some i =>
    simp [hi] at hz
    have : ¬ i.size = 0 := by omega
    simp [fieldPlace, sizeOf, typeInfo, hi, this, Addr.add]
theorem Det.indexA {n : Nat} {e : TypeId} {k : IntKind} {i : Nat} {b o : Nat} (ht : P.underlying t = some (.array n e)) (he : szOf P e = some 1) (hx : evT st.T x = some (.pointer (some ⟨b, o, none⟩)))
    (hy : evT st.T y = some (.int k (i : Int))) (h1 : i < n) : Slots P C ⟨d, .indexAddr t x y, ty, pos, aft, g⟩ st (.pointer (some ⟨b, i + o, none⟩)) := by
  have := Det.indexArr (P := P) (C := C) (d := d) (ty := ty) (pos := pos) (aft := aft) (g := g) ht he hx hy (by omega) (by omega)
  rwa [show o + (i : Int).toNat = i + o by omega] at this
theorem Det.indexA0 {n : Nat} {e : TypeId} {k : IntKind} {i : Nat} {b : Nat} (ht : P.underlying t = some (.array n e)) (he : szOf P e = some 1) (hx : evT st.T x = some (.pointer (some ⟨b, 0, none⟩)))
    (hy : evT st.T y = some (.int k (i : Int))) (h1 : i < n) : Slots P C ⟨d, .indexAddr t x y, ty, pos, aft, g⟩ st (.pointer (some ⟨b, i, none⟩)) := Det.indexA ht he hx hy h1
theorem Det.indexS0 {e : TypeId} {k : IntKind} {i : Nat} {b l c : Nat} (ht : P.underlying t = some (.slice e)) (he : szOf P e = some 1) (hx : evT st.T x = some (.slice (some ⟨b, 0, none⟩) l c))
    (hy : evT st.T y = some (.int k (i : Int))) (h1 : i < l) : Slots P C ⟨d, .indexAddr t x y, ty, pos, aft, g⟩ st (.pointer (some ⟨b, i, none⟩)) := by
  have := Det.indexSl (P := P) (C := C) (d := d) (ty := ty) (pos := pos) (aft := aft) (g := g) ht he hx hy (by omega) (by omega)
  rwa [show 0 + (i : Int).toNat * 1 = i by omega] at this
theorem Det.indexS {e : TypeId} {k : IntKind} {i : Nat} {b o l c : Nat} (ht : P.underlying t = some (.slice e)) (he : szOf P e = some 1) (hx : evT st.T x = some (.slice (some ⟨b, o, none⟩) l c))
    (hy : evT st.T y = some (.int k (i : Int))) (h1 : i < l) : Slots P C ⟨d, .indexAddr t x y, ty, pos, aft, g⟩ st (.pointer (some ⟨b, i + o, none⟩)) := by
  have := Det.indexSl (P := P) (C := C) (d := d) (ty := ty) (pos := pos) (aft := aft) (g := g) ht he hx hy (by omega) (by omega)
  rwa [show o + (i : Int).toNat * 1 = i + o by omega] at this
theorem Det.conv64 {k : IntKind} {i : Nat} {src : TypeDesc} (hs : P.underlying s = some src) (ht : P.underlying t = some (.int .u64)) (hx : evT st.T x = some (.int k (i : Int))) (h : i < 18446744073709551616) :
    Slots P C ⟨d, .convert s t x, ty, pos, aft, g⟩ st (.int .u64 (i : Int)) := by
  have := Det.conv (P := P) (C := C) (d := d) (ty := ty) (pos := pos) (aft := aft) (g := g) hs ht hx
  rwa [wrap_u64_nat, Nat.mod_eq_of_lt h] at this
theorem vi {k : IntKind} {a b : Nat} (h : a = b) : Value.int k (a : Int) = Value.int k (b : Int) := by rw [h]
theorem Slots.cast {P : Program} {C : Ctx} {o : Oper} {st : St} {v u : Value} (h : Slots P C o st v) (e : v = u) : Slots P C o st u := e ▸ h
theorem Det.cast {P : Program} {C : Ctx} {o : Oper} {st : St} {v u : Value} (h : Det P C o st v) (e : v = u) : Det P C o st u := e ▸ h
theorem Det.conv8 {k : IntKind} {i : Nat} {src : TypeDesc} (hs : P.underlying s = some src) (ht : P.underlying t = some (.int .u8)) (hx : evT st.T x = some (.int k (i : Int))) :
    Slots P C ⟨d, .convert s t x, ty, pos, aft, g⟩ st (.int .u8 ((i % 256 : Nat) : Int)) := by
  have := Det.conv (C := C) (st := st) (d := d) (ty := ty) (pos := pos) (aft := aft) (g := g) hs ht hx
  rwa [wrap_u8_nat] at this
theorem Det.conv32 {k : IntKind} {i : Nat} {src : TypeDesc} (hs : P.underlying s = some src) (ht : P.underlying t = some (.int .u32)) (hx : evT st.T x = some (.int k (i : Int))) :
    Slots P C ⟨d, .convert s t x, ty, pos, aft, g⟩ st (.int .u32 ((i % 4294967296 : Nat) : Int)) := by
  have := Det.conv (C := C) (st := st) (d := d) (ty := ty) (pos := pos) (aft := aft) (g := g) hs ht hx
  rwa [wrap_u32_nat] at this
theorem Det.convi {k : IntKind} {i : Nat} {src : TypeDesc} (hs : P.underlying s = some src) (ht : P.underlying t = some (.int .i64)) (hx : evT st.T x = some (.int k (i : Int))) (h : i < 9223372036854775808) :
    Slots P C ⟨d, .convert s t x, ty, pos, aft, g⟩ st (.int .i64 (i : Int)) := by
  have := Det.conv (P := P) (C := C) (d := d) (ty := ty) (pos := pos) (aft := aft) (g := g) hs ht hx
  rwa [wrap_i64 (by omega) (by omega)] at this
end

/-! ### Structs and arrays that are built -/
def plc (P : Program) (t : TypeId) : Option (List (Nat × Nat)) :=
  match P.underlying t with
  | some (.array n e) => (szOf P e).map fun s => (List.range n).map fun i => (i * s, s)
  | some (.struct fields) => fields.toList.mapM fun f => (szOf P f.type).map fun s => (f.offset, s)
  | _ => none
/-- The parts laid into the zero, one by one. -/
def fillL (places : List (Nat × Nat)) : List Value → List (Nat × Value) → Option (List Value)
  | z, [] => some z
  | z, (i, v) :: rest =>
    match places[i]? with
    | none => none
    | some (o, s) => if v.cells.size ≠ s ∨ o + s > z.length then none else fillL places (splice z o v.cells.toList) rest
theorem foldl_splice (cs : List Value) : ∀ (z : List Value) (o k : Nat), o + k + cs.length ≤ z.length →
    (cs.zipIdx k).foldl (fun (a : Array Value) (c : Value × Nat) => a.setIfInBounds (o + c.2) c.1) z.toArray = (splice z (o + k) cs).toArray := by
  induction cs with
  | nil => intro z o k h; simp [splice_nil _ _ (by simpa using h)]
  | cons c cs ih =>
    intro z o k h
    simp only [List.zipIdx_cons, List.foldl_cons]
    have e : z.toArray.setIfInBounds (o + k) c = (z.set (o + k) c).toArray := by simp
    rw [e, ih (z.set (o + k) c) o (k + 1) (by simp at h ⊢; omega), splice_cons _ _ _ _ (by simp at h; omega)]
    rfl
theorem fill_eq (places : List (Nat × Nat)) (pl : Nat → Option (Nat × Nat)) : ∀ (parts : List (Nat × Value)) (z : List Value) (cs : List Value), (∀ i v, (i, v) ∈ parts → pl i = places[i]?) → fillL places z parts = some cs → Instr.fill pl z.toArray parts = some cs.toArray
  | [], z, cs, _, h => by simp [fillL] at h; simp [Instr.fill, h]
  | (i, v) :: rest, z, cs, hp, h => by
    simp only [fillL] at h
    have h1 := hp i v (.head _)
    cases hpl : places[i]? with
    | none => simp [hpl] at h
    | some os =>
      obtain ⟨o, s⟩ := os
      simp only [hpl] at h
      split at h
      · cases h
      · rename_i hn
        have hn1 : v.cells.size = s := by
          rcases Nat.decEq v.cells.size s with hd | hd
          · exact absurd (Or.inl hd) hn
          · exact hd
        have hn2 : o + s ≤ z.length := by
          rcases Nat.lt_or_ge z.length (o + s) with hd | hd
          · exact absurd (Or.inr hd) hn
          · exact hd
        simp only [Instr.fill, h1, hpl]
        rw [if_neg (by simp; omega)]
        have hz : (v.cells.zipIdx.foldl (fun (cs : Array Value) (x : Value × Nat) => cs.setIfInBounds (o + x.2) x.1) z.toArray) = (splice z o v.cells.toList).toArray := by
          have := foldl_splice v.cells.toList z o 0 (by simp; omega)
          simp only [Nat.add_zero] at this
          rw [← this, ← Array.foldl_toList]
          congr 1
          simp
        have h2 := fill_eq places pl rest _ cs (fun i v hv => hp i v (.tail _ hv)) h
        rw [← h2]
        congr 1
theorem built_of {P : Program} {t : TypeId} {places : List (Nat × Nat)} {z cs : List Value} {parts : List (Nat × Value)} (hp : plc P t = some places) (hz : zrOf P t = some (.agg z.toArray)) (hf : fillL places z parts = some cs) : P.built t parts = some cs.toArray := by
  unfold plc at hp
  unfold zrOf at hz
  unfold Program.built
  cases hi : P.info? t with
  | none => simp [hi] at hz
  | some it =>
    simp [hi] at hz
    cases hu : P.underlying t with
    | none => simp [hu] at hp
    | some D =>
      cases D <;> simp only [hu] at hp <;> (try cases hp)
      case array n e =>
        unfold szOf at hp
        cases hie : P.info? e with
        | none => simp [hie] at hp
        | some ie =>
          simp only [hie, Option.map_some, Option.some.injEq] at hp
          subst hp
          simp only [hz, hie, Value.cells]
          refine fill_eq _ _ parts z cs (fun i v hv => ?_) hf
          have key : ∀ (ps : List (Nat × Value)) (z : List Value), (i, v) ∈ ps → fillL ((List.range n).map fun i => (i * ie.size, ie.size)) z ps = some cs → i < n := by
            intro ps
            induction ps with
            | nil => intro z h; cases h
            | cons q ps ih =>
              obtain ⟨j, u⟩ := q
              intro z h hf
              simp only [fillL] at hf
              rcases List.mem_cons.1 h with h | h
              · injection h with h1 h2
                subst h1
                by_cases hin : i < n
                · exact hin
                · rw [List.getElem?_eq_none (by simp; omega)] at hf; cases hf
              · split at hf
                · cases hf
                · split at hf
                  · cases hf
                  · exact ih _ h hf
          have := key parts z hv hf
          simp [this]
      case struct fields =>
        have hp' : fields.toList.mapM (fun f => (P.info? f.type).map fun i => (f.offset, i.size)) = some places := by
          rw [← hp]
          congr 1
          funext f
          unfold szOf
          cases P.info? f.type <;> rfl
        simp only [hz, hp', Value.cells]
        exact fill_eq _ _ parts z cs (fun i v hv => by simp) hf
/-- The values of operands with their numbers. -/
def evP (T : List (Nat × Value)) : List (Nat × Operand) → Option (List (Nat × Value))
  | [] => some []
  | (i, x) :: xs => match evT T x, evP T xs with
    | some v, some vs => some ((i, v) :: vs)
    | _, _ => none
theorem evp_of {T : List (Nat × Value)} {a : Act} (h : ∀ x u, evT T x = some u → a.eval x = u) : ∀ {xs : List (Nat × Operand)} {vs : List (Nat × Value)}, evP T xs = some vs → xs.map (fun (i, x) => (i, a.eval x)) = vs
  | [], vs, hl => by simp [evP] at hl; simp [hl]
  | (i, x) :: xs, vs, hl => by
    simp only [evP] at hl
    split at hl
    · rename_i v vs' h1 h2
      cases hl
      simp [h _ _ h1, evp_of h h2]
    · cases hl
theorem Det.build {P : Program} {C : Ctx} {d : Option Tmp} {ty : TypeId} {pos : String} {aft : Array Edge} {g : Option (Nat × Bool)} {st : St} {t : TypeId} {ps : List (Nat × Operand)} {vs : List (Nat × Value)} {places : List (Nat × Nat)} {z cs : List Value}
    (hp : plc P t = some places) (hz : zrOf P t = some (.agg z.toArray)) (hv : evP st.T ps = some vs) (hf : fillL places z vs = some cs) : Slots P C ⟨d, .build t ps.toArray, ty, pos, aft, g⟩ st (.agg cs.toArray) := fun a w h => by
  have h1 := evp_of h hv
  have h2 : (ps.toArray.map fun (i, x) => (i, a.eval x)) = vs.toArray := by
    rw [← h1]; simp
  simp only [execOp, h2, Sem.run_bind]
  rw [run_build w t vs.toArray cs.toArray (by simpa using built_of hp hz hf)]
  rfl

/-! ### The two functions of package bits that have no body -/
def sub64Entry : Array Value → Sem Value := fun args => do
  let (x, y, b) ← Extern.MathBitsCarry.three "Sub64" args
  pure (Extern.MathBitsCarry.pair ((x + Extern.MathBitsCarry.m64 - y - b) % Extern.MathBitsCarry.m64) (if x < y + b then 1 else 0))
theorem run_add64n {P : Program} (x y c : Nat) (hc : c ≤ 1) (w : World) : (add64Entry #[.int .u64 (x : Int), .int .u64 (y : Int), .int .u64 (c : Int)]).run P w =
    .ok (.tuple #[.int .u64 (((x + y + c) % 18446744073709551616 : Nat) : Int), .int .u64 (((x + y + c) / 18446744073709551616 : Nat) : Int)]) w := by
  rw [run_add64 (x : Int) (y : Int) (c : Int) (by omega) (by omega) (by omega) (by omega) w]
  simp
theorem run_sub64n {P : Program} (x y c : Nat) (hc : c ≤ 1) (w : World) : (sub64Entry #[.int .u64 (x : Int), .int .u64 (y : Int), .int .u64 (c : Int)]).run P w =
    .ok (.tuple #[.int .u64 (((x + 18446744073709551616 - y - c) % 18446744073709551616 : Nat) : Int), .int .u64 ((if x < y + c then 1 else 0 : Nat) : Int)]) w := by
  have : c = 0 ∨ c = 1 := by omega
  rcases this with rfl | rfl <;> rfl
def Extern1 (P : Program) (f : FuncId) (e : Array Value → Sem Value) : Prop := ∃ fn, P.funcs[f]? = some fn ∧ (fn.name == "runtime.NumGoroutine") = false ∧ fn.body.isNone = true ∧ Extern.findNext fn = none ∧ Extern.find fn = some e
section
variable {P : Program} {C : Ctx} {d : Option Tmp} {ty : TypeId} {pos : String} {aft : Array Edge} {g : Option (Nat × Bool)} {st : St} {x y z : Operand} {v u : Value} {t s : TypeId}
theorem Det.extern {f : FuncId} {e : Array Value → Sem Value} {xs : List Operand} {vs : List Value} {ats : Array TypeId} (hf : Extern1 P f e) (ha : evL st.T xs = some vs) (hr : ∀ w, (e vs.toArray).run P w = .ok v w) :
    Slots P C ⟨d, .call { callee := .value (.func f), args := xs.toArray, argTypes := ats }, ty, pos, aft, g⟩ st v := fun a w h => by
  obtain ⟨fn, h1, h2, h3, h4, h5⟩ := hf
  have := evs_of h ha
  simp only [execOp, resolve, Act.eval, Deferred.ofValue]
  have h6 : (xs.toArray.map a.eval) = vs.toArray := by simp [this]
  simp [h6, invoke, run_callFunc_extern h1 h2 h3 h4 h5, hr]
theorem Det.add64 {f : FuncId} {ats : Array TypeId} {i j c : Nat} (hf : Extern1 P f add64Entry) (hx : evT st.T x = some (.int .u64 (i : Int))) (hy : evT st.T y = some (.int .u64 (j : Int))) (hz : evT st.T z = some (.int .u64 (c : Int))) (hc : c ≤ 1) :
    Slots P C ⟨d, .call { callee := .value (.func f), args := #[x, y, z], argTypes := ats }, ty, pos, aft, g⟩ st (.tuple #[.int .u64 (((i + j + c) % 18446744073709551616 : Nat) : Int), .int .u64 (((i + j + c) / 18446744073709551616 : Nat) : Int)]) :=
  Det.extern (xs := [x, y, z]) hf (by simp only [evL, hx, hy, hz]) (fun w => run_add64n i j c hc w)
theorem Det.sub64 {f : FuncId} {ats : Array TypeId} {i j c : Nat} (hf : Extern1 P f sub64Entry) (hx : evT st.T x = some (.int .u64 (i : Int))) (hy : evT st.T y = some (.int .u64 (j : Int))) (hz : evT st.T z = some (.int .u64 (c : Int))) (hc : c ≤ 1) :
    Slots P C ⟨d, .call { callee := .value (.func f), args := #[x, y, z], argTypes := ats }, ty, pos, aft, g⟩ st (.tuple #[.int .u64 (((i + 18446744073709551616 - j - c) % 18446744073709551616 : Nat) : Int), .int .u64 ((if i < j + c then 1 else 0 : Nat) : Int)]) :=
  Det.extern (xs := [x, y, z]) hf (by simp only [evL, hx, hy, hz]) (fun w => run_sub64n i j c hc w)
end

/-! ### Rows of words -/
def vec (k : IntKind) (n : Nat) (f : Nat → Nat) : List Value := (List.range n).map fun i => .int k (f i : Int)
theorem vec_length (k : IntKind) (n : Nat) (f : Nat → Nat) : (vec k n f).length = n := by simp [vec]
theorem vec_get (k : IntKind) (n : Nat) (f : Nat → Nat) {i : Nat} (h : i < n) : (vec k n f)[i]? = some (.int k (f i : Int)) := by
  simp [vec, h]
theorem vec_set (k : IntKind) (n : Nat) (f : Nat → Nat) (i x : Nat) : (vec k n f).set i (.int k (x : Int)) = vec k n (fun j => if j = i then x else f j) := by
  apply List.ext_getElem?
  intro j
  simp only [vec, List.getElem?_set, List.getElem?_map, List.length_map, List.length_range]
  by_cases h : i = j
  · subst h
    by_cases hi : i < n
    · simp [hi]
    · simp [hi, List.getElem?_eq_none (show (List.range n).length ≤ i by simp; omega)]
  · have h' : ¬ j = i := fun e => h e.symm
    simp only [h, if_false]
    by_cases hj : j < n
    · simp [hj, h']
    · simp [List.getElem?_eq_none (show (List.range n).length ≤ j by simp; omega)]
theorem vec_congr {k : IntKind} {n : Nat} {f g : Nat → Nat} (h : ∀ i, i < n → f i = g i) : vec k n f = vec k n g := by
  simp only [vec]
  apply List.map_congr_left
  intro i hi
  simp at hi
  rw [h i hi]
theorem vec_one (k : IntKind) (n : Nat) (f : Nat → Nat) : AllOne (vec k n f) := by
  intro c hc
  simp [vec] at hc
  obtain ⟨i, _, rfl⟩ := hc
  rfl
/-- The words of a number. -/
def limb (A i : Nat) : Nat := A / 2 ^ (64 * i) % 18446744073709551616
theorem limb_lt (A i : Nat) : limb A i < 18446744073709551616 := Nat.mod_lt _ (by decide)
/-- A number of nine words. -/
def natL (A : Nat) : List Value := vec .u64 9 (limb A)
def natV (A : Nat) : Value := .agg (natL A).toArray
theorem natL_length (A : Nat) : (natL A).length = 9 := vec_length _ _ _
theorem natL_one (A : Nat) : AllOne (natL A) := vec_one _ _ _
theorem natL_get (A : Nat) {i : Nat} (h : i < 9) : (natL A)[i]? = some (.int .u64 (limb A i : Int)) := vec_get _ _ _ h
/-- Eighteen words. -/
def wideL (A : Nat) : List Value := vec .u64 18 (limb A)
def wideV (A : Nat) : Value := .agg (wideL A).toArray
theorem wideL_length (A : Nat) : (wideL A).length = 18 := vec_length _ _ _
theorem wideL_one (A : Nat) : AllOne (wideL A) := vec_one _ _ _
theorem wideL_get (A : Nat) {i : Nat} (h : i < 18) : (wideL A)[i]? = some (.int .u64 (limb A i : Int)) := vec_get _ _ _ h
/-- Nine words and two numbers behind them. -/
def dv (f : Nat → Nat) (n s : Nat) : List Value := vec .u64 9 f ++ [.int .i64 (n : Int), .int .i64 (s : Int)]
theorem dv_length (f : Nat → Nat) (n s : Nat) : (dv f n s).length = 11 := by simp [dv, vec_length]
theorem dv_m (f : Nat → Nat) (n s : Nat) {i : Nat} (h : i < 9) : (dv f n s)[i]? = some (.int .u64 (f i : Int)) := by
  unfold dv
  rw [List.getElem?_append_left (by rw [vec_length]; exact h)]; exact vec_get _ _ _ h
theorem dv_n (f : Nat → Nat) (n s : Nat) : (dv f n s)[9]? = some (.int .i64 (n : Int)) := by
  unfold dv
  rw [List.getElem?_append_right (by rw [vec_length]; exact Nat.le_refl _), vec_length]; rfl
theorem dv_s (f : Nat → Nat) (n s : Nat) : (dv f n s)[10]? = some (.int .i64 (s : Int)) := by
  unfold dv
  rw [List.getElem?_append_right (by rw [vec_length]; decide), vec_length]; rfl
theorem dv_setm (f : Nat → Nat) (n s x : Nat) {i : Nat} (h : i < 9) : (dv f n s).set i (.int .u64 (x : Int)) = dv (fun j => if j = i then x else f j) n s := by
  unfold dv
  rw [List.set_append_left _ _ (by rw [vec_length]; exact h), vec_set]
theorem dv_sets (f : Nat → Nat) (n s x : Nat) : (dv f n s).set 10 (.int .i64 (x : Int)) = dv f n x := by
  unfold dv
  rw [List.set_append_right _ _ (by rw [vec_length]; decide), vec_length]; rfl
theorem dv_congr {f g : Nat → Nat} {n s : Nat} (h : ∀ i, i < 9 → f i = g i) : dv f n s = dv g n s := by unfold dv; rw [vec_congr h]
/-- A point; a triple. -/
def ptL (X Y : Nat) (b : Bool) : List Value := natL X ++ (natL Y ++ [.bool b])
def ptV (X Y : Nat) (b : Bool) : Value := .agg (ptL X Y b).toArray
def pjL (X Y Z : Nat) : List Value := natL X ++ (natL Y ++ natL Z)
def pjV (X Y Z : Nat) : Value := .agg (pjL X Y Z).toArray
theorem allOne_nil : AllOne [] := fun c h => by cases h
theorem allOne_cons {v : Value} {l : List Value} (h : one v = true) (hl : AllOne l) : AllOne (v :: l) := fun c hc => by
  rcases List.mem_cons.1 hc with rfl | hc
  · exact h
  · exact hl c hc
theorem allOne_append {l m : List Value} (hl : AllOne l) (hm : AllOne m) : AllOne (l ++ m) := fun c hc => by
  rcases List.mem_append.1 hc with hc | hc
  · exact hl c hc
  · exact hm c hc
theorem ptL_one (X Y : Nat) (b : Bool) : AllOne (ptL X Y b) := allOne_append (natL_one _) (allOne_append (natL_one _) (allOne_cons rfl allOne_nil))
theorem pjL_one (X Y Z : Nat) : AllOne (pjL X Y Z) := allOne_append (natL_one _) (allOne_append (natL_one _) (natL_one _))
theorem dv_one (f : Nat → Nat) (n s : Nat) : AllOne (dv f n s) := allOne_append (vec_one _ _ _) (allOne_cons rfl (allOne_cons rfl allOne_nil))
theorem ptL_length (X Y : Nat) (b : Bool) : (ptL X Y b).length = 19 := by simp [ptL, natL_length]
theorem pjL_length (X Y Z : Nat) : (pjL X Y Z).length = 27 := by simp [pjL, natL_length]
attribute [irreducible] LCode LOps LStep LStepW LAny Det Slots Makes Sub
end Go.Proofs.Ytljblbgogjieaaa
