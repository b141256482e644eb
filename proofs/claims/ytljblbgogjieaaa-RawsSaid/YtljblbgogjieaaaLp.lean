/- Allocations that may come up at any time: they are taken note of, and looked at when a thing needs them. -/
import Derived.Test.YtljblbgogjieaaaLx
set_option linter.unusedVariables false
set_option linter.unusedSimpArgs false
namespace Go.Proofs.Ytljblbgogjieaaa
open Go Go.RowKit

structure Pd where
  i : Nat
  d : Nat
  cs : List Value
  t : TypeId
def Pd.blk (p : Pd) (b : Nat) : Item := .blk b ⟨true, p.cs, p.t, (0, 0)⟩
def Pd.ptr (b : Nat) : Value := .pointer (some ⟨b, 0, none⟩)
def PdOK (P : Program) (C : Ctx) (ops : Array Oper) (p : Pd) : Prop :=
  ∃ o, ops[p.i]? = some o ∧ o.dst = some p.d ∧ o.guard = none ∧ o.after = #[] ∧ p.d < C.N ∧ ∀ (a : Act) (w : World), (execOp a.eval o).run P w = .ok (.value (Pd.ptr w.heap.size)) (w.alloc (.cells p.cs.toArray p.t))
def unlz : List (Pd × Option Nat) → Array Bool → Array Bool
  | [], l => l
  | (p, none) :: z, l => (unlz z l).setIfInBounds p.i false
  | (_, some _) :: z, l => unlz z l
def xHz : List (Pd × Option Nat) → List Item
  | [] => []
  | (_, none) :: z => xHz z
  | (p, some b) :: z => p.blk b :: xHz z
def nones : List (Pd × Option Nat) → Nat
  | [] => 0
  | (_, none) :: z => nones z + 1
  | (_, some _) :: z => nones z
theorem unlz_size : ∀ (z : List (Pd × Option Nat)) (l : Array Bool), (unlz z l).size = l.size
  | [], l => rfl
  | (p, none) :: z, l => by simp [unlz, unlz_size z l]
  | (p, some _) :: z, l => by simp [unlz, unlz_size z l]
theorem unlz_none {z : List (Pd × Option Nat)} {l : Array Bool} {p : Pd} (h : (p, none) ∈ z) (hs : p.i < l.size) (d : Bool) : (unlz z l).getD p.i d = false := by
  induction z with
  | nil => cases h
  | cons q z ih =>
    obtain ⟨q, s⟩ := q
    cases s with
    | none =>
      by_cases hq : q.i = p.i
      · simp only [unlz, ← hq]
        have : q.i < (unlz z l).size := by rw [unlz_size]; omega
        simp [Array.getElem?_setIfInBounds, this]
      · have hm : (p, none) ∈ z := by
          rcases List.mem_cons.1 h with h | h
          · injection h with h1 h2; subst h1; exact absurd rfl hq
          · exact h
        have := ih hm
        simp only [unlz]
        simpa [Array.getElem?_setIfInBounds_ne hq] using this
    | some b =>
      have hm : (p, none) ∈ z := by
        rcases List.mem_cons.1 h with h | h
        · cases h
        · exact h
      exact ih hm
theorem unlz_other {z : List (Pd × Option Nat)} {l : Array Bool} {k : Nat} (h : ∀ p, (p, none) ∈ z → p.i ≠ k) (d : Bool) : (unlz z l).getD k d = l.getD k d := by
  induction z with
  | nil => rfl
  | cons q z ih =>
    obtain ⟨q, s⟩ := q
    have ih' := ih (fun p hp => h p (.tail _ hp))
    cases s with
    | none =>
      have hq := h q (.head _)
      simp only [unlz]
      simpa [Array.getElem?_setIfInBounds_ne hq] using ih'
    | some b => exact ih'
theorem unlz_set {z : List (Pd × Option Nat)} {l : Array Bool} {k : Nat} {v : Bool} (h : ∀ p s, (p, s) ∈ z → p.i ≠ k) : (unlz z l).setIfInBounds k v = unlz z (l.setIfInBounds k v) := by
  induction z with
  | nil => rfl
  | cons q z ih =>
    obtain ⟨q, s⟩ := q
    have ih' := ih (fun p s hp => h p s (.tail _ hp))
    cases s with
    | none =>
      have hq := h q _ (.head _)
      simp only [unlz]
      rw [Array.setIfInBounds_comm _ _ hq, ih']
    | some b => exact ih'
theorem set_same {l : Array Bool} {k : Nat} {v : Bool} (h : l.getD k (!v) = v) : l.setIfInBounds k v = l := by
  apply Array.ext_getElem?
  intro j
  by_cases hk : k = j
  · subst hk
    rcases Nat.lt_or_ge k l.size with hlt | hge
    · simp [Array.getElem?_setIfInBounds, hlt] at h ⊢
      exact h.symm
    · simp [Array.getElem?_setIfInBounds, hge]
  · simp [Array.getElem?_setIfInBounds_ne hk]
theorem set_set {l : Array Bool} {k : Nat} {u v : Bool} : (l.setIfInBounds k u).setIfInBounds k v = l.setIfInBounds k v := by
  apply Array.ext_getElem?
  intro j
  by_cases hk : k = j
  · subst hk
    rcases Nat.lt_or_ge k l.size with hlt | hge
    · simp [Array.getElem?_setIfInBounds, hlt]
    · simp [Array.getElem?_setIfInBounds, hge]
  · simp [Array.getElem?_setIfInBounds_ne hk]
structure WF (P : Program) (C : Ctx) (ops : Array Oper) (PL : List Pd) (listed : Array Bool) (T : List (Nat × Value)) : Prop where
  ok : ∀ p, p ∈ PL → PdOK P C ops p
  slot : ∀ p, p ∈ PL → look p.d T = none
  set : ∀ p, p ∈ PL → listed.getD p.i false = true
  apart : PL.Pairwise fun p q => p.i ≠ q.i ∧ p.d ≠ q.d
structure PInv (C : Ctx) (z : List (Pd × Option Nat)) (T : List (Nat × Value)) (H : List Item) (a : Act) (w : World) : Prop where
  rel : Rel C ⟨T, xHz z ++ H⟩ a w
  ex : ∀ p b, (p, some b) ∈ z → a.tmps[p.d]? = some (Pd.ptr b)
theorem Rel.perm {C : Ctx} {T : List (Nat × Value)} {H H' : List Item} {a : Act} {w : World} (h : Rel C ⟨T, H⟩ a w) (hp : H.Perm H') : Rel C ⟨T, H'⟩ a w :=
  ⟨h.size, h.defers, h.tm, fun x hx => h.hp x (hp.mem_iff.2 hx), fun x hx => h.own x (hp.mem_iff.2 hx), (List.Perm.pairwise_iff (fun h => Apart.symm h) hp).1 h.dist, h.fr⟩
theorem Rel.drop {C : Ctx} {T : List (Nat × Value)} {H H' : List Item} {a : Act} {w : World} (h : Rel C ⟨T, H ++ H'⟩ a w) : Rel C ⟨T, H'⟩ a w :=
  ⟨h.size, h.defers, h.tm, fun x hx => h.hp x (List.mem_append.2 (.inr hx)), fun x hx => h.own x (List.mem_append.2 (.inr hx)), (List.pairwise_append.1 h.dist).2.1, h.fr⟩
theorem Rel.slots {C : Ctx} {T T' : List (Nat × Value)} {H : List Item} {a : Act} {w : World} (h : Rel C ⟨T, H⟩ a w) (ht : ∀ k v, look k T' = some v → a.tmps[k]? = some v) : Rel C ⟨T', H⟩ a w :=
  ⟨h.size, h.defers, ht, h.hp, h.own, h.dist, h.fr⟩
theorem put_other {a : Act} {d k : Nat} {v : Value} (h : k ≠ d) : (a.put (some d) v).tmps[k]? = a.tmps[k]? := by
  simp [Act.put, Array.getElem?_setIfInBounds_ne (Ne.symm h)]
theorem put_same {a : Act} {d : Nat} {v : Value} (h : d < a.tmps.size) : (a.put (some d) v).tmps[d]? = some v := by
  simp [Act.put, Array.getElem?_setIfInBounds, h]
/-- The region from here on, with allocations under way: each may have come up or not. -/
def LAnyP (P : Program) (C : Ctx) (ops : Array Oper) (L : List Nat) (fuel : Nat) (listed : Array Bool) (PL : List Pd) (T : List (Nat × Value)) (H : List Item) (Q : Exit → St → Prop) : Prop :=
  WF P C ops PL listed T → ∀ z : List (Pd × Option Nat), z.map Prod.fst = PL → ∀ a w, PInv C z T H a w → wpAnyX P .any ops (RQ C (OnlyN Q)) L (fuel + nones z) (unlz z listed) a w
section
variable {P : Program} {C : Ctx} {ops : Array Oper} {L : List Nat} {fuel : Nat} {listed : Array Bool} {PL : List Pd} {T : List (Nat × Value)} {H : List Item} {Q : Exit → St → Prop}
theorem mem_fst {z : List (Pd × Option Nat)} {p : Pd} {s : Option Nat} (hz : z.map Prod.fst = PL) (h : (p, s) ∈ z) : p ∈ PL := by
  rw [← hz]; exact List.mem_map.2 ⟨_, h, rfl⟩
theorem nones_pos : ∀ {z : List (Pd × Option Nat)} {n : Nat}, nones z = n + 1 → ∃ p, (p, none) ∈ z
  | [], n, h => by simp [nones] at h
  | (p, none) :: z, n, h => ⟨p, .head _⟩
  | (p, some b) :: z, n, h => by
    obtain ⟨q, hq⟩ := nones_pos (z := z) (n := n) h
    exact ⟨q, .tail _ hq⟩
theorem unlz_all : ∀ {z : List (Pd × Option Nat)} {l : Array Bool}, nones z = 0 → unlz z l = l
  | [], l, h => rfl
  | (p, none) :: z, l, h => by simp [nones] at h
  | (p, some b) :: z, l, h => unlz_all (z := z) h
/-- One that is under way comes up. -/
theorem pend_one {z : List (Pd × Option Nat)} {p : Pd} (hz : z.map Prod.fst = PL) (hw : WF P C ops PL listed T) (hp : (p, none) ∈ z) :
    ∃ z' : Nat → List (Pd × Option Nat), (∀ b, (z' b).map Prod.fst = PL ∧ nones (z' b) + 1 = nones z ∧ unlz (z' b) listed = (unlz z listed).setIfInBounds p.i true ∧ (p.blk b :: xHz z).Perm (xHz (z' b)) ∧ (∀ q c, (q, some c) ∈ z' b → (q, some c) ∈ z ∨ (q = p ∧ c = b))) := by
  induction z generalizing PL with
  | nil => cases hp
  | cons q z ih =>
    obtain ⟨q, s⟩ := q
    simp only [List.map_cons] at hz
    subst hz
    obtain ⟨h1, h2⟩ := List.pairwise_cons.1 hw.apart
    have hw' : WF P C ops (z.map Prod.fst) listed T := ⟨fun p hp => hw.ok p (.tail _ hp), fun p hp => hw.slot p (.tail _ hp), fun p hp => hw.set p (.tail _ hp), h2⟩
    rcases List.mem_cons.1 hp with h | h
    · injection h with h3 h4
      subst h3; subst h4
      refine ⟨fun b => (p, some b) :: z, fun b => ⟨rfl, rfl, ?_, List.Perm.refl _, ?_⟩⟩
      · simp only [unlz]
        rw [set_set, unlz_set (fun q s hq => (Ne.symm (h1 q (List.mem_map.2 ⟨_, hq, rfl⟩)).1))]
        congr 1
        refine (set_same ?_).symm
        have := hw.set p (.head _)
        simpa using this
      · intro q c hq
        rcases List.mem_cons.1 hq with hq | hq
        · injection hq with h5 h6; injection h6 with h6; exact .inr ⟨h5, h6⟩
        · exact .inl (.tail _ hq)
    · obtain ⟨z', hz'⟩ := ih rfl hw' h
      refine ⟨fun b => (q, s) :: z' b, fun b => ?_⟩
      obtain ⟨k1, k2, k3, k4, k5⟩ := hz' b
      have hne : q.i ≠ p.i := (h1 p (List.mem_map.2 ⟨_, h, rfl⟩)).1
      refine ⟨by simp [k1], ?_, ?_, ?_, ?_⟩
      · cases s <;> simp only [nones] <;> omega
      · cases s with
        | none => simp only [unlz]; rw [k3, Array.setIfInBounds_comm _ _ hne]
        | some c => simp only [unlz]; exact k3
      · cases s with
        | none => exact k4
        | some c => exact (List.Perm.swap _ _ _).trans (List.Perm.cons _ k4)
      · intro r c hr
        rcases List.mem_cons.1 hr with hr | hr
        · rw [hr]; exact .inl (.head _)
        · rcases k5 r c hr with h | h
          · exact .inl (.tail _ h)
          · exact .inr h
theorem pend_step {z : List (Pd × Option Nat)} {p : Pd} {a : Act} {w : World} {n : Nat} (hz : z.map Prod.fst = PL) (hw : WF P C ops PL listed T) (hp : (p, none) ∈ z) (hi : PInv C z T H a w)
    (h : ∀ z', z'.map Prod.fst = PL → nones z' + 1 = nones z → ∀ a w, PInv C z' T H a w → wpAnyX P .any ops (RQ C (OnlyN Q)) L n (unlz z' listed) a w) :
    wpOp P ops (RQ C (OnlyN Q)) p.i (fun a' w' => (L.contains p.i = true ∨ Below w.heap.size w w') ∧ wpAnyX P .any ops (RQ C (OnlyN Q)) L n ((unlz z listed).setIfInBounds p.i true) a' w') a w := by
  obtain ⟨o, h1, h2, h3, h4, h5, h6⟩ := hw.ok p (mem_fst hz hp)
  obtain ⟨z', hz'⟩ := pend_one hz hw hp
  unfold wpOp
  simp only [h1, wanted_none h3, if_true]
  refine .inl ?_
  unfold Oper.wp
  rw [h6 a w]
  refine ⟨.inr ((Below.refl _ _).alloc (Nat.le_refl _) _), ?_⟩
  obtain ⟨k1, k2, k3, k4, k5⟩ := hz' w.heap.size
  rw [← k3]
  refine h _ k1 k2 _ _ ?_
  rw [h2]
  have hr := (hi.rel.alloc p.cs p.t).put h5 (Pd.ptr w.heap.size)
  have hdt := hw.slot p (mem_fst hz hp)
  refine ⟨?_, ?_⟩
  · have hr2 : Rel C ⟨T, p.blk w.heap.size :: (xHz z ++ H)⟩ (a.put (some p.d) (Pd.ptr w.heap.size)) (w.alloc (.cells p.cs.toArray p.t)) := by
      refine Rel.slots hr (fun k v hk => ?_)
      have hkd : k ≠ p.d := by rintro rfl; rw [hdt] at hk; cases hk
      rw [put_other hkd]
      exact hi.rel.tm k v hk
    exact hr2.perm (by rw [← List.cons_append]; exact List.Perm.append_right H k4)
  · intro q c hq
    rcases k5 q c hq with hq' | ⟨rfl, rfl⟩
    · have hqd : q.d ≠ p.d := by
        intro e
        have hqP := mem_fst hz hq'
        have hpP := mem_fst hz hp
        have key : ∀ l : List Pd, (l.Pairwise fun p q => p.i ≠ q.i ∧ p.d ≠ q.d) → q ∈ l → p ∈ l → q = p := by
          intro l
          induction l with
          | nil => intro _ h; cases h
          | cons x l ih =>
            intro hl hql hpl
            obtain ⟨g1, g2⟩ := List.pairwise_cons.1 hl
            rcases List.mem_cons.1 hql with e1 | hql1 <;> rcases List.mem_cons.1 hpl with e2 | hpl1
            · rw [e1, e2]
            · subst e1; exact absurd e (g1 p hpl1).2
            · subst e2; exact absurd e.symm (g1 q hql1).2
            · exact ih g2 hql1 hpl1
        have hqp := key PL hw.apart hqP hpP
        subst hqp
        -- the same one both ways: its number stands twice
        have hnd : ∀ z : List (Pd × Option Nat), ((z.map Prod.fst).Pairwise fun p q => p.i ≠ q.i ∧ p.d ≠ q.d) → (q, some c) ∈ z → (q, none) ∈ z → False := by
          intro z
          induction z with
          | nil => intro _ h; cases h
          | cons x z ih =>
            intro hl h1 h2
            obtain ⟨g1, g2⟩ := List.pairwise_cons.1 hl
            rcases List.mem_cons.1 h1 with e1 | h1' <;> rcases List.mem_cons.1 h2 with e2 | h2'
            · rw [← e1] at e2; cases e2
            · subst e1; exact (g1 q (List.mem_map.2 ⟨(q, none), h2', rfl⟩)).1 rfl
            · subst e2; exact (g1 q (List.mem_map.2 ⟨(q, some c), h1', rfl⟩)).1 rfl
            · exact ih g2 h1' h2'
        exact hnd z (by rw [hz]; exact hw.apart) hq' hp
      rw [put_other hqd]
      exact hi.ex q c hq'
    · exact put_same (by rw [hi.rel.size]; exact h5)
theorem pend_ready {z : List (Pd × Option Nat)} {p : Pd} (hz : z.map Prod.fst = PL) (hw : WF P C ops PL listed T) (hp : (p, none) ∈ z) : p.i ∈ Region.ready .any ops (unlz z listed) := by
  obtain ⟨o, h1, h2, h3, h4, h5, h6⟩ := hw.ok p (mem_fst hz hp)
  refine mem_ready.2 ⟨unlz_none hp ?_ _, o, h1, fun e he => by rw [h4] at he; simp at he⟩
  have := hw.set p (mem_fst hz hp)
  rcases Nat.lt_or_ge p.i listed.size with h | h
  · exact h
  · simp [Array.getElem?_eq_none h] at this
/-- What may come up is under way, or is ready with all that is under way come up. -/
theorem ready_cases {z : List (Pd × Option Nat)} {i : Nat} (h : i ∈ Region.ready .any ops (unlz z listed)) : (∃ p, (p, none) ∈ z ∧ p.i = i) ∨ i ∈ Region.ready .any ops listed := by
  by_cases hu : ∃ p, (p, none) ∈ z ∧ p.i = i
  · exact .inl hu
  · right
    obtain ⟨h1, o, h2, h3⟩ := mem_ready.1 h
    have hi : ∀ p, (p, none) ∈ z → p.i ≠ i := fun p hp e => hu ⟨p, hp, e⟩
    refine mem_ready.2 ⟨by rwa [unlz_other hi] at h1, o, h2, fun e he hb => ?_⟩
    have h4 := h3 e he hb
    by_cases hk : ∃ p, (p, none) ∈ z ∧ p.i = e.on
    · obtain ⟨p, hp, hpe⟩ := hk
      rcases Nat.lt_or_ge e.on listed.size with hlt | hge
      · have := unlz_none (l := listed) hp (by omega) false
        rw [hpe, h4] at this; cases this
      · rw [show (unlz z listed).getD e.on false = false by simp [Array.getElem?_eq_none (show (unlz z listed).size ≤ e.on by rw [unlz_size]; exact hge)]] at h4; cases h4
    · rwa [unlz_other (fun p hp e' => hk ⟨p, hp, e'⟩)] at h4
theorem LAny.toP (h : LAnyP P C ops L fuel listed [] T H Q) : LAny P C ops L fuel listed ⟨T, H⟩ Q := by
  unfold LAny
  intro a w hr
  exact h ⟨by simp, by simp, by simp, .nil⟩ [] rfl a w ⟨hr, by simp⟩
theorem LAnyP.toAny (h : LAny P C ops L fuel listed ⟨T, H⟩ Q) : LAnyP P C ops L fuel listed [] T H Q := by
  intro _ z hz a w hi
  obtain rfl : z = [] := by simpa using hz
  unfold LAny at h
  exact h a w hi.rel
/-- An allocation is taken note of. -/
theorem LAnyP.start {l : List Oper} {cs : List Value} {t : TypeId} {d : Nat} {ty : TypeId} {pos : String} (i : Nat) (hi : nth l i = some ⟨some d, .alloc t, ty, pos, #[], none⟩) (hz : zrOf P t = some (.agg cs.toArray) ∨ ∃ v, zrOf P t = some v ∧ one v = true ∧ cs = [v]) (hd : d < C.N) (hl : listed.getD i true = false)
    (hT : look d T = none) (hP : PL.all (fun q => !Nat.beq q.d d) = true)
    (h : LAnyP P C l.toArray L fuel (listed.setIfInBounds i true) (⟨i, d, cs, t⟩ :: PL) T H Q) : LAnyP P C l.toArray L (fuel + 1) listed PL T H Q := by
  intro hw z hzz a w hinv
  have hlt : i < listed.size := by
    rcases Nat.lt_or_ge i listed.size with h | h
    · exact h
    · simp [Array.getElem?_eq_none h] at hl
  have hl2 : listed.getD i false = false := by
    simp [hlt] at hl ⊢; exact hl
  have hne : ∀ q, q ∈ PL → q.i ≠ i := fun q hq e => by have := hw.set q hq; rw [e, hl2] at this; cases this
  have hrun : ∀ (a : Act) (w : World), (execOp a.eval ⟨some d, .alloc t, ty, pos, #[], none⟩).run P w = .ok (.value (Pd.ptr w.heap.size)) (w.alloc (.cells cs.toArray t)) := by
    intro a w
    rcases hz with hz | ⟨v, hz, h1, rfl⟩
    · have hc : (Value.agg cs.toArray).cells = cs.toArray := rfl
      simp [execOp, Instr.alloc, run_zeroValue hz, newVar, newRow, newObj, Sem.run, hc, Pd.ptr]
    · simp [execOp, Instr.alloc, run_zeroValue hz, newVar, newRow, newObj, Sem.run, one_cells h1, Pd.ptr]
  have hw2 : WF P C l.toArray (⟨i, d, cs, t⟩ :: PL) (listed.setIfInBounds i true) T := by
    refine ⟨?_, ?_, ?_, ?_⟩
    · intro p hp
      rcases List.mem_cons.1 hp with rfl | hp
      · exact ⟨_, (nth_eq l i).trans hi, rfl, rfl, rfl, hd, hrun⟩
      · exact hw.ok p hp
    · intro p hp
      rcases List.mem_cons.1 hp with rfl | hp
      · exact hT
      · exact hw.slot p hp
    · intro p hp
      rcases List.mem_cons.1 hp with rfl | hp
      · simp [Array.getElem?_setIfInBounds, hlt]
      · exact getD_set_true (hw.set p hp)
    · refine List.pairwise_cons.2 ⟨fun q hq => ⟨(hne q hq).symm, fun e => ?_⟩, hw.apart⟩
      have := List.all_eq_true.1 hP q hq
      have e' : q.d = d := e.symm
      rw [e', Nat.beq_refl] at this
      cases this
  have := h hw2 ((⟨i, d, cs, t⟩, none) :: z) (by simp [hzz]) a w ⟨hinv.rel, fun p b hp => by
    rcases List.mem_cons.1 hp with hp | hp
    · cases hp
    · exact hinv.ex p b hp⟩
  simp only [unlz, nones] at this
  rw [show fuel + 1 + nones z = fuel + (nones z + 1) by omega]
  have e : (unlz z (listed.setIfInBounds i true)).setIfInBounds i false = unlz z listed := by
    rw [← unlz_set (fun p s hp => hne p (mem_fst hzz hp)), set_set]
    refine set_same ?_
    rw [unlz_other (fun p hp => hne p (mem_fst hzz hp))]
    exact hl
  rwa [e] at this
/-- One that is under way is looked at: all that may come up waits for it. -/
theorem LAnyP.mat {p : Pd} (hr : Region.ready .any ops (listed.setIfInBounds p.i false) = [p.i])
    (h : ∀ b, LAnyP P C ops L fuel listed PL ((p.d, Pd.ptr b) :: T) (p.blk b :: H) Q) : LAnyP P C ops L fuel listed (p :: PL) T H Q := by
  intro hw z hz
  generalize hn : nones z = n
  induction n generalizing z with
  | zero =>
    intro a w hi
    obtain ⟨⟨q, s⟩, z, rfl⟩ : ∃ q z', z = q :: z' := by cases z with
      | nil => simp at hz
      | cons q z => exact ⟨q, z, rfl⟩
    have hzp : q = p := by simp at hz; exact hz.1
    subst hzp
    have hz1 : z.map Prod.fst = PL := by simp at hz; exact hz
    cases s with
    | none => simp [nones] at hn
    | some b =>
      obtain ⟨g1, g2⟩ := List.pairwise_cons.1 hw.apart
      have := h b ⟨fun q hq => hw.ok q (.tail _ hq), fun r hr => ?_, fun q hq => hw.set q (.tail _ hq), g2⟩ z hz1 a w ⟨?_, fun r c hr => hi.ex r c (.tail _ hr)⟩
      · simp only [nones] at hn
        rw [hn] at this
        exact this
      · simp only [look]
        have hne := (g1 r hr).2
        cases hb : Nat.beq q.d r.d with
        | true => exact absurd (Nat.eq_of_beq_eq_true hb) hne
        | false => exact hw.slot r (.tail _ hr)
      · have hrel : Rel C ⟨T, xHz z ++ (q.blk b :: H)⟩ a w := hi.rel.perm (by simp only [xHz]; exact (List.perm_middle).symm)
        refine Rel.slots hrel (fun k v hk => ?_)
        simp only [look] at hk
        cases hb : Nat.beq q.d k with
        | true =>
          have := Nat.eq_of_beq_eq_true hb
          subst this
          rw [hb] at hk
          simp at hk
          subst hk
          exact hi.ex q b (.head _)
        | false => rw [hb] at hk; exact hi.rel.tm k v hk
  | succ n ih =>
    intro a w hi
    obtain ⟨⟨q, s⟩, z1, rfl⟩ : ∃ q z', z = q :: z' := by cases z with
      | nil => simp at hz
      | cons q z => exact ⟨q, z, rfl⟩
    cases s with
    | some b =>
      have hzp : q = p := by simp at hz; exact hz.1
      subst hzp
      have hz1 : z1.map Prod.fst = PL := by simp at hz; exact hz
      obtain ⟨g1, g2⟩ := List.pairwise_cons.1 hw.apart
      have := h b ⟨fun q hq => hw.ok q (.tail _ hq), fun r hr => ?_, fun q hq => hw.set q (.tail _ hq), g2⟩ z1 hz1 a w ⟨?_, fun r c hr => hi.ex r c (.tail _ hr)⟩
      · simp only [nones] at hn
        rw [hn] at this
        exact this
      · simp only [look]
        have hne := (g1 r hr).2
        cases hb : Nat.beq q.d r.d with
        | true => exact absurd (Nat.eq_of_beq_eq_true hb) hne
        | false => exact hw.slot r (.tail _ hr)
      · have hrel : Rel C ⟨T, xHz z1 ++ (q.blk b :: H)⟩ a w := hi.rel.perm (by simp only [xHz]; exact (List.perm_middle).symm)
        refine Rel.slots hrel (fun k v hk => ?_)
        simp only [look] at hk
        cases hb : Nat.beq q.d k with
        | true =>
          have := Nat.eq_of_beq_eq_true hb
          subst this
          rw [hb] at hk
          simp at hk
          subst hk
          exact hi.ex q b (.head _)
        | false => rw [hb] at hk; exact hi.rel.tm k v hk
    | none =>
      have hzp : q = p := by simp at hz; exact hz.1
      subst hzp
      refine ⟨fun h0 => ?_, fun i hmem => ?_⟩
      · have := pend_ready hz hw (.head _)
        rw [h0] at this; cases this
      · have hq : ∃ r, (r, none) ∈ (q, none) :: z1 ∧ r.i = i := by
          rcases Classical.em (∃ r, (r, none) ∈ (q, none) :: z1 ∧ r.i = i) with hq | hq
          · exact hq
          · exfalso
            obtain ⟨g1, o, g2, g3⟩ := mem_ready.1 hmem
            have hi' : ∀ r, (r, none) ∈ (q, none) :: z1 → r.i ≠ i := fun r hr e => hq ⟨r, hr, e⟩
            have hqi : q.i ≠ i := hi' q (.head _)
            have : i ∈ Region.ready .any ops (listed.setIfInBounds q.i false) := by
              refine mem_ready.2 ⟨?_, o, g2, fun e he hb => ?_⟩
              · rw [unlz_other hi'] at g1
                simpa [Array.getElem?_setIfInBounds_ne hqi] using g1
              · have g4 := g3 e he hb
                by_cases hk : ∃ r, (r, none) ∈ (q, none) :: z1 ∧ r.i = e.on
                · obtain ⟨r, hr', hre⟩ := hk
                  rcases Nat.lt_or_ge e.on listed.size with hlt | hge
                  · have := unlz_none (l := listed) hr' (by omega) false
                    rw [hre, g4] at this; cases this
                  · rw [show (unlz ((q, none) :: z1) listed).getD e.on false = false by simp [Array.getElem?_eq_none (show (unlz ((q, none) :: z1) listed).size ≤ e.on by rw [unlz_size]; exact hge)]] at g4; cases g4
                · have hqe : q.i ≠ e.on := fun e' => hk ⟨q, .head _, e'⟩
                  rw [unlz_other (fun r hr' e' => hk ⟨r, hr', e'⟩)] at g4
                  simpa [Array.getElem?_setIfInBounds_ne hqe] using g4
            rw [hr] at this
            simp at this
            exact hqi this.symm
        obtain ⟨r, hr', rfl⟩ := hq
        exact pend_step hz hw hr' hi (fun z' hz' hn' a' w' hi' => ih z' hz' (by omega) a' w' hi')
/-- An operation that yields a value and brings what it brings. -/
def LExt (P : Program) (C : Ctx) (o : Oper) (T : List (Nat × Value)) (H : List Item) (F : Value → List Item → Prop) : Prop :=
  ∀ a w, Rel C ⟨T, H⟩ a w → ∀ Qr, o.wp P a w (fun a' w' => ∃ v its, F v its ∧ a' = a.put o.dst v ∧ Brings w H its w') Qr
theorem Brings.more {w w' : World} {H H' its : List Item} (h : Brings w H its w') (hs : ∀ x, x ∈ H → x ∈ H') : Brings w H' its w' :=
  ⟨h.below, h.hp, fun x hx k hk => (h.new x hx k hk).imp id fun ⟨y, hy, h1, h2⟩ => ⟨y, hs y hy, h1, h2⟩, h.wr, h.dist⟩
theorem LAnyP.step {l : List Oper} {o : Oper} {d : Nat} {F : Value → List Item → Prop} (j : Nat) (hj : nth l j = some o) (hg : o.guard = none) (hd : o.dst = some d) (hdN : d < C.N) (hr : Region.ready .any l.toArray listed = [j]) (hP : PL.all (fun q => !Nat.beq q.d d) = true)
    (hx : LExt P C o T H F) (h : ∀ v its, F v its → LAnyP P C l.toArray L fuel (listed.setIfInBounds j true) PL ((d, v) :: T) (its ++ H) Q) : LAnyP P C l.toArray L (fuel + 1) listed PL T H Q := by
  intro hw z hz
  have hjl : listed.getD j true = false := by
    have : j ∈ Region.ready .any l.toArray listed := by rw [hr]; exact .head _
    exact (mem_ready.1 this).1
  have hlt : j < listed.size := by
    rcases Nat.lt_or_ge j listed.size with h | h
    · exact h
    · simp [Array.getElem?_eq_none h] at hjl
  have hjP : ∀ q, q ∈ PL → q.i ≠ j := fun q hq e => by
    have := hw.set q hq
    simp [e, hlt] at this hjl
    rw [this] at hjl; cases hjl
  have hdP : ∀ q, q ∈ PL → q.d ≠ d := fun q hq e => by
    have := List.all_eq_true.1 hP q hq
    rw [e, Nat.beq_refl] at this
    cases this
  generalize hn : nones z = n
  induction n generalizing z with
  | zero =>
    intro a w hi
    rw [unlz_all hn]
    refine ⟨fun h0 => (by rw [hr] at h0; cases h0), fun i hmem => ?_⟩
    rw [hr] at hmem
    obtain rfl : i = j := by simpa using hmem
    unfold wpOp
    simp only [nth_eq, hj, wanted_none hg, if_true]
    refine .inl (Oper.wp_mono ?_ (hx a w hi.rel.drop _))
    rintro a' w' ⟨v, its, hF, rfl, hb⟩
    refine ⟨.inr hb.below, ?_⟩
    have hw2 : WF P C l.toArray PL (listed.setIfInBounds i true) ((d, v) :: T) := ⟨hw.ok, fun q hq => by
      simp only [look]
      cases hbq : Nat.beq d q.d with
      | true => exact absurd (Nat.eq_of_beq_eq_true hbq).symm (hdP q hq)
      | false => exact hw.slot q hq, fun q hq => getD_set_true (hw.set q hq), hw.apart⟩
    have := h v its hF hw2 z hz (a.put o.dst v) w' ⟨?_, fun q c hq => ?_⟩
    · rw [unlz_all hn, hn] at this
      exact this
    · rw [hd]
      have h2 := (hi.rel.brings (hb.more (fun x hx => List.mem_append.2 (.inr hx)))).put hdN v
      exact h2.perm (by rw [← List.append_assoc, ← List.append_assoc]; exact List.Perm.append_right H List.perm_append_comm)
    · rw [hd, put_other (hdP q (mem_fst hz hq))]
      exact hi.ex q c hq
  | succ n ih =>
    intro a w hi
    obtain ⟨p0, hp0⟩ := nones_pos hn
    refine ⟨fun h0 => ?_, fun i hmem => ?_⟩
    · have := pend_ready hz hw hp0
      rw [h0] at this; cases this
    · rcases ready_cases hmem with ⟨p, hp, rfl⟩ | hmem2
      · exact pend_step hz hw hp hi (fun z' hz' hn' a' w' hi' => by
          have := ih z' hz' (by omega) a' w' hi'
          rwa [show fuel + 1 + n = fuel + 1 + n from rfl] at this)
      · rw [hr] at hmem2
        obtain rfl : i = j := by simpa using hmem2
        unfold wpOp
        simp only [nth_eq, hj, wanted_none hg, if_true]
        refine .inl (Oper.wp_mono ?_ (hx a w hi.rel.drop _))
        rintro a' w' ⟨v, its, hF, rfl, hb⟩
        refine ⟨.inr hb.below, ?_⟩
        have hw2 : WF P C l.toArray PL (listed.setIfInBounds i true) ((d, v) :: T) := ⟨hw.ok, fun q hq => by
          simp only [look]
          cases hbq : Nat.beq d q.d with
          | true => exact absurd (Nat.eq_of_beq_eq_true hbq).symm (hdP q hq)
          | false => exact hw.slot q hq, fun q hq => getD_set_true (hw.set q hq), hw.apart⟩
        have := h v its hF hw2 z hz (a.put o.dst v) w' ⟨?_, fun q c hq => ?_⟩
        · rw [hn] at this
          rw [unlz_set (fun p s hp => hjP p (mem_fst hz hp))]
          rw [show fuel + (n + 1) = fuel + 1 + n by omega] at this
          exact this
        · rw [hd]
          have h2 := (hi.rel.brings (hb.more (fun x hx => List.mem_append.2 (.inr hx)))).put hdN v
          exact h2.perm (by rw [← List.append_assoc, ← List.append_assoc]; exact List.Perm.append_right H List.perm_append_comm)
        · rw [hd, put_other (hdP q (mem_fst hz hq))]
          exact hi.ex q c hq
theorem unlz_mono1 {z z' : List (Pd × Option Nat)} {j : Nat} (hs : ∀ p, p ∈ PL → p.i < listed.size) (hz : z.map Prod.fst = PL) (hz' : z' = PL.map fun p => (p, none)) (h : (unlz z listed).getD j true = false) : (unlz z' listed).getD j true = false := by
  by_cases hu : ∃ p, p ∈ PL ∧ p.i = j
  · obtain ⟨p, hp, rfl⟩ := hu
    exact unlz_none (by rw [hz']; exact List.mem_map.2 ⟨p, hp, rfl⟩) (hs p hp) true
  · rw [unlz_other (fun p hp e => hu ⟨p, mem_fst hz hp, e⟩)] at h
    rw [unlz_other (fun p hp e => hu ⟨p, by rw [hz'] at hp; obtain ⟨q, hq, he⟩ := List.mem_map.1 hp; injection he with h1 h2; rwa [← h1], e⟩)]
    exact h
theorem unlz_mono2 {z z' : List (Pd × Option Nat)} {j : Nat} (hs : ∀ p, p ∈ PL → p.i < listed.size) (hz : z.map Prod.fst = PL) (hz' : z' = PL.map fun p => (p, none)) (h : (unlz z' listed).getD j false = true) : (unlz z listed).getD j false = true := by
  by_cases hu : ∃ p, p ∈ PL ∧ p.i = j
  · obtain ⟨p, hp, rfl⟩ := hu
    rw [unlz_none (by rw [hz']; exact List.mem_map.2 ⟨p, hp, rfl⟩) (hs p hp) false] at h
    cases h
  · rw [unlz_other (fun p hp e => hu ⟨p, by rw [hz'] at hp; obtain ⟨q, hq, he⟩ := List.mem_map.1 hp; injection he with h1 h2; rwa [← h1], e⟩)] at h
    rw [unlz_other (fun p hp e => hu ⟨p, mem_fst hz hp, e⟩)]
    exact h
theorem WF.lt (hw : WF P C ops PL listed T) : ∀ p, p ∈ PL → p.i < listed.size := fun p hp => by
  have := hw.set p hp
  rcases Nat.lt_or_ge p.i listed.size with h | h
  · exact h
  · simp [Array.getElem?_eq_none h] at this
/-- The first that is taken, with things under way. -/
theorem LAnyP.first {l : List Oper} {d : Nat} {op : Op} {ty : TypeId} {pos : String} {aft : Array Edge} {v : Value} {pr : Bool} (i : Nat) (hi : nth l i = some ⟨some d, op, ty, pos, aft, none⟩) (hf : takeOK l L pr (unlz (PL.map fun p => (p, none)) listed) i = true) (hd : d < C.N) (hP : PL.all (fun q => !Nat.beq q.d d) = true)
    (hy : ∀ a w w', Rel C ⟨T, H⟩ a w → Sx pr w w' → (execOp a.eval ⟨some d, op, ty, pos, aft, none⟩).run P w' = .ok (.value v) w')
    (h : LAnyP P C l.toArray L fuel (listed.setIfInBounds i true) PL ((d, v) :: T) H Q) : LAnyP P C l.toArray L (fuel + 1) listed PL T H Q := by
  intro hw z hz a w hinv
  have hs := hw.lt
  simp only [takeOK, Bool.and_eq_true] at hf
  have hi' := (nth_eq l i).trans hi
  obtain ⟨h1, h2, h3⟩ := freeX_spec hi' hf.2
  have hdP : ∀ q, q ∈ PL → q.d ≠ d := fun q hq e => by
    have := List.all_eq_true.1 hP q hq
    rw [e, Nat.beq_refl] at this
    cases this
  obtain ⟨g1, o, g2, g3⟩ := mem_ready.1 h2
  have hiP : ∀ q, q ∈ PL → q.i ≠ i := fun q hq e => by
    obtain ⟨o', k1, k2, k3, k4, k5, k6⟩ := hw.ok q hq
    rw [e, hi'] at k1
    injection k1 with k1
    subst k1
    -- its slot is its own
    simp only at k2
    injection k2 with k2
    exact hdP q hq k2.symm
  have hil : (unlz z listed).getD i true = false := by
    rw [unlz_other (fun p hp => hiP p (mem_fst hz hp))]
    rwa [unlz_other (fun p hp => hiP p (by obtain ⟨q, hq, he⟩ := List.mem_map.1 hp; injection he with h1 h2; rwa [← h1]))] at g1
  have hready : i ∈ Region.ready .any l.toArray (unlz z listed) := mem_ready.2 ⟨hil, o, g2, fun e he hb => unlz_mono2 hs hz rfl (g3 e he hb)⟩
  have hw2 : WF P C l.toArray PL (listed.setIfInBounds i true) ((d, v) :: T) := ⟨hw.ok, fun q hq => by
    simp only [look]
    cases hbq : Nat.beq d q.d with
    | true => exact absurd (Nat.eq_of_beq_eq_true hbq).symm (hdP q hq)
    | false => exact hw.slot q hq, fun q hq => getD_set_true (hw.set q hq), hw.apart⟩
  rw [show fuel + 1 + nones z = (fuel + nones z) + 1 by omega]
  refine wpAnyX_first (pr := pr) hi' h1 (Region.noSelect_spec hf.1) not_panic (fuel + nones z) (unlz z listed) a w (fun j oj k1 k2 k3 k4 => h3 j oj k1 k2 (unlz_mono1 hs hz rfl k3) k4) hready (.inl ⟨by simp [Region.wanted], fun w' hw' => hy a w w' hinv.rel.drop hw'⟩) ?_
  rw [unlz_set (fun p s hp => hiP p (mem_fst hz hp))]
  refine h hw2 z hz _ w ⟨hinv.rel.put hd v, fun q c hq => ?_⟩
  rw [put_other (hdP q (mem_fst hz hq))]
  exact hinv.ex q c hq
theorem LAnyP.takeP {l : List Oper} {d : Nat} {op : Op} {ty : TypeId} {pos : String} {aft : Array Edge} {v : Value} (i : Nat) (hi : nth l i = some ⟨some d, op, ty, pos, aft, none⟩) (hf : takeOK l L true (unlz (PL.map fun p => (p, none)) listed) i = true) (hd : d < C.N) (hP : PL.all (fun q => !Nat.beq q.d d) = true)
    (hy : Slots P C ⟨some d, op, ty, pos, aft, none⟩ ⟨T, H⟩ v) (h : LAnyP P C l.toArray L fuel (listed.setIfInBounds i true) PL ((d, v) :: T) H Q) : LAnyP P C l.toArray L (fuel + 1) listed PL T H Q := by
  unfold Slots at hy
  exact LAnyP.first (pr := true) i hi hf hd hP (fun a w w' hr _ => hy a w' (fun x u hx => hr.ev hx)) h
theorem LAnyP.take {l : List Oper} {d : Nat} {op : Op} {ty : TypeId} {pos : String} {aft : Array Edge} {v : Value} (i : Nat) (hi : nth l i = some ⟨some d, op, ty, pos, aft, none⟩) (hf : takeOK l L false (unlz (PL.map fun p => (p, none)) listed) i = true) (hd : d < C.N) (hP : PL.all (fun q => !Nat.beq q.d d) = true)
    (hy : Det P C ⟨some d, op, ty, pos, aft, none⟩ ⟨T, H⟩ v) (h : LAnyP P C l.toArray L fuel (listed.setIfInBounds i true) PL ((d, v) :: T) H Q) : LAnyP P C l.toArray L (fuel + 1) listed PL T H Q := by
  unfold Det at hy
  exact LAnyP.first (pr := false) i hi hf hd hP (fun a w w' hr hs => hy a w' (hr.sx hs)) h
end
section
variable {P : Program} {C : Ctx} {ty : TypeId} {pos : String} {aft : Array Edge} {d : Nat} {x : Operand} {v : Value} {T : List (Nat × Value)} {H : List Item}
theorem LExt.call {f : FuncId} {xs : List Operand} {vs first : List Value} {ats : Array TypeId} {Post : Value → List Item → Prop} {g : Option (Nat × Bool)} (hf : evT T x = some (.func (.func f) first.toArray #[])) (he : Enters P f) (ha : evL T xs = some vs)
    (hc : ∀ w, (∀ x, x ∈ H → x.holds w) → Calls P f (first ++ vs).toArray w (fun e w' => ∃ v its, Post v its ∧ e = .returned v ∧ Brings w H its w')) :
    LExt P C ⟨some d, .call { callee := .value x, args := xs.toArray, argTypes := ats }, ty, pos, aft, g⟩ T H Post := by
  intro a w hr Qr
  obtain ⟨fn, h1, h2, h3⟩ := he
  refine wp_callee (vs := first ++ vs) ?_ (hc w hr.hp) ?_
  · have := hr.evs ha
    simp [execOp, resolve, hr.ev hf, Deferred.ofValue, invoke, run_call h1 h2 h3, this]
  · rintro e w' ⟨v, its, hp, rfl, hb⟩
    exact ⟨v, rfl, v, its, hp, rfl, hb⟩
theorem LExt.callF {f : FuncId} {xs : List Operand} {vs first : List Value} {ats : Array TypeId} {g : Option (Nat × Bool)} (hf : evT T x = some (.func (.func f) first.toArray #[])) (he : Enters P f) (ha : evL T xs = some vs)
    (hc : ∀ w, (∀ x, x ∈ H → x.holds w) → Calls P f (first ++ vs).toArray w (fun e w' => e = .returned v ∧ Below w.heap.size w w')) :
    LExt P C ⟨some d, .call { callee := .value x, args := xs.toArray, argTypes := ats }, ty, pos, aft, g⟩ T H (fun u its => u = v ∧ its = []) :=
  LExt.call hf he ha (fun w hw => (hc w hw).mono fun e w' ⟨h1, h2⟩ => ⟨v, [], ⟨rfl, rfl⟩, h1, Brings.none h2⟩)
theorem LExt.callV {f : FuncId} {xs : List Operand} {vs first : List Value} {ats : Array TypeId} {Post : Value → Prop} {g : Option (Nat × Bool)} (hf : evT T x = some (.func (.func f) first.toArray #[])) (he : Enters P f) (ha : evL T xs = some vs)
    (hc : ∀ w, (∀ x, x ∈ H → x.holds w) → Calls P f (first ++ vs).toArray w (fun e w' => ∃ v, Post v ∧ e = .returned v ∧ Below w.heap.size w w')) :
    LExt P C ⟨some d, .call { callee := .value x, args := xs.toArray, argTypes := ats }, ty, pos, aft, g⟩ T H (fun u its => Post u ∧ its = []) :=
  LExt.call hf he ha (fun w hw => (hc w hw).mono fun e w' ⟨v, h0, h1, h2⟩ => ⟨v, [], ⟨h0, rfl⟩, h1, Brings.none h2⟩)
theorem LExt.makes {op : Op} {cs : List Value} {e : TypeId} {v : Nat → Value} {g : Option (Nat × Bool)} (hy : Makes P C ⟨some d, op, ty, pos, aft, g⟩ ⟨T, H⟩ cs e v) :
    LExt P C ⟨some d, op, ty, pos, aft, g⟩ T H (fun u its => ∃ b, u = v b ∧ its = [.blk b ⟨true, cs, e, (0, 0)⟩]) := by
  unfold Makes at hy
  intro a w hr Qr
  unfold Oper.wp
  rw [hy a w hr]
  refine ⟨v w.heap.size, _, ⟨w.heap.size, rfl, rfl⟩, rfl, (Below.refl _ _).alloc (Nat.le_refl _) _, ?_, ?_, ?_, List.pairwise_singleton _ _⟩
  · intro x hx; simp at hx; subst hx; exact heap_alloc_new _ _
  · intro x hx k hk; simp at hx; subst hx; simp [Item.fp] at hk; subst hk; exact .inl (Nat.le_refl _)
  · intro x hx _ k hk; simp at hx; subst hx; simp [Item.fp] at hk; subst hk; exact Nat.le_refl _
end
end Go.Proofs.Ytljblbgogjieaaa
