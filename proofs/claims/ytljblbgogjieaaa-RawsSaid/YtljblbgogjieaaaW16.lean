/- Walks: what functions of the program come to, step by step. -/
import Derived.Test.YtljblbgogjieaaaW15
set_option linter.unusedVariables false
set_option linter.unusedSimpArgs false
set_option maxRecDepth 20000
namespace Go.Proofs.Ytljblbgogjieaaa
open Go Go.RowKit

/-- Where a curve's numbers lie. -/
structure CQ where
  p : NV
  a : NV
  b : NV
  n : NV
  x : NV
  y : NV
def crvL (Q : CQ) (V : Cv) : List Value := [.int .i64 ((V.id : Nat) : Int), numV Q.p V.p, numV Q.a V.a, numV Q.b V.b, numV Q.n V.n, numV Q.x V.x, numV Q.y V.y]
def crvI (Q : CQ) (V : Cv) : Item := grpI [(Q.p, V.p), (Q.a, V.a), (Q.b, V.b), (Q.n, V.n), (Q.x, V.x), (Q.y, V.y)]
def crvZ : List Value := [.int .i64 ((0 : Nat) : Int), .slice none 0 0, .slice none 0 0, .slice none 0 0, .slice none 0 0, .slice none 0 0, .slice none 0 0]
section
variable {Q : CQ} {V : Cv} {w : World} (h : (crvI Q V).holds w)
include h
theorem crvI_p : (numT Q.p V.p).holds w := grp_of h (.head _)
theorem crvI_a : (numT Q.a V.a).holds w := grp_of h (.tail _ (.head _))
theorem crvI_b : (numT Q.b V.b).holds w := grp_of h (.tail _ (.tail _ (.head _)))
theorem crvI_n : (numT Q.n V.n).holds w := grp_of h (.tail _ (.tail _ (.tail _ (.head _))))
theorem crvI_x : (numT Q.x V.x).holds w := grp_of h (.tail _ (.tail _ (.tail _ (.tail _ (.head _)))))
theorem crvI_y : (numT Q.y V.y).holds w := grp_of h (.tail _ (.tail _ (.tail _ (.tail _ (.tail _ (.head _))))))
end
theorem crvI_mk {Q : CQ} {V : Cv} {w : World} (h1 : (numT Q.p V.p).holds w) (h2 : (numT Q.a V.a).holds w) (h3 : (numT Q.b V.b).holds w) (h4 : (numT Q.n V.n).holds w) (h5 : (numT Q.x V.x).holds w) (h6 : (numT Q.y V.y).holds w) : (crvI Q V).holds w := by
  refine grp_mk fun q A hm => ?_
  simp only [List.mem_cons, Prod.mk.injEq, List.not_mem_nil, or_false] at hm
  rcases hm with ⟨rfl, rfl⟩ | ⟨rfl, rfl⟩ | ⟨rfl, rfl⟩ | ⟨rfl, rfl⟩ | ⟨rfl, rfl⟩ | ⟨rfl, rfl⟩ <;> assumption
theorem crvI_fp {Q : CQ} {V : Cv} {lo : Nat} (h1 : NFr lo [] Q.p (D.nw V.p)) (h2 : NFr lo [] Q.a (D.nw V.a)) (h3 : NFr lo [] Q.b (D.nw V.b)) (h4 : NFr lo [] Q.n (D.nw V.n)) (h5 : NFr lo [] Q.x (D.nw V.x)) (h6 : NFr lo [] Q.y (D.nw V.y)) : ∀ k, k ∈ (crvI Q V).fp → lo ≤ k := by
  intro k hk
  obtain ⟨e, he, hk⟩ := List.mem_flatMap.1 hk
  have key : ∀ {q : NV} {n : Nat}, NFr lo [] q n → k ∈ fpz q n → lo ≤ k := fun hn hk => (hn k hk).elim id (fun h => by cases h)
  simp only [List.mem_cons, List.not_mem_nil, or_false] at he
  rcases he with rfl | rfl | rfl | rfl | rfl | rfl
  · exact key h1 hk
  · exact key h2 hk
  · exact key h3 hk
  · exact key h4 hk
  · exact key h5 hk
  · exact key h6 hk
theorem hexB_spec {s : ByteArray} {n : Nat} (h : hexB s n = true) : hexOK s.data.toList = true ∧ hexVal s.data.toList = n ∧ s.size ≤ 144 := by
  simp only [hexB, Bool.and_eq_true] at h
  exact ⟨h.1.1, Nat.eq_of_beq_eq_true h.1.2, Nat.le_of_ble_eq_true h.2⟩
theorem rowB_spec {V : Cv} {s0 s1 s2 s3 s4 s5 : ByteArray} (h : rowB V s0 s1 s2 s3 s4 s5 = true) : hexB s0 V.p = true ∧ ((s1.data.toList = [45] ∧ V.a + 3 = V.p) ∨ (s1.data.toList ≠ [45] ∧ hexB s1 V.a = true)) ∧ hexB s2 V.b = true ∧ hexB s3 V.n = true ∧ hexB s4 V.x = true ∧ hexB s5 V.y = true := by
  simp only [rowB, Bool.and_eq_true] at h
  obtain ⟨⟨⟨⟨⟨h0, h1⟩, h2⟩, h3⟩, h4⟩, h5⟩ := h
  refine ⟨h0, ?_, h2, h3, h4, h5⟩
  split at h1
  · exact .inl ⟨by assumption, Nat.eq_of_beq_eq_true h1⟩
  · exact .inr ⟨by assumption, h1⟩
theorem Cv.Ok.bounds {V : Cv} (h : V.Ok) : 5 ≤ V.p ∧ V.p < P521 ∧ V.a < V.p ∧ V.b < V.p ∧ V.x < V.p ∧ V.y < V.p ∧ V.n < P521 ∧ V.p % 2 = 1 ∧ V.n % 2 = 1 ∧ 1 ≤ V.b ∧ 100 ≤ V.n := by
  have h := h.cs
  simp only [Bool.and_eq_true] at h
  obtain ⟨⟨⟨⟨⟨⟨⟨⟨⟨⟨⟨⟨⟨h1, h2⟩, h3⟩, h4⟩, h5⟩, h6⟩, h7⟩, h8⟩, h9⟩, h10⟩, h11⟩, h12⟩, h13⟩, h14⟩ := h
  exact ⟨Nat.le_of_ble_eq_true h1, Nat.le_of_ble_eq_true h2, Nat.le_of_ble_eq_true h3, Nat.le_of_ble_eq_true h4, Nat.le_of_ble_eq_true h5, Nat.le_of_ble_eq_true h6, Nat.le_of_ble_eq_true h9, Nat.eq_of_beq_eq_true h10, Nat.eq_of_beq_eq_true h11, Nat.le_of_ble_eq_true h12, Nat.le_of_ble_eq_true h13⟩
theorem nw_521 {A : Nat} (h : A < P521) : D.nw A ≤ 17 := by
  obtain ⟨j, hj⟩ : ∃ j : Nat, j = 65 := ⟨65, rfl⟩
  obtain ⟨k, hk⟩ : ∃ k : Nat, k = 17 := ⟨17, rfl⟩
  rw [← p521 hj] at h
  rw [← hk]
  exact D.nw_le (Nat.lt_of_lt_of_le h (Nat.pow_le_pow_right (by decide) (by omega)))
theorem w9_521 {A : Nat} (h : A < P521) : A < W9 := by
  obtain ⟨j, hj⟩ : ∃ j : Nat, j = 65 := ⟨65, rfl⟩
  obtain ⟨k, hk⟩ : ∃ k : Nat, k = 9 := ⟨9, rfl⟩
  rw [← p521 hj] at h
  rw [← w9 hk]
  exact Nat.lt_of_lt_of_le h (Nat.pow_le_pow_right (by decide) (by omega))
structure Cv.Sz (V : Cv) : Prop where
  p : D.nw V.p ≤ 17
  a : D.nw V.a ≤ 17
  b : D.nw V.b ≤ 17
  n : D.nw V.n ≤ 17
  x : D.nw V.x ≤ 17
  y : D.nw V.y ≤ 17
theorem Cv.Ok.sz {V : Cv} (h : V.Ok) : V.Sz := by
  obtain ⟨h1, h2, h3, h4, h5, h6, h7, _⟩ := h.bounds
  exact ⟨nw_521 h2, nw_521 (Nat.lt_trans h3 h2), nw_521 (Nat.lt_trans h4 h2), nw_521 h7, nw_521 (Nat.lt_trans h5 h2), nw_521 (Nat.lt_trans h6 h2)⟩
theorem cvI_ok {id : Int} {V : Cv} (h : cvI id = some V) : V.Ok ∧ ((V.id : Nat) : Int) = id := by
  unfold cvI at h
  split at h
  · obtain ⟨h1, h2⟩ := cvOf_ok h
    exact ⟨h1, by omega⟩
  · cases h
theorem num1_blk {w : World} {b c k : Nat} {wr : Bool} {ty : TypeId} {fz : Nat × Nat} (h : (Item.blk b ⟨wr, [.int .u32 ((k : Nat) : Int)], ty, fz⟩).holds w) (hk : k < 4294967296) (h0 : D.nw k = 1) : (numT ⟨false, b, c⟩ k).holds w := by
  refine numT_blk (n := 1) (wr := wr) (ty := ty) (fz := fz) (?_) (by rw [Nat.mul_one]; exact hk)
  have e : vec .u32 1 (D.limb k) = [.int .u32 ((k : Nat) : Int)] := by
    have : D.limb k 0 = k := by unfold D.limb; rw [Nat.mul_zero, Nat.pow_zero, Nat.div_one, Nat.mod_eq_of_lt hk]
    simp [vec, this]
  rw [e]; exact h

theorem c_r_row_none (id : Int) (w : World) (h : cvI id = none) : Calls Try.prog 110 ([.int .i64 id] : List Value).toArray w (fun e w' => e = .returned (.slice none 0 0) ∧ Below w.heap.size w w') :=
  (c_r_row id w).mono fun e w' h' => by
    rcases h' with ⟨V, hV, _⟩ | ⟨_, h1, h2⟩
    · rw [h] at hV; cases hV
    · exact ⟨h1, h2⟩
theorem c_r_row_some (id : Int) (V : Cv) (w : World) (h : cvI id = some V) : Calls Try.prog 110 ([.int .i64 id] : List Value).toArray w (fun e w' => ∃ b s0 s1 s2 s3 s4 s5, e = .returned (.slice (some ⟨b, 0, none⟩) 6 6) ∧ (Item.blk b ⟨false, [.string s0, .string s1, .string s2, .string s3, .string s4, .string s5], 9, (0, 0)⟩).holds w' ∧ w.heap.size ≤ b ∧ rowB V s0 s1 s2 s3 s4 s5 = true ∧ Below w.heap.size w w') :=
  (c_r_row id w).mono fun e w' h' => by
    rcases h' with ⟨V', hV, h1⟩ | ⟨h1, _⟩
    · rw [h] at hV; cases hV; exact h1
    · rw [h] at h1; cases h1

theorem c_r_Get_none (id : Int) (w : World) (h : cvI id = none) : Calls Try.prog 43 ([.int .i64 id] : List Value).toArray w (fun e w' => e = .returned (.tuple #[.agg crvZ.toArray, .bool false]) ∧ Below w.heap.size w w') := by
  refine calls_ro (N := 48) (rs := [.cell 2 31, .tmp 3]) [] Try.func43 rfl Try.ntmps43 Try.results43 (Nat.le_of_ble_eq_true rfl) trivial rfl ?_
  show LCode _ _ _ ⟨_, _⟩ _
  refine LCode.seq ?_
  refine LCode.region ?_
  refine LOps.step rfl (LStep.w (LStep.makes (Makes.allocA zr_31) (Nat.le_of_ble_eq_true rfl) (fun b2 => ?_)))
  refine LOps.detP (Det.assign rfl) (Nat.le_of_ble_eq_true rfl) ?_
  refine LOps.nil ?_
  refine LCode.seq ?_
  refine LCode.region ?_
  refine LOps.detP (Det.move rfl) (Nat.le_of_ble_eq_true rfl) ?_
  refine LOps.step rfl (LStep.w (LStep.callF (first := []) rfl en_110 rfl (Nat.le_of_ble_eq_true rfl) (fun w hw => c_r_row_none id w h) ?_))
  refine LOps.detP (Det.assign rfl) (Nat.le_of_ble_eq_true rfl) ?_
  refine LOps.nil ?_
  refine LCode.seq ?_
  refine LCode.seq ?_
  refine LCode.region ?_
  refine LOps.detP (Det.move rfl) (Nat.le_of_ble_eq_true rfl) ?_
  refine LOps.detP (Slots.cast (Det.eqsl Try.underlying139 rfl rfl) (show _ = Value.bool true from rfl)) (Nat.le_of_ble_eq_true rfl) ?_
  refine LOps.nil ?_
  refine LCode.cond_true rfl ?_
  refine LCode.seq ?_
  refine LCode.region ?_
  refine LOps.detP (Slots.cast (Det.build pl_31 zr_31 rfl rfl) (show _ = Value.agg crvZ.toArray from rfl)) (Nat.le_of_ble_eq_true rfl) ?_
  refine LOps.step rfl (LStepW.storeA rfl rfl sz_31 (by repeat (first | exact allOne_nil | refine allOne_cons rfl ?_)) (by repeat (first | exact SetAt.head _ | apply SetAt.tail)) (by rfl) ?_)
  refine LOps.detP (Det.assign rfl) (Nat.le_of_ble_eq_true rfl) ?_
  refine LOps.nil ?_
  refine LCode.ret ?_
  refine ⟨[_, _], .cons ⟨_, _, _, rfl, (by repeat (first | exact List.Mem.head _ | apply List.Mem.tail)), by exact LoadV.whole Try.underlying31 rfl sz_31⟩ (.cons rfl .nil), fun a w' hr => ⟨?_, hr.fr.below⟩⟩
  rfl

theorem hexcall (s : ByteArray) (n : Nat) (w : World) (h : hexB s n = true) : Calls Try.prog 111 ([.string s] : List Value).toArray w (fun e w' => NumR w ([]) n (fun v => v) e w') := by
  obtain ⟨h1, h2, h3⟩ := hexB_spec h
  have := c_r_Hex s w h1 (by omega)
  rwa [h2] at this

theorem c_r_Get (id : Int) (V : Cv) (w : World) (h : cvI id = some V) : Calls Try.prog 43 ([.int .i64 id] : List Value).toArray w (fun e w' => ∃ Q, e = .returned (.tuple #[.agg (crvL Q V).toArray, .bool true]) ∧ (crvI Q V).holds w' ∧ (∀ k, k ∈ (crvI Q V).fp → w.heap.size ≤ k) ∧ Below w.heap.size w w') := by
  obtain ⟨hok, hid⟩ := cvI_ok h
  have hsz := hok.sz
  have hszp := hsz.p
  refine calls_ro (N := 48) (rs := [.cell 2 31, .tmp 3]) [] Try.func43 rfl Try.ntmps43 Try.results43 (Nat.le_of_ble_eq_true rfl) trivial rfl ?_
  show LCode _ _ _ ⟨_, _⟩ _
  refine LCode.seq ?_
  refine LCode.region ?_
  refine LOps.step rfl (LStep.w (LStep.makes (Makes.allocA zr_31) (Nat.le_of_ble_eq_true rfl) (fun b2 => ?_)))
  refine LOps.detP (Det.assign rfl) (Nat.le_of_ble_eq_true rfl) ?_
  refine LOps.nil ?_
  refine LCode.seq ?_
  refine LCode.region ?_
  refine LOps.detP (Det.move rfl) (Nat.le_of_ble_eq_true rfl) ?_
  refine LOps.step rfl (LStep.w (LStep.callZ (Post := fun v its => ∃ b s0 s1 s2 s3 s4 s5, v = .slice (some ⟨b, 0, none⟩) 6 6 ∧ its = [.blk b ⟨false, [.string s0, .string s1, .string s2, .string s3, .string s4, .string s5], 9, (0, 0)⟩] ∧ rowB V s0 s1 s2 s3 s4 s5 = true) (first := []) rfl en_110 rfl (Nat.le_of_ble_eq_true rfl) (fun w hw hs => (c_r_row_some id V w h).mono fun e w' ⟨b, s0, s1, s2, s3, s4, s5, h1, h2, h3, h4, h5⟩ => ⟨_, _, ⟨b, s0, s1, s2, s3, s4, s5, rfl, rfl, h4⟩, h1, Brings.blk1 h5 h3 h2⟩) ?_))
  rintro _ _ ⟨b4, s0, s1, s2, s3, s4, s5, rfl, rfl, hrow⟩
  obtain ⟨hB0, hB1, hB2, hB3, hB4, hB5⟩ := rowB_spec hrow
  clear hrow
  refine LOps.detP (Det.assign rfl) (Nat.le_of_ble_eq_true rfl) ?_
  refine LOps.nil ?_
  refine LCode.seq ?_
  refine LCode.seq ?_
  refine LCode.region ?_
  refine LOps.detP (Det.move rfl) (Nat.le_of_ble_eq_true rfl) ?_
  refine LOps.detP (Slots.cast (Det.eqsl Try.underlying139 rfl rfl) (show _ = Value.bool false from rfl)) (Nat.le_of_ble_eq_true rfl) ?_
  refine LOps.nil ?_
  refine LCode.cond_false rfl ?_
  refine LCode.skip ?_
  refine LCode.seq ?_
  refine LCode.regionD [23] (by kernel_rfl) ?_
  refine LAny.takeP 0 rfl (by kernel_rfl) (Nat.le_of_ble_eq_true rfl) (Det.move rfl) ?_
  refine LAny.takeP 1 rfl (by kernel_rfl) (Nat.le_of_ble_eq_true rfl) (Det.move rfl) ?_
  refine LAny.takeP 2 rfl (by kernel_rfl) (Nat.le_of_ble_eq_true rfl) (Det.indexS0 (i := 0) Try.underlying139 sz_9 rfl rfl (by omega)) ?_
  refine LAny.take 3 rfl (by kernel_rfl) (Nat.le_of_ble_eq_true rfl) (Det.load rfl (by repeat (first | exact List.Mem.head _ | apply List.Mem.tail)) (LoadV.one Try.underlying9 rfl (by first | rfl | exact vec_get _ _ _ (by omega) | exact natL_get _ (by omega) | exact wideL_get _ (by omega) | exact dv_m _ _ _ (by omega)))) ?_
  refine LAny.takeP 5 rfl (by kernel_rfl) (Nat.le_of_ble_eq_true rfl) (Det.move rfl) ?_
  refine LAny.takeP 6 rfl (by kernel_rfl) (Nat.le_of_ble_eq_true rfl) (Det.indexS0 (i := 2) Try.underlying139 sz_9 rfl rfl (by omega)) ?_
  refine LAny.take 7 rfl (by kernel_rfl) (Nat.le_of_ble_eq_true rfl) (Det.load rfl (by repeat (first | exact List.Mem.head _ | apply List.Mem.tail)) (LoadV.one Try.underlying9 rfl (by first | rfl | exact vec_get _ _ _ (by omega) | exact natL_get _ (by omega) | exact wideL_get _ (by omega) | exact dv_m _ _ _ (by omega)))) ?_
  refine LAny.takeP 9 rfl (by kernel_rfl) (Nat.le_of_ble_eq_true rfl) (Det.move rfl) ?_
  refine LAny.takeP 10 rfl (by kernel_rfl) (Nat.le_of_ble_eq_true rfl) (Det.indexS0 (i := 3) Try.underlying139 sz_9 rfl rfl (by omega)) ?_
  refine LAny.take 11 rfl (by kernel_rfl) (Nat.le_of_ble_eq_true rfl) (Det.load rfl (by repeat (first | exact List.Mem.head _ | apply List.Mem.tail)) (LoadV.one Try.underlying9 rfl (by first | rfl | exact vec_get _ _ _ (by omega) | exact natL_get _ (by omega) | exact wideL_get _ (by omega) | exact dv_m _ _ _ (by omega)))) ?_
  refine LAny.takeP 13 rfl (by kernel_rfl) (Nat.le_of_ble_eq_true rfl) (Det.move rfl) ?_
  refine LAny.takeP 14 rfl (by kernel_rfl) (Nat.le_of_ble_eq_true rfl) (Det.indexS0 (i := 4) Try.underlying139 sz_9 rfl rfl (by omega)) ?_
  refine LAny.take 15 rfl (by kernel_rfl) (Nat.le_of_ble_eq_true rfl) (Det.load rfl (by repeat (first | exact List.Mem.head _ | apply List.Mem.tail)) (LoadV.one Try.underlying9 rfl (by first | rfl | exact vec_get _ _ _ (by omega) | exact natL_get _ (by omega) | exact wideL_get _ (by omega) | exact dv_m _ _ _ (by omega)))) ?_
  refine LAny.takeP 17 rfl (by kernel_rfl) (Nat.le_of_ble_eq_true rfl) (Det.move rfl) ?_
  refine LAny.takeP 18 rfl (by kernel_rfl) (Nat.le_of_ble_eq_true rfl) (Det.indexS0 (i := 5) Try.underlying139 sz_9 rfl rfl (by omega)) ?_
  refine LAny.take 19 rfl (by kernel_rfl) (Nat.le_of_ble_eq_true rfl) (Det.load rfl (by repeat (first | exact List.Mem.head _ | apply List.Mem.tail)) (LoadV.one Try.underlying9 rfl (by first | rfl | exact vec_get _ _ _ (by omega) | exact natL_get _ (by omega) | exact wideL_get _ (by omega) | exact dv_m _ _ _ (by omega)))) ?_
  refine LAny.toP ?_
  refine LAnyP.start 22 rfl (.inl zr_31) (Nat.le_of_ble_eq_true rfl) rfl rfl rfl ?_
  refine LAnyP.step 4 rfl rfl rfl (Nat.le_of_ble_eq_true rfl) (by kernel_rfl) rfl (LExt.callZ (first := []) rfl en_111 rfl (fun w hw hs => (hexcall s0 V.p w hB0).mono fun e w' h => NumR.q (Old.nil _) hs h)) ?_
  rintro _ _ ⟨q15, rfl, rfl, hn15⟩
  refine LAnyP.step 8 rfl rfl rfl (Nat.le_of_ble_eq_true rfl) (by kernel_rfl) rfl (LExt.callZ (first := []) rfl en_111 rfl (fun w hw hs => (hexcall s2 V.b w hB2).mono fun e w' h => NumR.q (Old.nil _) hs h)) ?_
  rintro _ _ ⟨q19, rfl, rfl, hn19⟩
  refine LAnyP.step 12 rfl rfl rfl (Nat.le_of_ble_eq_true rfl) (by kernel_rfl) rfl (LExt.callZ (first := []) rfl en_111 rfl (fun w hw hs => (hexcall s3 V.n w hB3).mono fun e w' h => NumR.q (Old.nil _) hs h)) ?_
  rintro _ _ ⟨q23, rfl, rfl, hn23⟩
  refine LAnyP.step 16 rfl rfl rfl (Nat.le_of_ble_eq_true rfl) (by kernel_rfl) rfl (LExt.callZ (first := []) rfl en_111 rfl (fun w hw hs => (hexcall s4 V.x w hB4).mono fun e w' h => NumR.q (Old.nil _) hs h)) ?_
  rintro _ _ ⟨q27, rfl, rfl, hn27⟩
  refine LAnyP.step 20 rfl rfl rfl (Nat.le_of_ble_eq_true rfl) (by kernel_rfl) rfl (LExt.callZ (first := []) rfl en_111 rfl (fun w hw hs => (hexcall s5 V.y w hB5).mono fun e w' h => NumR.q (Old.nil _) hs h)) ?_
  rintro _ _ ⟨q31, rfl, rfl, hn31⟩
  refine LAnyP.takeP 21 rfl (by kernel_rfl) (Nat.le_of_ble_eq_true rfl) rfl (Slots.cast (Det.build pl_31 zr_31 rfl rfl) (show _ = Value.agg ([.int .i64 id, numV q15 V.p, .slice none 0 0, numV q19 V.b, numV q23 V.n, numV q27 V.x, numV q31 V.y]).toArray from rfl)) ?_
  refine LAnyP.mat (by kernel_rfl) (fun b5 => ?_)
  refine LAnyP.toAny ?_
  refine LAny.late 23 rfl rfl (by kernel_rfl) (by kernel_rfl) (LStepW.storeA rfl rfl sz_31 (by repeat (first | exact allOne_nil | refine allOne_cons rfl ?_)) (by repeat (first | exact SetAt.head _ | apply SetAt.tail)) (by rfl) ?_)
  refine LAny.done (by kernel_rfl) ?_
  refine LCode.seq ?_
  refine LCode.seq ?_
  rcases hB1 with ⟨hD, hVa⟩ | ⟨hD, hA⟩
  ·
    refine LCode.region ?_
    refine LOps.detP (Det.move rfl) (Nat.le_of_ble_eq_true rfl) ?_
    refine LOps.detP (Det.indexS0 (i := 1) Try.underlying139 sz_9 rfl rfl (by omega)) (Nat.le_of_ble_eq_true rfl) ?_
    refine LOps.det (Det.load rfl (by repeat (first | exact List.Mem.head _ | apply List.Mem.tail)) (LoadV.one Try.underlying9 rfl (by first | rfl | exact vec_get _ _ _ (by omega) | exact natL_get _ (by omega) | exact wideL_get _ (by omega) | exact dv_m _ _ _ (by omega)))) (Nat.le_of_ble_eq_true rfl) ?_
    refine LOps.detP (Slots.cast (Det.eqs rfl rfl) (congrArg Value.bool (eq_str_t hD))) (Nat.le_of_ble_eq_true rfl) ?_
    refine LOps.nil ?_
    refine LCode.cond_true rfl ?_
    refine LCode.region ?_
    refine LOps.detP (Det.fieldA (o' := 1) Try.underlying31 rfl rfl rfl sz_29 (by decide)) (Nat.le_of_ble_eq_true rfl) ?_
    refine LOps.det (Det.load rfl (by repeat (first | exact List.Mem.head _ | apply List.Mem.tail)) (LoadV.one Try.underlying29 rfl (by first | rfl | exact vec_get _ _ _ (by omega) | exact natL_get _ (by omega) | exact wideL_get _ (by omega) | exact dv_m _ _ _ (by omega)))) (Nat.le_of_ble_eq_true rfl) ?_
    refine LOps.step rfl (LStep.w (LStep.makes (Makes.rowN Try.underlying29 inf_56 rfl rfl rfl rfl (by decide) rfl) (Nat.le_of_ble_eq_true rfl) (fun b39 => ?_)))
    refine LOps.step rfl (LStep.w (LStep.callZ (first := []) rfl en_65 rfl (Nat.le_of_ble_eq_true rfl) (fun w hw hs => (c_n_Sub q15 ⟨false, b39, 1⟩ V.p 3 w (hw _ (by repeat (first | exact List.Mem.head _ | apply List.Mem.tail))) (num1_blk (hw _ (by repeat (first | exact List.Mem.head _ | apply List.Mem.tail))) (by decide) rfl) (by omega) (by omega)).mono fun e w' h => NumR.q (Old.nil _) hs h) ?_))
    rintro _ _ ⟨q40, rfl, rfl, hn40⟩
    refine LOps.detP (Det.fieldA (o' := 2) Try.underlying31 rfl rfl rfl sz_29 (by decide)) (Nat.le_of_ble_eq_true rfl) ?_
    refine LOps.step rfl (LStepW.store1 rfl rfl rfl sz_29 (by repeat (first | exact SetAt.head _ | apply SetAt.tail)) (by simp) (by first | exact vec_set _ _ _ _ _ | exact dv_setm _ _ _ _ (by omega) | exact dv_sets _ _ _ _ | rfl) (by simp) ?_)
    refine LOps.nil ?_
    refine LCode.seq ?_
    refine LCode.region ?_
    refine LOps.det (Det.load rfl (by repeat (first | exact List.Mem.head _ | apply List.Mem.tail)) (by exact LoadV.whole Try.underlying31 rfl sz_31)) (Nat.le_of_ble_eq_true rfl) ?_
    refine LOps.step rfl (LStepW.storeA rfl rfl sz_31 (by repeat (first | exact allOne_nil | refine allOne_cons rfl ?_)) (by repeat (first | exact SetAt.head _ | apply SetAt.tail)) (by rfl) ?_)
    refine LOps.detP (Det.assign rfl) (Nat.le_of_ble_eq_true rfl) ?_
    refine LOps.nil ?_
    refine LCode.ret ?_
    refine ⟨[_, _], .cons ⟨_, _, _, rfl, (by repeat (first | exact List.Mem.head _ | apply List.Mem.tail)), by exact LoadV.whole Try.underlying31 rfl sz_31⟩ (.cons rfl .nil), fun a w' hr => ⟨⟨q15, q40, q19, q23, q27, q31⟩, ?_, crvI_mk (hr.hp _ (by repeat (first | exact List.Mem.head _ | apply List.Mem.tail))) (by have := hr.hp (numT q40 (V.p - 3)) (by repeat (first | exact List.Mem.head _ | apply List.Mem.tail)); rwa [show V.p - 3 = V.a by omega] at this) (hr.hp _ (by repeat (first | exact List.Mem.head _ | apply List.Mem.tail))) (hr.hp _ (by repeat (first | exact List.Mem.head _ | apply List.Mem.tail))) (hr.hp _ (by repeat (first | exact List.Mem.head _ | apply List.Mem.tail))) (hr.hp _ (by repeat (first | exact List.Mem.head _ | apply List.Mem.tail))), crvI_fp hn15 (by rwa [show V.p - 3 = V.a by omega] at hn40) hn19 hn23 hn27 hn31, hr.fr.below⟩⟩
    rw [← hid, show V.p - 3 = V.a by omega]; rfl
  ·
    refine LCode.region ?_
    refine LOps.detP (Det.move rfl) (Nat.le_of_ble_eq_true rfl) ?_
    refine LOps.detP (Det.indexS0 (i := 1) Try.underlying139 sz_9 rfl rfl (by omega)) (Nat.le_of_ble_eq_true rfl) ?_
    refine LOps.det (Det.load rfl (by repeat (first | exact List.Mem.head _ | apply List.Mem.tail)) (LoadV.one Try.underlying9 rfl (by first | rfl | exact vec_get _ _ _ (by omega) | exact natL_get _ (by omega) | exact wideL_get _ (by omega) | exact dv_m _ _ _ (by omega)))) (Nat.le_of_ble_eq_true rfl) ?_
    refine LOps.detP (Slots.cast (Det.eqs rfl rfl) (congrArg Value.bool (eq_str_f hD))) (Nat.le_of_ble_eq_true rfl) ?_
    refine LOps.nil ?_
    refine LCode.cond_false rfl ?_
    refine LCode.region ?_
    refine LOps.detP (Det.move rfl) (Nat.le_of_ble_eq_true rfl) ?_
    refine LOps.detP (Det.indexS0 (i := 1) Try.underlying139 sz_9 rfl rfl (by omega)) (Nat.le_of_ble_eq_true rfl) ?_
    refine LOps.det (Det.load rfl (by repeat (first | exact List.Mem.head _ | apply List.Mem.tail)) (LoadV.one Try.underlying9 rfl (by first | rfl | exact vec_get _ _ _ (by omega) | exact natL_get _ (by omega) | exact wideL_get _ (by omega) | exact dv_m _ _ _ (by omega)))) (Nat.le_of_ble_eq_true rfl) ?_
    refine LOps.step rfl (LStep.w (LStep.callZ (first := []) rfl en_111 rfl (Nat.le_of_ble_eq_true rfl) (fun w hw hs => (hexcall s1 V.a w hA).mono fun e w' h => NumR.q (Old.nil _) hs h) ?_))
    rintro _ _ ⟨q45, rfl, rfl, hn45⟩
    refine LOps.detP (Det.fieldA (o' := 2) Try.underlying31 rfl rfl rfl sz_29 (by decide)) (Nat.le_of_ble_eq_true rfl) ?_
    refine LOps.step rfl (LStepW.store1 rfl rfl rfl sz_29 (by repeat (first | exact SetAt.head _ | apply SetAt.tail)) (by simp) (by first | exact vec_set _ _ _ _ _ | exact dv_setm _ _ _ _ (by omega) | exact dv_sets _ _ _ _ | rfl) (by simp) ?_)
    refine LOps.nil ?_
    refine LCode.seq ?_
    refine LCode.region ?_
    refine LOps.det (Det.load rfl (by repeat (first | exact List.Mem.head _ | apply List.Mem.tail)) (by exact LoadV.whole Try.underlying31 rfl sz_31)) (Nat.le_of_ble_eq_true rfl) ?_
    refine LOps.step rfl (LStepW.storeA rfl rfl sz_31 (by repeat (first | exact allOne_nil | refine allOne_cons rfl ?_)) (by repeat (first | exact SetAt.head _ | apply SetAt.tail)) (by rfl) ?_)
    refine LOps.detP (Det.assign rfl) (Nat.le_of_ble_eq_true rfl) ?_
    refine LOps.nil ?_
    refine LCode.ret ?_
    refine ⟨[_, _], .cons ⟨_, _, _, rfl, (by repeat (first | exact List.Mem.head _ | apply List.Mem.tail)), by exact LoadV.whole Try.underlying31 rfl sz_31⟩ (.cons rfl .nil), fun a w' hr => ⟨⟨q15, q45, q19, q23, q27, q31⟩, ?_, crvI_mk (hr.hp _ (by repeat (first | exact List.Mem.head _ | apply List.Mem.tail))) (hr.hp _ (by repeat (first | exact List.Mem.head _ | apply List.Mem.tail))) (hr.hp _ (by repeat (first | exact List.Mem.head _ | apply List.Mem.tail))) (hr.hp _ (by repeat (first | exact List.Mem.head _ | apply List.Mem.tail))) (hr.hp _ (by repeat (first | exact List.Mem.head _ | apply List.Mem.tail))) (hr.hp _ (by repeat (first | exact List.Mem.head _ | apply List.Mem.tail))), crvI_fp hn15 hn45 hn19 hn23 hn27 hn31, hr.fr.below⟩⟩
    rw [← hid]; rfl

end Go.Proofs.Ytljblbgogjieaaa
