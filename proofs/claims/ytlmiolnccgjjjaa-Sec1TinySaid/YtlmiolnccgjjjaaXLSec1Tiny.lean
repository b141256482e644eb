/- Sec1Tiny: whatever the input, the law answers true, and the input reads as it did. No condition. -/
import Derived.WalkKit
import Derived.Orders
import Derived.Laws.StructEq
import Derived.WalkSpells
import Derived.OrdersHeld
import Derived.KernelRfl
import Derived.Laws.Externs
import Derived.Laws.Bits64
import Derived.Laws.MakeOwn
import Derived.Laws.BytesString
import Derived.Carry
import Derived.WideShapes
import GoSem.Claim
import Derived.Test.YtlmiolnccgjjjaaProg
import Derived.Laws.AppendOwn
import Derived.Lib.ConvBytes
import Derived.Test.YtlmiolnccgjjjaaRows
import Derived.ProofKit
import Derived.OpenShut
import Derived.Test.YtlmiolnccgjjjaaX5
namespace Go.Proofs.Ytlmiolnccgjjjaa.sec1Tiny
open Go Go.ChangeShapes Go.WideShapes Go.ChangeAt Go.RowKit
set_option linter.unusedVariables false
set_option maxRecDepth 100000
theorem own : ownKnob Try.prog.godebug = none := by kernel_rfl
theorem laidOut : laidOutB Try.prog = true := fact_laid
theorem lifted (os : Os) (started : os.Started) (H : Type) (enc : TypeId × Value → H) :
    ReturnsInHanded {} Try.checked os 7 .any (Rows.sec1TinySpec.pre6 enc Try.prog Try.f7 Rows.sec1TinyRow.domain false) (Rows.sec1TinySpec.post enc Try.prog Try.f7 false true false false) := by
  refine returnsInHanded_of_change (C := Try.checked) own started (by kernel_rfl) Try.func7
    (ChangeSpec.witness6 (enc := enc) (C := Try.checked) false ⟨#[], #[.int .i64 0, .int .i64 0], []⟩ 64 (by kernel_rfl) (by kernel_rfl) (by kernel_rfl) (by kernel_rfl)) ?_
  intro W base args ds gs before hval0 hW hcnd _
  have hval : ∀ (j : Nat) t v, Try.f7.params[j]? = some t → args[j]? = some v → Value.okWide Try.prog W .any base t v := hval0
  have hW' := hW
  obtain ⟨p, q, hA0, hV, rfl, hfz, hnd⟩ := hW
  have hA : DataW.TrodAll enc Try.prog W 0 (fun _ => true) true Try.f7.params.toList args.toList ds p := hA0
  rw [Try.params7] at hA hval
  obtain ⟨v0, vs0, d0, ds0, p0, q0, hargs, rfl, rfl, t0, r0⟩ := trodAll_cons hA
  obtain ⟨v1, vs1, d1, ds1, p1, q1, rfl, rfl, rfl, t1, r1⟩ := trodAll_cons r0
  obtain ⟨rfl, rfl, rfl⟩ := trodAll_nil r1
  obtain rfl : args = #[v0, v1] := by cases args; simp_all
  obtain ⟨rfl, rfl⟩ := trodVars_none hV
  have hltp := hW'.lt
  obtain ⟨x0, h0a, h0b, rfl⟩ := val_i64 Try.underlying3 (hval 0 3 v0 rfl rfl)
  obtain ⟨x1, h1a, h1b, rfl⟩ := val_i64 Try.underlying3 (hval 1 3 v1 rfl rfl)
  clear hA0 hval0 hval
  refine (c_Sec1Tiny x0 x1 W).mono fun e W' ⟨he, hB⟩ => ?_
  subst he
  exact ⟨_, rfl, _, _, _, [], (p0 ++ (p1 ++ [])), [], hW', (trodAll_cons_mk (shut_bool Try.underlying4 _) trodAll_mk0), (trodAll_cons_mk (Below.trod laidOut (by kernel_rfl) (of_decide_eq_true (by kernel_rfl)) t0 hB (fun x hx => hltp x (by simp [hx]))) (trodAll_cons_mk (Below.trod laidOut (by kernel_rfl) (of_decide_eq_true (by kernel_rfl)) t1 hB (fun x hx => hltp x (by simp [hx]))) trodAll_mk0)), rfl, hB.frame _, fun h => by cases h⟩
theorem k0 : (Rows.sec1TinyRow.wf (OpenSpec.ofChange Rows.sec1TinySpec)) = true := by kernel_rfl
theorem k3 : (Try.f7.params.all (Try.prog.readableRec ·)) = true := by kernel_rfl
theorem k4 : (namedTie Try.prog Rows.sec1TinyRow.named Rows.sec1TinySpec.vars) = true := by kernel_rfl
theorem k5 : ((Rows.sec1TinyRow.stops == [])) = true := by kernel_rfl
theorem k6 : ((Try.prog.stops == [])) = true := by kernel_rfl
theorem k7 : ((Rows.sec1TinyRow.knobs == [])) = true := by kernel_rfl
theorem k8 : ((Try.prog.stopKnobs == [])) = true := by kernel_rfl
theorem k9 : ((Rows.sec1TinyRow.inPlace == Try.prog.inPlace 7)) = true := by kernel_rfl
theorem k10 : ((Rows.sec1TinyRow.unfollowed == Try.prog.unfollowed 7)) = true := by kernel_rfl
theorem k11 : ((Rows.sec1TinyRow.recurses == Try.prog.recurses 7)) = true := by kernel_rfl
theorem k12 : ((Rows.sec1TinyRow.named == Try.prog.varsNamed 7)) = true := by kernel_rfl
theorem k13 : ((Rows.sec1TinyRow.maps == (Try.f7.params.toList ++ Rows.sec1TinySpec.plain.varTypes Try.prog).any (Try.prog.mapsRec ·))) = true := by kernel_rfl
theorem k14 : ((Rows.sec1TinyRow.ifaces == (Try.f7.params.toList ++ Rows.sec1TinySpec.plain.varTypes Try.prog).any (Try.prog.ifacesRec ·))) = true := by kernel_rfl
theorem k15 : ((Rows.sec1TinyRow.mapsOut == Try.prog.mapsAmong Try.f7.resultTypes.toList)) = true := by kernel_rfl
theorem k16 : ((Rows.sec1TinyRow.loops == (Try.f7.params.toList ++ Rows.sec1TinySpec.plain.varTypes Try.prog).any (Try.prog.loopsFrom ·))) = true := by kernel_rfl
theorem k17 : ((Rows.sec1TinyRow.wideKeys == (Try.f7.params.toList ++ Rows.sec1TinySpec.plain.varTypes Try.prog ++ Try.f7.resultTypes.toList).any (Try.prog.wideKeysFrom ·))) = true := by kernel_rfl
theorem k18 : (Rows.sec1TinySpec.vars.all (Try.prog.varReadable ·)) = true := by kernel_rfl
theorem k19 : (Try.f7.resultTypes.all (fun t => Try.prog.readableRec t && decide (t < Try.prog.types.size))) = true := by kernel_rfl
theorem k20 : ((Rows.sec1TinyRow.ifacesOut == Try.f7.resultTypes.toList.any (Try.prog.ifacesRec ·))) = true := by kernel_rfl
theorem k21 : ((Rows.sec1TinyRow.loopsOut == Try.f7.resultTypes.toList.any (Try.prog.loopsFrom ·))) = true := by kernel_rfl
theorem k22 : ((Rows.sec1TinyRow.plainKeys == Try.prog.plainKeys)) = true := by kernel_rfl
theorem k23 : (Rows.sec1TinyRow.shortTexts.isNone) = true := by kernel_rfl
theorem k28 : ((Rows.sec1TinyRow.kinds == (if Rows.sec1TinyRow.domain.isEmpty then [] else Try.f7.params.toList.map fun t => match Try.prog.underlying t with | some (.int k) => some k | _ => none))) = true := by kernel_rfl
theorem k29 : ((Rows.sec1TinyRow.pinned == Rows.sec1TinyRow.pinnedBy)) = true := by kernel_rfl
theorem k30 : ((Rows.sec1TinyRow.veiled == (Try.f7.params.toList ++ Rows.sec1TinySpec.plain.varTypes Try.prog ++ Try.f7.resultTypes.toList).any (Try.prog.veiledRec ·))) = true := by kernel_rfl
theorem k31 : (Rows.sec1TinyRow.veiledFits Try.prog Try.f7.params.toList (Try.f7.params.toList ++ Rows.sec1TinySpec.plain.varTypes Try.prog ++ Try.f7.resultTypes.toList)) = true := by kernel_rfl
theorem closed : joinedFacts Try.prog 7 Try.f7 Rows.sec1TinySpec Rows.sec1TinyRow = true := (and2 (and2 (and2 (and2 (and2 (and2 (and2 (and2 (and2 (and2 (and2 (and2 (and2 (and2 (and2 (and2 (and2 (and2 (and2 (and2 (and2 (and2 (and2 (and2 (and2 (and2 (and2 (and2 (and2 (and2 (and2 k0 fact_laid) fact_maps) k3) k4) k5) k6) k7) k8) k9) k10) k11) k12) k13) k14) k15) k16) k17) k18) k19) k20) k21) k22) k23) fact_heard) fact_enter) fact_lifts) fact_make) k28) k29) k30) k31)
theorem over : Rows.sec1TinyRow.holds Try.pinned (OpenSpec.ofChange Rows.sec1TinySpec) :=
  OpenClaim.holds_of_wide 7 Try.f7 rfl rfl rfl rfl rfl rfl rfl ⟨rfl, rfl, rfl, rfl, rfl⟩ rfl rfl rfl rfl rfl (by kernel_rfl) Try.func7 closed
    (of_decide_eq_true (by kernel_rfl)) (by unfold Func.isWrapper; first | (rw [if_pos (by decide +kernel)]; kernel_rfl) | (rw [if_neg (by decide +kernel)]; exact ⟨rfl, rfl⟩))
    (fun os started H enc _ => lifted os started H enc)
end Go.Proofs.Ytlmiolnccgjjjaa.sec1Tiny
namespace Go.Proofs.Ytlmiolnccgjjjaa
theorem sec1Tiny_proved : Rows.Sec1TinySaid := sec1Tiny.over
#print axioms sec1Tiny_proved
end Go.Proofs.Ytlmiolnccgjjjaa
