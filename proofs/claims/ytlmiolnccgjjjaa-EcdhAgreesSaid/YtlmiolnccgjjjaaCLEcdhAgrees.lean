/- EcdhAgrees: whatever the input, the law answers true, and the input reads as it did. No condition. -/
import Derived.WalkKit
import Derived.Orders
import Derived.Laws.StructEq
import Derived.WalkSpells
import Derived.OrdersHeld
import Derived.KernelRfl
import Derived.Laws.Externs
import Derived.Laws.Bits64
import Derived.Laws.MakeOwn
import Derived.Laws.BytesString
import Derived.Carry
import Derived.WideShapes
import GoSem.Claim
import Derived.Test.YtlmiolnccgjjjaaProg
import Derived.Laws.AppendOwn
import Derived.Test.YtlmiolnccgjjjaaRows
import Derived.ProofKit
import Derived.OpenShut
import Derived.Test.YtlmiolnccgjjjaaC5
namespace Go.Proofs.Ytlmiolnccgjjjaa.ecdhAgrees
open Go Go.ChangeShapes Go.WideShapes Go.ChangeAt Go.RowKit
set_option linter.unusedVariables false
set_option maxRecDepth 100000
theorem own : ownKnob Try.prog.godebug = none := by kernel_rfl
theorem laidOut : laidOutB Try.prog = true := fact_laid
theorem lifted (os : Os) (started : os.Started) (H : Type) (enc : TypeId × Value → H) :
    ReturnsInHanded {} Try.checked os 27 .any (Rows.ecdhAgreesSpec.pre6 enc Try.prog Try.f27 Rows.ecdhAgreesRow.domain false) (Rows.ecdhAgreesSpec.post enc Try.prog Try.f27 false true false false) := by
  refine returnsInHanded_of_change (C := Try.checked) own started (by kernel_rfl) Try.func27
    (ChangeSpec.witness6 (enc := enc) (C := Try.checked) false ⟨#[], #[.int .i64 0, .agg (Array.replicate 9 (.int .u64 0)), .agg (Array.replicate 9 (.int .u64 0)), .bool false], []⟩ 64 (by kernel_rfl) (by kernel_rfl) (by kernel_rfl) (by kernel_rfl)) ?_
  intro W base args ds gs before hval0 hW hcnd _
  have hval : ∀ (j : Nat) t v, Try.f27.params[j]? = some t → args[j]? = some v → Value.okWide Try.prog W .any base t v := hval0
  have hW' := hW
  obtain ⟨p, q, hA0, hV, rfl, hfz, hnd⟩ := hW
  have hA : DataW.TrodAll enc Try.prog W 0 (fun _ => true) true Try.f27.params.toList args.toList ds p := hA0
  rw [Try.params27] at hA hval
  obtain ⟨v0, vs0, d0, ds0, p0, q0, hargs, rfl, rfl, t0, r0⟩ := trodAll_cons hA
  obtain ⟨v1, vs1, d1, ds1, p1, q1, rfl, rfl, rfl, t1, r1⟩ := trodAll_cons r0
  obtain ⟨v2, vs2, d2, ds2, p2, q2, rfl, rfl, rfl, t2, r2⟩ := trodAll_cons r1
  obtain ⟨v3, vs3, d3, ds3, p3, q3, rfl, rfl, rfl, t3, r3⟩ := trodAll_cons r2
  obtain ⟨rfl, rfl, rfl⟩ := trodAll_nil r3
  obtain rfl : args = #[v0, v1, v2, v3] := by cases args; simp_all
  obtain ⟨rfl, rfl⟩ := trodVars_none hV
  have hltp := hW'.lt
  obtain ⟨x0, h0a, h0b, rfl⟩ := val_i64 Try.underlying3 (hval 0 3 v0 rfl rfl)
  obtain ⟨x1, h1, rfl⟩ := arg_nat Try.underlying33 rfl (by kernel_rfl) (by kernel_rfl) Try.underlying30 (hval 1 33 v1 rfl rfl)
  obtain ⟨x2, h2, rfl⟩ := arg_nat Try.underlying33 rfl (by kernel_rfl) (by kernel_rfl) Try.underlying30 (hval 2 33 v2 rfl rfl)
  obtain ⟨x3, rfl⟩ := val_bool Try.underlying4 (hval 3 4 v3 rfl rfl)
  clear hA0 hval0 hval
  refine (c_EcdhAgrees x0 x1 x2 x3 W h1 h2).mono fun e W' ⟨he, hB⟩ => ?_
  subst he
  exact ⟨_, rfl, _, _, _, [], (p0 ++ (p1 ++ (p2 ++ (p3 ++ [])))), [], hW', (trodAll_cons_mk (shut_bool Try.underlying4 _) trodAll_mk0), (trodAll_cons_mk (Below.trod laidOut (by kernel_rfl) (of_decide_eq_true (by kernel_rfl)) t0 hB (fun x hx => hltp x (by simp [hx]))) (trodAll_cons_mk (Below.trod laidOut (by kernel_rfl) (of_decide_eq_true (by kernel_rfl)) t1 hB (fun x hx => hltp x (by simp [hx]))) (trodAll_cons_mk (Below.trod laidOut (by kernel_rfl) (of_decide_eq_true (by kernel_rfl)) t2 hB (fun x hx => hltp x (by simp [hx]))) (trodAll_cons_mk (Below.trod laidOut (by kernel_rfl) (of_decide_eq_true (by kernel_rfl)) t3 hB (fun x hx => hltp x (by simp [hx]))) trodAll_mk0)))), rfl, hB.frame _, fun h => by cases h⟩
theorem k0 : (Rows.ecdhAgreesRow.wf (OpenSpec.ofChange Rows.ecdhAgreesSpec)) = true := by kernel_rfl
theorem k3 : (Try.f27.params.all (Try.prog.readableRec ·)) = true := by kernel_rfl
theorem k4 : (namedTie Try.prog Rows.ecdhAgreesRow.named Rows.ecdhAgreesSpec.vars) = true := by kernel_rfl
theorem k5 : ((Rows.ecdhAgreesRow.stops == [])) = true := by kernel_rfl
theorem k6 : ((Try.prog.stops == [])) = true := by kernel_rfl
theorem k7 : ((Rows.ecdhAgreesRow.knobs == [])) = true := by kernel_rfl
theorem k8 : ((Try.prog.stopKnobs == [])) = true := by kernel_rfl
theorem k9 : ((Rows.ecdhAgreesRow.inPlace == Try.prog.inPlace 27)) = true := by kernel_rfl
theorem k10 : ((Rows.ecdhAgreesRow.unfollowed == Try.prog.unfollowed 27)) = true := by kernel_rfl
theorem k11 : ((Rows.ecdhAgreesRow.recurses == Try.prog.recurses 27)) = true := by kernel_rfl
theorem k12 : ((Rows.ecdhAgreesRow.named == Try.prog.varsNamed 27)) = true := by kernel_rfl
theorem k13 : ((Rows.ecdhAgreesRow.maps == (Try.f27.params.toList ++ Rows.ecdhAgreesSpec.plain.varTypes Try.prog).any (Try.prog.mapsRec ·))) = true := by kernel_rfl
theorem k14 : ((Rows.ecdhAgreesRow.ifaces == (Try.f27.params.toList ++ Rows.ecdhAgreesSpec.plain.varTypes Try.prog).any (Try.prog.ifacesRec ·))) = true := by kernel_rfl
theorem k15 : ((Rows.ecdhAgreesRow.mapsOut == Try.prog.mapsAmong Try.f27.resultTypes.toList)) = true := by kernel_rfl
theorem k16 : ((Rows.ecdhAgreesRow.loops == (Try.f27.params.toList ++ Rows.ecdhAgreesSpec.plain.varTypes Try.prog).any (Try.prog.loopsFrom ·))) = true := by kernel_rfl
theorem k17 : ((Rows.ecdhAgreesRow.wideKeys == (Try.f27.params.toList ++ Rows.ecdhAgreesSpec.plain.varTypes Try.prog ++ Try.f27.resultTypes.toList).any (Try.prog.wideKeysFrom ·))) = true := by kernel_rfl
theorem k18 : (Rows.ecdhAgreesSpec.vars.all (Try.prog.varReadable ·)) = true := by kernel_rfl
theorem k19 : (Try.f27.resultTypes.all (fun t => Try.prog.readableRec t && decide (t < Try.prog.types.size))) = true := by kernel_rfl
theorem k20 : ((Rows.ecdhAgreesRow.ifacesOut == Try.f27.resultTypes.toList.any (Try.prog.ifacesRec ·))) = true := by kernel_rfl
theorem k21 : ((Rows.ecdhAgreesRow.loopsOut == Try.f27.resultTypes.toList.any (Try.prog.loopsFrom ·))) = true := by kernel_rfl
theorem k22 : ((Rows.ecdhAgreesRow.plainKeys == Try.prog.plainKeys)) = true := by kernel_rfl
theorem k23 : (Rows.ecdhAgreesRow.shortTexts.isNone) = true := by kernel_rfl
theorem k28 : ((Rows.ecdhAgreesRow.kinds == (if Rows.ecdhAgreesRow.domain.isEmpty then [] else Try.f27.params.toList.map fun t => match Try.prog.underlying t with | some (.int k) => some k | _ => none))) = true := by kernel_rfl
theorem k29 : ((Rows.ecdhAgreesRow.pinned == Rows.ecdhAgreesRow.pinnedBy)) = true := by kernel_rfl
theorem k30 : ((Rows.ecdhAgreesRow.veiled == (Try.f27.params.toList ++ Rows.ecdhAgreesSpec.plain.varTypes Try.prog ++ Try.f27.resultTypes.toList).any (Try.prog.veiledRec ·))) = true := by kernel_rfl
theorem k31 : (Rows.ecdhAgreesRow.veiledFits Try.prog Try.f27.params.toList (Try.f27.params.toList ++ Rows.ecdhAgreesSpec.plain.varTypes Try.prog ++ Try.f27.resultTypes.toList)) = true := by kernel_rfl
theorem closed : joinedFacts Try.prog 27 Try.f27 Rows.ecdhAgreesSpec Rows.ecdhAgreesRow = true := (and2 (and2 (and2 (and2 (and2 (and2 (and2 (and2 (and2 (and2 (and2 (and2 (and2 (and2 (and2 (and2 (and2 (and2 (and2 (and2 (and2 (and2 (and2 (and2 (and2 (and2 (and2 (and2 (and2 (and2 (and2 k0 fact_laid) fact_maps) k3) k4) k5) k6) k7) k8) k9) k10) k11) k12) k13) k14) k15) k16) k17) k18) k19) k20) k21) k22) k23) fact_heard) fact_enter) fact_lifts) fact_make) k28) k29) k30) k31)
theorem over : Rows.ecdhAgreesRow.holds Try.pinned (OpenSpec.ofChange Rows.ecdhAgreesSpec) :=
  OpenClaim.holds_of_wide 27 Try.f27 rfl rfl rfl rfl rfl rfl rfl ⟨rfl, rfl, rfl, rfl, rfl⟩ rfl rfl rfl rfl rfl (by kernel_rfl) Try.func27 closed
    (of_decide_eq_true (by kernel_rfl)) (by unfold Func.isWrapper; first | (rw [if_pos (by decide +kernel)]; kernel_rfl) | (rw [if_neg (by decide +kernel)]; exact ⟨rfl, rfl⟩))
    (fun os started H enc _ => lifted os started H enc)
end Go.Proofs.Ytlmiolnccgjjjaa.ecdhAgrees
namespace Go.Proofs.Ytlmiolnccgjjjaa
theorem ecdhAgrees_proved : Rows.EcdhAgreesSaid := ecdhAgrees.over
#print axioms ecdhAgrees_proved
end Go.Proofs.Ytlmiolnccgjjjaa
