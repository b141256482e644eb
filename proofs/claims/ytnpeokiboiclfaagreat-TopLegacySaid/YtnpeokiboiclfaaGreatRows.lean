/-
  No cell of these rows narrows 'for every input' (looked for: loops, veiled, ifaces, maps, wideKeys, modest, calm, conditions, laid).
  DERIVED. THE GIVEN ROWS OF THIS SEAT. 6 by the template 'for every input the law returns true; each argument reads behind the call as it read before'; 0 by the template 'total and deterministic' (their statements: YtnpeokiboiclfaaGreatTotals.lean).
  GIVEN WITH THE SEED: the statements are not yours to turn. If you find one false, say at which input.
  Laid BY PROGRAM, IN A SANDBOX (cutbox-rows.mjs): the forced cells as the released guide's own fill.sh prints them over the translation ff13f8b406f96c45… (all of the seat's roots in one cut). By AI agents, Wed Nov 11 2026. No macro, syntax, notation, axiom, sorry.
-/
import Derived.Test.YtnpeokiboiclfaaGreatChecked
import GoSem.Claim
import GoSem.ClaimJoined
import GoSem.ClaimMapViews
import Derived.JoinedTies
import Derived.KernelRfl
namespace Go.Proofs.YtnpeokiboiclfaaGreat
/- THE CELL 'sum', in the pinned program and in every row, IS THE sha256 OF THE DUMP (.gsa) THAT YtnpeokiboiclfaaGreatProg.lean LOADS. Nothing in Lean hashes anything: it is a label: what it is worth is what the hold of that sum in a sandbox is worth. -/
noncomputable def Tryz.pinned : Pinned := { name := "ytnpeokiboiclfaagreat", sum := "ff13f8b406f96c45a297452ffaecf3fb4c2216ade54b15d178f5024b5126c794", checked := Tryz.checked }
namespace Rows
def none {H : Type} : Left H := { results := [], args := [] }

/-- 'curvettop.TopForms': WHATEVER THE INPUT: true; the input reads as it did. -/
def topFormsSpec : ChangeSpec := { name := "topForms", fn := fun _ => fun
  | [d1, d2, d3] => { results := [.lit (.bool true)], args := [d1, d2, d3] }
  | _ => none }
def topFormsRow : OpenClaim := { program := "ytnpeokiboiclfaagreat", sum := "ff13f8b406f96c45a297452ffaecf3fb4c2216ade54b15d178f5024b5126c794", func := "curvet/curvettop.TopForms", spec := "topForms", inPlace := ["math/bits.Sub64", "math/bits.Add64", "internal/abi.NoEscape", "internal/bytealg.MakeNoZero"], unfollowed := true, recurses := true, named := ["math/bits.divideError", "math/bits.overflowError"], apart := false }
def TopFormsSaid : Prop := topFormsRow.holds Tryz.pinned (OpenSpec.ofChange topFormsSpec)

/-- ITS FALSE NEIGHBOUR: 'it returns false'. Refute it at one input. -/
def topFormsWrong : ChangeSpec := { name := "topForms", fn := fun _ => fun
  | [d1, d2, d3] => { results := [.lit (.bool false)], args := [d1, d2, d3] }
  | _ => none }
def TopFormsWrongFalsely : Prop := topFormsRow.holds Tryz.pinned (OpenSpec.ofChange topFormsWrong)

/-- 'curvettop.TopCurves': WHATEVER THE INPUT: true; the input reads as it did. -/
def topCurvesSpec : ChangeSpec := { name := "topCurves", fn := fun _ => fun
  | [d1, d2, d3] => { results := [.lit (.bool true)], args := [d1, d2, d3] }
  | _ => none }
def topCurvesRow : OpenClaim := { program := "ytnpeokiboiclfaagreat", sum := "ff13f8b406f96c45a297452ffaecf3fb4c2216ade54b15d178f5024b5126c794", func := "curvet/curvettop.TopCurves", spec := "topCurves", inPlace := ["math/bits.Sub64", "math/bits.Add64", "internal/abi.NoEscape", "internal/bytealg.MakeNoZero"], unfollowed := true, recurses := true, named := ["math/bits.divideError", "math/bits.overflowError"], apart := false }
def TopCurvesSaid : Prop := topCurvesRow.holds Tryz.pinned (OpenSpec.ofChange topCurvesSpec)

/-- ITS FALSE NEIGHBOUR: 'it returns false'. Refute it at one input. -/
def topCurvesWrong : ChangeSpec := { name := "topCurves", fn := fun _ => fun
  | [d1, d2, d3] => { results := [.lit (.bool false)], args := [d1, d2, d3] }
  | _ => none }
def TopCurvesWrongFalsely : Prop := topCurvesRow.holds Tryz.pinned (OpenSpec.ofChange topCurvesWrong)

/-- 'curvettop.TopLegacy': WHATEVER THE INPUT: true; the input reads as it did. -/
def topLegacySpec : ChangeSpec := { name := "topLegacy", fn := fun _ => fun
  | [d1, d2, d3] => { results := [.lit (.bool true)], args := [d1, d2, d3] }
  | _ => none }
def topLegacyRow : OpenClaim := { program := "ytnpeokiboiclfaagreat", sum := "ff13f8b406f96c45a297452ffaecf3fb4c2216ade54b15d178f5024b5126c794", func := "curvet/curvettop.TopLegacy", spec := "topLegacy", inPlace := ["math/bits.Sub64", "math/bits.Add64", "internal/abi.NoEscape", "internal/bytealg.MakeNoZero"], unfollowed := true, recurses := true, named := ["math/bits.divideError", "math/bits.overflowError"], apart := false }
def TopLegacySaid : Prop := topLegacyRow.holds Tryz.pinned (OpenSpec.ofChange topLegacySpec)

/-- ITS FALSE NEIGHBOUR: 'it returns false'. Refute it at one input. -/
def topLegacyWrong : ChangeSpec := { name := "topLegacy", fn := fun _ => fun
  | [d1, d2, d3] => { results := [.lit (.bool false)], args := [d1, d2, d3] }
  | _ => none }
def TopLegacyWrongFalsely : Prop := topLegacyRow.holds Tryz.pinned (OpenSpec.ofChange topLegacyWrong)

/-- 'curvettop.TopImports': WHATEVER THE INPUT: true; the input reads as it did. -/
def topImportsSpec : ChangeSpec := { name := "topImports", fn := fun _ => fun
  | [d1, d2, d3, d4, d5] => { results := [.lit (.bool true)], args := [d1, d2, d3, d4, d5] }
  | _ => none }
def topImportsRow : OpenClaim := { program := "ytnpeokiboiclfaagreat", sum := "ff13f8b406f96c45a297452ffaecf3fb4c2216ade54b15d178f5024b5126c794", func := "curvet/curvettop.TopImports", spec := "topImports", inPlace := ["math/bits.Sub64", "math/bits.Add64", "internal/abi.NoEscape", "internal/bytealg.MakeNoZero"], unfollowed := true, recurses := true, named := ["math/bits.divideError", "math/bits.overflowError"], apart := false }
def TopImportsSaid : Prop := topImportsRow.holds Tryz.pinned (OpenSpec.ofChange topImportsSpec)

/-- ITS FALSE NEIGHBOUR: 'it returns false'. Refute it at one input. -/
def topImportsWrong : ChangeSpec := { name := "topImports", fn := fun _ => fun
  | [d1, d2, d3, d4, d5] => { results := [.lit (.bool false)], args := [d1, d2, d3, d4, d5] }
  | _ => none }
def TopImportsWrongFalsely : Prop := topImportsRow.holds Tryz.pinned (OpenSpec.ofChange topImportsWrong)

/-- 'curvettop.TopVerified': WHATEVER THE INPUT: true; the input reads as it did. -/
def topVerifiedSpec : ChangeSpec := { name := "topVerified", fn := fun _ => fun
  | [d1, d2, d3, d4, d5, d6] => { results := [.lit (.bool true)], args := [d1, d2, d3, d4, d5, d6] }
  | _ => none }
def topVerifiedRow : OpenClaim := { program := "ytnpeokiboiclfaagreat", sum := "ff13f8b406f96c45a297452ffaecf3fb4c2216ade54b15d178f5024b5126c794", func := "curvet/curvettop.TopVerified", spec := "topVerified", inPlace := ["math/bits.Sub64", "math/bits.Add64", "internal/abi.NoEscape", "internal/bytealg.MakeNoZero"], unfollowed := true, recurses := true, named := ["math/bits.divideError", "math/bits.overflowError"], apart := false }
def TopVerifiedSaid : Prop := topVerifiedRow.holds Tryz.pinned (OpenSpec.ofChange topVerifiedSpec)

/-- ITS FALSE NEIGHBOUR: 'it returns false'. Refute it at one input. -/
def topVerifiedWrong : ChangeSpec := { name := "topVerified", fn := fun _ => fun
  | [d1, d2, d3, d4, d5, d6] => { results := [.lit (.bool false)], args := [d1, d2, d3, d4, d5, d6] }
  | _ => none }
def TopVerifiedWrongFalsely : Prop := topVerifiedRow.holds Tryz.pinned (OpenSpec.ofChange topVerifiedWrong)

/-- 'curvettop.TopTiny': WHATEVER THE INPUT: true; the input reads as it did. -/
def topTinySpec : ChangeSpec := { name := "topTiny", fn := fun _ => fun
  | [d1, d2] => { results := [.lit (.bool true)], args := [d1, d2] }
  | _ => none }
def topTinyRow : OpenClaim := { program := "ytnpeokiboiclfaagreat", sum := "ff13f8b406f96c45a297452ffaecf3fb4c2216ade54b15d178f5024b5126c794", func := "curvet/curvettop.TopTiny", spec := "topTiny", inPlace := ["math/bits.Sub64", "math/bits.Add64", "internal/abi.NoEscape", "internal/bytealg.MakeNoZero"], unfollowed := true, recurses := true, named := ["math/bits.divideError", "math/bits.overflowError"], apart := false }
def TopTinySaid : Prop := topTinyRow.holds Tryz.pinned (OpenSpec.ofChange topTinySpec)

/-- ITS FALSE NEIGHBOUR: 'it returns false'. Refute it at one input. -/
def topTinyWrong : ChangeSpec := { name := "topTiny", fn := fun _ => fun
  | [d1, d2] => { results := [.lit (.bool false)], args := [d1, d2] }
  | _ => none }
def TopTinyWrongFalsely : Prop := topTinyRow.holds Tryz.pinned (OpenSpec.ofChange topTinyWrong)

/- THE SECOND FORM. 'bulk': how many values and letters a reading holds, each counted each time it is reached (what is shared counts as often as it is met; a slice's spare places count too). A statement '..UptoSaid' is the law's where the arguments, and the package variables that the reading takes, are together of bulk at most 1048576: NARROWER than '..Said'. Prove '..Said' where nothing that the law and all that it calls make is longer than what came in: it says more and counts as full. Else prove '..UptoSaid'. A law counts once. -/
mutual
def uptoBulk {H : Type} : DataW H → Nat
  | .lit (.string bytes) => bytes.length + 1
  | .lit _ => 1
  | .nil => 1
  | .ptr d => uptoBulk d + 1
  | .slice elems spare => uptoBulkAll elems + uptoBulkAll spare + 1
  | .agg parts => uptoBulkAll parts + 1
  | .iface _ d => uptoBulk d + 1
  | .map entries => uptoBulkEntries entries + 1
  | .held _ => 1
def uptoBulkAll {H : Type} : List (DataW H) → Nat
  | [] => 0
  | d :: r => uptoBulk d + uptoBulkAll r
def uptoBulkEntries {H : Type} : List (Lit × DataW H) → Nat
  | [] => 0
  | x :: r => uptoBulkEntry x + uptoBulkEntries r
def uptoBulkEntry {H : Type} : Lit × DataW H → Nat
  | (.string bytes, d) => bytes.length + uptoBulk d + 1
  | (_, d) => uptoBulk d + 1
 end
def uptoSmall : (H : Type) → List (DataW H) → Bool := fun _ ds => decide (uptoBulkAll ds ≤ 1048576)
def OpenSpec.upto (s : _root_.Go.ChangeSpec) : _root_.Go.OpenSpec := { _root_.Go.OpenSpec.ofChange s with cond := some uptoSmall }

/-- 'curvettop.TopForms', WHERE WHAT IT READS IS OF BULK AT MOST 1048576: true; the input reads as it did. -/
def topFormsUptoRow : OpenClaim := { program := "ytnpeokiboiclfaagreat", sum := "ff13f8b406f96c45a297452ffaecf3fb4c2216ade54b15d178f5024b5126c794", func := "curvet/curvettop.TopForms", spec := "topForms", inPlace := ["math/bits.Sub64", "math/bits.Add64", "internal/abi.NoEscape", "internal/bytealg.MakeNoZero"], unfollowed := true, recurses := true, named := ["math/bits.divideError", "math/bits.overflowError"], apart := false, narrowed := true }
def TopFormsUptoSaid : Prop := topFormsUptoRow.holds Tryz.pinned (OpenSpec.upto topFormsSpec)

/-- 'curvettop.TopCurves', WHERE WHAT IT READS IS OF BULK AT MOST 1048576: true; the input reads as it did. -/
def topCurvesUptoRow : OpenClaim := { program := "ytnpeokiboiclfaagreat", sum := "ff13f8b406f96c45a297452ffaecf3fb4c2216ade54b15d178f5024b5126c794", func := "curvet/curvettop.TopCurves", spec := "topCurves", inPlace := ["math/bits.Sub64", "math/bits.Add64", "internal/abi.NoEscape", "internal/bytealg.MakeNoZero"], unfollowed := true, recurses := true, named := ["math/bits.divideError", "math/bits.overflowError"], apart := false, narrowed := true }
def TopCurvesUptoSaid : Prop := topCurvesUptoRow.holds Tryz.pinned (OpenSpec.upto topCurvesSpec)

/-- 'curvettop.TopLegacy', WHERE WHAT IT READS IS OF BULK AT MOST 1048576: true; the input reads as it did. -/
def topLegacyUptoRow : OpenClaim := { program := "ytnpeokiboiclfaagreat", sum := "ff13f8b406f96c45a297452ffaecf3fb4c2216ade54b15d178f5024b5126c794", func := "curvet/curvettop.TopLegacy", spec := "topLegacy", inPlace := ["math/bits.Sub64", "math/bits.Add64", "internal/abi.NoEscape", "internal/bytealg.MakeNoZero"], unfollowed := true, recurses := true, named := ["math/bits.divideError", "math/bits.overflowError"], apart := false, narrowed := true }
def TopLegacyUptoSaid : Prop := topLegacyUptoRow.holds Tryz.pinned (OpenSpec.upto topLegacySpec)

/-- 'curvettop.TopImports', WHERE WHAT IT READS IS OF BULK AT MOST 1048576: true; the input reads as it did. -/
def topImportsUptoRow : OpenClaim := { program := "ytnpeokiboiclfaagreat", sum := "ff13f8b406f96c45a297452ffaecf3fb4c2216ade54b15d178f5024b5126c794", func := "curvet/curvettop.TopImports", spec := "topImports", inPlace := ["math/bits.Sub64", "math/bits.Add64", "internal/abi.NoEscape", "internal/bytealg.MakeNoZero"], unfollowed := true, recurses := true, named := ["math/bits.divideError", "math/bits.overflowError"], apart := false, narrowed := true }
def TopImportsUptoSaid : Prop := topImportsUptoRow.holds Tryz.pinned (OpenSpec.upto topImportsSpec)

/-- 'curvettop.TopVerified', WHERE WHAT IT READS IS OF BULK AT MOST 1048576: true; the input reads as it did. -/
def topVerifiedUptoRow : OpenClaim := { program := "ytnpeokiboiclfaagreat", sum := "ff13f8b406f96c45a297452ffaecf3fb4c2216ade54b15d178f5024b5126c794", func := "curvet/curvettop.TopVerified", spec := "topVerified", inPlace := ["math/bits.Sub64", "math/bits.Add64", "internal/abi.NoEscape", "internal/bytealg.MakeNoZero"], unfollowed := true, recurses := true, named := ["math/bits.divideError", "math/bits.overflowError"], apart := false, narrowed := true }
def TopVerifiedUptoSaid : Prop := topVerifiedUptoRow.holds Tryz.pinned (OpenSpec.upto topVerifiedSpec)

/-- 'curvettop.TopTiny', WHERE WHAT IT READS IS OF BULK AT MOST 1048576: true; the input reads as it did. -/
def topTinyUptoRow : OpenClaim := { program := "ytnpeokiboiclfaagreat", sum := "ff13f8b406f96c45a297452ffaecf3fb4c2216ade54b15d178f5024b5126c794", func := "curvet/curvettop.TopTiny", spec := "topTiny", inPlace := ["math/bits.Sub64", "math/bits.Add64", "internal/abi.NoEscape", "internal/bytealg.MakeNoZero"], unfollowed := true, recurses := true, named := ["math/bits.divideError", "math/bits.overflowError"], apart := false, narrowed := true }
def TopTinyUptoSaid : Prop := topTinyUptoRow.holds Tryz.pinned (OpenSpec.upto topTinySpec)

end Rows
end Go.Proofs.YtnpeokiboiclfaaGreat
