/-
  No cell of these rows narrows 'for every input' (looked for: loops, veiled, ifaces, maps, wideKeys, modest, calm, conditions, laid).
  DERIVED. THE GIVEN ROWS OF THIS SEAT. 25 by the template 'for every input the law returns true; each argument reads behind the call as it read before'; 0 by the template 'total and deterministic' (their statements: YtlmiolnccgjjjaaTotals.lean).
  GIVEN WITH THE SEED: the statements are not yours to turn. If you find one false, say at which input.
  Laid BY PROGRAM, IN A SANDBOX (cutbox-rows.mjs): the forced cells as the released guide's own fill.sh prints them over the translation e7016da8e5a2e60f… (all of the seat's roots in one cut). By AI agents, Wed Nov 11 2026. No macro, syntax, notation, axiom, sorry.
-/
import Derived.Test.YtlmiolnccgjjjaaChecked
import GoSem.Claim
import GoSem.ClaimJoined
import GoSem.ClaimMapViews
import Derived.JoinedTies
import Derived.KernelRfl
namespace Go.Proofs.Ytlmiolnccgjjjaa
/- THE CELL 'sum', in the pinned program and in every row, IS THE sha256 OF THE DUMP (.gsa) THAT YtlmiolnccgjjjaaProg.lean LOADS. Nothing in Lean hashes anything: it is a label: what it is worth is what the hold of that sum in a sandbox is worth. -/
noncomputable def Try.pinned : Pinned := { name := "ytlmiolnccgjjjaa", sum := "e7016da8e5a2e60fe99764d4ed3dc3a3773b342c16525251ce82cafcb6bf0c10", checked := Try.checked }
namespace Rows
def none {H : Type} : Left H := { results := [], args := [] }

/-- 'curvetlaw16.TableSizes': WHATEVER THE INPUT: true; the input reads as it did. -/
def tableSizesSpec : ChangeSpec := { name := "tableSizes", fn := fun _ => fun
  | [d1, d2, d3] => { results := [.lit (.bool true)], args := [d1, d2, d3] }
  | _ => none }
def tableSizesRow : OpenClaim := { program := "ytlmiolnccgjjjaa", sum := "e7016da8e5a2e60fe99764d4ed3dc3a3773b342c16525251ce82cafcb6bf0c10", func := "curvet/curvetlaw16.TableSizes", spec := "tableSizes", inPlace := ["math/bits.Sub64", "math/bits.Add64"], unfollowed := true, recurses := true, named := ["math/bits.divideError", "math/bits.overflowError"], apart := false }
def TableSizesSaid : Prop := tableSizesRow.holds Try.pinned (OpenSpec.ofChange tableSizesSpec)

/-- ITS FALSE NEIGHBOUR: 'it returns false'. Refute it at one input. -/
def tableSizesWrong : ChangeSpec := { name := "tableSizes", fn := fun _ => fun
  | [d1, d2, d3] => { results := [.lit (.bool false)], args := [d1, d2, d3] }
  | _ => none }
def TableSizesWrongFalsely : Prop := tableSizesRow.holds Try.pinned (OpenSpec.ofChange tableSizesWrong)

/-- 'curvetlaw16.TableNil': WHATEVER THE INPUT: true; the input reads as it did. -/
def tableNilSpec : ChangeSpec := { name := "tableNil", fn := fun _ => fun
  | [d1, d2, d3] => { results := [.lit (.bool true)], args := [d1, d2, d3] }
  | _ => none }
def tableNilRow : OpenClaim := { program := "ytlmiolnccgjjjaa", sum := "e7016da8e5a2e60fe99764d4ed3dc3a3773b342c16525251ce82cafcb6bf0c10", func := "curvet/curvetlaw16.TableNil", spec := "tableNil", inPlace := ["math/bits.Sub64", "math/bits.Add64"], unfollowed := true, recurses := true, named := ["math/bits.divideError", "math/bits.overflowError"], apart := false }
def TableNilSaid : Prop := tableNilRow.holds Try.pinned (OpenSpec.ofChange tableNilSpec)

/-- ITS FALSE NEIGHBOUR: 'it returns false'. Refute it at one input. -/
def tableNilWrong : ChangeSpec := { name := "tableNil", fn := fun _ => fun
  | [d1, d2, d3] => { results := [.lit (.bool false)], args := [d1, d2, d3] }
  | _ => none }
def TableNilWrongFalsely : Prop := tableNilRow.holds Try.pinned (OpenSpec.ofChange tableNilWrong)

/-- 'curvetlaw21.Sec1s': WHATEVER THE INPUT: true; the input reads as it did. -/
def sec1sSpec : ChangeSpec := { name := "sec1s", fn := fun _ => fun
  | [d1, d2, d3, d4] => { results := [.lit (.bool true)], args := [d1, d2, d3, d4] }
  | _ => none }
def sec1sRow : OpenClaim := { program := "ytlmiolnccgjjjaa", sum := "e7016da8e5a2e60fe99764d4ed3dc3a3773b342c16525251ce82cafcb6bf0c10", func := "curvet/curvetlaw21.Sec1s", spec := "sec1s", inPlace := ["math/bits.Sub64", "math/bits.Add64"], named := ["math/bits.divideError", "math/bits.overflowError"], apart := false }
def Sec1sSaid : Prop := sec1sRow.holds Try.pinned (OpenSpec.ofChange sec1sSpec)

/-- ITS FALSE NEIGHBOUR: 'it returns false'. Refute it at one input. -/
def sec1sWrong : ChangeSpec := { name := "sec1s", fn := fun _ => fun
  | [d1, d2, d3, d4] => { results := [.lit (.bool false)], args := [d1, d2, d3, d4] }
  | _ => none }
def Sec1sWrongFalsely : Prop := sec1sRow.holds Try.pinned (OpenSpec.ofChange sec1sWrong)

/-- 'curvetlaw21.Sec1Back': WHATEVER THE INPUT: true; the input reads as it did. -/
def sec1BackSpec : ChangeSpec := { name := "sec1Back", fn := fun _ => fun
  | [d1, d2, d3, d4] => { results := [.lit (.bool true)], args := [d1, d2, d3, d4] }
  | _ => none }
def sec1BackRow : OpenClaim := { program := "ytlmiolnccgjjjaa", sum := "e7016da8e5a2e60fe99764d4ed3dc3a3773b342c16525251ce82cafcb6bf0c10", func := "curvet/curvetlaw21.Sec1Back", spec := "sec1Back", inPlace := ["math/bits.Sub64", "math/bits.Add64"], named := ["math/bits.divideError", "math/bits.overflowError"], apart := false }
def Sec1BackSaid : Prop := sec1BackRow.holds Try.pinned (OpenSpec.ofChange sec1BackSpec)

/-- ITS FALSE NEIGHBOUR: 'it returns false'. Refute it at one input. -/
def sec1BackWrong : ChangeSpec := { name := "sec1Back", fn := fun _ => fun
  | [d1, d2, d3, d4] => { results := [.lit (.bool false)], args := [d1, d2, d3, d4] }
  | _ => none }
def Sec1BackWrongFalsely : Prop := sec1BackRow.holds Try.pinned (OpenSpec.ofChange sec1BackWrong)

/-- 'curvetlaw21.Sec1Tiny': WHATEVER THE INPUT: true; the input reads as it did. -/
def sec1TinySpec : ChangeSpec := { name := "sec1Tiny", fn := fun _ => fun
  | [d1, d2] => { results := [.lit (.bool true)], args := [d1, d2] }
  | _ => none }
def sec1TinyRow : OpenClaim := { program := "ytlmiolnccgjjjaa", sum := "e7016da8e5a2e60fe99764d4ed3dc3a3773b342c16525251ce82cafcb6bf0c10", func := "curvet/curvetlaw21.Sec1Tiny", spec := "sec1Tiny", inPlace := ["math/bits.Sub64", "math/bits.Add64"], named := ["math/bits.divideError", "math/bits.overflowError"], apart := false }
def Sec1TinySaid : Prop := sec1TinyRow.holds Try.pinned (OpenSpec.ofChange sec1TinySpec)

/-- ITS FALSE NEIGHBOUR: 'it returns false'. Refute it at one input. -/
def sec1TinyWrong : ChangeSpec := { name := "sec1Tiny", fn := fun _ => fun
  | [d1, d2] => { results := [.lit (.bool false)], args := [d1, d2] }
  | _ => none }
def Sec1TinyWrongFalsely : Prop := sec1TinyRow.holds Try.pinned (OpenSpec.ofChange sec1TinyWrong)

/-- 'curvetlaw21.Sec1Both': WHATEVER THE INPUT: true; the input reads as it did. -/
def sec1BothSpec : ChangeSpec := { name := "sec1Both", fn := fun _ => fun
  | [d1, d2] => { results := [.lit (.bool true)], args := [d1, d2] }
  | _ => none }
def sec1BothRow : OpenClaim := { program := "ytlmiolnccgjjjaa", sum := "e7016da8e5a2e60fe99764d4ed3dc3a3773b342c16525251ce82cafcb6bf0c10", func := "curvet/curvetlaw21.Sec1Both", spec := "sec1Both", inPlace := ["math/bits.Sub64", "math/bits.Add64"], named := ["math/bits.divideError", "math/bits.overflowError"], apart := false }
def Sec1BothSaid : Prop := sec1BothRow.holds Try.pinned (OpenSpec.ofChange sec1BothSpec)

/-- ITS FALSE NEIGHBOUR: 'it returns false'. Refute it at one input. -/
def sec1BothWrong : ChangeSpec := { name := "sec1Both", fn := fun _ => fun
  | [d1, d2] => { results := [.lit (.bool false)], args := [d1, d2] }
  | _ => none }
def Sec1BothWrongFalsely : Prop := sec1BothRow.holds Try.pinned (OpenSpec.ofChange sec1BothWrong)

/-- 'curvetlaw21.Sec1Lengths': WHATEVER THE INPUT: true; the input reads as it did. -/
def sec1LengthsSpec : ChangeSpec := { name := "sec1Lengths", fn := fun _ => fun
  | [d1, d2, d3, d4] => { results := [.lit (.bool true)], args := [d1, d2, d3, d4] }
  | _ => none }
def sec1LengthsRow : OpenClaim := { program := "ytlmiolnccgjjjaa", sum := "e7016da8e5a2e60fe99764d4ed3dc3a3773b342c16525251ce82cafcb6bf0c10", func := "curvet/curvetlaw21.Sec1Lengths", spec := "sec1Lengths", inPlace := ["math/bits.Sub64", "math/bits.Add64"], named := ["math/bits.divideError", "math/bits.overflowError"], apart := false }
def Sec1LengthsSaid : Prop := sec1LengthsRow.holds Try.pinned (OpenSpec.ofChange sec1LengthsSpec)

/-- ITS FALSE NEIGHBOUR: 'it returns false'. Refute it at one input. -/
def sec1LengthsWrong : ChangeSpec := { name := "sec1Lengths", fn := fun _ => fun
  | [d1, d2, d3, d4] => { results := [.lit (.bool false)], args := [d1, d2, d3, d4] }
  | _ => none }
def Sec1LengthsWrongFalsely : Prop := sec1LengthsRow.holds Try.pinned (OpenSpec.ofChange sec1LengthsWrong)

/-- 'curvetlaw21.Sec1Whole': WHATEVER THE INPUT: true; the input reads as it did. -/
def sec1WholeSpec : ChangeSpec := { name := "sec1Whole", fn := fun _ => fun
  | [d] => { results := [.lit (.bool true)], args := [d] }
  | _ => none }
def sec1WholeRow : OpenClaim := { program := "ytlmiolnccgjjjaa", sum := "e7016da8e5a2e60fe99764d4ed3dc3a3773b342c16525251ce82cafcb6bf0c10", func := "curvet/curvetlaw21.Sec1Whole", spec := "sec1Whole", inPlace := ["math/bits.Sub64", "math/bits.Add64"], named := ["math/bits.divideError", "math/bits.overflowError"], apart := false }
def Sec1WholeSaid : Prop := sec1WholeRow.holds Try.pinned (OpenSpec.ofChange sec1WholeSpec)

/-- ITS FALSE NEIGHBOUR: 'it returns false'. Refute it at one input. -/
def sec1WholeWrong : ChangeSpec := { name := "sec1Whole", fn := fun _ => fun
  | [d] => { results := [.lit (.bool false)], args := [d] }
  | _ => none }
def Sec1WholeWrongFalsely : Prop := sec1WholeRow.holds Try.pinned (OpenSpec.ofChange sec1WholeWrong)

/-- 'curvetlaw21.Sec1Great': WHATEVER THE INPUT: true; the input reads as it did. -/
def sec1GreatSpec : ChangeSpec := { name := "sec1Great", fn := fun _ => fun
  | [d1, d2, d3] => { results := [.lit (.bool true)], args := [d1, d2, d3] }
  | _ => none }
def sec1GreatRow : OpenClaim := { program := "ytlmiolnccgjjjaa", sum := "e7016da8e5a2e60fe99764d4ed3dc3a3773b342c16525251ce82cafcb6bf0c10", func := "curvet/curvetlaw21.Sec1Great", spec := "sec1Great", inPlace := ["math/bits.Sub64", "math/bits.Add64"], named := ["math/bits.divideError", "math/bits.overflowError"], apart := false }
def Sec1GreatSaid : Prop := sec1GreatRow.holds Try.pinned (OpenSpec.ofChange sec1GreatSpec)

/-- ITS FALSE NEIGHBOUR: 'it returns false'. Refute it at one input. -/
def sec1GreatWrong : ChangeSpec := { name := "sec1Great", fn := fun _ => fun
  | [d1, d2, d3] => { results := [.lit (.bool false)], args := [d1, d2, d3] }
  | _ => none }
def Sec1GreatWrongFalsely : Prop := sec1GreatRow.holds Try.pinned (OpenSpec.ofChange sec1GreatWrong)

/-- 'curvetlaw16.Tables': WHATEVER THE INPUT: true; the input reads as it did. -/
def tablesSpec : ChangeSpec := { name := "tables", fn := fun _ => fun
  | [d1, d2, d3, d4] => { results := [.lit (.bool true)], args := [d1, d2, d3, d4] }
  | _ => none }
def tablesRow : OpenClaim := { program := "ytlmiolnccgjjjaa", sum := "e7016da8e5a2e60fe99764d4ed3dc3a3773b342c16525251ce82cafcb6bf0c10", func := "curvet/curvetlaw16.Tables", spec := "tables", inPlace := ["math/bits.Sub64", "math/bits.Add64"], unfollowed := true, recurses := true, named := ["math/bits.divideError", "math/bits.overflowError"], apart := false }
def TablesSaid : Prop := tablesRow.holds Try.pinned (OpenSpec.ofChange tablesSpec)

/-- ITS FALSE NEIGHBOUR: 'it returns false'. Refute it at one input. -/
def tablesWrong : ChangeSpec := { name := "tables", fn := fun _ => fun
  | [d1, d2, d3, d4] => { results := [.lit (.bool false)], args := [d1, d2, d3, d4] }
  | _ => none }
def TablesWrongFalsely : Prop := tablesRow.holds Try.pinned (OpenSpec.ofChange tablesWrong)

/-- 'curvetlaw19.Bases': WHATEVER THE INPUT: true; the input reads as it did. -/
def basesSpec : ChangeSpec := { name := "bases", fn := fun _ => fun
  | [d1, d2] => { results := [.lit (.bool true)], args := [d1, d2] }
  | _ => none }
def basesRow : OpenClaim := { program := "ytlmiolnccgjjjaa", sum := "e7016da8e5a2e60fe99764d4ed3dc3a3773b342c16525251ce82cafcb6bf0c10", func := "curvet/curvetlaw19.Bases", spec := "bases", inPlace := ["math/bits.Sub64", "math/bits.Add64"], unfollowed := true, recurses := true, named := ["math/bits.divideError", "math/bits.overflowError"], apart := false }
def BasesSaid : Prop := basesRow.holds Try.pinned (OpenSpec.ofChange basesSpec)

/-- ITS FALSE NEIGHBOUR: 'it returns false'. Refute it at one input. -/
def basesWrong : ChangeSpec := { name := "bases", fn := fun _ => fun
  | [d1, d2] => { results := [.lit (.bool false)], args := [d1, d2] }
  | _ => none }
def BasesWrongFalsely : Prop := basesRow.holds Try.pinned (OpenSpec.ofChange basesWrong)

/-- 'curvetlaw19.BaseNil': WHATEVER THE INPUT: true; the input reads as it did. -/
def baseNilSpec : ChangeSpec := { name := "baseNil", fn := fun _ => fun
  | [d1, d2] => { results := [.lit (.bool true)], args := [d1, d2] }
  | _ => none }
def baseNilRow : OpenClaim := { program := "ytlmiolnccgjjjaa", sum := "e7016da8e5a2e60fe99764d4ed3dc3a3773b342c16525251ce82cafcb6bf0c10", func := "curvet/curvetlaw19.BaseNil", spec := "baseNil", inPlace := ["math/bits.Sub64", "math/bits.Add64"], unfollowed := true, recurses := true, named := ["math/bits.divideError", "math/bits.overflowError"], apart := false }
def BaseNilSaid : Prop := baseNilRow.holds Try.pinned (OpenSpec.ofChange baseNilSpec)

/-- ITS FALSE NEIGHBOUR: 'it returns false'. Refute it at one input. -/
def baseNilWrong : ChangeSpec := { name := "baseNil", fn := fun _ => fun
  | [d1, d2] => { results := [.lit (.bool false)], args := [d1, d2] }
  | _ => none }
def BaseNilWrongFalsely : Prop := baseNilRow.holds Try.pinned (OpenSpec.ofChange baseNilWrong)

/-- 'curvetlaw16.TableBlind': WHATEVER THE INPUT: true; the input reads as it did. -/
def tableBlindSpec : ChangeSpec := { name := "tableBlind", fn := fun _ => fun
  | [d1, d2, d3, d4] => { results := [.lit (.bool true)], args := [d1, d2, d3, d4] }
  | _ => none }
def tableBlindRow : OpenClaim := { program := "ytlmiolnccgjjjaa", sum := "e7016da8e5a2e60fe99764d4ed3dc3a3773b342c16525251ce82cafcb6bf0c10", func := "curvet/curvetlaw16.TableBlind", spec := "tableBlind", inPlace := ["math/bits.Sub64", "math/bits.Add64"], unfollowed := true, recurses := true, named := ["math/bits.divideError", "math/bits.overflowError"], apart := false }
def TableBlindSaid : Prop := tableBlindRow.holds Try.pinned (OpenSpec.ofChange tableBlindSpec)

/-- ITS FALSE NEIGHBOUR: 'it returns false'. Refute it at one input. -/
def tableBlindWrong : ChangeSpec := { name := "tableBlind", fn := fun _ => fun
  | [d1, d2, d3, d4] => { results := [.lit (.bool false)], args := [d1, d2, d3, d4] }
  | _ => none }
def TableBlindWrongFalsely : Prop := tableBlindRow.holds Try.pinned (OpenSpec.ofChange tableBlindWrong)

/-- 'curvetlaw16.TableSums': WHATEVER THE INPUT: true; the input reads as it did. -/
def tableSumsSpec : ChangeSpec := { name := "tableSums", fn := fun _ => fun
  | [d1, d2, d3, d4] => { results := [.lit (.bool true)], args := [d1, d2, d3, d4] }
  | _ => none }
def tableSumsRow : OpenClaim := { program := "ytlmiolnccgjjjaa", sum := "e7016da8e5a2e60fe99764d4ed3dc3a3773b342c16525251ce82cafcb6bf0c10", func := "curvet/curvetlaw16.TableSums", spec := "tableSums", inPlace := ["math/bits.Sub64", "math/bits.Add64"], unfollowed := true, recurses := true, named := ["math/bits.divideError", "math/bits.overflowError"], apart := false }
def TableSumsSaid : Prop := tableSumsRow.holds Try.pinned (OpenSpec.ofChange tableSumsSpec)

/-- ITS FALSE NEIGHBOUR: 'it returns false'. Refute it at one input. -/
def tableSumsWrong : ChangeSpec := { name := "tableSums", fn := fun _ => fun
  | [d1, d2, d3, d4] => { results := [.lit (.bool false)], args := [d1, d2, d3, d4] }
  | _ => none }
def TableSumsWrongFalsely : Prop := tableSumsRow.holds Try.pinned (OpenSpec.ofChange tableSumsWrong)

/-- 'curvetlaw18.Mults': WHATEVER THE INPUT: true; the input reads as it did. -/
def multsSpec : ChangeSpec := { name := "mults", fn := fun _ => fun
  | [d1, d2, d3] => { results := [.lit (.bool true)], args := [d1, d2, d3] }
  | _ => none }
def multsRow : OpenClaim := { program := "ytlmiolnccgjjjaa", sum := "e7016da8e5a2e60fe99764d4ed3dc3a3773b342c16525251ce82cafcb6bf0c10", func := "curvet/curvetlaw18.Mults", spec := "mults", inPlace := ["math/bits.Sub64", "math/bits.Add64"], unfollowed := true, recurses := true, named := ["math/bits.divideError", "math/bits.overflowError"], apart := false }
def MultsSaid : Prop := multsRow.holds Try.pinned (OpenSpec.ofChange multsSpec)

/-- ITS FALSE NEIGHBOUR: 'it returns false'. Refute it at one input. -/
def multsWrong : ChangeSpec := { name := "mults", fn := fun _ => fun
  | [d1, d2, d3] => { results := [.lit (.bool false)], args := [d1, d2, d3] }
  | _ => none }
def MultsWrongFalsely : Prop := multsRow.holds Try.pinned (OpenSpec.ofChange multsWrong)

/-- 'curvetlaw18.MultEnds': WHATEVER THE INPUT: true; the input reads as it did. -/
def multEndsSpec : ChangeSpec := { name := "multEnds", fn := fun _ => fun
  | [d1, d2] => { results := [.lit (.bool true)], args := [d1, d2] }
  | _ => none }
def multEndsRow : OpenClaim := { program := "ytlmiolnccgjjjaa", sum := "e7016da8e5a2e60fe99764d4ed3dc3a3773b342c16525251ce82cafcb6bf0c10", func := "curvet/curvetlaw18.MultEnds", spec := "multEnds", inPlace := ["math/bits.Sub64", "math/bits.Add64"], unfollowed := true, recurses := true, named := ["math/bits.divideError", "math/bits.overflowError"], apart := false }
def MultEndsSaid : Prop := multEndsRow.holds Try.pinned (OpenSpec.ofChange multEndsSpec)

/-- ITS FALSE NEIGHBOUR: 'it returns false'. Refute it at one input. -/
def multEndsWrong : ChangeSpec := { name := "multEnds", fn := fun _ => fun
  | [d1, d2] => { results := [.lit (.bool false)], args := [d1, d2] }
  | _ => none }
def MultEndsWrongFalsely : Prop := multEndsRow.holds Try.pinned (OpenSpec.ofChange multEndsWrong)

/-- 'curvetlaw18.MultTwice': WHATEVER THE INPUT: true; the input reads as it did. -/
def multTwiceSpec : ChangeSpec := { name := "multTwice", fn := fun _ => fun
  | [d1, d2, d3, d4] => { results := [.lit (.bool true)], args := [d1, d2, d3, d4] }
  | _ => none }
def multTwiceRow : OpenClaim := { program := "ytlmiolnccgjjjaa", sum := "e7016da8e5a2e60fe99764d4ed3dc3a3773b342c16525251ce82cafcb6bf0c10", func := "curvet/curvetlaw18.MultTwice", spec := "multTwice", inPlace := ["math/bits.Sub64", "math/bits.Add64"], unfollowed := true, recurses := true, named := ["math/bits.divideError", "math/bits.overflowError"], apart := false }
def MultTwiceSaid : Prop := multTwiceRow.holds Try.pinned (OpenSpec.ofChange multTwiceSpec)

/-- ITS FALSE NEIGHBOUR: 'it returns false'. Refute it at one input. -/
def multTwiceWrong : ChangeSpec := { name := "multTwice", fn := fun _ => fun
  | [d1, d2, d3, d4] => { results := [.lit (.bool false)], args := [d1, d2, d3, d4] }
  | _ => none }
def MultTwiceWrongFalsely : Prop := multTwiceRow.holds Try.pinned (OpenSpec.ofChange multTwiceWrong)

/-- 'curvetlaw18.MultTiny': WHATEVER THE INPUT: true; the input reads as it did. -/
def multTinySpec : ChangeSpec := { name := "multTiny", fn := fun _ => fun
  | [d1, d2] => { results := [.lit (.bool true)], args := [d1, d2] }
  | _ => none }
def multTinyRow : OpenClaim := { program := "ytlmiolnccgjjjaa", sum := "e7016da8e5a2e60fe99764d4ed3dc3a3773b342c16525251ce82cafcb6bf0c10", func := "curvet/curvetlaw18.MultTiny", spec := "multTiny", inPlace := ["math/bits.Sub64", "math/bits.Add64"], unfollowed := true, recurses := true, named := ["math/bits.divideError", "math/bits.overflowError"], apart := false }
def MultTinySaid : Prop := multTinyRow.holds Try.pinned (OpenSpec.ofChange multTinySpec)

/-- ITS FALSE NEIGHBOUR: 'it returns false'. Refute it at one input. -/
def multTinyWrong : ChangeSpec := { name := "multTiny", fn := fun _ => fun
  | [d1, d2] => { results := [.lit (.bool false)], args := [d1, d2] }
  | _ => none }
def MultTinyWrongFalsely : Prop := multTinyRow.holds Try.pinned (OpenSpec.ofChange multTinyWrong)

/-- 'curvetlaw19.BaseTurns': WHATEVER THE INPUT: true; the input reads as it did. -/
def baseTurnsSpec : ChangeSpec := { name := "baseTurns", fn := fun _ => fun
  | [d1, d2, d3] => { results := [.lit (.bool true)], args := [d1, d2, d3] }
  | _ => none }
def baseTurnsRow : OpenClaim := { program := "ytlmiolnccgjjjaa", sum := "e7016da8e5a2e60fe99764d4ed3dc3a3773b342c16525251ce82cafcb6bf0c10", func := "curvet/curvetlaw19.BaseTurns", spec := "baseTurns", inPlace := ["math/bits.Sub64", "math/bits.Add64"], unfollowed := true, recurses := true, named := ["math/bits.divideError", "math/bits.overflowError"], apart := false }
def BaseTurnsSaid : Prop := baseTurnsRow.holds Try.pinned (OpenSpec.ofChange baseTurnsSpec)

/-- ITS FALSE NEIGHBOUR: 'it returns false'. Refute it at one input. -/
def baseTurnsWrong : ChangeSpec := { name := "baseTurns", fn := fun _ => fun
  | [d1, d2, d3] => { results := [.lit (.bool false)], args := [d1, d2, d3] }
  | _ => none }
def BaseTurnsWrongFalsely : Prop := baseTurnsRow.holds Try.pinned (OpenSpec.ofChange baseTurnsWrong)

/-- 'curvetlaw18.MultBlind': WHATEVER THE INPUT: true; the input reads as it did. -/
def multBlindSpec : ChangeSpec := { name := "multBlind", fn := fun _ => fun
  | [d1, d2, d3, d4, d5] => { results := [.lit (.bool true)], args := [d1, d2, d3, d4, d5] }
  | _ => none }
def multBlindRow : OpenClaim := { program := "ytlmiolnccgjjjaa", sum := "e7016da8e5a2e60fe99764d4ed3dc3a3773b342c16525251ce82cafcb6bf0c10", func := "curvet/curvetlaw18.MultBlind", spec := "multBlind", inPlace := ["math/bits.Sub64", "math/bits.Add64"], unfollowed := true, recurses := true, named := ["math/bits.divideError", "math/bits.overflowError"], apart := false }
def MultBlindSaid : Prop := multBlindRow.holds Try.pinned (OpenSpec.ofChange multBlindSpec)

/-- ITS FALSE NEIGHBOUR: 'it returns false'. Refute it at one input. -/
def multBlindWrong : ChangeSpec := { name := "multBlind", fn := fun _ => fun
  | [d1, d2, d3, d4, d5] => { results := [.lit (.bool false)], args := [d1, d2, d3, d4, d5] }
  | _ => none }
def MultBlindWrongFalsely : Prop := multBlindRow.holds Try.pinned (OpenSpec.ofChange multBlindWrong)

/-- 'curvetlaw19.BaseSteps': WHATEVER THE INPUT: true; the input reads as it did. -/
def baseStepsSpec : ChangeSpec := { name := "baseSteps", fn := fun _ => fun
  | [d1, d2] => { results := [.lit (.bool true)], args := [d1, d2] }
  | _ => none }
def baseStepsRow : OpenClaim := { program := "ytlmiolnccgjjjaa", sum := "e7016da8e5a2e60fe99764d4ed3dc3a3773b342c16525251ce82cafcb6bf0c10", func := "curvet/curvetlaw19.BaseSteps", spec := "baseSteps", inPlace := ["math/bits.Sub64", "math/bits.Add64"], unfollowed := true, recurses := true, named := ["math/bits.divideError", "math/bits.overflowError"], apart := false }
def BaseStepsSaid : Prop := baseStepsRow.holds Try.pinned (OpenSpec.ofChange baseStepsSpec)

/-- ITS FALSE NEIGHBOUR: 'it returns false'. Refute it at one input. -/
def baseStepsWrong : ChangeSpec := { name := "baseSteps", fn := fun _ => fun
  | [d1, d2] => { results := [.lit (.bool false)], args := [d1, d2] }
  | _ => none }
def BaseStepsWrongFalsely : Prop := baseStepsRow.holds Try.pinned (OpenSpec.ofChange baseStepsWrong)

/-- 'curvetlaw19.BaseBlind': WHATEVER THE INPUT: true; the input reads as it did. -/
def baseBlindSpec : ChangeSpec := { name := "baseBlind", fn := fun _ => fun
  | [d1, d2, d3] => { results := [.lit (.bool true)], args := [d1, d2, d3] }
  | _ => none }
def baseBlindRow : OpenClaim := { program := "ytlmiolnccgjjjaa", sum := "e7016da8e5a2e60fe99764d4ed3dc3a3773b342c16525251ce82cafcb6bf0c10", func := "curvet/curvetlaw19.BaseBlind", spec := "baseBlind", inPlace := ["math/bits.Sub64", "math/bits.Add64"], unfollowed := true, recurses := true, named := ["math/bits.divideError", "math/bits.overflowError"], apart := false }
def BaseBlindSaid : Prop := baseBlindRow.holds Try.pinned (OpenSpec.ofChange baseBlindSpec)

/-- ITS FALSE NEIGHBOUR: 'it returns false'. Refute it at one input. -/
def baseBlindWrong : ChangeSpec := { name := "baseBlind", fn := fun _ => fun
  | [d1, d2, d3] => { results := [.lit (.bool false)], args := [d1, d2, d3] }
  | _ => none }
def BaseBlindWrongFalsely : Prop := baseBlindRow.holds Try.pinned (OpenSpec.ofChange baseBlindWrong)

/-- 'curvetlaw18.MultAdds': WHATEVER THE INPUT: true; the input reads as it did. -/
def multAddsSpec : ChangeSpec := { name := "multAdds", fn := fun _ => fun
  | [d1, d2, d3, d4] => { results := [.lit (.bool true)], args := [d1, d2, d3, d4] }
  | _ => none }
def multAddsRow : OpenClaim := { program := "ytlmiolnccgjjjaa", sum := "e7016da8e5a2e60fe99764d4ed3dc3a3773b342c16525251ce82cafcb6bf0c10", func := "curvet/curvetlaw18.MultAdds", spec := "multAdds", inPlace := ["math/bits.Sub64", "math/bits.Add64"], unfollowed := true, recurses := true, named := ["math/bits.divideError", "math/bits.overflowError"], apart := false }
def MultAddsSaid : Prop := multAddsRow.holds Try.pinned (OpenSpec.ofChange multAddsSpec)

/-- ITS FALSE NEIGHBOUR: 'it returns false'. Refute it at one input. -/
def multAddsWrong : ChangeSpec := { name := "multAdds", fn := fun _ => fun
  | [d1, d2, d3, d4] => { results := [.lit (.bool false)], args := [d1, d2, d3, d4] }
  | _ => none }
def MultAddsWrongFalsely : Prop := multAddsRow.holds Try.pinned (OpenSpec.ofChange multAddsWrong)

/-- 'curvetlaw20.DualAlone': WHATEVER THE INPUT: true; the input reads as it did. -/
def dualAloneSpec : ChangeSpec := { name := "dualAlone", fn := fun _ => fun
  | [d1, d2, d3, d4] => { results := [.lit (.bool true)], args := [d1, d2, d3, d4] }
  | _ => none }
def dualAloneRow : OpenClaim := { program := "ytlmiolnccgjjjaa", sum := "e7016da8e5a2e60fe99764d4ed3dc3a3773b342c16525251ce82cafcb6bf0c10", func := "curvet/curvetlaw20.DualAlone", spec := "dualAlone", inPlace := ["math/bits.Sub64", "math/bits.Add64"], unfollowed := true, recurses := true, named := ["math/bits.divideError", "math/bits.overflowError"], apart := false }
def DualAloneSaid : Prop := dualAloneRow.holds Try.pinned (OpenSpec.ofChange dualAloneSpec)

/-- ITS FALSE NEIGHBOUR: 'it returns false'. Refute it at one input. -/
def dualAloneWrong : ChangeSpec := { name := "dualAlone", fn := fun _ => fun
  | [d1, d2, d3, d4] => { results := [.lit (.bool false)], args := [d1, d2, d3, d4] }
  | _ => none }
def DualAloneWrongFalsely : Prop := dualAloneRow.holds Try.pinned (OpenSpec.ofChange dualAloneWrong)

/-- 'curvetlaw25.EcdhAgrees': WHATEVER THE INPUT: true; the input reads as it did. -/
def ecdhAgreesSpec : ChangeSpec := { name := "ecdhAgrees", fn := fun _ => fun
  | [d1, d2, d3, d4] => { results := [.lit (.bool true)], args := [d1, d2, d3, d4] }
  | _ => none }
def ecdhAgreesRow : OpenClaim := { program := "ytlmiolnccgjjjaa", sum := "e7016da8e5a2e60fe99764d4ed3dc3a3773b342c16525251ce82cafcb6bf0c10", func := "curvet/curvetlaw25.EcdhAgrees", spec := "ecdhAgrees", inPlace := ["math/bits.Sub64", "math/bits.Add64"], unfollowed := true, recurses := true, named := ["math/bits.divideError", "math/bits.overflowError"], apart := false }
def EcdhAgreesSaid : Prop := ecdhAgreesRow.holds Try.pinned (OpenSpec.ofChange ecdhAgreesSpec)

/-- ITS FALSE NEIGHBOUR: 'it returns false'. Refute it at one input. -/
def ecdhAgreesWrong : ChangeSpec := { name := "ecdhAgrees", fn := fun _ => fun
  | [d1, d2, d3, d4] => { results := [.lit (.bool false)], args := [d1, d2, d3, d4] }
  | _ => none }
def EcdhAgreesWrongFalsely : Prop := ecdhAgreesRow.holds Try.pinned (OpenSpec.ofChange ecdhAgreesWrong)

/- THE SECOND FORM. 'bulk': how many values and letters a reading holds, each counted each time it is reached (what is shared counts as often as it is met; a slice's spare places count too). A statement '..UptoSaid' is the law's where the arguments, and the package variables that the reading takes, are together of bulk at most 1048576: NARROWER than '..Said'. Prove '..Said' where nothing that the law and all that it calls make is longer than what came in: it says more and counts as full. Else prove '..UptoSaid'. A law counts once. -/
mutual
def uptoBulk {H : Type} : DataW H → Nat
  | .lit (.string bytes) => bytes.length + 1
  | .lit _ => 1
  | .nil => 1
  | .ptr d => uptoBulk d + 1
  | .slice elems spare => uptoBulkAll elems + uptoBulkAll spare + 1
  | .agg parts => uptoBulkAll parts + 1
  | .iface _ d => uptoBulk d + 1
  | .map entries => uptoBulkEntries entries + 1
  | .held _ => 1
def uptoBulkAll {H : Type} : List (DataW H) → Nat
  | [] => 0
  | d :: r => uptoBulk d + uptoBulkAll r
def uptoBulkEntries {H : Type} : List (Lit × DataW H) → Nat
  | [] => 0
  | x :: r => uptoBulkEntry x + uptoBulkEntries r
def uptoBulkEntry {H : Type} : Lit × DataW H → Nat
  | (.string bytes, d) => bytes.length + uptoBulk d + 1
  | (_, d) => uptoBulk d + 1
 end
def uptoSmall : (H : Type) → List (DataW H) → Bool := fun _ ds => decide (uptoBulkAll ds ≤ 1048576)
def OpenSpec.upto (s : _root_.Go.ChangeSpec) : _root_.Go.OpenSpec := { _root_.Go.OpenSpec.ofChange s with cond := some uptoSmall }

/-- 'curvetlaw16.TableSizes', WHERE WHAT IT READS IS OF BULK AT MOST 1048576: true; the input reads as it did. -/
def tableSizesUptoRow : OpenClaim := { program := "ytlmiolnccgjjjaa", sum := "e7016da8e5a2e60fe99764d4ed3dc3a3773b342c16525251ce82cafcb6bf0c10", func := "curvet/curvetlaw16.TableSizes", spec := "tableSizes", inPlace := ["math/bits.Sub64", "math/bits.Add64"], unfollowed := true, recurses := true, named := ["math/bits.divideError", "math/bits.overflowError"], apart := false, narrowed := true }
def TableSizesUptoSaid : Prop := tableSizesUptoRow.holds Try.pinned (OpenSpec.upto tableSizesSpec)

/-- 'curvetlaw16.TableNil', WHERE WHAT IT READS IS OF BULK AT MOST 1048576: true; the input reads as it did. -/
def tableNilUptoRow : OpenClaim := { program := "ytlmiolnccgjjjaa", sum := "e7016da8e5a2e60fe99764d4ed3dc3a3773b342c16525251ce82cafcb6bf0c10", func := "curvet/curvetlaw16.TableNil", spec := "tableNil", inPlace := ["math/bits.Sub64", "math/bits.Add64"], unfollowed := true, recurses := true, named := ["math/bits.divideError", "math/bits.overflowError"], apart := false, narrowed := true }
def TableNilUptoSaid : Prop := tableNilUptoRow.holds Try.pinned (OpenSpec.upto tableNilSpec)

/-- 'curvetlaw21.Sec1s', WHERE WHAT IT READS IS OF BULK AT MOST 1048576: true; the input reads as it did. -/
def sec1sUptoRow : OpenClaim := { program := "ytlmiolnccgjjjaa", sum := "e7016da8e5a2e60fe99764d4ed3dc3a3773b342c16525251ce82cafcb6bf0c10", func := "curvet/curvetlaw21.Sec1s", spec := "sec1s", inPlace := ["math/bits.Sub64", "math/bits.Add64"], named := ["math/bits.divideError", "math/bits.overflowError"], apart := false, narrowed := true }
def Sec1sUptoSaid : Prop := sec1sUptoRow.holds Try.pinned (OpenSpec.upto sec1sSpec)

/-- 'curvetlaw21.Sec1Back', WHERE WHAT IT READS IS OF BULK AT MOST 1048576: true; the input reads as it did. -/
def sec1BackUptoRow : OpenClaim := { program := "ytlmiolnccgjjjaa", sum := "e7016da8e5a2e60fe99764d4ed3dc3a3773b342c16525251ce82cafcb6bf0c10", func := "curvet/curvetlaw21.Sec1Back", spec := "sec1Back", inPlace := ["math/bits.Sub64", "math/bits.Add64"], named := ["math/bits.divideError", "math/bits.overflowError"], apart := false, narrowed := true }
def Sec1BackUptoSaid : Prop := sec1BackUptoRow.holds Try.pinned (OpenSpec.upto sec1BackSpec)

/-- 'curvetlaw21.Sec1Tiny', WHERE WHAT IT READS IS OF BULK AT MOST 1048576: true; the input reads as it did. -/
def sec1TinyUptoRow : OpenClaim := { program := "ytlmiolnccgjjjaa", sum := "e7016da8e5a2e60fe99764d4ed3dc3a3773b342c16525251ce82cafcb6bf0c10", func := "curvet/curvetlaw21.Sec1Tiny", spec := "sec1Tiny", inPlace := ["math/bits.Sub64", "math/bits.Add64"], named := ["math/bits.divideError", "math/bits.overflowError"], apart := false, narrowed := true }
def Sec1TinyUptoSaid : Prop := sec1TinyUptoRow.holds Try.pinned (OpenSpec.upto sec1TinySpec)

/-- 'curvetlaw21.Sec1Both', WHERE WHAT IT READS IS OF BULK AT MOST 1048576: true; the input reads as it did. -/
def sec1BothUptoRow : OpenClaim := { program := "ytlmiolnccgjjjaa", sum := "e7016da8e5a2e60fe99764d4ed3dc3a3773b342c16525251ce82cafcb6bf0c10", func := "curvet/curvetlaw21.Sec1Both", spec := "sec1Both", inPlace := ["math/bits.Sub64", "math/bits.Add64"], named := ["math/bits.divideError", "math/bits.overflowError"], apart := false, narrowed := true }
def Sec1BothUptoSaid : Prop := sec1BothUptoRow.holds Try.pinned (OpenSpec.upto sec1BothSpec)

/-- 'curvetlaw21.Sec1Lengths', WHERE WHAT IT READS IS OF BULK AT MOST 1048576: true; the input reads as it did. -/
def sec1LengthsUptoRow : OpenClaim := { program := "ytlmiolnccgjjjaa", sum := "e7016da8e5a2e60fe99764d4ed3dc3a3773b342c16525251ce82cafcb6bf0c10", func := "curvet/curvetlaw21.Sec1Lengths", spec := "sec1Lengths", inPlace := ["math/bits.Sub64", "math/bits.Add64"], named := ["math/bits.divideError", "math/bits.overflowError"], apart := false, narrowed := true }
def Sec1LengthsUptoSaid : Prop := sec1LengthsUptoRow.holds Try.pinned (OpenSpec.upto sec1LengthsSpec)

/-- 'curvetlaw21.Sec1Whole', WHERE WHAT IT READS IS OF BULK AT MOST 1048576: true; the input reads as it did. -/
def sec1WholeUptoRow : OpenClaim := { program := "ytlmiolnccgjjjaa", sum := "e7016da8e5a2e60fe99764d4ed3dc3a3773b342c16525251ce82cafcb6bf0c10", func := "curvet/curvetlaw21.Sec1Whole", spec := "sec1Whole", inPlace := ["math/bits.Sub64", "math/bits.Add64"], named := ["math/bits.divideError", "math/bits.overflowError"], apart := false, narrowed := true }
def Sec1WholeUptoSaid : Prop := sec1WholeUptoRow.holds Try.pinned (OpenSpec.upto sec1WholeSpec)

/-- 'curvetlaw21.Sec1Great', WHERE WHAT IT READS IS OF BULK AT MOST 1048576: true; the input reads as it did. -/
def sec1GreatUptoRow : OpenClaim := { program := "ytlmiolnccgjjjaa", sum := "e7016da8e5a2e60fe99764d4ed3dc3a3773b342c16525251ce82cafcb6bf0c10", func := "curvet/curvetlaw21.Sec1Great", spec := "sec1Great", inPlace := ["math/bits.Sub64", "math/bits.Add64"], named := ["math/bits.divideError", "math/bits.overflowError"], apart := false, narrowed := true }
def Sec1GreatUptoSaid : Prop := sec1GreatUptoRow.holds Try.pinned (OpenSpec.upto sec1GreatSpec)

/-- 'curvetlaw16.Tables', WHERE WHAT IT READS IS OF BULK AT MOST 1048576: true; the input reads as it did. -/
def tablesUptoRow : OpenClaim := { program := "ytlmiolnccgjjjaa", sum := "e7016da8e5a2e60fe99764d4ed3dc3a3773b342c16525251ce82cafcb6bf0c10", func := "curvet/curvetlaw16.Tables", spec := "tables", inPlace := ["math/bits.Sub64", "math/bits.Add64"], unfollowed := true, recurses := true, named := ["math/bits.divideError", "math/bits.overflowError"], apart := false, narrowed := true }
def TablesUptoSaid : Prop := tablesUptoRow.holds Try.pinned (OpenSpec.upto tablesSpec)

/-- 'curvetlaw19.Bases', WHERE WHAT IT READS IS OF BULK AT MOST 1048576: true; the input reads as it did. -/
def basesUptoRow : OpenClaim := { program := "ytlmiolnccgjjjaa", sum := "e7016da8e5a2e60fe99764d4ed3dc3a3773b342c16525251ce82cafcb6bf0c10", func := "curvet/curvetlaw19.Bases", spec := "bases", inPlace := ["math/bits.Sub64", "math/bits.Add64"], unfollowed := true, recurses := true, named := ["math/bits.divideError", "math/bits.overflowError"], apart := false, narrowed := true }
def BasesUptoSaid : Prop := basesUptoRow.holds Try.pinned (OpenSpec.upto basesSpec)

/-- 'curvetlaw19.BaseNil', WHERE WHAT IT READS IS OF BULK AT MOST 1048576: true; the input reads as it did. -/
def baseNilUptoRow : OpenClaim := { program := "ytlmiolnccgjjjaa", sum := "e7016da8e5a2e60fe99764d4ed3dc3a3773b342c16525251ce82cafcb6bf0c10", func := "curvet/curvetlaw19.BaseNil", spec := "baseNil", inPlace := ["math/bits.Sub64", "math/bits.Add64"], unfollowed := true, recurses := true, named := ["math/bits.divideError", "math/bits.overflowError"], apart := false, narrowed := true }
def BaseNilUptoSaid : Prop := baseNilUptoRow.holds Try.pinned (OpenSpec.upto baseNilSpec)

/-- 'curvetlaw16.TableBlind', WHERE WHAT IT READS IS OF BULK AT MOST 1048576: true; the input reads as it did. -/
def tableBlindUptoRow : OpenClaim := { program := "ytlmiolnccgjjjaa", sum := "e7016da8e5a2e60fe99764d4ed3dc3a3773b342c16525251ce82cafcb6bf0c10", func := "curvet/curvetlaw16.TableBlind", spec := "tableBlind", inPlace := ["math/bits.Sub64", "math/bits.Add64"], unfollowed := true, recurses := true, named := ["math/bits.divideError", "math/bits.overflowError"], apart := false, narrowed := true }
def TableBlindUptoSaid : Prop := tableBlindUptoRow.holds Try.pinned (OpenSpec.upto tableBlindSpec)

/-- 'curvetlaw16.TableSums', WHERE WHAT IT READS IS OF BULK AT MOST 1048576: true; the input reads as it did. -/
def tableSumsUptoRow : OpenClaim := { program := "ytlmiolnccgjjjaa", sum := "e7016da8e5a2e60fe99764d4ed3dc3a3773b342c16525251ce82cafcb6bf0c10", func := "curvet/curvetlaw16.TableSums", spec := "tableSums", inPlace := ["math/bits.Sub64", "math/bits.Add64"], unfollowed := true, recurses := true, named := ["math/bits.divideError", "math/bits.overflowError"], apart := false, narrowed := true }
def TableSumsUptoSaid : Prop := tableSumsUptoRow.holds Try.pinned (OpenSpec.upto tableSumsSpec)

/-- 'curvetlaw18.Mults', WHERE WHAT IT READS IS OF BULK AT MOST 1048576: true; the input reads as it did. -/
def multsUptoRow : OpenClaim := { program := "ytlmiolnccgjjjaa", sum := "e7016da8e5a2e60fe99764d4ed3dc3a3773b342c16525251ce82cafcb6bf0c10", func := "curvet/curvetlaw18.Mults", spec := "mults", inPlace := ["math/bits.Sub64", "math/bits.Add64"], unfollowed := true, recurses := true, named := ["math/bits.divideError", "math/bits.overflowError"], apart := false, narrowed := true }
def MultsUptoSaid : Prop := multsUptoRow.holds Try.pinned (OpenSpec.upto multsSpec)

/-- 'curvetlaw18.MultEnds', WHERE WHAT IT READS IS OF BULK AT MOST 1048576: true; the input reads as it did. -/
def multEndsUptoRow : OpenClaim := { program := "ytlmiolnccgjjjaa", sum := "e7016da8e5a2e60fe99764d4ed3dc3a3773b342c16525251ce82cafcb6bf0c10", func := "curvet/curvetlaw18.MultEnds", spec := "multEnds", inPlace := ["math/bits.Sub64", "math/bits.Add64"], unfollowed := true, recurses := true, named := ["math/bits.divideError", "math/bits.overflowError"], apart := false, narrowed := true }
def MultEndsUptoSaid : Prop := multEndsUptoRow.holds Try.pinned (OpenSpec.upto multEndsSpec)

/-- 'curvetlaw18.MultTwice', WHERE WHAT IT READS IS OF BULK AT MOST 1048576: true; the input reads as it did. -/
def multTwiceUptoRow : OpenClaim := { program := "ytlmiolnccgjjjaa", sum := "e7016da8e5a2e60fe99764d4ed3dc3a3773b342c16525251ce82cafcb6bf0c10", func := "curvet/curvetlaw18.MultTwice", spec := "multTwice", inPlace := ["math/bits.Sub64", "math/bits.Add64"], unfollowed := true, recurses := true, named := ["math/bits.divideError", "math/bits.overflowError"], apart := false, narrowed := true }
def MultTwiceUptoSaid : Prop := multTwiceUptoRow.holds Try.pinned (OpenSpec.upto multTwiceSpec)

/-- 'curvetlaw18.MultTiny', WHERE WHAT IT READS IS OF BULK AT MOST 1048576: true; the input reads as it did. -/
def multTinyUptoRow : OpenClaim := { program := "ytlmiolnccgjjjaa", sum := "e7016da8e5a2e60fe99764d4ed3dc3a3773b342c16525251ce82cafcb6bf0c10", func := "curvet/curvetlaw18.MultTiny", spec := "multTiny", inPlace := ["math/bits.Sub64", "math/bits.Add64"], unfollowed := true, recurses := true, named := ["math/bits.divideError", "math/bits.overflowError"], apart := false, narrowed := true }
def MultTinyUptoSaid : Prop := multTinyUptoRow.holds Try.pinned (OpenSpec.upto multTinySpec)

/-- 'curvetlaw19.BaseTurns', WHERE WHAT IT READS IS OF BULK AT MOST 1048576: true; the input reads as it did. -/
def baseTurnsUptoRow : OpenClaim := { program := "ytlmiolnccgjjjaa", sum := "e7016da8e5a2e60fe99764d4ed3dc3a3773b342c16525251ce82cafcb6bf0c10", func := "curvet/curvetlaw19.BaseTurns", spec := "baseTurns", inPlace := ["math/bits.Sub64", "math/bits.Add64"], unfollowed := true, recurses := true, named := ["math/bits.divideError", "math/bits.overflowError"], apart := false, narrowed := true }
def BaseTurnsUptoSaid : Prop := baseTurnsUptoRow.holds Try.pinned (OpenSpec.upto baseTurnsSpec)

/-- 'curvetlaw18.MultBlind', WHERE WHAT IT READS IS OF BULK AT MOST 1048576: true; the input reads as it did. -/
def multBlindUptoRow : OpenClaim := { program := "ytlmiolnccgjjjaa", sum := "e7016da8e5a2e60fe99764d4ed3dc3a3773b342c16525251ce82cafcb6bf0c10", func := "curvet/curvetlaw18.MultBlind", spec := "multBlind", inPlace := ["math/bits.Sub64", "math/bits.Add64"], unfollowed := true, recurses := true, named := ["math/bits.divideError", "math/bits.overflowError"], apart := false, narrowed := true }
def MultBlindUptoSaid : Prop := multBlindUptoRow.holds Try.pinned (OpenSpec.upto multBlindSpec)

/-- 'curvetlaw19.BaseSteps', WHERE WHAT IT READS IS OF BULK AT MOST 1048576: true; the input reads as it did. -/
def baseStepsUptoRow : OpenClaim := { program := "ytlmiolnccgjjjaa", sum := "e7016da8e5a2e60fe99764d4ed3dc3a3773b342c16525251ce82cafcb6bf0c10", func := "curvet/curvetlaw19.BaseSteps", spec := "baseSteps", inPlace := ["math/bits.Sub64", "math/bits.Add64"], unfollowed := true, recurses := true, named := ["math/bits.divideError", "math/bits.overflowError"], apart := false, narrowed := true }
def BaseStepsUptoSaid : Prop := baseStepsUptoRow.holds Try.pinned (OpenSpec.upto baseStepsSpec)

/-- 'curvetlaw19.BaseBlind', WHERE WHAT IT READS IS OF BULK AT MOST 1048576: true; the input reads as it did. -/
def baseBlindUptoRow : OpenClaim := { program := "ytlmiolnccgjjjaa", sum := "e7016da8e5a2e60fe99764d4ed3dc3a3773b342c16525251ce82cafcb6bf0c10", func := "curvet/curvetlaw19.BaseBlind", spec := "baseBlind", inPlace := ["math/bits.Sub64", "math/bits.Add64"], unfollowed := true, recurses := true, named := ["math/bits.divideError", "math/bits.overflowError"], apart := false, narrowed := true }
def BaseBlindUptoSaid : Prop := baseBlindUptoRow.holds Try.pinned (OpenSpec.upto baseBlindSpec)

/-- 'curvetlaw18.MultAdds', WHERE WHAT IT READS IS OF BULK AT MOST 1048576: true; the input reads as it did. -/
def multAddsUptoRow : OpenClaim := { program := "ytlmiolnccgjjjaa", sum := "e7016da8e5a2e60fe99764d4ed3dc3a3773b342c16525251ce82cafcb6bf0c10", func := "curvet/curvetlaw18.MultAdds", spec := "multAdds", inPlace := ["math/bits.Sub64", "math/bits.Add64"], unfollowed := true, recurses := true, named := ["math/bits.divideError", "math/bits.overflowError"], apart := false, narrowed := true }
def MultAddsUptoSaid : Prop := multAddsUptoRow.holds Try.pinned (OpenSpec.upto multAddsSpec)

/-- 'curvetlaw20.DualAlone', WHERE WHAT IT READS IS OF BULK AT MOST 1048576: true; the input reads as it did. -/
def dualAloneUptoRow : OpenClaim := { program := "ytlmiolnccgjjjaa", sum := "e7016da8e5a2e60fe99764d4ed3dc3a3773b342c16525251ce82cafcb6bf0c10", func := "curvet/curvetlaw20.DualAlone", spec := "dualAlone", inPlace := ["math/bits.Sub64", "math/bits.Add64"], unfollowed := true, recurses := true, named := ["math/bits.divideError", "math/bits.overflowError"], apart := false, narrowed := true }
def DualAloneUptoSaid : Prop := dualAloneUptoRow.holds Try.pinned (OpenSpec.upto dualAloneSpec)

/-- 'curvetlaw25.EcdhAgrees', WHERE WHAT IT READS IS OF BULK AT MOST 1048576: true; the input reads as it did. -/
def ecdhAgreesUptoRow : OpenClaim := { program := "ytlmiolnccgjjjaa", sum := "e7016da8e5a2e60fe99764d4ed3dc3a3773b342c16525251ce82cafcb6bf0c10", func := "curvet/curvetlaw25.EcdhAgrees", spec := "ecdhAgrees", inPlace := ["math/bits.Sub64", "math/bits.Add64"], unfollowed := true, recurses := true, named := ["math/bits.divideError", "math/bits.overflowError"], apart := false, narrowed := true }
def EcdhAgreesUptoSaid : Prop := ecdhAgreesUptoRow.holds Try.pinned (OpenSpec.upto ecdhAgreesSpec)

end Rows
end Go.Proofs.Ytlmiolnccgjjjaa
