/-
  No cell of these rows narrows 'for every input' (looked for: loops, veiled, ifaces, maps, wideKeys, modest, calm, conditions, laid).
  DERIVED. THE GIVEN ROWS OF THIS SEAT. 40 by the template 'for every input the law returns true; each argument reads behind the call as it read before'; 0 by the template 'total and deterministic' (their statements: YtljblbgogjieaaaTotals.lean).
  GIVEN WITH THE SEED: the statements are not yours to turn. If you find one false, say at which input.
  Laid BY PROGRAM, IN A SANDBOX (cutbox-rows.mjs): the forced cells as the released guide's own fill.sh prints them over the translation bd0b4935637ab8e0… (all of the seat's roots in one cut). By AI agents, Wed Nov 11 2026. No macro, syntax, notation, axiom, sorry.
-/
import Derived.Test.YtljblbgogjieaaaChecked
import GoSem.Claim
import GoSem.ClaimJoined
import GoSem.ClaimMapViews
import Derived.JoinedTies
import Derived.KernelRfl
namespace Go.Proofs.Ytljblbgogjieaaa
/- THE CELL 'sum', in the pinned program and in every row, IS THE sha256 OF THE DUMP (.gsa) THAT YtljblbgogjieaaaProg.lean LOADS. Nothing in Lean hashes anything: it is a label: what it is worth is what the hold of that sum in a sandbox is worth. -/
noncomputable def Try.pinned : Pinned := { name := "ytljblbgogjieaaa", sum := "bd0b4935637ab8e0ff7cd50369ec414ddb9b798d28c5224bd1f99fcb31f1cecb", checked := Try.checked }
namespace Rows
def none {H : Type} : Left H := { results := [], args := [] }

/-- 'curvetlaw23.Raws': WHATEVER THE INPUT: true; the input reads as it did. -/
def rawsSpec : ChangeSpec := { name := "raws", fn := fun _ => fun
  | [d1, d2, d3] => { results := [.lit (.bool true)], args := [d1, d2, d3] }
  | _ => none }
def rawsRow : OpenClaim := { program := "ytljblbgogjieaaa", sum := "bd0b4935637ab8e0ff7cd50369ec414ddb9b798d28c5224bd1f99fcb31f1cecb", func := "curvet/curvetlaw23.Raws", spec := "raws", inPlace := ["math/bits.Sub64", "math/bits.Add64"], apart := false }
def RawsSaid : Prop := rawsRow.holds Try.pinned (OpenSpec.ofChange rawsSpec)

/-- ITS FALSE NEIGHBOUR: 'it returns false'. Refute it at one input. -/
def rawsWrong : ChangeSpec := { name := "raws", fn := fun _ => fun
  | [d1, d2, d3] => { results := [.lit (.bool false)], args := [d1, d2, d3] }
  | _ => none }
def RawsWrongFalsely : Prop := rawsRow.holds Try.pinned (OpenSpec.ofChange rawsWrong)

/-- 'curvetlaw23.RawBack': WHATEVER THE INPUT: true; the input reads as it did. -/
def rawBackSpec : ChangeSpec := { name := "rawBack", fn := fun _ => fun
  | [d1, d2, d3, d4] => { results := [.lit (.bool true)], args := [d1, d2, d3, d4] }
  | _ => none }
def rawBackRow : OpenClaim := { program := "ytljblbgogjieaaa", sum := "bd0b4935637ab8e0ff7cd50369ec414ddb9b798d28c5224bd1f99fcb31f1cecb", func := "curvet/curvetlaw23.RawBack", spec := "rawBack", inPlace := ["math/bits.Sub64", "math/bits.Add64"], apart := false }
def RawBackSaid : Prop := rawBackRow.holds Try.pinned (OpenSpec.ofChange rawBackSpec)

/-- ITS FALSE NEIGHBOUR: 'it returns false'. Refute it at one input. -/
def rawBackWrong : ChangeSpec := { name := "rawBack", fn := fun _ => fun
  | [d1, d2, d3, d4] => { results := [.lit (.bool false)], args := [d1, d2, d3, d4] }
  | _ => none }
def RawBackWrongFalsely : Prop := rawBackRow.holds Try.pinned (OpenSpec.ofChange rawBackWrong)

/-- 'curvetlaw23.RawLengths': WHATEVER THE INPUT: true; the input reads as it did. -/
def rawLengthsSpec : ChangeSpec := { name := "rawLengths", fn := fun _ => fun
  | [d1, d2, d3, d4] => { results := [.lit (.bool true)], args := [d1, d2, d3, d4] }
  | _ => none }
def rawLengthsRow : OpenClaim := { program := "ytljblbgogjieaaa", sum := "bd0b4935637ab8e0ff7cd50369ec414ddb9b798d28c5224bd1f99fcb31f1cecb", func := "curvet/curvetlaw23.RawLengths", spec := "rawLengths", inPlace := ["math/bits.Sub64", "math/bits.Add64"], apart := false }
def RawLengthsSaid : Prop := rawLengthsRow.holds Try.pinned (OpenSpec.ofChange rawLengthsSpec)

/-- ITS FALSE NEIGHBOUR: 'it returns false'. Refute it at one input. -/
def rawLengthsWrong : ChangeSpec := { name := "rawLengths", fn := fun _ => fun
  | [d1, d2, d3, d4] => { results := [.lit (.bool false)], args := [d1, d2, d3, d4] }
  | _ => none }
def RawLengthsWrongFalsely : Prop := rawLengthsRow.holds Try.pinned (OpenSpec.ofChange rawLengthsWrong)

/-- 'curvetlaw23.RawTiny': WHATEVER THE INPUT: true; the input reads as it did. -/
def rawTinySpec : ChangeSpec := { name := "rawTiny", fn := fun _ => fun
  | [d1, d2] => { results := [.lit (.bool true)], args := [d1, d2] }
  | _ => none }
def rawTinyRow : OpenClaim := { program := "ytljblbgogjieaaa", sum := "bd0b4935637ab8e0ff7cd50369ec414ddb9b798d28c5224bd1f99fcb31f1cecb", func := "curvet/curvetlaw23.RawTiny", spec := "rawTiny", inPlace := ["math/bits.Sub64", "math/bits.Add64"], apart := false }
def RawTinySaid : Prop := rawTinyRow.holds Try.pinned (OpenSpec.ofChange rawTinySpec)

/-- ITS FALSE NEIGHBOUR: 'it returns false'. Refute it at one input. -/
def rawTinyWrong : ChangeSpec := { name := "rawTiny", fn := fun _ => fun
  | [d1, d2] => { results := [.lit (.bool false)], args := [d1, d2] }
  | _ => none }
def RawTinyWrongFalsely : Prop := rawTinyRow.holds Try.pinned (OpenSpec.ofChange rawTinyWrong)

/-- 'curvetlaw13.Curves': WHATEVER THE INPUT: true; the input reads as it did. -/
def curvesSpec : ChangeSpec := { name := "curves", fn := fun _ => fun
  | [d] => { results := [.lit (.bool true)], args := [d] }
  | _ => none }
def curvesRow : OpenClaim := { program := "ytljblbgogjieaaa", sum := "bd0b4935637ab8e0ff7cd50369ec414ddb9b798d28c5224bd1f99fcb31f1cecb", func := "curvet/curvetlaw13.Curves", spec := "curves", inPlace := ["math/bits.Sub64", "math/bits.Add64"], named := ["math/bits.divideError", "math/bits.overflowError"], apart := false }
def CurvesSaid : Prop := curvesRow.holds Try.pinned (OpenSpec.ofChange curvesSpec)

/-- ITS FALSE NEIGHBOUR: 'it returns false'. Refute it at one input. -/
def curvesWrong : ChangeSpec := { name := "curves", fn := fun _ => fun
  | [d] => { results := [.lit (.bool false)], args := [d] }
  | _ => none }
def CurvesWrongFalsely : Prop := curvesRow.holds Try.pinned (OpenSpec.ofChange curvesWrong)

/-- 'curvetlaw13.CurveOns': WHATEVER THE INPUT: true; the input reads as it did. -/
def curveOnsSpec : ChangeSpec := { name := "curveOns", fn := fun _ => fun
  | [d1, d2] => { results := [.lit (.bool true)], args := [d1, d2] }
  | _ => none }
def curveOnsRow : OpenClaim := { program := "ytljblbgogjieaaa", sum := "bd0b4935637ab8e0ff7cd50369ec414ddb9b798d28c5224bd1f99fcb31f1cecb", func := "curvet/curvetlaw13.CurveOns", spec := "curveOns", inPlace := ["math/bits.Sub64", "math/bits.Add64"], named := ["math/bits.divideError", "math/bits.overflowError"], apart := false }
def CurveOnsSaid : Prop := curveOnsRow.holds Try.pinned (OpenSpec.ofChange curveOnsSpec)

/-- ITS FALSE NEIGHBOUR: 'it returns false'. Refute it at one input. -/
def curveOnsWrong : ChangeSpec := { name := "curveOns", fn := fun _ => fun
  | [d1, d2] => { results := [.lit (.bool false)], args := [d1, d2] }
  | _ => none }
def CurveOnsWrongFalsely : Prop := curveOnsRow.holds Try.pinned (OpenSpec.ofChange curveOnsWrong)

/-- 'curvetlaw13.CurveSound': WHATEVER THE INPUT: true; the input reads as it did. -/
def curveSoundSpec : ChangeSpec := { name := "curveSound", fn := fun _ => fun
  | [d] => { results := [.lit (.bool true)], args := [d] }
  | _ => none }
def curveSoundRow : OpenClaim := { program := "ytljblbgogjieaaa", sum := "bd0b4935637ab8e0ff7cd50369ec414ddb9b798d28c5224bd1f99fcb31f1cecb", func := "curvet/curvetlaw13.CurveSound", spec := "curveSound", inPlace := ["math/bits.Sub64", "math/bits.Add64"], named := ["math/bits.divideError", "math/bits.overflowError"], apart := false }
def CurveSoundSaid : Prop := curveSoundRow.holds Try.pinned (OpenSpec.ofChange curveSoundSpec)

/-- ITS FALSE NEIGHBOUR: 'it returns false'. Refute it at one input. -/
def curveSoundWrong : ChangeSpec := { name := "curveSound", fn := fun _ => fun
  | [d] => { results := [.lit (.bool false)], args := [d] }
  | _ => none }
def CurveSoundWrongFalsely : Prop := curveSoundRow.holds Try.pinned (OpenSpec.ofChange curveSoundWrong)

/-- 'curvetlaw13.CurveNumbers': WHATEVER THE INPUT: true; the input reads as it did. -/
def curveNumbersSpec : ChangeSpec := { name := "curveNumbers", fn := fun _ => fun
  | [d] => { results := [.lit (.bool true)], args := [d] }
  | _ => none }
def curveNumbersRow : OpenClaim := { program := "ytljblbgogjieaaa", sum := "bd0b4935637ab8e0ff7cd50369ec414ddb9b798d28c5224bd1f99fcb31f1cecb", func := "curvet/curvetlaw13.CurveNumbers", spec := "curveNumbers", inPlace := ["math/bits.Sub64", "math/bits.Add64"], named := ["math/bits.divideError", "math/bits.overflowError"], apart := false }
def CurveNumbersSaid : Prop := curveNumbersRow.holds Try.pinned (OpenSpec.ofChange curveNumbersSpec)

/-- ITS FALSE NEIGHBOUR: 'it returns false'. Refute it at one input. -/
def curveNumbersWrong : ChangeSpec := { name := "curveNumbers", fn := fun _ => fun
  | [d] => { results := [.lit (.bool false)], args := [d] }
  | _ => none }
def CurveNumbersWrongFalsely : Prop := curveNumbersRow.holds Try.pinned (OpenSpec.ofChange curveNumbersWrong)

/-- 'curvetlaw13.CurveOff': WHATEVER THE INPUT: true; the input reads as it did. -/
def curveOffSpec : ChangeSpec := { name := "curveOff", fn := fun _ => fun
  | [d1, d2, d3] => { results := [.lit (.bool true)], args := [d1, d2, d3] }
  | _ => none }
def curveOffRow : OpenClaim := { program := "ytljblbgogjieaaa", sum := "bd0b4935637ab8e0ff7cd50369ec414ddb9b798d28c5224bd1f99fcb31f1cecb", func := "curvet/curvetlaw13.CurveOff", spec := "curveOff", inPlace := ["math/bits.Sub64", "math/bits.Add64"], named := ["math/bits.divideError", "math/bits.overflowError"], apart := false }
def CurveOffSaid : Prop := curveOffRow.holds Try.pinned (OpenSpec.ofChange curveOffSpec)

/-- ITS FALSE NEIGHBOUR: 'it returns false'. Refute it at one input. -/
def curveOffWrong : ChangeSpec := { name := "curveOff", fn := fun _ => fun
  | [d1, d2, d3] => { results := [.lit (.bool false)], args := [d1, d2, d3] }
  | _ => none }
def CurveOffWrongFalsely : Prop := curveOffRow.holds Try.pinned (OpenSpec.ofChange curveOffWrong)

/-- 'curvetlaw13.CurveTiny': WHATEVER THE INPUT: true; the input reads as it did. -/
def curveTinySpec : ChangeSpec := { name := "curveTiny", fn := fun _ => fun
  | [d] => { results := [.lit (.bool true)], args := [d] }
  | _ => none }
def curveTinyRow : OpenClaim := { program := "ytljblbgogjieaaa", sum := "bd0b4935637ab8e0ff7cd50369ec414ddb9b798d28c5224bd1f99fcb31f1cecb", func := "curvet/curvetlaw13.CurveTiny", spec := "curveTiny", inPlace := ["math/bits.Sub64", "math/bits.Add64"], named := ["math/bits.divideError", "math/bits.overflowError"], apart := false }
def CurveTinySaid : Prop := curveTinyRow.holds Try.pinned (OpenSpec.ofChange curveTinySpec)

/-- ITS FALSE NEIGHBOUR: 'it returns false'. Refute it at one input. -/
def curveTinyWrong : ChangeSpec := { name := "curveTiny", fn := fun _ => fun
  | [d] => { results := [.lit (.bool false)], args := [d] }
  | _ => none }
def CurveTinyWrongFalsely : Prop := curveTinyRow.holds Try.pinned (OpenSpec.ofChange curveTinyWrong)

/-- 'curvetlaw20.Duals': WHATEVER THE INPUT: true; the input reads as it did. -/
def dualsSpec : ChangeSpec := { name := "duals", fn := fun _ => fun
  | [d1, d2, d3, d4] => { results := [.lit (.bool true)], args := [d1, d2, d3, d4] }
  | _ => none }
def dualsRow : OpenClaim := { program := "ytljblbgogjieaaa", sum := "bd0b4935637ab8e0ff7cd50369ec414ddb9b798d28c5224bd1f99fcb31f1cecb", func := "curvet/curvetlaw20.Duals", spec := "duals", inPlace := ["math/bits.Sub64", "math/bits.Add64"], unfollowed := true, recurses := true, named := ["math/bits.divideError", "math/bits.overflowError"], apart := false }
def DualsSaid : Prop := dualsRow.holds Try.pinned (OpenSpec.ofChange dualsSpec)

/-- ITS FALSE NEIGHBOUR: 'it returns false'. Refute it at one input. -/
def dualsWrong : ChangeSpec := { name := "duals", fn := fun _ => fun
  | [d1, d2, d3, d4] => { results := [.lit (.bool false)], args := [d1, d2, d3, d4] }
  | _ => none }
def DualsWrongFalsely : Prop := dualsRow.holds Try.pinned (OpenSpec.ofChange dualsWrong)

/-- 'curvetlaw20.DualTiny': WHATEVER THE INPUT: true; the input reads as it did. -/
def dualTinySpec : ChangeSpec := { name := "dualTiny", fn := fun _ => fun
  | [d1, d2, d3] => { results := [.lit (.bool true)], args := [d1, d2, d3] }
  | _ => none }
def dualTinyRow : OpenClaim := { program := "ytljblbgogjieaaa", sum := "bd0b4935637ab8e0ff7cd50369ec414ddb9b798d28c5224bd1f99fcb31f1cecb", func := "curvet/curvetlaw20.DualTiny", spec := "dualTiny", inPlace := ["math/bits.Sub64", "math/bits.Add64"], unfollowed := true, recurses := true, named := ["math/bits.divideError", "math/bits.overflowError"], apart := false }
def DualTinySaid : Prop := dualTinyRow.holds Try.pinned (OpenSpec.ofChange dualTinySpec)

/-- ITS FALSE NEIGHBOUR: 'it returns false'. Refute it at one input. -/
def dualTinyWrong : ChangeSpec := { name := "dualTiny", fn := fun _ => fun
  | [d1, d2, d3] => { results := [.lit (.bool false)], args := [d1, d2, d3] }
  | _ => none }
def DualTinyWrongFalsely : Prop := dualTinyRow.holds Try.pinned (OpenSpec.ofChange dualTinyWrong)

/-- 'curvetlaw15.Projs': WHATEVER THE INPUT: true; the input reads as it did. -/
def projsSpec : ChangeSpec := { name := "projs", fn := fun _ => fun
  | [d1, d2, d3] => { results := [.lit (.bool true)], args := [d1, d2, d3] }
  | _ => none }
def projsRow : OpenClaim := { program := "ytljblbgogjieaaa", sum := "bd0b4935637ab8e0ff7cd50369ec414ddb9b798d28c5224bd1f99fcb31f1cecb", func := "curvet/curvetlaw15.Projs", spec := "projs", inPlace := ["math/bits.Sub64", "math/bits.Add64"], unfollowed := true, recurses := true, named := ["math/bits.divideError", "math/bits.overflowError"], apart := false }
def ProjsSaid : Prop := projsRow.holds Try.pinned (OpenSpec.ofChange projsSpec)

/-- ITS FALSE NEIGHBOUR: 'it returns false'. Refute it at one input. -/
def projsWrong : ChangeSpec := { name := "projs", fn := fun _ => fun
  | [d1, d2, d3] => { results := [.lit (.bool false)], args := [d1, d2, d3] }
  | _ => none }
def ProjsWrongFalsely : Prop := projsRow.holds Try.pinned (OpenSpec.ofChange projsWrong)

/-- 'curvetlaw15.ProjFrom': WHATEVER THE INPUT: true; the input reads as it did. -/
def projFromSpec : ChangeSpec := { name := "projFrom", fn := fun _ => fun
  | [d1, d2] => { results := [.lit (.bool true)], args := [d1, d2] }
  | _ => none }
def projFromRow : OpenClaim := { program := "ytljblbgogjieaaa", sum := "bd0b4935637ab8e0ff7cd50369ec414ddb9b798d28c5224bd1f99fcb31f1cecb", func := "curvet/curvetlaw15.ProjFrom", spec := "projFrom", inPlace := ["math/bits.Sub64", "math/bits.Add64"], unfollowed := true, recurses := true, named := ["math/bits.divideError", "math/bits.overflowError"], apart := false }
def ProjFromSaid : Prop := projFromRow.holds Try.pinned (OpenSpec.ofChange projFromSpec)

/-- ITS FALSE NEIGHBOUR: 'it returns false'. Refute it at one input. -/
def projFromWrong : ChangeSpec := { name := "projFrom", fn := fun _ => fun
  | [d1, d2] => { results := [.lit (.bool false)], args := [d1, d2] }
  | _ => none }
def ProjFromWrongFalsely : Prop := projFromRow.holds Try.pinned (OpenSpec.ofChange projFromWrong)

/-- 'curvetlaw15.ProjScaled': WHATEVER THE INPUT: true; the input reads as it did. -/
def projScaledSpec : ChangeSpec := { name := "projScaled", fn := fun _ => fun
  | [d1, d2, d3, d4] => { results := [.lit (.bool true)], args := [d1, d2, d3, d4] }
  | _ => none }
def projScaledRow : OpenClaim := { program := "ytljblbgogjieaaa", sum := "bd0b4935637ab8e0ff7cd50369ec414ddb9b798d28c5224bd1f99fcb31f1cecb", func := "curvet/curvetlaw15.ProjScaled", spec := "projScaled", inPlace := ["math/bits.Sub64", "math/bits.Add64"], unfollowed := true, recurses := true, named := ["math/bits.divideError", "math/bits.overflowError"], apart := false }
def ProjScaledSaid : Prop := projScaledRow.holds Try.pinned (OpenSpec.ofChange projScaledSpec)

/-- ITS FALSE NEIGHBOUR: 'it returns false'. Refute it at one input. -/
def projScaledWrong : ChangeSpec := { name := "projScaled", fn := fun _ => fun
  | [d1, d2, d3, d4] => { results := [.lit (.bool false)], args := [d1, d2, d3, d4] }
  | _ => none }
def ProjScaledWrongFalsely : Prop := projScaledRow.holds Try.pinned (OpenSpec.ofChange projScaledWrong)

/-- 'curvetlaw15.ProjDoubles': WHATEVER THE INPUT: true; the input reads as it did. -/
def projDoublesSpec : ChangeSpec := { name := "projDoubles", fn := fun _ => fun
  | [d1, d2, d3] => { results := [.lit (.bool true)], args := [d1, d2, d3] }
  | _ => none }
def projDoublesRow : OpenClaim := { program := "ytljblbgogjieaaa", sum := "bd0b4935637ab8e0ff7cd50369ec414ddb9b798d28c5224bd1f99fcb31f1cecb", func := "curvet/curvetlaw15.ProjDoubles", spec := "projDoubles", inPlace := ["math/bits.Sub64", "math/bits.Add64"], unfollowed := true, recurses := true, named := ["math/bits.divideError", "math/bits.overflowError"], apart := false }
def ProjDoublesSaid : Prop := projDoublesRow.holds Try.pinned (OpenSpec.ofChange projDoublesSpec)

/-- ITS FALSE NEIGHBOUR: 'it returns false'. Refute it at one input. -/
def projDoublesWrong : ChangeSpec := { name := "projDoubles", fn := fun _ => fun
  | [d1, d2, d3] => { results := [.lit (.bool false)], args := [d1, d2, d3] }
  | _ => none }
def ProjDoublesWrongFalsely : Prop := projDoublesRow.holds Try.pinned (OpenSpec.ofChange projDoublesWrong)

/-- 'curvetlaw15.ProjNone': WHATEVER THE INPUT: true; the input reads as it did. -/
def projNoneSpec : ChangeSpec := { name := "projNone", fn := fun _ => fun
  | [d1, d2, d3] => { results := [.lit (.bool true)], args := [d1, d2, d3] }
  | _ => none }
def projNoneRow : OpenClaim := { program := "ytljblbgogjieaaa", sum := "bd0b4935637ab8e0ff7cd50369ec414ddb9b798d28c5224bd1f99fcb31f1cecb", func := "curvet/curvetlaw15.ProjNone", spec := "projNone", inPlace := ["math/bits.Sub64", "math/bits.Add64"], unfollowed := true, recurses := true, named := ["math/bits.divideError", "math/bits.overflowError"], apart := false }
def ProjNoneSaid : Prop := projNoneRow.holds Try.pinned (OpenSpec.ofChange projNoneSpec)

/-- ITS FALSE NEIGHBOUR: 'it returns false'. Refute it at one input. -/
def projNoneWrong : ChangeSpec := { name := "projNone", fn := fun _ => fun
  | [d1, d2, d3] => { results := [.lit (.bool false)], args := [d1, d2, d3] }
  | _ => none }
def ProjNoneWrongFalsely : Prop := projNoneRow.holds Try.pinned (OpenSpec.ofChange projNoneWrong)

/-- 'curvetlaw15.ProjTiny': WHATEVER THE INPUT: true; the input reads as it did. -/
def projTinySpec : ChangeSpec := { name := "projTiny", fn := fun _ => fun
  | [d1, d2] => { results := [.lit (.bool true)], args := [d1, d2] }
  | _ => none }
def projTinyRow : OpenClaim := { program := "ytljblbgogjieaaa", sum := "bd0b4935637ab8e0ff7cd50369ec414ddb9b798d28c5224bd1f99fcb31f1cecb", func := "curvet/curvetlaw15.ProjTiny", spec := "projTiny", inPlace := ["math/bits.Sub64", "math/bits.Add64"], unfollowed := true, recurses := true, named := ["math/bits.divideError", "math/bits.overflowError"], apart := false }
def ProjTinySaid : Prop := projTinyRow.holds Try.pinned (OpenSpec.ofChange projTinySpec)

/-- ITS FALSE NEIGHBOUR: 'it returns false'. Refute it at one input. -/
def projTinyWrong : ChangeSpec := { name := "projTiny", fn := fun _ => fun
  | [d1, d2] => { results := [.lit (.bool false)], args := [d1, d2] }
  | _ => none }
def ProjTinyWrongFalsely : Prop := projTinyRow.holds Try.pinned (OpenSpec.ofChange projTinyWrong)

/-- 'curvetlaw14.Affines': WHATEVER THE INPUT: true; the input reads as it did. -/
def affinesSpec : ChangeSpec := { name := "affines", fn := fun _ => fun
  | [d1, d2, d3] => { results := [.lit (.bool true)], args := [d1, d2, d3] }
  | _ => none }
def affinesRow : OpenClaim := { program := "ytljblbgogjieaaa", sum := "bd0b4935637ab8e0ff7cd50369ec414ddb9b798d28c5224bd1f99fcb31f1cecb", func := "curvet/curvetlaw14.Affines", spec := "affines", inPlace := ["math/bits.Sub64", "math/bits.Add64"], unfollowed := true, recurses := true, named := ["math/bits.divideError", "math/bits.overflowError"], apart := false }
def AffinesSaid : Prop := affinesRow.holds Try.pinned (OpenSpec.ofChange affinesSpec)

/-- ITS FALSE NEIGHBOUR: 'it returns false'. Refute it at one input. -/
def affinesWrong : ChangeSpec := { name := "affines", fn := fun _ => fun
  | [d1, d2, d3] => { results := [.lit (.bool false)], args := [d1, d2, d3] }
  | _ => none }
def AffinesWrongFalsely : Prop := affinesRow.holds Try.pinned (OpenSpec.ofChange affinesWrong)

/-- 'curvetlaw14.AffineTimes': WHATEVER THE INPUT: true; the input reads as it did. -/
def affineTimesSpec : ChangeSpec := { name := "affineTimes", fn := fun _ => fun
  | [d1, d2, d3] => { results := [.lit (.bool true)], args := [d1, d2, d3] }
  | _ => none }
def affineTimesRow : OpenClaim := { program := "ytljblbgogjieaaa", sum := "bd0b4935637ab8e0ff7cd50369ec414ddb9b798d28c5224bd1f99fcb31f1cecb", func := "curvet/curvetlaw14.AffineTimes", spec := "affineTimes", inPlace := ["math/bits.Add64", "math/bits.Sub64"], unfollowed := true, recurses := true, named := ["math/bits.divideError", "math/bits.overflowError"], apart := false }
def AffineTimesSaid : Prop := affineTimesRow.holds Try.pinned (OpenSpec.ofChange affineTimesSpec)

/-- ITS FALSE NEIGHBOUR: 'it returns false'. Refute it at one input. -/
def affineTimesWrong : ChangeSpec := { name := "affineTimes", fn := fun _ => fun
  | [d1, d2, d3] => { results := [.lit (.bool false)], args := [d1, d2, d3] }
  | _ => none }
def AffineTimesWrongFalsely : Prop := affineTimesRow.holds Try.pinned (OpenSpec.ofChange affineTimesWrong)

/-- 'curvetlaw14.AffineGroup': WHATEVER THE INPUT: true; the input reads as it did. -/
def affineGroupSpec : ChangeSpec := { name := "affineGroup", fn := fun _ => fun
  | [d1, d2, d3, d4] => { results := [.lit (.bool true)], args := [d1, d2, d3, d4] }
  | _ => none }
def affineGroupRow : OpenClaim := { program := "ytljblbgogjieaaa", sum := "bd0b4935637ab8e0ff7cd50369ec414ddb9b798d28c5224bd1f99fcb31f1cecb", func := "curvet/curvetlaw14.AffineGroup", spec := "affineGroup", inPlace := ["math/bits.Sub64", "math/bits.Add64"], unfollowed := true, recurses := true, named := ["math/bits.divideError", "math/bits.overflowError"], apart := false }
def AffineGroupSaid : Prop := affineGroupRow.holds Try.pinned (OpenSpec.ofChange affineGroupSpec)

/-- ITS FALSE NEIGHBOUR: 'it returns false'. Refute it at one input. -/
def affineGroupWrong : ChangeSpec := { name := "affineGroup", fn := fun _ => fun
  | [d1, d2, d3, d4] => { results := [.lit (.bool false)], args := [d1, d2, d3, d4] }
  | _ => none }
def AffineGroupWrongFalsely : Prop := affineGroupRow.holds Try.pinned (OpenSpec.ofChange affineGroupWrong)

/-- 'curvetlaw14.AffineOrder': WHATEVER THE INPUT: true; the input reads as it did. -/
def affineOrderSpec : ChangeSpec := { name := "affineOrder", fn := fun _ => fun
  | [d1, d2] => { results := [.lit (.bool true)], args := [d1, d2] }
  | _ => none }
def affineOrderRow : OpenClaim := { program := "ytljblbgogjieaaa", sum := "bd0b4935637ab8e0ff7cd50369ec414ddb9b798d28c5224bd1f99fcb31f1cecb", func := "curvet/curvetlaw14.AffineOrder", spec := "affineOrder", inPlace := ["math/bits.Sub64", "math/bits.Add64"], unfollowed := true, recurses := true, named := ["math/bits.divideError", "math/bits.overflowError"], apart := false }
def AffineOrderSaid : Prop := affineOrderRow.holds Try.pinned (OpenSpec.ofChange affineOrderSpec)

/-- ITS FALSE NEIGHBOUR: 'it returns false'. Refute it at one input. -/
def affineOrderWrong : ChangeSpec := { name := "affineOrder", fn := fun _ => fun
  | [d1, d2] => { results := [.lit (.bool false)], args := [d1, d2] }
  | _ => none }
def AffineOrderWrongFalsely : Prop := affineOrderRow.holds Try.pinned (OpenSpec.ofChange affineOrderWrong)

/-- 'curvetlaw14.AffineLine': WHATEVER THE INPUT: true; the input reads as it did. -/
def affineLineSpec : ChangeSpec := { name := "affineLine", fn := fun _ => fun
  | [d1, d2, d3] => { results := [.lit (.bool true)], args := [d1, d2, d3] }
  | _ => none }
def affineLineRow : OpenClaim := { program := "ytljblbgogjieaaa", sum := "bd0b4935637ab8e0ff7cd50369ec414ddb9b798d28c5224bd1f99fcb31f1cecb", func := "curvet/curvetlaw14.AffineLine", spec := "affineLine", inPlace := ["math/bits.Sub64", "math/bits.Add64"], unfollowed := true, recurses := true, named := ["math/bits.divideError", "math/bits.overflowError"], apart := false }
def AffineLineSaid : Prop := affineLineRow.holds Try.pinned (OpenSpec.ofChange affineLineSpec)

/-- ITS FALSE NEIGHBOUR: 'it returns false'. Refute it at one input. -/
def affineLineWrong : ChangeSpec := { name := "affineLine", fn := fun _ => fun
  | [d1, d2, d3] => { results := [.lit (.bool false)], args := [d1, d2, d3] }
  | _ => none }
def AffineLineWrongFalsely : Prop := affineLineRow.holds Try.pinned (OpenSpec.ofChange affineLineWrong)

/-- 'curvetlaw14.AffineOpposite': WHATEVER THE INPUT: true; the input reads as it did. -/
def affineOppositeSpec : ChangeSpec := { name := "affineOpposite", fn := fun _ => fun
  | [d1, d2, d3] => { results := [.lit (.bool true)], args := [d1, d2, d3] }
  | _ => none }
def affineOppositeRow : OpenClaim := { program := "ytljblbgogjieaaa", sum := "bd0b4935637ab8e0ff7cd50369ec414ddb9b798d28c5224bd1f99fcb31f1cecb", func := "curvet/curvetlaw14.AffineOpposite", spec := "affineOpposite", inPlace := ["math/bits.Sub64", "math/bits.Add64"], unfollowed := true, recurses := true, named := ["math/bits.divideError", "math/bits.overflowError"], apart := false }
def AffineOppositeSaid : Prop := affineOppositeRow.holds Try.pinned (OpenSpec.ofChange affineOppositeSpec)

/-- ITS FALSE NEIGHBOUR: 'it returns false'. Refute it at one input. -/
def affineOppositeWrong : ChangeSpec := { name := "affineOpposite", fn := fun _ => fun
  | [d1, d2, d3] => { results := [.lit (.bool false)], args := [d1, d2, d3] }
  | _ => none }
def AffineOppositeWrongFalsely : Prop := affineOppositeRow.holds Try.pinned (OpenSpec.ofChange affineOppositeWrong)

/-- 'curvetlaw14.AffineTiny': WHATEVER THE INPUT: true; the input reads as it did. -/
def affineTinySpec : ChangeSpec := { name := "affineTiny", fn := fun _ => fun
  | [d1, d2] => { results := [.lit (.bool true)], args := [d1, d2] }
  | _ => none }
def affineTinyRow : OpenClaim := { program := "ytljblbgogjieaaa", sum := "bd0b4935637ab8e0ff7cd50369ec414ddb9b798d28c5224bd1f99fcb31f1cecb", func := "curvet/curvetlaw14.AffineTiny", spec := "affineTiny", inPlace := ["math/bits.Sub64", "math/bits.Add64"], unfollowed := true, recurses := true, named := ["math/bits.divideError", "math/bits.overflowError"], apart := false }
def AffineTinySaid : Prop := affineTinyRow.holds Try.pinned (OpenSpec.ofChange affineTinySpec)

/-- ITS FALSE NEIGHBOUR: 'it returns false'. Refute it at one input. -/
def affineTinyWrong : ChangeSpec := { name := "affineTiny", fn := fun _ => fun
  | [d1, d2] => { results := [.lit (.bool false)], args := [d1, d2] }
  | _ => none }
def AffineTinyWrongFalsely : Prop := affineTinyRow.holds Try.pinned (OpenSpec.ofChange affineTinyWrong)

/-- 'curvetlaw14.AffineSplits': WHATEVER THE INPUT: true; the input reads as it did. -/
def affineSplitsSpec : ChangeSpec := { name := "affineSplits", fn := fun _ => fun
  | [d1, d2, d3, d4] => { results := [.lit (.bool true)], args := [d1, d2, d3, d4] }
  | _ => none }
def affineSplitsRow : OpenClaim := { program := "ytljblbgogjieaaa", sum := "bd0b4935637ab8e0ff7cd50369ec414ddb9b798d28c5224bd1f99fcb31f1cecb", func := "curvet/curvetlaw14.AffineSplits", spec := "affineSplits", inPlace := ["math/bits.Sub64", "math/bits.Add64"], unfollowed := true, recurses := true, named := ["math/bits.divideError", "math/bits.overflowError"], apart := false }
def AffineSplitsSaid : Prop := affineSplitsRow.holds Try.pinned (OpenSpec.ofChange affineSplitsSpec)

/-- ITS FALSE NEIGHBOUR: 'it returns false'. Refute it at one input. -/
def affineSplitsWrong : ChangeSpec := { name := "affineSplits", fn := fun _ => fun
  | [d1, d2, d3, d4] => { results := [.lit (.bool false)], args := [d1, d2, d3, d4] }
  | _ => none }
def AffineSplitsWrongFalsely : Prop := affineSplitsRow.holds Try.pinned (OpenSpec.ofChange affineSplitsWrong)

/-- 'curvetlaw14.AffineWalk': WHATEVER THE INPUT: true; the input reads as it did. -/
def affineWalkSpec : ChangeSpec := { name := "affineWalk", fn := fun _ => fun
  | [d] => { results := [.lit (.bool true)], args := [d] }
  | _ => none }
def affineWalkRow : OpenClaim := { program := "ytljblbgogjieaaa", sum := "bd0b4935637ab8e0ff7cd50369ec414ddb9b798d28c5224bd1f99fcb31f1cecb", func := "curvet/curvetlaw14.AffineWalk", spec := "affineWalk", inPlace := ["math/bits.Sub64", "math/bits.Add64"], unfollowed := true, recurses := true, named := ["math/bits.divideError", "math/bits.overflowError"], apart := false }
def AffineWalkSaid : Prop := affineWalkRow.holds Try.pinned (OpenSpec.ofChange affineWalkSpec)

/-- ITS FALSE NEIGHBOUR: 'it returns false'. Refute it at one input. -/
def affineWalkWrong : ChangeSpec := { name := "affineWalk", fn := fun _ => fun
  | [d] => { results := [.lit (.bool false)], args := [d] }
  | _ => none }
def AffineWalkWrongFalsely : Prop := affineWalkRow.holds Try.pinned (OpenSpec.ofChange affineWalkWrong)

/-- 'curvetlaw20.DualParts': WHATEVER THE INPUT: true; the input reads as it did. -/
def dualPartsSpec : ChangeSpec := { name := "dualParts", fn := fun _ => fun
  | [d1, d2, d3, d4] => { results := [.lit (.bool true)], args := [d1, d2, d3, d4] }
  | _ => none }
def dualPartsRow : OpenClaim := { program := "ytljblbgogjieaaa", sum := "bd0b4935637ab8e0ff7cd50369ec414ddb9b798d28c5224bd1f99fcb31f1cecb", func := "curvet/curvetlaw20.DualParts", spec := "dualParts", inPlace := ["math/bits.Sub64", "math/bits.Add64"], unfollowed := true, recurses := true, named := ["math/bits.divideError", "math/bits.overflowError"], apart := false }
def DualPartsSaid : Prop := dualPartsRow.holds Try.pinned (OpenSpec.ofChange dualPartsSpec)

/-- ITS FALSE NEIGHBOUR: 'it returns false'. Refute it at one input. -/
def dualPartsWrong : ChangeSpec := { name := "dualParts", fn := fun _ => fun
  | [d1, d2, d3, d4] => { results := [.lit (.bool false)], args := [d1, d2, d3, d4] }
  | _ => none }
def DualPartsWrongFalsely : Prop := dualPartsRow.holds Try.pinned (OpenSpec.ofChange dualPartsWrong)

/-- 'curvetlaw16.TableSizes': WHATEVER THE INPUT: true; the input reads as it did. -/
def tableSizesSpec : ChangeSpec := { name := "tableSizes", fn := fun _ => fun
  | [d1, d2, d3] => { results := [.lit (.bool true)], args := [d1, d2, d3] }
  | _ => none }
def tableSizesRow : OpenClaim := { program := "ytljblbgogjieaaa", sum := "bd0b4935637ab8e0ff7cd50369ec414ddb9b798d28c5224bd1f99fcb31f1cecb", func := "curvet/curvetlaw16.TableSizes", spec := "tableSizes", inPlace := ["math/bits.Sub64", "math/bits.Add64"], unfollowed := true, recurses := true, named := ["math/bits.divideError", "math/bits.overflowError"], apart := false }
def TableSizesSaid : Prop := tableSizesRow.holds Try.pinned (OpenSpec.ofChange tableSizesSpec)

/-- ITS FALSE NEIGHBOUR: 'it returns false'. Refute it at one input. -/
def tableSizesWrong : ChangeSpec := { name := "tableSizes", fn := fun _ => fun
  | [d1, d2, d3] => { results := [.lit (.bool false)], args := [d1, d2, d3] }
  | _ => none }
def TableSizesWrongFalsely : Prop := tableSizesRow.holds Try.pinned (OpenSpec.ofChange tableSizesWrong)

/-- 'curvetlaw16.TableNil': WHATEVER THE INPUT: true; the input reads as it did. -/
def tableNilSpec : ChangeSpec := { name := "tableNil", fn := fun _ => fun
  | [d1, d2, d3] => { results := [.lit (.bool true)], args := [d1, d2, d3] }
  | _ => none }
def tableNilRow : OpenClaim := { program := "ytljblbgogjieaaa", sum := "bd0b4935637ab8e0ff7cd50369ec414ddb9b798d28c5224bd1f99fcb31f1cecb", func := "curvet/curvetlaw16.TableNil", spec := "tableNil", inPlace := ["math/bits.Sub64", "math/bits.Add64"], unfollowed := true, recurses := true, named := ["math/bits.divideError", "math/bits.overflowError"], apart := false }
def TableNilSaid : Prop := tableNilRow.holds Try.pinned (OpenSpec.ofChange tableNilSpec)

/-- ITS FALSE NEIGHBOUR: 'it returns false'. Refute it at one input. -/
def tableNilWrong : ChangeSpec := { name := "tableNil", fn := fun _ => fun
  | [d1, d2, d3] => { results := [.lit (.bool false)], args := [d1, d2, d3] }
  | _ => none }
def TableNilWrongFalsely : Prop := tableNilRow.holds Try.pinned (OpenSpec.ofChange tableNilWrong)

/-- 'curvetlaw15.ProjSums': WHATEVER THE INPUT: true; the input reads as it did. -/
def projSumsSpec : ChangeSpec := { name := "projSums", fn := fun _ => fun
  | [d1, d2, d3, d4] => { results := [.lit (.bool true)], args := [d1, d2, d3, d4] }
  | _ => none }
def projSumsRow : OpenClaim := { program := "ytljblbgogjieaaa", sum := "bd0b4935637ab8e0ff7cd50369ec414ddb9b798d28c5224bd1f99fcb31f1cecb", func := "curvet/curvetlaw15.ProjSums", spec := "projSums", inPlace := ["math/bits.Sub64", "math/bits.Add64"], unfollowed := true, recurses := true, named := ["math/bits.divideError", "math/bits.overflowError"], apart := false }
def ProjSumsSaid : Prop := projSumsRow.holds Try.pinned (OpenSpec.ofChange projSumsSpec)

/-- ITS FALSE NEIGHBOUR: 'it returns false'. Refute it at one input. -/
def projSumsWrong : ChangeSpec := { name := "projSums", fn := fun _ => fun
  | [d1, d2, d3, d4] => { results := [.lit (.bool false)], args := [d1, d2, d3, d4] }
  | _ => none }
def ProjSumsWrongFalsely : Prop := projSumsRow.holds Try.pinned (OpenSpec.ofChange projSumsWrong)

/-- 'curvetlaw21.Sec1s': WHATEVER THE INPUT: true; the input reads as it did. -/
def sec1sSpec : ChangeSpec := { name := "sec1s", fn := fun _ => fun
  | [d1, d2, d3, d4] => { results := [.lit (.bool true)], args := [d1, d2, d3, d4] }
  | _ => none }
def sec1sRow : OpenClaim := { program := "ytljblbgogjieaaa", sum := "bd0b4935637ab8e0ff7cd50369ec414ddb9b798d28c5224bd1f99fcb31f1cecb", func := "curvet/curvetlaw21.Sec1s", spec := "sec1s", inPlace := ["math/bits.Sub64", "math/bits.Add64"], named := ["math/bits.divideError", "math/bits.overflowError"], apart := false }
def Sec1sSaid : Prop := sec1sRow.holds Try.pinned (OpenSpec.ofChange sec1sSpec)

/-- ITS FALSE NEIGHBOUR: 'it returns false'. Refute it at one input. -/
def sec1sWrong : ChangeSpec := { name := "sec1s", fn := fun _ => fun
  | [d1, d2, d3, d4] => { results := [.lit (.bool false)], args := [d1, d2, d3, d4] }
  | _ => none }
def Sec1sWrongFalsely : Prop := sec1sRow.holds Try.pinned (OpenSpec.ofChange sec1sWrong)

/-- 'curvetlaw21.Sec1Back': WHATEVER THE INPUT: true; the input reads as it did. -/
def sec1BackSpec : ChangeSpec := { name := "sec1Back", fn := fun _ => fun
  | [d1, d2, d3, d4] => { results := [.lit (.bool true)], args := [d1, d2, d3, d4] }
  | _ => none }
def sec1BackRow : OpenClaim := { program := "ytljblbgogjieaaa", sum := "bd0b4935637ab8e0ff7cd50369ec414ddb9b798d28c5224bd1f99fcb31f1cecb", func := "curvet/curvetlaw21.Sec1Back", spec := "sec1Back", inPlace := ["math/bits.Sub64", "math/bits.Add64"], named := ["math/bits.divideError", "math/bits.overflowError"], apart := false }
def Sec1BackSaid : Prop := sec1BackRow.holds Try.pinned (OpenSpec.ofChange sec1BackSpec)

/-- ITS FALSE NEIGHBOUR: 'it returns false'. Refute it at one input. -/
def sec1BackWrong : ChangeSpec := { name := "sec1Back", fn := fun _ => fun
  | [d1, d2, d3, d4] => { results := [.lit (.bool false)], args := [d1, d2, d3, d4] }
  | _ => none }
def Sec1BackWrongFalsely : Prop := sec1BackRow.holds Try.pinned (OpenSpec.ofChange sec1BackWrong)

/-- 'curvetlaw21.Sec1Tiny': WHATEVER THE INPUT: true; the input reads as it did. -/
def sec1TinySpec : ChangeSpec := { name := "sec1Tiny", fn := fun _ => fun
  | [d1, d2] => { results := [.lit (.bool true)], args := [d1, d2] }
  | _ => none }
def sec1TinyRow : OpenClaim := { program := "ytljblbgogjieaaa", sum := "bd0b4935637ab8e0ff7cd50369ec414ddb9b798d28c5224bd1f99fcb31f1cecb", func := "curvet/curvetlaw21.Sec1Tiny", spec := "sec1Tiny", inPlace := ["math/bits.Sub64", "math/bits.Add64"], named := ["math/bits.divideError", "math/bits.overflowError"], apart := false }
def Sec1TinySaid : Prop := sec1TinyRow.holds Try.pinned (OpenSpec.ofChange sec1TinySpec)

/-- ITS FALSE NEIGHBOUR: 'it returns false'. Refute it at one input. -/
def sec1TinyWrong : ChangeSpec := { name := "sec1Tiny", fn := fun _ => fun
  | [d1, d2] => { results := [.lit (.bool false)], args := [d1, d2] }
  | _ => none }
def Sec1TinyWrongFalsely : Prop := sec1TinyRow.holds Try.pinned (OpenSpec.ofChange sec1TinyWrong)

/-- 'curvetlaw21.Sec1Both': WHATEVER THE INPUT: true; the input reads as it did. -/
def sec1BothSpec : ChangeSpec := { name := "sec1Both", fn := fun _ => fun
  | [d1, d2] => { results := [.lit (.bool true)], args := [d1, d2] }
  | _ => none }
def sec1BothRow : OpenClaim := { program := "ytljblbgogjieaaa", sum := "bd0b4935637ab8e0ff7cd50369ec414ddb9b798d28c5224bd1f99fcb31f1cecb", func := "curvet/curvetlaw21.Sec1Both", spec := "sec1Both", inPlace := ["math/bits.Sub64", "math/bits.Add64"], named := ["math/bits.divideError", "math/bits.overflowError"], apart := false }
def Sec1BothSaid : Prop := sec1BothRow.holds Try.pinned (OpenSpec.ofChange sec1BothSpec)

/-- ITS FALSE NEIGHBOUR: 'it returns false'. Refute it at one input. -/
def sec1BothWrong : ChangeSpec := { name := "sec1Both", fn := fun _ => fun
  | [d1, d2] => { results := [.lit (.bool false)], args := [d1, d2] }
  | _ => none }
def Sec1BothWrongFalsely : Prop := sec1BothRow.holds Try.pinned (OpenSpec.ofChange sec1BothWrong)

/-- 'curvetlaw21.Sec1Lengths': WHATEVER THE INPUT: true; the input reads as it did. -/
def sec1LengthsSpec : ChangeSpec := { name := "sec1Lengths", fn := fun _ => fun
  | [d1, d2, d3, d4] => { results := [.lit (.bool true)], args := [d1, d2, d3, d4] }
  | _ => none }
def sec1LengthsRow : OpenClaim := { program := "ytljblbgogjieaaa", sum := "bd0b4935637ab8e0ff7cd50369ec414ddb9b798d28c5224bd1f99fcb31f1cecb", func := "curvet/curvetlaw21.Sec1Lengths", spec := "sec1Lengths", inPlace := ["math/bits.Sub64", "math/bits.Add64"], named := ["math/bits.divideError", "math/bits.overflowError"], apart := false }
def Sec1LengthsSaid : Prop := sec1LengthsRow.holds Try.pinned (OpenSpec.ofChange sec1LengthsSpec)

/-- ITS FALSE NEIGHBOUR: 'it returns false'. Refute it at one input. -/
def sec1LengthsWrong : ChangeSpec := { name := "sec1Lengths", fn := fun _ => fun
  | [d1, d2, d3, d4] => { results := [.lit (.bool false)], args := [d1, d2, d3, d4] }
  | _ => none }
def Sec1LengthsWrongFalsely : Prop := sec1LengthsRow.holds Try.pinned (OpenSpec.ofChange sec1LengthsWrong)

/-- 'curvetlaw21.Sec1Whole': WHATEVER THE INPUT: true; the input reads as it did. -/
def sec1WholeSpec : ChangeSpec := { name := "sec1Whole", fn := fun _ => fun
  | [d] => { results := [.lit (.bool true)], args := [d] }
  | _ => none }
def sec1WholeRow : OpenClaim := { program := "ytljblbgogjieaaa", sum := "bd0b4935637ab8e0ff7cd50369ec414ddb9b798d28c5224bd1f99fcb31f1cecb", func := "curvet/curvetlaw21.Sec1Whole", spec := "sec1Whole", inPlace := ["math/bits.Sub64", "math/bits.Add64"], named := ["math/bits.divideError", "math/bits.overflowError"], apart := false }
def Sec1WholeSaid : Prop := sec1WholeRow.holds Try.pinned (OpenSpec.ofChange sec1WholeSpec)

/-- ITS FALSE NEIGHBOUR: 'it returns false'. Refute it at one input. -/
def sec1WholeWrong : ChangeSpec := { name := "sec1Whole", fn := fun _ => fun
  | [d] => { results := [.lit (.bool false)], args := [d] }
  | _ => none }
def Sec1WholeWrongFalsely : Prop := sec1WholeRow.holds Try.pinned (OpenSpec.ofChange sec1WholeWrong)

/-- 'curvetlaw21.Sec1Great': WHATEVER THE INPUT: true; the input reads as it did. -/
def sec1GreatSpec : ChangeSpec := { name := "sec1Great", fn := fun _ => fun
  | [d1, d2, d3] => { results := [.lit (.bool true)], args := [d1, d2, d3] }
  | _ => none }
def sec1GreatRow : OpenClaim := { program := "ytljblbgogjieaaa", sum := "bd0b4935637ab8e0ff7cd50369ec414ddb9b798d28c5224bd1f99fcb31f1cecb", func := "curvet/curvetlaw21.Sec1Great", spec := "sec1Great", inPlace := ["math/bits.Sub64", "math/bits.Add64"], named := ["math/bits.divideError", "math/bits.overflowError"], apart := false }
def Sec1GreatSaid : Prop := sec1GreatRow.holds Try.pinned (OpenSpec.ofChange sec1GreatSpec)

/-- ITS FALSE NEIGHBOUR: 'it returns false'. Refute it at one input. -/
def sec1GreatWrong : ChangeSpec := { name := "sec1Great", fn := fun _ => fun
  | [d1, d2, d3] => { results := [.lit (.bool false)], args := [d1, d2, d3] }
  | _ => none }
def Sec1GreatWrongFalsely : Prop := sec1GreatRow.holds Try.pinned (OpenSpec.ofChange sec1GreatWrong)

/-- 'curvetlaw16.Tables': WHATEVER THE INPUT: true; the input reads as it did. -/
def tablesSpec : ChangeSpec := { name := "tables", fn := fun _ => fun
  | [d1, d2, d3, d4] => { results := [.lit (.bool true)], args := [d1, d2, d3, d4] }
  | _ => none }
def tablesRow : OpenClaim := { program := "ytljblbgogjieaaa", sum := "bd0b4935637ab8e0ff7cd50369ec414ddb9b798d28c5224bd1f99fcb31f1cecb", func := "curvet/curvetlaw16.Tables", spec := "tables", inPlace := ["math/bits.Sub64", "math/bits.Add64"], unfollowed := true, recurses := true, named := ["math/bits.divideError", "math/bits.overflowError"], apart := false }
def TablesSaid : Prop := tablesRow.holds Try.pinned (OpenSpec.ofChange tablesSpec)

/-- ITS FALSE NEIGHBOUR: 'it returns false'. Refute it at one input. -/
def tablesWrong : ChangeSpec := { name := "tables", fn := fun _ => fun
  | [d1, d2, d3, d4] => { results := [.lit (.bool false)], args := [d1, d2, d3, d4] }
  | _ => none }
def TablesWrongFalsely : Prop := tablesRow.holds Try.pinned (OpenSpec.ofChange tablesWrong)

/-- 'curvetlaw19.Bases': WHATEVER THE INPUT: true; the input reads as it did. -/
def basesSpec : ChangeSpec := { name := "bases", fn := fun _ => fun
  | [d1, d2] => { results := [.lit (.bool true)], args := [d1, d2] }
  | _ => none }
def basesRow : OpenClaim := { program := "ytljblbgogjieaaa", sum := "bd0b4935637ab8e0ff7cd50369ec414ddb9b798d28c5224bd1f99fcb31f1cecb", func := "curvet/curvetlaw19.Bases", spec := "bases", inPlace := ["math/bits.Sub64", "math/bits.Add64"], unfollowed := true, recurses := true, named := ["math/bits.divideError", "math/bits.overflowError"], apart := false }
def BasesSaid : Prop := basesRow.holds Try.pinned (OpenSpec.ofChange basesSpec)

/-- ITS FALSE NEIGHBOUR: 'it returns false'. Refute it at one input. -/
def basesWrong : ChangeSpec := { name := "bases", fn := fun _ => fun
  | [d1, d2] => { results := [.lit (.bool false)], args := [d1, d2] }
  | _ => none }
def BasesWrongFalsely : Prop := basesRow.holds Try.pinned (OpenSpec.ofChange basesWrong)

/- THE SECOND FORM. 'bulk': how many values and letters a reading holds, each counted each time it is reached (what is shared counts as often as it is met; a slice's spare places count too). A statement '..UptoSaid' is the law's where the arguments, and the package variables that the reading takes, are together of bulk at most 1048576: NARROWER than '..Said'. Prove '..Said' where nothing that the law and all that it calls make is longer than what came in: it says more and counts as full. Else prove '..UptoSaid'. A law counts once. -/
mutual
def uptoBulk {H : Type} : DataW H → Nat
  | .lit (.string bytes) => bytes.length + 1
  | .lit _ => 1
  | .nil => 1
  | .ptr d => uptoBulk d + 1
  | .slice elems spare => uptoBulkAll elems + uptoBulkAll spare + 1
  | .agg parts => uptoBulkAll parts + 1
  | .iface _ d => uptoBulk d + 1
  | .map entries => uptoBulkEntries entries + 1
  | .held _ => 1
def uptoBulkAll {H : Type} : List (DataW H) → Nat
  | [] => 0
  | d :: r => uptoBulk d + uptoBulkAll r
def uptoBulkEntries {H : Type} : List (Lit × DataW H) → Nat
  | [] => 0
  | x :: r => uptoBulkEntry x + uptoBulkEntries r
def uptoBulkEntry {H : Type} : Lit × DataW H → Nat
  | (.string bytes, d) => bytes.length + uptoBulk d + 1
  | (_, d) => uptoBulk d + 1
 end
def uptoSmall : (H : Type) → List (DataW H) → Bool := fun _ ds => decide (uptoBulkAll ds ≤ 1048576)
def OpenSpec.upto (s : _root_.Go.ChangeSpec) : _root_.Go.OpenSpec := { _root_.Go.OpenSpec.ofChange s with cond := some uptoSmall }

/-- 'curvetlaw23.Raws', WHERE WHAT IT READS IS OF BULK AT MOST 1048576: true; the input reads as it did. -/
def rawsUptoRow : OpenClaim := { program := "ytljblbgogjieaaa", sum := "bd0b4935637ab8e0ff7cd50369ec414ddb9b798d28c5224bd1f99fcb31f1cecb", func := "curvet/curvetlaw23.Raws", spec := "raws", inPlace := ["math/bits.Sub64", "math/bits.Add64"], apart := false, narrowed := true }
def RawsUptoSaid : Prop := rawsUptoRow.holds Try.pinned (OpenSpec.upto rawsSpec)

/-- 'curvetlaw23.RawBack', WHERE WHAT IT READS IS OF BULK AT MOST 1048576: true; the input reads as it did. -/
def rawBackUptoRow : OpenClaim := { program := "ytljblbgogjieaaa", sum := "bd0b4935637ab8e0ff7cd50369ec414ddb9b798d28c5224bd1f99fcb31f1cecb", func := "curvet/curvetlaw23.RawBack", spec := "rawBack", inPlace := ["math/bits.Sub64", "math/bits.Add64"], apart := false, narrowed := true }
def RawBackUptoSaid : Prop := rawBackUptoRow.holds Try.pinned (OpenSpec.upto rawBackSpec)

/-- 'curvetlaw23.RawLengths', WHERE WHAT IT READS IS OF BULK AT MOST 1048576: true; the input reads as it did. -/
def rawLengthsUptoRow : OpenClaim := { program := "ytljblbgogjieaaa", sum := "bd0b4935637ab8e0ff7cd50369ec414ddb9b798d28c5224bd1f99fcb31f1cecb", func := "curvet/curvetlaw23.RawLengths", spec := "rawLengths", inPlace := ["math/bits.Sub64", "math/bits.Add64"], apart := false, narrowed := true }
def RawLengthsUptoSaid : Prop := rawLengthsUptoRow.holds Try.pinned (OpenSpec.upto rawLengthsSpec)

/-- 'curvetlaw23.RawTiny', WHERE WHAT IT READS IS OF BULK AT MOST 1048576: true; the input reads as it did. -/
def rawTinyUptoRow : OpenClaim := { program := "ytljblbgogjieaaa", sum := "bd0b4935637ab8e0ff7cd50369ec414ddb9b798d28c5224bd1f99fcb31f1cecb", func := "curvet/curvetlaw23.RawTiny", spec := "rawTiny", inPlace := ["math/bits.Sub64", "math/bits.Add64"], apart := false, narrowed := true }
def RawTinyUptoSaid : Prop := rawTinyUptoRow.holds Try.pinned (OpenSpec.upto rawTinySpec)

/-- 'curvetlaw13.Curves', WHERE WHAT IT READS IS OF BULK AT MOST 1048576: true; the input reads as it did. -/
def curvesUptoRow : OpenClaim := { program := "ytljblbgogjieaaa", sum := "bd0b4935637ab8e0ff7cd50369ec414ddb9b798d28c5224bd1f99fcb31f1cecb", func := "curvet/curvetlaw13.Curves", spec := "curves", inPlace := ["math/bits.Sub64", "math/bits.Add64"], named := ["math/bits.divideError", "math/bits.overflowError"], apart := false, narrowed := true }
def CurvesUptoSaid : Prop := curvesUptoRow.holds Try.pinned (OpenSpec.upto curvesSpec)

/-- 'curvetlaw13.CurveOns', WHERE WHAT IT READS IS OF BULK AT MOST 1048576: true; the input reads as it did. -/
def curveOnsUptoRow : OpenClaim := { program := "ytljblbgogjieaaa", sum := "bd0b4935637ab8e0ff7cd50369ec414ddb9b798d28c5224bd1f99fcb31f1cecb", func := "curvet/curvetlaw13.CurveOns", spec := "curveOns", inPlace := ["math/bits.Sub64", "math/bits.Add64"], named := ["math/bits.divideError", "math/bits.overflowError"], apart := false, narrowed := true }
def CurveOnsUptoSaid : Prop := curveOnsUptoRow.holds Try.pinned (OpenSpec.upto curveOnsSpec)

/-- 'curvetlaw13.CurveSound', WHERE WHAT IT READS IS OF BULK AT MOST 1048576: true; the input reads as it did. -/
def curveSoundUptoRow : OpenClaim := { program := "ytljblbgogjieaaa", sum := "bd0b4935637ab8e0ff7cd50369ec414ddb9b798d28c5224bd1f99fcb31f1cecb", func := "curvet/curvetlaw13.CurveSound", spec := "curveSound", inPlace := ["math/bits.Sub64", "math/bits.Add64"], named := ["math/bits.divideError", "math/bits.overflowError"], apart := false, narrowed := true }
def CurveSoundUptoSaid : Prop := curveSoundUptoRow.holds Try.pinned (OpenSpec.upto curveSoundSpec)

/-- 'curvetlaw13.CurveNumbers', WHERE WHAT IT READS IS OF BULK AT MOST 1048576: true; the input reads as it did. -/
def curveNumbersUptoRow : OpenClaim := { program := "ytljblbgogjieaaa", sum := "bd0b4935637ab8e0ff7cd50369ec414ddb9b798d28c5224bd1f99fcb31f1cecb", func := "curvet/curvetlaw13.CurveNumbers", spec := "curveNumbers", inPlace := ["math/bits.Sub64", "math/bits.Add64"], named := ["math/bits.divideError", "math/bits.overflowError"], apart := false, narrowed := true }
def CurveNumbersUptoSaid : Prop := curveNumbersUptoRow.holds Try.pinned (OpenSpec.upto curveNumbersSpec)

/-- 'curvetlaw13.CurveOff', WHERE WHAT IT READS IS OF BULK AT MOST 1048576: true; the input reads as it did. -/
def curveOffUptoRow : OpenClaim := { program := "ytljblbgogjieaaa", sum := "bd0b4935637ab8e0ff7cd50369ec414ddb9b798d28c5224bd1f99fcb31f1cecb", func := "curvet/curvetlaw13.CurveOff", spec := "curveOff", inPlace := ["math/bits.Sub64", "math/bits.Add64"], named := ["math/bits.divideError", "math/bits.overflowError"], apart := false, narrowed := true }
def CurveOffUptoSaid : Prop := curveOffUptoRow.holds Try.pinned (OpenSpec.upto curveOffSpec)

/-- 'curvetlaw13.CurveTiny', WHERE WHAT IT READS IS OF BULK AT MOST 1048576: true; the input reads as it did. -/
def curveTinyUptoRow : OpenClaim := { program := "ytljblbgogjieaaa", sum := "bd0b4935637ab8e0ff7cd50369ec414ddb9b798d28c5224bd1f99fcb31f1cecb", func := "curvet/curvetlaw13.CurveTiny", spec := "curveTiny", inPlace := ["math/bits.Sub64", "math/bits.Add64"], named := ["math/bits.divideError", "math/bits.overflowError"], apart := false, narrowed := true }
def CurveTinyUptoSaid : Prop := curveTinyUptoRow.holds Try.pinned (OpenSpec.upto curveTinySpec)

/-- 'curvetlaw20.Duals', WHERE WHAT IT READS IS OF BULK AT MOST 1048576: true; the input reads as it did. -/
def dualsUptoRow : OpenClaim := { program := "ytljblbgogjieaaa", sum := "bd0b4935637ab8e0ff7cd50369ec414ddb9b798d28c5224bd1f99fcb31f1cecb", func := "curvet/curvetlaw20.Duals", spec := "duals", inPlace := ["math/bits.Sub64", "math/bits.Add64"], unfollowed := true, recurses := true, named := ["math/bits.divideError", "math/bits.overflowError"], apart := false, narrowed := true }
def DualsUptoSaid : Prop := dualsUptoRow.holds Try.pinned (OpenSpec.upto dualsSpec)

/-- 'curvetlaw20.DualTiny', WHERE WHAT IT READS IS OF BULK AT MOST 1048576: true; the input reads as it did. -/
def dualTinyUptoRow : OpenClaim := { program := "ytljblbgogjieaaa", sum := "bd0b4935637ab8e0ff7cd50369ec414ddb9b798d28c5224bd1f99fcb31f1cecb", func := "curvet/curvetlaw20.DualTiny", spec := "dualTiny", inPlace := ["math/bits.Sub64", "math/bits.Add64"], unfollowed := true, recurses := true, named := ["math/bits.divideError", "math/bits.overflowError"], apart := false, narrowed := true }
def DualTinyUptoSaid : Prop := dualTinyUptoRow.holds Try.pinned (OpenSpec.upto dualTinySpec)

/-- 'curvetlaw15.Projs', WHERE WHAT IT READS IS OF BULK AT MOST 1048576: true; the input reads as it did. -/
def projsUptoRow : OpenClaim := { program := "ytljblbgogjieaaa", sum := "bd0b4935637ab8e0ff7cd50369ec414ddb9b798d28c5224bd1f99fcb31f1cecb", func := "curvet/curvetlaw15.Projs", spec := "projs", inPlace := ["math/bits.Sub64", "math/bits.Add64"], unfollowed := true, recurses := true, named := ["math/bits.divideError", "math/bits.overflowError"], apart := false, narrowed := true }
def ProjsUptoSaid : Prop := projsUptoRow.holds Try.pinned (OpenSpec.upto projsSpec)

/-- 'curvetlaw15.ProjFrom', WHERE WHAT IT READS IS OF BULK AT MOST 1048576: true; the input reads as it did. -/
def projFromUptoRow : OpenClaim := { program := "ytljblbgogjieaaa", sum := "bd0b4935637ab8e0ff7cd50369ec414ddb9b798d28c5224bd1f99fcb31f1cecb", func := "curvet/curvetlaw15.ProjFrom", spec := "projFrom", inPlace := ["math/bits.Sub64", "math/bits.Add64"], unfollowed := true, recurses := true, named := ["math/bits.divideError", "math/bits.overflowError"], apart := false, narrowed := true }
def ProjFromUptoSaid : Prop := projFromUptoRow.holds Try.pinned (OpenSpec.upto projFromSpec)

/-- 'curvetlaw15.ProjScaled', WHERE WHAT IT READS IS OF BULK AT MOST 1048576: true; the input reads as it did. -/
def projScaledUptoRow : OpenClaim := { program := "ytljblbgogjieaaa", sum := "bd0b4935637ab8e0ff7cd50369ec414ddb9b798d28c5224bd1f99fcb31f1cecb", func := "curvet/curvetlaw15.ProjScaled", spec := "projScaled", inPlace := ["math/bits.Sub64", "math/bits.Add64"], unfollowed := true, recurses := true, named := ["math/bits.divideError", "math/bits.overflowError"], apart := false, narrowed := true }
def ProjScaledUptoSaid : Prop := projScaledUptoRow.holds Try.pinned (OpenSpec.upto projScaledSpec)

/-- 'curvetlaw15.ProjDoubles', WHERE WHAT IT READS IS OF BULK AT MOST 1048576: true; the input reads as it did. -/
def projDoublesUptoRow : OpenClaim := { program := "ytljblbgogjieaaa", sum := "bd0b4935637ab8e0ff7cd50369ec414ddb9b798d28c5224bd1f99fcb31f1cecb", func := "curvet/curvetlaw15.ProjDoubles", spec := "projDoubles", inPlace := ["math/bits.Sub64", "math/bits.Add64"], unfollowed := true, recurses := true, named := ["math/bits.divideError", "math/bits.overflowError"], apart := false, narrowed := true }
def ProjDoublesUptoSaid : Prop := projDoublesUptoRow.holds Try.pinned (OpenSpec.upto projDoublesSpec)

/-- 'curvetlaw15.ProjNone', WHERE WHAT IT READS IS OF BULK AT MOST 1048576: true; the input reads as it did. -/
def projNoneUptoRow : OpenClaim := { program := "ytljblbgogjieaaa", sum := "bd0b4935637ab8e0ff7cd50369ec414ddb9b798d28c5224bd1f99fcb31f1cecb", func := "curvet/curvetlaw15.ProjNone", spec := "projNone", inPlace := ["math/bits.Sub64", "math/bits.Add64"], unfollowed := true, recurses := true, named := ["math/bits.divideError", "math/bits.overflowError"], apart := false, narrowed := true }
def ProjNoneUptoSaid : Prop := projNoneUptoRow.holds Try.pinned (OpenSpec.upto projNoneSpec)

/-- 'curvetlaw15.ProjTiny', WHERE WHAT IT READS IS OF BULK AT MOST 1048576: true; the input reads as it did. -/
def projTinyUptoRow : OpenClaim := { program := "ytljblbgogjieaaa", sum := "bd0b4935637ab8e0ff7cd50369ec414ddb9b798d28c5224bd1f99fcb31f1cecb", func := "curvet/curvetlaw15.ProjTiny", spec := "projTiny", inPlace := ["math/bits.Sub64", "math/bits.Add64"], unfollowed := true, recurses := true, named := ["math/bits.divideError", "math/bits.overflowError"], apart := false, narrowed := true }
def ProjTinyUptoSaid : Prop := projTinyUptoRow.holds Try.pinned (OpenSpec.upto projTinySpec)

/-- 'curvetlaw14.Affines', WHERE WHAT IT READS IS OF BULK AT MOST 1048576: true; the input reads as it did. -/
def affinesUptoRow : OpenClaim := { program := "ytljblbgogjieaaa", sum := "bd0b4935637ab8e0ff7cd50369ec414ddb9b798d28c5224bd1f99fcb31f1cecb", func := "curvet/curvetlaw14.Affines", spec := "affines", inPlace := ["math/bits.Sub64", "math/bits.Add64"], unfollowed := true, recurses := true, named := ["math/bits.divideError", "math/bits.overflowError"], apart := false, narrowed := true }
def AffinesUptoSaid : Prop := affinesUptoRow.holds Try.pinned (OpenSpec.upto affinesSpec)

/-- 'curvetlaw14.AffineTimes', WHERE WHAT IT READS IS OF BULK AT MOST 1048576: true; the input reads as it did. -/
def affineTimesUptoRow : OpenClaim := { program := "ytljblbgogjieaaa", sum := "bd0b4935637ab8e0ff7cd50369ec414ddb9b798d28c5224bd1f99fcb31f1cecb", func := "curvet/curvetlaw14.AffineTimes", spec := "affineTimes", inPlace := ["math/bits.Add64", "math/bits.Sub64"], unfollowed := true, recurses := true, named := ["math/bits.divideError", "math/bits.overflowError"], apart := false, narrowed := true }
def AffineTimesUptoSaid : Prop := affineTimesUptoRow.holds Try.pinned (OpenSpec.upto affineTimesSpec)

/-- 'curvetlaw14.AffineGroup', WHERE WHAT IT READS IS OF BULK AT MOST 1048576: true; the input reads as it did. -/
def affineGroupUptoRow : OpenClaim := { program := "ytljblbgogjieaaa", sum := "bd0b4935637ab8e0ff7cd50369ec414ddb9b798d28c5224bd1f99fcb31f1cecb", func := "curvet/curvetlaw14.AffineGroup", spec := "affineGroup", inPlace := ["math/bits.Sub64", "math/bits.Add64"], unfollowed := true, recurses := true, named := ["math/bits.divideError", "math/bits.overflowError"], apart := false, narrowed := true }
def AffineGroupUptoSaid : Prop := affineGroupUptoRow.holds Try.pinned (OpenSpec.upto affineGroupSpec)

/-- 'curvetlaw14.AffineOrder', WHERE WHAT IT READS IS OF BULK AT MOST 1048576: true; the input reads as it did. -/
def affineOrderUptoRow : OpenClaim := { program := "ytljblbgogjieaaa", sum := "bd0b4935637ab8e0ff7cd50369ec414ddb9b798d28c5224bd1f99fcb31f1cecb", func := "curvet/curvetlaw14.AffineOrder", spec := "affineOrder", inPlace := ["math/bits.Sub64", "math/bits.Add64"], unfollowed := true, recurses := true, named := ["math/bits.divideError", "math/bits.overflowError"], apart := false, narrowed := true }
def AffineOrderUptoSaid : Prop := affineOrderUptoRow.holds Try.pinned (OpenSpec.upto affineOrderSpec)

/-- 'curvetlaw14.AffineLine', WHERE WHAT IT READS IS OF BULK AT MOST 1048576: true; the input reads as it did. -/
def affineLineUptoRow : OpenClaim := { program := "ytljblbgogjieaaa", sum := "bd0b4935637ab8e0ff7cd50369ec414ddb9b798d28c5224bd1f99fcb31f1cecb", func := "curvet/curvetlaw14.AffineLine", spec := "affineLine", inPlace := ["math/bits.Sub64", "math/bits.Add64"], unfollowed := true, recurses := true, named := ["math/bits.divideError", "math/bits.overflowError"], apart := false, narrowed := true }
def AffineLineUptoSaid : Prop := affineLineUptoRow.holds Try.pinned (OpenSpec.upto affineLineSpec)

/-- 'curvetlaw14.AffineOpposite', WHERE WHAT IT READS IS OF BULK AT MOST 1048576: true; the input reads as it did. -/
def affineOppositeUptoRow : OpenClaim := { program := "ytljblbgogjieaaa", sum := "bd0b4935637ab8e0ff7cd50369ec414ddb9b798d28c5224bd1f99fcb31f1cecb", func := "curvet/curvetlaw14.AffineOpposite", spec := "affineOpposite", inPlace := ["math/bits.Sub64", "math/bits.Add64"], unfollowed := true, recurses := true, named := ["math/bits.divideError", "math/bits.overflowError"], apart := false, narrowed := true }
def AffineOppositeUptoSaid : Prop := affineOppositeUptoRow.holds Try.pinned (OpenSpec.upto affineOppositeSpec)

/-- 'curvetlaw14.AffineTiny', WHERE WHAT IT READS IS OF BULK AT MOST 1048576: true; the input reads as it did. -/
def affineTinyUptoRow : OpenClaim := { program := "ytljblbgogjieaaa", sum := "bd0b4935637ab8e0ff7cd50369ec414ddb9b798d28c5224bd1f99fcb31f1cecb", func := "curvet/curvetlaw14.AffineTiny", spec := "affineTiny", inPlace := ["math/bits.Sub64", "math/bits.Add64"], unfollowed := true, recurses := true, named := ["math/bits.divideError", "math/bits.overflowError"], apart := false, narrowed := true }
def AffineTinyUptoSaid : Prop := affineTinyUptoRow.holds Try.pinned (OpenSpec.upto affineTinySpec)

/-- 'curvetlaw14.AffineSplits', WHERE WHAT IT READS IS OF BULK AT MOST 1048576: true; the input reads as it did. -/
def affineSplitsUptoRow : OpenClaim := { program := "ytljblbgogjieaaa", sum := "bd0b4935637ab8e0ff7cd50369ec414ddb9b798d28c5224bd1f99fcb31f1cecb", func := "curvet/curvetlaw14.AffineSplits", spec := "affineSplits", inPlace := ["math/bits.Sub64", "math/bits.Add64"], unfollowed := true, recurses := true, named := ["math/bits.divideError", "math/bits.overflowError"], apart := false, narrowed := true }
def AffineSplitsUptoSaid : Prop := affineSplitsUptoRow.holds Try.pinned (OpenSpec.upto affineSplitsSpec)

/-- 'curvetlaw14.AffineWalk', WHERE WHAT IT READS IS OF BULK AT MOST 1048576: true; the input reads as it did. -/
def affineWalkUptoRow : OpenClaim := { program := "ytljblbgogjieaaa", sum := "bd0b4935637ab8e0ff7cd50369ec414ddb9b798d28c5224bd1f99fcb31f1cecb", func := "curvet/curvetlaw14.AffineWalk", spec := "affineWalk", inPlace := ["math/bits.Sub64", "math/bits.Add64"], unfollowed := true, recurses := true, named := ["math/bits.divideError", "math/bits.overflowError"], apart := false, narrowed := true }
def AffineWalkUptoSaid : Prop := affineWalkUptoRow.holds Try.pinned (OpenSpec.upto affineWalkSpec)

/-- 'curvetlaw20.DualParts', WHERE WHAT IT READS IS OF BULK AT MOST 1048576: true; the input reads as it did. -/
def dualPartsUptoRow : OpenClaim := { program := "ytljblbgogjieaaa", sum := "bd0b4935637ab8e0ff7cd50369ec414ddb9b798d28c5224bd1f99fcb31f1cecb", func := "curvet/curvetlaw20.DualParts", spec := "dualParts", inPlace := ["math/bits.Sub64", "math/bits.Add64"], unfollowed := true, recurses := true, named := ["math/bits.divideError", "math/bits.overflowError"], apart := false, narrowed := true }
def DualPartsUptoSaid : Prop := dualPartsUptoRow.holds Try.pinned (OpenSpec.upto dualPartsSpec)

/-- 'curvetlaw16.TableSizes', WHERE WHAT IT READS IS OF BULK AT MOST 1048576: true; the input reads as it did. -/
def tableSizesUptoRow : OpenClaim := { program := "ytljblbgogjieaaa", sum := "bd0b4935637ab8e0ff7cd50369ec414ddb9b798d28c5224bd1f99fcb31f1cecb", func := "curvet/curvetlaw16.TableSizes", spec := "tableSizes", inPlace := ["math/bits.Sub64", "math/bits.Add64"], unfollowed := true, recurses := true, named := ["math/bits.divideError", "math/bits.overflowError"], apart := false, narrowed := true }
def TableSizesUptoSaid : Prop := tableSizesUptoRow.holds Try.pinned (OpenSpec.upto tableSizesSpec)

/-- 'curvetlaw16.TableNil', WHERE WHAT IT READS IS OF BULK AT MOST 1048576: true; the input reads as it did. -/
def tableNilUptoRow : OpenClaim := { program := "ytljblbgogjieaaa", sum := "bd0b4935637ab8e0ff7cd50369ec414ddb9b798d28c5224bd1f99fcb31f1cecb", func := "curvet/curvetlaw16.TableNil", spec := "tableNil", inPlace := ["math/bits.Sub64", "math/bits.Add64"], unfollowed := true, recurses := true, named := ["math/bits.divideError", "math/bits.overflowError"], apart := false, narrowed := true }
def TableNilUptoSaid : Prop := tableNilUptoRow.holds Try.pinned (OpenSpec.upto tableNilSpec)

/-- 'curvetlaw15.ProjSums', WHERE WHAT IT READS IS OF BULK AT MOST 1048576: true; the input reads as it did. -/
def projSumsUptoRow : OpenClaim := { program := "ytljblbgogjieaaa", sum := "bd0b4935637ab8e0ff7cd50369ec414ddb9b798d28c5224bd1f99fcb31f1cecb", func := "curvet/curvetlaw15.ProjSums", spec := "projSums", inPlace := ["math/bits.Sub64", "math/bits.Add64"], unfollowed := true, recurses := true, named := ["math/bits.divideError", "math/bits.overflowError"], apart := false, narrowed := true }
def ProjSumsUptoSaid : Prop := projSumsUptoRow.holds Try.pinned (OpenSpec.upto projSumsSpec)

/-- 'curvetlaw21.Sec1s', WHERE WHAT IT READS IS OF BULK AT MOST 1048576: true; the input reads as it did. -/
def sec1sUptoRow : OpenClaim := { program := "ytljblbgogjieaaa", sum := "bd0b4935637ab8e0ff7cd50369ec414ddb9b798d28c5224bd1f99fcb31f1cecb", func := "curvet/curvetlaw21.Sec1s", spec := "sec1s", inPlace := ["math/bits.Sub64", "math/bits.Add64"], named := ["math/bits.divideError", "math/bits.overflowError"], apart := false, narrowed := true }
def Sec1sUptoSaid : Prop := sec1sUptoRow.holds Try.pinned (OpenSpec.upto sec1sSpec)

/-- 'curvetlaw21.Sec1Back', WHERE WHAT IT READS IS OF BULK AT MOST 1048576: true; the input reads as it did. -/
def sec1BackUptoRow : OpenClaim := { program := "ytljblbgogjieaaa", sum := "bd0b4935637ab8e0ff7cd50369ec414ddb9b798d28c5224bd1f99fcb31f1cecb", func := "curvet/curvetlaw21.Sec1Back", spec := "sec1Back", inPlace := ["math/bits.Sub64", "math/bits.Add64"], named := ["math/bits.divideError", "math/bits.overflowError"], apart := false, narrowed := true }
def Sec1BackUptoSaid : Prop := sec1BackUptoRow.holds Try.pinned (OpenSpec.upto sec1BackSpec)

/-- 'curvetlaw21.Sec1Tiny', WHERE WHAT IT READS IS OF BULK AT MOST 1048576: true; the input reads as it did. -/
def sec1TinyUptoRow : OpenClaim := { program := "ytljblbgogjieaaa", sum := "bd0b4935637ab8e0ff7cd50369ec414ddb9b798d28c5224bd1f99fcb31f1cecb", func := "curvet/curvetlaw21.Sec1Tiny", spec := "sec1Tiny", inPlace := ["math/bits.Sub64", "math/bits.Add64"], named := ["math/bits.divideError", "math/bits.overflowError"], apart := false, narrowed := true }
def Sec1TinyUptoSaid : Prop := sec1TinyUptoRow.holds Try.pinned (OpenSpec.upto sec1TinySpec)

/-- 'curvetlaw21.Sec1Both', WHERE WHAT IT READS IS OF BULK AT MOST 1048576: true; the input reads as it did. -/
def sec1BothUptoRow : OpenClaim := { program := "ytljblbgogjieaaa", sum := "bd0b4935637ab8e0ff7cd50369ec414ddb9b798d28c5224bd1f99fcb31f1cecb", func := "curvet/curvetlaw21.Sec1Both", spec := "sec1Both", inPlace := ["math/bits.Sub64", "math/bits.Add64"], named := ["math/bits.divideError", "math/bits.overflowError"], apart := false, narrowed := true }
def Sec1BothUptoSaid : Prop := sec1BothUptoRow.holds Try.pinned (OpenSpec.upto sec1BothSpec)

/-- 'curvetlaw21.Sec1Lengths', WHERE WHAT IT READS IS OF BULK AT MOST 1048576: true; the input reads as it did. -/
def sec1LengthsUptoRow : OpenClaim := { program := "ytljblbgogjieaaa", sum := "bd0b4935637ab8e0ff7cd50369ec414ddb9b798d28c5224bd1f99fcb31f1cecb", func := "curvet/curvetlaw21.Sec1Lengths", spec := "sec1Lengths", inPlace := ["math/bits.Sub64", "math/bits.Add64"], named := ["math/bits.divideError", "math/bits.overflowError"], apart := false, narrowed := true }
def Sec1LengthsUptoSaid : Prop := sec1LengthsUptoRow.holds Try.pinned (OpenSpec.upto sec1LengthsSpec)

/-- 'curvetlaw21.Sec1Whole', WHERE WHAT IT READS IS OF BULK AT MOST 1048576: true; the input reads as it did. -/
def sec1WholeUptoRow : OpenClaim := { program := "ytljblbgogjieaaa", sum := "bd0b4935637ab8e0ff7cd50369ec414ddb9b798d28c5224bd1f99fcb31f1cecb", func := "curvet/curvetlaw21.Sec1Whole", spec := "sec1Whole", inPlace := ["math/bits.Sub64", "math/bits.Add64"], named := ["math/bits.divideError", "math/bits.overflowError"], apart := false, narrowed := true }
def Sec1WholeUptoSaid : Prop := sec1WholeUptoRow.holds Try.pinned (OpenSpec.upto sec1WholeSpec)

/-- 'curvetlaw21.Sec1Great', WHERE WHAT IT READS IS OF BULK AT MOST 1048576: true; the input reads as it did. -/
def sec1GreatUptoRow : OpenClaim := { program := "ytljblbgogjieaaa", sum := "bd0b4935637ab8e0ff7cd50369ec414ddb9b798d28c5224bd1f99fcb31f1cecb", func := "curvet/curvetlaw21.Sec1Great", spec := "sec1Great", inPlace := ["math/bits.Sub64", "math/bits.Add64"], named := ["math/bits.divideError", "math/bits.overflowError"], apart := false, narrowed := true }
def Sec1GreatUptoSaid : Prop := sec1GreatUptoRow.holds Try.pinned (OpenSpec.upto sec1GreatSpec)

/-- 'curvetlaw16.Tables', WHERE WHAT IT READS IS OF BULK AT MOST 1048576: true; the input reads as it did. -/
def tablesUptoRow : OpenClaim := { program := "ytljblbgogjieaaa", sum := "bd0b4935637ab8e0ff7cd50369ec414ddb9b798d28c5224bd1f99fcb31f1cecb", func := "curvet/curvetlaw16.Tables", spec := "tables", inPlace := ["math/bits.Sub64", "math/bits.Add64"], unfollowed := true, recurses := true, named := ["math/bits.divideError", "math/bits.overflowError"], apart := false, narrowed := true }
def TablesUptoSaid : Prop := tablesUptoRow.holds Try.pinned (OpenSpec.upto tablesSpec)

/-- 'curvetlaw19.Bases', WHERE WHAT IT READS IS OF BULK AT MOST 1048576: true; the input reads as it did. -/
def basesUptoRow : OpenClaim := { program := "ytljblbgogjieaaa", sum := "bd0b4935637ab8e0ff7cd50369ec414ddb9b798d28c5224bd1f99fcb31f1cecb", func := "curvet/curvetlaw19.Bases", spec := "bases", inPlace := ["math/bits.Sub64", "math/bits.Add64"], unfollowed := true, recurses := true, named := ["math/bits.divideError", "math/bits.overflowError"], apart := false, narrowed := true }
def BasesUptoSaid : Prop := basesUptoRow.holds Try.pinned (OpenSpec.upto basesSpec)

end Rows
end Go.Proofs.Ytljblbgogjieaaa
