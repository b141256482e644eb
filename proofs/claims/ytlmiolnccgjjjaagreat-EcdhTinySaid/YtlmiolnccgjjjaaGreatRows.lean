/-
  No cell of these rows narrows 'for every input' (looked for: loops, veiled, ifaces, maps, wideKeys, modest, calm, conditions, laid).
  DERIVED. THE GIVEN ROWS OF THIS SEAT. 5 by the template 'for every input the law returns true; each argument reads behind the call as it read before'; 0 by the template 'total and deterministic' (their statements: YtlmiolnccgjjjaaGreatTotals.lean).
  GIVEN WITH THE SEED: the statements are not yours to turn. If you find one false, say at which input.
  Laid BY PROGRAM, IN A SANDBOX (cutbox-rows.mjs): the forced cells as the released guide's own fill.sh prints them over the translation 389234e8202e8c32… (all of the seat's roots in one cut). By AI agents, Wed Nov 11 2026. No macro, syntax, notation, axiom, sorry.
-/
import Derived.Test.YtlmiolnccgjjjaaGreatChecked
import GoSem.Claim
import GoSem.ClaimJoined
import GoSem.ClaimMapViews
import Derived.JoinedTies
import Derived.KernelRfl
namespace Go.Proofs.YtlmiolnccgjjjaaGreat
/- THE CELL 'sum', in the pinned program and in every row, IS THE sha256 OF THE DUMP (.gsa) THAT YtlmiolnccgjjjaaGreatProg.lean LOADS. Nothing in Lean hashes anything: it is a label: what it is worth is what the hold of that sum in a sandbox is worth. -/
noncomputable def Tryz.pinned : Pinned := { name := "ytlmiolnccgjjjaagreat", sum := "389234e8202e8c325ea7d1f50f58a25039f39034075fe59ca9aa494975d4221b", checked := Tryz.checked }
namespace Rows
def none {H : Type} : Left H := { results := [], args := [] }

/-- 'curvetlaw25.EcdhTurned': WHATEVER THE INPUT: true; the input reads as it did. -/
def ecdhTurnedSpec : ChangeSpec := { name := "ecdhTurned", fn := fun _ => fun
  | [d1, d2, d3] => { results := [.lit (.bool true)], args := [d1, d2, d3] }
  | _ => none }
def ecdhTurnedRow : OpenClaim := { program := "ytlmiolnccgjjjaagreat", sum := "389234e8202e8c325ea7d1f50f58a25039f39034075fe59ca9aa494975d4221b", func := "curvet/curvetlaw25.EcdhTurned", spec := "ecdhTurned", inPlace := ["math/bits.Sub64", "math/bits.Add64"], unfollowed := true, recurses := true, named := ["math/bits.divideError", "math/bits.overflowError"], apart := false }
def EcdhTurnedSaid : Prop := ecdhTurnedRow.holds Tryz.pinned (OpenSpec.ofChange ecdhTurnedSpec)

/-- ITS FALSE NEIGHBOUR: 'it returns false'. Refute it at one input. -/
def ecdhTurnedWrong : ChangeSpec := { name := "ecdhTurned", fn := fun _ => fun
  | [d1, d2, d3] => { results := [.lit (.bool false)], args := [d1, d2, d3] }
  | _ => none }
def EcdhTurnedWrongFalsely : Prop := ecdhTurnedRow.holds Tryz.pinned (OpenSpec.ofChange ecdhTurnedWrong)

/-- 'curvetlaw25.EcdhOne': WHATEVER THE INPUT: true; the input reads as it did. -/
def ecdhOneSpec : ChangeSpec := { name := "ecdhOne", fn := fun _ => fun
  | [d1, d2, d3] => { results := [.lit (.bool true)], args := [d1, d2, d3] }
  | _ => none }
def ecdhOneRow : OpenClaim := { program := "ytlmiolnccgjjjaagreat", sum := "389234e8202e8c325ea7d1f50f58a25039f39034075fe59ca9aa494975d4221b", func := "curvet/curvetlaw25.EcdhOne", spec := "ecdhOne", inPlace := ["math/bits.Sub64", "math/bits.Add64"], unfollowed := true, recurses := true, named := ["math/bits.divideError", "math/bits.overflowError"], apart := false }
def EcdhOneSaid : Prop := ecdhOneRow.holds Tryz.pinned (OpenSpec.ofChange ecdhOneSpec)

/-- ITS FALSE NEIGHBOUR: 'it returns false'. Refute it at one input. -/
def ecdhOneWrong : ChangeSpec := { name := "ecdhOne", fn := fun _ => fun
  | [d1, d2, d3] => { results := [.lit (.bool false)], args := [d1, d2, d3] }
  | _ => none }
def EcdhOneWrongFalsely : Prop := ecdhOneRow.holds Tryz.pinned (OpenSpec.ofChange ecdhOneWrong)

/-- 'curvetlaw25.EcdhTiny': WHATEVER THE INPUT: true; the input reads as it did. -/
def ecdhTinySpec : ChangeSpec := { name := "ecdhTiny", fn := fun _ => fun
  | [d1, d2] => { results := [.lit (.bool true)], args := [d1, d2] }
  | _ => none }
def ecdhTinyRow : OpenClaim := { program := "ytlmiolnccgjjjaagreat", sum := "389234e8202e8c325ea7d1f50f58a25039f39034075fe59ca9aa494975d4221b", func := "curvet/curvetlaw25.EcdhTiny", spec := "ecdhTiny", inPlace := ["math/bits.Sub64", "math/bits.Add64"], unfollowed := true, recurses := true, named := ["math/bits.divideError", "math/bits.overflowError"], apart := false }
def EcdhTinySaid : Prop := ecdhTinyRow.holds Tryz.pinned (OpenSpec.ofChange ecdhTinySpec)

/-- ITS FALSE NEIGHBOUR: 'it returns false'. Refute it at one input. -/
def ecdhTinyWrong : ChangeSpec := { name := "ecdhTiny", fn := fun _ => fun
  | [d1, d2] => { results := [.lit (.bool false)], args := [d1, d2] }
  | _ => none }
def EcdhTinyWrongFalsely : Prop := ecdhTinyRow.holds Tryz.pinned (OpenSpec.ofChange ecdhTinyWrong)

/-- 'curvetlaw25.Ecdhs': WHATEVER THE INPUT: true; the input reads as it did. -/
def ecdhsSpec : ChangeSpec := { name := "ecdhs", fn := fun _ => fun
  | [d1, d2, d3] => { results := [.lit (.bool true)], args := [d1, d2, d3] }
  | _ => none }
def ecdhsRow : OpenClaim := { program := "ytlmiolnccgjjjaagreat", sum := "389234e8202e8c325ea7d1f50f58a25039f39034075fe59ca9aa494975d4221b", func := "curvet/curvetlaw25.Ecdhs", spec := "ecdhs", inPlace := ["math/bits.Sub64", "math/bits.Add64"], unfollowed := true, recurses := true, named := ["math/bits.divideError", "math/bits.overflowError"], apart := false }
def EcdhsSaid : Prop := ecdhsRow.holds Tryz.pinned (OpenSpec.ofChange ecdhsSpec)

/-- ITS FALSE NEIGHBOUR: 'it returns false'. Refute it at one input. -/
def ecdhsWrong : ChangeSpec := { name := "ecdhs", fn := fun _ => fun
  | [d1, d2, d3] => { results := [.lit (.bool false)], args := [d1, d2, d3] }
  | _ => none }
def EcdhsWrongFalsely : Prop := ecdhsRow.holds Tryz.pinned (OpenSpec.ofChange ecdhsWrong)

/-- 'curvetlaw25.EcdhBlind': WHATEVER THE INPUT: true; the input reads as it did. -/
def ecdhBlindSpec : ChangeSpec := { name := "ecdhBlind", fn := fun _ => fun
  | [d1, d2, d3, d4] => { results := [.lit (.bool true)], args := [d1, d2, d3, d4] }
  | _ => none }
def ecdhBlindRow : OpenClaim := { program := "ytlmiolnccgjjjaagreat", sum := "389234e8202e8c325ea7d1f50f58a25039f39034075fe59ca9aa494975d4221b", func := "curvet/curvetlaw25.EcdhBlind", spec := "ecdhBlind", inPlace := ["math/bits.Sub64", "math/bits.Add64"], unfollowed := true, recurses := true, named := ["math/bits.divideError", "math/bits.overflowError"], apart := false }
def EcdhBlindSaid : Prop := ecdhBlindRow.holds Tryz.pinned (OpenSpec.ofChange ecdhBlindSpec)

/-- ITS FALSE NEIGHBOUR: 'it returns false'. Refute it at one input. -/
def ecdhBlindWrong : ChangeSpec := { name := "ecdhBlind", fn := fun _ => fun
  | [d1, d2, d3, d4] => { results := [.lit (.bool false)], args := [d1, d2, d3, d4] }
  | _ => none }
def EcdhBlindWrongFalsely : Prop := ecdhBlindRow.holds Tryz.pinned (OpenSpec.ofChange ecdhBlindWrong)

/- THE SECOND FORM. 'bulk': how many values and letters a reading holds, each counted each time it is reached (what is shared counts as often as it is met; a slice's spare places count too). A statement '..UptoSaid' is the law's where the arguments, and the package variables that the reading takes, are together of bulk at most 1048576: NARROWER than '..Said'. Prove '..Said' where nothing that the law and all that it calls make is longer than what came in: it says more and counts as full. Else prove '..UptoSaid'. A law counts once. -/
mutual
def uptoBulk {H : Type} : DataW H → Nat
  | .lit (.string bytes) => bytes.length + 1
  | .lit _ => 1
  | .nil => 1
  | .ptr d => uptoBulk d + 1
  | .slice elems spare => uptoBulkAll elems + uptoBulkAll spare + 1
  | .agg parts => uptoBulkAll parts + 1
  | .iface _ d => uptoBulk d + 1
  | .map entries => uptoBulkEntries entries + 1
  | .held _ => 1
def uptoBulkAll {H : Type} : List (DataW H) → Nat
  | [] => 0
  | d :: r => uptoBulk d + uptoBulkAll r
def uptoBulkEntries {H : Type} : List (Lit × DataW H) → Nat
  | [] => 0
  | x :: r => uptoBulkEntry x + uptoBulkEntries r
def uptoBulkEntry {H : Type} : Lit × DataW H → Nat
  | (.string bytes, d) => bytes.length + uptoBulk d + 1
  | (_, d) => uptoBulk d + 1
 end
def uptoSmall : (H : Type) → List (DataW H) → Bool := fun _ ds => decide (uptoBulkAll ds ≤ 1048576)
def OpenSpec.upto (s : _root_.Go.ChangeSpec) : _root_.Go.OpenSpec := { _root_.Go.OpenSpec.ofChange s with cond := some uptoSmall }

/-- 'curvetlaw25.EcdhTurned', WHERE WHAT IT READS IS OF BULK AT MOST 1048576: true; the input reads as it did. -/
def ecdhTurnedUptoRow : OpenClaim := { program := "ytlmiolnccgjjjaagreat", sum := "389234e8202e8c325ea7d1f50f58a25039f39034075fe59ca9aa494975d4221b", func := "curvet/curvetlaw25.EcdhTurned", spec := "ecdhTurned", inPlace := ["math/bits.Sub64", "math/bits.Add64"], unfollowed := true, recurses := true, named := ["math/bits.divideError", "math/bits.overflowError"], apart := false, narrowed := true }
def EcdhTurnedUptoSaid : Prop := ecdhTurnedUptoRow.holds Tryz.pinned (OpenSpec.upto ecdhTurnedSpec)

/-- 'curvetlaw25.EcdhOne', WHERE WHAT IT READS IS OF BULK AT MOST 1048576: true; the input reads as it did. -/
def ecdhOneUptoRow : OpenClaim := { program := "ytlmiolnccgjjjaagreat", sum := "389234e8202e8c325ea7d1f50f58a25039f39034075fe59ca9aa494975d4221b", func := "curvet/curvetlaw25.EcdhOne", spec := "ecdhOne", inPlace := ["math/bits.Sub64", "math/bits.Add64"], unfollowed := true, recurses := true, named := ["math/bits.divideError", "math/bits.overflowError"], apart := false, narrowed := true }
def EcdhOneUptoSaid : Prop := ecdhOneUptoRow.holds Tryz.pinned (OpenSpec.upto ecdhOneSpec)

/-- 'curvetlaw25.EcdhTiny', WHERE WHAT IT READS IS OF BULK AT MOST 1048576: true; the input reads as it did. -/
def ecdhTinyUptoRow : OpenClaim := { program := "ytlmiolnccgjjjaagreat", sum := "389234e8202e8c325ea7d1f50f58a25039f39034075fe59ca9aa494975d4221b", func := "curvet/curvetlaw25.EcdhTiny", spec := "ecdhTiny", inPlace := ["math/bits.Sub64", "math/bits.Add64"], unfollowed := true, recurses := true, named := ["math/bits.divideError", "math/bits.overflowError"], apart := false, narrowed := true }
def EcdhTinyUptoSaid : Prop := ecdhTinyUptoRow.holds Tryz.pinned (OpenSpec.upto ecdhTinySpec)

/-- 'curvetlaw25.Ecdhs', WHERE WHAT IT READS IS OF BULK AT MOST 1048576: true; the input reads as it did. -/
def ecdhsUptoRow : OpenClaim := { program := "ytlmiolnccgjjjaagreat", sum := "389234e8202e8c325ea7d1f50f58a25039f39034075fe59ca9aa494975d4221b", func := "curvet/curvetlaw25.Ecdhs", spec := "ecdhs", inPlace := ["math/bits.Sub64", "math/bits.Add64"], unfollowed := true, recurses := true, named := ["math/bits.divideError", "math/bits.overflowError"], apart := false, narrowed := true }
def EcdhsUptoSaid : Prop := ecdhsUptoRow.holds Tryz.pinned (OpenSpec.upto ecdhsSpec)

/-- 'curvetlaw25.EcdhBlind', WHERE WHAT IT READS IS OF BULK AT MOST 1048576: true; the input reads as it did. -/
def ecdhBlindUptoRow : OpenClaim := { program := "ytlmiolnccgjjjaagreat", sum := "389234e8202e8c325ea7d1f50f58a25039f39034075fe59ca9aa494975d4221b", func := "curvet/curvetlaw25.EcdhBlind", spec := "ecdhBlind", inPlace := ["math/bits.Sub64", "math/bits.Add64"], unfollowed := true, recurses := true, named := ["math/bits.divideError", "math/bits.overflowError"], apart := false, narrowed := true }
def EcdhBlindUptoSaid : Prop := ecdhBlindUptoRow.holds Tryz.pinned (OpenSpec.upto ecdhBlindSpec)

end Rows
end Go.Proofs.YtlmiolnccgjjjaaGreat
