/-
  No cell of these rows narrows 'for every input' (looked for: loops, veiled, ifaces, maps, wideKeys, modest, calm, conditions, laid).
  DERIVED. THE GIVEN ROWS OF THIS SEAT. 27 by the template 'for every input the law returns true; each argument reads behind the call as it read before'; 0 by the template 'total and deterministic' (their statements: YtdjnhnfofajpcaaTotals.lean).
  GIVEN WITH THE SEED: the statements are not yours to turn. If you find one false, say at which input.
  Laid BY PROGRAM, IN A SANDBOX (cutbox-rows.mjs): the forced cells as the released guide's own fill.sh prints them over the translation d76a74a666878d59… (all of the seat's roots in one cut). By AI agents, Wed Nov 11 2026. No macro, syntax, notation, axiom, sorry.
-/
import Derived.Test.YtdjnhnfofajpcaaChecked
import GoSem.Claim
import GoSem.ClaimJoined
import GoSem.ClaimMapViews
import Derived.JoinedTies
import Derived.KernelRfl
namespace Go.Proofs.Ytdjnhnfofajpcaa
/- THE CELL 'sum', in the pinned program and in every row, IS THE sha256 OF THE DUMP (.gsa) THAT YtdjnhnfofajpcaaProg.lean LOADS. Nothing in Lean hashes anything: it is a label: what it is worth is what the hold of that sum in a sandbox is worth. -/
noncomputable def Try.pinned : Pinned := { name := "ytdjnhnfofajpcaa", sum := "d76a74a666878d5977c4890026315c2801ba2635245d4bd6f409cf76b00b04b6", checked := Try.checked }
namespace Rows
def none {H : Type} : Left H := { results := [], args := [] }

/-- 'balefirelaw02.LimbsOf': WHATEVER THE INPUT: true; the input reads as it did. -/
def limbsOfSpec : ChangeSpec := { name := "limbsOf", fn := fun _ => fun
  | [d1, d2, d3] => { results := [.lit (.bool true)], args := [d1, d2, d3] }
  | _ => none }
def limbsOfRow : OpenClaim := { program := "ytdjnhnfofajpcaa", sum := "d76a74a666878d5977c4890026315c2801ba2635245d4bd6f409cf76b00b04b6", func := "balefire/balefirelaw02.LimbsOf", spec := "limbsOf", inPlace := ["math/bits.Add64", "math/bits.Sub64"], apart := false }
def LimbsOfSaid : Prop := limbsOfRow.holds Try.pinned (OpenSpec.ofChange limbsOfSpec)

/-- ITS FALSE NEIGHBOUR: 'it returns false'. Refute it at one input. -/
def limbsOfWrong : ChangeSpec := { name := "limbsOf", fn := fun _ => fun
  | [d1, d2, d3] => { results := [.lit (.bool false)], args := [d1, d2, d3] }
  | _ => none }
def LimbsOfWrongFalsely : Prop := limbsOfRow.holds Try.pinned (OpenSpec.ofChange limbsOfWrong)

/-- 'balefirelaw02.LimbsSums': WHATEVER THE INPUT: true; the input reads as it did. -/
def limbsSumsSpec : ChangeSpec := { name := "limbsSums", fn := fun _ => fun
  | [d] => { results := [.lit (.bool true)], args := [d] }
  | _ => none }
def limbsSumsRow : OpenClaim := { program := "ytdjnhnfofajpcaa", sum := "d76a74a666878d5977c4890026315c2801ba2635245d4bd6f409cf76b00b04b6", func := "balefire/balefirelaw02.LimbsSums", spec := "limbsSums", inPlace := ["math/bits.Add64", "math/bits.Sub64"], apart := false }
def LimbsSumsSaid : Prop := limbsSumsRow.holds Try.pinned (OpenSpec.ofChange limbsSumsSpec)

/-- ITS FALSE NEIGHBOUR: 'it returns false'. Refute it at one input. -/
def limbsSumsWrong : ChangeSpec := { name := "limbsSums", fn := fun _ => fun
  | [d] => { results := [.lit (.bool false)], args := [d] }
  | _ => none }
def LimbsSumsWrongFalsely : Prop := limbsSumsRow.holds Try.pinned (OpenSpec.ofChange limbsSumsWrong)

/-- 'balefirelaw02.LimbsProducts': WHATEVER THE INPUT: true; the input reads as it did. -/
def limbsProductsSpec : ChangeSpec := { name := "limbsProducts", fn := fun _ => fun
  | [d] => { results := [.lit (.bool true)], args := [d] }
  | _ => none }
def limbsProductsRow : OpenClaim := { program := "ytdjnhnfofajpcaa", sum := "d76a74a666878d5977c4890026315c2801ba2635245d4bd6f409cf76b00b04b6", func := "balefire/balefirelaw02.LimbsProducts", spec := "limbsProducts", inPlace := ["math/bits.Add64", "math/bits.Sub64"], apart := false }
def LimbsProductsSaid : Prop := limbsProductsRow.holds Try.pinned (OpenSpec.ofChange limbsProductsSpec)

/-- ITS FALSE NEIGHBOUR: 'it returns false'. Refute it at one input. -/
def limbsProductsWrong : ChangeSpec := { name := "limbsProducts", fn := fun _ => fun
  | [d] => { results := [.lit (.bool false)], args := [d] }
  | _ => none }
def LimbsProductsWrongFalsely : Prop := limbsProductsRow.holds Try.pinned (OpenSpec.ofChange limbsProductsWrong)

/-- 'balefirelaw02.LimbsShift': WHATEVER THE INPUT: true; the input reads as it did. -/
def limbsShiftSpec : ChangeSpec := { name := "limbsShift", fn := fun _ => fun
  | [d1, d2] => { results := [.lit (.bool true)], args := [d1, d2] }
  | _ => none }
def limbsShiftRow : OpenClaim := { program := "ytdjnhnfofajpcaa", sum := "d76a74a666878d5977c4890026315c2801ba2635245d4bd6f409cf76b00b04b6", func := "balefire/balefirelaw02.LimbsShift", spec := "limbsShift", inPlace := ["math/bits.Add64", "math/bits.Sub64"], apart := false }
def LimbsShiftSaid : Prop := limbsShiftRow.holds Try.pinned (OpenSpec.ofChange limbsShiftSpec)

/-- ITS FALSE NEIGHBOUR: 'it returns false'. Refute it at one input. -/
def limbsShiftWrong : ChangeSpec := { name := "limbsShift", fn := fun _ => fun
  | [d1, d2] => { results := [.lit (.bool false)], args := [d1, d2] }
  | _ => none }
def LimbsShiftWrongFalsely : Prop := limbsShiftRow.holds Try.pinned (OpenSpec.ofChange limbsShiftWrong)

/-- 'balefirelaw02.LimbsBits': WHATEVER THE INPUT: true; the input reads as it did. -/
def limbsBitsSpec : ChangeSpec := { name := "limbsBits", fn := fun _ => fun
  | [d1, d2] => { results := [.lit (.bool true)], args := [d1, d2] }
  | _ => none }
def limbsBitsRow : OpenClaim := { program := "ytdjnhnfofajpcaa", sum := "d76a74a666878d5977c4890026315c2801ba2635245d4bd6f409cf76b00b04b6", func := "balefire/balefirelaw02.LimbsBits", spec := "limbsBits", inPlace := ["math/bits.Add64", "math/bits.Sub64"], apart := false }
def LimbsBitsSaid : Prop := limbsBitsRow.holds Try.pinned (OpenSpec.ofChange limbsBitsSpec)

/-- ITS FALSE NEIGHBOUR: 'it returns false'. Refute it at one input. -/
def limbsBitsWrong : ChangeSpec := { name := "limbsBits", fn := fun _ => fun
  | [d1, d2] => { results := [.lit (.bool false)], args := [d1, d2] }
  | _ => none }
def LimbsBitsWrongFalsely : Prop := limbsBitsRow.holds Try.pinned (OpenSpec.ofChange limbsBitsWrong)

/-- 'balefirelaw02.LimbsOrder': WHATEVER THE INPUT: true; the input reads as it did. -/
def limbsOrderSpec : ChangeSpec := { name := "limbsOrder", fn := fun _ => fun
  | [d] => { results := [.lit (.bool true)], args := [d] }
  | _ => none }
def limbsOrderRow : OpenClaim := { program := "ytdjnhnfofajpcaa", sum := "d76a74a666878d5977c4890026315c2801ba2635245d4bd6f409cf76b00b04b6", func := "balefire/balefirelaw02.LimbsOrder", spec := "limbsOrder", inPlace := ["math/bits.Sub64", "math/bits.Add64"], apart := false }
def LimbsOrderSaid : Prop := limbsOrderRow.holds Try.pinned (OpenSpec.ofChange limbsOrderSpec)

/-- ITS FALSE NEIGHBOUR: 'it returns false'. Refute it at one input. -/
def limbsOrderWrong : ChangeSpec := { name := "limbsOrder", fn := fun _ => fun
  | [d] => { results := [.lit (.bool false)], args := [d] }
  | _ => none }
def LimbsOrderWrongFalsely : Prop := limbsOrderRow.holds Try.pinned (OpenSpec.ofChange limbsOrderWrong)

/-- 'balefirelaw09.ScalarsUndo': WHATEVER THE INPUT: true; the input reads as it did. -/
def scalarsUndoSpec : ChangeSpec := { name := "scalarsUndo", fn := fun _ => fun
  | [d1, d2, d3] => { results := [.lit (.bool true)], args := [d1, d2, d3] }
  | _ => none }
def scalarsUndoRow : OpenClaim := { program := "ytdjnhnfofajpcaa", sum := "d76a74a666878d5977c4890026315c2801ba2635245d4bd6f409cf76b00b04b6", func := "balefire/balefirelaw09.ScalarsUndo", spec := "scalarsUndo", inPlace := ["math/bits.Sub64", "math/bits.Add64"], unfollowed := true, recurses := true, named := ["math/bits.divideError", "math/bits.overflowError"], apart := false }
def ScalarsUndoSaid : Prop := scalarsUndoRow.holds Try.pinned (OpenSpec.ofChange scalarsUndoSpec)

/-- ITS FALSE NEIGHBOUR: 'it returns false'. Refute it at one input. -/
def scalarsUndoWrong : ChangeSpec := { name := "scalarsUndo", fn := fun _ => fun
  | [d1, d2, d3] => { results := [.lit (.bool false)], args := [d1, d2, d3] }
  | _ => none }
def ScalarsUndoWrongFalsely : Prop := scalarsUndoRow.holds Try.pinned (OpenSpec.ofChange scalarsUndoWrong)

/-- 'balefirelaw02.LimbsParts': WHATEVER THE INPUT: true; the input reads as it did. -/
def limbsPartsSpec : ChangeSpec := { name := "limbsParts", fn := fun _ => fun
  | [d1, d2] => { results := [.lit (.bool true)], args := [d1, d2] }
  | _ => none }
def limbsPartsRow : OpenClaim := { program := "ytdjnhnfofajpcaa", sum := "d76a74a666878d5977c4890026315c2801ba2635245d4bd6f409cf76b00b04b6", func := "balefire/balefirelaw02.LimbsParts", spec := "limbsParts", inPlace := ["math/bits.Add64", "math/bits.Sub64"], apart := false }
def LimbsPartsSaid : Prop := limbsPartsRow.holds Try.pinned (OpenSpec.ofChange limbsPartsSpec)

/-- ITS FALSE NEIGHBOUR: 'it returns false'. Refute it at one input. -/
def limbsPartsWrong : ChangeSpec := { name := "limbsParts", fn := fun _ => fun
  | [d1, d2] => { results := [.lit (.bool false)], args := [d1, d2] }
  | _ => none }
def LimbsPartsWrongFalsely : Prop := limbsPartsRow.holds Try.pinned (OpenSpec.ofChange limbsPartsWrong)

/-- 'balefirelaw03.DividesOf': WHATEVER THE INPUT: true; the input reads as it did. -/
def dividesOfSpec : ChangeSpec := { name := "dividesOf", fn := fun _ => fun
  | [d] => { results := [.lit (.bool true)], args := [d] }
  | _ => none }
def dividesOfRow : OpenClaim := { program := "ytdjnhnfofajpcaa", sum := "d76a74a666878d5977c4890026315c2801ba2635245d4bd6f409cf76b00b04b6", func := "balefire/balefirelaw03.DividesOf", spec := "dividesOf", inPlace := ["math/bits.Add64", "math/bits.Sub64"], unfollowed := true, recurses := true, named := ["math/bits.divideError", "math/bits.overflowError"], apart := false }
def DividesOfSaid : Prop := dividesOfRow.holds Try.pinned (OpenSpec.ofChange dividesOfSpec)

/-- ITS FALSE NEIGHBOUR: 'it returns false'. Refute it at one input. -/
def dividesOfWrong : ChangeSpec := { name := "dividesOf", fn := fun _ => fun
  | [d] => { results := [.lit (.bool false)], args := [d] }
  | _ => none }
def DividesOfWrongFalsely : Prop := dividesOfRow.holds Try.pinned (OpenSpec.ofChange dividesOfWrong)

/-- 'balefirelaw09.ScalarsParts': WHATEVER THE INPUT: true; the input reads as it did. -/
def scalarsPartsSpec : ChangeSpec := { name := "scalarsParts", fn := fun _ => fun
  | [d1, d2] => { results := [.lit (.bool true)], args := [d1, d2] }
  | _ => none }
def scalarsPartsRow : OpenClaim := { program := "ytdjnhnfofajpcaa", sum := "d76a74a666878d5977c4890026315c2801ba2635245d4bd6f409cf76b00b04b6", func := "balefire/balefirelaw09.ScalarsParts", spec := "scalarsParts", inPlace := ["math/bits.Add64", "math/bits.Sub64"], unfollowed := true, recurses := true, named := ["math/bits.divideError", "math/bits.overflowError"], apart := false }
def ScalarsPartsSaid : Prop := scalarsPartsRow.holds Try.pinned (OpenSpec.ofChange scalarsPartsSpec)

/-- ITS FALSE NEIGHBOUR: 'it returns false'. Refute it at one input. -/
def scalarsPartsWrong : ChangeSpec := { name := "scalarsParts", fn := fun _ => fun
  | [d1, d2] => { results := [.lit (.bool false)], args := [d1, d2] }
  | _ => none }
def ScalarsPartsWrongFalsely : Prop := scalarsPartsRow.holds Try.pinned (OpenSpec.ofChange scalarsPartsWrong)

/-- 'balefirelaw03.DividesCommon': WHATEVER THE INPUT: true; the input reads as it did. -/
def dividesCommonSpec : ChangeSpec := { name := "dividesCommon", fn := fun _ => fun
  | [d1, d2] => { results := [.lit (.bool true)], args := [d1, d2] }
  | _ => none }
def dividesCommonRow : OpenClaim := { program := "ytdjnhnfofajpcaa", sum := "d76a74a666878d5977c4890026315c2801ba2635245d4bd6f409cf76b00b04b6", func := "balefire/balefirelaw03.DividesCommon", spec := "dividesCommon", inPlace := ["math/bits.Add64", "math/bits.Sub64"], unfollowed := true, recurses := true, named := ["math/bits.divideError", "math/bits.overflowError"], apart := false }
def DividesCommonSaid : Prop := dividesCommonRow.holds Try.pinned (OpenSpec.ofChange dividesCommonSpec)

/-- ITS FALSE NEIGHBOUR: 'it returns false'. Refute it at one input. -/
def dividesCommonWrong : ChangeSpec := { name := "dividesCommon", fn := fun _ => fun
  | [d1, d2] => { results := [.lit (.bool false)], args := [d1, d2] }
  | _ => none }
def DividesCommonWrongFalsely : Prop := dividesCommonRow.holds Try.pinned (OpenSpec.ofChange dividesCommonWrong)

/-- 'balefirelaw03.DividesAgain': WHATEVER THE INPUT: true; the input reads as it did. -/
def dividesAgainSpec : ChangeSpec := { name := "dividesAgain", fn := fun _ => fun
  | [d1, d2, d3] => { results := [.lit (.bool true)], args := [d1, d2, d3] }
  | _ => none }
def dividesAgainRow : OpenClaim := { program := "ytdjnhnfofajpcaa", sum := "d76a74a666878d5977c4890026315c2801ba2635245d4bd6f409cf76b00b04b6", func := "balefire/balefirelaw03.DividesAgain", spec := "dividesAgain", inPlace := ["math/bits.Add64", "math/bits.Sub64"], unfollowed := true, recurses := true, named := ["math/bits.divideError", "math/bits.overflowError"], apart := false }
def DividesAgainSaid : Prop := dividesAgainRow.holds Try.pinned (OpenSpec.ofChange dividesAgainSpec)

/-- ITS FALSE NEIGHBOUR: 'it returns false'. Refute it at one input. -/
def dividesAgainWrong : ChangeSpec := { name := "dividesAgain", fn := fun _ => fun
  | [d1, d2, d3] => { results := [.lit (.bool false)], args := [d1, d2, d3] }
  | _ => none }
def DividesAgainWrongFalsely : Prop := dividesAgainRow.holds Try.pinned (OpenSpec.ofChange dividesAgainWrong)

/-- 'balefirelaw03.DividesPower': WHATEVER THE INPUT: true; the input reads as it did. -/
def dividesPowerSpec : ChangeSpec := { name := "dividesPower", fn := fun _ => fun
  | [d1, d2] => { results := [.lit (.bool true)], args := [d1, d2] }
  | _ => none }
def dividesPowerRow : OpenClaim := { program := "ytdjnhnfofajpcaa", sum := "d76a74a666878d5977c4890026315c2801ba2635245d4bd6f409cf76b00b04b6", func := "balefire/balefirelaw03.DividesPower", spec := "dividesPower", inPlace := ["math/bits.Add64", "math/bits.Sub64"], unfollowed := true, recurses := true, named := ["math/bits.divideError", "math/bits.overflowError"], apart := false }
def DividesPowerSaid : Prop := dividesPowerRow.holds Try.pinned (OpenSpec.ofChange dividesPowerSpec)

/-- ITS FALSE NEIGHBOUR: 'it returns false'. Refute it at one input. -/
def dividesPowerWrong : ChangeSpec := { name := "dividesPower", fn := fun _ => fun
  | [d1, d2] => { results := [.lit (.bool false)], args := [d1, d2] }
  | _ => none }
def DividesPowerWrongFalsely : Prop := dividesPowerRow.holds Try.pinned (OpenSpec.ofChange dividesPowerWrong)

/-- 'balefirelaw03.DividesWide': WHATEVER THE INPUT: true; the input reads as it did. -/
def dividesWideSpec : ChangeSpec := { name := "dividesWide", fn := fun _ => fun
  | [d] => { results := [.lit (.bool true)], args := [d] }
  | _ => none }
def dividesWideRow : OpenClaim := { program := "ytdjnhnfofajpcaa", sum := "d76a74a666878d5977c4890026315c2801ba2635245d4bd6f409cf76b00b04b6", func := "balefire/balefirelaw03.DividesWide", spec := "dividesWide", inPlace := ["math/bits.Add64", "math/bits.Sub64"], unfollowed := true, recurses := true, named := ["math/bits.divideError", "math/bits.overflowError"], apart := false }
def DividesWideSaid : Prop := dividesWideRow.holds Try.pinned (OpenSpec.ofChange dividesWideSpec)

/-- ITS FALSE NEIGHBOUR: 'it returns false'. Refute it at one input. -/
def dividesWideWrong : ChangeSpec := { name := "dividesWide", fn := fun _ => fun
  | [d] => { results := [.lit (.bool false)], args := [d] }
  | _ => none }
def DividesWideWrongFalsely : Prop := dividesWideRow.holds Try.pinned (OpenSpec.ofChange dividesWideWrong)

/-- 'balefirelaw03.DividesTimes': WHATEVER THE INPUT: true; the input reads as it did. -/
def dividesTimesSpec : ChangeSpec := { name := "dividesTimes", fn := fun _ => fun
  | [d1, d2, d3] => { results := [.lit (.bool true)], args := [d1, d2, d3] }
  | _ => none }
def dividesTimesRow : OpenClaim := { program := "ytdjnhnfofajpcaa", sum := "d76a74a666878d5977c4890026315c2801ba2635245d4bd6f409cf76b00b04b6", func := "balefire/balefirelaw03.DividesTimes", spec := "dividesTimes", inPlace := ["math/bits.Add64", "math/bits.Sub64"], unfollowed := true, recurses := true, named := ["math/bits.divideError", "math/bits.overflowError"], apart := false }
def DividesTimesSaid : Prop := dividesTimesRow.holds Try.pinned (OpenSpec.ofChange dividesTimesSpec)

/-- ITS FALSE NEIGHBOUR: 'it returns false'. Refute it at one input. -/
def dividesTimesWrong : ChangeSpec := { name := "dividesTimes", fn := fun _ => fun
  | [d1, d2, d3] => { results := [.lit (.bool false)], args := [d1, d2, d3] }
  | _ => none }
def DividesTimesWrongFalsely : Prop := dividesTimesRow.holds Try.pinned (OpenSpec.ofChange dividesTimesWrong)

/-- 'balefirelaw03.DividesTwice': WHATEVER THE INPUT: true; the input reads as it did. -/
def dividesTwiceSpec : ChangeSpec := { name := "dividesTwice", fn := fun _ => fun
  | [d1, d2, d3] => { results := [.lit (.bool true)], args := [d1, d2, d3] }
  | _ => none }
def dividesTwiceRow : OpenClaim := { program := "ytdjnhnfofajpcaa", sum := "d76a74a666878d5977c4890026315c2801ba2635245d4bd6f409cf76b00b04b6", func := "balefire/balefirelaw03.DividesTwice", spec := "dividesTwice", inPlace := ["math/bits.Add64", "math/bits.Sub64"], unfollowed := true, recurses := true, named := ["math/bits.divideError", "math/bits.overflowError"], apart := false }
def DividesTwiceSaid : Prop := dividesTwiceRow.holds Try.pinned (OpenSpec.ofChange dividesTwiceSpec)

/-- ITS FALSE NEIGHBOUR: 'it returns false'. Refute it at one input. -/
def dividesTwiceWrong : ChangeSpec := { name := "dividesTwice", fn := fun _ => fun
  | [d1, d2, d3] => { results := [.lit (.bool false)], args := [d1, d2, d3] }
  | _ => none }
def DividesTwiceWrongFalsely : Prop := dividesTwiceRow.holds Try.pinned (OpenSpec.ofChange dividesTwiceWrong)

/-- 'balefirelaw03.DividesBack': WHATEVER THE INPUT: true; the input reads as it did. -/
def dividesBackSpec : ChangeSpec := { name := "dividesBack", fn := fun _ => fun
  | [d1, d2] => { results := [.lit (.bool true)], args := [d1, d2] }
  | _ => none }
def dividesBackRow : OpenClaim := { program := "ytdjnhnfofajpcaa", sum := "d76a74a666878d5977c4890026315c2801ba2635245d4bd6f409cf76b00b04b6", func := "balefire/balefirelaw03.DividesBack", spec := "dividesBack", inPlace := ["math/bits.Add64", "math/bits.Sub64"], unfollowed := true, recurses := true, named := ["math/bits.divideError", "math/bits.overflowError"], apart := false }
def DividesBackSaid : Prop := dividesBackRow.holds Try.pinned (OpenSpec.ofChange dividesBackSpec)

/-- ITS FALSE NEIGHBOUR: 'it returns false'. Refute it at one input. -/
def dividesBackWrong : ChangeSpec := { name := "dividesBack", fn := fun _ => fun
  | [d1, d2] => { results := [.lit (.bool false)], args := [d1, d2] }
  | _ => none }
def DividesBackWrongFalsely : Prop := dividesBackRow.holds Try.pinned (OpenSpec.ofChange dividesBackWrong)

/-- 'balefirelaw04.ModsOf': WHATEVER THE INPUT: true; the input reads as it did. -/
def modsOfSpec : ChangeSpec := { name := "modsOf", fn := fun _ => fun
  | [d1, d2, d3] => { results := [.lit (.bool true)], args := [d1, d2, d3] }
  | _ => none }
def modsOfRow : OpenClaim := { program := "ytdjnhnfofajpcaa", sum := "d76a74a666878d5977c4890026315c2801ba2635245d4bd6f409cf76b00b04b6", func := "balefire/balefirelaw04.ModsOf", spec := "modsOf", inPlace := ["math/bits.Add64", "math/bits.Sub64"], unfollowed := true, recurses := true, named := ["math/bits.divideError", "math/bits.overflowError"], apart := false }
def ModsOfSaid : Prop := modsOfRow.holds Try.pinned (OpenSpec.ofChange modsOfSpec)

/-- ITS FALSE NEIGHBOUR: 'it returns false'. Refute it at one input. -/
def modsOfWrong : ChangeSpec := { name := "modsOf", fn := fun _ => fun
  | [d1, d2, d3] => { results := [.lit (.bool false)], args := [d1, d2, d3] }
  | _ => none }
def ModsOfWrongFalsely : Prop := modsOfRow.holds Try.pinned (OpenSpec.ofChange modsOfWrong)

/-- 'balefirelaw04.ModsLaws': WHATEVER THE INPUT: true; the input reads as it did. -/
def modsLawsSpec : ChangeSpec := { name := "modsLaws", fn := fun _ => fun
  | [d1, d2] => { results := [.lit (.bool true)], args := [d1, d2] }
  | _ => none }
def modsLawsRow : OpenClaim := { program := "ytdjnhnfofajpcaa", sum := "d76a74a666878d5977c4890026315c2801ba2635245d4bd6f409cf76b00b04b6", func := "balefire/balefirelaw04.ModsLaws", spec := "modsLaws", inPlace := ["math/bits.Sub64", "math/bits.Add64"], unfollowed := true, recurses := true, named := ["math/bits.divideError", "math/bits.overflowError"], apart := false }
def ModsLawsSaid : Prop := modsLawsRow.holds Try.pinned (OpenSpec.ofChange modsLawsSpec)

/-- ITS FALSE NEIGHBOUR: 'it returns false'. Refute it at one input. -/
def modsLawsWrong : ChangeSpec := { name := "modsLaws", fn := fun _ => fun
  | [d1, d2] => { results := [.lit (.bool false)], args := [d1, d2] }
  | _ => none }
def ModsLawsWrongFalsely : Prop := modsLawsRow.holds Try.pinned (OpenSpec.ofChange modsLawsWrong)

/-- 'balefirelaw04.ModsWhole': WHATEVER THE INPUT: true; the input reads as it did. -/
def modsWholeSpec : ChangeSpec := { name := "modsWhole", fn := fun _ => fun
  | [d1, d2, d3] => { results := [.lit (.bool true)], args := [d1, d2, d3] }
  | _ => none }
def modsWholeRow : OpenClaim := { program := "ytdjnhnfofajpcaa", sum := "d76a74a666878d5977c4890026315c2801ba2635245d4bd6f409cf76b00b04b6", func := "balefire/balefirelaw04.ModsWhole", spec := "modsWhole", inPlace := ["math/bits.Sub64", "math/bits.Add64"], unfollowed := true, recurses := true, named := ["math/bits.divideError", "math/bits.overflowError"], apart := false }
def ModsWholeSaid : Prop := modsWholeRow.holds Try.pinned (OpenSpec.ofChange modsWholeSpec)

/-- ITS FALSE NEIGHBOUR: 'it returns false'. Refute it at one input. -/
def modsWholeWrong : ChangeSpec := { name := "modsWhole", fn := fun _ => fun
  | [d1, d2, d3] => { results := [.lit (.bool false)], args := [d1, d2, d3] }
  | _ => none }
def ModsWholeWrongFalsely : Prop := modsWholeRow.holds Try.pinned (OpenSpec.ofChange modsWholeWrong)

/-- 'balefirelaw04.ModsPowers': WHATEVER THE INPUT: true; the input reads as it did. -/
def modsPowersSpec : ChangeSpec := { name := "modsPowers", fn := fun _ => fun
  | [d1, d2, d3] => { results := [.lit (.bool true)], args := [d1, d2, d3] }
  | _ => none }
def modsPowersRow : OpenClaim := { program := "ytdjnhnfofajpcaa", sum := "d76a74a666878d5977c4890026315c2801ba2635245d4bd6f409cf76b00b04b6", func := "balefire/balefirelaw04.ModsPowers", spec := "modsPowers", inPlace := ["math/bits.Sub64", "math/bits.Add64"], unfollowed := true, recurses := true, named := ["math/bits.divideError", "math/bits.overflowError"], apart := false }
def ModsPowersSaid : Prop := modsPowersRow.holds Try.pinned (OpenSpec.ofChange modsPowersSpec)

/-- ITS FALSE NEIGHBOUR: 'it returns false'. Refute it at one input. -/
def modsPowersWrong : ChangeSpec := { name := "modsPowers", fn := fun _ => fun
  | [d1, d2, d3] => { results := [.lit (.bool false)], args := [d1, d2, d3] }
  | _ => none }
def ModsPowersWrongFalsely : Prop := modsPowersRow.holds Try.pinned (OpenSpec.ofChange modsPowersWrong)

/-- 'balefirelaw04.ModsInverse': WHATEVER THE INPUT: true; the input reads as it did. -/
def modsInverseSpec : ChangeSpec := { name := "modsInverse", fn := fun _ => fun
  | [d1, d2] => { results := [.lit (.bool true)], args := [d1, d2] }
  | _ => none }
def modsInverseRow : OpenClaim := { program := "ytdjnhnfofajpcaa", sum := "d76a74a666878d5977c4890026315c2801ba2635245d4bd6f409cf76b00b04b6", func := "balefire/balefirelaw04.ModsInverse", spec := "modsInverse", inPlace := ["math/bits.Sub64", "math/bits.Add64"], unfollowed := true, recurses := true, named := ["math/bits.divideError", "math/bits.overflowError"], apart := false }
def ModsInverseSaid : Prop := modsInverseRow.holds Try.pinned (OpenSpec.ofChange modsInverseSpec)

/-- ITS FALSE NEIGHBOUR: 'it returns false'. Refute it at one input. -/
def modsInverseWrong : ChangeSpec := { name := "modsInverse", fn := fun _ => fun
  | [d1, d2] => { results := [.lit (.bool false)], args := [d1, d2] }
  | _ => none }
def ModsInverseWrongFalsely : Prop := modsInverseRow.holds Try.pinned (OpenSpec.ofChange modsInverseWrong)

/-- 'balefirelaw04.ModsRefuse': WHATEVER THE INPUT: true; the input reads as it did. -/
def modsRefuseSpec : ChangeSpec := { name := "modsRefuse", fn := fun _ => fun
  | [d1, d2, d3] => { results := [.lit (.bool true)], args := [d1, d2, d3] }
  | _ => none }
def modsRefuseRow : OpenClaim := { program := "ytdjnhnfofajpcaa", sum := "d76a74a666878d5977c4890026315c2801ba2635245d4bd6f409cf76b00b04b6", func := "balefire/balefirelaw04.ModsRefuse", spec := "modsRefuse", inPlace := ["math/bits.Sub64", "math/bits.Add64"], unfollowed := true, recurses := true, named := ["math/bits.divideError", "math/bits.overflowError"], apart := false }
def ModsRefuseSaid : Prop := modsRefuseRow.holds Try.pinned (OpenSpec.ofChange modsRefuseSpec)

/-- ITS FALSE NEIGHBOUR: 'it returns false'. Refute it at one input. -/
def modsRefuseWrong : ChangeSpec := { name := "modsRefuse", fn := fun _ => fun
  | [d1, d2, d3] => { results := [.lit (.bool false)], args := [d1, d2, d3] }
  | _ => none }
def ModsRefuseWrongFalsely : Prop := modsRefuseRow.holds Try.pinned (OpenSpec.ofChange modsRefuseWrong)

/-- 'balefirelaw04.ModsTwo': WHATEVER THE INPUT: true; the input reads as it did. -/
def modsTwoSpec : ChangeSpec := { name := "modsTwo", fn := fun _ => fun
  | [d1, d2] => { results := [.lit (.bool true)], args := [d1, d2] }
  | _ => none }
def modsTwoRow : OpenClaim := { program := "ytdjnhnfofajpcaa", sum := "d76a74a666878d5977c4890026315c2801ba2635245d4bd6f409cf76b00b04b6", func := "balefire/balefirelaw04.ModsTwo", spec := "modsTwo", inPlace := ["math/bits.Add64", "math/bits.Sub64"], unfollowed := true, recurses := true, named := ["math/bits.divideError", "math/bits.overflowError"], apart := false }
def ModsTwoSaid : Prop := modsTwoRow.holds Try.pinned (OpenSpec.ofChange modsTwoSpec)

/-- ITS FALSE NEIGHBOUR: 'it returns false'. Refute it at one input. -/
def modsTwoWrong : ChangeSpec := { name := "modsTwo", fn := fun _ => fun
  | [d1, d2] => { results := [.lit (.bool false)], args := [d1, d2] }
  | _ => none }
def ModsTwoWrongFalsely : Prop := modsTwoRow.holds Try.pinned (OpenSpec.ofChange modsTwoWrong)

/-- 'balefirelaw09.ScalarsOf': WHATEVER THE INPUT: true; the input reads as it did. -/
def scalarsOfSpec : ChangeSpec := { name := "scalarsOf", fn := fun _ => fun
  | [d1, d2, d3] => { results := [.lit (.bool true)], args := [d1, d2, d3] }
  | _ => none }
def scalarsOfRow : OpenClaim := { program := "ytdjnhnfofajpcaa", sum := "d76a74a666878d5977c4890026315c2801ba2635245d4bd6f409cf76b00b04b6", func := "balefire/balefirelaw09.ScalarsOf", spec := "scalarsOf", inPlace := ["math/bits.Add64", "math/bits.Sub64"], unfollowed := true, recurses := true, named := ["math/bits.divideError", "math/bits.overflowError"], apart := false }
def ScalarsOfSaid : Prop := scalarsOfRow.holds Try.pinned (OpenSpec.ofChange scalarsOfSpec)

/-- ITS FALSE NEIGHBOUR: 'it returns false'. Refute it at one input. -/
def scalarsOfWrong : ChangeSpec := { name := "scalarsOf", fn := fun _ => fun
  | [d1, d2, d3] => { results := [.lit (.bool false)], args := [d1, d2, d3] }
  | _ => none }
def ScalarsOfWrongFalsely : Prop := scalarsOfRow.holds Try.pinned (OpenSpec.ofChange scalarsOfWrong)

/-- 'balefirelaw09.ScalarsWhole': WHATEVER THE INPUT: true; the input reads as it did. -/
def scalarsWholeSpec : ChangeSpec := { name := "scalarsWhole", fn := fun _ => fun
  | [d1, d2, d3] => { results := [.lit (.bool true)], args := [d1, d2, d3] }
  | _ => none }
def scalarsWholeRow : OpenClaim := { program := "ytdjnhnfofajpcaa", sum := "d76a74a666878d5977c4890026315c2801ba2635245d4bd6f409cf76b00b04b6", func := "balefire/balefirelaw09.ScalarsWhole", spec := "scalarsWhole", inPlace := ["math/bits.Sub64", "math/bits.Add64"], unfollowed := true, recurses := true, named := ["math/bits.divideError", "math/bits.overflowError"], apart := false }
def ScalarsWholeSaid : Prop := scalarsWholeRow.holds Try.pinned (OpenSpec.ofChange scalarsWholeSpec)

/-- ITS FALSE NEIGHBOUR: 'it returns false'. Refute it at one input. -/
def scalarsWholeWrong : ChangeSpec := { name := "scalarsWhole", fn := fun _ => fun
  | [d1, d2, d3] => { results := [.lit (.bool false)], args := [d1, d2, d3] }
  | _ => none }
def ScalarsWholeWrongFalsely : Prop := scalarsWholeRow.holds Try.pinned (OpenSpec.ofChange scalarsWholeWrong)

/-- 'balefirelaw09.ScalarsNext': WHATEVER THE INPUT: true; the input reads as it did. -/
def scalarsNextSpec : ChangeSpec := { name := "scalarsNext", fn := fun _ => fun
  | [d1, d2] => { results := [.lit (.bool true)], args := [d1, d2] }
  | _ => none }
def scalarsNextRow : OpenClaim := { program := "ytdjnhnfofajpcaa", sum := "d76a74a666878d5977c4890026315c2801ba2635245d4bd6f409cf76b00b04b6", func := "balefire/balefirelaw09.ScalarsNext", spec := "scalarsNext", inPlace := ["math/bits.Sub64", "math/bits.Add64"], unfollowed := true, recurses := true, named := ["math/bits.divideError", "math/bits.overflowError"], apart := false }
def ScalarsNextSaid : Prop := scalarsNextRow.holds Try.pinned (OpenSpec.ofChange scalarsNextSpec)

/-- ITS FALSE NEIGHBOUR: 'it returns false'. Refute it at one input. -/
def scalarsNextWrong : ChangeSpec := { name := "scalarsNext", fn := fun _ => fun
  | [d1, d2] => { results := [.lit (.bool false)], args := [d1, d2] }
  | _ => none }
def ScalarsNextWrongFalsely : Prop := scalarsNextRow.holds Try.pinned (OpenSpec.ofChange scalarsNextWrong)

/- THE SECOND FORM. 'bulk': how many values and letters a reading holds, each counted each time it is reached (what is shared counts as often as it is met; a slice's spare places count too). A statement '..UptoSaid' is the law's where the arguments, and the package variables that the reading takes, are together of bulk at most 1048576: NARROWER than '..Said'. Prove '..Said' where nothing that the law and all that it calls make is longer than what came in: it says more and counts as full. Else prove '..UptoSaid'. A law counts once. -/
mutual
def uptoBulk {H : Type} : DataW H → Nat
  | .lit (.string bytes) => bytes.length + 1
  | .lit _ => 1
  | .nil => 1
  | .ptr d => uptoBulk d + 1
  | .slice elems spare => uptoBulkAll elems + uptoBulkAll spare + 1
  | .agg parts => uptoBulkAll parts + 1
  | .iface _ d => uptoBulk d + 1
  | .map entries => uptoBulkEntries entries + 1
  | .held _ => 1
def uptoBulkAll {H : Type} : List (DataW H) → Nat
  | [] => 0
  | d :: r => uptoBulk d + uptoBulkAll r
def uptoBulkEntries {H : Type} : List (Lit × DataW H) → Nat
  | [] => 0
  | x :: r => uptoBulkEntry x + uptoBulkEntries r
def uptoBulkEntry {H : Type} : Lit × DataW H → Nat
  | (.string bytes, d) => bytes.length + uptoBulk d + 1
  | (_, d) => uptoBulk d + 1
 end
def uptoSmall : (H : Type) → List (DataW H) → Bool := fun _ ds => decide (uptoBulkAll ds ≤ 1048576)
def OpenSpec.upto (s : _root_.Go.ChangeSpec) : _root_.Go.OpenSpec := { _root_.Go.OpenSpec.ofChange s with cond := some uptoSmall }

/-- 'balefirelaw02.LimbsOf', WHERE WHAT IT READS IS OF BULK AT MOST 1048576: true; the input reads as it did. -/
def limbsOfUptoRow : OpenClaim := { program := "ytdjnhnfofajpcaa", sum := "d76a74a666878d5977c4890026315c2801ba2635245d4bd6f409cf76b00b04b6", func := "balefire/balefirelaw02.LimbsOf", spec := "limbsOf", inPlace := ["math/bits.Add64", "math/bits.Sub64"], apart := false, narrowed := true }
def LimbsOfUptoSaid : Prop := limbsOfUptoRow.holds Try.pinned (OpenSpec.upto limbsOfSpec)

/-- 'balefirelaw02.LimbsSums', WHERE WHAT IT READS IS OF BULK AT MOST 1048576: true; the input reads as it did. -/
def limbsSumsUptoRow : OpenClaim := { program := "ytdjnhnfofajpcaa", sum := "d76a74a666878d5977c4890026315c2801ba2635245d4bd6f409cf76b00b04b6", func := "balefire/balefirelaw02.LimbsSums", spec := "limbsSums", inPlace := ["math/bits.Add64", "math/bits.Sub64"], apart := false, narrowed := true }
def LimbsSumsUptoSaid : Prop := limbsSumsUptoRow.holds Try.pinned (OpenSpec.upto limbsSumsSpec)

/-- 'balefirelaw02.LimbsProducts', WHERE WHAT IT READS IS OF BULK AT MOST 1048576: true; the input reads as it did. -/
def limbsProductsUptoRow : OpenClaim := { program := "ytdjnhnfofajpcaa", sum := "d76a74a666878d5977c4890026315c2801ba2635245d4bd6f409cf76b00b04b6", func := "balefire/balefirelaw02.LimbsProducts", spec := "limbsProducts", inPlace := ["math/bits.Add64", "math/bits.Sub64"], apart := false, narrowed := true }
def LimbsProductsUptoSaid : Prop := limbsProductsUptoRow.holds Try.pinned (OpenSpec.upto limbsProductsSpec)

/-- 'balefirelaw02.LimbsShift', WHERE WHAT IT READS IS OF BULK AT MOST 1048576: true; the input reads as it did. -/
def limbsShiftUptoRow : OpenClaim := { program := "ytdjnhnfofajpcaa", sum := "d76a74a666878d5977c4890026315c2801ba2635245d4bd6f409cf76b00b04b6", func := "balefire/balefirelaw02.LimbsShift", spec := "limbsShift", inPlace := ["math/bits.Add64", "math/bits.Sub64"], apart := false, narrowed := true }
def LimbsShiftUptoSaid : Prop := limbsShiftUptoRow.holds Try.pinned (OpenSpec.upto limbsShiftSpec)

/-- 'balefirelaw02.LimbsBits', WHERE WHAT IT READS IS OF BULK AT MOST 1048576: true; the input reads as it did. -/
def limbsBitsUptoRow : OpenClaim := { program := "ytdjnhnfofajpcaa", sum := "d76a74a666878d5977c4890026315c2801ba2635245d4bd6f409cf76b00b04b6", func := "balefire/balefirelaw02.LimbsBits", spec := "limbsBits", inPlace := ["math/bits.Add64", "math/bits.Sub64"], apart := false, narrowed := true }
def LimbsBitsUptoSaid : Prop := limbsBitsUptoRow.holds Try.pinned (OpenSpec.upto limbsBitsSpec)

/-- 'balefirelaw02.LimbsOrder', WHERE WHAT IT READS IS OF BULK AT MOST 1048576: true; the input reads as it did. -/
def limbsOrderUptoRow : OpenClaim := { program := "ytdjnhnfofajpcaa", sum := "d76a74a666878d5977c4890026315c2801ba2635245d4bd6f409cf76b00b04b6", func := "balefire/balefirelaw02.LimbsOrder", spec := "limbsOrder", inPlace := ["math/bits.Sub64", "math/bits.Add64"], apart := false, narrowed := true }
def LimbsOrderUptoSaid : Prop := limbsOrderUptoRow.holds Try.pinned (OpenSpec.upto limbsOrderSpec)

/-- 'balefirelaw09.ScalarsUndo', WHERE WHAT IT READS IS OF BULK AT MOST 1048576: true; the input reads as it did. -/
def scalarsUndoUptoRow : OpenClaim := { program := "ytdjnhnfofajpcaa", sum := "d76a74a666878d5977c4890026315c2801ba2635245d4bd6f409cf76b00b04b6", func := "balefire/balefirelaw09.ScalarsUndo", spec := "scalarsUndo", inPlace := ["math/bits.Sub64", "math/bits.Add64"], unfollowed := true, recurses := true, named := ["math/bits.divideError", "math/bits.overflowError"], apart := false, narrowed := true }
def ScalarsUndoUptoSaid : Prop := scalarsUndoUptoRow.holds Try.pinned (OpenSpec.upto scalarsUndoSpec)

/-- 'balefirelaw02.LimbsParts', WHERE WHAT IT READS IS OF BULK AT MOST 1048576: true; the input reads as it did. -/
def limbsPartsUptoRow : OpenClaim := { program := "ytdjnhnfofajpcaa", sum := "d76a74a666878d5977c4890026315c2801ba2635245d4bd6f409cf76b00b04b6", func := "balefire/balefirelaw02.LimbsParts", spec := "limbsParts", inPlace := ["math/bits.Add64", "math/bits.Sub64"], apart := false, narrowed := true }
def LimbsPartsUptoSaid : Prop := limbsPartsUptoRow.holds Try.pinned (OpenSpec.upto limbsPartsSpec)

/-- 'balefirelaw03.DividesOf', WHERE WHAT IT READS IS OF BULK AT MOST 1048576: true; the input reads as it did. -/
def dividesOfUptoRow : OpenClaim := { program := "ytdjnhnfofajpcaa", sum := "d76a74a666878d5977c4890026315c2801ba2635245d4bd6f409cf76b00b04b6", func := "balefire/balefirelaw03.DividesOf", spec := "dividesOf", inPlace := ["math/bits.Add64", "math/bits.Sub64"], unfollowed := true, recurses := true, named := ["math/bits.divideError", "math/bits.overflowError"], apart := false, narrowed := true }
def DividesOfUptoSaid : Prop := dividesOfUptoRow.holds Try.pinned (OpenSpec.upto dividesOfSpec)

/-- 'balefirelaw09.ScalarsParts', WHERE WHAT IT READS IS OF BULK AT MOST 1048576: true; the input reads as it did. -/
def scalarsPartsUptoRow : OpenClaim := { program := "ytdjnhnfofajpcaa", sum := "d76a74a666878d5977c4890026315c2801ba2635245d4bd6f409cf76b00b04b6", func := "balefire/balefirelaw09.ScalarsParts", spec := "scalarsParts", inPlace := ["math/bits.Add64", "math/bits.Sub64"], unfollowed := true, recurses := true, named := ["math/bits.divideError", "math/bits.overflowError"], apart := false, narrowed := true }
def ScalarsPartsUptoSaid : Prop := scalarsPartsUptoRow.holds Try.pinned (OpenSpec.upto scalarsPartsSpec)

/-- 'balefirelaw03.DividesCommon', WHERE WHAT IT READS IS OF BULK AT MOST 1048576: true; the input reads as it did. -/
def dividesCommonUptoRow : OpenClaim := { program := "ytdjnhnfofajpcaa", sum := "d76a74a666878d5977c4890026315c2801ba2635245d4bd6f409cf76b00b04b6", func := "balefire/balefirelaw03.DividesCommon", spec := "dividesCommon", inPlace := ["math/bits.Add64", "math/bits.Sub64"], unfollowed := true, recurses := true, named := ["math/bits.divideError", "math/bits.overflowError"], apart := false, narrowed := true }
def DividesCommonUptoSaid : Prop := dividesCommonUptoRow.holds Try.pinned (OpenSpec.upto dividesCommonSpec)

/-- 'balefirelaw03.DividesAgain', WHERE WHAT IT READS IS OF BULK AT MOST 1048576: true; the input reads as it did. -/
def dividesAgainUptoRow : OpenClaim := { program := "ytdjnhnfofajpcaa", sum := "d76a74a666878d5977c4890026315c2801ba2635245d4bd6f409cf76b00b04b6", func := "balefire/balefirelaw03.DividesAgain", spec := "dividesAgain", inPlace := ["math/bits.Add64", "math/bits.Sub64"], unfollowed := true, recurses := true, named := ["math/bits.divideError", "math/bits.overflowError"], apart := false, narrowed := true }
def DividesAgainUptoSaid : Prop := dividesAgainUptoRow.holds Try.pinned (OpenSpec.upto dividesAgainSpec)

/-- 'balefirelaw03.DividesPower', WHERE WHAT IT READS IS OF BULK AT MOST 1048576: true; the input reads as it did. -/
def dividesPowerUptoRow : OpenClaim := { program := "ytdjnhnfofajpcaa", sum := "d76a74a666878d5977c4890026315c2801ba2635245d4bd6f409cf76b00b04b6", func := "balefire/balefirelaw03.DividesPower", spec := "dividesPower", inPlace := ["math/bits.Add64", "math/bits.Sub64"], unfollowed := true, recurses := true, named := ["math/bits.divideError", "math/bits.overflowError"], apart := false, narrowed := true }
def DividesPowerUptoSaid : Prop := dividesPowerUptoRow.holds Try.pinned (OpenSpec.upto dividesPowerSpec)

/-- 'balefirelaw03.DividesWide', WHERE WHAT IT READS IS OF BULK AT MOST 1048576: true; the input reads as it did. -/
def dividesWideUptoRow : OpenClaim := { program := "ytdjnhnfofajpcaa", sum := "d76a74a666878d5977c4890026315c2801ba2635245d4bd6f409cf76b00b04b6", func := "balefire/balefirelaw03.DividesWide", spec := "dividesWide", inPlace := ["math/bits.Add64", "math/bits.Sub64"], unfollowed := true, recurses := true, named := ["math/bits.divideError", "math/bits.overflowError"], apart := false, narrowed := true }
def DividesWideUptoSaid : Prop := dividesWideUptoRow.holds Try.pinned (OpenSpec.upto dividesWideSpec)

/-- 'balefirelaw03.DividesTimes', WHERE WHAT IT READS IS OF BULK AT MOST 1048576: true; the input reads as it did. -/
def dividesTimesUptoRow : OpenClaim := { program := "ytdjnhnfofajpcaa", sum := "d76a74a666878d5977c4890026315c2801ba2635245d4bd6f409cf76b00b04b6", func := "balefire/balefirelaw03.DividesTimes", spec := "dividesTimes", inPlace := ["math/bits.Add64", "math/bits.Sub64"], unfollowed := true, recurses := true, named := ["math/bits.divideError", "math/bits.overflowError"], apart := false, narrowed := true }
def DividesTimesUptoSaid : Prop := dividesTimesUptoRow.holds Try.pinned (OpenSpec.upto dividesTimesSpec)

/-- 'balefirelaw03.DividesTwice', WHERE WHAT IT READS IS OF BULK AT MOST 1048576: true; the input reads as it did. -/
def dividesTwiceUptoRow : OpenClaim := { program := "ytdjnhnfofajpcaa", sum := "d76a74a666878d5977c4890026315c2801ba2635245d4bd6f409cf76b00b04b6", func := "balefire/balefirelaw03.DividesTwice", spec := "dividesTwice", inPlace := ["math/bits.Add64", "math/bits.Sub64"], unfollowed := true, recurses := true, named := ["math/bits.divideError", "math/bits.overflowError"], apart := false, narrowed := true }
def DividesTwiceUptoSaid : Prop := dividesTwiceUptoRow.holds Try.pinned (OpenSpec.upto dividesTwiceSpec)

/-- 'balefirelaw03.DividesBack', WHERE WHAT IT READS IS OF BULK AT MOST 1048576: true; the input reads as it did. -/
def dividesBackUptoRow : OpenClaim := { program := "ytdjnhnfofajpcaa", sum := "d76a74a666878d5977c4890026315c2801ba2635245d4bd6f409cf76b00b04b6", func := "balefire/balefirelaw03.DividesBack", spec := "dividesBack", inPlace := ["math/bits.Add64", "math/bits.Sub64"], unfollowed := true, recurses := true, named := ["math/bits.divideError", "math/bits.overflowError"], apart := false, narrowed := true }
def DividesBackUptoSaid : Prop := dividesBackUptoRow.holds Try.pinned (OpenSpec.upto dividesBackSpec)

/-- 'balefirelaw04.ModsOf', WHERE WHAT IT READS IS OF BULK AT MOST 1048576: true; the input reads as it did. -/
def modsOfUptoRow : OpenClaim := { program := "ytdjnhnfofajpcaa", sum := "d76a74a666878d5977c4890026315c2801ba2635245d4bd6f409cf76b00b04b6", func := "balefire/balefirelaw04.ModsOf", spec := "modsOf", inPlace := ["math/bits.Add64", "math/bits.Sub64"], unfollowed := true, recurses := true, named := ["math/bits.divideError", "math/bits.overflowError"], apart := false, narrowed := true }
def ModsOfUptoSaid : Prop := modsOfUptoRow.holds Try.pinned (OpenSpec.upto modsOfSpec)

/-- 'balefirelaw04.ModsLaws', WHERE WHAT IT READS IS OF BULK AT MOST 1048576: true; the input reads as it did. -/
def modsLawsUptoRow : OpenClaim := { program := "ytdjnhnfofajpcaa", sum := "d76a74a666878d5977c4890026315c2801ba2635245d4bd6f409cf76b00b04b6", func := "balefire/balefirelaw04.ModsLaws", spec := "modsLaws", inPlace := ["math/bits.Sub64", "math/bits.Add64"], unfollowed := true, recurses := true, named := ["math/bits.divideError", "math/bits.overflowError"], apart := false, narrowed := true }
def ModsLawsUptoSaid : Prop := modsLawsUptoRow.holds Try.pinned (OpenSpec.upto modsLawsSpec)

/-- 'balefirelaw04.ModsWhole', WHERE WHAT IT READS IS OF BULK AT MOST 1048576: true; the input reads as it did. -/
def modsWholeUptoRow : OpenClaim := { program := "ytdjnhnfofajpcaa", sum := "d76a74a666878d5977c4890026315c2801ba2635245d4bd6f409cf76b00b04b6", func := "balefire/balefirelaw04.ModsWhole", spec := "modsWhole", inPlace := ["math/bits.Sub64", "math/bits.Add64"], unfollowed := true, recurses := true, named := ["math/bits.divideError", "math/bits.overflowError"], apart := false, narrowed := true }
def ModsWholeUptoSaid : Prop := modsWholeUptoRow.holds Try.pinned (OpenSpec.upto modsWholeSpec)

/-- 'balefirelaw04.ModsPowers', WHERE WHAT IT READS IS OF BULK AT MOST 1048576: true; the input reads as it did. -/
def modsPowersUptoRow : OpenClaim := { program := "ytdjnhnfofajpcaa", sum := "d76a74a666878d5977c4890026315c2801ba2635245d4bd6f409cf76b00b04b6", func := "balefire/balefirelaw04.ModsPowers", spec := "modsPowers", inPlace := ["math/bits.Sub64", "math/bits.Add64"], unfollowed := true, recurses := true, named := ["math/bits.divideError", "math/bits.overflowError"], apart := false, narrowed := true }
def ModsPowersUptoSaid : Prop := modsPowersUptoRow.holds Try.pinned (OpenSpec.upto modsPowersSpec)

/-- 'balefirelaw04.ModsInverse', WHERE WHAT IT READS IS OF BULK AT MOST 1048576: true; the input reads as it did. -/
def modsInverseUptoRow : OpenClaim := { program := "ytdjnhnfofajpcaa", sum := "d76a74a666878d5977c4890026315c2801ba2635245d4bd6f409cf76b00b04b6", func := "balefire/balefirelaw04.ModsInverse", spec := "modsInverse", inPlace := ["math/bits.Sub64", "math/bits.Add64"], unfollowed := true, recurses := true, named := ["math/bits.divideError", "math/bits.overflowError"], apart := false, narrowed := true }
def ModsInverseUptoSaid : Prop := modsInverseUptoRow.holds Try.pinned (OpenSpec.upto modsInverseSpec)

/-- 'balefirelaw04.ModsRefuse', WHERE WHAT IT READS IS OF BULK AT MOST 1048576: true; the input reads as it did. -/
def modsRefuseUptoRow : OpenClaim := { program := "ytdjnhnfofajpcaa", sum := "d76a74a666878d5977c4890026315c2801ba2635245d4bd6f409cf76b00b04b6", func := "balefire/balefirelaw04.ModsRefuse", spec := "modsRefuse", inPlace := ["math/bits.Sub64", "math/bits.Add64"], unfollowed := true, recurses := true, named := ["math/bits.divideError", "math/bits.overflowError"], apart := false, narrowed := true }
def ModsRefuseUptoSaid : Prop := modsRefuseUptoRow.holds Try.pinned (OpenSpec.upto modsRefuseSpec)

/-- 'balefirelaw04.ModsTwo', WHERE WHAT IT READS IS OF BULK AT MOST 1048576: true; the input reads as it did. -/
def modsTwoUptoRow : OpenClaim := { program := "ytdjnhnfofajpcaa", sum := "d76a74a666878d5977c4890026315c2801ba2635245d4bd6f409cf76b00b04b6", func := "balefire/balefirelaw04.ModsTwo", spec := "modsTwo", inPlace := ["math/bits.Add64", "math/bits.Sub64"], unfollowed := true, recurses := true, named := ["math/bits.divideError", "math/bits.overflowError"], apart := false, narrowed := true }
def ModsTwoUptoSaid : Prop := modsTwoUptoRow.holds Try.pinned (OpenSpec.upto modsTwoSpec)

/-- 'balefirelaw09.ScalarsOf', WHERE WHAT IT READS IS OF BULK AT MOST 1048576: true; the input reads as it did. -/
def scalarsOfUptoRow : OpenClaim := { program := "ytdjnhnfofajpcaa", sum := "d76a74a666878d5977c4890026315c2801ba2635245d4bd6f409cf76b00b04b6", func := "balefire/balefirelaw09.ScalarsOf", spec := "scalarsOf", inPlace := ["math/bits.Add64", "math/bits.Sub64"], unfollowed := true, recurses := true, named := ["math/bits.divideError", "math/bits.overflowError"], apart := false, narrowed := true }
def ScalarsOfUptoSaid : Prop := scalarsOfUptoRow.holds Try.pinned (OpenSpec.upto scalarsOfSpec)

/-- 'balefirelaw09.ScalarsWhole', WHERE WHAT IT READS IS OF BULK AT MOST 1048576: true; the input reads as it did. -/
def scalarsWholeUptoRow : OpenClaim := { program := "ytdjnhnfofajpcaa", sum := "d76a74a666878d5977c4890026315c2801ba2635245d4bd6f409cf76b00b04b6", func := "balefire/balefirelaw09.ScalarsWhole", spec := "scalarsWhole", inPlace := ["math/bits.Sub64", "math/bits.Add64"], unfollowed := true, recurses := true, named := ["math/bits.divideError", "math/bits.overflowError"], apart := false, narrowed := true }
def ScalarsWholeUptoSaid : Prop := scalarsWholeUptoRow.holds Try.pinned (OpenSpec.upto scalarsWholeSpec)

/-- 'balefirelaw09.ScalarsNext', WHERE WHAT IT READS IS OF BULK AT MOST 1048576: true; the input reads as it did. -/
def scalarsNextUptoRow : OpenClaim := { program := "ytdjnhnfofajpcaa", sum := "d76a74a666878d5977c4890026315c2801ba2635245d4bd6f409cf76b00b04b6", func := "balefire/balefirelaw09.ScalarsNext", spec := "scalarsNext", inPlace := ["math/bits.Sub64", "math/bits.Add64"], unfollowed := true, recurses := true, named := ["math/bits.divideError", "math/bits.overflowError"], apart := false, narrowed := true }
def ScalarsNextUptoSaid : Prop := scalarsNextUptoRow.holds Try.pinned (OpenSpec.upto scalarsNextSpec)

end Rows
end Go.Proofs.Ytdjnhnfofajpcaa
