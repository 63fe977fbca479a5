/-
  No cell of these rows narrows 'for every input' (looked for: loops, veiled, ifaces, maps, wideKeys, modest, calm, conditions, laid).
  DERIVED. THE GIVEN ROWS OF THIS SEAT. 12 by the template 'for every input the law returns true; each argument reads behind the call as it read before'; 0 by the template 'total and deterministic' (their statements: YtpanefmemabckaaTotals.lean).
  GIVEN WITH THE SEED: the statements are not yours to turn. If you find one false, say at which input.
  Laid BY PROGRAM, IN A SANDBOX (cutbox-rows.mjs): the forced cells as the released guide's own fill.sh prints them over the translation 817886380932620d… (all of the seat's roots in one cut). By AI agents, Wed Nov 11 2026. No macro, syntax, notation, axiom, sorry.
-/
import Derived.Test.YtpanefmemabckaaChecked
import GoSem.Claim
import GoSem.ClaimJoined
import GoSem.ClaimMapViews
import Derived.JoinedTies
import Derived.KernelRfl
namespace Go.Proofs.Ytpanefmemabckaa
/- THE CELL 'sum', in the pinned program and in every row, IS THE sha256 OF THE DUMP (.gsa) THAT YtpanefmemabckaaProg.lean LOADS. Nothing in Lean hashes anything: it is a label: what it is worth is what the hold of that sum in a sandbox is worth. -/
noncomputable def Try.pinned : Pinned := { name := "ytpanefmemabckaa", sum := "817886380932620d26f51bfb1868f3b5ef8478653516724f8f0666607bbd2c21", checked := Try.checked }
namespace Rows
def none {H : Type} : Left H := { results := [], args := [] }

/-- 'cardexlaw23.PolicyTwice': WHATEVER THE INPUT: true; the input reads as it did. -/
def policyTwiceSpec : ChangeSpec := { name := "policyTwice", fn := fun _ => fun
  | [d1, d2, d3, d4, d5] => { results := [.lit (.bool true)], args := [d1, d2, d3, d4, d5] }
  | _ => none }
def policyTwiceRow : OpenClaim := { program := "ytpanefmemabckaa", sum := "817886380932620d26f51bfb1868f3b5ef8478653516724f8f0666607bbd2c21", func := "cardex/cardexlaw23.PolicyTwice", spec := "policyTwice", apart := false }
def PolicyTwiceSaid : Prop := policyTwiceRow.holds Try.pinned (OpenSpec.ofChange policyTwiceSpec)

/-- ITS FALSE NEIGHBOUR: 'it returns false'. Refute it at one input. -/
def policyTwiceWrong : ChangeSpec := { name := "policyTwice", fn := fun _ => fun
  | [d1, d2, d3, d4, d5] => { results := [.lit (.bool false)], args := [d1, d2, d3, d4, d5] }
  | _ => none }
def PolicyTwiceWrongFalsely : Prop := policyTwiceRow.holds Try.pinned (OpenSpec.ofChange policyTwiceWrong)

/-- 'cardexlaw23.PolicyWiped': WHATEVER THE INPUT: true; the input reads as it did. -/
def policyWipedSpec : ChangeSpec := { name := "policyWiped", fn := fun _ => fun
  | [d1, d2] => { results := [.lit (.bool true)], args := [d1, d2] }
  | _ => none }
def policyWipedRow : OpenClaim := { program := "ytpanefmemabckaa", sum := "817886380932620d26f51bfb1868f3b5ef8478653516724f8f0666607bbd2c21", func := "cardex/cardexlaw23.PolicyWiped", spec := "policyWiped", apart := false }
def PolicyWipedSaid : Prop := policyWipedRow.holds Try.pinned (OpenSpec.ofChange policyWipedSpec)

/-- ITS FALSE NEIGHBOUR: 'it returns false'. Refute it at one input. -/
def policyWipedWrong : ChangeSpec := { name := "policyWiped", fn := fun _ => fun
  | [d1, d2] => { results := [.lit (.bool false)], args := [d1, d2] }
  | _ => none }
def PolicyWipedWrongFalsely : Prop := policyWipedRow.holds Try.pinned (OpenSpec.ofChange policyWipedWrong)

/-- 'cardexlaw03.CrcTells': WHATEVER THE INPUT: true; the input reads as it did. -/
def crcTellsSpec : ChangeSpec := { name := "crcTells", fn := fun _ => fun
  | [d1, d2, d3, d4] => { results := [.lit (.bool true)], args := [d1, d2, d3, d4] }
  | _ => none }
def crcTellsRow : OpenClaim := { program := "ytpanefmemabckaa", sum := "817886380932620d26f51bfb1868f3b5ef8478653516724f8f0666607bbd2c21", func := "cardex/cardexlaw03.CrcTells", spec := "crcTells", apart := false }
def CrcTellsSaid : Prop := crcTellsRow.holds Try.pinned (OpenSpec.ofChange crcTellsSpec)

/-- ITS FALSE NEIGHBOUR: 'it returns false'. Refute it at one input. -/
def crcTellsWrong : ChangeSpec := { name := "crcTells", fn := fun _ => fun
  | [d1, d2, d3, d4] => { results := [.lit (.bool false)], args := [d1, d2, d3, d4] }
  | _ => none }
def CrcTellsWrongFalsely : Prop := crcTellsRow.holds Try.pinned (OpenSpec.ofChange crcTellsWrong)

/-- 'cardexlaw03.CrcJoins': WHATEVER THE INPUT: true; the input reads as it did. -/
def crcJoinsSpec : ChangeSpec := { name := "crcJoins", fn := fun _ => fun
  | [d] => { results := [.lit (.bool true)], args := [d] }
  | _ => none }
def crcJoinsRow : OpenClaim := { program := "ytpanefmemabckaa", sum := "817886380932620d26f51bfb1868f3b5ef8478653516724f8f0666607bbd2c21", func := "cardex/cardexlaw03.CrcJoins", spec := "crcJoins", apart := false }
def CrcJoinsSaid : Prop := crcJoinsRow.holds Try.pinned (OpenSpec.ofChange crcJoinsSpec)

/-- ITS FALSE NEIGHBOUR: 'it returns false'. Refute it at one input. -/
def crcJoinsWrong : ChangeSpec := { name := "crcJoins", fn := fun _ => fun
  | [d] => { results := [.lit (.bool false)], args := [d] }
  | _ => none }
def CrcJoinsWrongFalsely : Prop := crcJoinsRow.holds Try.pinned (OpenSpec.ofChange crcJoinsWrong)

/-- 'cardexlaw22.GenReads': WHATEVER THE INPUT: true; the input reads as it did. -/
def genReadsSpec : ChangeSpec := { name := "genReads", fn := fun _ => fun
  | [d1, d2] => { results := [.lit (.bool true)], args := [d1, d2] }
  | _ => none }
def genReadsRow : OpenClaim := { program := "ytpanefmemabckaa", sum := "817886380932620d26f51bfb1868f3b5ef8478653516724f8f0666607bbd2c21", func := "cardex/cardexlaw22.GenReads", spec := "genReads", apart := false }
def GenReadsSaid : Prop := genReadsRow.holds Try.pinned (OpenSpec.ofChange genReadsSpec)

/-- ITS FALSE NEIGHBOUR: 'it returns false'. Refute it at one input. -/
def genReadsWrong : ChangeSpec := { name := "genReads", fn := fun _ => fun
  | [d1, d2] => { results := [.lit (.bool false)], args := [d1, d2] }
  | _ => none }
def GenReadsWrongFalsely : Prop := genReadsRow.holds Try.pinned (OpenSpec.ofChange genReadsWrong)

/-- 'cardexlaw03.CrcOn': WHATEVER THE INPUT: true; the input reads as it did. -/
def crcOnSpec : ChangeSpec := { name := "crcOn", fn := fun _ => fun
  | [d1, d2, d3, d4] => { results := [.lit (.bool true)], args := [d1, d2, d3, d4] }
  | _ => none }
def crcOnRow : OpenClaim := { program := "ytpanefmemabckaa", sum := "817886380932620d26f51bfb1868f3b5ef8478653516724f8f0666607bbd2c21", func := "cardex/cardexlaw03.CrcOn", spec := "crcOn", apart := false }
def CrcOnSaid : Prop := crcOnRow.holds Try.pinned (OpenSpec.ofChange crcOnSpec)

/-- ITS FALSE NEIGHBOUR: 'it returns false'. Refute it at one input. -/
def crcOnWrong : ChangeSpec := { name := "crcOn", fn := fun _ => fun
  | [d1, d2, d3, d4] => { results := [.lit (.bool false)], args := [d1, d2, d3, d4] }
  | _ => none }
def CrcOnWrongFalsely : Prop := crcOnRow.holds Try.pinned (OpenSpec.ofChange crcOnWrong)

/-- 'cardexlaw22.GenBack': WHATEVER THE INPUT: true; the input reads as it did. -/
def genBackSpec : ChangeSpec := { name := "genBack", fn := fun _ => fun
  | [d1, d2] => { results := [.lit (.bool true)], args := [d1, d2] }
  | _ => none }
def genBackRow : OpenClaim := { program := "ytpanefmemabckaa", sum := "817886380932620d26f51bfb1868f3b5ef8478653516724f8f0666607bbd2c21", func := "cardex/cardexlaw22.GenBack", spec := "genBack", apart := false }
def GenBackSaid : Prop := genBackRow.holds Try.pinned (OpenSpec.ofChange genBackSpec)

/-- ITS FALSE NEIGHBOUR: 'it returns false'. Refute it at one input. -/
def genBackWrong : ChangeSpec := { name := "genBack", fn := fun _ => fun
  | [d1, d2] => { results := [.lit (.bool false)], args := [d1, d2] }
  | _ => none }
def GenBackWrongFalsely : Prop := genBackRow.holds Try.pinned (OpenSpec.ofChange genBackWrong)

/-- 'cardexlaw03.CrcSide': WHATEVER THE INPUT: true; the input reads as it did. -/
def crcSideSpec : ChangeSpec := { name := "crcSide", fn := fun _ => fun
  | [d1, d2, d3, d4] => { results := [.lit (.bool true)], args := [d1, d2, d3, d4] }
  | _ => none }
def crcSideRow : OpenClaim := { program := "ytpanefmemabckaa", sum := "817886380932620d26f51bfb1868f3b5ef8478653516724f8f0666607bbd2c21", func := "cardex/cardexlaw03.CrcSide", spec := "crcSide", apart := false }
def CrcSideSaid : Prop := crcSideRow.holds Try.pinned (OpenSpec.ofChange crcSideSpec)

/-- ITS FALSE NEIGHBOUR: 'it returns false'. Refute it at one input. -/
def crcSideWrong : ChangeSpec := { name := "crcSide", fn := fun _ => fun
  | [d1, d2, d3, d4] => { results := [.lit (.bool false)], args := [d1, d2, d3, d4] }
  | _ => none }
def CrcSideWrongFalsely : Prop := crcSideRow.holds Try.pinned (OpenSpec.ofChange crcSideWrong)

/-- 'cardexlaw01.NumNumbers': WHATEVER THE INPUT: true; the input reads as it did. -/
def numNumbersSpec : ChangeSpec := { name := "numNumbers", fn := fun _ => fun
  | [d1, d2, d3, d4] => { results := [.lit (.bool true)], args := [d1, d2, d3, d4] }
  | _ => none }
def numNumbersRow : OpenClaim := { program := "ytpanefmemabckaa", sum := "817886380932620d26f51bfb1868f3b5ef8478653516724f8f0666607bbd2c21", func := "cardex/cardexlaw01.NumNumbers", spec := "numNumbers", apart := false }
def NumNumbersSaid : Prop := numNumbersRow.holds Try.pinned (OpenSpec.ofChange numNumbersSpec)

/-- ITS FALSE NEIGHBOUR: 'it returns false'. Refute it at one input. -/
def numNumbersWrong : ChangeSpec := { name := "numNumbers", fn := fun _ => fun
  | [d1, d2, d3, d4] => { results := [.lit (.bool false)], args := [d1, d2, d3, d4] }
  | _ => none }
def NumNumbersWrongFalsely : Prop := numNumbersRow.holds Try.pinned (OpenSpec.ofChange numNumbersWrong)

/-- 'cardexlaw01.NumMarks': WHATEVER THE INPUT: true; the input reads as it did. -/
def numMarksSpec : ChangeSpec := { name := "numMarks", fn := fun _ => fun
  | [d1, d2, d3] => { results := [.lit (.bool true)], args := [d1, d2, d3] }
  | _ => none }
def numMarksRow : OpenClaim := { program := "ytpanefmemabckaa", sum := "817886380932620d26f51bfb1868f3b5ef8478653516724f8f0666607bbd2c21", func := "cardex/cardexlaw01.NumMarks", spec := "numMarks", apart := false }
def NumMarksSaid : Prop := numMarksRow.holds Try.pinned (OpenSpec.ofChange numMarksSpec)

/-- ITS FALSE NEIGHBOUR: 'it returns false'. Refute it at one input. -/
def numMarksWrong : ChangeSpec := { name := "numMarks", fn := fun _ => fun
  | [d1, d2, d3] => { results := [.lit (.bool false)], args := [d1, d2, d3] }
  | _ => none }
def NumMarksWrongFalsely : Prop := numMarksRow.holds Try.pinned (OpenSpec.ofChange numMarksWrong)

/-- 'cardexlaw01.NumOne': WHATEVER THE INPUT: true; the input reads as it did. -/
def numOneSpec : ChangeSpec := { name := "numOne", fn := fun _ => fun
  | [d1, d2] => { results := [.lit (.bool true)], args := [d1, d2] }
  | _ => none }
def numOneRow : OpenClaim := { program := "ytpanefmemabckaa", sum := "817886380932620d26f51bfb1868f3b5ef8478653516724f8f0666607bbd2c21", func := "cardex/cardexlaw01.NumOne", spec := "numOne", apart := false }
def NumOneSaid : Prop := numOneRow.holds Try.pinned (OpenSpec.ofChange numOneSpec)

/-- ITS FALSE NEIGHBOUR: 'it returns false'. Refute it at one input. -/
def numOneWrong : ChangeSpec := { name := "numOne", fn := fun _ => fun
  | [d1, d2] => { results := [.lit (.bool false)], args := [d1, d2] }
  | _ => none }
def NumOneWrongFalsely : Prop := numOneRow.holds Try.pinned (OpenSpec.ofChange numOneWrong)

/-- 'cardexlaw01.NumRows': WHATEVER THE INPUT: true; the input reads as it did. -/
def numRowsSpec : ChangeSpec := { name := "numRows", fn := fun _ => fun
  | [d1, d2, d3] => { results := [.lit (.bool true)], args := [d1, d2, d3] }
  | _ => none }
def numRowsRow : OpenClaim := { program := "ytpanefmemabckaa", sum := "817886380932620d26f51bfb1868f3b5ef8478653516724f8f0666607bbd2c21", func := "cardex/cardexlaw01.NumRows", spec := "numRows", apart := false }
def NumRowsSaid : Prop := numRowsRow.holds Try.pinned (OpenSpec.ofChange numRowsSpec)

/-- ITS FALSE NEIGHBOUR: 'it returns false'. Refute it at one input. -/
def numRowsWrong : ChangeSpec := { name := "numRows", fn := fun _ => fun
  | [d1, d2, d3] => { results := [.lit (.bool false)], args := [d1, d2, d3] }
  | _ => none }
def NumRowsWrongFalsely : Prop := numRowsRow.holds Try.pinned (OpenSpec.ofChange numRowsWrong)

/- THE SECOND FORM. 'bulk': how many values and letters a reading holds, each counted each time it is reached (what is shared counts as often as it is met; a slice's spare places count too). A statement '..UptoSaid' is the law's where the arguments, and the package variables that the reading takes, are together of bulk at most 1048576: NARROWER than '..Said'. Prove '..Said' where nothing that the law and all that it calls make is longer than what came in: it says more and counts as full. Else prove '..UptoSaid'. A law counts once. -/
mutual
def uptoBulk {H : Type} : DataW H → Nat
  | .lit (.string bytes) => bytes.length + 1
  | .lit _ => 1
  | .nil => 1
  | .ptr d => uptoBulk d + 1
  | .slice elems spare => uptoBulkAll elems + uptoBulkAll spare + 1
  | .agg parts => uptoBulkAll parts + 1
  | .iface _ d => uptoBulk d + 1
  | .map entries => uptoBulkEntries entries + 1
  | .held _ => 1
def uptoBulkAll {H : Type} : List (DataW H) → Nat
  | [] => 0
  | d :: r => uptoBulk d + uptoBulkAll r
def uptoBulkEntries {H : Type} : List (Lit × DataW H) → Nat
  | [] => 0
  | x :: r => uptoBulkEntry x + uptoBulkEntries r
def uptoBulkEntry {H : Type} : Lit × DataW H → Nat
  | (.string bytes, d) => bytes.length + uptoBulk d + 1
  | (_, d) => uptoBulk d + 1
 end
def uptoSmall : (H : Type) → List (DataW H) → Bool := fun _ ds => decide (uptoBulkAll ds ≤ 1048576)
def OpenSpec.upto (s : _root_.Go.ChangeSpec) : _root_.Go.OpenSpec := { _root_.Go.OpenSpec.ofChange s with cond := some uptoSmall }

/-- 'cardexlaw23.PolicyTwice', WHERE WHAT IT READS IS OF BULK AT MOST 1048576: true; the input reads as it did. -/
def policyTwiceUptoRow : OpenClaim := { program := "ytpanefmemabckaa", sum := "817886380932620d26f51bfb1868f3b5ef8478653516724f8f0666607bbd2c21", func := "cardex/cardexlaw23.PolicyTwice", spec := "policyTwice", apart := false, narrowed := true }
def PolicyTwiceUptoSaid : Prop := policyTwiceUptoRow.holds Try.pinned (OpenSpec.upto policyTwiceSpec)

/-- 'cardexlaw23.PolicyWiped', WHERE WHAT IT READS IS OF BULK AT MOST 1048576: true; the input reads as it did. -/
def policyWipedUptoRow : OpenClaim := { program := "ytpanefmemabckaa", sum := "817886380932620d26f51bfb1868f3b5ef8478653516724f8f0666607bbd2c21", func := "cardex/cardexlaw23.PolicyWiped", spec := "policyWiped", apart := false, narrowed := true }
def PolicyWipedUptoSaid : Prop := policyWipedUptoRow.holds Try.pinned (OpenSpec.upto policyWipedSpec)

/-- 'cardexlaw03.CrcTells', WHERE WHAT IT READS IS OF BULK AT MOST 1048576: true; the input reads as it did. -/
def crcTellsUptoRow : OpenClaim := { program := "ytpanefmemabckaa", sum := "817886380932620d26f51bfb1868f3b5ef8478653516724f8f0666607bbd2c21", func := "cardex/cardexlaw03.CrcTells", spec := "crcTells", apart := false, narrowed := true }
def CrcTellsUptoSaid : Prop := crcTellsUptoRow.holds Try.pinned (OpenSpec.upto crcTellsSpec)

/-- 'cardexlaw03.CrcJoins', WHERE WHAT IT READS IS OF BULK AT MOST 1048576: true; the input reads as it did. -/
def crcJoinsUptoRow : OpenClaim := { program := "ytpanefmemabckaa", sum := "817886380932620d26f51bfb1868f3b5ef8478653516724f8f0666607bbd2c21", func := "cardex/cardexlaw03.CrcJoins", spec := "crcJoins", apart := false, narrowed := true }
def CrcJoinsUptoSaid : Prop := crcJoinsUptoRow.holds Try.pinned (OpenSpec.upto crcJoinsSpec)

/-- 'cardexlaw22.GenReads', WHERE WHAT IT READS IS OF BULK AT MOST 1048576: true; the input reads as it did. -/
def genReadsUptoRow : OpenClaim := { program := "ytpanefmemabckaa", sum := "817886380932620d26f51bfb1868f3b5ef8478653516724f8f0666607bbd2c21", func := "cardex/cardexlaw22.GenReads", spec := "genReads", apart := false, narrowed := true }
def GenReadsUptoSaid : Prop := genReadsUptoRow.holds Try.pinned (OpenSpec.upto genReadsSpec)

/-- 'cardexlaw03.CrcOn', WHERE WHAT IT READS IS OF BULK AT MOST 1048576: true; the input reads as it did. -/
def crcOnUptoRow : OpenClaim := { program := "ytpanefmemabckaa", sum := "817886380932620d26f51bfb1868f3b5ef8478653516724f8f0666607bbd2c21", func := "cardex/cardexlaw03.CrcOn", spec := "crcOn", apart := false, narrowed := true }
def CrcOnUptoSaid : Prop := crcOnUptoRow.holds Try.pinned (OpenSpec.upto crcOnSpec)

/-- 'cardexlaw22.GenBack', WHERE WHAT IT READS IS OF BULK AT MOST 1048576: true; the input reads as it did. -/
def genBackUptoRow : OpenClaim := { program := "ytpanefmemabckaa", sum := "817886380932620d26f51bfb1868f3b5ef8478653516724f8f0666607bbd2c21", func := "cardex/cardexlaw22.GenBack", spec := "genBack", apart := false, narrowed := true }
def GenBackUptoSaid : Prop := genBackUptoRow.holds Try.pinned (OpenSpec.upto genBackSpec)

/-- 'cardexlaw03.CrcSide', WHERE WHAT IT READS IS OF BULK AT MOST 1048576: true; the input reads as it did. -/
def crcSideUptoRow : OpenClaim := { program := "ytpanefmemabckaa", sum := "817886380932620d26f51bfb1868f3b5ef8478653516724f8f0666607bbd2c21", func := "cardex/cardexlaw03.CrcSide", spec := "crcSide", apart := false, narrowed := true }
def CrcSideUptoSaid : Prop := crcSideUptoRow.holds Try.pinned (OpenSpec.upto crcSideSpec)

/-- 'cardexlaw01.NumNumbers', WHERE WHAT IT READS IS OF BULK AT MOST 1048576: true; the input reads as it did. -/
def numNumbersUptoRow : OpenClaim := { program := "ytpanefmemabckaa", sum := "817886380932620d26f51bfb1868f3b5ef8478653516724f8f0666607bbd2c21", func := "cardex/cardexlaw01.NumNumbers", spec := "numNumbers", apart := false, narrowed := true }
def NumNumbersUptoSaid : Prop := numNumbersUptoRow.holds Try.pinned (OpenSpec.upto numNumbersSpec)

/-- 'cardexlaw01.NumMarks', WHERE WHAT IT READS IS OF BULK AT MOST 1048576: true; the input reads as it did. -/
def numMarksUptoRow : OpenClaim := { program := "ytpanefmemabckaa", sum := "817886380932620d26f51bfb1868f3b5ef8478653516724f8f0666607bbd2c21", func := "cardex/cardexlaw01.NumMarks", spec := "numMarks", apart := false, narrowed := true }
def NumMarksUptoSaid : Prop := numMarksUptoRow.holds Try.pinned (OpenSpec.upto numMarksSpec)

/-- 'cardexlaw01.NumOne', WHERE WHAT IT READS IS OF BULK AT MOST 1048576: true; the input reads as it did. -/
def numOneUptoRow : OpenClaim := { program := "ytpanefmemabckaa", sum := "817886380932620d26f51bfb1868f3b5ef8478653516724f8f0666607bbd2c21", func := "cardex/cardexlaw01.NumOne", spec := "numOne", apart := false, narrowed := true }
def NumOneUptoSaid : Prop := numOneUptoRow.holds Try.pinned (OpenSpec.upto numOneSpec)

/-- 'cardexlaw01.NumRows', WHERE WHAT IT READS IS OF BULK AT MOST 1048576: true; the input reads as it did. -/
def numRowsUptoRow : OpenClaim := { program := "ytpanefmemabckaa", sum := "817886380932620d26f51bfb1868f3b5ef8478653516724f8f0666607bbd2c21", func := "cardex/cardexlaw01.NumRows", spec := "numRows", apart := false, narrowed := true }
def NumRowsUptoSaid : Prop := numRowsUptoRow.holds Try.pinned (OpenSpec.upto numRowsSpec)

end Rows
end Go.Proofs.Ytpanefmemabckaa
