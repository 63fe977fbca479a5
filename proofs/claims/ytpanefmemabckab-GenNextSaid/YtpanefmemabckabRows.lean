/-
  No cell of these rows narrows 'for every input' (looked for: loops, veiled, ifaces, maps, wideKeys, modest, calm, conditions, laid).
  DERIVED. THE GIVEN ROWS OF THIS SEAT. 7 by the template 'for every input the law returns true; each argument reads behind the call as it read before'; 0 by the template 'total and deterministic' (their statements: YtpanefmemabckabTotals.lean).
  GIVEN WITH THE SEED: the statements are not yours to turn. If you find one false, say at which input.
  Laid BY PROGRAM, IN A SANDBOX (cutbox-rows.mjs): the forced cells as the released guide's own fill.sh prints them over the translation 00f09a5254042aba… (all of the seat's roots in one cut). By AI agents, Wed Nov 11 2026. No macro, syntax, notation, axiom, sorry.
-/
import Derived.Test.YtpanefmemabckabChecked
import GoSem.Claim
import GoSem.ClaimJoined
import GoSem.ClaimMapViews
import Derived.JoinedTies
import Derived.KernelRfl
namespace Go.Proofs.Ytpanefmemabckab
/- THE CELL 'sum', in the pinned program and in every row, IS THE sha256 OF THE DUMP (.gsa) THAT YtpanefmemabckabProg.lean LOADS. Nothing in Lean hashes anything: it is a label: what it is worth is what the hold of that sum in a sandbox is worth. -/
noncomputable def Try.pinned : Pinned := { name := "ytpanefmemabckab", sum := "00f09a5254042abaf5b123f8206a9be04e61192606a0e2a1e217c446ef27d725", checked := Try.checked }
namespace Rows
def none {H : Type} : Left H := { results := [], args := [] }

/-- 'cardexlaw01.NumBack': WHATEVER THE INPUT: true; the input reads as it did. -/
def numBackSpec : ChangeSpec := { name := "numBack", fn := fun _ => fun
  | [d1, d2, d3, d4, d5, d6] => { results := [.lit (.bool true)], args := [d1, d2, d3, d4, d5, d6] }
  | _ => none }
def numBackRow : OpenClaim := { program := "ytpanefmemabckab", sum := "00f09a5254042abaf5b123f8206a9be04e61192606a0e2a1e217c446ef27d725", func := "cardex/cardexlaw01.NumBack", spec := "numBack", apart := false }
def NumBackSaid : Prop := numBackRow.holds Try.pinned (OpenSpec.ofChange numBackSpec)

/-- ITS FALSE NEIGHBOUR: 'it returns false'. Refute it at one input. -/
def numBackWrong : ChangeSpec := { name := "numBack", fn := fun _ => fun
  | [d1, d2, d3, d4, d5, d6] => { results := [.lit (.bool false)], args := [d1, d2, d3, d4, d5, d6] }
  | _ => none }
def NumBackWrongFalsely : Prop := numBackRow.holds Try.pinned (OpenSpec.ofChange numBackWrong)

/-- 'cardexlaw23.PolicyReads': WHATEVER THE INPUT: true; the input reads as it did. -/
def policyReadsSpec : ChangeSpec := { name := "policyReads", fn := fun _ => fun
  | [d1, d2] => { results := [.lit (.bool true)], args := [d1, d2] }
  | _ => none }
def policyReadsRow : OpenClaim := { program := "ytpanefmemabckab", sum := "00f09a5254042abaf5b123f8206a9be04e61192606a0e2a1e217c446ef27d725", func := "cardex/cardexlaw23.PolicyReads", spec := "policyReads", apart := false }
def PolicyReadsSaid : Prop := policyReadsRow.holds Try.pinned (OpenSpec.ofChange policyReadsSpec)

/-- ITS FALSE NEIGHBOUR: 'it returns false'. Refute it at one input. -/
def policyReadsWrong : ChangeSpec := { name := "policyReads", fn := fun _ => fun
  | [d1, d2] => { results := [.lit (.bool false)], args := [d1, d2] }
  | _ => none }
def PolicyReadsWrongFalsely : Prop := policyReadsRow.holds Try.pinned (OpenSpec.ofChange policyReadsWrong)

/-- 'cardexlaw23.PolicyOne': WHATEVER THE INPUT: true; the input reads as it did. -/
def policyOneSpec : ChangeSpec := { name := "policyOne", fn := fun _ => fun
  | [d] => { results := [.lit (.bool true)], args := [d] }
  | _ => none }
def policyOneRow : OpenClaim := { program := "ytpanefmemabckab", sum := "00f09a5254042abaf5b123f8206a9be04e61192606a0e2a1e217c446ef27d725", func := "cardex/cardexlaw23.PolicyOne", spec := "policyOne", apart := false }
def PolicyOneSaid : Prop := policyOneRow.holds Try.pinned (OpenSpec.ofChange policyOneSpec)

/-- ITS FALSE NEIGHBOUR: 'it returns false'. Refute it at one input. -/
def policyOneWrong : ChangeSpec := { name := "policyOne", fn := fun _ => fun
  | [d] => { results := [.lit (.bool false)], args := [d] }
  | _ => none }
def PolicyOneWrongFalsely : Prop := policyOneRow.holds Try.pinned (OpenSpec.ofChange policyOneWrong)

/-- 'cardexlaw22.GenNext': WHATEVER THE INPUT: true; the input reads as it did. -/
def genNextSpec : ChangeSpec := { name := "genNext", fn := fun _ => fun
  | [d1, d2, d3, d4, d5, d6, d7] => { results := [.lit (.bool true)], args := [d1, d2, d3, d4, d5, d6, d7] }
  | _ => none }
def genNextRow : OpenClaim := { program := "ytpanefmemabckab", sum := "00f09a5254042abaf5b123f8206a9be04e61192606a0e2a1e217c446ef27d725", func := "cardex/cardexlaw22.GenNext", spec := "genNext", apart := false }
def GenNextSaid : Prop := genNextRow.holds Try.pinned (OpenSpec.ofChange genNextSpec)

/-- ITS FALSE NEIGHBOUR: 'it returns false'. Refute it at one input. -/
def genNextWrong : ChangeSpec := { name := "genNext", fn := fun _ => fun
  | [d1, d2, d3, d4, d5, d6, d7] => { results := [.lit (.bool false)], args := [d1, d2, d3, d4, d5, d6, d7] }
  | _ => none }
def GenNextWrongFalsely : Prop := genNextRow.holds Try.pinned (OpenSpec.ofChange genNextWrong)

/-- 'cardexlaw22.GenAgain': WHATEVER THE INPUT: true; the input reads as it did. -/
def genAgainSpec : ChangeSpec := { name := "genAgain", fn := fun _ => fun
  | [d1, d2, d3, d4, d5, d6, d7] => { results := [.lit (.bool true)], args := [d1, d2, d3, d4, d5, d6, d7] }
  | _ => none }
def genAgainRow : OpenClaim := { program := "ytpanefmemabckab", sum := "00f09a5254042abaf5b123f8206a9be04e61192606a0e2a1e217c446ef27d725", func := "cardex/cardexlaw22.GenAgain", spec := "genAgain", apart := false }
def GenAgainSaid : Prop := genAgainRow.holds Try.pinned (OpenSpec.ofChange genAgainSpec)

/-- ITS FALSE NEIGHBOUR: 'it returns false'. Refute it at one input. -/
def genAgainWrong : ChangeSpec := { name := "genAgain", fn := fun _ => fun
  | [d1, d2, d3, d4, d5, d6, d7] => { results := [.lit (.bool false)], args := [d1, d2, d3, d4, d5, d6, d7] }
  | _ => none }
def GenAgainWrongFalsely : Prop := genAgainRow.holds Try.pinned (OpenSpec.ofChange genAgainWrong)

/-- 'cardexlaw22.GenSames': WHATEVER THE INPUT: true; the input reads as it did. -/
def genSamesSpec : ChangeSpec := { name := "genSames", fn := fun _ => fun
  | [d1, d2, d3] => { results := [.lit (.bool true)], args := [d1, d2, d3] }
  | _ => none }
def genSamesRow : OpenClaim := { program := "ytpanefmemabckab", sum := "00f09a5254042abaf5b123f8206a9be04e61192606a0e2a1e217c446ef27d725", func := "cardex/cardexlaw22.GenSames", spec := "genSames", apart := false }
def GenSamesSaid : Prop := genSamesRow.holds Try.pinned (OpenSpec.ofChange genSamesSpec)

/-- ITS FALSE NEIGHBOUR: 'it returns false'. Refute it at one input. -/
def genSamesWrong : ChangeSpec := { name := "genSames", fn := fun _ => fun
  | [d1, d2, d3] => { results := [.lit (.bool false)], args := [d1, d2, d3] }
  | _ => none }
def GenSamesWrongFalsely : Prop := genSamesRow.holds Try.pinned (OpenSpec.ofChange genSamesWrong)

/-- 'cardexlaw22.GenKeys': WHATEVER THE INPUT: true; the input reads as it did. -/
def genKeysSpec : ChangeSpec := { name := "genKeys", fn := fun _ => fun
  | [d1, d2, d3, d4, d5] => { results := [.lit (.bool true)], args := [d1, d2, d3, d4, d5] }
  | _ => none }
def genKeysRow : OpenClaim := { program := "ytpanefmemabckab", sum := "00f09a5254042abaf5b123f8206a9be04e61192606a0e2a1e217c446ef27d725", func := "cardex/cardexlaw22.GenKeys", spec := "genKeys", unfollowed := true, recurses := true, apart := false }
def GenKeysSaid : Prop := genKeysRow.holds Try.pinned (OpenSpec.ofChange genKeysSpec)

/-- ITS FALSE NEIGHBOUR: 'it returns false'. Refute it at one input. -/
def genKeysWrong : ChangeSpec := { name := "genKeys", fn := fun _ => fun
  | [d1, d2, d3, d4, d5] => { results := [.lit (.bool false)], args := [d1, d2, d3, d4, d5] }
  | _ => none }
def GenKeysWrongFalsely : Prop := genKeysRow.holds Try.pinned (OpenSpec.ofChange genKeysWrong)

/- THE SECOND FORM. 'bulk': how many values and letters a reading holds, each counted each time it is reached (what is shared counts as often as it is met; a slice's spare places count too). A statement '..UptoSaid' is the law's where the arguments, and the package variables that the reading takes, are together of bulk at most 1048576: NARROWER than '..Said'. Prove '..Said' where nothing that the law and all that it calls make is longer than what came in: it says more and counts as full. Else prove '..UptoSaid'. A law counts once. -/
mutual
def uptoBulk {H : Type} : DataW H → Nat
  | .lit (.string bytes) => bytes.length + 1
  | .lit _ => 1
  | .nil => 1
  | .ptr d => uptoBulk d + 1
  | .slice elems spare => uptoBulkAll elems + uptoBulkAll spare + 1
  | .agg parts => uptoBulkAll parts + 1
  | .iface _ d => uptoBulk d + 1
  | .map entries => uptoBulkEntries entries + 1
  | .held _ => 1
def uptoBulkAll {H : Type} : List (DataW H) → Nat
  | [] => 0
  | d :: r => uptoBulk d + uptoBulkAll r
def uptoBulkEntries {H : Type} : List (Lit × DataW H) → Nat
  | [] => 0
  | x :: r => uptoBulkEntry x + uptoBulkEntries r
def uptoBulkEntry {H : Type} : Lit × DataW H → Nat
  | (.string bytes, d) => bytes.length + uptoBulk d + 1
  | (_, d) => uptoBulk d + 1
 end
def uptoSmall : (H : Type) → List (DataW H) → Bool := fun _ ds => decide (uptoBulkAll ds ≤ 1048576)
def OpenSpec.upto (s : _root_.Go.ChangeSpec) : _root_.Go.OpenSpec := { _root_.Go.OpenSpec.ofChange s with cond := some uptoSmall }

/-- 'cardexlaw01.NumBack', WHERE WHAT IT READS IS OF BULK AT MOST 1048576: true; the input reads as it did. -/
def numBackUptoRow : OpenClaim := { program := "ytpanefmemabckab", sum := "00f09a5254042abaf5b123f8206a9be04e61192606a0e2a1e217c446ef27d725", func := "cardex/cardexlaw01.NumBack", spec := "numBack", apart := false, narrowed := true }
def NumBackUptoSaid : Prop := numBackUptoRow.holds Try.pinned (OpenSpec.upto numBackSpec)

/-- 'cardexlaw23.PolicyReads', WHERE WHAT IT READS IS OF BULK AT MOST 1048576: true; the input reads as it did. -/
def policyReadsUptoRow : OpenClaim := { program := "ytpanefmemabckab", sum := "00f09a5254042abaf5b123f8206a9be04e61192606a0e2a1e217c446ef27d725", func := "cardex/cardexlaw23.PolicyReads", spec := "policyReads", apart := false, narrowed := true }
def PolicyReadsUptoSaid : Prop := policyReadsUptoRow.holds Try.pinned (OpenSpec.upto policyReadsSpec)

/-- 'cardexlaw23.PolicyOne', WHERE WHAT IT READS IS OF BULK AT MOST 1048576: true; the input reads as it did. -/
def policyOneUptoRow : OpenClaim := { program := "ytpanefmemabckab", sum := "00f09a5254042abaf5b123f8206a9be04e61192606a0e2a1e217c446ef27d725", func := "cardex/cardexlaw23.PolicyOne", spec := "policyOne", apart := false, narrowed := true }
def PolicyOneUptoSaid : Prop := policyOneUptoRow.holds Try.pinned (OpenSpec.upto policyOneSpec)

/-- 'cardexlaw22.GenNext', WHERE WHAT IT READS IS OF BULK AT MOST 1048576: true; the input reads as it did. -/
def genNextUptoRow : OpenClaim := { program := "ytpanefmemabckab", sum := "00f09a5254042abaf5b123f8206a9be04e61192606a0e2a1e217c446ef27d725", func := "cardex/cardexlaw22.GenNext", spec := "genNext", apart := false, narrowed := true }
def GenNextUptoSaid : Prop := genNextUptoRow.holds Try.pinned (OpenSpec.upto genNextSpec)

/-- 'cardexlaw22.GenAgain', WHERE WHAT IT READS IS OF BULK AT MOST 1048576: true; the input reads as it did. -/
def genAgainUptoRow : OpenClaim := { program := "ytpanefmemabckab", sum := "00f09a5254042abaf5b123f8206a9be04e61192606a0e2a1e217c446ef27d725", func := "cardex/cardexlaw22.GenAgain", spec := "genAgain", apart := false, narrowed := true }
def GenAgainUptoSaid : Prop := genAgainUptoRow.holds Try.pinned (OpenSpec.upto genAgainSpec)

/-- 'cardexlaw22.GenSames', WHERE WHAT IT READS IS OF BULK AT MOST 1048576: true; the input reads as it did. -/
def genSamesUptoRow : OpenClaim := { program := "ytpanefmemabckab", sum := "00f09a5254042abaf5b123f8206a9be04e61192606a0e2a1e217c446ef27d725", func := "cardex/cardexlaw22.GenSames", spec := "genSames", apart := false, narrowed := true }
def GenSamesUptoSaid : Prop := genSamesUptoRow.holds Try.pinned (OpenSpec.upto genSamesSpec)

/-- 'cardexlaw22.GenKeys', WHERE WHAT IT READS IS OF BULK AT MOST 1048576: true; the input reads as it did. -/
def genKeysUptoRow : OpenClaim := { program := "ytpanefmemabckab", sum := "00f09a5254042abaf5b123f8206a9be04e61192606a0e2a1e217c446ef27d725", func := "cardex/cardexlaw22.GenKeys", spec := "genKeys", unfollowed := true, recurses := true, apart := false, narrowed := true }
def GenKeysUptoSaid : Prop := genKeysUptoRow.holds Try.pinned (OpenSpec.upto genKeysSpec)

end Rows
end Go.Proofs.Ytpanefmemabckab
