/-
  No cell of these rows narrows 'for every input' (looked for: loops, veiled, ifaces, maps, wideKeys, modest, calm, conditions, laid).
  DERIVED. THE GIVEN ROWS OF THIS SEAT. 3 by the template 'for every input the law returns true; each argument reads behind the call as it read before'; 0 by the template 'total and deterministic' (their statements: YtphnmaobpefoiaaTotals.lean).
  GIVEN WITH THE SEED: the statements are not yours to turn. If you find one false, say at which input.
  Laid BY PROGRAM, IN A SANDBOX (cutbox-rows.mjs): the forced cells as the released guide's own fill.sh prints them over the translation 171e5d7063d95864… (all of the seat's roots in one cut). By AI agents, Wed Nov 11 2026. No macro, syntax, notation, axiom, sorry.
-/
import Derived.Test.YtphnmaobpefoiaaChecked
import GoSem.Claim
import GoSem.ClaimJoined
import GoSem.ClaimMapViews
import Derived.JoinedTies
import Derived.KernelRfl
namespace Go.Proofs.Ytphnmaobpefoiaa
/- THE CELL 'sum', in the pinned program and in every row, IS THE sha256 OF THE DUMP (.gsa) THAT YtphnmaobpefoiaaProg.lean LOADS. Nothing in Lean hashes anything: it is a label: what it is worth is what the hold of that sum in a sandbox is worth. -/
noncomputable def Try.pinned : Pinned := { name := "ytphnmaobpefoiaa", sum := "171e5d7063d95864deca058f3de830b9d01f61ea81517065d983d85a4849b550", checked := Try.checked }
namespace Rows
def none {H : Type} : Left H := { results := [], args := [] }

/-- 'peristylelaw5.WorkIsShared': WHATEVER THE INPUT: true; the input reads as it did. -/
def workIsSharedSpec : ChangeSpec := { name := "workIsShared", fn := fun _ => fun
  | [d1, d2, d3, d4] => { results := [.lit (.bool true)], args := [d1, d2, d3, d4] }
  | _ => none }
def workIsSharedRow : OpenClaim := { program := "ytphnmaobpefoiaa", sum := "171e5d7063d95864deca058f3de830b9d01f61ea81517065d983d85a4849b550", func := "peristyle/peristylelaw5.WorkIsShared", spec := "workIsShared", unfollowed := true, recurses := true, apart := false }
def WorkIsSharedSaid : Prop := workIsSharedRow.holds Try.pinned (OpenSpec.ofChange workIsSharedSpec)

/-- ITS FALSE NEIGHBOUR: 'it returns false'. Refute it at one input. -/
def workIsSharedWrong : ChangeSpec := { name := "workIsShared", fn := fun _ => fun
  | [d1, d2, d3, d4] => { results := [.lit (.bool false)], args := [d1, d2, d3, d4] }
  | _ => none }
def WorkIsSharedWrongFalsely : Prop := workIsSharedRow.holds Try.pinned (OpenSpec.ofChange workIsSharedWrong)

/-- 'peristylelaw5.VectorsCodedAgree': WHATEVER THE INPUT: true; the input reads as it did. -/
def vectorsCodedAgreeSpec : ChangeSpec := { name := "vectorsCodedAgree", fn := fun _ => fun
  | [d1, d2] => { results := [.lit (.bool true)], args := [d1, d2] }
  | _ => none }
def vectorsCodedAgreeRow : OpenClaim := { program := "ytphnmaobpefoiaa", sum := "171e5d7063d95864deca058f3de830b9d01f61ea81517065d983d85a4849b550", func := "peristyle/peristylelaw5.VectorsCodedAgree", spec := "vectorsCodedAgree", recurses := true, apart := false }
def VectorsCodedAgreeSaid : Prop := vectorsCodedAgreeRow.holds Try.pinned (OpenSpec.ofChange vectorsCodedAgreeSpec)

/-- ITS FALSE NEIGHBOUR: 'it returns false'. Refute it at one input. -/
def vectorsCodedAgreeWrong : ChangeSpec := { name := "vectorsCodedAgree", fn := fun _ => fun
  | [d1, d2] => { results := [.lit (.bool false)], args := [d1, d2] }
  | _ => none }
def VectorsCodedAgreeWrongFalsely : Prop := vectorsCodedAgreeRow.holds Try.pinned (OpenSpec.ofChange vectorsCodedAgreeWrong)

/-- 'peristylelaw5.PartsGoTogether': WHATEVER THE INPUT: true; the input reads as it did. -/
def partsGoTogetherSpec : ChangeSpec := { name := "partsGoTogether", fn := fun _ => fun
  | [d1, d2, d3] => { results := [.lit (.bool true)], args := [d1, d2, d3] }
  | _ => none }
def partsGoTogetherRow : OpenClaim := { program := "ytphnmaobpefoiaa", sum := "171e5d7063d95864deca058f3de830b9d01f61ea81517065d983d85a4849b550", func := "peristyle/peristylelaw5.PartsGoTogether", spec := "partsGoTogether", recurses := true, apart := false }
def PartsGoTogetherSaid : Prop := partsGoTogetherRow.holds Try.pinned (OpenSpec.ofChange partsGoTogetherSpec)

/-- ITS FALSE NEIGHBOUR: 'it returns false'. Refute it at one input. -/
def partsGoTogetherWrong : ChangeSpec := { name := "partsGoTogether", fn := fun _ => fun
  | [d1, d2, d3] => { results := [.lit (.bool false)], args := [d1, d2, d3] }
  | _ => none }
def PartsGoTogetherWrongFalsely : Prop := partsGoTogetherRow.holds Try.pinned (OpenSpec.ofChange partsGoTogetherWrong)

/- THE SECOND FORM. 'bulk': how many values and letters a reading holds, each counted each time it is reached (what is shared counts as often as it is met; a slice's spare places count too). A statement '..UptoSaid' is the law's where the arguments, and the package variables that the reading takes, are together of bulk at most 1048576: NARROWER than '..Said'. Prove '..Said' where nothing that the law and all that it calls make is longer than what came in: it says more and counts as full. Else prove '..UptoSaid'. A law counts once. -/
mutual
def uptoBulk {H : Type} : DataW H → Nat
  | .lit (.string bytes) => bytes.length + 1
  | .lit _ => 1
  | .nil => 1
  | .ptr d => uptoBulk d + 1
  | .slice elems spare => uptoBulkAll elems + uptoBulkAll spare + 1
  | .agg parts => uptoBulkAll parts + 1
  | .iface _ d => uptoBulk d + 1
  | .map entries => uptoBulkEntries entries + 1
  | .held _ => 1
def uptoBulkAll {H : Type} : List (DataW H) → Nat
  | [] => 0
  | d :: r => uptoBulk d + uptoBulkAll r
def uptoBulkEntries {H : Type} : List (Lit × DataW H) → Nat
  | [] => 0
  | x :: r => uptoBulkEntry x + uptoBulkEntries r
def uptoBulkEntry {H : Type} : Lit × DataW H → Nat
  | (.string bytes, d) => bytes.length + uptoBulk d + 1
  | (_, d) => uptoBulk d + 1
 end
def uptoSmall : (H : Type) → List (DataW H) → Bool := fun _ ds => decide (uptoBulkAll ds ≤ 1048576)
def OpenSpec.upto (s : _root_.Go.ChangeSpec) : _root_.Go.OpenSpec := { _root_.Go.OpenSpec.ofChange s with cond := some uptoSmall }

/-- 'peristylelaw5.WorkIsShared', WHERE WHAT IT READS IS OF BULK AT MOST 1048576: true; the input reads as it did. -/
def workIsSharedUptoRow : OpenClaim := { program := "ytphnmaobpefoiaa", sum := "171e5d7063d95864deca058f3de830b9d01f61ea81517065d983d85a4849b550", func := "peristyle/peristylelaw5.WorkIsShared", spec := "workIsShared", unfollowed := true, recurses := true, apart := false, narrowed := true }
def WorkIsSharedUptoSaid : Prop := workIsSharedUptoRow.holds Try.pinned (OpenSpec.upto workIsSharedSpec)

/-- 'peristylelaw5.VectorsCodedAgree', WHERE WHAT IT READS IS OF BULK AT MOST 1048576: true; the input reads as it did. -/
def vectorsCodedAgreeUptoRow : OpenClaim := { program := "ytphnmaobpefoiaa", sum := "171e5d7063d95864deca058f3de830b9d01f61ea81517065d983d85a4849b550", func := "peristyle/peristylelaw5.VectorsCodedAgree", spec := "vectorsCodedAgree", recurses := true, apart := false, narrowed := true }
def VectorsCodedAgreeUptoSaid : Prop := vectorsCodedAgreeUptoRow.holds Try.pinned (OpenSpec.upto vectorsCodedAgreeSpec)

/-- 'peristylelaw5.PartsGoTogether', WHERE WHAT IT READS IS OF BULK AT MOST 1048576: true; the input reads as it did. -/
def partsGoTogetherUptoRow : OpenClaim := { program := "ytphnmaobpefoiaa", sum := "171e5d7063d95864deca058f3de830b9d01f61ea81517065d983d85a4849b550", func := "peristyle/peristylelaw5.PartsGoTogether", spec := "partsGoTogether", recurses := true, apart := false, narrowed := true }
def PartsGoTogetherUptoSaid : Prop := partsGoTogetherUptoRow.holds Try.pinned (OpenSpec.upto partsGoTogetherSpec)

end Rows
end Go.Proofs.Ytphnmaobpefoiaa
