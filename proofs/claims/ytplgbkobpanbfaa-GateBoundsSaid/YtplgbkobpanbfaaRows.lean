/-
  No cell of these rows narrows 'for every input' (looked for: loops, veiled, ifaces, maps, wideKeys, modest, calm, conditions, laid).
  DERIVED. THE GIVEN ROWS OF THIS SEAT. 6 by the template 'for every input the law returns true; each argument reads behind the call as it read before'; 0 by the template 'total and deterministic' (their statements: YtplgbkobpanbfaaTotals.lean).
  GIVEN WITH THE SEED: the statements are not yours to turn. If you find one false, say at which input.
  Laid BY PROGRAM, IN A SANDBOX (cutbox-rows.mjs): the forced cells as the released guide's own fill.sh prints them over the translation 60d4e10046737e11… (all of the seat's roots in one cut). By AI agents, Wed Nov 11 2026. No macro, syntax, notation, axiom, sorry.
-/
import Derived.Test.YtplgbkobpanbfaaChecked
import GoSem.Claim
import GoSem.ClaimJoined
import GoSem.ClaimMapViews
import Derived.JoinedTies
import Derived.KernelRfl
namespace Go.Proofs.Ytplgbkobpanbfaa
/- THE CELL 'sum', in the pinned program and in every row, IS THE sha256 OF THE DUMP (.gsa) THAT YtplgbkobpanbfaaProg.lean LOADS. Nothing in Lean hashes anything: it is a label: what it is worth is what the hold of that sum in a sandbox is worth. -/
noncomputable def Try.pinned : Pinned := { name := "ytplgbkobpanbfaa", sum := "60d4e10046737e112fc8d6d66f6cbac037b31547cc7e84f37f55833f832cf725", checked := Try.checked }
namespace Rows
def none {H : Type} : Left H := { results := [], args := [] }

/-- 'tenementlaw19.GateTells': WHATEVER THE INPUT: true; the input reads as it did. -/
def gateTellsSpec : ChangeSpec := { name := "gateTells", fn := fun _ => fun
  | [d1, d2, d3, d4, d5] => { results := [.lit (.bool true)], args := [d1, d2, d3, d4, d5] }
  | _ => none }
def gateTellsRow : OpenClaim := { program := "ytplgbkobpanbfaa", sum := "60d4e10046737e112fc8d6d66f6cbac037b31547cc7e84f37f55833f832cf725", func := "tenement/tenementlaw19.GateTells", spec := "gateTells", unfollowed := true, recurses := true, apart := false }
def GateTellsSaid : Prop := gateTellsRow.holds Try.pinned (OpenSpec.ofChange gateTellsSpec)

/-- ITS FALSE NEIGHBOUR: 'it returns false'. Refute it at one input. -/
def gateTellsWrong : ChangeSpec := { name := "gateTells", fn := fun _ => fun
  | [d1, d2, d3, d4, d5] => { results := [.lit (.bool false)], args := [d1, d2, d3, d4, d5] }
  | _ => none }
def GateTellsWrongFalsely : Prop := gateTellsRow.holds Try.pinned (OpenSpec.ofChange gateTellsWrong)

/-- 'tenementlaw19.GateReads': WHATEVER THE INPUT: true; the input reads as it did. -/
def gateReadsSpec : ChangeSpec := { name := "gateReads", fn := fun _ => fun
  | [d1, d2, d3, d4, d5, d6, d7] => { results := [.lit (.bool true)], args := [d1, d2, d3, d4, d5, d6, d7] }
  | _ => none }
def gateReadsRow : OpenClaim := { program := "ytplgbkobpanbfaa", sum := "60d4e10046737e112fc8d6d66f6cbac037b31547cc7e84f37f55833f832cf725", func := "tenement/tenementlaw19.GateReads", spec := "gateReads", unfollowed := true, recurses := true, apart := false }
def GateReadsSaid : Prop := gateReadsRow.holds Try.pinned (OpenSpec.ofChange gateReadsSpec)

/-- ITS FALSE NEIGHBOUR: 'it returns false'. Refute it at one input. -/
def gateReadsWrong : ChangeSpec := { name := "gateReads", fn := fun _ => fun
  | [d1, d2, d3, d4, d5, d6, d7] => { results := [.lit (.bool false)], args := [d1, d2, d3, d4, d5, d6, d7] }
  | _ => none }
def GateReadsWrongFalsely : Prop := gateReadsRow.holds Try.pinned (OpenSpec.ofChange gateReadsWrong)

/-- 'tenementlaw19.GateBack': WHATEVER THE INPUT: true; the input reads as it did. -/
def gateBackSpec : ChangeSpec := { name := "gateBack", fn := fun _ => fun
  | [d1, d2, d3] => { results := [.lit (.bool true)], args := [d1, d2, d3] }
  | _ => none }
def gateBackRow : OpenClaim := { program := "ytplgbkobpanbfaa", sum := "60d4e10046737e112fc8d6d66f6cbac037b31547cc7e84f37f55833f832cf725", func := "tenement/tenementlaw19.GateBack", spec := "gateBack", unfollowed := true, recurses := true, apart := false }
def GateBackSaid : Prop := gateBackRow.holds Try.pinned (OpenSpec.ofChange gateBackSpec)

/-- ITS FALSE NEIGHBOUR: 'it returns false'. Refute it at one input. -/
def gateBackWrong : ChangeSpec := { name := "gateBack", fn := fun _ => fun
  | [d1, d2, d3] => { results := [.lit (.bool false)], args := [d1, d2, d3] }
  | _ => none }
def GateBackWrongFalsely : Prop := gateBackRow.holds Try.pinned (OpenSpec.ofChange gateBackWrong)

/-- 'tenementlaw19.GateAnswers': WHATEVER THE INPUT: true; the input reads as it did. -/
def gateAnswersSpec : ChangeSpec := { name := "gateAnswers", fn := fun _ => fun
  | [d1, d2, d3, d4, d5] => { results := [.lit (.bool true)], args := [d1, d2, d3, d4, d5] }
  | _ => none }
def gateAnswersRow : OpenClaim := { program := "ytplgbkobpanbfaa", sum := "60d4e10046737e112fc8d6d66f6cbac037b31547cc7e84f37f55833f832cf725", func := "tenement/tenementlaw19.GateAnswers", spec := "gateAnswers", unfollowed := true, recurses := true, apart := false }
def GateAnswersSaid : Prop := gateAnswersRow.holds Try.pinned (OpenSpec.ofChange gateAnswersSpec)

/-- ITS FALSE NEIGHBOUR: 'it returns false'. Refute it at one input. -/
def gateAnswersWrong : ChangeSpec := { name := "gateAnswers", fn := fun _ => fun
  | [d1, d2, d3, d4, d5] => { results := [.lit (.bool false)], args := [d1, d2, d3, d4, d5] }
  | _ => none }
def GateAnswersWrongFalsely : Prop := gateAnswersRow.holds Try.pinned (OpenSpec.ofChange gateAnswersWrong)

/-- 'tenementlaw19.GateBounds': WHATEVER THE INPUT: true; the input reads as it did. -/
def gateBoundsSpec : ChangeSpec := { name := "gateBounds", fn := fun _ => fun
  | [d1, d2, d3, d4, d5, d6] => { results := [.lit (.bool true)], args := [d1, d2, d3, d4, d5, d6] }
  | _ => none }
def gateBoundsRow : OpenClaim := { program := "ytplgbkobpanbfaa", sum := "60d4e10046737e112fc8d6d66f6cbac037b31547cc7e84f37f55833f832cf725", func := "tenement/tenementlaw19.GateBounds", spec := "gateBounds", unfollowed := true, recurses := true, apart := false }
def GateBoundsSaid : Prop := gateBoundsRow.holds Try.pinned (OpenSpec.ofChange gateBoundsSpec)

/-- ITS FALSE NEIGHBOUR: 'it returns false'. Refute it at one input. -/
def gateBoundsWrong : ChangeSpec := { name := "gateBounds", fn := fun _ => fun
  | [d1, d2, d3, d4, d5, d6] => { results := [.lit (.bool false)], args := [d1, d2, d3, d4, d5, d6] }
  | _ => none }
def GateBoundsWrongFalsely : Prop := gateBoundsRow.holds Try.pinned (OpenSpec.ofChange gateBoundsWrong)

/-- 'tenementlaw19.GateCodes': WHATEVER THE INPUT: true; the input reads as it did. -/
def gateCodesSpec : ChangeSpec := { name := "gateCodes", fn := fun _ => fun
  | [d1, d2] => { results := [.lit (.bool true)], args := [d1, d2] }
  | _ => none }
def gateCodesRow : OpenClaim := { program := "ytplgbkobpanbfaa", sum := "60d4e10046737e112fc8d6d66f6cbac037b31547cc7e84f37f55833f832cf725", func := "tenement/tenementlaw19.GateCodes", spec := "gateCodes", unfollowed := true, recurses := true, apart := false }
def GateCodesSaid : Prop := gateCodesRow.holds Try.pinned (OpenSpec.ofChange gateCodesSpec)

/-- ITS FALSE NEIGHBOUR: 'it returns false'. Refute it at one input. -/
def gateCodesWrong : ChangeSpec := { name := "gateCodes", fn := fun _ => fun
  | [d1, d2] => { results := [.lit (.bool false)], args := [d1, d2] }
  | _ => none }
def GateCodesWrongFalsely : Prop := gateCodesRow.holds Try.pinned (OpenSpec.ofChange gateCodesWrong)

/- THE SECOND FORM. 'bulk': how many values and letters a reading holds, each counted each time it is reached (what is shared counts as often as it is met; a slice's spare places count too). A statement '..UptoSaid' is the law's where the arguments, and the package variables that the reading takes, are together of bulk at most 1048576: NARROWER than '..Said'. Prove '..Said' where nothing that the law and all that it calls make is longer than what came in: it says more and counts as full. Else prove '..UptoSaid'. A law counts once. -/
mutual
def uptoBulk {H : Type} : DataW H → Nat
  | .lit (.string bytes) => bytes.length + 1
  | .lit _ => 1
  | .nil => 1
  | .ptr d => uptoBulk d + 1
  | .slice elems spare => uptoBulkAll elems + uptoBulkAll spare + 1
  | .agg parts => uptoBulkAll parts + 1
  | .iface _ d => uptoBulk d + 1
  | .map entries => uptoBulkEntries entries + 1
  | .held _ => 1
def uptoBulkAll {H : Type} : List (DataW H) → Nat
  | [] => 0
  | d :: r => uptoBulk d + uptoBulkAll r
def uptoBulkEntries {H : Type} : List (Lit × DataW H) → Nat
  | [] => 0
  | x :: r => uptoBulkEntry x + uptoBulkEntries r
def uptoBulkEntry {H : Type} : Lit × DataW H → Nat
  | (.string bytes, d) => bytes.length + uptoBulk d + 1
  | (_, d) => uptoBulk d + 1
 end
def uptoSmall : (H : Type) → List (DataW H) → Bool := fun _ ds => decide (uptoBulkAll ds ≤ 1048576)
def OpenSpec.upto (s : _root_.Go.ChangeSpec) : _root_.Go.OpenSpec := { _root_.Go.OpenSpec.ofChange s with cond := some uptoSmall }

/-- 'tenementlaw19.GateTells', WHERE WHAT IT READS IS OF BULK AT MOST 1048576: true; the input reads as it did. -/
def gateTellsUptoRow : OpenClaim := { program := "ytplgbkobpanbfaa", sum := "60d4e10046737e112fc8d6d66f6cbac037b31547cc7e84f37f55833f832cf725", func := "tenement/tenementlaw19.GateTells", spec := "gateTells", unfollowed := true, recurses := true, apart := false, narrowed := true }
def GateTellsUptoSaid : Prop := gateTellsUptoRow.holds Try.pinned (OpenSpec.upto gateTellsSpec)

/-- 'tenementlaw19.GateReads', WHERE WHAT IT READS IS OF BULK AT MOST 1048576: true; the input reads as it did. -/
def gateReadsUptoRow : OpenClaim := { program := "ytplgbkobpanbfaa", sum := "60d4e10046737e112fc8d6d66f6cbac037b31547cc7e84f37f55833f832cf725", func := "tenement/tenementlaw19.GateReads", spec := "gateReads", unfollowed := true, recurses := true, apart := false, narrowed := true }
def GateReadsUptoSaid : Prop := gateReadsUptoRow.holds Try.pinned (OpenSpec.upto gateReadsSpec)

/-- 'tenementlaw19.GateBack', WHERE WHAT IT READS IS OF BULK AT MOST 1048576: true; the input reads as it did. -/
def gateBackUptoRow : OpenClaim := { program := "ytplgbkobpanbfaa", sum := "60d4e10046737e112fc8d6d66f6cbac037b31547cc7e84f37f55833f832cf725", func := "tenement/tenementlaw19.GateBack", spec := "gateBack", unfollowed := true, recurses := true, apart := false, narrowed := true }
def GateBackUptoSaid : Prop := gateBackUptoRow.holds Try.pinned (OpenSpec.upto gateBackSpec)

/-- 'tenementlaw19.GateAnswers', WHERE WHAT IT READS IS OF BULK AT MOST 1048576: true; the input reads as it did. -/
def gateAnswersUptoRow : OpenClaim := { program := "ytplgbkobpanbfaa", sum := "60d4e10046737e112fc8d6d66f6cbac037b31547cc7e84f37f55833f832cf725", func := "tenement/tenementlaw19.GateAnswers", spec := "gateAnswers", unfollowed := true, recurses := true, apart := false, narrowed := true }
def GateAnswersUptoSaid : Prop := gateAnswersUptoRow.holds Try.pinned (OpenSpec.upto gateAnswersSpec)

/-- 'tenementlaw19.GateBounds', WHERE WHAT IT READS IS OF BULK AT MOST 1048576: true; the input reads as it did. -/
def gateBoundsUptoRow : OpenClaim := { program := "ytplgbkobpanbfaa", sum := "60d4e10046737e112fc8d6d66f6cbac037b31547cc7e84f37f55833f832cf725", func := "tenement/tenementlaw19.GateBounds", spec := "gateBounds", unfollowed := true, recurses := true, apart := false, narrowed := true }
def GateBoundsUptoSaid : Prop := gateBoundsUptoRow.holds Try.pinned (OpenSpec.upto gateBoundsSpec)

/-- 'tenementlaw19.GateCodes', WHERE WHAT IT READS IS OF BULK AT MOST 1048576: true; the input reads as it did. -/
def gateCodesUptoRow : OpenClaim := { program := "ytplgbkobpanbfaa", sum := "60d4e10046737e112fc8d6d66f6cbac037b31547cc7e84f37f55833f832cf725", func := "tenement/tenementlaw19.GateCodes", spec := "gateCodes", unfollowed := true, recurses := true, apart := false, narrowed := true }
def GateCodesUptoSaid : Prop := gateCodesUptoRow.holds Try.pinned (OpenSpec.upto gateCodesSpec)

end Rows
end Go.Proofs.Ytplgbkobpanbfaa
