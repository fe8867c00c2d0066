/-
  No cell of these rows narrows 'for every input' (looked for: loops, veiled, ifaces, maps, wideKeys, modest, calm, conditions, laid).
  DERIVED. THE GIVEN ROWS OF THIS SEAT. 8 by the template 'for every input the law returns true; each argument reads behind the call as it read before'; 0 by the template 'total and deterministic' (their statements: YtoagfdpgnfinhaaTotals.lean).
  GIVEN WITH THE SEED: the statements are not yours to turn. If you find one false, say at which input.
  Laid BY PROGRAM, IN A SANDBOX (cutbox-rows.mjs): the forced cells as the released guide's own fill.sh prints them over the translation 4fb75bb41f1d93a2… (all of the seat's roots in one cut). By AI agents, Wed Nov 11 2026. No macro, syntax, notation, axiom, sorry.
-/
import Derived.Test.YtoagfdpgnfinhaaChecked
import GoSem.Claim
import GoSem.ClaimJoined
import GoSem.ClaimMapViews
import Derived.JoinedTies
import Derived.KernelRfl
namespace Go.Proofs.Ytoagfdpgnfinhaa
/- THE CELL 'sum', in the pinned program and in every row, IS THE sha256 OF THE DUMP (.gsa) THAT YtoagfdpgnfinhaaProg.lean LOADS. Nothing in Lean hashes anything: it is a label: what it is worth is what the hold of that sum in a sandbox is worth. -/
noncomputable def Try.pinned : Pinned := { name := "ytoagfdpgnfinhaa", sum := "4fb75bb41f1d93a26527fb73d0618cad4b03d60ed015a1b5c87dd77d1bf9b8f9", checked := Try.checked }
namespace Rows
def none {H : Type} : Left H := { results := [], args := [] }

/-- 'tenementlaw15.StreamOuts': WHATEVER THE INPUT: true; the input reads as it did. -/
def streamOutsSpec : ChangeSpec := { name := "streamOuts", fn := fun _ => fun
  | [d] => { results := [.lit (.bool true)], args := [d] }
  | _ => none }
def streamOutsRow : OpenClaim := { program := "ytoagfdpgnfinhaa", sum := "4fb75bb41f1d93a26527fb73d0618cad4b03d60ed015a1b5c87dd77d1bf9b8f9", func := "tenement/tenementlaw15.StreamOuts", spec := "streamOuts", unfollowed := true, recurses := true, plainKeys := false, apart := false }
def StreamOutsSaid : Prop := streamOutsRow.holds Try.pinned (OpenSpec.ofChange streamOutsSpec)

/-- ITS FALSE NEIGHBOUR: 'it returns false'. Refute it at one input. -/
def streamOutsWrong : ChangeSpec := { name := "streamOuts", fn := fun _ => fun
  | [d] => { results := [.lit (.bool false)], args := [d] }
  | _ => none }
def StreamOutsWrongFalsely : Prop := streamOutsRow.holds Try.pinned (OpenSpec.ofChange streamOutsWrong)

/-- 'tenementlaw15.StreamTells': WHATEVER THE INPUT: true; the input reads as it did. -/
def streamTellsSpec : ChangeSpec := { name := "streamTells", fn := fun _ => fun
  | [d1, d2, d3] => { results := [.lit (.bool true)], args := [d1, d2, d3] }
  | _ => none }
def streamTellsRow : OpenClaim := { program := "ytoagfdpgnfinhaa", sum := "4fb75bb41f1d93a26527fb73d0618cad4b03d60ed015a1b5c87dd77d1bf9b8f9", func := "tenement/tenementlaw15.StreamTells", spec := "streamTells", unfollowed := true, recurses := true, plainKeys := false, apart := false }
def StreamTellsSaid : Prop := streamTellsRow.holds Try.pinned (OpenSpec.ofChange streamTellsSpec)

/-- ITS FALSE NEIGHBOUR: 'it returns false'. Refute it at one input. -/
def streamTellsWrong : ChangeSpec := { name := "streamTells", fn := fun _ => fun
  | [d1, d2, d3] => { results := [.lit (.bool false)], args := [d1, d2, d3] }
  | _ => none }
def StreamTellsWrongFalsely : Prop := streamTellsRow.holds Try.pinned (OpenSpec.ofChange streamTellsWrong)

/-- 'tenementlaw15.StreamGets': WHATEVER THE INPUT: true; the input reads as it did. -/
def streamGetsSpec : ChangeSpec := { name := "streamGets", fn := fun _ => fun
  | [d1, d2, d3, d4, d5] => { results := [.lit (.bool true)], args := [d1, d2, d3, d4, d5] }
  | _ => none }
def streamGetsRow : OpenClaim := { program := "ytoagfdpgnfinhaa", sum := "4fb75bb41f1d93a26527fb73d0618cad4b03d60ed015a1b5c87dd77d1bf9b8f9", func := "tenement/tenementlaw15.StreamGets", spec := "streamGets", unfollowed := true, recurses := true, plainKeys := false, apart := false }
def StreamGetsSaid : Prop := streamGetsRow.holds Try.pinned (OpenSpec.ofChange streamGetsSpec)

/-- ITS FALSE NEIGHBOUR: 'it returns false'. Refute it at one input. -/
def streamGetsWrong : ChangeSpec := { name := "streamGets", fn := fun _ => fun
  | [d1, d2, d3, d4, d5] => { results := [.lit (.bool false)], args := [d1, d2, d3, d4, d5] }
  | _ => none }
def StreamGetsWrongFalsely : Prop := streamGetsRow.holds Try.pinned (OpenSpec.ofChange streamGetsWrong)

/-- 'tenementlaw15.StreamSends': WHATEVER THE INPUT: true; the input reads as it did. -/
def streamSendsSpec : ChangeSpec := { name := "streamSends", fn := fun _ => fun
  | [d1, d2] => { results := [.lit (.bool true)], args := [d1, d2] }
  | _ => none }
def streamSendsRow : OpenClaim := { program := "ytoagfdpgnfinhaa", sum := "4fb75bb41f1d93a26527fb73d0618cad4b03d60ed015a1b5c87dd77d1bf9b8f9", func := "tenement/tenementlaw15.StreamSends", spec := "streamSends", unfollowed := true, recurses := true, plainKeys := false, apart := false }
def StreamSendsSaid : Prop := streamSendsRow.holds Try.pinned (OpenSpec.ofChange streamSendsSpec)

/-- ITS FALSE NEIGHBOUR: 'it returns false'. Refute it at one input. -/
def streamSendsWrong : ChangeSpec := { name := "streamSends", fn := fun _ => fun
  | [d1, d2] => { results := [.lit (.bool false)], args := [d1, d2] }
  | _ => none }
def StreamSendsWrongFalsely : Prop := streamSendsRow.holds Try.pinned (OpenSpec.ofChange streamSendsWrong)

/-- 'tenementlaw15.StreamReady': WHATEVER THE INPUT: true; the input reads as it did. -/
def streamReadySpec : ChangeSpec := { name := "streamReady", fn := fun _ => fun
  | [d1, d2] => { results := [.lit (.bool true)], args := [d1, d2] }
  | _ => none }
def streamReadyRow : OpenClaim := { program := "ytoagfdpgnfinhaa", sum := "4fb75bb41f1d93a26527fb73d0618cad4b03d60ed015a1b5c87dd77d1bf9b8f9", func := "tenement/tenementlaw15.StreamReady", spec := "streamReady", unfollowed := true, recurses := true, plainKeys := false, apart := false }
def StreamReadySaid : Prop := streamReadyRow.holds Try.pinned (OpenSpec.ofChange streamReadySpec)

/-- ITS FALSE NEIGHBOUR: 'it returns false'. Refute it at one input. -/
def streamReadyWrong : ChangeSpec := { name := "streamReady", fn := fun _ => fun
  | [d1, d2] => { results := [.lit (.bool false)], args := [d1, d2] }
  | _ => none }
def StreamReadyWrongFalsely : Prop := streamReadyRow.holds Try.pinned (OpenSpec.ofChange streamReadyWrong)

/-- 'tenementlaw15.StreamBack': WHATEVER THE INPUT: true; the input reads as it did. -/
def streamBackSpec : ChangeSpec := { name := "streamBack", fn := fun _ => fun
  | [d1, d2, d3] => { results := [.lit (.bool true)], args := [d1, d2, d3] }
  | _ => none }
def streamBackRow : OpenClaim := { program := "ytoagfdpgnfinhaa", sum := "4fb75bb41f1d93a26527fb73d0618cad4b03d60ed015a1b5c87dd77d1bf9b8f9", func := "tenement/tenementlaw15.StreamBack", spec := "streamBack", unfollowed := true, recurses := true, plainKeys := false, apart := false }
def StreamBackSaid : Prop := streamBackRow.holds Try.pinned (OpenSpec.ofChange streamBackSpec)

/-- ITS FALSE NEIGHBOUR: 'it returns false'. Refute it at one input. -/
def streamBackWrong : ChangeSpec := { name := "streamBack", fn := fun _ => fun
  | [d1, d2, d3] => { results := [.lit (.bool false)], args := [d1, d2, d3] }
  | _ => none }
def StreamBackWrongFalsely : Prop := streamBackRow.holds Try.pinned (OpenSpec.ofChange streamBackWrong)

/-- 'tenementlaw15.StreamKinds': WHATEVER THE INPUT: true; the input reads as it did. -/
def streamKindsSpec : ChangeSpec := { name := "streamKinds", fn := fun _ => fun
  | [d1, d2, d3] => { results := [.lit (.bool true)], args := [d1, d2, d3] }
  | _ => none }
def streamKindsRow : OpenClaim := { program := "ytoagfdpgnfinhaa", sum := "4fb75bb41f1d93a26527fb73d0618cad4b03d60ed015a1b5c87dd77d1bf9b8f9", func := "tenement/tenementlaw15.StreamKinds", spec := "streamKinds", unfollowed := true, recurses := true, plainKeys := false, apart := false }
def StreamKindsSaid : Prop := streamKindsRow.holds Try.pinned (OpenSpec.ofChange streamKindsSpec)

/-- ITS FALSE NEIGHBOUR: 'it returns false'. Refute it at one input. -/
def streamKindsWrong : ChangeSpec := { name := "streamKinds", fn := fun _ => fun
  | [d1, d2, d3] => { results := [.lit (.bool false)], args := [d1, d2, d3] }
  | _ => none }
def StreamKindsWrongFalsely : Prop := streamKindsRow.holds Try.pinned (OpenSpec.ofChange streamKindsWrong)

/-- 'tenementlaw15.StreamOnce': WHATEVER THE INPUT: true; the input reads as it did. -/
def streamOnceSpec : ChangeSpec := { name := "streamOnce", fn := fun _ => fun
  | [d] => { results := [.lit (.bool true)], args := [d] }
  | _ => none }
def streamOnceRow : OpenClaim := { program := "ytoagfdpgnfinhaa", sum := "4fb75bb41f1d93a26527fb73d0618cad4b03d60ed015a1b5c87dd77d1bf9b8f9", func := "tenement/tenementlaw15.StreamOnce", spec := "streamOnce", unfollowed := true, recurses := true, plainKeys := false, apart := false }
def StreamOnceSaid : Prop := streamOnceRow.holds Try.pinned (OpenSpec.ofChange streamOnceSpec)

/-- ITS FALSE NEIGHBOUR: 'it returns false'. Refute it at one input. -/
def streamOnceWrong : ChangeSpec := { name := "streamOnce", fn := fun _ => fun
  | [d] => { results := [.lit (.bool false)], args := [d] }
  | _ => none }
def StreamOnceWrongFalsely : Prop := streamOnceRow.holds Try.pinned (OpenSpec.ofChange streamOnceWrong)

/- THE SECOND FORM. 'bulk': how many values and letters a reading holds, each counted each time it is reached (what is shared counts as often as it is met; a slice's spare places count too). A statement '..UptoSaid' is the law's where the arguments, and the package variables that the reading takes, are together of bulk at most 1048576: NARROWER than '..Said'. Prove '..Said' where nothing that the law and all that it calls make is longer than what came in: it says more and counts as full. Else prove '..UptoSaid'. A law counts once. -/
mutual
def uptoBulk {H : Type} : DataW H → Nat
  | .lit (.string bytes) => bytes.length + 1
  | .lit _ => 1
  | .nil => 1
  | .ptr d => uptoBulk d + 1
  | .slice elems spare => uptoBulkAll elems + uptoBulkAll spare + 1
  | .agg parts => uptoBulkAll parts + 1
  | .iface _ d => uptoBulk d + 1
  | .map entries => uptoBulkEntries entries + 1
  | .held _ => 1
def uptoBulkAll {H : Type} : List (DataW H) → Nat
  | [] => 0
  | d :: r => uptoBulk d + uptoBulkAll r
def uptoBulkEntries {H : Type} : List (Lit × DataW H) → Nat
  | [] => 0
  | x :: r => uptoBulkEntry x + uptoBulkEntries r
def uptoBulkEntry {H : Type} : Lit × DataW H → Nat
  | (.string bytes, d) => bytes.length + uptoBulk d + 1
  | (_, d) => uptoBulk d + 1
 end
def uptoSmall : (H : Type) → List (DataW H) → Bool := fun _ ds => decide (uptoBulkAll ds ≤ 1048576)
def OpenSpec.upto (s : _root_.Go.ChangeSpec) : _root_.Go.OpenSpec := { _root_.Go.OpenSpec.ofChange s with cond := some uptoSmall }

/-- 'tenementlaw15.StreamOuts', WHERE WHAT IT READS IS OF BULK AT MOST 1048576: true; the input reads as it did. -/
def streamOutsUptoRow : OpenClaim := { program := "ytoagfdpgnfinhaa", sum := "4fb75bb41f1d93a26527fb73d0618cad4b03d60ed015a1b5c87dd77d1bf9b8f9", func := "tenement/tenementlaw15.StreamOuts", spec := "streamOuts", unfollowed := true, recurses := true, plainKeys := false, apart := false, narrowed := true }
def StreamOutsUptoSaid : Prop := streamOutsUptoRow.holds Try.pinned (OpenSpec.upto streamOutsSpec)

/-- 'tenementlaw15.StreamTells', WHERE WHAT IT READS IS OF BULK AT MOST 1048576: true; the input reads as it did. -/
def streamTellsUptoRow : OpenClaim := { program := "ytoagfdpgnfinhaa", sum := "4fb75bb41f1d93a26527fb73d0618cad4b03d60ed015a1b5c87dd77d1bf9b8f9", func := "tenement/tenementlaw15.StreamTells", spec := "streamTells", unfollowed := true, recurses := true, plainKeys := false, apart := false, narrowed := true }
def StreamTellsUptoSaid : Prop := streamTellsUptoRow.holds Try.pinned (OpenSpec.upto streamTellsSpec)

/-- 'tenementlaw15.StreamGets', WHERE WHAT IT READS IS OF BULK AT MOST 1048576: true; the input reads as it did. -/
def streamGetsUptoRow : OpenClaim := { program := "ytoagfdpgnfinhaa", sum := "4fb75bb41f1d93a26527fb73d0618cad4b03d60ed015a1b5c87dd77d1bf9b8f9", func := "tenement/tenementlaw15.StreamGets", spec := "streamGets", unfollowed := true, recurses := true, plainKeys := false, apart := false, narrowed := true }
def StreamGetsUptoSaid : Prop := streamGetsUptoRow.holds Try.pinned (OpenSpec.upto streamGetsSpec)

/-- 'tenementlaw15.StreamSends', WHERE WHAT IT READS IS OF BULK AT MOST 1048576: true; the input reads as it did. -/
def streamSendsUptoRow : OpenClaim := { program := "ytoagfdpgnfinhaa", sum := "4fb75bb41f1d93a26527fb73d0618cad4b03d60ed015a1b5c87dd77d1bf9b8f9", func := "tenement/tenementlaw15.StreamSends", spec := "streamSends", unfollowed := true, recurses := true, plainKeys := false, apart := false, narrowed := true }
def StreamSendsUptoSaid : Prop := streamSendsUptoRow.holds Try.pinned (OpenSpec.upto streamSendsSpec)

/-- 'tenementlaw15.StreamReady', WHERE WHAT IT READS IS OF BULK AT MOST 1048576: true; the input reads as it did. -/
def streamReadyUptoRow : OpenClaim := { program := "ytoagfdpgnfinhaa", sum := "4fb75bb41f1d93a26527fb73d0618cad4b03d60ed015a1b5c87dd77d1bf9b8f9", func := "tenement/tenementlaw15.StreamReady", spec := "streamReady", unfollowed := true, recurses := true, plainKeys := false, apart := false, narrowed := true }
def StreamReadyUptoSaid : Prop := streamReadyUptoRow.holds Try.pinned (OpenSpec.upto streamReadySpec)

/-- 'tenementlaw15.StreamBack', WHERE WHAT IT READS IS OF BULK AT MOST 1048576: true; the input reads as it did. -/
def streamBackUptoRow : OpenClaim := { program := "ytoagfdpgnfinhaa", sum := "4fb75bb41f1d93a26527fb73d0618cad4b03d60ed015a1b5c87dd77d1bf9b8f9", func := "tenement/tenementlaw15.StreamBack", spec := "streamBack", unfollowed := true, recurses := true, plainKeys := false, apart := false, narrowed := true }
def StreamBackUptoSaid : Prop := streamBackUptoRow.holds Try.pinned (OpenSpec.upto streamBackSpec)

/-- 'tenementlaw15.StreamKinds', WHERE WHAT IT READS IS OF BULK AT MOST 1048576: true; the input reads as it did. -/
def streamKindsUptoRow : OpenClaim := { program := "ytoagfdpgnfinhaa", sum := "4fb75bb41f1d93a26527fb73d0618cad4b03d60ed015a1b5c87dd77d1bf9b8f9", func := "tenement/tenementlaw15.StreamKinds", spec := "streamKinds", unfollowed := true, recurses := true, plainKeys := false, apart := false, narrowed := true }
def StreamKindsUptoSaid : Prop := streamKindsUptoRow.holds Try.pinned (OpenSpec.upto streamKindsSpec)

/-- 'tenementlaw15.StreamOnce', WHERE WHAT IT READS IS OF BULK AT MOST 1048576: true; the input reads as it did. -/
def streamOnceUptoRow : OpenClaim := { program := "ytoagfdpgnfinhaa", sum := "4fb75bb41f1d93a26527fb73d0618cad4b03d60ed015a1b5c87dd77d1bf9b8f9", func := "tenement/tenementlaw15.StreamOnce", spec := "streamOnce", unfollowed := true, recurses := true, plainKeys := false, apart := false, narrowed := true }
def StreamOnceUptoSaid : Prop := streamOnceUptoRow.holds Try.pinned (OpenSpec.upto streamOnceSpec)

end Rows
end Go.Proofs.Ytoagfdpgnfinhaa
