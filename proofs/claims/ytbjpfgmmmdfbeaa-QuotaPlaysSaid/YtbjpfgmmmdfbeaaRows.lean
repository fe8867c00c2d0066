/-
  No cell of these rows narrows 'for every input' (looked for: loops, veiled, ifaces, maps, wideKeys, modest, calm, conditions, laid).
  DERIVED. THE GIVEN ROWS OF THIS SEAT. 5 by the template 'for every input the law returns true; each argument reads behind the call as it read before'; 0 by the template 'total and deterministic' (their statements: YtbjpfgmmmdfbeaaTotals.lean).
  GIVEN WITH THE SEED: the statements are not yours to turn. If you find one false, say at which input.
  Laid BY PROGRAM, IN A SANDBOX (cutbox-rows.mjs): the forced cells as the released guide's own fill.sh prints them over the translation f2cb0c2b382f5cf7… (all of the seat's roots in one cut). By AI agents, Wed Nov 11 2026. No macro, syntax, notation, axiom, sorry.
-/
import Derived.Test.YtbjpfgmmmdfbeaaChecked
import GoSem.Claim
import GoSem.ClaimJoined
import GoSem.ClaimMapViews
import Derived.JoinedTies
import Derived.KernelRfl
namespace Go.Proofs.Ytbjpfgmmmdfbeaa
/- THE CELL 'sum', in the pinned program and in every row, IS THE sha256 OF THE DUMP (.gsa) THAT YtbjpfgmmmdfbeaaProg.lean LOADS. Nothing in Lean hashes anything: it is a label: what it is worth is what the hold of that sum in a sandbox is worth. -/
noncomputable def Try.pinned : Pinned := { name := "ytbjpfgmmmdfbeaa", sum := "f2cb0c2b382f5cf7be946a8d819a20106d53554f0fb26da5a25862f6afbc3608", checked := Try.checked }
namespace Rows
def none {H : Type} : Left H := { results := [], args := [] }

/-- 'tenementlaw13.QuotaPlays': WHATEVER THE INPUT: true; the input reads as it did. -/
def quotaPlaysSpec : ChangeSpec := { name := "quotaPlays", fn := fun _ => fun
  | [d1, d2, d3] => { results := [.lit (.bool true)], args := [d1, d2, d3] }
  | _ => none }
def quotaPlaysRow : OpenClaim := { program := "ytbjpfgmmmdfbeaa", sum := "f2cb0c2b382f5cf7be946a8d819a20106d53554f0fb26da5a25862f6afbc3608", func := "tenement/tenementlaw13.QuotaPlays", spec := "quotaPlays", inPlace := ["maps.clone"], plainKeys := false, apart := false }
def QuotaPlaysSaid : Prop := quotaPlaysRow.holds Try.pinned (OpenSpec.ofChange quotaPlaysSpec)

/-- ITS FALSE NEIGHBOUR: 'it returns false'. Refute it at one input. -/
def quotaPlaysWrong : ChangeSpec := { name := "quotaPlays", fn := fun _ => fun
  | [d1, d2, d3] => { results := [.lit (.bool false)], args := [d1, d2, d3] }
  | _ => none }
def QuotaPlaysWrongFalsely : Prop := quotaPlaysRow.holds Try.pinned (OpenSpec.ofChange quotaPlaysWrong)

/-- 'tenementlaw13.QuotaHolds': WHATEVER THE INPUT: true; the input reads as it did. -/
def quotaHoldsSpec : ChangeSpec := { name := "quotaHolds", fn := fun _ => fun
  | [d1, d2] => { results := [.lit (.bool true)], args := [d1, d2] }
  | _ => none }
def quotaHoldsRow : OpenClaim := { program := "ytbjpfgmmmdfbeaa", sum := "f2cb0c2b382f5cf7be946a8d819a20106d53554f0fb26da5a25862f6afbc3608", func := "tenement/tenementlaw13.QuotaHolds", spec := "quotaHolds", inPlace := ["maps.clone"], plainKeys := false, apart := false }
def QuotaHoldsSaid : Prop := quotaHoldsRow.holds Try.pinned (OpenSpec.ofChange quotaHoldsSpec)

/-- ITS FALSE NEIGHBOUR: 'it returns false'. Refute it at one input. -/
def quotaHoldsWrong : ChangeSpec := { name := "quotaHolds", fn := fun _ => fun
  | [d1, d2] => { results := [.lit (.bool false)], args := [d1, d2] }
  | _ => none }
def QuotaHoldsWrongFalsely : Prop := quotaHoldsRow.holds Try.pinned (OpenSpec.ofChange quotaHoldsWrong)

/-- 'tenementlaw13.QuotaLast': WHATEVER THE INPUT: true; the input reads as it did. -/
def quotaLastSpec : ChangeSpec := { name := "quotaLast", fn := fun _ => fun
  | [d] => { results := [.lit (.bool true)], args := [d] }
  | _ => none }
def quotaLastRow : OpenClaim := { program := "ytbjpfgmmmdfbeaa", sum := "f2cb0c2b382f5cf7be946a8d819a20106d53554f0fb26da5a25862f6afbc3608", func := "tenement/tenementlaw13.QuotaLast", spec := "quotaLast", inPlace := ["maps.clone"], plainKeys := false, apart := false }
def QuotaLastSaid : Prop := quotaLastRow.holds Try.pinned (OpenSpec.ofChange quotaLastSpec)

/-- ITS FALSE NEIGHBOUR: 'it returns false'. Refute it at one input. -/
def quotaLastWrong : ChangeSpec := { name := "quotaLast", fn := fun _ => fun
  | [d] => { results := [.lit (.bool false)], args := [d] }
  | _ => none }
def QuotaLastWrongFalsely : Prop := quotaLastRow.holds Try.pinned (OpenSpec.ofChange quotaLastWrong)

/-- 'tenementlaw13.QuotaTally': WHATEVER THE INPUT: true; the input reads as it did. -/
def quotaTallySpec : ChangeSpec := { name := "quotaTally", fn := fun _ => fun
  | [d1, d2] => { results := [.lit (.bool true)], args := [d1, d2] }
  | _ => none }
def quotaTallyRow : OpenClaim := { program := "ytbjpfgmmmdfbeaa", sum := "f2cb0c2b382f5cf7be946a8d819a20106d53554f0fb26da5a25862f6afbc3608", func := "tenement/tenementlaw13.QuotaTally", spec := "quotaTally", inPlace := ["maps.clone"], plainKeys := false, apart := false }
def QuotaTallySaid : Prop := quotaTallyRow.holds Try.pinned (OpenSpec.ofChange quotaTallySpec)

/-- ITS FALSE NEIGHBOUR: 'it returns false'. Refute it at one input. -/
def quotaTallyWrong : ChangeSpec := { name := "quotaTally", fn := fun _ => fun
  | [d1, d2] => { results := [.lit (.bool false)], args := [d1, d2] }
  | _ => none }
def QuotaTallyWrongFalsely : Prop := quotaTallyRow.holds Try.pinned (OpenSpec.ofChange quotaTallyWrong)

/-- 'tenementlaw13.QuotaFrees': WHATEVER THE INPUT: true; the input reads as it did. -/
def quotaFreesSpec : ChangeSpec := { name := "quotaFrees", fn := fun _ => fun
  | [d1, d2] => { results := [.lit (.bool true)], args := [d1, d2] }
  | _ => none }
def quotaFreesRow : OpenClaim := { program := "ytbjpfgmmmdfbeaa", sum := "f2cb0c2b382f5cf7be946a8d819a20106d53554f0fb26da5a25862f6afbc3608", func := "tenement/tenementlaw13.QuotaFrees", spec := "quotaFrees", inPlace := ["maps.clone"], plainKeys := false, apart := false }
def QuotaFreesSaid : Prop := quotaFreesRow.holds Try.pinned (OpenSpec.ofChange quotaFreesSpec)

/-- ITS FALSE NEIGHBOUR: 'it returns false'. Refute it at one input. -/
def quotaFreesWrong : ChangeSpec := { name := "quotaFrees", fn := fun _ => fun
  | [d1, d2] => { results := [.lit (.bool false)], args := [d1, d2] }
  | _ => none }
def QuotaFreesWrongFalsely : Prop := quotaFreesRow.holds Try.pinned (OpenSpec.ofChange quotaFreesWrong)

/- THE SECOND FORM. 'bulk': how many values and letters a reading holds, each counted each time it is reached (what is shared counts as often as it is met; a slice's spare places count too). A statement '..UptoSaid' is the law's where the arguments, and the package variables that the reading takes, are together of bulk at most 1048576: NARROWER than '..Said'. Prove '..Said' where nothing that the law and all that it calls make is longer than what came in: it says more and counts as full. Else prove '..UptoSaid'. A law counts once. -/
mutual
def uptoBulk {H : Type} : DataW H → Nat
  | .lit (.string bytes) => bytes.length + 1
  | .lit _ => 1
  | .nil => 1
  | .ptr d => uptoBulk d + 1
  | .slice elems spare => uptoBulkAll elems + uptoBulkAll spare + 1
  | .agg parts => uptoBulkAll parts + 1
  | .iface _ d => uptoBulk d + 1
  | .map entries => uptoBulkEntries entries + 1
  | .held _ => 1
def uptoBulkAll {H : Type} : List (DataW H) → Nat
  | [] => 0
  | d :: r => uptoBulk d + uptoBulkAll r
def uptoBulkEntries {H : Type} : List (Lit × DataW H) → Nat
  | [] => 0
  | x :: r => uptoBulkEntry x + uptoBulkEntries r
def uptoBulkEntry {H : Type} : Lit × DataW H → Nat
  | (.string bytes, d) => bytes.length + uptoBulk d + 1
  | (_, d) => uptoBulk d + 1
 end
def uptoSmall : (H : Type) → List (DataW H) → Bool := fun _ ds => decide (uptoBulkAll ds ≤ 1048576)
def OpenSpec.upto (s : _root_.Go.ChangeSpec) : _root_.Go.OpenSpec := { _root_.Go.OpenSpec.ofChange s with cond := some uptoSmall }

/-- 'tenementlaw13.QuotaPlays', WHERE WHAT IT READS IS OF BULK AT MOST 1048576: true; the input reads as it did. -/
def quotaPlaysUptoRow : OpenClaim := { program := "ytbjpfgmmmdfbeaa", sum := "f2cb0c2b382f5cf7be946a8d819a20106d53554f0fb26da5a25862f6afbc3608", func := "tenement/tenementlaw13.QuotaPlays", spec := "quotaPlays", inPlace := ["maps.clone"], plainKeys := false, apart := false, narrowed := true }
def QuotaPlaysUptoSaid : Prop := quotaPlaysUptoRow.holds Try.pinned (OpenSpec.upto quotaPlaysSpec)

/-- 'tenementlaw13.QuotaHolds', WHERE WHAT IT READS IS OF BULK AT MOST 1048576: true; the input reads as it did. -/
def quotaHoldsUptoRow : OpenClaim := { program := "ytbjpfgmmmdfbeaa", sum := "f2cb0c2b382f5cf7be946a8d819a20106d53554f0fb26da5a25862f6afbc3608", func := "tenement/tenementlaw13.QuotaHolds", spec := "quotaHolds", inPlace := ["maps.clone"], plainKeys := false, apart := false, narrowed := true }
def QuotaHoldsUptoSaid : Prop := quotaHoldsUptoRow.holds Try.pinned (OpenSpec.upto quotaHoldsSpec)

/-- 'tenementlaw13.QuotaLast', WHERE WHAT IT READS IS OF BULK AT MOST 1048576: true; the input reads as it did. -/
def quotaLastUptoRow : OpenClaim := { program := "ytbjpfgmmmdfbeaa", sum := "f2cb0c2b382f5cf7be946a8d819a20106d53554f0fb26da5a25862f6afbc3608", func := "tenement/tenementlaw13.QuotaLast", spec := "quotaLast", inPlace := ["maps.clone"], plainKeys := false, apart := false, narrowed := true }
def QuotaLastUptoSaid : Prop := quotaLastUptoRow.holds Try.pinned (OpenSpec.upto quotaLastSpec)

/-- 'tenementlaw13.QuotaTally', WHERE WHAT IT READS IS OF BULK AT MOST 1048576: true; the input reads as it did. -/
def quotaTallyUptoRow : OpenClaim := { program := "ytbjpfgmmmdfbeaa", sum := "f2cb0c2b382f5cf7be946a8d819a20106d53554f0fb26da5a25862f6afbc3608", func := "tenement/tenementlaw13.QuotaTally", spec := "quotaTally", inPlace := ["maps.clone"], plainKeys := false, apart := false, narrowed := true }
def QuotaTallyUptoSaid : Prop := quotaTallyUptoRow.holds Try.pinned (OpenSpec.upto quotaTallySpec)

/-- 'tenementlaw13.QuotaFrees', WHERE WHAT IT READS IS OF BULK AT MOST 1048576: true; the input reads as it did. -/
def quotaFreesUptoRow : OpenClaim := { program := "ytbjpfgmmmdfbeaa", sum := "f2cb0c2b382f5cf7be946a8d819a20106d53554f0fb26da5a25862f6afbc3608", func := "tenement/tenementlaw13.QuotaFrees", spec := "quotaFrees", inPlace := ["maps.clone"], plainKeys := false, apart := false, narrowed := true }
def QuotaFreesUptoSaid : Prop := quotaFreesUptoRow.holds Try.pinned (OpenSpec.upto quotaFreesSpec)

end Rows
end Go.Proofs.Ytbjpfgmmmdfbeaa
