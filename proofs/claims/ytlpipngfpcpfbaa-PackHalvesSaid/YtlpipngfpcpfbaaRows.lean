/-
  No cell of these rows narrows 'for every input' (looked for: loops, veiled, ifaces, maps, wideKeys, modest, calm, conditions, laid).
  DERIVED. THE GIVEN ROWS OF THIS SEAT. 6 by the template 'for every input the law returns true; each argument reads behind the call as it read before'; 0 by the template 'total and deterministic' (their statements: YtlpipngfpcpfbaaTotals.lean).
  GIVEN WITH THE SEED: the statements are not yours to turn. If you find one false, say at which input.
  Laid BY PROGRAM, IN A SANDBOX (cutbox-rows.mjs): the forced cells as the released guide's own fill.sh prints them over the translation 47b675f154b1f63c… (all of the seat's roots in one cut). By AI agents, Wed Nov 11 2026. No macro, syntax, notation, axiom, sorry.
-/
import Derived.Test.YtlpipngfpcpfbaaChecked
import GoSem.Claim
import GoSem.ClaimJoined
import GoSem.ClaimMapViews
import Derived.JoinedTies
import Derived.KernelRfl
namespace Go.Proofs.Ytlpipngfpcpfbaa
/- THE CELL 'sum', in the pinned program and in every row, IS THE sha256 OF THE DUMP (.gsa) THAT YtlpipngfpcpfbaaProg.lean LOADS. Nothing in Lean hashes anything: it is a label: what it is worth is what the hold of that sum in a sandbox is worth. -/
noncomputable def Try.pinned : Pinned := { name := "ytlpipngfpcpfbaa", sum := "47b675f154b1f63c5c45c9afe8e653b5032edbe1688f274ba6453b0af857377f", checked := Try.checked }
namespace Rows
def none {H : Type} : Left H := { results := [], args := [] }

/-- 'tenementlaw02.PackHalves': WHATEVER THE INPUT: true; the input reads as it did. -/
def packHalvesSpec : ChangeSpec := { name := "packHalves", fn := fun _ => fun
  | [d1, d2] => { results := [.lit (.bool true)], args := [d1, d2] }
  | _ => none }
def packHalvesRow : OpenClaim := { program := "ytlpipngfpcpfbaa", sum := "47b675f154b1f63c5c45c9afe8e653b5032edbe1688f274ba6453b0af857377f", func := "tenement/tenementlaw02.PackHalves", spec := "packHalves", apart := false }
def PackHalvesSaid : Prop := packHalvesRow.holds Try.pinned (OpenSpec.ofChange packHalvesSpec)

/-- ITS FALSE NEIGHBOUR: 'it returns false'. Refute it at one input. -/
def packHalvesWrong : ChangeSpec := { name := "packHalves", fn := fun _ => fun
  | [d1, d2] => { results := [.lit (.bool false)], args := [d1, d2] }
  | _ => none }
def PackHalvesWrongFalsely : Prop := packHalvesRow.holds Try.pinned (OpenSpec.ofChange packHalvesWrong)

/-- 'tenementlaw02.PackOrder': WHATEVER THE INPUT: true; the input reads as it did. -/
def packOrderSpec : ChangeSpec := { name := "packOrder", fn := fun _ => fun
  | [d1, d2, d3] => { results := [.lit (.bool true)], args := [d1, d2, d3] }
  | _ => none }
def packOrderRow : OpenClaim := { program := "ytlpipngfpcpfbaa", sum := "47b675f154b1f63c5c45c9afe8e653b5032edbe1688f274ba6453b0af857377f", func := "tenement/tenementlaw02.PackOrder", spec := "packOrder", apart := false }
def PackOrderSaid : Prop := packOrderRow.holds Try.pinned (OpenSpec.ofChange packOrderSpec)

/-- ITS FALSE NEIGHBOUR: 'it returns false'. Refute it at one input. -/
def packOrderWrong : ChangeSpec := { name := "packOrder", fn := fun _ => fun
  | [d1, d2, d3] => { results := [.lit (.bool false)], args := [d1, d2, d3] }
  | _ => none }
def PackOrderWrongFalsely : Prop := packOrderRow.holds Try.pinned (OpenSpec.ofChange packOrderWrong)

/-- 'tenementlaw02.PackMost': WHATEVER THE INPUT: true; the input reads as it did. -/
def packMostSpec : ChangeSpec := { name := "packMost", fn := fun _ => fun
  | [d1, d2, d3] => { results := [.lit (.bool true)], args := [d1, d2, d3] }
  | _ => none }
def packMostRow : OpenClaim := { program := "ytlpipngfpcpfbaa", sum := "47b675f154b1f63c5c45c9afe8e653b5032edbe1688f274ba6453b0af857377f", func := "tenement/tenementlaw02.PackMost", spec := "packMost", apart := false }
def PackMostSaid : Prop := packMostRow.holds Try.pinned (OpenSpec.ofChange packMostSpec)

/-- ITS FALSE NEIGHBOUR: 'it returns false'. Refute it at one input. -/
def packMostWrong : ChangeSpec := { name := "packMost", fn := fun _ => fun
  | [d1, d2, d3] => { results := [.lit (.bool false)], args := [d1, d2, d3] }
  | _ => none }
def PackMostWrongFalsely : Prop := packMostRow.holds Try.pinned (OpenSpec.ofChange packMostWrong)

/-- 'tenementlaw02.PackPlays': WHATEVER THE INPUT: true; the input reads as it did. -/
def packPlaysSpec : ChangeSpec := { name := "packPlays", fn := fun _ => fun
  | [d1, d2, d3, d4, d5] => { results := [.lit (.bool true)], args := [d1, d2, d3, d4, d5] }
  | _ => none }
def packPlaysRow : OpenClaim := { program := "ytlpipngfpcpfbaa", sum := "47b675f154b1f63c5c45c9afe8e653b5032edbe1688f274ba6453b0af857377f", func := "tenement/tenementlaw02.PackPlays", spec := "packPlays", apart := false }
def PackPlaysSaid : Prop := packPlaysRow.holds Try.pinned (OpenSpec.ofChange packPlaysSpec)

/-- ITS FALSE NEIGHBOUR: 'it returns false'. Refute it at one input. -/
def packPlaysWrong : ChangeSpec := { name := "packPlays", fn := fun _ => fun
  | [d1, d2, d3, d4, d5] => { results := [.lit (.bool false)], args := [d1, d2, d3, d4, d5] }
  | _ => none }
def PackPlaysWrongFalsely : Prop := packPlaysRow.holds Try.pinned (OpenSpec.ofChange packPlaysWrong)

/-- 'tenementlaw02.PackBack': WHATEVER THE INPUT: true; the input reads as it did. -/
def packBackSpec : ChangeSpec := { name := "packBack", fn := fun _ => fun
  | [d1, d2, d3, d4, d5, d6] => { results := [.lit (.bool true)], args := [d1, d2, d3, d4, d5, d6] }
  | _ => none }
def packBackRow : OpenClaim := { program := "ytlpipngfpcpfbaa", sum := "47b675f154b1f63c5c45c9afe8e653b5032edbe1688f274ba6453b0af857377f", func := "tenement/tenementlaw02.PackBack", spec := "packBack", apart := false }
def PackBackSaid : Prop := packBackRow.holds Try.pinned (OpenSpec.ofChange packBackSpec)

/-- ITS FALSE NEIGHBOUR: 'it returns false'. Refute it at one input. -/
def packBackWrong : ChangeSpec := { name := "packBack", fn := fun _ => fun
  | [d1, d2, d3, d4, d5, d6] => { results := [.lit (.bool false)], args := [d1, d2, d3, d4, d5, d6] }
  | _ => none }
def PackBackWrongFalsely : Prop := packBackRow.holds Try.pinned (OpenSpec.ofChange packBackWrong)

/-- 'tenementlaw02.PackVary': WHATEVER THE INPUT: true; the input reads as it did. -/
def packVarySpec : ChangeSpec := { name := "packVary", fn := fun _ => fun
  | [d1, d2, d3] => { results := [.lit (.bool true)], args := [d1, d2, d3] }
  | _ => none }
def packVaryRow : OpenClaim := { program := "ytlpipngfpcpfbaa", sum := "47b675f154b1f63c5c45c9afe8e653b5032edbe1688f274ba6453b0af857377f", func := "tenement/tenementlaw02.PackVary", spec := "packVary", apart := false }
def PackVarySaid : Prop := packVaryRow.holds Try.pinned (OpenSpec.ofChange packVarySpec)

/-- ITS FALSE NEIGHBOUR: 'it returns false'. Refute it at one input. -/
def packVaryWrong : ChangeSpec := { name := "packVary", fn := fun _ => fun
  | [d1, d2, d3] => { results := [.lit (.bool false)], args := [d1, d2, d3] }
  | _ => none }
def PackVaryWrongFalsely : Prop := packVaryRow.holds Try.pinned (OpenSpec.ofChange packVaryWrong)

/- THE SECOND FORM. 'bulk': how many values and letters a reading holds, each counted each time it is reached (what is shared counts as often as it is met; a slice's spare places count too). A statement '..UptoSaid' is the law's where the arguments, and the package variables that the reading takes, are together of bulk at most 1048576: NARROWER than '..Said'. Prove '..Said' where nothing that the law and all that it calls make is longer than what came in: it says more and counts as full. Else prove '..UptoSaid'. A law counts once. -/
mutual
def uptoBulk {H : Type} : DataW H → Nat
  | .lit (.string bytes) => bytes.length + 1
  | .lit _ => 1
  | .nil => 1
  | .ptr d => uptoBulk d + 1
  | .slice elems spare => uptoBulkAll elems + uptoBulkAll spare + 1
  | .agg parts => uptoBulkAll parts + 1
  | .iface _ d => uptoBulk d + 1
  | .map entries => uptoBulkEntries entries + 1
  | .held _ => 1
def uptoBulkAll {H : Type} : List (DataW H) → Nat
  | [] => 0
  | d :: r => uptoBulk d + uptoBulkAll r
def uptoBulkEntries {H : Type} : List (Lit × DataW H) → Nat
  | [] => 0
  | x :: r => uptoBulkEntry x + uptoBulkEntries r
def uptoBulkEntry {H : Type} : Lit × DataW H → Nat
  | (.string bytes, d) => bytes.length + uptoBulk d + 1
  | (_, d) => uptoBulk d + 1
 end
def uptoSmall : (H : Type) → List (DataW H) → Bool := fun _ ds => decide (uptoBulkAll ds ≤ 1048576)
def OpenSpec.upto (s : _root_.Go.ChangeSpec) : _root_.Go.OpenSpec := { _root_.Go.OpenSpec.ofChange s with cond := some uptoSmall }

/-- 'tenementlaw02.PackHalves', WHERE WHAT IT READS IS OF BULK AT MOST 1048576: true; the input reads as it did. -/
def packHalvesUptoRow : OpenClaim := { program := "ytlpipngfpcpfbaa", sum := "47b675f154b1f63c5c45c9afe8e653b5032edbe1688f274ba6453b0af857377f", func := "tenement/tenementlaw02.PackHalves", spec := "packHalves", apart := false, narrowed := true }
def PackHalvesUptoSaid : Prop := packHalvesUptoRow.holds Try.pinned (OpenSpec.upto packHalvesSpec)

/-- 'tenementlaw02.PackOrder', WHERE WHAT IT READS IS OF BULK AT MOST 1048576: true; the input reads as it did. -/
def packOrderUptoRow : OpenClaim := { program := "ytlpipngfpcpfbaa", sum := "47b675f154b1f63c5c45c9afe8e653b5032edbe1688f274ba6453b0af857377f", func := "tenement/tenementlaw02.PackOrder", spec := "packOrder", apart := false, narrowed := true }
def PackOrderUptoSaid : Prop := packOrderUptoRow.holds Try.pinned (OpenSpec.upto packOrderSpec)

/-- 'tenementlaw02.PackMost', WHERE WHAT IT READS IS OF BULK AT MOST 1048576: true; the input reads as it did. -/
def packMostUptoRow : OpenClaim := { program := "ytlpipngfpcpfbaa", sum := "47b675f154b1f63c5c45c9afe8e653b5032edbe1688f274ba6453b0af857377f", func := "tenement/tenementlaw02.PackMost", spec := "packMost", apart := false, narrowed := true }
def PackMostUptoSaid : Prop := packMostUptoRow.holds Try.pinned (OpenSpec.upto packMostSpec)

/-- 'tenementlaw02.PackPlays', WHERE WHAT IT READS IS OF BULK AT MOST 1048576: true; the input reads as it did. -/
def packPlaysUptoRow : OpenClaim := { program := "ytlpipngfpcpfbaa", sum := "47b675f154b1f63c5c45c9afe8e653b5032edbe1688f274ba6453b0af857377f", func := "tenement/tenementlaw02.PackPlays", spec := "packPlays", apart := false, narrowed := true }
def PackPlaysUptoSaid : Prop := packPlaysUptoRow.holds Try.pinned (OpenSpec.upto packPlaysSpec)

/-- 'tenementlaw02.PackBack', WHERE WHAT IT READS IS OF BULK AT MOST 1048576: true; the input reads as it did. -/
def packBackUptoRow : OpenClaim := { program := "ytlpipngfpcpfbaa", sum := "47b675f154b1f63c5c45c9afe8e653b5032edbe1688f274ba6453b0af857377f", func := "tenement/tenementlaw02.PackBack", spec := "packBack", apart := false, narrowed := true }
def PackBackUptoSaid : Prop := packBackUptoRow.holds Try.pinned (OpenSpec.upto packBackSpec)

/-- 'tenementlaw02.PackVary', WHERE WHAT IT READS IS OF BULK AT MOST 1048576: true; the input reads as it did. -/
def packVaryUptoRow : OpenClaim := { program := "ytlpipngfpcpfbaa", sum := "47b675f154b1f63c5c45c9afe8e653b5032edbe1688f274ba6453b0af857377f", func := "tenement/tenementlaw02.PackVary", spec := "packVary", apart := false, narrowed := true }
def PackVaryUptoSaid : Prop := packVaryUptoRow.holds Try.pinned (OpenSpec.upto packVarySpec)

end Rows
end Go.Proofs.Ytlpipngfpcpfbaa
