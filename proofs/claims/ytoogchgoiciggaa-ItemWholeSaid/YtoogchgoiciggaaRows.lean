/-
  No cell of these rows narrows 'for every input' (looked for: loops, veiled, ifaces, maps, wideKeys, modest, calm, conditions, laid).
  DERIVED. THE GIVEN ROWS OF THIS SEAT. 8 by the template 'for every input the law returns true; each argument reads behind the call as it read before'; 0 by the template 'total and deterministic' (their statements: YtoogchgoiciggaaTotals.lean).
  GIVEN WITH THE SEED: the statements are not yours to turn. If you find one false, say at which input.
  Laid BY PROGRAM, IN A SANDBOX (cutbox-rows.mjs): the forced cells as the released guide's own fill.sh prints them over the translation 7dffdcaddee2c127… (all of the seat's roots in one cut). By AI agents, Wed Nov 11 2026. No macro, syntax, notation, axiom, sorry.
-/
import Derived.Test.YtoogchgoiciggaaChecked
import GoSem.Claim
import GoSem.ClaimJoined
import GoSem.ClaimMapViews
import Derived.JoinedTies
import Derived.KernelRfl
namespace Go.Proofs.Ytoogchgoiciggaa
/- THE CELL 'sum', in the pinned program and in every row, IS THE sha256 OF THE DUMP (.gsa) THAT YtoogchgoiciggaaProg.lean LOADS. Nothing in Lean hashes anything: it is a label: what it is worth is what the hold of that sum in a sandbox is worth. -/
noncomputable def Try.pinned : Pinned := { name := "ytoogchgoiciggaa", sum := "7dffdcaddee2c1276e214dc461efc8655f9bf4694a842e4823aeaab24b665a2a", checked := Try.checked }
namespace Rows
def none {H : Type} : Left H := { results := [], args := [] }

/-- 'tenementlaw08.ItemTells': WHATEVER THE INPUT: true; the input reads as it did. -/
def itemTellsSpec : ChangeSpec := { name := "itemTells", fn := fun _ => fun
  | [d1, d2, d3] => { results := [.lit (.bool true)], args := [d1, d2, d3] }
  | _ => none }
def itemTellsRow : OpenClaim := { program := "ytoogchgoiciggaa", sum := "7dffdcaddee2c1276e214dc461efc8655f9bf4694a842e4823aeaab24b665a2a", func := "tenement/tenementlaw08.ItemTells", spec := "itemTells", unfollowed := true, recurses := true, plainKeys := false, apart := false }
def ItemTellsSaid : Prop := itemTellsRow.holds Try.pinned (OpenSpec.ofChange itemTellsSpec)

/-- ITS FALSE NEIGHBOUR: 'it returns false'. Refute it at one input. -/
def itemTellsWrong : ChangeSpec := { name := "itemTells", fn := fun _ => fun
  | [d1, d2, d3] => { results := [.lit (.bool false)], args := [d1, d2, d3] }
  | _ => none }
def ItemTellsWrongFalsely : Prop := itemTellsRow.holds Try.pinned (OpenSpec.ofChange itemTellsWrong)

/-- 'tenementlaw08.ItemShards': WHATEVER THE INPUT: true; the input reads as it did. -/
def itemShardsSpec : ChangeSpec := { name := "itemShards", fn := fun _ => fun
  | [d1, d2, d3, d4, d5, d6] => { results := [.lit (.bool true)], args := [d1, d2, d3, d4, d5, d6] }
  | _ => none }
def itemShardsRow : OpenClaim := { program := "ytoogchgoiciggaa", sum := "7dffdcaddee2c1276e214dc461efc8655f9bf4694a842e4823aeaab24b665a2a", func := "tenement/tenementlaw08.ItemShards", spec := "itemShards", unfollowed := true, recurses := true, plainKeys := false, apart := false }
def ItemShardsSaid : Prop := itemShardsRow.holds Try.pinned (OpenSpec.ofChange itemShardsSpec)

/-- ITS FALSE NEIGHBOUR: 'it returns false'. Refute it at one input. -/
def itemShardsWrong : ChangeSpec := { name := "itemShards", fn := fun _ => fun
  | [d1, d2, d3, d4, d5, d6] => { results := [.lit (.bool false)], args := [d1, d2, d3, d4, d5, d6] }
  | _ => none }
def ItemShardsWrongFalsely : Prop := itemShardsRow.holds Try.pinned (OpenSpec.ofChange itemShardsWrong)

/-- 'tenementlaw08.ItemReads': WHATEVER THE INPUT: true; the input reads as it did. -/
def itemReadsSpec : ChangeSpec := { name := "itemReads", fn := fun _ => fun
  | [d1, d2, d3, d4, d5] => { results := [.lit (.bool true)], args := [d1, d2, d3, d4, d5] }
  | _ => none }
def itemReadsRow : OpenClaim := { program := "ytoogchgoiciggaa", sum := "7dffdcaddee2c1276e214dc461efc8655f9bf4694a842e4823aeaab24b665a2a", func := "tenement/tenementlaw08.ItemReads", spec := "itemReads", unfollowed := true, recurses := true, plainKeys := false, apart := false }
def ItemReadsSaid : Prop := itemReadsRow.holds Try.pinned (OpenSpec.ofChange itemReadsSpec)

/-- ITS FALSE NEIGHBOUR: 'it returns false'. Refute it at one input. -/
def itemReadsWrong : ChangeSpec := { name := "itemReads", fn := fun _ => fun
  | [d1, d2, d3, d4, d5] => { results := [.lit (.bool false)], args := [d1, d2, d3, d4, d5] }
  | _ => none }
def ItemReadsWrongFalsely : Prop := itemReadsRow.holds Try.pinned (OpenSpec.ofChange itemReadsWrong)

/-- 'tenementlaw08.ItemBack': WHATEVER THE INPUT: true; the input reads as it did. -/
def itemBackSpec : ChangeSpec := { name := "itemBack", fn := fun _ => fun
  | [d1, d2, d3] => { results := [.lit (.bool true)], args := [d1, d2, d3] }
  | _ => none }
def itemBackRow : OpenClaim := { program := "ytoogchgoiciggaa", sum := "7dffdcaddee2c1276e214dc461efc8655f9bf4694a842e4823aeaab24b665a2a", func := "tenement/tenementlaw08.ItemBack", spec := "itemBack", unfollowed := true, recurses := true, plainKeys := false, apart := false }
def ItemBackSaid : Prop := itemBackRow.holds Try.pinned (OpenSpec.ofChange itemBackSpec)

/-- ITS FALSE NEIGHBOUR: 'it returns false'. Refute it at one input. -/
def itemBackWrong : ChangeSpec := { name := "itemBack", fn := fun _ => fun
  | [d1, d2, d3] => { results := [.lit (.bool false)], args := [d1, d2, d3] }
  | _ => none }
def ItemBackWrongFalsely : Prop := itemBackRow.holds Try.pinned (OpenSpec.ofChange itemBackWrong)

/-- 'tenementlaw08.ItemParts': WHATEVER THE INPUT: true; the input reads as it did. -/
def itemPartsSpec : ChangeSpec := { name := "itemParts", fn := fun _ => fun
  | [d1, d2] => { results := [.lit (.bool true)], args := [d1, d2] }
  | _ => none }
def itemPartsRow : OpenClaim := { program := "ytoogchgoiciggaa", sum := "7dffdcaddee2c1276e214dc461efc8655f9bf4694a842e4823aeaab24b665a2a", func := "tenement/tenementlaw08.ItemParts", spec := "itemParts", unfollowed := true, recurses := true, plainKeys := false, apart := false }
def ItemPartsSaid : Prop := itemPartsRow.holds Try.pinned (OpenSpec.ofChange itemPartsSpec)

/-- ITS FALSE NEIGHBOUR: 'it returns false'. Refute it at one input. -/
def itemPartsWrong : ChangeSpec := { name := "itemParts", fn := fun _ => fun
  | [d1, d2] => { results := [.lit (.bool false)], args := [d1, d2] }
  | _ => none }
def ItemPartsWrongFalsely : Prop := itemPartsRow.holds Try.pinned (OpenSpec.ofChange itemPartsWrong)

/-- 'tenementlaw08.ItemWhole': WHATEVER THE INPUT: true; the input reads as it did. -/
def itemWholeSpec : ChangeSpec := { name := "itemWhole", fn := fun _ => fun
  | [d1, d2] => { results := [.lit (.bool true)], args := [d1, d2] }
  | _ => none }
def itemWholeRow : OpenClaim := { program := "ytoogchgoiciggaa", sum := "7dffdcaddee2c1276e214dc461efc8655f9bf4694a842e4823aeaab24b665a2a", func := "tenement/tenementlaw08.ItemWhole", spec := "itemWhole", unfollowed := true, recurses := true, plainKeys := false, apart := false }
def ItemWholeSaid : Prop := itemWholeRow.holds Try.pinned (OpenSpec.ofChange itemWholeSpec)

/-- ITS FALSE NEIGHBOUR: 'it returns false'. Refute it at one input. -/
def itemWholeWrong : ChangeSpec := { name := "itemWhole", fn := fun _ => fun
  | [d1, d2] => { results := [.lit (.bool false)], args := [d1, d2] }
  | _ => none }
def ItemWholeWrongFalsely : Prop := itemWholeRow.holds Try.pinned (OpenSpec.ofChange itemWholeWrong)

/-- 'tenementlaw08.ItemSame': WHATEVER THE INPUT: true; the input reads as it did. -/
def itemSameSpec : ChangeSpec := { name := "itemSame", fn := fun _ => fun
  | [d1, d2] => { results := [.lit (.bool true)], args := [d1, d2] }
  | _ => none }
def itemSameRow : OpenClaim := { program := "ytoogchgoiciggaa", sum := "7dffdcaddee2c1276e214dc461efc8655f9bf4694a842e4823aeaab24b665a2a", func := "tenement/tenementlaw08.ItemSame", spec := "itemSame", unfollowed := true, recurses := true, plainKeys := false, apart := false }
def ItemSameSaid : Prop := itemSameRow.holds Try.pinned (OpenSpec.ofChange itemSameSpec)

/-- ITS FALSE NEIGHBOUR: 'it returns false'. Refute it at one input. -/
def itemSameWrong : ChangeSpec := { name := "itemSame", fn := fun _ => fun
  | [d1, d2] => { results := [.lit (.bool false)], args := [d1, d2] }
  | _ => none }
def ItemSameWrongFalsely : Prop := itemSameRow.holds Try.pinned (OpenSpec.ofChange itemSameWrong)

/-- 'tenementlaw08.ItemSizes': WHATEVER THE INPUT: true; the input reads as it did. -/
def itemSizesSpec : ChangeSpec := { name := "itemSizes", fn := fun _ => fun
  | [d1, d2, d3, d4] => { results := [.lit (.bool true)], args := [d1, d2, d3, d4] }
  | _ => none }
def itemSizesRow : OpenClaim := { program := "ytoogchgoiciggaa", sum := "7dffdcaddee2c1276e214dc461efc8655f9bf4694a842e4823aeaab24b665a2a", func := "tenement/tenementlaw08.ItemSizes", spec := "itemSizes", unfollowed := true, recurses := true, plainKeys := false, apart := false }
def ItemSizesSaid : Prop := itemSizesRow.holds Try.pinned (OpenSpec.ofChange itemSizesSpec)

/-- ITS FALSE NEIGHBOUR: 'it returns false'. Refute it at one input. -/
def itemSizesWrong : ChangeSpec := { name := "itemSizes", fn := fun _ => fun
  | [d1, d2, d3, d4] => { results := [.lit (.bool false)], args := [d1, d2, d3, d4] }
  | _ => none }
def ItemSizesWrongFalsely : Prop := itemSizesRow.holds Try.pinned (OpenSpec.ofChange itemSizesWrong)

/- THE SECOND FORM. 'bulk': how many values and letters a reading holds, each counted each time it is reached (what is shared counts as often as it is met; a slice's spare places count too). A statement '..UptoSaid' is the law's where the arguments, and the package variables that the reading takes, are together of bulk at most 1048576: NARROWER than '..Said'. Prove '..Said' where nothing that the law and all that it calls make is longer than what came in: it says more and counts as full. Else prove '..UptoSaid'. A law counts once. -/
mutual
def uptoBulk {H : Type} : DataW H → Nat
  | .lit (.string bytes) => bytes.length + 1
  | .lit _ => 1
  | .nil => 1
  | .ptr d => uptoBulk d + 1
  | .slice elems spare => uptoBulkAll elems + uptoBulkAll spare + 1
  | .agg parts => uptoBulkAll parts + 1
  | .iface _ d => uptoBulk d + 1
  | .map entries => uptoBulkEntries entries + 1
  | .held _ => 1
def uptoBulkAll {H : Type} : List (DataW H) → Nat
  | [] => 0
  | d :: r => uptoBulk d + uptoBulkAll r
def uptoBulkEntries {H : Type} : List (Lit × DataW H) → Nat
  | [] => 0
  | x :: r => uptoBulkEntry x + uptoBulkEntries r
def uptoBulkEntry {H : Type} : Lit × DataW H → Nat
  | (.string bytes, d) => bytes.length + uptoBulk d + 1
  | (_, d) => uptoBulk d + 1
 end
def uptoSmall : (H : Type) → List (DataW H) → Bool := fun _ ds => decide (uptoBulkAll ds ≤ 1048576)
def OpenSpec.upto (s : _root_.Go.ChangeSpec) : _root_.Go.OpenSpec := { _root_.Go.OpenSpec.ofChange s with cond := some uptoSmall }

/-- 'tenementlaw08.ItemTells', WHERE WHAT IT READS IS OF BULK AT MOST 1048576: true; the input reads as it did. -/
def itemTellsUptoRow : OpenClaim := { program := "ytoogchgoiciggaa", sum := "7dffdcaddee2c1276e214dc461efc8655f9bf4694a842e4823aeaab24b665a2a", func := "tenement/tenementlaw08.ItemTells", spec := "itemTells", unfollowed := true, recurses := true, plainKeys := false, apart := false, narrowed := true }
def ItemTellsUptoSaid : Prop := itemTellsUptoRow.holds Try.pinned (OpenSpec.upto itemTellsSpec)

/-- 'tenementlaw08.ItemShards', WHERE WHAT IT READS IS OF BULK AT MOST 1048576: true; the input reads as it did. -/
def itemShardsUptoRow : OpenClaim := { program := "ytoogchgoiciggaa", sum := "7dffdcaddee2c1276e214dc461efc8655f9bf4694a842e4823aeaab24b665a2a", func := "tenement/tenementlaw08.ItemShards", spec := "itemShards", unfollowed := true, recurses := true, plainKeys := false, apart := false, narrowed := true }
def ItemShardsUptoSaid : Prop := itemShardsUptoRow.holds Try.pinned (OpenSpec.upto itemShardsSpec)

/-- 'tenementlaw08.ItemReads', WHERE WHAT IT READS IS OF BULK AT MOST 1048576: true; the input reads as it did. -/
def itemReadsUptoRow : OpenClaim := { program := "ytoogchgoiciggaa", sum := "7dffdcaddee2c1276e214dc461efc8655f9bf4694a842e4823aeaab24b665a2a", func := "tenement/tenementlaw08.ItemReads", spec := "itemReads", unfollowed := true, recurses := true, plainKeys := false, apart := false, narrowed := true }
def ItemReadsUptoSaid : Prop := itemReadsUptoRow.holds Try.pinned (OpenSpec.upto itemReadsSpec)

/-- 'tenementlaw08.ItemBack', WHERE WHAT IT READS IS OF BULK AT MOST 1048576: true; the input reads as it did. -/
def itemBackUptoRow : OpenClaim := { program := "ytoogchgoiciggaa", sum := "7dffdcaddee2c1276e214dc461efc8655f9bf4694a842e4823aeaab24b665a2a", func := "tenement/tenementlaw08.ItemBack", spec := "itemBack", unfollowed := true, recurses := true, plainKeys := false, apart := false, narrowed := true }
def ItemBackUptoSaid : Prop := itemBackUptoRow.holds Try.pinned (OpenSpec.upto itemBackSpec)

/-- 'tenementlaw08.ItemParts', WHERE WHAT IT READS IS OF BULK AT MOST 1048576: true; the input reads as it did. -/
def itemPartsUptoRow : OpenClaim := { program := "ytoogchgoiciggaa", sum := "7dffdcaddee2c1276e214dc461efc8655f9bf4694a842e4823aeaab24b665a2a", func := "tenement/tenementlaw08.ItemParts", spec := "itemParts", unfollowed := true, recurses := true, plainKeys := false, apart := false, narrowed := true }
def ItemPartsUptoSaid : Prop := itemPartsUptoRow.holds Try.pinned (OpenSpec.upto itemPartsSpec)

/-- 'tenementlaw08.ItemWhole', WHERE WHAT IT READS IS OF BULK AT MOST 1048576: true; the input reads as it did. -/
def itemWholeUptoRow : OpenClaim := { program := "ytoogchgoiciggaa", sum := "7dffdcaddee2c1276e214dc461efc8655f9bf4694a842e4823aeaab24b665a2a", func := "tenement/tenementlaw08.ItemWhole", spec := "itemWhole", unfollowed := true, recurses := true, plainKeys := false, apart := false, narrowed := true }
def ItemWholeUptoSaid : Prop := itemWholeUptoRow.holds Try.pinned (OpenSpec.upto itemWholeSpec)

/-- 'tenementlaw08.ItemSame', WHERE WHAT IT READS IS OF BULK AT MOST 1048576: true; the input reads as it did. -/
def itemSameUptoRow : OpenClaim := { program := "ytoogchgoiciggaa", sum := "7dffdcaddee2c1276e214dc461efc8655f9bf4694a842e4823aeaab24b665a2a", func := "tenement/tenementlaw08.ItemSame", spec := "itemSame", unfollowed := true, recurses := true, plainKeys := false, apart := false, narrowed := true }
def ItemSameUptoSaid : Prop := itemSameUptoRow.holds Try.pinned (OpenSpec.upto itemSameSpec)

/-- 'tenementlaw08.ItemSizes', WHERE WHAT IT READS IS OF BULK AT MOST 1048576: true; the input reads as it did. -/
def itemSizesUptoRow : OpenClaim := { program := "ytoogchgoiciggaa", sum := "7dffdcaddee2c1276e214dc461efc8655f9bf4694a842e4823aeaab24b665a2a", func := "tenement/tenementlaw08.ItemSizes", spec := "itemSizes", unfollowed := true, recurses := true, plainKeys := false, apart := false, narrowed := true }
def ItemSizesUptoSaid : Prop := itemSizesUptoRow.holds Try.pinned (OpenSpec.upto itemSizesSpec)

end Rows
end Go.Proofs.Ytoogchgoiciggaa
