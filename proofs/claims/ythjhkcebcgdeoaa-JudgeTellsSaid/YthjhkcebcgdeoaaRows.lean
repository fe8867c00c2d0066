/-
  No cell of these rows narrows 'for every input' (looked for: loops, veiled, ifaces, maps, wideKeys, modest, calm, conditions, laid).
  DERIVED. THE GIVEN ROWS OF THIS SEAT. 7 by the template 'for every input the law returns true; each argument reads behind the call as it read before'; 0 by the template 'total and deterministic' (their statements: YthjhkcebcgdeoaaTotals.lean).
  GIVEN WITH THE SEED: the statements are not yours to turn. If you find one false, say at which input.
  Laid BY PROGRAM, IN A SANDBOX (cutbox-rows.mjs): the forced cells as the released guide's own fill.sh prints them over the translation 3bfbc18c83405e77… (all of the seat's roots in one cut). By AI agents, Wed Nov 11 2026. No macro, syntax, notation, axiom, sorry.
-/
import Derived.Test.YthjhkcebcgdeoaaChecked
import GoSem.Claim
import GoSem.ClaimJoined
import GoSem.ClaimMapViews
import Derived.JoinedTies
import Derived.KernelRfl
namespace Go.Proofs.Ythjhkcebcgdeoaa
/- THE CELL 'sum', in the pinned program and in every row, IS THE sha256 OF THE DUMP (.gsa) THAT YthjhkcebcgdeoaaProg.lean LOADS. Nothing in Lean hashes anything: it is a label: what it is worth is what the hold of that sum in a sandbox is worth. -/
noncomputable def Try.pinned : Pinned := { name := "ythjhkcebcgdeoaa", sum := "3bfbc18c83405e7730b9774b44c3761a235800d6a9be4659e59c7d7b6cba100c", checked := Try.checked }
namespace Rows
def none {H : Type} : Left H := { results := [], args := [] }

/-- 'tenementlaw22.JudgeTells': WHATEVER THE INPUT: true; the input reads as it did. -/
def judgeTellsSpec : ChangeSpec := { name := "judgeTells", fn := fun _ => fun
  | [d1, d2, d3, d4, d5] => { results := [.lit (.bool true)], args := [d1, d2, d3, d4, d5] }
  | _ => none }
def judgeTellsRow : OpenClaim := { program := "ythjhkcebcgdeoaa", sum := "3bfbc18c83405e7730b9774b44c3761a235800d6a9be4659e59c7d7b6cba100c", func := "tenement/tenementlaw22.JudgeTells", spec := "judgeTells", unfollowed := true, recurses := true, plainKeys := false, apart := false }
def JudgeTellsSaid : Prop := judgeTellsRow.holds Try.pinned (OpenSpec.ofChange judgeTellsSpec)

/-- ITS FALSE NEIGHBOUR: 'it returns false'. Refute it at one input. -/
def judgeTellsWrong : ChangeSpec := { name := "judgeTells", fn := fun _ => fun
  | [d1, d2, d3, d4, d5] => { results := [.lit (.bool false)], args := [d1, d2, d3, d4, d5] }
  | _ => none }
def JudgeTellsWrongFalsely : Prop := judgeTellsRow.holds Try.pinned (OpenSpec.ofChange judgeTellsWrong)

/-- 'tenementlaw22.JudgeLive': WHATEVER THE INPUT: true; the input reads as it did. -/
def judgeLiveSpec : ChangeSpec := { name := "judgeLive", fn := fun _ => fun
  | [d1, d2] => { results := [.lit (.bool true)], args := [d1, d2] }
  | _ => none }
def judgeLiveRow : OpenClaim := { program := "ythjhkcebcgdeoaa", sum := "3bfbc18c83405e7730b9774b44c3761a235800d6a9be4659e59c7d7b6cba100c", func := "tenement/tenementlaw22.JudgeLive", spec := "judgeLive", unfollowed := true, recurses := true, plainKeys := false, apart := false }
def JudgeLiveSaid : Prop := judgeLiveRow.holds Try.pinned (OpenSpec.ofChange judgeLiveSpec)

/-- ITS FALSE NEIGHBOUR: 'it returns false'. Refute it at one input. -/
def judgeLiveWrong : ChangeSpec := { name := "judgeLive", fn := fun _ => fun
  | [d1, d2] => { results := [.lit (.bool false)], args := [d1, d2] }
  | _ => none }
def JudgeLiveWrongFalsely : Prop := judgeLiveRow.holds Try.pinned (OpenSpec.ofChange judgeLiveWrong)

/-- 'tenementlaw22.JudgeOrders': WHATEVER THE INPUT: true; the input reads as it did. -/
def judgeOrdersSpec : ChangeSpec := { name := "judgeOrders", fn := fun _ => fun
  | [d] => { results := [.lit (.bool true)], args := [d] }
  | _ => none }
def judgeOrdersRow : OpenClaim := { program := "ythjhkcebcgdeoaa", sum := "3bfbc18c83405e7730b9774b44c3761a235800d6a9be4659e59c7d7b6cba100c", func := "tenement/tenementlaw22.JudgeOrders", spec := "judgeOrders", unfollowed := true, recurses := true, plainKeys := false, apart := false }
def JudgeOrdersSaid : Prop := judgeOrdersRow.holds Try.pinned (OpenSpec.ofChange judgeOrdersSpec)

/-- ITS FALSE NEIGHBOUR: 'it returns false'. Refute it at one input. -/
def judgeOrdersWrong : ChangeSpec := { name := "judgeOrders", fn := fun _ => fun
  | [d] => { results := [.lit (.bool false)], args := [d] }
  | _ => none }
def JudgeOrdersWrongFalsely : Prop := judgeOrdersRow.holds Try.pinned (OpenSpec.ofChange judgeOrdersWrong)

/-- 'tenementlaw22.JudgeAlike': WHATEVER THE INPUT: true; the input reads as it did. -/
def judgeAlikeSpec : ChangeSpec := { name := "judgeAlike", fn := fun _ => fun
  | [d1, d2] => { results := [.lit (.bool true)], args := [d1, d2] }
  | _ => none }
def judgeAlikeRow : OpenClaim := { program := "ythjhkcebcgdeoaa", sum := "3bfbc18c83405e7730b9774b44c3761a235800d6a9be4659e59c7d7b6cba100c", func := "tenement/tenementlaw22.JudgeAlike", spec := "judgeAlike", unfollowed := true, recurses := true, plainKeys := false, apart := false }
def JudgeAlikeSaid : Prop := judgeAlikeRow.holds Try.pinned (OpenSpec.ofChange judgeAlikeSpec)

/-- ITS FALSE NEIGHBOUR: 'it returns false'. Refute it at one input. -/
def judgeAlikeWrong : ChangeSpec := { name := "judgeAlike", fn := fun _ => fun
  | [d1, d2] => { results := [.lit (.bool false)], args := [d1, d2] }
  | _ => none }
def JudgeAlikeWrongFalsely : Prop := judgeAlikeRow.holds Try.pinned (OpenSpec.ofChange judgeAlikeWrong)

/-- 'tenementlaw22.JudgeClosed': WHATEVER THE INPUT: true; the input reads as it did. -/
def judgeClosedSpec : ChangeSpec := { name := "judgeClosed", fn := fun _ => fun
  | [d1, d2, d3] => { results := [.lit (.bool true)], args := [d1, d2, d3] }
  | _ => none }
def judgeClosedRow : OpenClaim := { program := "ythjhkcebcgdeoaa", sum := "3bfbc18c83405e7730b9774b44c3761a235800d6a9be4659e59c7d7b6cba100c", func := "tenement/tenementlaw22.JudgeClosed", spec := "judgeClosed", unfollowed := true, recurses := true, plainKeys := false, apart := false }
def JudgeClosedSaid : Prop := judgeClosedRow.holds Try.pinned (OpenSpec.ofChange judgeClosedSpec)

/-- ITS FALSE NEIGHBOUR: 'it returns false'. Refute it at one input. -/
def judgeClosedWrong : ChangeSpec := { name := "judgeClosed", fn := fun _ => fun
  | [d1, d2, d3] => { results := [.lit (.bool false)], args := [d1, d2, d3] }
  | _ => none }
def JudgeClosedWrongFalsely : Prop := judgeClosedRow.holds Try.pinned (OpenSpec.ofChange judgeClosedWrong)

/-- 'tenementlaw22.JudgeReads': WHATEVER THE INPUT: true; the input reads as it did. -/
def judgeReadsSpec : ChangeSpec := { name := "judgeReads", fn := fun _ => fun
  | [d1, d2, d3, d4] => { results := [.lit (.bool true)], args := [d1, d2, d3, d4] }
  | _ => none }
def judgeReadsRow : OpenClaim := { program := "ythjhkcebcgdeoaa", sum := "3bfbc18c83405e7730b9774b44c3761a235800d6a9be4659e59c7d7b6cba100c", func := "tenement/tenementlaw22.JudgeReads", spec := "judgeReads", unfollowed := true, recurses := true, plainKeys := false, apart := false }
def JudgeReadsSaid : Prop := judgeReadsRow.holds Try.pinned (OpenSpec.ofChange judgeReadsSpec)

/-- ITS FALSE NEIGHBOUR: 'it returns false'. Refute it at one input. -/
def judgeReadsWrong : ChangeSpec := { name := "judgeReads", fn := fun _ => fun
  | [d1, d2, d3, d4] => { results := [.lit (.bool false)], args := [d1, d2, d3, d4] }
  | _ => none }
def JudgeReadsWrongFalsely : Prop := judgeReadsRow.holds Try.pinned (OpenSpec.ofChange judgeReadsWrong)

/-- 'tenementlaw22.JudgeSubsets': WHATEVER THE INPUT: true; the input reads as it did. -/
def judgeSubsetsSpec : ChangeSpec := { name := "judgeSubsets", fn := fun _ => fun
  | [d1, d2] => { results := [.lit (.bool true)], args := [d1, d2] }
  | _ => none }
def judgeSubsetsRow : OpenClaim := { program := "ythjhkcebcgdeoaa", sum := "3bfbc18c83405e7730b9774b44c3761a235800d6a9be4659e59c7d7b6cba100c", func := "tenement/tenementlaw22.JudgeSubsets", spec := "judgeSubsets", unfollowed := true, recurses := true, plainKeys := false, apart := false }
def JudgeSubsetsSaid : Prop := judgeSubsetsRow.holds Try.pinned (OpenSpec.ofChange judgeSubsetsSpec)

/-- ITS FALSE NEIGHBOUR: 'it returns false'. Refute it at one input. -/
def judgeSubsetsWrong : ChangeSpec := { name := "judgeSubsets", fn := fun _ => fun
  | [d1, d2] => { results := [.lit (.bool false)], args := [d1, d2] }
  | _ => none }
def JudgeSubsetsWrongFalsely : Prop := judgeSubsetsRow.holds Try.pinned (OpenSpec.ofChange judgeSubsetsWrong)

/- THE SECOND FORM. 'bulk': how many values and letters a reading holds, each counted each time it is reached (what is shared counts as often as it is met; a slice's spare places count too). A statement '..UptoSaid' is the law's where the arguments, and the package variables that the reading takes, are together of bulk at most 1048576: NARROWER than '..Said'. Prove '..Said' where nothing that the law and all that it calls make is longer than what came in: it says more and counts as full. Else prove '..UptoSaid'. A law counts once. -/
mutual
def uptoBulk {H : Type} : DataW H → Nat
  | .lit (.string bytes) => bytes.length + 1
  | .lit _ => 1
  | .nil => 1
  | .ptr d => uptoBulk d + 1
  | .slice elems spare => uptoBulkAll elems + uptoBulkAll spare + 1
  | .agg parts => uptoBulkAll parts + 1
  | .iface _ d => uptoBulk d + 1
  | .map entries => uptoBulkEntries entries + 1
  | .held _ => 1
def uptoBulkAll {H : Type} : List (DataW H) → Nat
  | [] => 0
  | d :: r => uptoBulk d + uptoBulkAll r
def uptoBulkEntries {H : Type} : List (Lit × DataW H) → Nat
  | [] => 0
  | x :: r => uptoBulkEntry x + uptoBulkEntries r
def uptoBulkEntry {H : Type} : Lit × DataW H → Nat
  | (.string bytes, d) => bytes.length + uptoBulk d + 1
  | (_, d) => uptoBulk d + 1
 end
def uptoSmall : (H : Type) → List (DataW H) → Bool := fun _ ds => decide (uptoBulkAll ds ≤ 1048576)
def OpenSpec.upto (s : _root_.Go.ChangeSpec) : _root_.Go.OpenSpec := { _root_.Go.OpenSpec.ofChange s with cond := some uptoSmall }

/-- 'tenementlaw22.JudgeTells', WHERE WHAT IT READS IS OF BULK AT MOST 1048576: true; the input reads as it did. -/
def judgeTellsUptoRow : OpenClaim := { program := "ythjhkcebcgdeoaa", sum := "3bfbc18c83405e7730b9774b44c3761a235800d6a9be4659e59c7d7b6cba100c", func := "tenement/tenementlaw22.JudgeTells", spec := "judgeTells", unfollowed := true, recurses := true, plainKeys := false, apart := false, narrowed := true }
def JudgeTellsUptoSaid : Prop := judgeTellsUptoRow.holds Try.pinned (OpenSpec.upto judgeTellsSpec)

/-- 'tenementlaw22.JudgeLive', WHERE WHAT IT READS IS OF BULK AT MOST 1048576: true; the input reads as it did. -/
def judgeLiveUptoRow : OpenClaim := { program := "ythjhkcebcgdeoaa", sum := "3bfbc18c83405e7730b9774b44c3761a235800d6a9be4659e59c7d7b6cba100c", func := "tenement/tenementlaw22.JudgeLive", spec := "judgeLive", unfollowed := true, recurses := true, plainKeys := false, apart := false, narrowed := true }
def JudgeLiveUptoSaid : Prop := judgeLiveUptoRow.holds Try.pinned (OpenSpec.upto judgeLiveSpec)

/-- 'tenementlaw22.JudgeOrders', WHERE WHAT IT READS IS OF BULK AT MOST 1048576: true; the input reads as it did. -/
def judgeOrdersUptoRow : OpenClaim := { program := "ythjhkcebcgdeoaa", sum := "3bfbc18c83405e7730b9774b44c3761a235800d6a9be4659e59c7d7b6cba100c", func := "tenement/tenementlaw22.JudgeOrders", spec := "judgeOrders", unfollowed := true, recurses := true, plainKeys := false, apart := false, narrowed := true }
def JudgeOrdersUptoSaid : Prop := judgeOrdersUptoRow.holds Try.pinned (OpenSpec.upto judgeOrdersSpec)

/-- 'tenementlaw22.JudgeAlike', WHERE WHAT IT READS IS OF BULK AT MOST 1048576: true; the input reads as it did. -/
def judgeAlikeUptoRow : OpenClaim := { program := "ythjhkcebcgdeoaa", sum := "3bfbc18c83405e7730b9774b44c3761a235800d6a9be4659e59c7d7b6cba100c", func := "tenement/tenementlaw22.JudgeAlike", spec := "judgeAlike", unfollowed := true, recurses := true, plainKeys := false, apart := false, narrowed := true }
def JudgeAlikeUptoSaid : Prop := judgeAlikeUptoRow.holds Try.pinned (OpenSpec.upto judgeAlikeSpec)

/-- 'tenementlaw22.JudgeClosed', WHERE WHAT IT READS IS OF BULK AT MOST 1048576: true; the input reads as it did. -/
def judgeClosedUptoRow : OpenClaim := { program := "ythjhkcebcgdeoaa", sum := "3bfbc18c83405e7730b9774b44c3761a235800d6a9be4659e59c7d7b6cba100c", func := "tenement/tenementlaw22.JudgeClosed", spec := "judgeClosed", unfollowed := true, recurses := true, plainKeys := false, apart := false, narrowed := true }
def JudgeClosedUptoSaid : Prop := judgeClosedUptoRow.holds Try.pinned (OpenSpec.upto judgeClosedSpec)

/-- 'tenementlaw22.JudgeReads', WHERE WHAT IT READS IS OF BULK AT MOST 1048576: true; the input reads as it did. -/
def judgeReadsUptoRow : OpenClaim := { program := "ythjhkcebcgdeoaa", sum := "3bfbc18c83405e7730b9774b44c3761a235800d6a9be4659e59c7d7b6cba100c", func := "tenement/tenementlaw22.JudgeReads", spec := "judgeReads", unfollowed := true, recurses := true, plainKeys := false, apart := false, narrowed := true }
def JudgeReadsUptoSaid : Prop := judgeReadsUptoRow.holds Try.pinned (OpenSpec.upto judgeReadsSpec)

/-- 'tenementlaw22.JudgeSubsets', WHERE WHAT IT READS IS OF BULK AT MOST 1048576: true; the input reads as it did. -/
def judgeSubsetsUptoRow : OpenClaim := { program := "ythjhkcebcgdeoaa", sum := "3bfbc18c83405e7730b9774b44c3761a235800d6a9be4659e59c7d7b6cba100c", func := "tenement/tenementlaw22.JudgeSubsets", spec := "judgeSubsets", unfollowed := true, recurses := true, plainKeys := false, apart := false, narrowed := true }
def JudgeSubsetsUptoSaid : Prop := judgeSubsetsUptoRow.holds Try.pinned (OpenSpec.upto judgeSubsetsSpec)

end Rows
end Go.Proofs.Ythjhkcebcgdeoaa
