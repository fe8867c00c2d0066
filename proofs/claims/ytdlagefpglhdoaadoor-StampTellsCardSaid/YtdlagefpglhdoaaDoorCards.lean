/-
  DERIVED. GIVEN WITH THE SEED: THE CARDS: each row of YtdlagefpglhdoaaDoorRows.lean that lists a variable, with what it lists TIED to the program's text (the seventh form; the later family's looks); each row that meets fmt, with fmt's text TOLD by the authors' own Lean function (tested against real Go, not proved from fmt's source: count such statements apart). THE CARD IS WHAT COUNTS. Prove the row's statement (the work); the ties are given (YtdlagefpglhdoaaDoorTie.lean); close each card by the builder's one call (the guide's Derived/Test/ToyasCard.lean, 'card_holds'). Laid BY PROGRAM, IN A SANDBOX (cutbox-door.mjs). By AI agents, Wed Nov 11 2026. No macro, syntax, notation, axiom, sorry.
-/
import Derived.Test.YtdlagefpglhdoaaDoorRows
import GoSem.ClaimSeven
namespace Go.Proofs.YtdlagefpglhdoaaDoor
namespace Rows

/-- THE TIED CARD OF 'tenementlaw07.StampTells'. -/
def stampTellsCard : Claim7 := { stood := { row := stampTellsRow, standIns := [], harness := (true, "49c2ae2d15d1b97b1178b471d14110f6ec580e7a702fecc17bd9d571336ea81c"), looks := false }, kinds := [], alts := [], laidByText := true, laidKinds := [.data, .data, .data], laidTests := true, laidLooks := .later }
def StampTellsCardSaid : Prop := Claim7.holds Tryd.pinned (.plain (OpenSpec.ofChange stampTellsSpec)) stampTellsCard

/-- THE TIED CARD OF 'tenementlaw07.StampGets'. -/
def stampGetsCard : Claim7 := { stood := { row := stampGetsRow, standIns := [], harness := (true, "49c2ae2d15d1b97b1178b471d14110f6ec580e7a702fecc17bd9d571336ea81c"), looks := false }, kinds := [], alts := [], laidByText := true, laidKinds := [.data, .data, .data], laidTests := true, laidLooks := .later }
def StampGetsCardSaid : Prop := Claim7.holds Tryd.pinned (.plain (OpenSpec.ofChange stampGetsSpec)) stampGetsCard

/-- THE TIED CARD OF 'tenementlaw07.StampOrder'. -/
def stampOrderCard : Claim7 := { stood := { row := stampOrderRow, standIns := [], harness := (true, "49c2ae2d15d1b97b1178b471d14110f6ec580e7a702fecc17bd9d571336ea81c"), looks := false }, kinds := [], alts := [], laidByText := true, laidKinds := [.data, .data, .data], laidTests := true, laidLooks := .later }
def StampOrderCardSaid : Prop := Claim7.holds Tryd.pinned (.plain (OpenSpec.ofChange stampOrderSpec)) stampOrderCard

/-- THE TIED CARD OF 'tenementlaw07.StampBack'. -/
def stampBackCard : Claim7 := { stood := { row := stampBackRow, standIns := [], harness := (true, "49c2ae2d15d1b97b1178b471d14110f6ec580e7a702fecc17bd9d571336ea81c"), looks := false }, kinds := [], alts := [], laidByText := true, laidKinds := [.data, .data, .data], laidTests := true, laidLooks := .later }
def StampBackCardSaid : Prop := Claim7.holds Tryd.pinned (.plain (OpenSpec.ofChange stampBackSpec)) stampBackCard

/-- THE TIED CARD OF 'tenementlaw07.StampBounds'. -/
def stampBoundsCard : Claim7 := { stood := { row := stampBoundsRow, standIns := [], harness := (true, "49c2ae2d15d1b97b1178b471d14110f6ec580e7a702fecc17bd9d571336ea81c"), looks := false }, kinds := [], alts := [], laidByText := true, laidKinds := [.data, .data, .data], laidTests := true, laidLooks := .later }
def StampBoundsCardSaid : Prop := Claim7.holds Tryd.pinned (.plain (OpenSpec.ofChange stampBoundsSpec)) stampBoundsCard

/-- THE TIED CARD OF 'tenementlaw07.StampSeen'. -/
def stampSeenCard : Claim7 := { stood := { row := stampSeenRow, standIns := [], harness := (true, "49c2ae2d15d1b97b1178b471d14110f6ec580e7a702fecc17bd9d571336ea81c"), looks := false }, kinds := [], alts := [], laidByText := true, laidKinds := [.data, .data, .data], laidTests := true, laidLooks := .later }
def StampSeenCardSaid : Prop := Claim7.holds Tryd.pinned (.plain (OpenSpec.ofChange stampSeenSpec)) stampSeenCard

/-- THE SECOND FORM's CARD OF 'tenementlaw07.StampTells'. -/
def stampTellsUptoCard : Claim7 := { stood := { row := stampTellsUptoRow, standIns := [], harness := (true, "49c2ae2d15d1b97b1178b471d14110f6ec580e7a702fecc17bd9d571336ea81c"), looks := false }, kinds := [], alts := [], laidByText := true, laidKinds := [.data, .data, .data], laidTests := true, laidLooks := .later }
def StampTellsUptoCardSaid : Prop := Claim7.holds Tryd.pinned (.plain (OpenSpec.upto stampTellsSpec)) stampTellsUptoCard

/-- THE SECOND FORM's CARD OF 'tenementlaw07.StampGets'. -/
def stampGetsUptoCard : Claim7 := { stood := { row := stampGetsUptoRow, standIns := [], harness := (true, "49c2ae2d15d1b97b1178b471d14110f6ec580e7a702fecc17bd9d571336ea81c"), looks := false }, kinds := [], alts := [], laidByText := true, laidKinds := [.data, .data, .data], laidTests := true, laidLooks := .later }
def StampGetsUptoCardSaid : Prop := Claim7.holds Tryd.pinned (.plain (OpenSpec.upto stampGetsSpec)) stampGetsUptoCard

/-- THE SECOND FORM's CARD OF 'tenementlaw07.StampOrder'. -/
def stampOrderUptoCard : Claim7 := { stood := { row := stampOrderUptoRow, standIns := [], harness := (true, "49c2ae2d15d1b97b1178b471d14110f6ec580e7a702fecc17bd9d571336ea81c"), looks := false }, kinds := [], alts := [], laidByText := true, laidKinds := [.data, .data, .data], laidTests := true, laidLooks := .later }
def StampOrderUptoCardSaid : Prop := Claim7.holds Tryd.pinned (.plain (OpenSpec.upto stampOrderSpec)) stampOrderUptoCard

/-- THE SECOND FORM's CARD OF 'tenementlaw07.StampBack'. -/
def stampBackUptoCard : Claim7 := { stood := { row := stampBackUptoRow, standIns := [], harness := (true, "49c2ae2d15d1b97b1178b471d14110f6ec580e7a702fecc17bd9d571336ea81c"), looks := false }, kinds := [], alts := [], laidByText := true, laidKinds := [.data, .data, .data], laidTests := true, laidLooks := .later }
def StampBackUptoCardSaid : Prop := Claim7.holds Tryd.pinned (.plain (OpenSpec.upto stampBackSpec)) stampBackUptoCard

/-- THE SECOND FORM's CARD OF 'tenementlaw07.StampBounds'. -/
def stampBoundsUptoCard : Claim7 := { stood := { row := stampBoundsUptoRow, standIns := [], harness := (true, "49c2ae2d15d1b97b1178b471d14110f6ec580e7a702fecc17bd9d571336ea81c"), looks := false }, kinds := [], alts := [], laidByText := true, laidKinds := [.data, .data, .data], laidTests := true, laidLooks := .later }
def StampBoundsUptoCardSaid : Prop := Claim7.holds Tryd.pinned (.plain (OpenSpec.upto stampBoundsSpec)) stampBoundsUptoCard

/-- THE SECOND FORM's CARD OF 'tenementlaw07.StampSeen'. -/
def stampSeenUptoCard : Claim7 := { stood := { row := stampSeenUptoRow, standIns := [], harness := (true, "49c2ae2d15d1b97b1178b471d14110f6ec580e7a702fecc17bd9d571336ea81c"), looks := false }, kinds := [], alts := [], laidByText := true, laidKinds := [.data, .data, .data], laidTests := true, laidLooks := .later }
def StampSeenUptoCardSaid : Prop := Claim7.holds Tryd.pinned (.plain (OpenSpec.upto stampSeenSpec)) stampSeenUptoCard
end Rows
end Go.Proofs.YtdlagefpglhdoaaDoor
