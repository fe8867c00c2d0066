/-
  DERIVED. GIVEN WITH THE SEED: THE CARDS: each row of YtakhahfegialfaaDoorRows.lean that lists a variable, with what it lists TIED to the program's text (the seventh form; the later family's looks); each row that meets fmt, with fmt's text TOLD by the authors' own Lean function (tested against real Go, not proved from fmt's source: count such statements apart). THE CARD IS WHAT COUNTS. Prove the row's statement (the work); the ties are given (YtakhahfegialfaaDoorTie.lean); close each card by the builder's one call (the guide's Derived/Test/ToyasCard.lean, 'card_holds'). Laid BY PROGRAM, IN A SANDBOX (cutbox-door.mjs). By AI agents, Wed Nov 11 2026. No macro, syntax, notation, axiom, sorry.
-/
import Derived.Test.YtakhahfegialfaaDoorRows
import GoSem.ClaimSeven
namespace Go.Proofs.YtakhahfegialfaaDoor
namespace Rows

/-- THE TIED CARD OF 'tenementlaw06.VecTells'. -/
def vecTellsCard : Claim7 := { stood := { row := vecTellsRow, standIns := [], harness := (true, "268da83b956e9e97259e6ff134789e7b845c21d96291d07c8b13b3652481b73e"), looks := false }, kinds := [], alts := [], laidByText := true, laidKinds := [.data, .data, .data], laidTests := true, laidLooks := .later }
def VecTellsCardSaid : Prop := Claim7.holds Tryd.pinned (.plain (OpenSpec.ofChange vecTellsSpec)) vecTellsCard

/-- THE TIED CARD OF 'tenementlaw06.VecGets'. -/
def vecGetsCard : Claim7 := { stood := { row := vecGetsRow, standIns := [], harness := (true, "268da83b956e9e97259e6ff134789e7b845c21d96291d07c8b13b3652481b73e"), looks := false }, kinds := [], alts := [], laidByText := true, laidKinds := [.data, .data, .data], laidTests := true, laidLooks := .later }
def VecGetsCardSaid : Prop := Claim7.holds Tryd.pinned (.plain (OpenSpec.ofChange vecGetsSpec)) vecGetsCard

/-- THE TIED CARD OF 'tenementlaw06.VecJoins'. -/
def vecJoinsCard : Claim7 := { stood := { row := vecJoinsRow, standIns := [], harness := (true, "268da83b956e9e97259e6ff134789e7b845c21d96291d07c8b13b3652481b73e"), looks := false }, kinds := [], alts := [], laidByText := true, laidKinds := [.data, .data, .data], laidTests := true, laidLooks := .later }
def VecJoinsCardSaid : Prop := Claim7.holds Tryd.pinned (.plain (OpenSpec.ofChange vecJoinsSpec)) vecJoinsCard

/-- THE TIED CARD OF 'tenementlaw06.VecOrder'. -/
def vecOrderCard : Claim7 := { stood := { row := vecOrderRow, standIns := [], harness := (true, "268da83b956e9e97259e6ff134789e7b845c21d96291d07c8b13b3652481b73e"), looks := false }, kinds := [], alts := [], laidByText := true, laidKinds := [.data, .data, .data], laidTests := true, laidLooks := .later }
def VecOrderCardSaid : Prop := Claim7.holds Tryd.pinned (.plain (OpenSpec.ofChange vecOrderSpec)) vecOrderCard

/-- THE TIED CARD OF 'tenementlaw06.VecBack'. -/
def vecBackCard : Claim7 := { stood := { row := vecBackRow, standIns := [], harness := (true, "268da83b956e9e97259e6ff134789e7b845c21d96291d07c8b13b3652481b73e"), looks := false }, kinds := [], alts := [], laidByText := true, laidKinds := [.data, .data, .data], laidTests := true, laidLooks := .later }
def VecBackCardSaid : Prop := Claim7.holds Tryd.pinned (.plain (OpenSpec.ofChange vecBackSpec)) vecBackCard

/-- THE TIED CARD OF 'tenementlaw06.VecWith'. -/
def vecWithCard : Claim7 := { stood := { row := vecWithRow, standIns := [], harness := (true, "268da83b956e9e97259e6ff134789e7b845c21d96291d07c8b13b3652481b73e"), looks := false }, kinds := [], alts := [], laidByText := true, laidKinds := [.data, .data, .data], laidTests := true, laidLooks := .later }
def VecWithCardSaid : Prop := Claim7.holds Tryd.pinned (.plain (OpenSpec.ofChange vecWithSpec)) vecWithCard

/-- THE TIED CARD OF 'tenementlaw06.VecAll'. -/
def vecAllCard : Claim7 := { stood := { row := vecAllRow, standIns := [], harness := (true, "268da83b956e9e97259e6ff134789e7b845c21d96291d07c8b13b3652481b73e"), looks := false }, kinds := [], alts := [], laidByText := true, laidKinds := [.data, .data, .data], laidTests := true, laidLooks := .later }
def VecAllCardSaid : Prop := Claim7.holds Tryd.pinned (.plain (OpenSpec.ofChange vecAllSpec)) vecAllCard

/-- THE SECOND FORM's CARD OF 'tenementlaw06.VecTells'. -/
def vecTellsUptoCard : Claim7 := { stood := { row := vecTellsUptoRow, standIns := [], harness := (true, "268da83b956e9e97259e6ff134789e7b845c21d96291d07c8b13b3652481b73e"), looks := false }, kinds := [], alts := [], laidByText := true, laidKinds := [.data, .data, .data], laidTests := true, laidLooks := .later }
def VecTellsUptoCardSaid : Prop := Claim7.holds Tryd.pinned (.plain (OpenSpec.upto vecTellsSpec)) vecTellsUptoCard

/-- THE SECOND FORM's CARD OF 'tenementlaw06.VecGets'. -/
def vecGetsUptoCard : Claim7 := { stood := { row := vecGetsUptoRow, standIns := [], harness := (true, "268da83b956e9e97259e6ff134789e7b845c21d96291d07c8b13b3652481b73e"), looks := false }, kinds := [], alts := [], laidByText := true, laidKinds := [.data, .data, .data], laidTests := true, laidLooks := .later }
def VecGetsUptoCardSaid : Prop := Claim7.holds Tryd.pinned (.plain (OpenSpec.upto vecGetsSpec)) vecGetsUptoCard

/-- THE SECOND FORM's CARD OF 'tenementlaw06.VecJoins'. -/
def vecJoinsUptoCard : Claim7 := { stood := { row := vecJoinsUptoRow, standIns := [], harness := (true, "268da83b956e9e97259e6ff134789e7b845c21d96291d07c8b13b3652481b73e"), looks := false }, kinds := [], alts := [], laidByText := true, laidKinds := [.data, .data, .data], laidTests := true, laidLooks := .later }
def VecJoinsUptoCardSaid : Prop := Claim7.holds Tryd.pinned (.plain (OpenSpec.upto vecJoinsSpec)) vecJoinsUptoCard

/-- THE SECOND FORM's CARD OF 'tenementlaw06.VecOrder'. -/
def vecOrderUptoCard : Claim7 := { stood := { row := vecOrderUptoRow, standIns := [], harness := (true, "268da83b956e9e97259e6ff134789e7b845c21d96291d07c8b13b3652481b73e"), looks := false }, kinds := [], alts := [], laidByText := true, laidKinds := [.data, .data, .data], laidTests := true, laidLooks := .later }
def VecOrderUptoCardSaid : Prop := Claim7.holds Tryd.pinned (.plain (OpenSpec.upto vecOrderSpec)) vecOrderUptoCard

/-- THE SECOND FORM's CARD OF 'tenementlaw06.VecBack'. -/
def vecBackUptoCard : Claim7 := { stood := { row := vecBackUptoRow, standIns := [], harness := (true, "268da83b956e9e97259e6ff134789e7b845c21d96291d07c8b13b3652481b73e"), looks := false }, kinds := [], alts := [], laidByText := true, laidKinds := [.data, .data, .data], laidTests := true, laidLooks := .later }
def VecBackUptoCardSaid : Prop := Claim7.holds Tryd.pinned (.plain (OpenSpec.upto vecBackSpec)) vecBackUptoCard

/-- THE SECOND FORM's CARD OF 'tenementlaw06.VecWith'. -/
def vecWithUptoCard : Claim7 := { stood := { row := vecWithUptoRow, standIns := [], harness := (true, "268da83b956e9e97259e6ff134789e7b845c21d96291d07c8b13b3652481b73e"), looks := false }, kinds := [], alts := [], laidByText := true, laidKinds := [.data, .data, .data], laidTests := true, laidLooks := .later }
def VecWithUptoCardSaid : Prop := Claim7.holds Tryd.pinned (.plain (OpenSpec.upto vecWithSpec)) vecWithUptoCard

/-- THE SECOND FORM's CARD OF 'tenementlaw06.VecAll'. -/
def vecAllUptoCard : Claim7 := { stood := { row := vecAllUptoRow, standIns := [], harness := (true, "268da83b956e9e97259e6ff134789e7b845c21d96291d07c8b13b3652481b73e"), looks := false }, kinds := [], alts := [], laidByText := true, laidKinds := [.data, .data, .data], laidTests := true, laidLooks := .later }
def VecAllUptoCardSaid : Prop := Claim7.holds Tryd.pinned (.plain (OpenSpec.upto vecAllSpec)) vecAllUptoCard
end Rows
end Go.Proofs.YtakhahfegialfaaDoor
