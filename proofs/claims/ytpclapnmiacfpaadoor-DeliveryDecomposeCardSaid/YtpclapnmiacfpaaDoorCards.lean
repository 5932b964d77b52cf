/-
  DERIVED. GIVEN WITH THE SEED: THE CARDS: each row of YtpclapnmiacfpaaDoorRows.lean that lists a variable, with what it lists TIED to the program's text (the seventh form; the later family's looks); each row that meets fmt, with fmt's text TOLD by the authors' own Lean function (tested against real Go, not proved from fmt's source: count such statements apart). THE CARD IS WHAT COUNTS. Prove the row's statement (the work); the ties are given (YtpclapnmiacfpaaDoorTie.lean); close each card by the builder's one call (the guide's Derived/Test/ToyasCard.lean, 'card_holds'). Laid BY PROGRAM, IN A SANDBOX (cutbox-door.mjs). By AI agents, Wed Nov 11 2026. No macro, syntax, notation, axiom, sorry.
-/
import Derived.Test.YtpclapnmiacfpaaDoorRows
import GoSem.ClaimSeven
namespace Go.Proofs.YtpclapnmiacfpaaDoor
namespace Rows

/-- THE TIED CARD OF 'girolaw39.DeliveryPostings'. -/
def deliveryPostingsCard : Claim7 := { stood := { row := deliveryPostingsRow, standIns := [], harness := (true, "506942008ba414b330f5c06cf87070577cb0f70e75d9183dd8bfb508c2bbb3da"), looks := false }, kinds := [], alts := [], laidByText := true, laidKinds := [.data, .data, .data], laidTests := true, laidLooks := .later }
def DeliveryPostingsCardSaid : Prop := Claim7.holds Tryd.pinned (.plain (OpenSpec.ofChange deliveryPostingsSpec)) deliveryPostingsCard

/-- THE TIED CARD OF 'girolaw39.DeliveryDecompose'. -/
def deliveryDecomposeCard : Claim7 := { stood := { row := deliveryDecomposeRow, standIns := [], harness := (true, "506942008ba414b330f5c06cf87070577cb0f70e75d9183dd8bfb508c2bbb3da"), looks := false }, kinds := [], alts := [], laidByText := true, laidKinds := [.data, .data, .data], laidTests := true, laidLooks := .later }
def DeliveryDecomposeCardSaid : Prop := Claim7.holds Tryd.pinned (.plain (OpenSpec.ofChange deliveryDecomposeSpec)) deliveryDecomposeCard

/-- THE TIED CARD OF 'girolaw39.DeliveryVersusPayment'. -/
def deliveryVersusPaymentCard : Claim7 := { stood := { row := deliveryVersusPaymentRow, standIns := [], harness := (true, "506942008ba414b330f5c06cf87070577cb0f70e75d9183dd8bfb508c2bbb3da"), looks := false }, kinds := [], alts := [], laidByText := true, laidKinds := [.data, .data, .data], laidTests := true, laidLooks := .later }
def DeliveryVersusPaymentCardSaid : Prop := Claim7.holds Tryd.pinned (.plain (OpenSpec.ofChange deliveryVersusPaymentSpec)) deliveryVersusPaymentCard

/-- THE TIED CARD OF 'girolaw39.DeliveryLegs'. -/
def deliveryLegsCard : Claim7 := { stood := { row := deliveryLegsRow, standIns := [], harness := (true, "506942008ba414b330f5c06cf87070577cb0f70e75d9183dd8bfb508c2bbb3da"), looks := false }, kinds := [], alts := [], laidByText := true, laidKinds := [.data, .data, .data], laidTests := true, laidLooks := .later }
def DeliveryLegsCardSaid : Prop := Claim7.holds Tryd.pinned (.plain (OpenSpec.ofChange deliveryLegsSpec)) deliveryLegsCard

/-- THE TIED CARD OF 'girolaw39.DeliveryItems'. -/
def deliveryItemsCard : Claim7 := { stood := { row := deliveryItemsRow, standIns := [], harness := (true, "506942008ba414b330f5c06cf87070577cb0f70e75d9183dd8bfb508c2bbb3da"), looks := false }, kinds := [], alts := [], laidByText := true, laidKinds := [.data, .data, .data], laidTests := true, laidLooks := .later }
def DeliveryItemsCardSaid : Prop := Claim7.holds Tryd.pinned (.plain (OpenSpec.ofChange deliveryItemsSpec)) deliveryItemsCard

/-- THE SECOND FORM's CARD OF 'girolaw39.DeliveryPostings'. -/
def deliveryPostingsUptoCard : Claim7 := { stood := { row := deliveryPostingsUptoRow, standIns := [], harness := (true, "506942008ba414b330f5c06cf87070577cb0f70e75d9183dd8bfb508c2bbb3da"), looks := false }, kinds := [], alts := [], laidByText := true, laidKinds := [.data, .data, .data], laidTests := true, laidLooks := .later }
def DeliveryPostingsUptoCardSaid : Prop := Claim7.holds Tryd.pinned (.plain (OpenSpec.upto deliveryPostingsSpec)) deliveryPostingsUptoCard

/-- THE SECOND FORM's CARD OF 'girolaw39.DeliveryDecompose'. -/
def deliveryDecomposeUptoCard : Claim7 := { stood := { row := deliveryDecomposeUptoRow, standIns := [], harness := (true, "506942008ba414b330f5c06cf87070577cb0f70e75d9183dd8bfb508c2bbb3da"), looks := false }, kinds := [], alts := [], laidByText := true, laidKinds := [.data, .data, .data], laidTests := true, laidLooks := .later }
def DeliveryDecomposeUptoCardSaid : Prop := Claim7.holds Tryd.pinned (.plain (OpenSpec.upto deliveryDecomposeSpec)) deliveryDecomposeUptoCard

/-- THE SECOND FORM's CARD OF 'girolaw39.DeliveryVersusPayment'. -/
def deliveryVersusPaymentUptoCard : Claim7 := { stood := { row := deliveryVersusPaymentUptoRow, standIns := [], harness := (true, "506942008ba414b330f5c06cf87070577cb0f70e75d9183dd8bfb508c2bbb3da"), looks := false }, kinds := [], alts := [], laidByText := true, laidKinds := [.data, .data, .data], laidTests := true, laidLooks := .later }
def DeliveryVersusPaymentUptoCardSaid : Prop := Claim7.holds Tryd.pinned (.plain (OpenSpec.upto deliveryVersusPaymentSpec)) deliveryVersusPaymentUptoCard

/-- THE SECOND FORM's CARD OF 'girolaw39.DeliveryLegs'. -/
def deliveryLegsUptoCard : Claim7 := { stood := { row := deliveryLegsUptoRow, standIns := [], harness := (true, "506942008ba414b330f5c06cf87070577cb0f70e75d9183dd8bfb508c2bbb3da"), looks := false }, kinds := [], alts := [], laidByText := true, laidKinds := [.data, .data, .data], laidTests := true, laidLooks := .later }
def DeliveryLegsUptoCardSaid : Prop := Claim7.holds Tryd.pinned (.plain (OpenSpec.upto deliveryLegsSpec)) deliveryLegsUptoCard

/-- THE SECOND FORM's CARD OF 'girolaw39.DeliveryItems'. -/
def deliveryItemsUptoCard : Claim7 := { stood := { row := deliveryItemsUptoRow, standIns := [], harness := (true, "506942008ba414b330f5c06cf87070577cb0f70e75d9183dd8bfb508c2bbb3da"), looks := false }, kinds := [], alts := [], laidByText := true, laidKinds := [.data, .data, .data], laidTests := true, laidLooks := .later }
def DeliveryItemsUptoCardSaid : Prop := Claim7.holds Tryd.pinned (.plain (OpenSpec.upto deliveryItemsSpec)) deliveryItemsUptoCard
end Rows
end Go.Proofs.YtpclapnmiacfpaaDoor
