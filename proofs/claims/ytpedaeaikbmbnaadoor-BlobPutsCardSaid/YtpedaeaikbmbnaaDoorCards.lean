/-
  DERIVED. GIVEN WITH THE SEED: THE CARDS: each row of YtpedaeaikbmbnaaDoorRows.lean that lists a variable, with what it lists TIED to the program's text (the seventh form; the later family's looks); each row that meets fmt, with fmt's text TOLD by the authors' own Lean function (tested against real Go, not proved from fmt's source: count such statements apart). THE CARD IS WHAT COUNTS. Prove the row's statement (the work); the ties are given (YtpedaeaikbmbnaaDoorTie.lean); close each card by the builder's one call (the guide's Derived/Test/ToyasCard.lean, 'card_holds'). Laid BY PROGRAM, IN A SANDBOX (cutbox-door.mjs). By AI agents, Wed Nov 11 2026. No macro, syntax, notation, axiom, sorry.
-/
import Derived.Test.YtpedaeaikbmbnaaDoorRows
import GoSem.ClaimSeven
namespace Go.Proofs.YtpedaeaikbmbnaaDoor
namespace Rows

/-- THE TIED CARD OF 'tithinglaw08.AttSigns'. -/
def attSignsCard : Claim7 := { stood := { row := attSignsRow, standIns := [], harness := (true, "7fcc048a7e2da9567ba7f78ecbc16aececed3802d0b0264e315d33bc8d2dbdc5"), looks := false }, kinds := [], alts := [], laidByText := true, laidKinds := [.data, .data], laidTests := true, laidLooks := .later }
def AttSignsCardSaid : Prop := Claim7.holds Tryd.pinned (.plain (OpenSpec.ofChange attSignsSpec)) attSignsCard

/-- THE TIED CARD OF 'tithinglaw08.AttAlikes'. -/
def attAlikesCard : Claim7 := { stood := { row := attAlikesRow, standIns := [], harness := (true, "7fcc048a7e2da9567ba7f78ecbc16aececed3802d0b0264e315d33bc8d2dbdc5"), looks := false }, kinds := [], alts := [], laidByText := true, laidKinds := [.data], laidTests := true, laidLooks := .later }
def AttAlikesCardSaid : Prop := Claim7.holds Tryd.pinned (.plain (OpenSpec.ofChange attAlikesSpec)) attAlikesCard

/-- THE TIED CARD OF 'tithinglaw13.BlobGets'. -/
def blobGetsCard : Claim7 := { stood := { row := blobGetsRow, standIns := [], harness := (true, "7fcc048a7e2da9567ba7f78ecbc16aececed3802d0b0264e315d33bc8d2dbdc5"), looks := false }, kinds := [], alts := [], laidByText := true, laidKinds := [.data, .data], laidTests := true, laidLooks := .later }
def BlobGetsCardSaid : Prop := Claim7.holds Tryd.pinned (.plain (OpenSpec.ofChange blobGetsSpec)) blobGetsCard

/-- THE TIED CARD OF 'tithinglaw13.BlobPuts'. -/
def blobPutsCard : Claim7 := { stood := { row := blobPutsRow, standIns := [], harness := (true, "7fcc048a7e2da9567ba7f78ecbc16aececed3802d0b0264e315d33bc8d2dbdc5"), looks := false }, kinds := [], alts := [], laidByText := true, laidKinds := [.data, .data], laidTests := true, laidLooks := .later }
def BlobPutsCardSaid : Prop := Claim7.holds Tryd.pinned (.plain (OpenSpec.ofChange blobPutsSpec)) blobPutsCard

/-- THE TIED CARD OF 'tithinglaw08.AttReads'. -/
def attReadsCard : Claim7 := { stood := { row := attReadsRow, standIns := [], harness := (true, "7fcc048a7e2da9567ba7f78ecbc16aececed3802d0b0264e315d33bc8d2dbdc5"), looks := false }, kinds := [], alts := [], laidByText := true, laidKinds := [.data], laidTests := true, laidLooks := .later }
def AttReadsCardSaid : Prop := Claim7.holds Tryd.pinned (.plain (OpenSpec.ofChange attReadsSpec)) attReadsCard

/-- THE TIED CARD OF 'tithinglaw08.AttPuts'. -/
def attPutsCard : Claim7 := { stood := { row := attPutsRow, standIns := [], harness := (true, "7fcc048a7e2da9567ba7f78ecbc16aececed3802d0b0264e315d33bc8d2dbdc5"), looks := false }, kinds := [], alts := [], laidByText := true, laidKinds := [.data], laidTests := true, laidLooks := .later }
def AttPutsCardSaid : Prop := Claim7.holds Tryd.pinned (.plain (OpenSpec.ofChange attPutsSpec)) attPutsCard

/-- THE SECOND FORM's CARD OF 'tithinglaw08.AttSigns'. -/
def attSignsUptoCard : Claim7 := { stood := { row := attSignsUptoRow, standIns := [], harness := (true, "7fcc048a7e2da9567ba7f78ecbc16aececed3802d0b0264e315d33bc8d2dbdc5"), looks := false }, kinds := [], alts := [], laidByText := true, laidKinds := [.data, .data], laidTests := true, laidLooks := .later }
def AttSignsUptoCardSaid : Prop := Claim7.holds Tryd.pinned (.plain (OpenSpec.upto attSignsSpec)) attSignsUptoCard

/-- THE SECOND FORM's CARD OF 'tithinglaw08.AttAlikes'. -/
def attAlikesUptoCard : Claim7 := { stood := { row := attAlikesUptoRow, standIns := [], harness := (true, "7fcc048a7e2da9567ba7f78ecbc16aececed3802d0b0264e315d33bc8d2dbdc5"), looks := false }, kinds := [], alts := [], laidByText := true, laidKinds := [.data], laidTests := true, laidLooks := .later }
def AttAlikesUptoCardSaid : Prop := Claim7.holds Tryd.pinned (.plain (OpenSpec.upto attAlikesSpec)) attAlikesUptoCard

/-- THE SECOND FORM's CARD OF 'tithinglaw13.BlobGets'. -/
def blobGetsUptoCard : Claim7 := { stood := { row := blobGetsUptoRow, standIns := [], harness := (true, "7fcc048a7e2da9567ba7f78ecbc16aececed3802d0b0264e315d33bc8d2dbdc5"), looks := false }, kinds := [], alts := [], laidByText := true, laidKinds := [.data, .data], laidTests := true, laidLooks := .later }
def BlobGetsUptoCardSaid : Prop := Claim7.holds Tryd.pinned (.plain (OpenSpec.upto blobGetsSpec)) blobGetsUptoCard

/-- THE SECOND FORM's CARD OF 'tithinglaw13.BlobPuts'. -/
def blobPutsUptoCard : Claim7 := { stood := { row := blobPutsUptoRow, standIns := [], harness := (true, "7fcc048a7e2da9567ba7f78ecbc16aececed3802d0b0264e315d33bc8d2dbdc5"), looks := false }, kinds := [], alts := [], laidByText := true, laidKinds := [.data, .data], laidTests := true, laidLooks := .later }
def BlobPutsUptoCardSaid : Prop := Claim7.holds Tryd.pinned (.plain (OpenSpec.upto blobPutsSpec)) blobPutsUptoCard

/-- THE SECOND FORM's CARD OF 'tithinglaw08.AttReads'. -/
def attReadsUptoCard : Claim7 := { stood := { row := attReadsUptoRow, standIns := [], harness := (true, "7fcc048a7e2da9567ba7f78ecbc16aececed3802d0b0264e315d33bc8d2dbdc5"), looks := false }, kinds := [], alts := [], laidByText := true, laidKinds := [.data], laidTests := true, laidLooks := .later }
def AttReadsUptoCardSaid : Prop := Claim7.holds Tryd.pinned (.plain (OpenSpec.upto attReadsSpec)) attReadsUptoCard

/-- THE SECOND FORM's CARD OF 'tithinglaw08.AttPuts'. -/
def attPutsUptoCard : Claim7 := { stood := { row := attPutsUptoRow, standIns := [], harness := (true, "7fcc048a7e2da9567ba7f78ecbc16aececed3802d0b0264e315d33bc8d2dbdc5"), looks := false }, kinds := [], alts := [], laidByText := true, laidKinds := [.data], laidTests := true, laidLooks := .later }
def AttPutsUptoCardSaid : Prop := Claim7.holds Tryd.pinned (.plain (OpenSpec.upto attPutsSpec)) attPutsUptoCard
end Rows
end Go.Proofs.YtpedaeaikbmbnaaDoor
