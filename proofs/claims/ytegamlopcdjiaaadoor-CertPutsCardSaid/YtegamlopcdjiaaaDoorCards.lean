/-
  DERIVED. GIVEN WITH THE SEED: THE CARDS: each row of YtegamlopcdjiaaaDoorRows.lean that lists a variable, with what it lists TIED to the program's text (the seventh form; the later family's looks); each row that meets fmt, with fmt's text TOLD by the authors' own Lean function (tested against real Go, not proved from fmt's source: count such statements apart). THE CARD IS WHAT COUNTS. Prove the row's statement (the work); the ties are given (YtegamlopcdjiaaaDoorTie.lean); close each card by the builder's one call (the guide's Derived/Test/ToyasCard.lean, 'card_holds'). Laid BY PROGRAM, IN A SANDBOX (cutbox-door.mjs). By AI agents, Wed Nov 11 2026. No macro, syntax, notation, axiom, sorry.
-/
import Derived.Test.YtegamlopcdjiaaaDoorRows
import GoSem.ClaimSeven
namespace Go.Proofs.YtegamlopcdjiaaaDoor
namespace Rows

/-- THE TIED CARD OF 'tithinglaw10.AccuRight'. -/
def accuRightCard : Claim7 := { stood := { row := accuRightRow, standIns := [], harness := (true, "526da861eb12e7ca7e2fc527045aef24094dd4dc78cd82388896d0713aa02ce2"), looks := false }, kinds := [], alts := [], laidByText := true, laidKinds := [.data, .data], laidTests := true, laidLooks := .later }
def AccuRightCardSaid : Prop := Claim7.holds Tryd.pinned (.plain (OpenSpec.ofChange accuRightSpec)) accuRightCard

/-- THE TIED CARD OF 'tithinglaw09.CertRight'. -/
def certRightCard : Claim7 := { stood := { row := certRightRow, standIns := [], harness := (true, "526da861eb12e7ca7e2fc527045aef24094dd4dc78cd82388896d0713aa02ce2"), looks := false }, kinds := [], alts := [], laidByText := true, laidKinds := [.data, .data], laidTests := true, laidLooks := .later }
def CertRightCardSaid : Prop := Claim7.holds Tryd.pinned (.plain (OpenSpec.ofChange certRightSpec)) certRightCard

/-- THE TIED CARD OF 'tithinglaw31.VotesOrder'. -/
def votesOrderCard : Claim7 := { stood := { row := votesOrderRow, standIns := [], harness := (true, "526da861eb12e7ca7e2fc527045aef24094dd4dc78cd82388896d0713aa02ce2"), looks := false }, kinds := [], alts := [], laidByText := true, laidKinds := [.data], laidTests := true, laidLooks := .later }
def VotesOrderCardSaid : Prop := Claim7.holds Tryd.pinned (.plain (OpenSpec.ofChange votesOrderSpec)) votesOrderCard

/-- THE TIED CARD OF 'tithinglaw31.VotesLearns'. -/
def votesLearnsCard : Claim7 := { stood := { row := votesLearnsRow, standIns := [], harness := (true, "526da861eb12e7ca7e2fc527045aef24094dd4dc78cd82388896d0713aa02ce2"), looks := false }, kinds := [], alts := [], laidByText := true, laidKinds := [.data, .data], laidTests := true, laidLooks := .later }
def VotesLearnsCardSaid : Prop := Claim7.holds Tryd.pinned (.plain (OpenSpec.ofChange votesLearnsSpec)) votesLearnsCard

/-- THE TIED CARD OF 'tithinglaw10.AccuPuts'. -/
def accuPutsCard : Claim7 := { stood := { row := accuPutsRow, standIns := [], harness := (true, "526da861eb12e7ca7e2fc527045aef24094dd4dc78cd82388896d0713aa02ce2"), looks := false }, kinds := [], alts := [], laidByText := true, laidKinds := [.data], laidTests := true, laidLooks := .later }
def AccuPutsCardSaid : Prop := Claim7.holds Tryd.pinned (.plain (OpenSpec.ofChange accuPutsSpec)) accuPutsCard

/-- THE TIED CARD OF 'tithinglaw09.CertPuts'. -/
def certPutsCard : Claim7 := { stood := { row := certPutsRow, standIns := [], harness := (true, "526da861eb12e7ca7e2fc527045aef24094dd4dc78cd82388896d0713aa02ce2"), looks := false }, kinds := [], alts := [], laidByText := true, laidKinds := [.data], laidTests := true, laidLooks := .later }
def CertPutsCardSaid : Prop := Claim7.holds Tryd.pinned (.plain (OpenSpec.ofChange certPutsSpec)) certPutsCard

/-- THE SECOND FORM's CARD OF 'tithinglaw10.AccuRight'. -/
def accuRightUptoCard : Claim7 := { stood := { row := accuRightUptoRow, standIns := [], harness := (true, "526da861eb12e7ca7e2fc527045aef24094dd4dc78cd82388896d0713aa02ce2"), looks := false }, kinds := [], alts := [], laidByText := true, laidKinds := [.data, .data], laidTests := true, laidLooks := .later }
def AccuRightUptoCardSaid : Prop := Claim7.holds Tryd.pinned (.plain (OpenSpec.upto accuRightSpec)) accuRightUptoCard

/-- THE SECOND FORM's CARD OF 'tithinglaw09.CertRight'. -/
def certRightUptoCard : Claim7 := { stood := { row := certRightUptoRow, standIns := [], harness := (true, "526da861eb12e7ca7e2fc527045aef24094dd4dc78cd82388896d0713aa02ce2"), looks := false }, kinds := [], alts := [], laidByText := true, laidKinds := [.data, .data], laidTests := true, laidLooks := .later }
def CertRightUptoCardSaid : Prop := Claim7.holds Tryd.pinned (.plain (OpenSpec.upto certRightSpec)) certRightUptoCard

/-- THE SECOND FORM's CARD OF 'tithinglaw31.VotesOrder'. -/
def votesOrderUptoCard : Claim7 := { stood := { row := votesOrderUptoRow, standIns := [], harness := (true, "526da861eb12e7ca7e2fc527045aef24094dd4dc78cd82388896d0713aa02ce2"), looks := false }, kinds := [], alts := [], laidByText := true, laidKinds := [.data], laidTests := true, laidLooks := .later }
def VotesOrderUptoCardSaid : Prop := Claim7.holds Tryd.pinned (.plain (OpenSpec.upto votesOrderSpec)) votesOrderUptoCard

/-- THE SECOND FORM's CARD OF 'tithinglaw31.VotesLearns'. -/
def votesLearnsUptoCard : Claim7 := { stood := { row := votesLearnsUptoRow, standIns := [], harness := (true, "526da861eb12e7ca7e2fc527045aef24094dd4dc78cd82388896d0713aa02ce2"), looks := false }, kinds := [], alts := [], laidByText := true, laidKinds := [.data, .data], laidTests := true, laidLooks := .later }
def VotesLearnsUptoCardSaid : Prop := Claim7.holds Tryd.pinned (.plain (OpenSpec.upto votesLearnsSpec)) votesLearnsUptoCard

/-- THE SECOND FORM's CARD OF 'tithinglaw10.AccuPuts'. -/
def accuPutsUptoCard : Claim7 := { stood := { row := accuPutsUptoRow, standIns := [], harness := (true, "526da861eb12e7ca7e2fc527045aef24094dd4dc78cd82388896d0713aa02ce2"), looks := false }, kinds := [], alts := [], laidByText := true, laidKinds := [.data], laidTests := true, laidLooks := .later }
def AccuPutsUptoCardSaid : Prop := Claim7.holds Tryd.pinned (.plain (OpenSpec.upto accuPutsSpec)) accuPutsUptoCard

/-- THE SECOND FORM's CARD OF 'tithinglaw09.CertPuts'. -/
def certPutsUptoCard : Claim7 := { stood := { row := certPutsUptoRow, standIns := [], harness := (true, "526da861eb12e7ca7e2fc527045aef24094dd4dc78cd82388896d0713aa02ce2"), looks := false }, kinds := [], alts := [], laidByText := true, laidKinds := [.data], laidTests := true, laidLooks := .later }
def CertPutsUptoCardSaid : Prop := Claim7.holds Tryd.pinned (.plain (OpenSpec.upto certPutsSpec)) certPutsUptoCard
end Rows
end Go.Proofs.YtegamlopcdjiaaaDoor
