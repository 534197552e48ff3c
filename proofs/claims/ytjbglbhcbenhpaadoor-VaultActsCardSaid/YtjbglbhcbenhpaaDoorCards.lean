/-
  DERIVED. GIVEN WITH THE SEED: THE CARDS: each row of YtjbglbhcbenhpaaDoorRows.lean that lists a variable, with what it lists TIED to the program's text (the seventh form; the later family's looks); each row that meets fmt, with fmt's text TOLD by the authors' own Lean function (tested against real Go, not proved from fmt's source: count such statements apart). THE CARD IS WHAT COUNTS. Prove the row's statement (the work); the ties are given (YtjbglbhcbenhpaaDoorTie.lean); close each card by the builder's one call (the guide's Derived/Test/ToyasCard.lean, 'card_holds'). Laid BY PROGRAM, IN A SANDBOX (cutbox-door.mjs). By AI agents, Wed Nov 11 2026. No macro, syntax, notation, axiom, sorry.
-/
import Derived.Test.YtjbglbhcbenhpaaDoorRows
import GoSem.ClaimSeven
namespace Go.Proofs.YtjbglbhcbenhpaaDoor
namespace Rows

/-- THE TIED CARD OF 'tithinglaw14.VaultActs'. -/
def vaultActsCard : Claim7 := { stood := { row := vaultActsRow, standIns := [], harness := (true, "c3d703041ae3eab4dd22cb90f0a7a17acaa9b161d26fb10ce2aad357cd424b18"), looks := false }, kinds := [], alts := [], laidByText := true, laidKinds := [.data, .data], laidTests := true, laidLooks := .later }
def VaultActsCardSaid : Prop := Claim7.holds Tryd.pinned (.plain (OpenSpec.ofChange vaultActsSpec)) vaultActsCard

/-- THE TIED CARD OF 'tithinglaw14.VaultKeeps'. -/
def vaultKeepsCard : Claim7 := { stood := { row := vaultKeepsRow, standIns := [], harness := (true, "c3d703041ae3eab4dd22cb90f0a7a17acaa9b161d26fb10ce2aad357cd424b18"), looks := false }, kinds := [], alts := [], laidByText := true, laidKinds := [.data], laidTests := true, laidLooks := .later }
def VaultKeepsCardSaid : Prop := Claim7.holds Tryd.pinned (.plain (OpenSpec.ofChange vaultKeepsSpec)) vaultKeepsCard

/-- THE TIED CARD OF 'tithinglaw14.VaultHalts'. -/
def vaultHaltsCard : Claim7 := { stood := { row := vaultHaltsRow, standIns := [], harness := (true, "c3d703041ae3eab4dd22cb90f0a7a17acaa9b161d26fb10ce2aad357cd424b18"), looks := false }, kinds := [], alts := [], laidByText := true, laidKinds := [.data, .data], laidTests := true, laidLooks := .later }
def VaultHaltsCardSaid : Prop := Claim7.holds Tryd.pinned (.plain (OpenSpec.ofChange vaultHaltsSpec)) vaultHaltsCard

/-- THE TIED CARD OF 'tithinglaw10.AccuMakes'. -/
def accuMakesCard : Claim7 := { stood := { row := accuMakesRow, standIns := [], harness := (true, "c3d703041ae3eab4dd22cb90f0a7a17acaa9b161d26fb10ce2aad357cd424b18"), looks := false }, kinds := [], alts := [], laidByText := true, laidKinds := [.data, .data], laidTests := true, laidLooks := .later }
def AccuMakesCardSaid : Prop := Claim7.holds Tryd.pinned (.plain (OpenSpec.ofChange accuMakesSpec)) accuMakesCard

/-- THE TIED CARD OF 'tithinglaw09.CertMakes'. -/
def certMakesCard : Claim7 := { stood := { row := certMakesRow, standIns := [], harness := (true, "c3d703041ae3eab4dd22cb90f0a7a17acaa9b161d26fb10ce2aad357cd424b18"), looks := false }, kinds := [], alts := [], laidByText := true, laidKinds := [.data, .data], laidTests := true, laidLooks := .later }
def CertMakesCardSaid : Prop := Claim7.holds Tryd.pinned (.plain (OpenSpec.ofChange certMakesSpec)) certMakesCard

/-- THE TIED CARD OF 'tithinglaw09.CertMeet'. -/
def certMeetCard : Claim7 := { stood := { row := certMeetRow, standIns := [], harness := (true, "c3d703041ae3eab4dd22cb90f0a7a17acaa9b161d26fb10ce2aad357cd424b18"), looks := false }, kinds := [], alts := [], laidByText := true, laidKinds := [.data], laidTests := true, laidLooks := .later }
def CertMeetCardSaid : Prop := Claim7.holds Tryd.pinned (.plain (OpenSpec.ofChange certMeetSpec)) certMeetCard

/-- THE SECOND FORM's CARD OF 'tithinglaw14.VaultActs'. -/
def vaultActsUptoCard : Claim7 := { stood := { row := vaultActsUptoRow, standIns := [], harness := (true, "c3d703041ae3eab4dd22cb90f0a7a17acaa9b161d26fb10ce2aad357cd424b18"), looks := false }, kinds := [], alts := [], laidByText := true, laidKinds := [.data, .data], laidTests := true, laidLooks := .later }
def VaultActsUptoCardSaid : Prop := Claim7.holds Tryd.pinned (.plain (OpenSpec.upto vaultActsSpec)) vaultActsUptoCard

/-- THE SECOND FORM's CARD OF 'tithinglaw14.VaultKeeps'. -/
def vaultKeepsUptoCard : Claim7 := { stood := { row := vaultKeepsUptoRow, standIns := [], harness := (true, "c3d703041ae3eab4dd22cb90f0a7a17acaa9b161d26fb10ce2aad357cd424b18"), looks := false }, kinds := [], alts := [], laidByText := true, laidKinds := [.data], laidTests := true, laidLooks := .later }
def VaultKeepsUptoCardSaid : Prop := Claim7.holds Tryd.pinned (.plain (OpenSpec.upto vaultKeepsSpec)) vaultKeepsUptoCard

/-- THE SECOND FORM's CARD OF 'tithinglaw14.VaultHalts'. -/
def vaultHaltsUptoCard : Claim7 := { stood := { row := vaultHaltsUptoRow, standIns := [], harness := (true, "c3d703041ae3eab4dd22cb90f0a7a17acaa9b161d26fb10ce2aad357cd424b18"), looks := false }, kinds := [], alts := [], laidByText := true, laidKinds := [.data, .data], laidTests := true, laidLooks := .later }
def VaultHaltsUptoCardSaid : Prop := Claim7.holds Tryd.pinned (.plain (OpenSpec.upto vaultHaltsSpec)) vaultHaltsUptoCard

/-- THE SECOND FORM's CARD OF 'tithinglaw10.AccuMakes'. -/
def accuMakesUptoCard : Claim7 := { stood := { row := accuMakesUptoRow, standIns := [], harness := (true, "c3d703041ae3eab4dd22cb90f0a7a17acaa9b161d26fb10ce2aad357cd424b18"), looks := false }, kinds := [], alts := [], laidByText := true, laidKinds := [.data, .data], laidTests := true, laidLooks := .later }
def AccuMakesUptoCardSaid : Prop := Claim7.holds Tryd.pinned (.plain (OpenSpec.upto accuMakesSpec)) accuMakesUptoCard

/-- THE SECOND FORM's CARD OF 'tithinglaw09.CertMakes'. -/
def certMakesUptoCard : Claim7 := { stood := { row := certMakesUptoRow, standIns := [], harness := (true, "c3d703041ae3eab4dd22cb90f0a7a17acaa9b161d26fb10ce2aad357cd424b18"), looks := false }, kinds := [], alts := [], laidByText := true, laidKinds := [.data, .data], laidTests := true, laidLooks := .later }
def CertMakesUptoCardSaid : Prop := Claim7.holds Tryd.pinned (.plain (OpenSpec.upto certMakesSpec)) certMakesUptoCard

/-- THE SECOND FORM's CARD OF 'tithinglaw09.CertMeet'. -/
def certMeetUptoCard : Claim7 := { stood := { row := certMeetUptoRow, standIns := [], harness := (true, "c3d703041ae3eab4dd22cb90f0a7a17acaa9b161d26fb10ce2aad357cd424b18"), looks := false }, kinds := [], alts := [], laidByText := true, laidKinds := [.data], laidTests := true, laidLooks := .later }
def CertMeetUptoCardSaid : Prop := Claim7.holds Tryd.pinned (.plain (OpenSpec.upto certMeetSpec)) certMeetUptoCard
end Rows
end Go.Proofs.YtjbglbhcbenhpaaDoor
