/-
  DERIVED. GIVEN WITH THE SEED: THE CARDS: each row of YthmlcohmlehddaaGreatDoorRows.lean that lists a variable, with what it lists TIED to the program's text (the seventh form; the later family's looks); each row that meets fmt, with fmt's text TOLD by the authors' own Lean function (tested against real Go, not proved from fmt's source: count such statements apart). THE CARD IS WHAT COUNTS. Prove the row's statement (the work); the ties are given (YthmlcohmlehddaaGreatDoorTie.lean); close each card by the builder's one call (the guide's Derived/Test/ToyasCard.lean, 'card_holds'). Laid BY PROGRAM, IN A SANDBOX (cutbox-door.mjs). By AI agents, Wed Nov 11 2026. No macro, syntax, notation, axiom, sorry.
-/
import Derived.Test.YthmlcohmlehddaaGreatDoorRows
import GoSem.ClaimSeven
namespace Go.Proofs.YthmlcohmlehddaaGreatDoor
namespace Rows

/-- THE TIED CARD OF 'duramenlaw19.ArchiveFinds'. -/
def archiveFindsCard : Claim7 := { stood := { row := archiveFindsRow, standIns := [], harness := (true, "d51d7597097fa156375269dc41af53da3e961967b0ff2b7d74917d6dad115d38"), looks := false }, kinds := [], alts := [], laidByText := true, laidKinds := [.data, .data, .data], laidTests := true, laidLooks := .later }
def ArchiveFindsCardSaid : Prop := Claim7.holds Tryz.pinned (.plain (OpenSpec.ofChange archiveFindsSpec)) archiveFindsCard

/-- THE TIED CARD OF 'duramenlaw20.StoreQuiet'. -/
def storeQuietCard : Claim7 := { stood := { row := storeQuietRow, standIns := [], harness := (true, "d51d7597097fa156375269dc41af53da3e961967b0ff2b7d74917d6dad115d38"), looks := false }, kinds := [], alts := [], laidByText := true, laidKinds := [.data, .data, .data], laidTests := true, laidLooks := .later }
def StoreQuietCardSaid : Prop := Claim7.holds Tryz.pinned (.plain (OpenSpec.ofChange storeQuietSpec)) storeQuietCard

/-- THE TIED CARD OF 'duramenlaw20.StoreRewinds'. -/
def storeRewindsCard : Claim7 := { stood := { row := storeRewindsRow, standIns := [], harness := (true, "d51d7597097fa156375269dc41af53da3e961967b0ff2b7d74917d6dad115d38"), looks := false }, kinds := [], alts := [], laidByText := true, laidKinds := [.data, .data, .data], laidTests := true, laidLooks := .later }
def StoreRewindsCardSaid : Prop := Claim7.holds Tryz.pinned (.plain (OpenSpec.ofChange storeRewindsSpec)) storeRewindsCard

/-- THE TIED CARD OF 'duramenlaw20.StoreForks'. -/
def storeForksCard : Claim7 := { stood := { row := storeForksRow, standIns := [], harness := (true, "d51d7597097fa156375269dc41af53da3e961967b0ff2b7d74917d6dad115d38"), looks := false }, kinds := [], alts := [], laidByText := true, laidKinds := [.data, .data, .data], laidTests := true, laidLooks := .later }
def StoreForksCardSaid : Prop := Claim7.holds Tryz.pinned (.plain (OpenSpec.ofChange storeForksSpec)) storeForksCard

/-- THE TIED CARD OF 'duramenlaw20.StoreNeeds'. -/
def storeNeedsCard : Claim7 := { stood := { row := storeNeedsRow, standIns := [], harness := (true, "d51d7597097fa156375269dc41af53da3e961967b0ff2b7d74917d6dad115d38"), looks := false }, kinds := [], alts := [], laidByText := true, laidKinds := [.data, .data, .data], laidTests := true, laidLooks := .later }
def StoreNeedsCardSaid : Prop := Claim7.holds Tryz.pinned (.plain (OpenSpec.ofChange storeNeedsSpec)) storeNeedsCard

/-- THE TIED CARD OF 'duramenlaw20.StoreFull'. -/
def storeFullCard : Claim7 := { stood := { row := storeFullRow, standIns := [], harness := (true, "d51d7597097fa156375269dc41af53da3e961967b0ff2b7d74917d6dad115d38"), looks := false }, kinds := [], alts := [], laidByText := true, laidKinds := [.data, .data, .data], laidTests := true, laidLooks := .later }
def StoreFullCardSaid : Prop := Claim7.holds Tryz.pinned (.plain (OpenSpec.ofChange storeFullSpec)) storeFullCard

/-- THE TIED CARD OF 'duramenlaw20.StoreFolds'. -/
def storeFoldsCard : Claim7 := { stood := { row := storeFoldsRow, standIns := [], harness := (true, "d51d7597097fa156375269dc41af53da3e961967b0ff2b7d74917d6dad115d38"), looks := false }, kinds := [], alts := [], laidByText := true, laidKinds := [.data, .data, .data], laidTests := true, laidLooks := .later }
def StoreFoldsCardSaid : Prop := Claim7.holds Tryz.pinned (.plain (OpenSpec.ofChange storeFoldsSpec)) storeFoldsCard

/-- THE TIED CARD OF 'duramenlaw20.StoreNow'. -/
def storeNowCard : Claim7 := { stood := { row := storeNowRow, standIns := [], harness := (true, "d51d7597097fa156375269dc41af53da3e961967b0ff2b7d74917d6dad115d38"), looks := false }, kinds := [], alts := [], laidByText := true, laidKinds := [.data, .data, .data], laidTests := true, laidLooks := .later }
def StoreNowCardSaid : Prop := Claim7.holds Tryz.pinned (.plain (OpenSpec.ofChange storeNowSpec)) storeNowCard

/-- THE SECOND FORM's CARD OF 'duramenlaw19.ArchiveFinds'. -/
def archiveFindsUptoCard : Claim7 := { stood := { row := archiveFindsUptoRow, standIns := [], harness := (true, "d51d7597097fa156375269dc41af53da3e961967b0ff2b7d74917d6dad115d38"), looks := false }, kinds := [], alts := [], laidByText := true, laidKinds := [.data, .data, .data], laidTests := true, laidLooks := .later }
def ArchiveFindsUptoCardSaid : Prop := Claim7.holds Tryz.pinned (.plain (OpenSpec.upto archiveFindsSpec)) archiveFindsUptoCard

/-- THE SECOND FORM's CARD OF 'duramenlaw20.StoreQuiet'. -/
def storeQuietUptoCard : Claim7 := { stood := { row := storeQuietUptoRow, standIns := [], harness := (true, "d51d7597097fa156375269dc41af53da3e961967b0ff2b7d74917d6dad115d38"), looks := false }, kinds := [], alts := [], laidByText := true, laidKinds := [.data, .data, .data], laidTests := true, laidLooks := .later }
def StoreQuietUptoCardSaid : Prop := Claim7.holds Tryz.pinned (.plain (OpenSpec.upto storeQuietSpec)) storeQuietUptoCard

/-- THE SECOND FORM's CARD OF 'duramenlaw20.StoreRewinds'. -/
def storeRewindsUptoCard : Claim7 := { stood := { row := storeRewindsUptoRow, standIns := [], harness := (true, "d51d7597097fa156375269dc41af53da3e961967b0ff2b7d74917d6dad115d38"), looks := false }, kinds := [], alts := [], laidByText := true, laidKinds := [.data, .data, .data], laidTests := true, laidLooks := .later }
def StoreRewindsUptoCardSaid : Prop := Claim7.holds Tryz.pinned (.plain (OpenSpec.upto storeRewindsSpec)) storeRewindsUptoCard

/-- THE SECOND FORM's CARD OF 'duramenlaw20.StoreForks'. -/
def storeForksUptoCard : Claim7 := { stood := { row := storeForksUptoRow, standIns := [], harness := (true, "d51d7597097fa156375269dc41af53da3e961967b0ff2b7d74917d6dad115d38"), looks := false }, kinds := [], alts := [], laidByText := true, laidKinds := [.data, .data, .data], laidTests := true, laidLooks := .later }
def StoreForksUptoCardSaid : Prop := Claim7.holds Tryz.pinned (.plain (OpenSpec.upto storeForksSpec)) storeForksUptoCard

/-- THE SECOND FORM's CARD OF 'duramenlaw20.StoreNeeds'. -/
def storeNeedsUptoCard : Claim7 := { stood := { row := storeNeedsUptoRow, standIns := [], harness := (true, "d51d7597097fa156375269dc41af53da3e961967b0ff2b7d74917d6dad115d38"), looks := false }, kinds := [], alts := [], laidByText := true, laidKinds := [.data, .data, .data], laidTests := true, laidLooks := .later }
def StoreNeedsUptoCardSaid : Prop := Claim7.holds Tryz.pinned (.plain (OpenSpec.upto storeNeedsSpec)) storeNeedsUptoCard

/-- THE SECOND FORM's CARD OF 'duramenlaw20.StoreFull'. -/
def storeFullUptoCard : Claim7 := { stood := { row := storeFullUptoRow, standIns := [], harness := (true, "d51d7597097fa156375269dc41af53da3e961967b0ff2b7d74917d6dad115d38"), looks := false }, kinds := [], alts := [], laidByText := true, laidKinds := [.data, .data, .data], laidTests := true, laidLooks := .later }
def StoreFullUptoCardSaid : Prop := Claim7.holds Tryz.pinned (.plain (OpenSpec.upto storeFullSpec)) storeFullUptoCard

/-- THE SECOND FORM's CARD OF 'duramenlaw20.StoreFolds'. -/
def storeFoldsUptoCard : Claim7 := { stood := { row := storeFoldsUptoRow, standIns := [], harness := (true, "d51d7597097fa156375269dc41af53da3e961967b0ff2b7d74917d6dad115d38"), looks := false }, kinds := [], alts := [], laidByText := true, laidKinds := [.data, .data, .data], laidTests := true, laidLooks := .later }
def StoreFoldsUptoCardSaid : Prop := Claim7.holds Tryz.pinned (.plain (OpenSpec.upto storeFoldsSpec)) storeFoldsUptoCard

/-- THE SECOND FORM's CARD OF 'duramenlaw20.StoreNow'. -/
def storeNowUptoCard : Claim7 := { stood := { row := storeNowUptoRow, standIns := [], harness := (true, "d51d7597097fa156375269dc41af53da3e961967b0ff2b7d74917d6dad115d38"), looks := false }, kinds := [], alts := [], laidByText := true, laidKinds := [.data, .data, .data], laidTests := true, laidLooks := .later }
def StoreNowUptoCardSaid : Prop := Claim7.holds Tryz.pinned (.plain (OpenSpec.upto storeNowSpec)) storeNowUptoCard
end Rows
end Go.Proofs.YthmlcohmlehddaaGreatDoor
