/-
  DERIVED. GIVEN WITH THE SEED: THE CARDS: each row of YtbifpocccfkhhaaGreatDoorRows.lean that lists a variable, with what it lists TIED to the program's text (the seventh form; the later family's looks); each row that meets fmt, with fmt's text TOLD by the authors' own Lean function (tested against real Go, not proved from fmt's source: count such statements apart). THE CARD IS WHAT COUNTS. Prove the row's statement (the work); the ties are given (YtbifpocccfkhhaaGreatDoorTie.lean); close each card by the builder's one call (the guide's Derived/Test/ToyasCard.lean, 'card_holds'). Laid BY PROGRAM, IN A SANDBOX (cutbox-door.mjs). By AI agents, Wed Nov 11 2026. No macro, syntax, notation, axiom, sorry.
-/
import Derived.Test.YtbifpocccfkhhaaGreatDoorRows
import GoSem.ClaimSeven
namespace Go.Proofs.YtbifpocccfkhhaaGreatDoor
namespace Rows

/-- THE TIED CARD OF 'manorboylaw09.CopyRenames'. -/
def copyRenamesCard : Claim7 := { stood := { row := copyRenamesRow, standIns := [], harness := (true, "eb8238887bc8416033860e47b6ebcc7abfba063f1d45b154639108211c785905"), looks := false }, kinds := [], alts := [], laidByText := true, laidKinds := [.data, .data, .data, .listed, .data], laidTests := true, laidLooks := .later }
def CopyRenamesCardSaid : Prop := Claim7.holds Tryz.pinned (.plain (OpenSpec.ofChange copyRenamesSpec)) copyRenamesCard

/-- THE TIED CARD OF 'manorboylaw09.CopyAlikes'. -/
def copyAlikesCard : Claim7 := { stood := { row := copyAlikesRow, standIns := [], harness := (true, "eb8238887bc8416033860e47b6ebcc7abfba063f1d45b154639108211c785905"), looks := false }, kinds := [], alts := [], laidByText := true, laidKinds := [.data, .data, .data, .listed, .data], laidTests := true, laidLooks := .later }
def CopyAlikesCardSaid : Prop := Claim7.holds Tryz.pinned (.plain (OpenSpec.ofChange copyAlikesSpec)) copyAlikesCard

/-- THE TIED CARD OF 'manorboylaw09.CopyExpands'. -/
def copyExpandsCard : Claim7 := { stood := { row := copyExpandsRow, standIns := [], harness := (true, "eb8238887bc8416033860e47b6ebcc7abfba063f1d45b154639108211c785905"), looks := false }, kinds := [], alts := [], laidByText := true, laidKinds := [.data, .data, .data, .listed, .data], laidTests := true, laidLooks := .later }
def CopyExpandsCardSaid : Prop := Claim7.holds Tryz.pinned (.plain (OpenSpec.ofChange copyExpandsSpec)) copyExpandsCard

/-- THE TIED CARD OF 'manorboylaw09.CopySame'. -/
def copySameCard : Claim7 := { stood := { row := copySameRow, standIns := [], harness := (true, "eb8238887bc8416033860e47b6ebcc7abfba063f1d45b154639108211c785905"), looks := false }, kinds := [], alts := [], laidByText := true, laidKinds := [.data, .data, .data, .listed, .data], laidTests := true, laidLooks := .later }
def CopySameCardSaid : Prop := Claim7.holds Tryz.pinned (.plain (OpenSpec.ofChange copySameSpec)) copySameCard

/-- THE TIED CARD OF 'manorboylaw09.CopyBack'. -/
def copyBackCard : Claim7 := { stood := { row := copyBackRow, standIns := [], harness := (true, "eb8238887bc8416033860e47b6ebcc7abfba063f1d45b154639108211c785905"), looks := false }, kinds := [], alts := [], laidByText := true, laidKinds := [.data, .data, .data, .listed, .data], laidTests := true, laidLooks := .later }
def CopyBackCardSaid : Prop := Claim7.holds Tryz.pinned (.plain (OpenSpec.ofChange copyBackSpec)) copyBackCard

/-- THE TIED CARD OF 'manorboylaw09.CopyThrough'. -/
def copyThroughCard : Claim7 := { stood := { row := copyThroughRow, standIns := [], harness := (true, "eb8238887bc8416033860e47b6ebcc7abfba063f1d45b154639108211c785905"), looks := false }, kinds := [], alts := [], laidByText := true, laidKinds := [.data, .data, .data, .listed, .data], laidTests := true, laidLooks := .later }
def CopyThroughCardSaid : Prop := Claim7.holds Tryz.pinned (.plain (OpenSpec.ofChange copyThroughSpec)) copyThroughCard

/-- THE TIED CARD OF 'manorboylaw09.CopySizes'. -/
def copySizesCard : Claim7 := { stood := { row := copySizesRow, standIns := [], harness := (true, "eb8238887bc8416033860e47b6ebcc7abfba063f1d45b154639108211c785905"), looks := false }, kinds := [], alts := [], laidByText := true, laidKinds := [.data, .data, .data, .listed, .data], laidTests := true, laidLooks := .later }
def CopySizesCardSaid : Prop := Claim7.holds Tryz.pinned (.plain (OpenSpec.ofChange copySizesSpec)) copySizesCard

/-- THE TIED CARD OF 'manorboylaw09.CopyNames'. -/
def copyNamesCard : Claim7 := { stood := { row := copyNamesRow, standIns := [], harness := (true, "eb8238887bc8416033860e47b6ebcc7abfba063f1d45b154639108211c785905"), looks := false }, kinds := [], alts := [], laidByText := true, laidKinds := [.data, .data, .data, .listed, .data], laidTests := true, laidLooks := .later }
def CopyNamesCardSaid : Prop := Claim7.holds Tryz.pinned (.plain (OpenSpec.ofChange copyNamesSpec)) copyNamesCard

/-- THE TIED CARD OF 'manorboylaw09.CopyFrees'. -/
def copyFreesCard : Claim7 := { stood := { row := copyFreesRow, standIns := [], harness := (true, "eb8238887bc8416033860e47b6ebcc7abfba063f1d45b154639108211c785905"), looks := false }, kinds := [], alts := [], laidByText := true, laidKinds := [.data, .data, .data, .listed, .data], laidTests := true, laidLooks := .later }
def CopyFreesCardSaid : Prop := Claim7.holds Tryz.pinned (.plain (OpenSpec.ofChange copyFreesSpec)) copyFreesCard

/-- THE TIED CARD OF 'manorboylaw09.CopyOrder'. -/
def copyOrderCard : Claim7 := { stood := { row := copyOrderRow, standIns := [], harness := (true, "eb8238887bc8416033860e47b6ebcc7abfba063f1d45b154639108211c785905"), looks := false }, kinds := [], alts := [], laidByText := true, laidKinds := [.data, .data, .data, .listed, .data], laidTests := true, laidLooks := .later }
def CopyOrderCardSaid : Prop := Claim7.holds Tryz.pinned (.plain (OpenSpec.ofChange copyOrderSpec)) copyOrderCard

/-- THE TIED CARD OF 'manorboylaw09.CopyFresh'. -/
def copyFreshCard : Claim7 := { stood := { row := copyFreshRow, standIns := [], harness := (true, "eb8238887bc8416033860e47b6ebcc7abfba063f1d45b154639108211c785905"), looks := false }, kinds := [], alts := [], laidByText := true, laidKinds := [.data, .data, .data, .listed, .data], laidTests := true, laidLooks := .later }
def CopyFreshCardSaid : Prop := Claim7.holds Tryz.pinned (.plain (OpenSpec.ofChange copyFreshSpec)) copyFreshCard

/-- THE TIED CARD OF 'manorboylaw09.CopyAparts'. -/
def copyApartsCard : Claim7 := { stood := { row := copyApartsRow, standIns := [], harness := (true, "eb8238887bc8416033860e47b6ebcc7abfba063f1d45b154639108211c785905"), looks := false }, kinds := [], alts := [], laidByText := true, laidKinds := [.data, .data, .data, .listed, .data], laidTests := true, laidLooks := .later }
def CopyApartsCardSaid : Prop := Claim7.holds Tryz.pinned (.plain (OpenSpec.ofChange copyApartsSpec)) copyApartsCard

/-- THE TIED CARD OF 'manorboylaw09.CopyApart'. -/
def copyApartCard : Claim7 := { stood := { row := copyApartRow, standIns := [], harness := (true, "eb8238887bc8416033860e47b6ebcc7abfba063f1d45b154639108211c785905"), looks := false }, kinds := [], alts := [], laidByText := true, laidKinds := [.data, .data, .data, .listed, .data], laidTests := true, laidLooks := .later }
def CopyApartCardSaid : Prop := Claim7.holds Tryz.pinned (.plain (OpenSpec.ofChange copyApartSpec)) copyApartCard

/-- THE TIED CARD OF 'manorboylaw09.CopySubstitutes'. -/
def copySubstitutesCard : Claim7 := { stood := { row := copySubstitutesRow, standIns := [], harness := (true, "eb8238887bc8416033860e47b6ebcc7abfba063f1d45b154639108211c785905"), looks := false }, kinds := [], alts := [], laidByText := true, laidKinds := [.data, .data, .data, .listed, .data], laidTests := true, laidLooks := .later }
def CopySubstitutesCardSaid : Prop := Claim7.holds Tryz.pinned (.plain (OpenSpec.ofChange copySubstitutesSpec)) copySubstitutesCard

/-- THE SECOND FORM's CARD OF 'manorboylaw09.CopyRenames'. -/
def copyRenamesUptoCard : Claim7 := { stood := { row := copyRenamesUptoRow, standIns := [], harness := (true, "eb8238887bc8416033860e47b6ebcc7abfba063f1d45b154639108211c785905"), looks := false }, kinds := [], alts := [], laidByText := true, laidKinds := [.data, .data, .data, .listed, .data], laidTests := true, laidLooks := .later }
def CopyRenamesUptoCardSaid : Prop := Claim7.holds Tryz.pinned (.plain (OpenSpec.upto copyRenamesSpec)) copyRenamesUptoCard

/-- THE SECOND FORM's CARD OF 'manorboylaw09.CopyAlikes'. -/
def copyAlikesUptoCard : Claim7 := { stood := { row := copyAlikesUptoRow, standIns := [], harness := (true, "eb8238887bc8416033860e47b6ebcc7abfba063f1d45b154639108211c785905"), looks := false }, kinds := [], alts := [], laidByText := true, laidKinds := [.data, .data, .data, .listed, .data], laidTests := true, laidLooks := .later }
def CopyAlikesUptoCardSaid : Prop := Claim7.holds Tryz.pinned (.plain (OpenSpec.upto copyAlikesSpec)) copyAlikesUptoCard

/-- THE SECOND FORM's CARD OF 'manorboylaw09.CopyExpands'. -/
def copyExpandsUptoCard : Claim7 := { stood := { row := copyExpandsUptoRow, standIns := [], harness := (true, "eb8238887bc8416033860e47b6ebcc7abfba063f1d45b154639108211c785905"), looks := false }, kinds := [], alts := [], laidByText := true, laidKinds := [.data, .data, .data, .listed, .data], laidTests := true, laidLooks := .later }
def CopyExpandsUptoCardSaid : Prop := Claim7.holds Tryz.pinned (.plain (OpenSpec.upto copyExpandsSpec)) copyExpandsUptoCard

/-- THE SECOND FORM's CARD OF 'manorboylaw09.CopySame'. -/
def copySameUptoCard : Claim7 := { stood := { row := copySameUptoRow, standIns := [], harness := (true, "eb8238887bc8416033860e47b6ebcc7abfba063f1d45b154639108211c785905"), looks := false }, kinds := [], alts := [], laidByText := true, laidKinds := [.data, .data, .data, .listed, .data], laidTests := true, laidLooks := .later }
def CopySameUptoCardSaid : Prop := Claim7.holds Tryz.pinned (.plain (OpenSpec.upto copySameSpec)) copySameUptoCard

/-- THE SECOND FORM's CARD OF 'manorboylaw09.CopyBack'. -/
def copyBackUptoCard : Claim7 := { stood := { row := copyBackUptoRow, standIns := [], harness := (true, "eb8238887bc8416033860e47b6ebcc7abfba063f1d45b154639108211c785905"), looks := false }, kinds := [], alts := [], laidByText := true, laidKinds := [.data, .data, .data, .listed, .data], laidTests := true, laidLooks := .later }
def CopyBackUptoCardSaid : Prop := Claim7.holds Tryz.pinned (.plain (OpenSpec.upto copyBackSpec)) copyBackUptoCard

/-- THE SECOND FORM's CARD OF 'manorboylaw09.CopyThrough'. -/
def copyThroughUptoCard : Claim7 := { stood := { row := copyThroughUptoRow, standIns := [], harness := (true, "eb8238887bc8416033860e47b6ebcc7abfba063f1d45b154639108211c785905"), looks := false }, kinds := [], alts := [], laidByText := true, laidKinds := [.data, .data, .data, .listed, .data], laidTests := true, laidLooks := .later }
def CopyThroughUptoCardSaid : Prop := Claim7.holds Tryz.pinned (.plain (OpenSpec.upto copyThroughSpec)) copyThroughUptoCard

/-- THE SECOND FORM's CARD OF 'manorboylaw09.CopySizes'. -/
def copySizesUptoCard : Claim7 := { stood := { row := copySizesUptoRow, standIns := [], harness := (true, "eb8238887bc8416033860e47b6ebcc7abfba063f1d45b154639108211c785905"), looks := false }, kinds := [], alts := [], laidByText := true, laidKinds := [.data, .data, .data, .listed, .data], laidTests := true, laidLooks := .later }
def CopySizesUptoCardSaid : Prop := Claim7.holds Tryz.pinned (.plain (OpenSpec.upto copySizesSpec)) copySizesUptoCard

/-- THE SECOND FORM's CARD OF 'manorboylaw09.CopyNames'. -/
def copyNamesUptoCard : Claim7 := { stood := { row := copyNamesUptoRow, standIns := [], harness := (true, "eb8238887bc8416033860e47b6ebcc7abfba063f1d45b154639108211c785905"), looks := false }, kinds := [], alts := [], laidByText := true, laidKinds := [.data, .data, .data, .listed, .data], laidTests := true, laidLooks := .later }
def CopyNamesUptoCardSaid : Prop := Claim7.holds Tryz.pinned (.plain (OpenSpec.upto copyNamesSpec)) copyNamesUptoCard

/-- THE SECOND FORM's CARD OF 'manorboylaw09.CopyFrees'. -/
def copyFreesUptoCard : Claim7 := { stood := { row := copyFreesUptoRow, standIns := [], harness := (true, "eb8238887bc8416033860e47b6ebcc7abfba063f1d45b154639108211c785905"), looks := false }, kinds := [], alts := [], laidByText := true, laidKinds := [.data, .data, .data, .listed, .data], laidTests := true, laidLooks := .later }
def CopyFreesUptoCardSaid : Prop := Claim7.holds Tryz.pinned (.plain (OpenSpec.upto copyFreesSpec)) copyFreesUptoCard

/-- THE SECOND FORM's CARD OF 'manorboylaw09.CopyOrder'. -/
def copyOrderUptoCard : Claim7 := { stood := { row := copyOrderUptoRow, standIns := [], harness := (true, "eb8238887bc8416033860e47b6ebcc7abfba063f1d45b154639108211c785905"), looks := false }, kinds := [], alts := [], laidByText := true, laidKinds := [.data, .data, .data, .listed, .data], laidTests := true, laidLooks := .later }
def CopyOrderUptoCardSaid : Prop := Claim7.holds Tryz.pinned (.plain (OpenSpec.upto copyOrderSpec)) copyOrderUptoCard

/-- THE SECOND FORM's CARD OF 'manorboylaw09.CopyFresh'. -/
def copyFreshUptoCard : Claim7 := { stood := { row := copyFreshUptoRow, standIns := [], harness := (true, "eb8238887bc8416033860e47b6ebcc7abfba063f1d45b154639108211c785905"), looks := false }, kinds := [], alts := [], laidByText := true, laidKinds := [.data, .data, .data, .listed, .data], laidTests := true, laidLooks := .later }
def CopyFreshUptoCardSaid : Prop := Claim7.holds Tryz.pinned (.plain (OpenSpec.upto copyFreshSpec)) copyFreshUptoCard

/-- THE SECOND FORM's CARD OF 'manorboylaw09.CopyAparts'. -/
def copyApartsUptoCard : Claim7 := { stood := { row := copyApartsUptoRow, standIns := [], harness := (true, "eb8238887bc8416033860e47b6ebcc7abfba063f1d45b154639108211c785905"), looks := false }, kinds := [], alts := [], laidByText := true, laidKinds := [.data, .data, .data, .listed, .data], laidTests := true, laidLooks := .later }
def CopyApartsUptoCardSaid : Prop := Claim7.holds Tryz.pinned (.plain (OpenSpec.upto copyApartsSpec)) copyApartsUptoCard

/-- THE SECOND FORM's CARD OF 'manorboylaw09.CopyApart'. -/
def copyApartUptoCard : Claim7 := { stood := { row := copyApartUptoRow, standIns := [], harness := (true, "eb8238887bc8416033860e47b6ebcc7abfba063f1d45b154639108211c785905"), looks := false }, kinds := [], alts := [], laidByText := true, laidKinds := [.data, .data, .data, .listed, .data], laidTests := true, laidLooks := .later }
def CopyApartUptoCardSaid : Prop := Claim7.holds Tryz.pinned (.plain (OpenSpec.upto copyApartSpec)) copyApartUptoCard

/-- THE SECOND FORM's CARD OF 'manorboylaw09.CopySubstitutes'. -/
def copySubstitutesUptoCard : Claim7 := { stood := { row := copySubstitutesUptoRow, standIns := [], harness := (true, "eb8238887bc8416033860e47b6ebcc7abfba063f1d45b154639108211c785905"), looks := false }, kinds := [], alts := [], laidByText := true, laidKinds := [.data, .data, .data, .listed, .data], laidTests := true, laidLooks := .later }
def CopySubstitutesUptoCardSaid : Prop := Claim7.holds Tryz.pinned (.plain (OpenSpec.upto copySubstitutesSpec)) copySubstitutesUptoCard
end Rows
end Go.Proofs.YtbifpocccfkhhaaGreatDoor
