/-
  DERIVED. GIVEN WITH THE SEED: THE CARDS: each row of YtgdomnlkafcddaaDoorRows.lean that lists a variable, with what it lists TIED to the program's text (the seventh form; the later family's looks); each row that meets fmt, with fmt's text TOLD by the authors' own Lean function (tested against real Go, not proved from fmt's source: count such statements apart). THE CARD IS WHAT COUNTS. Prove the row's statement (the work); the ties are given (YtgdomnlkafcddaaDoorTie.lean); close each card by the builder's one call (the guide's Derived/Test/ToyasCard.lean, 'card_holds'). Laid BY PROGRAM, IN A SANDBOX (cutbox-door.mjs). By AI agents, Wed Nov 11 2026. No macro, syntax, notation, axiom, sorry.
-/
import Derived.Test.YtgdomnlkafcddaaDoorRows
import GoSem.ClaimSeven
namespace Go.Proofs.YtgdomnlkafcddaaDoor
namespace Rows

/-- THE TIED CARD OF 'assayerlaw3.MutateKills'. -/
def mutateKillsCard : Claim7 := { stood := { row := mutateKillsRow, standIns := [], harness := (true, "7f2edbe35f4b4e1b3922e39e0493098a6bc69af4a45717dbda17769ef0d3a08b"), looks := true }, kinds := [], alts := [], laidByText := true, laidKinds := [.data, .widerDeep, .widerDeep], laidTests := true, laidLooks := .later }
def MutateKillsCardSaid : Prop := Claim7.holds Tryd.pinned (.plain (OpenSpec.ofChange mutateKillsSpec)) mutateKillsCard

/-- THE TIED CARD OF 'assayerlaw3.MutateAlive'. -/
def mutateAliveCard : Claim7 := { stood := { row := mutateAliveRow, standIns := [], harness := (true, "7f2edbe35f4b4e1b3922e39e0493098a6bc69af4a45717dbda17769ef0d3a08b"), looks := true }, kinds := [], alts := [], laidByText := true, laidKinds := [.data, .widerDeep, .widerDeep], laidTests := true, laidLooks := .later }
def MutateAliveCardSaid : Prop := Claim7.holds Tryd.pinned (.plain (OpenSpec.ofChange mutateAliveSpec)) mutateAliveCard

/-- THE TIED CARD OF 'assayertop.TopCovers'. -/
def topCoversCard : Claim7 := { stood := { row := topCoversRow, standIns := [], harness := (true, "7f2edbe35f4b4e1b3922e39e0493098a6bc69af4a45717dbda17769ef0d3a08b"), looks := true }, kinds := [], alts := [], laidByText := true, laidKinds := [.data, .data], laidTests := true, laidLooks := .later }
def TopCoversCardSaid : Prop := Claim7.holds Tryd.pinned (.plain (OpenSpec.ofChange topCoversSpec)) topCoversCard

/-- THE TIED CARD OF 'assayerlaw5.GramOwn'. -/
def gramOwnCard : Claim7 := { stood := { row := gramOwnRow, standIns := [], harness := (true, "7f2edbe35f4b4e1b3922e39e0493098a6bc69af4a45717dbda17769ef0d3a08b"), looks := true }, kinds := [], alts := [], laidByText := true, laidKinds := [.handle], laidTests := true, laidLooks := .later }
def GramOwnCardSaid : Prop := Claim7.holds Tryd.pinned (.plain (OpenSpec.ofChange gramOwnSpec)) gramOwnCard

/-- THE TIED CARD OF 'assayerlaw5.RoseOwn'. -/
def roseOwnCard : Claim7 := { stood := { row := roseOwnRow, standIns := [], harness := (true, "7f2edbe35f4b4e1b3922e39e0493098a6bc69af4a45717dbda17769ef0d3a08b"), looks := true }, kinds := [], alts := [], laidByText := true, laidKinds := [.handle], laidTests := true, laidLooks := .later }
def RoseOwnCardSaid : Prop := Claim7.holds Tryd.pinned (.plain (OpenSpec.ofChange roseOwnSpec)) roseOwnCard

/-- THE TIED CARD OF 'assayerlaw3.MutateTells'. -/
def mutateTellsCard : Claim7 := { stood := { row := mutateTellsRow, standIns := [], harness := (true, "7f2edbe35f4b4e1b3922e39e0493098a6bc69af4a45717dbda17769ef0d3a08b"), looks := true }, kinds := [], alts := [], laidByText := true, laidKinds := [.handle, .data, .widerDeep, .widerDeep], laidTests := true, laidLooks := .later }
def MutateTellsCardSaid : Prop := Claim7.holds Tryd.pinned (.plain (OpenSpec.ofChange mutateTellsSpec)) mutateTellsCard

/-- THE TIED CARD OF 'assayerlaw5.RankOwn'. -/
def rankOwnCard : Claim7 := { stood := { row := rankOwnRow, standIns := [], harness := (true, "7f2edbe35f4b4e1b3922e39e0493098a6bc69af4a45717dbda17769ef0d3a08b"), looks := true }, kinds := [], alts := [], laidByText := true, laidKinds := [.handle], laidTests := true, laidLooks := .later }
def RankOwnCardSaid : Prop := Claim7.holds Tryd.pinned (.plain (OpenSpec.ofChange rankOwnSpec)) rankOwnCard

/-- THE TIED CARD OF 'assayerlaw5.GenOwn'. -/
def genOwnCard : Claim7 := { stood := { row := genOwnRow, standIns := [], harness := (true, "7f2edbe35f4b4e1b3922e39e0493098a6bc69af4a45717dbda17769ef0d3a08b"), looks := true }, kinds := [], alts := [], laidByText := true, laidKinds := [.data, .data, .data], laidTests := true, laidLooks := .later }
def GenOwnCardSaid : Prop := Claim7.holds Tryd.pinned (.plain (OpenSpec.ofChange genOwnSpec)) genOwnCard

/-- THE TIED CARD OF 'assayerlaw5.ShrinkOwn'. -/
def shrinkOwnCard : Claim7 := { stood := { row := shrinkOwnRow, standIns := [], harness := (true, "7f2edbe35f4b4e1b3922e39e0493098a6bc69af4a45717dbda17769ef0d3a08b"), looks := true }, kinds := [], alts := [], laidByText := true, laidKinds := [.handle, .data], laidTests := true, laidLooks := .later }
def ShrinkOwnCardSaid : Prop := Claim7.holds Tryd.pinned (.plain (OpenSpec.ofChange shrinkOwnSpec)) shrinkOwnCard

/-- THE TIED CARD OF 'assayerlaw6.GenWraps'. -/
def genWrapsCard : Claim7 := { stood := { row := genWrapsRow, standIns := [], harness := (true, "7f2edbe35f4b4e1b3922e39e0493098a6bc69af4a45717dbda17769ef0d3a08b"), looks := true }, kinds := [], alts := [], laidByText := true, laidKinds := [.data, .data, .data, .handle], laidTests := true, laidLooks := .later }
def GenWrapsCardSaid : Prop := Claim7.holds Tryd.pinned (.plain (OpenSpec.ofChange genWrapsSpec)) genWrapsCard

/-- THE TIED CARD OF 'assayerlaw6.ShrinkStays'. -/
def shrinkStaysCard : Claim7 := { stood := { row := shrinkStaysRow, standIns := [], harness := (true, "7f2edbe35f4b4e1b3922e39e0493098a6bc69af4a45717dbda17769ef0d3a08b"), looks := true }, kinds := [], alts := [], laidByText := true, laidKinds := [.handle, .data], laidTests := true, laidLooks := .later }
def ShrinkStaysCardSaid : Prop := Claim7.holds Tryd.pinned (.plain (OpenSpec.ofChange shrinkStaysSpec)) shrinkStaysCard

/-- THE TIED CARD OF 'assayerlaw5.SuiteOwn'. -/
def suiteOwnCard : Claim7 := { stood := { row := suiteOwnRow, standIns := [], harness := (true, "7f2edbe35f4b4e1b3922e39e0493098a6bc69af4a45717dbda17769ef0d3a08b"), looks := true }, kinds := [], alts := [], laidByText := true, laidKinds := [.data, .data, .handle], laidTests := true, laidLooks := .later }
def SuiteOwnCardSaid : Prop := Claim7.holds Tryd.pinned (.plain (OpenSpec.ofChange suiteOwnSpec)) suiteOwnCard

/-- THE TIED CARD OF 'assayerlaw6.ValBrackets'. -/
def valBracketsCard : Claim7 := { stood := { row := valBracketsRow, standIns := [], harness := (true, "7f2edbe35f4b4e1b3922e39e0493098a6bc69af4a45717dbda17769ef0d3a08b"), looks := true }, kinds := [], alts := [], laidByText := true, laidKinds := [.data, .data, .data, .sentinel, .sentinel], laidTests := true, laidLooks := .later }
def ValBracketsCardSaid : Prop := Claim7.holds Tryd.pinned (.plain (OpenSpec.ofChange valBracketsSpec)) valBracketsCard

/-- THE TIED CARD OF 'assayerlaw5.ValOwn'. -/
def valOwnCard : Claim7 := { stood := { row := valOwnRow, standIns := [], harness := (true, "7f2edbe35f4b4e1b3922e39e0493098a6bc69af4a45717dbda17769ef0d3a08b"), looks := true }, kinds := [], alts := [], laidByText := true, laidKinds := [.data, .data, .data, .handle, .sentinel, .sentinel], laidTests := true, laidLooks := .later }
def ValOwnCardSaid : Prop := Claim7.holds Tryd.pinned (.plain (OpenSpec.ofChange valOwnSpec)) valOwnCard

/-- THE SECOND FORM's CARD OF 'assayerlaw3.MutateKills'. -/
def mutateKillsUptoCard : Claim7 := { stood := { row := mutateKillsUptoRow, standIns := [], harness := (true, "7f2edbe35f4b4e1b3922e39e0493098a6bc69af4a45717dbda17769ef0d3a08b"), looks := true }, kinds := [], alts := [], laidByText := true, laidKinds := [.data, .widerDeep, .widerDeep], laidTests := true, laidLooks := .later }
def MutateKillsUptoCardSaid : Prop := Claim7.holds Tryd.pinned (.plain (OpenSpec.upto mutateKillsSpec)) mutateKillsUptoCard

/-- THE SECOND FORM's CARD OF 'assayerlaw3.MutateAlive'. -/
def mutateAliveUptoCard : Claim7 := { stood := { row := mutateAliveUptoRow, standIns := [], harness := (true, "7f2edbe35f4b4e1b3922e39e0493098a6bc69af4a45717dbda17769ef0d3a08b"), looks := true }, kinds := [], alts := [], laidByText := true, laidKinds := [.data, .widerDeep, .widerDeep], laidTests := true, laidLooks := .later }
def MutateAliveUptoCardSaid : Prop := Claim7.holds Tryd.pinned (.plain (OpenSpec.upto mutateAliveSpec)) mutateAliveUptoCard

/-- THE SECOND FORM's CARD OF 'assayertop.TopCovers'. -/
def topCoversUptoCard : Claim7 := { stood := { row := topCoversUptoRow, standIns := [], harness := (true, "7f2edbe35f4b4e1b3922e39e0493098a6bc69af4a45717dbda17769ef0d3a08b"), looks := true }, kinds := [], alts := [], laidByText := true, laidKinds := [.data, .data], laidTests := true, laidLooks := .later }
def TopCoversUptoCardSaid : Prop := Claim7.holds Tryd.pinned (.plain (OpenSpec.upto topCoversSpec)) topCoversUptoCard

/-- THE SECOND FORM's CARD OF 'assayerlaw5.GramOwn'. -/
def gramOwnUptoCard : Claim7 := { stood := { row := gramOwnUptoRow, standIns := [], harness := (true, "7f2edbe35f4b4e1b3922e39e0493098a6bc69af4a45717dbda17769ef0d3a08b"), looks := true }, kinds := [], alts := [], laidByText := true, laidKinds := [.handle], laidTests := true, laidLooks := .later }
def GramOwnUptoCardSaid : Prop := Claim7.holds Tryd.pinned (.plain (OpenSpec.upto gramOwnSpec)) gramOwnUptoCard

/-- THE SECOND FORM's CARD OF 'assayerlaw5.RoseOwn'. -/
def roseOwnUptoCard : Claim7 := { stood := { row := roseOwnUptoRow, standIns := [], harness := (true, "7f2edbe35f4b4e1b3922e39e0493098a6bc69af4a45717dbda17769ef0d3a08b"), looks := true }, kinds := [], alts := [], laidByText := true, laidKinds := [.handle], laidTests := true, laidLooks := .later }
def RoseOwnUptoCardSaid : Prop := Claim7.holds Tryd.pinned (.plain (OpenSpec.upto roseOwnSpec)) roseOwnUptoCard

/-- THE SECOND FORM's CARD OF 'assayerlaw3.MutateTells'. -/
def mutateTellsUptoCard : Claim7 := { stood := { row := mutateTellsUptoRow, standIns := [], harness := (true, "7f2edbe35f4b4e1b3922e39e0493098a6bc69af4a45717dbda17769ef0d3a08b"), looks := true }, kinds := [], alts := [], laidByText := true, laidKinds := [.handle, .data, .widerDeep, .widerDeep], laidTests := true, laidLooks := .later }
def MutateTellsUptoCardSaid : Prop := Claim7.holds Tryd.pinned (.plain (OpenSpec.upto mutateTellsSpec)) mutateTellsUptoCard

/-- THE SECOND FORM's CARD OF 'assayerlaw5.RankOwn'. -/
def rankOwnUptoCard : Claim7 := { stood := { row := rankOwnUptoRow, standIns := [], harness := (true, "7f2edbe35f4b4e1b3922e39e0493098a6bc69af4a45717dbda17769ef0d3a08b"), looks := true }, kinds := [], alts := [], laidByText := true, laidKinds := [.handle], laidTests := true, laidLooks := .later }
def RankOwnUptoCardSaid : Prop := Claim7.holds Tryd.pinned (.plain (OpenSpec.upto rankOwnSpec)) rankOwnUptoCard

/-- THE SECOND FORM's CARD OF 'assayerlaw5.GenOwn'. -/
def genOwnUptoCard : Claim7 := { stood := { row := genOwnUptoRow, standIns := [], harness := (true, "7f2edbe35f4b4e1b3922e39e0493098a6bc69af4a45717dbda17769ef0d3a08b"), looks := true }, kinds := [], alts := [], laidByText := true, laidKinds := [.data, .data, .data], laidTests := true, laidLooks := .later }
def GenOwnUptoCardSaid : Prop := Claim7.holds Tryd.pinned (.plain (OpenSpec.upto genOwnSpec)) genOwnUptoCard

/-- THE SECOND FORM's CARD OF 'assayerlaw5.ShrinkOwn'. -/
def shrinkOwnUptoCard : Claim7 := { stood := { row := shrinkOwnUptoRow, standIns := [], harness := (true, "7f2edbe35f4b4e1b3922e39e0493098a6bc69af4a45717dbda17769ef0d3a08b"), looks := true }, kinds := [], alts := [], laidByText := true, laidKinds := [.handle, .data], laidTests := true, laidLooks := .later }
def ShrinkOwnUptoCardSaid : Prop := Claim7.holds Tryd.pinned (.plain (OpenSpec.upto shrinkOwnSpec)) shrinkOwnUptoCard

/-- THE SECOND FORM's CARD OF 'assayerlaw6.GenWraps'. -/
def genWrapsUptoCard : Claim7 := { stood := { row := genWrapsUptoRow, standIns := [], harness := (true, "7f2edbe35f4b4e1b3922e39e0493098a6bc69af4a45717dbda17769ef0d3a08b"), looks := true }, kinds := [], alts := [], laidByText := true, laidKinds := [.data, .data, .data, .handle], laidTests := true, laidLooks := .later }
def GenWrapsUptoCardSaid : Prop := Claim7.holds Tryd.pinned (.plain (OpenSpec.upto genWrapsSpec)) genWrapsUptoCard

/-- THE SECOND FORM's CARD OF 'assayerlaw6.ShrinkStays'. -/
def shrinkStaysUptoCard : Claim7 := { stood := { row := shrinkStaysUptoRow, standIns := [], harness := (true, "7f2edbe35f4b4e1b3922e39e0493098a6bc69af4a45717dbda17769ef0d3a08b"), looks := true }, kinds := [], alts := [], laidByText := true, laidKinds := [.handle, .data], laidTests := true, laidLooks := .later }
def ShrinkStaysUptoCardSaid : Prop := Claim7.holds Tryd.pinned (.plain (OpenSpec.upto shrinkStaysSpec)) shrinkStaysUptoCard

/-- THE SECOND FORM's CARD OF 'assayerlaw5.SuiteOwn'. -/
def suiteOwnUptoCard : Claim7 := { stood := { row := suiteOwnUptoRow, standIns := [], harness := (true, "7f2edbe35f4b4e1b3922e39e0493098a6bc69af4a45717dbda17769ef0d3a08b"), looks := true }, kinds := [], alts := [], laidByText := true, laidKinds := [.data, .data, .handle], laidTests := true, laidLooks := .later }
def SuiteOwnUptoCardSaid : Prop := Claim7.holds Tryd.pinned (.plain (OpenSpec.upto suiteOwnSpec)) suiteOwnUptoCard

/-- THE SECOND FORM's CARD OF 'assayerlaw6.ValBrackets'. -/
def valBracketsUptoCard : Claim7 := { stood := { row := valBracketsUptoRow, standIns := [], harness := (true, "7f2edbe35f4b4e1b3922e39e0493098a6bc69af4a45717dbda17769ef0d3a08b"), looks := true }, kinds := [], alts := [], laidByText := true, laidKinds := [.data, .data, .data, .sentinel, .sentinel], laidTests := true, laidLooks := .later }
def ValBracketsUptoCardSaid : Prop := Claim7.holds Tryd.pinned (.plain (OpenSpec.upto valBracketsSpec)) valBracketsUptoCard

/-- THE SECOND FORM's CARD OF 'assayerlaw5.ValOwn'. -/
def valOwnUptoCard : Claim7 := { stood := { row := valOwnUptoRow, standIns := [], harness := (true, "7f2edbe35f4b4e1b3922e39e0493098a6bc69af4a45717dbda17769ef0d3a08b"), looks := true }, kinds := [], alts := [], laidByText := true, laidKinds := [.data, .data, .data, .handle, .sentinel, .sentinel], laidTests := true, laidLooks := .later }
def ValOwnUptoCardSaid : Prop := Claim7.holds Tryd.pinned (.plain (OpenSpec.upto valOwnSpec)) valOwnUptoCard
end Rows
end Go.Proofs.YtgdomnlkafcddaaDoor
