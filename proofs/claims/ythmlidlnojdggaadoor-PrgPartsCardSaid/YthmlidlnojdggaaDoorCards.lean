/-
  DERIVED. GIVEN WITH THE SEED: THE CARDS: each row of YthmlidlnojdggaaDoorRows.lean that lists a variable, with what it lists TIED to the program's text (the seventh form; the later family's looks); each row that meets fmt, with fmt's text TOLD by the authors' own Lean function (tested against real Go, not proved from fmt's source: count such statements apart). THE CARD IS WHAT COUNTS. Prove the row's statement (the work); the ties are given (YthmlidlnojdggaaDoorTie.lean); close each card by the builder's one call (the guide's Derived/Test/ToyasCard.lean, 'card_holds'). Laid BY PROGRAM, IN A SANDBOX (cutbox-door.mjs). By AI agents, Wed Nov 11 2026. No macro, syntax, notation, axiom, sorry.
-/
import Derived.Test.YthmlidlnojdggaaDoorRows
import GoSem.ClaimSeven
namespace Go.Proofs.YthmlidlnojdggaaDoor
namespace Rows

/-- THE TIED CARD OF 'caucuslaw05.ShaSums'. -/
def shaSumsCard : Claim7 := { stood := { row := shaSumsRow, standIns := [], harness := (true, "f2e56102bc713bfdb3355288eefbf29889a46f89f15ab31cacda17db4ee53fa6"), looks := true }, kinds := [], alts := [], laidByText := true, laidKinds := [.handle], laidTests := true, laidLooks := .later }
def ShaSumsCardSaid : Prop := Claim7.holds Tryd.pinned (.plain (OpenSpec.ofChange shaSumsSpec)) shaSumsCard

/-- THE TIED CARD OF 'caucuslaw05.ShaTexts'. -/
def shaTextsCard : Claim7 := { stood := { row := shaTextsRow, standIns := [], harness := (true, "f2e56102bc713bfdb3355288eefbf29889a46f89f15ab31cacda17db4ee53fa6"), looks := true }, kinds := [], alts := [], laidByText := true, laidKinds := [.handle], laidTests := true, laidLooks := .later }
def ShaTextsCardSaid : Prop := Claim7.holds Tryd.pinned (.plain (OpenSpec.ofChange shaTextsSpec)) shaTextsCard

/-- THE TIED CARD OF 'caucuslaw07.PrgNums'. -/
def prgNumsCard : Claim7 := { stood := { row := prgNumsRow, standIns := [], harness := (true, "f2e56102bc713bfdb3355288eefbf29889a46f89f15ab31cacda17db4ee53fa6"), looks := true }, kinds := [], alts := [], laidByText := true, laidKinds := [.handle], laidTests := true, laidLooks := .later }
def PrgNumsCardSaid : Prop := Claim7.holds Tryd.pinned (.plain (OpenSpec.ofChange prgNumsSpec)) prgNumsCard

/-- THE TIED CARD OF 'caucuslaw07.PrgFirst'. -/
def prgFirstCard : Claim7 := { stood := { row := prgFirstRow, standIns := [], harness := (true, "f2e56102bc713bfdb3355288eefbf29889a46f89f15ab31cacda17db4ee53fa6"), looks := true }, kinds := [], alts := [], laidByText := true, laidKinds := [.handle], laidTests := true, laidLooks := .later }
def PrgFirstCardSaid : Prop := Claim7.holds Tryd.pinned (.plain (OpenSpec.ofChange prgFirstSpec)) prgFirstCard

/-- THE TIED CARD OF 'caucuslaw07.PrgParts'. -/
def prgPartsCard : Claim7 := { stood := { row := prgPartsRow, standIns := [], harness := (true, "f2e56102bc713bfdb3355288eefbf29889a46f89f15ab31cacda17db4ee53fa6"), looks := true }, kinds := [], alts := [], laidByText := true, laidKinds := [.handle], laidTests := true, laidLooks := .later }
def PrgPartsCardSaid : Prop := Claim7.holds Tryd.pinned (.plain (OpenSpec.ofChange prgPartsSpec)) prgPartsCard

/-- THE TIED CARD OF 'caucuslaw09.PairTells'. -/
def pairTellsCard : Claim7 := { stood := { row := pairTellsRow, standIns := [], harness := (true, "f2e56102bc713bfdb3355288eefbf29889a46f89f15ab31cacda17db4ee53fa6"), looks := true }, kinds := [], alts := [], laidByText := true, laidKinds := [.handle], laidTests := true, laidLooks := .later }
def PairTellsCardSaid : Prop := Claim7.holds Tryd.pinned (.plain (OpenSpec.ofChange pairTellsSpec)) pairTellsCard

/-- THE TIED CARD OF 'caucuslaw09.PairMore'. -/
def pairMoreCard : Claim7 := { stood := { row := pairMoreRow, standIns := [], harness := (true, "f2e56102bc713bfdb3355288eefbf29889a46f89f15ab31cacda17db4ee53fa6"), looks := true }, kinds := [], alts := [], laidByText := true, laidKinds := [.handle], laidTests := true, laidLooks := .later }
def PairMoreCardSaid : Prop := Claim7.holds Tryd.pinned (.plain (OpenSpec.ofChange pairMoreSpec)) pairMoreCard

/-- THE TIED CARD OF 'caucuslaw09.PairZero'. -/
def pairZeroCard : Claim7 := { stood := { row := pairZeroRow, standIns := [], harness := (true, "f2e56102bc713bfdb3355288eefbf29889a46f89f15ab31cacda17db4ee53fa6"), looks := true }, kinds := [], alts := [], laidByText := true, laidKinds := [.handle], laidTests := true, laidLooks := .later }
def PairZeroCardSaid : Prop := Claim7.holds Tryd.pinned (.plain (OpenSpec.ofChange pairZeroSpec)) pairZeroCard

/-- THE TIED CARD OF 'caucuslaw24.DrawTells'. -/
def drawTellsCard : Claim7 := { stood := { row := drawTellsRow, standIns := [], harness := (true, "f2e56102bc713bfdb3355288eefbf29889a46f89f15ab31cacda17db4ee53fa6"), looks := true }, kinds := [], alts := [], laidByText := true, laidKinds := [.data, .data, .data, .handle], laidTests := true, laidLooks := .later }
def DrawTellsCardSaid : Prop := Claim7.holds Tryd.pinned (.plain (OpenSpec.ofChange drawTellsSpec)) drawTellsCard

/-- THE TIED CARD OF 'caucuslaw24.DrawFirst'. -/
def drawFirstCard : Claim7 := { stood := { row := drawFirstRow, standIns := [], harness := (true, "f2e56102bc713bfdb3355288eefbf29889a46f89f15ab31cacda17db4ee53fa6"), looks := true }, kinds := [], alts := [], laidByText := true, laidKinds := [.data, .data, .data, .handle], laidTests := true, laidLooks := .later }
def DrawFirstCardSaid : Prop := Claim7.holds Tryd.pinned (.plain (OpenSpec.ofChange drawFirstSpec)) drawFirstCard

/-- THE SECOND FORM's CARD OF 'caucuslaw05.ShaSums'. -/
def shaSumsUptoCard : Claim7 := { stood := { row := shaSumsUptoRow, standIns := [], harness := (true, "f2e56102bc713bfdb3355288eefbf29889a46f89f15ab31cacda17db4ee53fa6"), looks := true }, kinds := [], alts := [], laidByText := true, laidKinds := [.handle], laidTests := true, laidLooks := .later }
def ShaSumsUptoCardSaid : Prop := Claim7.holds Tryd.pinned (.plain (OpenSpec.upto shaSumsSpec)) shaSumsUptoCard

/-- THE SECOND FORM's CARD OF 'caucuslaw05.ShaTexts'. -/
def shaTextsUptoCard : Claim7 := { stood := { row := shaTextsUptoRow, standIns := [], harness := (true, "f2e56102bc713bfdb3355288eefbf29889a46f89f15ab31cacda17db4ee53fa6"), looks := true }, kinds := [], alts := [], laidByText := true, laidKinds := [.handle], laidTests := true, laidLooks := .later }
def ShaTextsUptoCardSaid : Prop := Claim7.holds Tryd.pinned (.plain (OpenSpec.upto shaTextsSpec)) shaTextsUptoCard

/-- THE SECOND FORM's CARD OF 'caucuslaw07.PrgNums'. -/
def prgNumsUptoCard : Claim7 := { stood := { row := prgNumsUptoRow, standIns := [], harness := (true, "f2e56102bc713bfdb3355288eefbf29889a46f89f15ab31cacda17db4ee53fa6"), looks := true }, kinds := [], alts := [], laidByText := true, laidKinds := [.handle], laidTests := true, laidLooks := .later }
def PrgNumsUptoCardSaid : Prop := Claim7.holds Tryd.pinned (.plain (OpenSpec.upto prgNumsSpec)) prgNumsUptoCard

/-- THE SECOND FORM's CARD OF 'caucuslaw07.PrgFirst'. -/
def prgFirstUptoCard : Claim7 := { stood := { row := prgFirstUptoRow, standIns := [], harness := (true, "f2e56102bc713bfdb3355288eefbf29889a46f89f15ab31cacda17db4ee53fa6"), looks := true }, kinds := [], alts := [], laidByText := true, laidKinds := [.handle], laidTests := true, laidLooks := .later }
def PrgFirstUptoCardSaid : Prop := Claim7.holds Tryd.pinned (.plain (OpenSpec.upto prgFirstSpec)) prgFirstUptoCard

/-- THE SECOND FORM's CARD OF 'caucuslaw07.PrgParts'. -/
def prgPartsUptoCard : Claim7 := { stood := { row := prgPartsUptoRow, standIns := [], harness := (true, "f2e56102bc713bfdb3355288eefbf29889a46f89f15ab31cacda17db4ee53fa6"), looks := true }, kinds := [], alts := [], laidByText := true, laidKinds := [.handle], laidTests := true, laidLooks := .later }
def PrgPartsUptoCardSaid : Prop := Claim7.holds Tryd.pinned (.plain (OpenSpec.upto prgPartsSpec)) prgPartsUptoCard

/-- THE SECOND FORM's CARD OF 'caucuslaw09.PairTells'. -/
def pairTellsUptoCard : Claim7 := { stood := { row := pairTellsUptoRow, standIns := [], harness := (true, "f2e56102bc713bfdb3355288eefbf29889a46f89f15ab31cacda17db4ee53fa6"), looks := true }, kinds := [], alts := [], laidByText := true, laidKinds := [.handle], laidTests := true, laidLooks := .later }
def PairTellsUptoCardSaid : Prop := Claim7.holds Tryd.pinned (.plain (OpenSpec.upto pairTellsSpec)) pairTellsUptoCard

/-- THE SECOND FORM's CARD OF 'caucuslaw09.PairMore'. -/
def pairMoreUptoCard : Claim7 := { stood := { row := pairMoreUptoRow, standIns := [], harness := (true, "f2e56102bc713bfdb3355288eefbf29889a46f89f15ab31cacda17db4ee53fa6"), looks := true }, kinds := [], alts := [], laidByText := true, laidKinds := [.handle], laidTests := true, laidLooks := .later }
def PairMoreUptoCardSaid : Prop := Claim7.holds Tryd.pinned (.plain (OpenSpec.upto pairMoreSpec)) pairMoreUptoCard

/-- THE SECOND FORM's CARD OF 'caucuslaw09.PairZero'. -/
def pairZeroUptoCard : Claim7 := { stood := { row := pairZeroUptoRow, standIns := [], harness := (true, "f2e56102bc713bfdb3355288eefbf29889a46f89f15ab31cacda17db4ee53fa6"), looks := true }, kinds := [], alts := [], laidByText := true, laidKinds := [.handle], laidTests := true, laidLooks := .later }
def PairZeroUptoCardSaid : Prop := Claim7.holds Tryd.pinned (.plain (OpenSpec.upto pairZeroSpec)) pairZeroUptoCard

/-- THE SECOND FORM's CARD OF 'caucuslaw24.DrawTells'. -/
def drawTellsUptoCard : Claim7 := { stood := { row := drawTellsUptoRow, standIns := [], harness := (true, "f2e56102bc713bfdb3355288eefbf29889a46f89f15ab31cacda17db4ee53fa6"), looks := true }, kinds := [], alts := [], laidByText := true, laidKinds := [.data, .data, .data, .handle], laidTests := true, laidLooks := .later }
def DrawTellsUptoCardSaid : Prop := Claim7.holds Tryd.pinned (.plain (OpenSpec.upto drawTellsSpec)) drawTellsUptoCard

/-- THE SECOND FORM's CARD OF 'caucuslaw24.DrawFirst'. -/
def drawFirstUptoCard : Claim7 := { stood := { row := drawFirstUptoRow, standIns := [], harness := (true, "f2e56102bc713bfdb3355288eefbf29889a46f89f15ab31cacda17db4ee53fa6"), looks := true }, kinds := [], alts := [], laidByText := true, laidKinds := [.data, .data, .data, .handle], laidTests := true, laidLooks := .later }
def DrawFirstUptoCardSaid : Prop := Claim7.holds Tryd.pinned (.plain (OpenSpec.upto drawFirstSpec)) drawFirstUptoCard
end Rows
end Go.Proofs.YthmlidlnojdggaaDoor
