/-
  DERIVED. GIVEN WITH THE SEED: THE CARDS: each row of YtpgighcobmaecaaDoorRows.lean that lists a variable, with what it lists TIED to the program's text (the seventh form; the later family's looks); each row that meets fmt, with fmt's text TOLD by the authors' own Lean function (tested against real Go, not proved from fmt's source: count such statements apart). THE CARD IS WHAT COUNTS. Prove the row's statement (the work); the ties are given (YtpgighcobmaecaaDoorTie.lean); close each card by the builder's one call (the guide's Derived/Test/ToyasCard.lean, 'card_holds'). Laid BY PROGRAM, IN A SANDBOX (cutbox-door.mjs). By AI agents, Wed Nov 11 2026. No macro, syntax, notation, axiom, sorry.
-/
import Derived.Test.YtpgighcobmaecaaDoorRows
import GoSem.ClaimSeven
namespace Go.Proofs.YtpgighcobmaecaaDoor
namespace Rows

/-- THE TIED CARD OF 'caucuslaw11.VarintBytes'. -/
def varintBytesCard : Claim7 := { stood := { row := varintBytesRow, standIns := [], harness := (true, "ecb6dc3069dcd45c7d06f6b20ba6b5946b026a356a47e6a784b5374984d75d3f"), looks := true }, kinds := [], alts := [], laidByText := true, laidKinds := [.handle], laidTests := true, laidLooks := .later }
def VarintBytesCardSaid : Prop := Claim7.holds Tryd.pinned (.plain (OpenSpec.ofChange varintBytesSpec)) varintBytesCard

/-- THE TIED CARD OF 'caucuslaw11.VarintBack'. -/
def varintBackCard : Claim7 := { stood := { row := varintBackRow, standIns := [], harness := (true, "ecb6dc3069dcd45c7d06f6b20ba6b5946b026a356a47e6a784b5374984d75d3f"), looks := true }, kinds := [], alts := [], laidByText := true, laidKinds := [.handle], laidTests := true, laidLooks := .later }
def VarintBackCardSaid : Prop := Claim7.holds Tryd.pinned (.plain (OpenSpec.ofChange varintBackSpec)) varintBackCard

/-- THE TIED CARD OF 'caucuslaw11.VarintRow'. -/
def varintRowCard : Claim7 := { stood := { row := varintRowRow, standIns := [], harness := (true, "ecb6dc3069dcd45c7d06f6b20ba6b5946b026a356a47e6a784b5374984d75d3f"), looks := true }, kinds := [], alts := [], laidByText := true, laidKinds := [.handle], laidTests := true, laidLooks := .later }
def VarintRowCardSaid : Prop := Claim7.holds Tryd.pinned (.plain (OpenSpec.ofChange varintRowSpec)) varintRowCard

/-- THE TIED CARD OF 'caucuslaw20.BagAll'. -/
def bagAllCard : Claim7 := { stood := { row := bagAllRow, standIns := [], harness := (true, "ecb6dc3069dcd45c7d06f6b20ba6b5946b026a356a47e6a784b5374984d75d3f"), looks := true }, kinds := [], alts := [], laidByText := true, laidKinds := [.handle], laidTests := true, laidLooks := .later }
def BagAllCardSaid : Prop := Claim7.holds Tryd.pinned (.plain (OpenSpec.ofChange bagAllSpec)) bagAllCard

/-- THE SECOND FORM's CARD OF 'caucuslaw11.VarintBytes'. -/
def varintBytesUptoCard : Claim7 := { stood := { row := varintBytesUptoRow, standIns := [], harness := (true, "ecb6dc3069dcd45c7d06f6b20ba6b5946b026a356a47e6a784b5374984d75d3f"), looks := true }, kinds := [], alts := [], laidByText := true, laidKinds := [.handle], laidTests := true, laidLooks := .later }
def VarintBytesUptoCardSaid : Prop := Claim7.holds Tryd.pinned (.plain (OpenSpec.upto varintBytesSpec)) varintBytesUptoCard

/-- THE SECOND FORM's CARD OF 'caucuslaw11.VarintBack'. -/
def varintBackUptoCard : Claim7 := { stood := { row := varintBackUptoRow, standIns := [], harness := (true, "ecb6dc3069dcd45c7d06f6b20ba6b5946b026a356a47e6a784b5374984d75d3f"), looks := true }, kinds := [], alts := [], laidByText := true, laidKinds := [.handle], laidTests := true, laidLooks := .later }
def VarintBackUptoCardSaid : Prop := Claim7.holds Tryd.pinned (.plain (OpenSpec.upto varintBackSpec)) varintBackUptoCard

/-- THE SECOND FORM's CARD OF 'caucuslaw11.VarintRow'. -/
def varintRowUptoCard : Claim7 := { stood := { row := varintRowUptoRow, standIns := [], harness := (true, "ecb6dc3069dcd45c7d06f6b20ba6b5946b026a356a47e6a784b5374984d75d3f"), looks := true }, kinds := [], alts := [], laidByText := true, laidKinds := [.handle], laidTests := true, laidLooks := .later }
def VarintRowUptoCardSaid : Prop := Claim7.holds Tryd.pinned (.plain (OpenSpec.upto varintRowSpec)) varintRowUptoCard

/-- THE SECOND FORM's CARD OF 'caucuslaw20.BagAll'. -/
def bagAllUptoCard : Claim7 := { stood := { row := bagAllUptoRow, standIns := [], harness := (true, "ecb6dc3069dcd45c7d06f6b20ba6b5946b026a356a47e6a784b5374984d75d3f"), looks := true }, kinds := [], alts := [], laidByText := true, laidKinds := [.handle], laidTests := true, laidLooks := .later }
def BagAllUptoCardSaid : Prop := Claim7.holds Tryd.pinned (.plain (OpenSpec.upto bagAllSpec)) bagAllUptoCard
end Rows
end Go.Proofs.YtpgighcobmaecaaDoor
