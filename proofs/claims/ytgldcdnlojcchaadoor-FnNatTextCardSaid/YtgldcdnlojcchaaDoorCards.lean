/-
  DERIVED. GIVEN WITH THE SEED: THE CARDS: each row of YtgldcdnlojcchaaDoorRows.lean that lists a variable, with what it lists TIED to the program's text (the seventh form; the later family's looks); each row that meets fmt, with fmt's text TOLD by the authors' own Lean function (tested against real Go, not proved from fmt's source: count such statements apart). THE CARD IS WHAT COUNTS. Prove the row's statement (the work); the ties are given (YtgldcdnlojcchaaDoorTie.lean); close each card by the builder's one call (the guide's Derived/Test/ToyasCard.lean, 'card_holds'). Laid BY PROGRAM, IN A SANDBOX (cutbox-door.mjs). By AI agents, Wed Nov 11 2026. No macro, syntax, notation, axiom, sorry.
-/
import Derived.Test.YtgldcdnlojcchaaDoorRows
import GoSem.ClaimSeven
namespace Go.Proofs.YtgldcdnlojcchaaDoor
namespace Rows

/-- THE TIED CARD OF 'laws.FnExactReadNat'. -/
def fnExactReadNatCard : Claim7 := { stood := { row := fnExactReadNatRow, standIns := [], harness := (true, "f932522b8b5e36fa988fd345a2f730ea0f79b29d0c8a52f907237f45d7f1c958"), looks := true }, kinds := [], alts := [], laidByText := true, laidKinds := [.data, .data, .data, .sentinel, .sentinel], laidTests := true, laidLooks := .later }
def FnExactReadNatCardSaid : Prop := Claim7.holds Tryd.pinned (.plain (OpenSpec.ofChange fnExactReadNatSpec)) fnExactReadNatCard

/-- THE TIED CARD OF 'laws.FnExactNatText'. -/
def fnExactNatTextCard : Claim7 := { stood := { row := fnExactNatTextRow, standIns := [], harness := (true, "f932522b8b5e36fa988fd345a2f730ea0f79b29d0c8a52f907237f45d7f1c958"), looks := true }, kinds := [], alts := [], laidByText := true, laidKinds := [.data, .data, .data], laidTests := true, laidLooks := .later }
def FnExactNatTextCardSaid : Prop := Claim7.holds Tryd.pinned (.plain (OpenSpec.ofChange fnExactNatTextSpec)) fnExactNatTextCard

/-- THE TIED CARD OF 'laws.FnNatText'. -/
def fnNatTextCard : Claim7 := { stood := { row := fnNatTextRow, standIns := [], harness := (true, "f932522b8b5e36fa988fd345a2f730ea0f79b29d0c8a52f907237f45d7f1c958"), looks := true }, kinds := [], alts := [], laidByText := true, laidKinds := [.data, .data, .data, .sentinel, .sentinel], laidTests := true, laidLooks := .later }
def FnNatTextCardSaid : Prop := Claim7.holds Tryd.pinned (.plain (OpenSpec.ofChange fnNatTextSpec)) fnNatTextCard

/-- THE SECOND FORM's CARD OF 'laws.FnExactReadNat'. -/
def fnExactReadNatUptoCard : Claim7 := { stood := { row := fnExactReadNatUptoRow, standIns := [], harness := (true, "f932522b8b5e36fa988fd345a2f730ea0f79b29d0c8a52f907237f45d7f1c958"), looks := true }, kinds := [], alts := [], laidByText := true, laidKinds := [.data, .data, .data, .sentinel, .sentinel], laidTests := true, laidLooks := .later }
def FnExactReadNatUptoCardSaid : Prop := Claim7.holds Tryd.pinned (.plain (OpenSpec.upto fnExactReadNatSpec)) fnExactReadNatUptoCard

/-- THE SECOND FORM's CARD OF 'laws.FnExactNatText'. -/
def fnExactNatTextUptoCard : Claim7 := { stood := { row := fnExactNatTextUptoRow, standIns := [], harness := (true, "f932522b8b5e36fa988fd345a2f730ea0f79b29d0c8a52f907237f45d7f1c958"), looks := true }, kinds := [], alts := [], laidByText := true, laidKinds := [.data, .data, .data], laidTests := true, laidLooks := .later }
def FnExactNatTextUptoCardSaid : Prop := Claim7.holds Tryd.pinned (.plain (OpenSpec.upto fnExactNatTextSpec)) fnExactNatTextUptoCard

/-- THE SECOND FORM's CARD OF 'laws.FnNatText'. -/
def fnNatTextUptoCard : Claim7 := { stood := { row := fnNatTextUptoRow, standIns := [], harness := (true, "f932522b8b5e36fa988fd345a2f730ea0f79b29d0c8a52f907237f45d7f1c958"), looks := true }, kinds := [], alts := [], laidByText := true, laidKinds := [.data, .data, .data, .sentinel, .sentinel], laidTests := true, laidLooks := .later }
def FnNatTextUptoCardSaid : Prop := Claim7.holds Tryd.pinned (.plain (OpenSpec.upto fnNatTextSpec)) fnNatTextUptoCard
end Rows
end Go.Proofs.YtgldcdnlojcchaaDoor
