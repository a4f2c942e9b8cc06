/-
  DERIVED. GIVEN WITH THE SEED: THE CARDS: each row of YtcbdhdblchmofaaDoorRows.lean that lists a variable, with what it lists TIED to the program's text (the seventh form; the later family's looks); each row that meets fmt, with fmt's text TOLD by the authors' own Lean function (tested against real Go, not proved from fmt's source: count such statements apart). THE CARD IS WHAT COUNTS. Prove the row's statement (the work); the ties are given (YtcbdhdblchmofaaDoorTie.lean); close each card by the builder's one call (the guide's Derived/Test/ToyasCard.lean, 'card_holds'). Laid BY PROGRAM, IN A SANDBOX (cutbox-door.mjs). By AI agents, Wed Nov 11 2026. No macro, syntax, notation, axiom, sorry.
-/
import Derived.Test.YtcbdhdblchmofaaDoorRows
import GoSem.ClaimSeven
namespace Go.Proofs.YtcbdhdblchmofaaDoor
namespace Rows

/-- THE TIED CARD OF 'chirographkeep.SumKnown'. -/
def sumKnownCard : Claim7 := { stood := { row := sumKnownRow, standIns := [], harness := (true, "8a4a5ac7924a3faa0488b22b1b1f70db036614af62740df0b2d9f6d466d48125"), looks := false }, kinds := [], alts := [], laidByText := true, laidKinds := [.data], laidTests := true, laidLooks := .later }
def SumKnownCardSaid : Prop := Claim7.holds Tryd.pinned (.plain (OpenSpec.ofChange sumKnownSpec)) sumKnownCard

/-- THE TIED CARD OF 'chirographkeep.SaltsApart'. -/
def saltsApartCard : Claim7 := { stood := { row := saltsApartRow, standIns := [], harness := (true, "8a4a5ac7924a3faa0488b22b1b1f70db036614af62740df0b2d9f6d466d48125"), looks := false }, kinds := [], alts := [], laidByText := true, laidKinds := [.data], laidTests := true, laidLooks := .later }
def SaltsApartCardSaid : Prop := Claim7.holds Tryd.pinned (.plain (OpenSpec.ofChange saltsApartSpec)) saltsApartCard

/-- THE TIED CARD OF 'chirographkeep.SumParts'. -/
def sumPartsCard : Claim7 := { stood := { row := sumPartsRow, standIns := [], harness := (true, "8a4a5ac7924a3faa0488b22b1b1f70db036614af62740df0b2d9f6d466d48125"), looks := false }, kinds := [], alts := [], laidByText := true, laidKinds := [.data], laidTests := true, laidLooks := .later }
def SumPartsCardSaid : Prop := Claim7.holds Tryd.pinned (.plain (OpenSpec.ofChange sumPartsSpec)) sumPartsCard

/-- THE TIED CARD OF 'chirographkeep.OrderTurns'. -/
def orderTurnsCard : Claim7 := { stood := { row := orderTurnsRow, standIns := [], harness := (true, "8a4a5ac7924a3faa0488b22b1b1f70db036614af62740df0b2d9f6d466d48125"), looks := false }, kinds := [], alts := [], laidByText := true, laidKinds := [.data, .pinned], laidTests := true, laidLooks := .later }
def OrderTurnsCardSaid : Prop := Claim7.holds Tryd.pinned (.plain (OpenSpec.ofChange orderTurnsSpec)) orderTurnsCard

/-- THE TIED CARD OF 'chirographkeep.OrderChain'. -/
def orderChainCard : Claim7 := { stood := { row := orderChainRow, standIns := [], harness := (true, "8a4a5ac7924a3faa0488b22b1b1f70db036614af62740df0b2d9f6d466d48125"), looks := false }, kinds := [], alts := [], laidByText := true, laidKinds := [.data, .pinned], laidTests := true, laidLooks := .later }
def OrderChainCardSaid : Prop := Claim7.holds Tryd.pinned (.plain (OpenSpec.ofChange orderChainSpec)) orderChainCard

/-- THE TIED CARD OF 'chirographkeep.JustOne'. -/
def justOneCard : Claim7 := { stood := { row := justOneRow, standIns := [], harness := (true, "8a4a5ac7924a3faa0488b22b1b1f70db036614af62740df0b2d9f6d466d48125"), looks := false }, kinds := [], alts := [], laidByText := true, laidKinds := [.data, .pinned], laidTests := true, laidLooks := .later }
def JustOneCardSaid : Prop := Claim7.holds Tryd.pinned (.plain (OpenSpec.ofChange justOneSpec)) justOneCard

/-- THE TIED CARD OF 'chirographkeep.OpenTells'. -/
def openTellsCard : Claim7 := { stood := { row := openTellsRow, standIns := [], harness := (true, "8a4a5ac7924a3faa0488b22b1b1f70db036614af62740df0b2d9f6d466d48125"), looks := false }, kinds := [], alts := [], laidByText := true, laidKinds := [.data], laidTests := true, laidLooks := .later }
def OpenTellsCardSaid : Prop := Claim7.holds Tryd.pinned (.plain (OpenSpec.ofChange openTellsSpec)) openTellsCard

/-- THE TIED CARD OF 'chirographkeep.PathRight'. -/
def pathRightCard : Claim7 := { stood := { row := pathRightRow, standIns := [], harness := (true, "8a4a5ac7924a3faa0488b22b1b1f70db036614af62740df0b2d9f6d466d48125"), looks := false }, kinds := [], alts := [], laidByText := true, laidKinds := [.data], laidTests := true, laidLooks := .later }
def PathRightCardSaid : Prop := Claim7.holds Tryd.pinned (.plain (OpenSpec.ofChange pathRightSpec)) pathRightCard

/-- THE TIED CARD OF 'chirographkeep.IncludeRight'. -/
def includeRightCard : Claim7 := { stood := { row := includeRightRow, standIns := [], harness := (true, "8a4a5ac7924a3faa0488b22b1b1f70db036614af62740df0b2d9f6d466d48125"), looks := false }, kinds := [], alts := [], laidByText := true, laidKinds := [.data], laidTests := true, laidLooks := .later }
def IncludeRightCardSaid : Prop := Claim7.holds Tryd.pinned (.plain (OpenSpec.ofChange includeRightSpec)) includeRightCard

/-- THE TIED CARD OF 'chirographkeep.ExtendRight'. -/
def extendRightCard : Claim7 := { stood := { row := extendRightRow, standIns := [], harness := (true, "8a4a5ac7924a3faa0488b22b1b1f70db036614af62740df0b2d9f6d466d48125"), looks := false }, kinds := [], alts := [], laidByText := true, laidKinds := [.data], laidTests := true, laidLooks := .later }
def ExtendRightCardSaid : Prop := Claim7.holds Tryd.pinned (.plain (OpenSpec.ofChange extendRightSpec)) extendRightCard

/-- THE SECOND FORM's CARD OF 'chirographkeep.SumKnown'. -/
def sumKnownUptoCard : Claim7 := { stood := { row := sumKnownUptoRow, standIns := [], harness := (true, "8a4a5ac7924a3faa0488b22b1b1f70db036614af62740df0b2d9f6d466d48125"), looks := false }, kinds := [], alts := [], laidByText := true, laidKinds := [.data], laidTests := true, laidLooks := .later }
def SumKnownUptoCardSaid : Prop := Claim7.holds Tryd.pinned (.plain (OpenSpec.upto sumKnownSpec)) sumKnownUptoCard

/-- THE SECOND FORM's CARD OF 'chirographkeep.SaltsApart'. -/
def saltsApartUptoCard : Claim7 := { stood := { row := saltsApartUptoRow, standIns := [], harness := (true, "8a4a5ac7924a3faa0488b22b1b1f70db036614af62740df0b2d9f6d466d48125"), looks := false }, kinds := [], alts := [], laidByText := true, laidKinds := [.data], laidTests := true, laidLooks := .later }
def SaltsApartUptoCardSaid : Prop := Claim7.holds Tryd.pinned (.plain (OpenSpec.upto saltsApartSpec)) saltsApartUptoCard

/-- THE SECOND FORM's CARD OF 'chirographkeep.SumParts'. -/
def sumPartsUptoCard : Claim7 := { stood := { row := sumPartsUptoRow, standIns := [], harness := (true, "8a4a5ac7924a3faa0488b22b1b1f70db036614af62740df0b2d9f6d466d48125"), looks := false }, kinds := [], alts := [], laidByText := true, laidKinds := [.data], laidTests := true, laidLooks := .later }
def SumPartsUptoCardSaid : Prop := Claim7.holds Tryd.pinned (.plain (OpenSpec.upto sumPartsSpec)) sumPartsUptoCard

/-- THE SECOND FORM's CARD OF 'chirographkeep.OrderTurns'. -/
def orderTurnsUptoCard : Claim7 := { stood := { row := orderTurnsUptoRow, standIns := [], harness := (true, "8a4a5ac7924a3faa0488b22b1b1f70db036614af62740df0b2d9f6d466d48125"), looks := false }, kinds := [], alts := [], laidByText := true, laidKinds := [.data, .pinned], laidTests := true, laidLooks := .later }
def OrderTurnsUptoCardSaid : Prop := Claim7.holds Tryd.pinned (.plain (OpenSpec.upto orderTurnsSpec)) orderTurnsUptoCard

/-- THE SECOND FORM's CARD OF 'chirographkeep.OrderChain'. -/
def orderChainUptoCard : Claim7 := { stood := { row := orderChainUptoRow, standIns := [], harness := (true, "8a4a5ac7924a3faa0488b22b1b1f70db036614af62740df0b2d9f6d466d48125"), looks := false }, kinds := [], alts := [], laidByText := true, laidKinds := [.data, .pinned], laidTests := true, laidLooks := .later }
def OrderChainUptoCardSaid : Prop := Claim7.holds Tryd.pinned (.plain (OpenSpec.upto orderChainSpec)) orderChainUptoCard

/-- THE SECOND FORM's CARD OF 'chirographkeep.JustOne'. -/
def justOneUptoCard : Claim7 := { stood := { row := justOneUptoRow, standIns := [], harness := (true, "8a4a5ac7924a3faa0488b22b1b1f70db036614af62740df0b2d9f6d466d48125"), looks := false }, kinds := [], alts := [], laidByText := true, laidKinds := [.data, .pinned], laidTests := true, laidLooks := .later }
def JustOneUptoCardSaid : Prop := Claim7.holds Tryd.pinned (.plain (OpenSpec.upto justOneSpec)) justOneUptoCard

/-- THE SECOND FORM's CARD OF 'chirographkeep.OpenTells'. -/
def openTellsUptoCard : Claim7 := { stood := { row := openTellsUptoRow, standIns := [], harness := (true, "8a4a5ac7924a3faa0488b22b1b1f70db036614af62740df0b2d9f6d466d48125"), looks := false }, kinds := [], alts := [], laidByText := true, laidKinds := [.data], laidTests := true, laidLooks := .later }
def OpenTellsUptoCardSaid : Prop := Claim7.holds Tryd.pinned (.plain (OpenSpec.upto openTellsSpec)) openTellsUptoCard

/-- THE SECOND FORM's CARD OF 'chirographkeep.PathRight'. -/
def pathRightUptoCard : Claim7 := { stood := { row := pathRightUptoRow, standIns := [], harness := (true, "8a4a5ac7924a3faa0488b22b1b1f70db036614af62740df0b2d9f6d466d48125"), looks := false }, kinds := [], alts := [], laidByText := true, laidKinds := [.data], laidTests := true, laidLooks := .later }
def PathRightUptoCardSaid : Prop := Claim7.holds Tryd.pinned (.plain (OpenSpec.upto pathRightSpec)) pathRightUptoCard

/-- THE SECOND FORM's CARD OF 'chirographkeep.IncludeRight'. -/
def includeRightUptoCard : Claim7 := { stood := { row := includeRightUptoRow, standIns := [], harness := (true, "8a4a5ac7924a3faa0488b22b1b1f70db036614af62740df0b2d9f6d466d48125"), looks := false }, kinds := [], alts := [], laidByText := true, laidKinds := [.data], laidTests := true, laidLooks := .later }
def IncludeRightUptoCardSaid : Prop := Claim7.holds Tryd.pinned (.plain (OpenSpec.upto includeRightSpec)) includeRightUptoCard

/-- THE SECOND FORM's CARD OF 'chirographkeep.ExtendRight'. -/
def extendRightUptoCard : Claim7 := { stood := { row := extendRightUptoRow, standIns := [], harness := (true, "8a4a5ac7924a3faa0488b22b1b1f70db036614af62740df0b2d9f6d466d48125"), looks := false }, kinds := [], alts := [], laidByText := true, laidKinds := [.data], laidTests := true, laidLooks := .later }
def ExtendRightUptoCardSaid : Prop := Claim7.holds Tryd.pinned (.plain (OpenSpec.upto extendRightSpec)) extendRightUptoCard
end Rows
end Go.Proofs.YtcbdhdblchmofaaDoor
