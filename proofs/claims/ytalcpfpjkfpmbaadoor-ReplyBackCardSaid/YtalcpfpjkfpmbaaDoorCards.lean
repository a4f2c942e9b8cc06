/-
  DERIVED. GIVEN WITH THE SEED: THE CARDS: each row of YtalcpfpjkfpmbaaDoorRows.lean that lists a variable, with what it lists TIED to the program's text (the seventh form; the later family's looks); each row that meets fmt, with fmt's text TOLD by the authors' own Lean function (tested against real Go, not proved from fmt's source: count such statements apart). THE CARD IS WHAT COUNTS. Prove the row's statement (the work); the ties are given (YtalcpfpjkfpmbaaDoorTie.lean); close each card by the builder's one call (the guide's Derived/Test/ToyasCard.lean, 'card_holds'). Laid BY PROGRAM, IN A SANDBOX (cutbox-door.mjs). By AI agents, Wed Nov 11 2026. No macro, syntax, notation, axiom, sorry.
-/
import Derived.Test.YtalcpfpjkfpmbaaDoorRows
import GoSem.ClaimSeven
namespace Go.Proofs.YtalcpfpjkfpmbaaDoor
namespace Rows

/-- THE TIED CARD OF 'chirographkeep.SumKnown'. -/
def sumKnownCard : Claim7 := { stood := { row := sumKnownRow, standIns := [], harness := (true, "d3da322b29da7908473d57d284177d47c0ec6b56656c86955de0d7239c49f4c1"), looks := false }, kinds := [], alts := [], laidByText := true, laidKinds := [.data], laidTests := true, laidLooks := .later }
def SumKnownCardSaid : Prop := Claim7.holds Tryd.pinned (.plain (OpenSpec.ofChange sumKnownSpec)) sumKnownCard

/-- THE TIED CARD OF 'chirographkeep.ReplyBack'. -/
def replyBackCard : Claim7 := { stood := { row := replyBackRow, standIns := [], harness := (true, "d3da322b29da7908473d57d284177d47c0ec6b56656c86955de0d7239c49f4c1"), looks := false }, kinds := [], alts := [], laidByText := true, laidKinds := [.data, .pinned], laidTests := true, laidLooks := .later }
def ReplyBackCardSaid : Prop := Claim7.holds Tryd.pinned (.plain (OpenSpec.ofChange replyBackSpec)) replyBackCard

/-- THE TIED CARD OF 'chirographkeep.ReplyFixed'. -/
def replyFixedCard : Claim7 := { stood := { row := replyFixedRow, standIns := [], harness := (true, "d3da322b29da7908473d57d284177d47c0ec6b56656c86955de0d7239c49f4c1"), looks := false }, kinds := [], alts := [], laidByText := true, laidKinds := [.data, .pinned], laidTests := true, laidLooks := .later }
def ReplyFixedCardSaid : Prop := Claim7.holds Tryd.pinned (.plain (OpenSpec.ofChange replyFixedSpec)) replyFixedCard

/-- THE SECOND FORM's CARD OF 'chirographkeep.SumKnown'. -/
def sumKnownUptoCard : Claim7 := { stood := { row := sumKnownUptoRow, standIns := [], harness := (true, "d3da322b29da7908473d57d284177d47c0ec6b56656c86955de0d7239c49f4c1"), looks := false }, kinds := [], alts := [], laidByText := true, laidKinds := [.data], laidTests := true, laidLooks := .later }
def SumKnownUptoCardSaid : Prop := Claim7.holds Tryd.pinned (.plain (OpenSpec.upto sumKnownSpec)) sumKnownUptoCard

/-- THE SECOND FORM's CARD OF 'chirographkeep.ReplyBack'. -/
def replyBackUptoCard : Claim7 := { stood := { row := replyBackUptoRow, standIns := [], harness := (true, "d3da322b29da7908473d57d284177d47c0ec6b56656c86955de0d7239c49f4c1"), looks := false }, kinds := [], alts := [], laidByText := true, laidKinds := [.data, .pinned], laidTests := true, laidLooks := .later }
def ReplyBackUptoCardSaid : Prop := Claim7.holds Tryd.pinned (.plain (OpenSpec.upto replyBackSpec)) replyBackUptoCard

/-- THE SECOND FORM's CARD OF 'chirographkeep.ReplyFixed'. -/
def replyFixedUptoCard : Claim7 := { stood := { row := replyFixedUptoRow, standIns := [], harness := (true, "d3da322b29da7908473d57d284177d47c0ec6b56656c86955de0d7239c49f4c1"), looks := false }, kinds := [], alts := [], laidByText := true, laidKinds := [.data, .pinned], laidTests := true, laidLooks := .later }
def ReplyFixedUptoCardSaid : Prop := Claim7.holds Tryd.pinned (.plain (OpenSpec.upto replyFixedSpec)) replyFixedUptoCard
end Rows
end Go.Proofs.YtalcpfpjkfpmbaaDoor
