/-
  DERIVED. GIVEN WITH THE SEED: THE CARDS: each row of YtpgegljlgicpkaaDoorRows.lean that lists a variable, with what it lists TIED to the program's text (the seventh form; the later family's looks); each row that meets fmt, with fmt's text TOLD by the authors' own Lean function (tested against real Go, not proved from fmt's source: count such statements apart). THE CARD IS WHAT COUNTS. Prove the row's statement (the work); the ties are given (YtpgegljlgicpkaaDoorTie.lean); close each card by the builder's one call (the guide's Derived/Test/ToyasCard.lean, 'card_holds'). Laid BY PROGRAM, IN A SANDBOX (cutbox-door.mjs). By AI agents, Wed Nov 11 2026. No macro, syntax, notation, axiom, sorry.
-/
import Derived.Test.YtpgegljlgicpkaaDoorRows
import GoSem.ClaimSeven
namespace Go.Proofs.YtpgegljlgicpkaaDoor
namespace Rows

/-- THE TIED CARD OF 'chirographkeep.RealsRise'. -/
def realsRiseCard : Claim7 := { stood := { row := realsRiseRow, standIns := [], harness := (true, "ad58384af51211b158c4596f6f40f9f453303f8ca3782165ad87c3ee344405f6"), looks := false }, kinds := [], alts := [], laidByText := true, laidKinds := [.data, .pinned], laidTests := true, laidLooks := .later }
def RealsRiseCardSaid : Prop := Claim7.holds Tryd.pinned (.plain (OpenSpec.ofChange realsRiseSpec)) realsRiseCard

/-- THE TIED CARD OF 'chirographkeep.RollApart'. -/
def rollApartCard : Claim7 := { stood := { row := rollApartRow, standIns := [], harness := (true, "ad58384af51211b158c4596f6f40f9f453303f8ca3782165ad87c3ee344405f6"), looks := false }, kinds := [], alts := [], laidByText := true, laidKinds := [.data], laidTests := true, laidLooks := .later }
def RollApartCardSaid : Prop := Claim7.holds Tryd.pinned (.plain (OpenSpec.ofChange rollApartSpec)) rollApartCard

/-- THE TIED CARD OF 'chirographkeep.SlotsApart'. -/
def slotsApartCard : Claim7 := { stood := { row := slotsApartRow, standIns := [], harness := (true, "ad58384af51211b158c4596f6f40f9f453303f8ca3782165ad87c3ee344405f6"), looks := false }, kinds := [], alts := [], laidByText := true, laidKinds := [.data], laidTests := true, laidLooks := .later }
def SlotsApartCardSaid : Prop := Claim7.holds Tryd.pinned (.plain (OpenSpec.ofChange slotsApartSpec)) slotsApartCard

/-- THE TIED CARD OF 'chirographkeep.PathSound'. -/
def pathSoundCard : Claim7 := { stood := { row := pathSoundRow, standIns := [], harness := (true, "ad58384af51211b158c4596f6f40f9f453303f8ca3782165ad87c3ee344405f6"), looks := false }, kinds := [], alts := [], laidByText := true, laidKinds := [.data], laidTests := true, laidLooks := .later }
def PathSoundCardSaid : Prop := Claim7.holds Tryd.pinned (.plain (OpenSpec.ofChange pathSoundSpec)) pathSoundCard

/-- THE TIED CARD OF 'chirographkeep.IncludeSound'. -/
def includeSoundCard : Claim7 := { stood := { row := includeSoundRow, standIns := [], harness := (true, "ad58384af51211b158c4596f6f40f9f453303f8ca3782165ad87c3ee344405f6"), looks := false }, kinds := [], alts := [], laidByText := true, laidKinds := [.data], laidTests := true, laidLooks := .later }
def IncludeSoundCardSaid : Prop := Claim7.holds Tryd.pinned (.plain (OpenSpec.ofChange includeSoundSpec)) includeSoundCard

/-- THE TIED CARD OF 'chirographkeep.ExtendSound'. -/
def extendSoundCard : Claim7 := { stood := { row := extendSoundRow, standIns := [], harness := (true, "ad58384af51211b158c4596f6f40f9f453303f8ca3782165ad87c3ee344405f6"), looks := false }, kinds := [], alts := [], laidByText := true, laidKinds := [.data], laidTests := true, laidLooks := .later }
def ExtendSoundCardSaid : Prop := Claim7.holds Tryd.pinned (.plain (OpenSpec.ofChange extendSoundSpec)) extendSoundCard

/-- THE TIED CARD OF 'chirographkeep.CoverSound'. -/
def coverSoundCard : Claim7 := { stood := { row := coverSoundRow, standIns := [], harness := (true, "ad58384af51211b158c4596f6f40f9f453303f8ca3782165ad87c3ee344405f6"), looks := false }, kinds := [], alts := [], laidByText := true, laidKinds := [.data], laidTests := true, laidLooks := .later }
def CoverSoundCardSaid : Prop := Claim7.holds Tryd.pinned (.plain (OpenSpec.ofChange coverSoundSpec)) coverSoundCard

/-- THE SECOND FORM's CARD OF 'chirographkeep.RealsRise'. -/
def realsRiseUptoCard : Claim7 := { stood := { row := realsRiseUptoRow, standIns := [], harness := (true, "ad58384af51211b158c4596f6f40f9f453303f8ca3782165ad87c3ee344405f6"), looks := false }, kinds := [], alts := [], laidByText := true, laidKinds := [.data, .pinned], laidTests := true, laidLooks := .later }
def RealsRiseUptoCardSaid : Prop := Claim7.holds Tryd.pinned (.plain (OpenSpec.upto realsRiseSpec)) realsRiseUptoCard

/-- THE SECOND FORM's CARD OF 'chirographkeep.RollApart'. -/
def rollApartUptoCard : Claim7 := { stood := { row := rollApartUptoRow, standIns := [], harness := (true, "ad58384af51211b158c4596f6f40f9f453303f8ca3782165ad87c3ee344405f6"), looks := false }, kinds := [], alts := [], laidByText := true, laidKinds := [.data], laidTests := true, laidLooks := .later }
def RollApartUptoCardSaid : Prop := Claim7.holds Tryd.pinned (.plain (OpenSpec.upto rollApartSpec)) rollApartUptoCard

/-- THE SECOND FORM's CARD OF 'chirographkeep.SlotsApart'. -/
def slotsApartUptoCard : Claim7 := { stood := { row := slotsApartUptoRow, standIns := [], harness := (true, "ad58384af51211b158c4596f6f40f9f453303f8ca3782165ad87c3ee344405f6"), looks := false }, kinds := [], alts := [], laidByText := true, laidKinds := [.data], laidTests := true, laidLooks := .later }
def SlotsApartUptoCardSaid : Prop := Claim7.holds Tryd.pinned (.plain (OpenSpec.upto slotsApartSpec)) slotsApartUptoCard

/-- THE SECOND FORM's CARD OF 'chirographkeep.PathSound'. -/
def pathSoundUptoCard : Claim7 := { stood := { row := pathSoundUptoRow, standIns := [], harness := (true, "ad58384af51211b158c4596f6f40f9f453303f8ca3782165ad87c3ee344405f6"), looks := false }, kinds := [], alts := [], laidByText := true, laidKinds := [.data], laidTests := true, laidLooks := .later }
def PathSoundUptoCardSaid : Prop := Claim7.holds Tryd.pinned (.plain (OpenSpec.upto pathSoundSpec)) pathSoundUptoCard

/-- THE SECOND FORM's CARD OF 'chirographkeep.IncludeSound'. -/
def includeSoundUptoCard : Claim7 := { stood := { row := includeSoundUptoRow, standIns := [], harness := (true, "ad58384af51211b158c4596f6f40f9f453303f8ca3782165ad87c3ee344405f6"), looks := false }, kinds := [], alts := [], laidByText := true, laidKinds := [.data], laidTests := true, laidLooks := .later }
def IncludeSoundUptoCardSaid : Prop := Claim7.holds Tryd.pinned (.plain (OpenSpec.upto includeSoundSpec)) includeSoundUptoCard

/-- THE SECOND FORM's CARD OF 'chirographkeep.ExtendSound'. -/
def extendSoundUptoCard : Claim7 := { stood := { row := extendSoundUptoRow, standIns := [], harness := (true, "ad58384af51211b158c4596f6f40f9f453303f8ca3782165ad87c3ee344405f6"), looks := false }, kinds := [], alts := [], laidByText := true, laidKinds := [.data], laidTests := true, laidLooks := .later }
def ExtendSoundUptoCardSaid : Prop := Claim7.holds Tryd.pinned (.plain (OpenSpec.upto extendSoundSpec)) extendSoundUptoCard

/-- THE SECOND FORM's CARD OF 'chirographkeep.CoverSound'. -/
def coverSoundUptoCard : Claim7 := { stood := { row := coverSoundUptoRow, standIns := [], harness := (true, "ad58384af51211b158c4596f6f40f9f453303f8ca3782165ad87c3ee344405f6"), looks := false }, kinds := [], alts := [], laidByText := true, laidKinds := [.data], laidTests := true, laidLooks := .later }
def CoverSoundUptoCardSaid : Prop := Claim7.holds Tryd.pinned (.plain (OpenSpec.upto coverSoundSpec)) coverSoundUptoCard
end Rows
end Go.Proofs.YtpgegljlgicpkaaDoor
