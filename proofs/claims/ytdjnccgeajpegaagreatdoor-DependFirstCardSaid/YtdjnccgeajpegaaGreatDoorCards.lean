/-
  DERIVED. GIVEN WITH THE SEED: THE CARDS: each row of YtdjnccgeajpegaaGreatDoorRows.lean that lists a variable, with what it lists TIED to the program's text (the seventh form; the later family's looks); each row that meets fmt, with fmt's text TOLD by the authors' own Lean function (tested against real Go, not proved from fmt's source: count such statements apart). THE CARD IS WHAT COUNTS. Prove the row's statement (the work); the ties are given (YtdjnccgeajpegaaGreatDoorTie.lean); close each card by the builder's one call (the guide's Derived/Test/ToyasCard.lean, 'card_holds'). Laid BY PROGRAM, IN A SANDBOX (cutbox-door.mjs). By AI agents, Wed Nov 11 2026. No macro, syntax, notation, axiom, sorry.
-/
import Derived.Test.YtdjnccgeajpegaaGreatDoorRows
import GoSem.ClaimSeven
namespace Go.Proofs.YtdjnccgeajpegaaGreatDoor
namespace Rows

/-- THE TIED CARD OF 'metewandlaw19.DependLevels'. -/
def dependLevelsCard : Claim7 := { stood := { row := dependLevelsRow, standIns := [], harness := (true, "38f71b55d8e7687f31376e6bd7476fdf736f6ffdf7c196ecfc2e0161e23a8131"), looks := true }, kinds := [], alts := [], laidByText := true, laidKinds := [.data, .data, .data, .handle, .sentinel, .sentinel], laidTests := true, laidLooks := .later }
def DependLevelsCardSaid : Prop := Claim7.holds Tryz.pinned (.plain (OpenSpec.ofChange dependLevelsSpec)) dependLevelsCard

/-- THE TIED CARD OF 'metewandlaw19.DependKinds'. -/
def dependKindsCard : Claim7 := { stood := { row := dependKindsRow, standIns := [], harness := (true, "38f71b55d8e7687f31376e6bd7476fdf736f6ffdf7c196ecfc2e0161e23a8131"), looks := true }, kinds := [], alts := [], laidByText := true, laidKinds := [.data, .data, .data, .handle, .sentinel, .sentinel], laidTests := true, laidLooks := .later }
def DependKindsCardSaid : Prop := Claim7.holds Tryz.pinned (.plain (OpenSpec.ofChange dependKindsSpec)) dependKindsCard

/-- THE TIED CARD OF 'metewandlaw19.DependMeets'. -/
def dependMeetsCard : Claim7 := { stood := { row := dependMeetsRow, standIns := [], harness := (true, "38f71b55d8e7687f31376e6bd7476fdf736f6ffdf7c196ecfc2e0161e23a8131"), looks := true }, kinds := [], alts := [], laidByText := true, laidKinds := [.data, .data, .data, .handle, .sentinel, .sentinel], laidTests := true, laidLooks := .later }
def DependMeetsCardSaid : Prop := Claim7.holds Tryz.pinned (.plain (OpenSpec.ofChange dependMeetsSpec)) dependMeetsCard

/-- THE TIED CARD OF 'metewandlaw19.DependSources'. -/
def dependSourcesCard : Claim7 := { stood := { row := dependSourcesRow, standIns := [], harness := (true, "38f71b55d8e7687f31376e6bd7476fdf736f6ffdf7c196ecfc2e0161e23a8131"), looks := true }, kinds := [], alts := [], laidByText := true, laidKinds := [.data, .data, .data, .handle, .sentinel, .sentinel], laidTests := true, laidLooks := .later }
def DependSourcesCardSaid : Prop := Claim7.holds Tryz.pinned (.plain (OpenSpec.ofChange dependSourcesSpec)) dependSourcesCard

/-- THE TIED CARD OF 'metewandlaw19.DependSigns'. -/
def dependSignsCard : Claim7 := { stood := { row := dependSignsRow, standIns := [], harness := (true, "38f71b55d8e7687f31376e6bd7476fdf736f6ffdf7c196ecfc2e0161e23a8131"), looks := true }, kinds := [], alts := [], laidByText := true, laidKinds := [.data, .data, .data, .handle, .sentinel, .sentinel], laidTests := true, laidLooks := .later }
def DependSignsCardSaid : Prop := Claim7.holds Tryz.pinned (.plain (OpenSpec.ofChange dependSignsSpec)) dependSignsCard

/-- THE TIED CARD OF 'metewandlaw19.DependFirst'. -/
def dependFirstCard : Claim7 := { stood := { row := dependFirstRow, standIns := [], harness := (true, "38f71b55d8e7687f31376e6bd7476fdf736f6ffdf7c196ecfc2e0161e23a8131"), looks := true }, kinds := [], alts := [], laidByText := true, laidKinds := [.data, .data, .data, .handle, .sentinel, .sentinel], laidTests := true, laidLooks := .later }
def DependFirstCardSaid : Prop := Claim7.holds Tryz.pinned (.plain (OpenSpec.ofChange dependFirstSpec)) dependFirstCard

/-- THE TIED CARD OF 'metewandlaw19.DependProofs'. -/
def dependProofsCard : Claim7 := { stood := { row := dependProofsRow, standIns := [], harness := (true, "38f71b55d8e7687f31376e6bd7476fdf736f6ffdf7c196ecfc2e0161e23a8131"), looks := true }, kinds := [], alts := [], laidByText := true, laidKinds := [.data, .data, .data, .handle, .sentinel, .sentinel], laidTests := true, laidLooks := .later }
def DependProofsCardSaid : Prop := Claim7.holds Tryz.pinned (.plain (OpenSpec.ofChange dependProofsSpec)) dependProofsCard

/-- THE TIED CARD OF 'metewandlaw19.DependKnown'. -/
def dependKnownCard : Claim7 := { stood := { row := dependKnownRow, standIns := [], harness := (true, "38f71b55d8e7687f31376e6bd7476fdf736f6ffdf7c196ecfc2e0161e23a8131"), looks := true }, kinds := [], alts := [], laidByText := true, laidKinds := [.data, .data, .data, .handle, .sentinel, .sentinel], laidTests := true, laidLooks := .later }
def DependKnownCardSaid : Prop := Claim7.holds Tryz.pinned (.plain (OpenSpec.ofChange dependKnownSpec)) dependKnownCard

/-- THE TIED CARD OF 'metewandlaw19.DependSplit'. -/
def dependSplitCard : Claim7 := { stood := { row := dependSplitRow, standIns := [], harness := (true, "38f71b55d8e7687f31376e6bd7476fdf736f6ffdf7c196ecfc2e0161e23a8131"), looks := true }, kinds := [], alts := [], laidByText := true, laidKinds := [.data, .data, .data, .handle, .sentinel, .sentinel], laidTests := true, laidLooks := .later }
def DependSplitCardSaid : Prop := Claim7.holds Tryz.pinned (.plain (OpenSpec.ofChange dependSplitSpec)) dependSplitCard

/-- THE SECOND FORM's CARD OF 'metewandlaw19.DependLevels'. -/
def dependLevelsUptoCard : Claim7 := { stood := { row := dependLevelsUptoRow, standIns := [], harness := (true, "38f71b55d8e7687f31376e6bd7476fdf736f6ffdf7c196ecfc2e0161e23a8131"), looks := true }, kinds := [], alts := [], laidByText := true, laidKinds := [.data, .data, .data, .handle, .sentinel, .sentinel], laidTests := true, laidLooks := .later }
def DependLevelsUptoCardSaid : Prop := Claim7.holds Tryz.pinned (.plain (OpenSpec.upto dependLevelsSpec)) dependLevelsUptoCard

/-- THE SECOND FORM's CARD OF 'metewandlaw19.DependKinds'. -/
def dependKindsUptoCard : Claim7 := { stood := { row := dependKindsUptoRow, standIns := [], harness := (true, "38f71b55d8e7687f31376e6bd7476fdf736f6ffdf7c196ecfc2e0161e23a8131"), looks := true }, kinds := [], alts := [], laidByText := true, laidKinds := [.data, .data, .data, .handle, .sentinel, .sentinel], laidTests := true, laidLooks := .later }
def DependKindsUptoCardSaid : Prop := Claim7.holds Tryz.pinned (.plain (OpenSpec.upto dependKindsSpec)) dependKindsUptoCard

/-- THE SECOND FORM's CARD OF 'metewandlaw19.DependMeets'. -/
def dependMeetsUptoCard : Claim7 := { stood := { row := dependMeetsUptoRow, standIns := [], harness := (true, "38f71b55d8e7687f31376e6bd7476fdf736f6ffdf7c196ecfc2e0161e23a8131"), looks := true }, kinds := [], alts := [], laidByText := true, laidKinds := [.data, .data, .data, .handle, .sentinel, .sentinel], laidTests := true, laidLooks := .later }
def DependMeetsUptoCardSaid : Prop := Claim7.holds Tryz.pinned (.plain (OpenSpec.upto dependMeetsSpec)) dependMeetsUptoCard

/-- THE SECOND FORM's CARD OF 'metewandlaw19.DependSources'. -/
def dependSourcesUptoCard : Claim7 := { stood := { row := dependSourcesUptoRow, standIns := [], harness := (true, "38f71b55d8e7687f31376e6bd7476fdf736f6ffdf7c196ecfc2e0161e23a8131"), looks := true }, kinds := [], alts := [], laidByText := true, laidKinds := [.data, .data, .data, .handle, .sentinel, .sentinel], laidTests := true, laidLooks := .later }
def DependSourcesUptoCardSaid : Prop := Claim7.holds Tryz.pinned (.plain (OpenSpec.upto dependSourcesSpec)) dependSourcesUptoCard

/-- THE SECOND FORM's CARD OF 'metewandlaw19.DependSigns'. -/
def dependSignsUptoCard : Claim7 := { stood := { row := dependSignsUptoRow, standIns := [], harness := (true, "38f71b55d8e7687f31376e6bd7476fdf736f6ffdf7c196ecfc2e0161e23a8131"), looks := true }, kinds := [], alts := [], laidByText := true, laidKinds := [.data, .data, .data, .handle, .sentinel, .sentinel], laidTests := true, laidLooks := .later }
def DependSignsUptoCardSaid : Prop := Claim7.holds Tryz.pinned (.plain (OpenSpec.upto dependSignsSpec)) dependSignsUptoCard

/-- THE SECOND FORM's CARD OF 'metewandlaw19.DependFirst'. -/
def dependFirstUptoCard : Claim7 := { stood := { row := dependFirstUptoRow, standIns := [], harness := (true, "38f71b55d8e7687f31376e6bd7476fdf736f6ffdf7c196ecfc2e0161e23a8131"), looks := true }, kinds := [], alts := [], laidByText := true, laidKinds := [.data, .data, .data, .handle, .sentinel, .sentinel], laidTests := true, laidLooks := .later }
def DependFirstUptoCardSaid : Prop := Claim7.holds Tryz.pinned (.plain (OpenSpec.upto dependFirstSpec)) dependFirstUptoCard

/-- THE SECOND FORM's CARD OF 'metewandlaw19.DependProofs'. -/
def dependProofsUptoCard : Claim7 := { stood := { row := dependProofsUptoRow, standIns := [], harness := (true, "38f71b55d8e7687f31376e6bd7476fdf736f6ffdf7c196ecfc2e0161e23a8131"), looks := true }, kinds := [], alts := [], laidByText := true, laidKinds := [.data, .data, .data, .handle, .sentinel, .sentinel], laidTests := true, laidLooks := .later }
def DependProofsUptoCardSaid : Prop := Claim7.holds Tryz.pinned (.plain (OpenSpec.upto dependProofsSpec)) dependProofsUptoCard

/-- THE SECOND FORM's CARD OF 'metewandlaw19.DependKnown'. -/
def dependKnownUptoCard : Claim7 := { stood := { row := dependKnownUptoRow, standIns := [], harness := (true, "38f71b55d8e7687f31376e6bd7476fdf736f6ffdf7c196ecfc2e0161e23a8131"), looks := true }, kinds := [], alts := [], laidByText := true, laidKinds := [.data, .data, .data, .handle, .sentinel, .sentinel], laidTests := true, laidLooks := .later }
def DependKnownUptoCardSaid : Prop := Claim7.holds Tryz.pinned (.plain (OpenSpec.upto dependKnownSpec)) dependKnownUptoCard

/-- THE SECOND FORM's CARD OF 'metewandlaw19.DependSplit'. -/
def dependSplitUptoCard : Claim7 := { stood := { row := dependSplitUptoRow, standIns := [], harness := (true, "38f71b55d8e7687f31376e6bd7476fdf736f6ffdf7c196ecfc2e0161e23a8131"), looks := true }, kinds := [], alts := [], laidByText := true, laidKinds := [.data, .data, .data, .handle, .sentinel, .sentinel], laidTests := true, laidLooks := .later }
def DependSplitUptoCardSaid : Prop := Claim7.holds Tryz.pinned (.plain (OpenSpec.upto dependSplitSpec)) dependSplitUptoCard
end Rows
end Go.Proofs.YtdjnccgeajpegaaGreatDoor
