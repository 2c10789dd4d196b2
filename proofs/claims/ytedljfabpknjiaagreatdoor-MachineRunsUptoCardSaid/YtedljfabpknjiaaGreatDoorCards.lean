/-
  DERIVED. GIVEN WITH THE SEED: THE CARDS: each row of YtedljfabpknjiaaGreatDoorRows.lean that lists a variable, with what it lists TIED to the program's text (the seventh form; the later family's looks); each row that meets fmt, with fmt's text TOLD by the authors' own Lean function (tested against real Go, not proved from fmt's source: count such statements apart). THE CARD IS WHAT COUNTS. Prove the row's statement (the work); the ties are given (YtedljfabpknjiaaGreatDoorTie.lean); close each card by the builder's one call (the guide's Derived/Test/ToyasCard.lean, 'card_holds'). Laid BY PROGRAM, IN A SANDBOX (cutbox-door.mjs). By AI agents, Wed Nov 11 2026. No macro, syntax, notation, axiom, sorry.
-/
import Derived.Test.YtedljfabpknjiaaGreatDoorRows
import GoSem.ClaimSeven
namespace Go.Proofs.YtedljfabpknjiaaGreatDoor
namespace Rows

/-- THE TIED CARD OF 'rayconelaw3.LangReads'. -/
def langReadsCard : Claim7 := { stood := { row := langReadsRow, standIns := [], harness := (true, "cc19d36905f3fa18becf09ae8534a3675ef10056d73921b8263432bb9463d419"), looks := true }, kinds := [], alts := [], laidByText := true, laidKinds := [.data, .data, .data, .handle, .sentinel, .sentinel, .sentinel, .sentinel, .sentinel, .sentinel, .sentinel, .sentinel, .sentinel, .sentinel], laidTests := true, laidLooks := .later }
def LangReadsCardSaid : Prop := Claim7.holds Tryz.pinned (.plain (OpenSpec.ofChange langReadsSpec)) langReadsCard

/-- THE TIED CARD OF 'rayconelaw3.LangTexts'. -/
def langTextsCard : Claim7 := { stood := { row := langTextsRow, standIns := [], harness := (true, "cc19d36905f3fa18becf09ae8534a3675ef10056d73921b8263432bb9463d419"), looks := true }, kinds := [], alts := [], laidByText := true, laidKinds := [.data, .data, .data, .handle, .sentinel, .sentinel, .sentinel, .sentinel, .sentinel, .sentinel, .sentinel, .sentinel, .sentinel, .sentinel], laidTests := true, laidLooks := .later }
def LangTextsCardSaid : Prop := Claim7.holds Tryz.pinned (.plain (OpenSpec.ofChange langTextsSpec)) langTextsCard

/-- THE TIED CARD OF 'rayconelaw3.LangTwice'. -/
def langTwiceCard : Claim7 := { stood := { row := langTwiceRow, standIns := [], harness := (true, "cc19d36905f3fa18becf09ae8534a3675ef10056d73921b8263432bb9463d419"), looks := true }, kinds := [], alts := [], laidByText := true, laidKinds := [.data, .data, .data, .handle, .sentinel, .sentinel, .sentinel, .sentinel, .sentinel, .sentinel, .sentinel, .sentinel, .sentinel, .sentinel], laidTests := true, laidLooks := .later }
def LangTwiceCardSaid : Prop := Claim7.holds Tryz.pinned (.plain (OpenSpec.ofChange langTwiceSpec)) langTwiceCard

/-- THE TIED CARD OF 'rayconelaw3.FlowOrder'. -/
def flowOrderCard : Claim7 := { stood := { row := flowOrderRow, standIns := [], harness := (true, "cc19d36905f3fa18becf09ae8534a3675ef10056d73921b8263432bb9463d419"), looks := true }, kinds := [], alts := [], laidByText := true, laidKinds := [.data, .data, .data, .handle, .sentinel, .sentinel, .sentinel, .sentinel, .sentinel, .sentinel, .sentinel, .sentinel, .sentinel, .sentinel], laidTests := true, laidLooks := .later }
def FlowOrderCardSaid : Prop := Claim7.holds Tryz.pinned (.plain (OpenSpec.ofChange flowOrderSpec)) flowOrderCard

/-- THE TIED CARD OF 'rayconelaw3.MachineFuel'. -/
def machineFuelCard : Claim7 := { stood := { row := machineFuelRow, standIns := [], harness := (true, "cc19d36905f3fa18becf09ae8534a3675ef10056d73921b8263432bb9463d419"), looks := true }, kinds := [], alts := [], laidByText := true, laidKinds := [.data, .data, .data, .sentinel, .sentinel, .sentinel, .sentinel, .sentinel, .sentinel], laidTests := true, laidLooks := .later }
def MachineFuelCardSaid : Prop := Claim7.holds Tryz.pinned (.plain (OpenSpec.ofChange machineFuelSpec)) machineFuelCard

/-- THE TIED CARD OF 'rayconelaw3.CheckSays'. -/
def checkSaysCard : Claim7 := { stood := { row := checkSaysRow, standIns := [], harness := (true, "cc19d36905f3fa18becf09ae8534a3675ef10056d73921b8263432bb9463d419"), looks := true }, kinds := [], alts := [], laidByText := true, laidKinds := [.data, .data, .data, .handle, .sentinel, .sentinel, .sentinel, .sentinel, .sentinel, .sentinel, .sentinel, .sentinel, .sentinel, .sentinel], laidTests := true, laidLooks := .later }
def CheckSaysCardSaid : Prop := Claim7.holds Tryz.pinned (.plain (OpenSpec.ofChange checkSaysSpec)) checkSaysCard

/-- THE TIED CARD OF 'rayconelaw3.CheckInline'. -/
def checkInlineCard : Claim7 := { stood := { row := checkInlineRow, standIns := [], harness := (true, "cc19d36905f3fa18becf09ae8534a3675ef10056d73921b8263432bb9463d419"), looks := true }, kinds := [], alts := [], laidByText := true, laidKinds := [.data, .data, .data, .handle, .sentinel, .sentinel, .sentinel, .sentinel, .sentinel, .sentinel, .sentinel, .sentinel, .sentinel, .sentinel], laidTests := true, laidLooks := .later }
def CheckInlineCardSaid : Prop := Claim7.holds Tryz.pinned (.plain (OpenSpec.ofChange checkInlineSpec)) checkInlineCard

/-- THE TIED CARD OF 'rayconelaw3.MachineRuns'. -/
def machineRunsCard : Claim7 := { stood := { row := machineRunsRow, standIns := [], harness := (true, "cc19d36905f3fa18becf09ae8534a3675ef10056d73921b8263432bb9463d419"), looks := true }, kinds := [], alts := [], laidByText := true, laidKinds := [.data, .data, .data, .handle, .sentinel, .sentinel, .sentinel, .sentinel, .sentinel, .sentinel, .sentinel, .sentinel, .sentinel, .sentinel], laidTests := true, laidLooks := .later }
def MachineRunsCardSaid : Prop := Claim7.holds Tryz.pinned (.plain (OpenSpec.ofChange machineRunsSpec)) machineRunsCard

/-- THE TIED CARD OF 'rayconelaw3.FlowSteps'. -/
def flowStepsCard : Claim7 := { stood := { row := flowStepsRow, standIns := [], harness := (true, "cc19d36905f3fa18becf09ae8534a3675ef10056d73921b8263432bb9463d419"), looks := true }, kinds := [], alts := [], laidByText := true, laidKinds := [.data, .data, .data, .handle, .sentinel, .sentinel, .sentinel, .sentinel, .sentinel, .sentinel, .sentinel, .sentinel, .sentinel, .sentinel], laidTests := true, laidLooks := .later }
def FlowStepsCardSaid : Prop := Claim7.holds Tryz.pinned (.plain (OpenSpec.ofChange flowStepsSpec)) flowStepsCard

/-- THE TIED CARD OF 'rayconelaw3.FlowBuild'. -/
def flowBuildCard : Claim7 := { stood := { row := flowBuildRow, standIns := [], harness := (true, "cc19d36905f3fa18becf09ae8534a3675ef10056d73921b8263432bb9463d419"), looks := true }, kinds := [], alts := [], laidByText := true, laidKinds := [.data, .data, .data, .handle, .sentinel, .sentinel, .sentinel, .sentinel, .sentinel, .sentinel, .sentinel, .sentinel, .sentinel, .sentinel], laidTests := true, laidLooks := .later }
def FlowBuildCardSaid : Prop := Claim7.holds Tryz.pinned (.plain (OpenSpec.ofChange flowBuildSpec)) flowBuildCard

/-- THE TIED CARD OF 'rayconelaw3.CheckTwice'. -/
def checkTwiceCard : Claim7 := { stood := { row := checkTwiceRow, standIns := [], harness := (true, "cc19d36905f3fa18becf09ae8534a3675ef10056d73921b8263432bb9463d419"), looks := true }, kinds := [], alts := [], laidByText := true, laidKinds := [.data, .data, .data, .handle, .sentinel, .sentinel, .sentinel, .sentinel, .sentinel, .sentinel, .sentinel, .sentinel, .sentinel, .sentinel], laidTests := true, laidLooks := .later }
def CheckTwiceCardSaid : Prop := Claim7.holds Tryz.pinned (.plain (OpenSpec.ofChange checkTwiceSpec)) checkTwiceCard

/-- THE TIED CARD OF 'rayconelaw3.FlowPlays'. -/
def flowPlaysCard : Claim7 := { stood := { row := flowPlaysRow, standIns := [], harness := (true, "cc19d36905f3fa18becf09ae8534a3675ef10056d73921b8263432bb9463d419"), looks := true }, kinds := [], alts := [], laidByText := true, laidKinds := [.data, .data, .data, .handle, .sentinel, .sentinel, .sentinel, .sentinel, .sentinel, .sentinel, .sentinel, .sentinel, .sentinel, .sentinel], laidTests := true, laidLooks := .later }
def FlowPlaysCardSaid : Prop := Claim7.holds Tryz.pinned (.plain (OpenSpec.ofChange flowPlaysSpec)) flowPlaysCard

/-- THE SECOND FORM's CARD OF 'rayconelaw3.LangReads'. -/
def langReadsUptoCard : Claim7 := { stood := { row := langReadsUptoRow, standIns := [], harness := (true, "cc19d36905f3fa18becf09ae8534a3675ef10056d73921b8263432bb9463d419"), looks := true }, kinds := [], alts := [], laidByText := true, laidKinds := [.data, .data, .data, .handle, .sentinel, .sentinel, .sentinel, .sentinel, .sentinel, .sentinel, .sentinel, .sentinel, .sentinel, .sentinel], laidTests := true, laidLooks := .later }
def LangReadsUptoCardSaid : Prop := Claim7.holds Tryz.pinned (.plain (OpenSpec.upto langReadsSpec)) langReadsUptoCard

/-- THE SECOND FORM's CARD OF 'rayconelaw3.LangTexts'. -/
def langTextsUptoCard : Claim7 := { stood := { row := langTextsUptoRow, standIns := [], harness := (true, "cc19d36905f3fa18becf09ae8534a3675ef10056d73921b8263432bb9463d419"), looks := true }, kinds := [], alts := [], laidByText := true, laidKinds := [.data, .data, .data, .handle, .sentinel, .sentinel, .sentinel, .sentinel, .sentinel, .sentinel, .sentinel, .sentinel, .sentinel, .sentinel], laidTests := true, laidLooks := .later }
def LangTextsUptoCardSaid : Prop := Claim7.holds Tryz.pinned (.plain (OpenSpec.upto langTextsSpec)) langTextsUptoCard

/-- THE SECOND FORM's CARD OF 'rayconelaw3.LangTwice'. -/
def langTwiceUptoCard : Claim7 := { stood := { row := langTwiceUptoRow, standIns := [], harness := (true, "cc19d36905f3fa18becf09ae8534a3675ef10056d73921b8263432bb9463d419"), looks := true }, kinds := [], alts := [], laidByText := true, laidKinds := [.data, .data, .data, .handle, .sentinel, .sentinel, .sentinel, .sentinel, .sentinel, .sentinel, .sentinel, .sentinel, .sentinel, .sentinel], laidTests := true, laidLooks := .later }
def LangTwiceUptoCardSaid : Prop := Claim7.holds Tryz.pinned (.plain (OpenSpec.upto langTwiceSpec)) langTwiceUptoCard

/-- THE SECOND FORM's CARD OF 'rayconelaw3.FlowOrder'. -/
def flowOrderUptoCard : Claim7 := { stood := { row := flowOrderUptoRow, standIns := [], harness := (true, "cc19d36905f3fa18becf09ae8534a3675ef10056d73921b8263432bb9463d419"), looks := true }, kinds := [], alts := [], laidByText := true, laidKinds := [.data, .data, .data, .handle, .sentinel, .sentinel, .sentinel, .sentinel, .sentinel, .sentinel, .sentinel, .sentinel, .sentinel, .sentinel], laidTests := true, laidLooks := .later }
def FlowOrderUptoCardSaid : Prop := Claim7.holds Tryz.pinned (.plain (OpenSpec.upto flowOrderSpec)) flowOrderUptoCard

/-- THE SECOND FORM's CARD OF 'rayconelaw3.MachineFuel'. -/
def machineFuelUptoCard : Claim7 := { stood := { row := machineFuelUptoRow, standIns := [], harness := (true, "cc19d36905f3fa18becf09ae8534a3675ef10056d73921b8263432bb9463d419"), looks := true }, kinds := [], alts := [], laidByText := true, laidKinds := [.data, .data, .data, .sentinel, .sentinel, .sentinel, .sentinel, .sentinel, .sentinel], laidTests := true, laidLooks := .later }
def MachineFuelUptoCardSaid : Prop := Claim7.holds Tryz.pinned (.plain (OpenSpec.upto machineFuelSpec)) machineFuelUptoCard

/-- THE SECOND FORM's CARD OF 'rayconelaw3.CheckSays'. -/
def checkSaysUptoCard : Claim7 := { stood := { row := checkSaysUptoRow, standIns := [], harness := (true, "cc19d36905f3fa18becf09ae8534a3675ef10056d73921b8263432bb9463d419"), looks := true }, kinds := [], alts := [], laidByText := true, laidKinds := [.data, .data, .data, .handle, .sentinel, .sentinel, .sentinel, .sentinel, .sentinel, .sentinel, .sentinel, .sentinel, .sentinel, .sentinel], laidTests := true, laidLooks := .later }
def CheckSaysUptoCardSaid : Prop := Claim7.holds Tryz.pinned (.plain (OpenSpec.upto checkSaysSpec)) checkSaysUptoCard

/-- THE SECOND FORM's CARD OF 'rayconelaw3.CheckInline'. -/
def checkInlineUptoCard : Claim7 := { stood := { row := checkInlineUptoRow, standIns := [], harness := (true, "cc19d36905f3fa18becf09ae8534a3675ef10056d73921b8263432bb9463d419"), looks := true }, kinds := [], alts := [], laidByText := true, laidKinds := [.data, .data, .data, .handle, .sentinel, .sentinel, .sentinel, .sentinel, .sentinel, .sentinel, .sentinel, .sentinel, .sentinel, .sentinel], laidTests := true, laidLooks := .later }
def CheckInlineUptoCardSaid : Prop := Claim7.holds Tryz.pinned (.plain (OpenSpec.upto checkInlineSpec)) checkInlineUptoCard

/-- THE SECOND FORM's CARD OF 'rayconelaw3.MachineRuns'. -/
def machineRunsUptoCard : Claim7 := { stood := { row := machineRunsUptoRow, standIns := [], harness := (true, "cc19d36905f3fa18becf09ae8534a3675ef10056d73921b8263432bb9463d419"), looks := true }, kinds := [], alts := [], laidByText := true, laidKinds := [.data, .data, .data, .handle, .sentinel, .sentinel, .sentinel, .sentinel, .sentinel, .sentinel, .sentinel, .sentinel, .sentinel, .sentinel], laidTests := true, laidLooks := .later }
def MachineRunsUptoCardSaid : Prop := Claim7.holds Tryz.pinned (.plain (OpenSpec.upto machineRunsSpec)) machineRunsUptoCard

/-- THE SECOND FORM's CARD OF 'rayconelaw3.FlowSteps'. -/
def flowStepsUptoCard : Claim7 := { stood := { row := flowStepsUptoRow, standIns := [], harness := (true, "cc19d36905f3fa18becf09ae8534a3675ef10056d73921b8263432bb9463d419"), looks := true }, kinds := [], alts := [], laidByText := true, laidKinds := [.data, .data, .data, .handle, .sentinel, .sentinel, .sentinel, .sentinel, .sentinel, .sentinel, .sentinel, .sentinel, .sentinel, .sentinel], laidTests := true, laidLooks := .later }
def FlowStepsUptoCardSaid : Prop := Claim7.holds Tryz.pinned (.plain (OpenSpec.upto flowStepsSpec)) flowStepsUptoCard

/-- THE SECOND FORM's CARD OF 'rayconelaw3.FlowBuild'. -/
def flowBuildUptoCard : Claim7 := { stood := { row := flowBuildUptoRow, standIns := [], harness := (true, "cc19d36905f3fa18becf09ae8534a3675ef10056d73921b8263432bb9463d419"), looks := true }, kinds := [], alts := [], laidByText := true, laidKinds := [.data, .data, .data, .handle, .sentinel, .sentinel, .sentinel, .sentinel, .sentinel, .sentinel, .sentinel, .sentinel, .sentinel, .sentinel], laidTests := true, laidLooks := .later }
def FlowBuildUptoCardSaid : Prop := Claim7.holds Tryz.pinned (.plain (OpenSpec.upto flowBuildSpec)) flowBuildUptoCard

/-- THE SECOND FORM's CARD OF 'rayconelaw3.CheckTwice'. -/
def checkTwiceUptoCard : Claim7 := { stood := { row := checkTwiceUptoRow, standIns := [], harness := (true, "cc19d36905f3fa18becf09ae8534a3675ef10056d73921b8263432bb9463d419"), looks := true }, kinds := [], alts := [], laidByText := true, laidKinds := [.data, .data, .data, .handle, .sentinel, .sentinel, .sentinel, .sentinel, .sentinel, .sentinel, .sentinel, .sentinel, .sentinel, .sentinel], laidTests := true, laidLooks := .later }
def CheckTwiceUptoCardSaid : Prop := Claim7.holds Tryz.pinned (.plain (OpenSpec.upto checkTwiceSpec)) checkTwiceUptoCard

/-- THE SECOND FORM's CARD OF 'rayconelaw3.FlowPlays'. -/
def flowPlaysUptoCard : Claim7 := { stood := { row := flowPlaysUptoRow, standIns := [], harness := (true, "cc19d36905f3fa18becf09ae8534a3675ef10056d73921b8263432bb9463d419"), looks := true }, kinds := [], alts := [], laidByText := true, laidKinds := [.data, .data, .data, .handle, .sentinel, .sentinel, .sentinel, .sentinel, .sentinel, .sentinel, .sentinel, .sentinel, .sentinel, .sentinel], laidTests := true, laidLooks := .later }
def FlowPlaysUptoCardSaid : Prop := Claim7.holds Tryz.pinned (.plain (OpenSpec.upto flowPlaysSpec)) flowPlaysUptoCard
end Rows
end Go.Proofs.YtedljfabpknjiaaGreatDoor
