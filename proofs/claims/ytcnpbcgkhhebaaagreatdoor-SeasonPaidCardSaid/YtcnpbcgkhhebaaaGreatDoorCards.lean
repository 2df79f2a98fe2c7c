/-
  DERIVED. GIVEN WITH THE SEED: THE CARDS: each row of YtcnpbcgkhhebaaaGreatDoorRows.lean that lists a variable, with what it lists TIED to the program's text (the seventh form; the later family's looks); each row that meets fmt, with fmt's text TOLD by the authors' own Lean function (tested against real Go, not proved from fmt's source: count such statements apart). THE CARD IS WHAT COUNTS. Prove the row's statement (the work); the ties are given (YtcnpbcgkhhebaaaGreatDoorTie.lean); close each card by the builder's one call (the guide's Derived/Test/ToyasCard.lean, 'card_holds'). Laid BY PROGRAM, IN A SANDBOX (cutbox-door.mjs). By AI agents, Wed Nov 11 2026. No macro, syntax, notation, axiom, sorry.
-/
import Derived.Test.YtcnpbcgkhhebaaaGreatDoorRows
import GoSem.ClaimSeven
namespace Go.Proofs.YtcnpbcgkhhebaaaGreatDoor
namespace Rows

/-- THE TIED CARD OF 'peaveylaw12.SeasonRuns'. -/
def seasonRunsCard : Claim7 := { stood := { row := seasonRunsRow, standIns := [], harness := (true, "bb3957611fb07b8f30c253038086df1c9e34512f5bd6bdaf1e554329739cb219"), looks := true }, kinds := [], alts := [], laidByText := true, laidKinds := [.data, .data, .data, .data, .sentinel, .sentinel, .pinned], laidTests := true, laidLooks := .later }
def SeasonRunsCardSaid : Prop := Claim7.holds Tryz.pinned (.plain (OpenSpec.ofChange seasonRunsSpec)) seasonRunsCard

/-- THE TIED CARD OF 'peaveylaw12.SeasonEffects'. -/
def seasonEffectsCard : Claim7 := { stood := { row := seasonEffectsRow, standIns := [], harness := (true, "bb3957611fb07b8f30c253038086df1c9e34512f5bd6bdaf1e554329739cb219"), looks := true }, kinds := [], alts := [], laidByText := true, laidKinds := [.data, .data, .data, .data, .sentinel, .sentinel, .pinned], laidTests := true, laidLooks := .later }
def SeasonEffectsCardSaid : Prop := Claim7.holds Tryz.pinned (.plain (OpenSpec.ofChange seasonEffectsSpec)) seasonEffectsCard

/-- THE TIED CARD OF 'peaveylaw12.SeasonFiles'. -/
def seasonFilesCard : Claim7 := { stood := { row := seasonFilesRow, standIns := [], harness := (true, "bb3957611fb07b8f30c253038086df1c9e34512f5bd6bdaf1e554329739cb219"), looks := true }, kinds := [], alts := [], laidByText := true, laidKinds := [.data, .data, .data, .data, .sentinel, .sentinel, .pinned], laidTests := true, laidLooks := .later }
def SeasonFilesCardSaid : Prop := Claim7.holds Tryz.pinned (.plain (OpenSpec.ofChange seasonFilesSpec)) seasonFilesCard

/-- THE TIED CARD OF 'peaveylaw12.SeasonOwes'. -/
def seasonOwesCard : Claim7 := { stood := { row := seasonOwesRow, standIns := [], harness := (true, "bb3957611fb07b8f30c253038086df1c9e34512f5bd6bdaf1e554329739cb219"), looks := true }, kinds := [], alts := [], laidByText := true, laidKinds := [.data, .data, .data, .data, .sentinel, .sentinel, .pinned], laidTests := true, laidLooks := .later }
def SeasonOwesCardSaid : Prop := Claim7.holds Tryz.pinned (.plain (OpenSpec.ofChange seasonOwesSpec)) seasonOwesCard

/-- THE TIED CARD OF 'peaveylaw12.SeasonPlayed'. -/
def seasonPlayedCard : Claim7 := { stood := { row := seasonPlayedRow, standIns := [], harness := (true, "bb3957611fb07b8f30c253038086df1c9e34512f5bd6bdaf1e554329739cb219"), looks := true }, kinds := [], alts := [], laidByText := true, laidKinds := [.data, .data, .data, .data, .sentinel, .sentinel, .pinned], laidTests := true, laidLooks := .later }
def SeasonPlayedCardSaid : Prop := Claim7.holds Tryz.pinned (.plain (OpenSpec.ofChange seasonPlayedSpec)) seasonPlayedCard

/-- THE TIED CARD OF 'peaveylaw12.SeasonStruck'. -/
def seasonStruckCard : Claim7 := { stood := { row := seasonStruckRow, standIns := [], harness := (true, "bb3957611fb07b8f30c253038086df1c9e34512f5bd6bdaf1e554329739cb219"), looks := true }, kinds := [], alts := [], laidByText := true, laidKinds := [.data, .data, .data, .data, .sentinel, .sentinel, .pinned], laidTests := true, laidLooks := .later }
def SeasonStruckCardSaid : Prop := Claim7.holds Tryz.pinned (.plain (OpenSpec.ofChange seasonStruckSpec)) seasonStruckCard

/-- THE TIED CARD OF 'peaveylaw12.SeasonBegun'. -/
def seasonBegunCard : Claim7 := { stood := { row := seasonBegunRow, standIns := [], harness := (true, "bb3957611fb07b8f30c253038086df1c9e34512f5bd6bdaf1e554329739cb219"), looks := true }, kinds := [], alts := [], laidByText := true, laidKinds := [.data, .data, .data, .data, .sentinel, .sentinel, .pinned], laidTests := true, laidLooks := .later }
def SeasonBegunCardSaid : Prop := Claim7.holds Tryz.pinned (.plain (OpenSpec.ofChange seasonBegunSpec)) seasonBegunCard

/-- THE TIED CARD OF 'peaveylaw12.SeasonOwed'. -/
def seasonOwedCard : Claim7 := { stood := { row := seasonOwedRow, standIns := [], harness := (true, "bb3957611fb07b8f30c253038086df1c9e34512f5bd6bdaf1e554329739cb219"), looks := true }, kinds := [], alts := [], laidByText := true, laidKinds := [.data, .data, .data, .data, .sentinel, .sentinel, .pinned], laidTests := true, laidLooks := .later }
def SeasonOwedCardSaid : Prop := Claim7.holds Tryz.pinned (.plain (OpenSpec.ofChange seasonOwedSpec)) seasonOwedCard

/-- THE TIED CARD OF 'peaveylaw12.SeasonGiven'. -/
def seasonGivenCard : Claim7 := { stood := { row := seasonGivenRow, standIns := [], harness := (true, "bb3957611fb07b8f30c253038086df1c9e34512f5bd6bdaf1e554329739cb219"), looks := true }, kinds := [], alts := [], laidByText := true, laidKinds := [.data, .data, .data, .data, .sentinel, .sentinel, .pinned], laidTests := true, laidLooks := .later }
def SeasonGivenCardSaid : Prop := Claim7.holds Tryz.pinned (.plain (OpenSpec.ofChange seasonGivenSpec)) seasonGivenCard

/-- THE TIED CARD OF 'peaveylaw12.SeasonFiled'. -/
def seasonFiledCard : Claim7 := { stood := { row := seasonFiledRow, standIns := [], harness := (true, "bb3957611fb07b8f30c253038086df1c9e34512f5bd6bdaf1e554329739cb219"), looks := true }, kinds := [], alts := [], laidByText := true, laidKinds := [.data, .data, .data, .data, .sentinel, .sentinel, .pinned], laidTests := true, laidLooks := .later }
def SeasonFiledCardSaid : Prop := Claim7.holds Tryz.pinned (.plain (OpenSpec.ofChange seasonFiledSpec)) seasonFiledCard

/-- THE TIED CARD OF 'peaveylaw12.SeasonRafted'. -/
def seasonRaftedCard : Claim7 := { stood := { row := seasonRaftedRow, standIns := [], harness := (true, "bb3957611fb07b8f30c253038086df1c9e34512f5bd6bdaf1e554329739cb219"), looks := true }, kinds := [], alts := [], laidByText := true, laidKinds := [.data, .data, .data, .data, .sentinel, .sentinel, .pinned], laidTests := true, laidLooks := .later }
def SeasonRaftedCardSaid : Prop := Claim7.holds Tryz.pinned (.plain (OpenSpec.ofChange seasonRaftedSpec)) seasonRaftedCard

/-- THE TIED CARD OF 'peaveylaw12.SeasonAdded'. -/
def seasonAddedCard : Claim7 := { stood := { row := seasonAddedRow, standIns := [], harness := (true, "bb3957611fb07b8f30c253038086df1c9e34512f5bd6bdaf1e554329739cb219"), looks := true }, kinds := [], alts := [], laidByText := true, laidKinds := [.data, .data, .data, .data, .sentinel, .sentinel, .pinned], laidTests := true, laidLooks := .later }
def SeasonAddedCardSaid : Prop := Claim7.holds Tryz.pinned (.plain (OpenSpec.ofChange seasonAddedSpec)) seasonAddedCard

/-- THE TIED CARD OF 'peaveylaw12.SeasonPaid'. -/
def seasonPaidCard : Claim7 := { stood := { row := seasonPaidRow, standIns := [], harness := (true, "bb3957611fb07b8f30c253038086df1c9e34512f5bd6bdaf1e554329739cb219"), looks := true }, kinds := [], alts := [], laidByText := true, laidKinds := [.data, .data, .data, .data, .sentinel, .sentinel, .pinned], laidTests := true, laidLooks := .later }
def SeasonPaidCardSaid : Prop := Claim7.holds Tryz.pinned (.plain (OpenSpec.ofChange seasonPaidSpec)) seasonPaidCard

/-- THE TIED CARD OF 'peaveylaw12.SeasonKnown'. -/
def seasonKnownCard : Claim7 := { stood := { row := seasonKnownRow, standIns := [], harness := (true, "bb3957611fb07b8f30c253038086df1c9e34512f5bd6bdaf1e554329739cb219"), looks := true }, kinds := [], alts := [], laidByText := true, laidKinds := [.data, .data, .data, .data, .sentinel, .sentinel, .pinned], laidTests := true, laidLooks := .later }
def SeasonKnownCardSaid : Prop := Claim7.holds Tryz.pinned (.plain (OpenSpec.ofChange seasonKnownSpec)) seasonKnownCard

/-- THE SECOND FORM's CARD OF 'peaveylaw12.SeasonRuns'. -/
def seasonRunsUptoCard : Claim7 := { stood := { row := seasonRunsUptoRow, standIns := [], harness := (true, "bb3957611fb07b8f30c253038086df1c9e34512f5bd6bdaf1e554329739cb219"), looks := true }, kinds := [], alts := [], laidByText := true, laidKinds := [.data, .data, .data, .data, .sentinel, .sentinel, .pinned], laidTests := true, laidLooks := .later }
def SeasonRunsUptoCardSaid : Prop := Claim7.holds Tryz.pinned (.plain (OpenSpec.upto seasonRunsSpec)) seasonRunsUptoCard

/-- THE SECOND FORM's CARD OF 'peaveylaw12.SeasonEffects'. -/
def seasonEffectsUptoCard : Claim7 := { stood := { row := seasonEffectsUptoRow, standIns := [], harness := (true, "bb3957611fb07b8f30c253038086df1c9e34512f5bd6bdaf1e554329739cb219"), looks := true }, kinds := [], alts := [], laidByText := true, laidKinds := [.data, .data, .data, .data, .sentinel, .sentinel, .pinned], laidTests := true, laidLooks := .later }
def SeasonEffectsUptoCardSaid : Prop := Claim7.holds Tryz.pinned (.plain (OpenSpec.upto seasonEffectsSpec)) seasonEffectsUptoCard

/-- THE SECOND FORM's CARD OF 'peaveylaw12.SeasonFiles'. -/
def seasonFilesUptoCard : Claim7 := { stood := { row := seasonFilesUptoRow, standIns := [], harness := (true, "bb3957611fb07b8f30c253038086df1c9e34512f5bd6bdaf1e554329739cb219"), looks := true }, kinds := [], alts := [], laidByText := true, laidKinds := [.data, .data, .data, .data, .sentinel, .sentinel, .pinned], laidTests := true, laidLooks := .later }
def SeasonFilesUptoCardSaid : Prop := Claim7.holds Tryz.pinned (.plain (OpenSpec.upto seasonFilesSpec)) seasonFilesUptoCard

/-- THE SECOND FORM's CARD OF 'peaveylaw12.SeasonOwes'. -/
def seasonOwesUptoCard : Claim7 := { stood := { row := seasonOwesUptoRow, standIns := [], harness := (true, "bb3957611fb07b8f30c253038086df1c9e34512f5bd6bdaf1e554329739cb219"), looks := true }, kinds := [], alts := [], laidByText := true, laidKinds := [.data, .data, .data, .data, .sentinel, .sentinel, .pinned], laidTests := true, laidLooks := .later }
def SeasonOwesUptoCardSaid : Prop := Claim7.holds Tryz.pinned (.plain (OpenSpec.upto seasonOwesSpec)) seasonOwesUptoCard

/-- THE SECOND FORM's CARD OF 'peaveylaw12.SeasonPlayed'. -/
def seasonPlayedUptoCard : Claim7 := { stood := { row := seasonPlayedUptoRow, standIns := [], harness := (true, "bb3957611fb07b8f30c253038086df1c9e34512f5bd6bdaf1e554329739cb219"), looks := true }, kinds := [], alts := [], laidByText := true, laidKinds := [.data, .data, .data, .data, .sentinel, .sentinel, .pinned], laidTests := true, laidLooks := .later }
def SeasonPlayedUptoCardSaid : Prop := Claim7.holds Tryz.pinned (.plain (OpenSpec.upto seasonPlayedSpec)) seasonPlayedUptoCard

/-- THE SECOND FORM's CARD OF 'peaveylaw12.SeasonStruck'. -/
def seasonStruckUptoCard : Claim7 := { stood := { row := seasonStruckUptoRow, standIns := [], harness := (true, "bb3957611fb07b8f30c253038086df1c9e34512f5bd6bdaf1e554329739cb219"), looks := true }, kinds := [], alts := [], laidByText := true, laidKinds := [.data, .data, .data, .data, .sentinel, .sentinel, .pinned], laidTests := true, laidLooks := .later }
def SeasonStruckUptoCardSaid : Prop := Claim7.holds Tryz.pinned (.plain (OpenSpec.upto seasonStruckSpec)) seasonStruckUptoCard

/-- THE SECOND FORM's CARD OF 'peaveylaw12.SeasonBegun'. -/
def seasonBegunUptoCard : Claim7 := { stood := { row := seasonBegunUptoRow, standIns := [], harness := (true, "bb3957611fb07b8f30c253038086df1c9e34512f5bd6bdaf1e554329739cb219"), looks := true }, kinds := [], alts := [], laidByText := true, laidKinds := [.data, .data, .data, .data, .sentinel, .sentinel, .pinned], laidTests := true, laidLooks := .later }
def SeasonBegunUptoCardSaid : Prop := Claim7.holds Tryz.pinned (.plain (OpenSpec.upto seasonBegunSpec)) seasonBegunUptoCard

/-- THE SECOND FORM's CARD OF 'peaveylaw12.SeasonOwed'. -/
def seasonOwedUptoCard : Claim7 := { stood := { row := seasonOwedUptoRow, standIns := [], harness := (true, "bb3957611fb07b8f30c253038086df1c9e34512f5bd6bdaf1e554329739cb219"), looks := true }, kinds := [], alts := [], laidByText := true, laidKinds := [.data, .data, .data, .data, .sentinel, .sentinel, .pinned], laidTests := true, laidLooks := .later }
def SeasonOwedUptoCardSaid : Prop := Claim7.holds Tryz.pinned (.plain (OpenSpec.upto seasonOwedSpec)) seasonOwedUptoCard

/-- THE SECOND FORM's CARD OF 'peaveylaw12.SeasonGiven'. -/
def seasonGivenUptoCard : Claim7 := { stood := { row := seasonGivenUptoRow, standIns := [], harness := (true, "bb3957611fb07b8f30c253038086df1c9e34512f5bd6bdaf1e554329739cb219"), looks := true }, kinds := [], alts := [], laidByText := true, laidKinds := [.data, .data, .data, .data, .sentinel, .sentinel, .pinned], laidTests := true, laidLooks := .later }
def SeasonGivenUptoCardSaid : Prop := Claim7.holds Tryz.pinned (.plain (OpenSpec.upto seasonGivenSpec)) seasonGivenUptoCard

/-- THE SECOND FORM's CARD OF 'peaveylaw12.SeasonFiled'. -/
def seasonFiledUptoCard : Claim7 := { stood := { row := seasonFiledUptoRow, standIns := [], harness := (true, "bb3957611fb07b8f30c253038086df1c9e34512f5bd6bdaf1e554329739cb219"), looks := true }, kinds := [], alts := [], laidByText := true, laidKinds := [.data, .data, .data, .data, .sentinel, .sentinel, .pinned], laidTests := true, laidLooks := .later }
def SeasonFiledUptoCardSaid : Prop := Claim7.holds Tryz.pinned (.plain (OpenSpec.upto seasonFiledSpec)) seasonFiledUptoCard

/-- THE SECOND FORM's CARD OF 'peaveylaw12.SeasonRafted'. -/
def seasonRaftedUptoCard : Claim7 := { stood := { row := seasonRaftedUptoRow, standIns := [], harness := (true, "bb3957611fb07b8f30c253038086df1c9e34512f5bd6bdaf1e554329739cb219"), looks := true }, kinds := [], alts := [], laidByText := true, laidKinds := [.data, .data, .data, .data, .sentinel, .sentinel, .pinned], laidTests := true, laidLooks := .later }
def SeasonRaftedUptoCardSaid : Prop := Claim7.holds Tryz.pinned (.plain (OpenSpec.upto seasonRaftedSpec)) seasonRaftedUptoCard

/-- THE SECOND FORM's CARD OF 'peaveylaw12.SeasonAdded'. -/
def seasonAddedUptoCard : Claim7 := { stood := { row := seasonAddedUptoRow, standIns := [], harness := (true, "bb3957611fb07b8f30c253038086df1c9e34512f5bd6bdaf1e554329739cb219"), looks := true }, kinds := [], alts := [], laidByText := true, laidKinds := [.data, .data, .data, .data, .sentinel, .sentinel, .pinned], laidTests := true, laidLooks := .later }
def SeasonAddedUptoCardSaid : Prop := Claim7.holds Tryz.pinned (.plain (OpenSpec.upto seasonAddedSpec)) seasonAddedUptoCard

/-- THE SECOND FORM's CARD OF 'peaveylaw12.SeasonPaid'. -/
def seasonPaidUptoCard : Claim7 := { stood := { row := seasonPaidUptoRow, standIns := [], harness := (true, "bb3957611fb07b8f30c253038086df1c9e34512f5bd6bdaf1e554329739cb219"), looks := true }, kinds := [], alts := [], laidByText := true, laidKinds := [.data, .data, .data, .data, .sentinel, .sentinel, .pinned], laidTests := true, laidLooks := .later }
def SeasonPaidUptoCardSaid : Prop := Claim7.holds Tryz.pinned (.plain (OpenSpec.upto seasonPaidSpec)) seasonPaidUptoCard

/-- THE SECOND FORM's CARD OF 'peaveylaw12.SeasonKnown'. -/
def seasonKnownUptoCard : Claim7 := { stood := { row := seasonKnownUptoRow, standIns := [], harness := (true, "bb3957611fb07b8f30c253038086df1c9e34512f5bd6bdaf1e554329739cb219"), looks := true }, kinds := [], alts := [], laidByText := true, laidKinds := [.data, .data, .data, .data, .sentinel, .sentinel, .pinned], laidTests := true, laidLooks := .later }
def SeasonKnownUptoCardSaid : Prop := Claim7.holds Tryz.pinned (.plain (OpenSpec.upto seasonKnownSpec)) seasonKnownUptoCard
end Rows
end Go.Proofs.YtcnpbcgkhhebaaaGreatDoor
