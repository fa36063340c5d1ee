/-
  DERIVED. GIVEN WITH THE SEED: THE CARDS: each row of YtgfpiijpgpkoiabDoorRows.lean that lists a variable, with what it lists TIED to the program's text (the seventh form; the later family's looks); each row that meets fmt, with fmt's text TOLD by the authors' own Lean function (tested against real Go, not proved from fmt's source: count such statements apart). THE CARD IS WHAT COUNTS. Prove the row's statement (the work); the ties are given (YtgfpiijpgpkoiabDoorTie.lean); close each card by the builder's one call (the guide's Derived/Test/ToyasCard.lean, 'card_holds'). Laid BY PROGRAM, IN A SANDBOX (cutbox-door.mjs). By AI agents, Wed Nov 11 2026. No macro, syntax, notation, axiom, sorry.
-/
import Derived.Test.YtgfpiijpgpkoiabDoorRows
import GoSem.ClaimSeven
namespace Go.Proofs.YtgfpiijpgpkoiabDoor
namespace Rows

/-- THE TIED CARD OF 'laws.FnExactRespOk'. -/
def fnExactRespOkCard : Claim7 := { stood := { row := fnExactRespOkRow, standIns := [], harness := (true, "588e4261182f9a9b19b91d9d48390965fa3814a2efdc0dfbc186cfc61f58b81f"), looks := true }, kinds := [], alts := [], laidByText := true, laidKinds := [.data, .pinned], laidTests := true, laidLooks := .later }
def FnExactRespOkCardSaid : Prop := Claim7.holds Tryd.pinned (.plain (OpenSpec.ofChange fnExactRespOkSpec)) fnExactRespOkCard

/-- THE TIED CARD OF 'laws.FnExactParsePath'. -/
def fnExactParsePathCard : Claim7 := { stood := { row := fnExactParsePathRow, standIns := [], harness := (true, "588e4261182f9a9b19b91d9d48390965fa3814a2efdc0dfbc186cfc61f58b81f"), looks := true }, kinds := [], alts := [], laidByText := true, laidKinds := [.data, .pinned], laidTests := true, laidLooks := .later }
def FnExactParsePathCardSaid : Prop := Claim7.holds Tryd.pinned (.plain (OpenSpec.ofChange fnExactParsePathSpec)) fnExactParsePathCard

/-- THE TIED CARD OF 'laws.FnExactParseNum'. -/
def fnExactParseNumCard : Claim7 := { stood := { row := fnExactParseNumRow, standIns := [], harness := (true, "588e4261182f9a9b19b91d9d48390965fa3814a2efdc0dfbc186cfc61f58b81f"), looks := true }, kinds := [], alts := [], laidByText := true, laidKinds := [.data, .data, .data, .sentinel, .sentinel], laidTests := true, laidLooks := .later }
def FnExactParseNumCardSaid : Prop := Claim7.holds Tryd.pinned (.plain (OpenSpec.ofChange fnExactParseNumSpec)) fnExactParseNumCard

/-- THE TIED CARD OF 'laws.FnExactReqOk'. -/
def fnExactReqOkCard : Claim7 := { stood := { row := fnExactReqOkRow, standIns := [], harness := (true, "588e4261182f9a9b19b91d9d48390965fa3814a2efdc0dfbc186cfc61f58b81f"), looks := true }, kinds := [], alts := [], laidByText := true, laidKinds := [.data, .pinned], laidTests := true, laidLooks := .later }
def FnExactReqOkCardSaid : Prop := Claim7.holds Tryd.pinned (.plain (OpenSpec.ofChange fnExactReqOkSpec)) fnExactReqOkCard

/-- THE TIED CARD OF 'laws.FnReqsBent'. -/
def fnReqsBentCard : Claim7 := { stood := { row := fnReqsBentRow, standIns := [], harness := (true, "588e4261182f9a9b19b91d9d48390965fa3814a2efdc0dfbc186cfc61f58b81f"), looks := true }, kinds := [], alts := [], laidByText := true, laidKinds := [.data, .pinned], laidTests := true, laidLooks := .later }
def FnReqsBentCardSaid : Prop := Claim7.holds Tryd.pinned (.plain (OpenSpec.ofChange fnReqsBentSpec)) fnReqsBentCard

/-- THE TIED CARD OF 'laws.FnPaths'. -/
def fnPathsCard : Claim7 := { stood := { row := fnPathsRow, standIns := [], harness := (true, "588e4261182f9a9b19b91d9d48390965fa3814a2efdc0dfbc186cfc61f58b81f"), looks := true }, kinds := [], alts := [], laidByText := true, laidKinds := [.data, .pinned], laidTests := true, laidLooks := .later }
def FnPathsCardSaid : Prop := Claim7.holds Tryd.pinned (.plain (OpenSpec.ofChange fnPathsSpec)) fnPathsCard

/-- THE TIED CARD OF 'laws.FnExactUnescape'. -/
def fnExactUnescapeCard : Claim7 := { stood := { row := fnExactUnescapeRow, standIns := [], harness := (true, "588e4261182f9a9b19b91d9d48390965fa3814a2efdc0dfbc186cfc61f58b81f"), looks := true }, kinds := [], alts := [], laidByText := true, laidKinds := [.data, .data, .data, .sentinel, .sentinel], laidTests := true, laidLooks := .later }
def FnExactUnescapeCardSaid : Prop := Claim7.holds Tryd.pinned (.plain (OpenSpec.ofChange fnExactUnescapeSpec)) fnExactUnescapeCard

/-- THE TIED CARD OF 'laws.FnExactPutResp'. -/
def fnExactPutRespCard : Claim7 := { stood := { row := fnExactPutRespRow, standIns := [], harness := (true, "588e4261182f9a9b19b91d9d48390965fa3814a2efdc0dfbc186cfc61f58b81f"), looks := true }, kinds := [], alts := [], laidByText := true, laidKinds := [.data, .data, .data, .data, .pinned], laidTests := true, laidLooks := .later }
def FnExactPutRespCardSaid : Prop := Claim7.holds Tryd.pinned (.plain (OpenSpec.ofChange fnExactPutRespSpec)) fnExactPutRespCard

/-- THE TIED CARD OF 'laws.FnEscapes'. -/
def fnEscapesCard : Claim7 := { stood := { row := fnEscapesRow, standIns := [], harness := (true, "588e4261182f9a9b19b91d9d48390965fa3814a2efdc0dfbc186cfc61f58b81f"), looks := true }, kinds := [], alts := [], laidByText := true, laidKinds := [.data, .data, .data, .sentinel, .sentinel], laidTests := true, laidLooks := .later }
def FnEscapesCardSaid : Prop := Claim7.holds Tryd.pinned (.plain (OpenSpec.ofChange fnEscapesSpec)) fnEscapesCard

/-- THE TIED CARD OF 'laws.FnExactPutReq'. -/
def fnExactPutReqCard : Claim7 := { stood := { row := fnExactPutReqRow, standIns := [], harness := (true, "588e4261182f9a9b19b91d9d48390965fa3814a2efdc0dfbc186cfc61f58b81f"), looks := true }, kinds := [], alts := [], laidByText := true, laidKinds := [.data, .data, .data, .data, .pinned], laidTests := true, laidLooks := .later }
def FnExactPutReqCardSaid : Prop := Claim7.holds Tryd.pinned (.plain (OpenSpec.ofChange fnExactPutReqSpec)) fnExactPutReqCard

/-- THE TIED CARD OF 'laws.FnExactPutChunked'. -/
def fnExactPutChunkedCard : Claim7 := { stood := { row := fnExactPutChunkedRow, standIns := [], harness := (true, "588e4261182f9a9b19b91d9d48390965fa3814a2efdc0dfbc186cfc61f58b81f"), looks := true }, kinds := [], alts := [], laidByText := true, laidKinds := [.data, .data, .data, .data, .pinned], laidTests := true, laidLooks := .later }
def FnExactPutChunkedCardSaid : Prop := Claim7.holds Tryd.pinned (.plain (OpenSpec.ofChange fnExactPutChunkedSpec)) fnExactPutChunkedCard

/-- THE TIED CARD OF 'laws.FnSmall'. -/
def fnSmallCard : Claim7 := { stood := { row := fnSmallRow, standIns := [], harness := (true, "588e4261182f9a9b19b91d9d48390965fa3814a2efdc0dfbc186cfc61f58b81f"), looks := true }, kinds := [], alts := [], laidByText := true, laidKinds := [.data, .data, .data, .data, .sentinel, .sentinel, .pinned], laidTests := true, laidLooks := .later }
def FnSmallCardSaid : Prop := Claim7.holds Tryd.pinned (.plain (OpenSpec.ofChange fnSmallSpec)) fnSmallCard

/-- THE SECOND FORM's CARD OF 'laws.FnExactRespOk'. -/
def fnExactRespOkUptoCard : Claim7 := { stood := { row := fnExactRespOkUptoRow, standIns := [], harness := (true, "588e4261182f9a9b19b91d9d48390965fa3814a2efdc0dfbc186cfc61f58b81f"), looks := true }, kinds := [], alts := [], laidByText := true, laidKinds := [.data, .pinned], laidTests := true, laidLooks := .later }
def FnExactRespOkUptoCardSaid : Prop := Claim7.holds Tryd.pinned (.plain (OpenSpec.upto fnExactRespOkSpec)) fnExactRespOkUptoCard

/-- THE SECOND FORM's CARD OF 'laws.FnExactParsePath'. -/
def fnExactParsePathUptoCard : Claim7 := { stood := { row := fnExactParsePathUptoRow, standIns := [], harness := (true, "588e4261182f9a9b19b91d9d48390965fa3814a2efdc0dfbc186cfc61f58b81f"), looks := true }, kinds := [], alts := [], laidByText := true, laidKinds := [.data, .pinned], laidTests := true, laidLooks := .later }
def FnExactParsePathUptoCardSaid : Prop := Claim7.holds Tryd.pinned (.plain (OpenSpec.upto fnExactParsePathSpec)) fnExactParsePathUptoCard

/-- THE SECOND FORM's CARD OF 'laws.FnExactParseNum'. -/
def fnExactParseNumUptoCard : Claim7 := { stood := { row := fnExactParseNumUptoRow, standIns := [], harness := (true, "588e4261182f9a9b19b91d9d48390965fa3814a2efdc0dfbc186cfc61f58b81f"), looks := true }, kinds := [], alts := [], laidByText := true, laidKinds := [.data, .data, .data, .sentinel, .sentinel], laidTests := true, laidLooks := .later }
def FnExactParseNumUptoCardSaid : Prop := Claim7.holds Tryd.pinned (.plain (OpenSpec.upto fnExactParseNumSpec)) fnExactParseNumUptoCard

/-- THE SECOND FORM's CARD OF 'laws.FnExactReqOk'. -/
def fnExactReqOkUptoCard : Claim7 := { stood := { row := fnExactReqOkUptoRow, standIns := [], harness := (true, "588e4261182f9a9b19b91d9d48390965fa3814a2efdc0dfbc186cfc61f58b81f"), looks := true }, kinds := [], alts := [], laidByText := true, laidKinds := [.data, .pinned], laidTests := true, laidLooks := .later }
def FnExactReqOkUptoCardSaid : Prop := Claim7.holds Tryd.pinned (.plain (OpenSpec.upto fnExactReqOkSpec)) fnExactReqOkUptoCard

/-- THE SECOND FORM's CARD OF 'laws.FnReqsBent'. -/
def fnReqsBentUptoCard : Claim7 := { stood := { row := fnReqsBentUptoRow, standIns := [], harness := (true, "588e4261182f9a9b19b91d9d48390965fa3814a2efdc0dfbc186cfc61f58b81f"), looks := true }, kinds := [], alts := [], laidByText := true, laidKinds := [.data, .pinned], laidTests := true, laidLooks := .later }
def FnReqsBentUptoCardSaid : Prop := Claim7.holds Tryd.pinned (.plain (OpenSpec.upto fnReqsBentSpec)) fnReqsBentUptoCard

/-- THE SECOND FORM's CARD OF 'laws.FnPaths'. -/
def fnPathsUptoCard : Claim7 := { stood := { row := fnPathsUptoRow, standIns := [], harness := (true, "588e4261182f9a9b19b91d9d48390965fa3814a2efdc0dfbc186cfc61f58b81f"), looks := true }, kinds := [], alts := [], laidByText := true, laidKinds := [.data, .pinned], laidTests := true, laidLooks := .later }
def FnPathsUptoCardSaid : Prop := Claim7.holds Tryd.pinned (.plain (OpenSpec.upto fnPathsSpec)) fnPathsUptoCard

/-- THE SECOND FORM's CARD OF 'laws.FnExactUnescape'. -/
def fnExactUnescapeUptoCard : Claim7 := { stood := { row := fnExactUnescapeUptoRow, standIns := [], harness := (true, "588e4261182f9a9b19b91d9d48390965fa3814a2efdc0dfbc186cfc61f58b81f"), looks := true }, kinds := [], alts := [], laidByText := true, laidKinds := [.data, .data, .data, .sentinel, .sentinel], laidTests := true, laidLooks := .later }
def FnExactUnescapeUptoCardSaid : Prop := Claim7.holds Tryd.pinned (.plain (OpenSpec.upto fnExactUnescapeSpec)) fnExactUnescapeUptoCard

/-- THE SECOND FORM's CARD OF 'laws.FnExactPutResp'. -/
def fnExactPutRespUptoCard : Claim7 := { stood := { row := fnExactPutRespUptoRow, standIns := [], harness := (true, "588e4261182f9a9b19b91d9d48390965fa3814a2efdc0dfbc186cfc61f58b81f"), looks := true }, kinds := [], alts := [], laidByText := true, laidKinds := [.data, .data, .data, .data, .pinned], laidTests := true, laidLooks := .later }
def FnExactPutRespUptoCardSaid : Prop := Claim7.holds Tryd.pinned (.plain (OpenSpec.upto fnExactPutRespSpec)) fnExactPutRespUptoCard

/-- THE SECOND FORM's CARD OF 'laws.FnEscapes'. -/
def fnEscapesUptoCard : Claim7 := { stood := { row := fnEscapesUptoRow, standIns := [], harness := (true, "588e4261182f9a9b19b91d9d48390965fa3814a2efdc0dfbc186cfc61f58b81f"), looks := true }, kinds := [], alts := [], laidByText := true, laidKinds := [.data, .data, .data, .sentinel, .sentinel], laidTests := true, laidLooks := .later }
def FnEscapesUptoCardSaid : Prop := Claim7.holds Tryd.pinned (.plain (OpenSpec.upto fnEscapesSpec)) fnEscapesUptoCard

/-- THE SECOND FORM's CARD OF 'laws.FnExactPutReq'. -/
def fnExactPutReqUptoCard : Claim7 := { stood := { row := fnExactPutReqUptoRow, standIns := [], harness := (true, "588e4261182f9a9b19b91d9d48390965fa3814a2efdc0dfbc186cfc61f58b81f"), looks := true }, kinds := [], alts := [], laidByText := true, laidKinds := [.data, .data, .data, .data, .pinned], laidTests := true, laidLooks := .later }
def FnExactPutReqUptoCardSaid : Prop := Claim7.holds Tryd.pinned (.plain (OpenSpec.upto fnExactPutReqSpec)) fnExactPutReqUptoCard

/-- THE SECOND FORM's CARD OF 'laws.FnExactPutChunked'. -/
def fnExactPutChunkedUptoCard : Claim7 := { stood := { row := fnExactPutChunkedUptoRow, standIns := [], harness := (true, "588e4261182f9a9b19b91d9d48390965fa3814a2efdc0dfbc186cfc61f58b81f"), looks := true }, kinds := [], alts := [], laidByText := true, laidKinds := [.data, .data, .data, .data, .pinned], laidTests := true, laidLooks := .later }
def FnExactPutChunkedUptoCardSaid : Prop := Claim7.holds Tryd.pinned (.plain (OpenSpec.upto fnExactPutChunkedSpec)) fnExactPutChunkedUptoCard

/-- THE SECOND FORM's CARD OF 'laws.FnSmall'. -/
def fnSmallUptoCard : Claim7 := { stood := { row := fnSmallUptoRow, standIns := [], harness := (true, "588e4261182f9a9b19b91d9d48390965fa3814a2efdc0dfbc186cfc61f58b81f"), looks := true }, kinds := [], alts := [], laidByText := true, laidKinds := [.data, .data, .data, .data, .sentinel, .sentinel, .pinned], laidTests := true, laidLooks := .later }
def FnSmallUptoCardSaid : Prop := Claim7.holds Tryd.pinned (.plain (OpenSpec.upto fnSmallSpec)) fnSmallUptoCard
end Rows
end Go.Proofs.YtgfpiijpgpkoiabDoor
