/-
  DERIVED. GIVEN WITH THE SEED: THE CARDS: each row of YtaajhdljdmbhhaaGreatDoorRows.lean that lists a variable, with what it lists TIED to the program's text (the seventh form; the later family's looks); each row that meets fmt, with fmt's text TOLD by the authors' own Lean function (tested against real Go, not proved from fmt's source: count such statements apart). THE CARD IS WHAT COUNTS. Prove the row's statement (the work); the ties are given (YtaajhdljdmbhhaaGreatDoorTie.lean); close each card by the builder's one call (the guide's Derived/Test/ToyasCard.lean, 'card_holds'). Laid BY PROGRAM, IN A SANDBOX (cutbox-door.mjs). By AI agents, Wed Nov 11 2026. No macro, syntax, notation, axiom, sorry.
-/
import Derived.Test.YtaajhdljdmbhhaaGreatDoorRows
import GoSem.ClaimSeven
namespace Go.Proofs.YtaajhdljdmbhhaaGreatDoor
namespace Rows

/-- THE TIED CARD OF 'laws.FnExactFeed'. -/
def fnExactFeedCard : Claim7 := { stood := { row := fnExactFeedRow, standIns := [], harness := (true, "1f5bed686ca7d645a414bf6aa4ff0c6a581e96a9bfd182157accccc4ae39b4b2"), looks := true }, kinds := [], alts := [], laidByText := true, laidKinds := [.data, .data, .data, .data, .sentinel, .sentinel, .pinned], laidTests := true, laidLooks := .later }
def FnExactFeedCardSaid : Prop := Claim7.holds Tryz.pinned (.plain (OpenSpec.ofChange fnExactFeedSpec)) fnExactFeedCard

/-- THE TIED CARD OF 'laws.FnExactFeedAll'. -/
def fnExactFeedAllCard : Claim7 := { stood := { row := fnExactFeedAllRow, standIns := [], harness := (true, "1f5bed686ca7d645a414bf6aa4ff0c6a581e96a9bfd182157accccc4ae39b4b2"), looks := true }, kinds := [], alts := [], laidByText := true, laidKinds := [.data, .data, .data, .data, .sentinel, .sentinel, .pinned], laidTests := true, laidLooks := .later }
def FnExactFeedAllCardSaid : Prop := Claim7.holds Tryz.pinned (.plain (OpenSpec.ofChange fnExactFeedAllSpec)) fnExactFeedAllCard

/-- THE TIED CARD OF 'laws.FnWires'. -/
def fnWiresCard : Claim7 := { stood := { row := fnWiresRow, standIns := [], harness := (true, "1f5bed686ca7d645a414bf6aa4ff0c6a581e96a9bfd182157accccc4ae39b4b2"), looks := true }, kinds := [], alts := [], laidByText := true, laidKinds := [.data, .data, .data, .data, .sentinel, .sentinel, .pinned], laidTests := true, laidLooks := .later }
def FnWiresCardSaid : Prop := Claim7.holds Tryz.pinned (.plain (OpenSpec.ofChange fnWiresSpec)) fnWiresCard

/-- THE TIED CARD OF 'laws.FnPipes'. -/
def fnPipesCard : Claim7 := { stood := { row := fnPipesRow, standIns := [], harness := (true, "1f5bed686ca7d645a414bf6aa4ff0c6a581e96a9bfd182157accccc4ae39b4b2"), looks := true }, kinds := [], alts := [], laidByText := true, laidKinds := [.data, .data, .data, .data, .sentinel, .sentinel, .pinned], laidTests := true, laidLooks := .later }
def FnPipesCardSaid : Prop := Claim7.holds Tryz.pinned (.plain (OpenSpec.ofChange fnPipesSpec)) fnPipesCard

/-- THE TIED CARD OF 'laws.FnChunks'. -/
def fnChunksCard : Claim7 := { stood := { row := fnChunksRow, standIns := [], harness := (true, "1f5bed686ca7d645a414bf6aa4ff0c6a581e96a9bfd182157accccc4ae39b4b2"), looks := true }, kinds := [], alts := [], laidByText := true, laidKinds := [.data, .data, .data, .data, .sentinel, .sentinel, .pinned], laidTests := true, laidLooks := .later }
def FnChunksCardSaid : Prop := Claim7.holds Tryz.pinned (.plain (OpenSpec.ofChange fnChunksSpec)) fnChunksCard

/-- THE TIED CARD OF 'laws.FnReqs'. -/
def fnReqsCard : Claim7 := { stood := { row := fnReqsRow, standIns := [], harness := (true, "1f5bed686ca7d645a414bf6aa4ff0c6a581e96a9bfd182157accccc4ae39b4b2"), looks := true }, kinds := [], alts := [], laidByText := true, laidKinds := [.data, .data, .data, .data, .sentinel, .sentinel, .pinned], laidTests := true, laidLooks := .later }
def FnReqsCardSaid : Prop := Claim7.holds Tryz.pinned (.plain (OpenSpec.ofChange fnReqsSpec)) fnReqsCard

/-- THE SECOND FORM's CARD OF 'laws.FnExactFeed'. -/
def fnExactFeedUptoCard : Claim7 := { stood := { row := fnExactFeedUptoRow, standIns := [], harness := (true, "1f5bed686ca7d645a414bf6aa4ff0c6a581e96a9bfd182157accccc4ae39b4b2"), looks := true }, kinds := [], alts := [], laidByText := true, laidKinds := [.data, .data, .data, .data, .sentinel, .sentinel, .pinned], laidTests := true, laidLooks := .later }
def FnExactFeedUptoCardSaid : Prop := Claim7.holds Tryz.pinned (.plain (OpenSpec.upto fnExactFeedSpec)) fnExactFeedUptoCard

/-- THE SECOND FORM's CARD OF 'laws.FnExactFeedAll'. -/
def fnExactFeedAllUptoCard : Claim7 := { stood := { row := fnExactFeedAllUptoRow, standIns := [], harness := (true, "1f5bed686ca7d645a414bf6aa4ff0c6a581e96a9bfd182157accccc4ae39b4b2"), looks := true }, kinds := [], alts := [], laidByText := true, laidKinds := [.data, .data, .data, .data, .sentinel, .sentinel, .pinned], laidTests := true, laidLooks := .later }
def FnExactFeedAllUptoCardSaid : Prop := Claim7.holds Tryz.pinned (.plain (OpenSpec.upto fnExactFeedAllSpec)) fnExactFeedAllUptoCard

/-- THE SECOND FORM's CARD OF 'laws.FnWires'. -/
def fnWiresUptoCard : Claim7 := { stood := { row := fnWiresUptoRow, standIns := [], harness := (true, "1f5bed686ca7d645a414bf6aa4ff0c6a581e96a9bfd182157accccc4ae39b4b2"), looks := true }, kinds := [], alts := [], laidByText := true, laidKinds := [.data, .data, .data, .data, .sentinel, .sentinel, .pinned], laidTests := true, laidLooks := .later }
def FnWiresUptoCardSaid : Prop := Claim7.holds Tryz.pinned (.plain (OpenSpec.upto fnWiresSpec)) fnWiresUptoCard

/-- THE SECOND FORM's CARD OF 'laws.FnPipes'. -/
def fnPipesUptoCard : Claim7 := { stood := { row := fnPipesUptoRow, standIns := [], harness := (true, "1f5bed686ca7d645a414bf6aa4ff0c6a581e96a9bfd182157accccc4ae39b4b2"), looks := true }, kinds := [], alts := [], laidByText := true, laidKinds := [.data, .data, .data, .data, .sentinel, .sentinel, .pinned], laidTests := true, laidLooks := .later }
def FnPipesUptoCardSaid : Prop := Claim7.holds Tryz.pinned (.plain (OpenSpec.upto fnPipesSpec)) fnPipesUptoCard

/-- THE SECOND FORM's CARD OF 'laws.FnChunks'. -/
def fnChunksUptoCard : Claim7 := { stood := { row := fnChunksUptoRow, standIns := [], harness := (true, "1f5bed686ca7d645a414bf6aa4ff0c6a581e96a9bfd182157accccc4ae39b4b2"), looks := true }, kinds := [], alts := [], laidByText := true, laidKinds := [.data, .data, .data, .data, .sentinel, .sentinel, .pinned], laidTests := true, laidLooks := .later }
def FnChunksUptoCardSaid : Prop := Claim7.holds Tryz.pinned (.plain (OpenSpec.upto fnChunksSpec)) fnChunksUptoCard

/-- THE SECOND FORM's CARD OF 'laws.FnReqs'. -/
def fnReqsUptoCard : Claim7 := { stood := { row := fnReqsUptoRow, standIns := [], harness := (true, "1f5bed686ca7d645a414bf6aa4ff0c6a581e96a9bfd182157accccc4ae39b4b2"), looks := true }, kinds := [], alts := [], laidByText := true, laidKinds := [.data, .data, .data, .data, .sentinel, .sentinel, .pinned], laidTests := true, laidLooks := .later }
def FnReqsUptoCardSaid : Prop := Claim7.holds Tryz.pinned (.plain (OpenSpec.upto fnReqsSpec)) fnReqsUptoCard
end Rows
end Go.Proofs.YtaajhdljdmbhhaaGreatDoor
