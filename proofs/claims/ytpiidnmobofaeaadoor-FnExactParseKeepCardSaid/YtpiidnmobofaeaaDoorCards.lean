/-
  DERIVED. GIVEN WITH THE SEED: THE CARDS: each row of YtpiidnmobofaeaaDoorRows.lean that lists a variable, with what it lists TIED to the program's text (the seventh form; the later family's looks); each row that meets fmt, with fmt's text TOLD by the authors' own Lean function (tested against real Go, not proved from fmt's source: count such statements apart). THE CARD IS WHAT COUNTS. Prove the row's statement (the work); the ties are given (YtpiidnmobofaeaaDoorTie.lean); close each card by the builder's one call (the guide's Derived/Test/ToyasCard.lean, 'card_holds'). Laid BY PROGRAM, IN A SANDBOX (cutbox-door.mjs). By AI agents, Wed Nov 11 2026. No macro, syntax, notation, axiom, sorry.
-/
import Derived.Test.YtpiidnmobofaeaaDoorRows
import GoSem.ClaimSeven
namespace Go.Proofs.YtpiidnmobofaeaaDoor
namespace Rows

/-- THE TIED CARD OF 'laws.FnExactPartyText'. -/
def fnExactPartyTextCard : Claim7 := { stood := { row := fnExactPartyTextRow, standIns := [], harness := (true, "be06676ef229a5e9f0379ecacfb4307a9cf3df0a9ec73b4ad0229223a8ed6318"), looks := true }, kinds := [], alts := [], laidByText := true, laidKinds := [.data, .data, .data], laidTests := true, laidLooks := .later }
def FnExactPartyTextCardSaid : Prop := Claim7.holds Tryd.pinned (.plain (OpenSpec.ofChange fnExactPartyTextSpec)) fnExactPartyTextCard

/-- THE TIED CARD OF 'laws.FnExactNightText'. -/
def fnExactNightTextCard : Claim7 := { stood := { row := fnExactNightTextRow, standIns := [], harness := (true, "be06676ef229a5e9f0379ecacfb4307a9cf3df0a9ec73b4ad0229223a8ed6318"), looks := true }, kinds := [], alts := [], laidByText := true, laidKinds := [.data, .data, .data], laidTests := true, laidLooks := .later }
def FnExactNightTextCardSaid : Prop := Claim7.holds Tryd.pinned (.plain (OpenSpec.ofChange fnExactNightTextSpec)) fnExactNightTextCard

/-- THE TIED CARD OF 'laws.FnExactPuzzleText'. -/
def fnExactPuzzleTextCard : Claim7 := { stood := { row := fnExactPuzzleTextRow, standIns := [], harness := (true, "be06676ef229a5e9f0379ecacfb4307a9cf3df0a9ec73b4ad0229223a8ed6318"), looks := true }, kinds := [], alts := [], laidByText := true, laidKinds := [.data, .data, .data], laidTests := true, laidLooks := .later }
def FnExactPuzzleTextCardSaid : Prop := Claim7.holds Tryd.pinned (.plain (OpenSpec.ofChange fnExactPuzzleTextSpec)) fnExactPuzzleTextCard

/-- THE TIED CARD OF 'laws.FnExactKeepText'. -/
def fnExactKeepTextCard : Claim7 := { stood := { row := fnExactKeepTextRow, standIns := [], harness := (true, "be06676ef229a5e9f0379ecacfb4307a9cf3df0a9ec73b4ad0229223a8ed6318"), looks := true }, kinds := [], alts := [], laidByText := true, laidKinds := [.data, .data, .data], laidTests := true, laidLooks := .later }
def FnExactKeepTextCardSaid : Prop := Claim7.holds Tryd.pinned (.plain (OpenSpec.ofChange fnExactKeepTextSpec)) fnExactKeepTextCard

/-- THE TIED CARD OF 'laws.FnExactCrewText'. -/
def fnExactCrewTextCard : Claim7 := { stood := { row := fnExactCrewTextRow, standIns := [], harness := (true, "be06676ef229a5e9f0379ecacfb4307a9cf3df0a9ec73b4ad0229223a8ed6318"), looks := true }, kinds := [], alts := [], laidByText := true, laidKinds := [.data, .data, .data], laidTests := true, laidLooks := .later }
def FnExactCrewTextCardSaid : Prop := Claim7.holds Tryd.pinned (.plain (OpenSpec.ofChange fnExactCrewTextSpec)) fnExactCrewTextCard

/-- THE TIED CARD OF 'laws.FnExactParseParty'. -/
def fnExactParsePartyCard : Claim7 := { stood := { row := fnExactParsePartyRow, standIns := [], harness := (true, "be06676ef229a5e9f0379ecacfb4307a9cf3df0a9ec73b4ad0229223a8ed6318"), looks := true }, kinds := [], alts := [], laidByText := true, laidKinds := [.data, .data, .data, .data, .sentinel, .sentinel, .pinned], laidTests := true, laidLooks := .later }
def FnExactParsePartyCardSaid : Prop := Claim7.holds Tryd.pinned (.plain (OpenSpec.ofChange fnExactParsePartySpec)) fnExactParsePartyCard

/-- THE TIED CARD OF 'laws.FnExactParseNight'. -/
def fnExactParseNightCard : Claim7 := { stood := { row := fnExactParseNightRow, standIns := [], harness := (true, "be06676ef229a5e9f0379ecacfb4307a9cf3df0a9ec73b4ad0229223a8ed6318"), looks := true }, kinds := [], alts := [], laidByText := true, laidKinds := [.data, .data, .data, .data, .sentinel, .sentinel, .pinned], laidTests := true, laidLooks := .later }
def FnExactParseNightCardSaid : Prop := Claim7.holds Tryd.pinned (.plain (OpenSpec.ofChange fnExactParseNightSpec)) fnExactParseNightCard

/-- THE TIED CARD OF 'laws.FnExactParseKeep'. -/
def fnExactParseKeepCard : Claim7 := { stood := { row := fnExactParseKeepRow, standIns := [], harness := (true, "be06676ef229a5e9f0379ecacfb4307a9cf3df0a9ec73b4ad0229223a8ed6318"), looks := true }, kinds := [], alts := [], laidByText := true, laidKinds := [.data, .data, .data, .data, .sentinel, .sentinel, .pinned], laidTests := true, laidLooks := .later }
def FnExactParseKeepCardSaid : Prop := Claim7.holds Tryd.pinned (.plain (OpenSpec.ofChange fnExactParseKeepSpec)) fnExactParseKeepCard

/-- THE TIED CARD OF 'laws.FnExactParsePuzzle'. -/
def fnExactParsePuzzleCard : Claim7 := { stood := { row := fnExactParsePuzzleRow, standIns := [], harness := (true, "be06676ef229a5e9f0379ecacfb4307a9cf3df0a9ec73b4ad0229223a8ed6318"), looks := true }, kinds := [], alts := [], laidByText := true, laidKinds := [.data, .data, .data, .data, .sentinel, .sentinel, .pinned], laidTests := true, laidLooks := .later }
def FnExactParsePuzzleCardSaid : Prop := Claim7.holds Tryd.pinned (.plain (OpenSpec.ofChange fnExactParsePuzzleSpec)) fnExactParsePuzzleCard

/-- THE TIED CARD OF 'laws.FnExactParseCrew'. -/
def fnExactParseCrewCard : Claim7 := { stood := { row := fnExactParseCrewRow, standIns := [], harness := (true, "be06676ef229a5e9f0379ecacfb4307a9cf3df0a9ec73b4ad0229223a8ed6318"), looks := true }, kinds := [], alts := [], laidByText := true, laidKinds := [.data, .data, .data, .data, .sentinel, .sentinel, .pinned], laidTests := true, laidLooks := .later }
def FnExactParseCrewCardSaid : Prop := Claim7.holds Tryd.pinned (.plain (OpenSpec.ofChange fnExactParseCrewSpec)) fnExactParseCrewCard

/-- THE SECOND FORM's CARD OF 'laws.FnExactPartyText'. -/
def fnExactPartyTextUptoCard : Claim7 := { stood := { row := fnExactPartyTextUptoRow, standIns := [], harness := (true, "be06676ef229a5e9f0379ecacfb4307a9cf3df0a9ec73b4ad0229223a8ed6318"), looks := true }, kinds := [], alts := [], laidByText := true, laidKinds := [.data, .data, .data], laidTests := true, laidLooks := .later }
def FnExactPartyTextUptoCardSaid : Prop := Claim7.holds Tryd.pinned (.plain (OpenSpec.upto fnExactPartyTextSpec)) fnExactPartyTextUptoCard

/-- THE SECOND FORM's CARD OF 'laws.FnExactNightText'. -/
def fnExactNightTextUptoCard : Claim7 := { stood := { row := fnExactNightTextUptoRow, standIns := [], harness := (true, "be06676ef229a5e9f0379ecacfb4307a9cf3df0a9ec73b4ad0229223a8ed6318"), looks := true }, kinds := [], alts := [], laidByText := true, laidKinds := [.data, .data, .data], laidTests := true, laidLooks := .later }
def FnExactNightTextUptoCardSaid : Prop := Claim7.holds Tryd.pinned (.plain (OpenSpec.upto fnExactNightTextSpec)) fnExactNightTextUptoCard

/-- THE SECOND FORM's CARD OF 'laws.FnExactPuzzleText'. -/
def fnExactPuzzleTextUptoCard : Claim7 := { stood := { row := fnExactPuzzleTextUptoRow, standIns := [], harness := (true, "be06676ef229a5e9f0379ecacfb4307a9cf3df0a9ec73b4ad0229223a8ed6318"), looks := true }, kinds := [], alts := [], laidByText := true, laidKinds := [.data, .data, .data], laidTests := true, laidLooks := .later }
def FnExactPuzzleTextUptoCardSaid : Prop := Claim7.holds Tryd.pinned (.plain (OpenSpec.upto fnExactPuzzleTextSpec)) fnExactPuzzleTextUptoCard

/-- THE SECOND FORM's CARD OF 'laws.FnExactKeepText'. -/
def fnExactKeepTextUptoCard : Claim7 := { stood := { row := fnExactKeepTextUptoRow, standIns := [], harness := (true, "be06676ef229a5e9f0379ecacfb4307a9cf3df0a9ec73b4ad0229223a8ed6318"), looks := true }, kinds := [], alts := [], laidByText := true, laidKinds := [.data, .data, .data], laidTests := true, laidLooks := .later }
def FnExactKeepTextUptoCardSaid : Prop := Claim7.holds Tryd.pinned (.plain (OpenSpec.upto fnExactKeepTextSpec)) fnExactKeepTextUptoCard

/-- THE SECOND FORM's CARD OF 'laws.FnExactCrewText'. -/
def fnExactCrewTextUptoCard : Claim7 := { stood := { row := fnExactCrewTextUptoRow, standIns := [], harness := (true, "be06676ef229a5e9f0379ecacfb4307a9cf3df0a9ec73b4ad0229223a8ed6318"), looks := true }, kinds := [], alts := [], laidByText := true, laidKinds := [.data, .data, .data], laidTests := true, laidLooks := .later }
def FnExactCrewTextUptoCardSaid : Prop := Claim7.holds Tryd.pinned (.plain (OpenSpec.upto fnExactCrewTextSpec)) fnExactCrewTextUptoCard

/-- THE SECOND FORM's CARD OF 'laws.FnExactParseParty'. -/
def fnExactParsePartyUptoCard : Claim7 := { stood := { row := fnExactParsePartyUptoRow, standIns := [], harness := (true, "be06676ef229a5e9f0379ecacfb4307a9cf3df0a9ec73b4ad0229223a8ed6318"), looks := true }, kinds := [], alts := [], laidByText := true, laidKinds := [.data, .data, .data, .data, .sentinel, .sentinel, .pinned], laidTests := true, laidLooks := .later }
def FnExactParsePartyUptoCardSaid : Prop := Claim7.holds Tryd.pinned (.plain (OpenSpec.upto fnExactParsePartySpec)) fnExactParsePartyUptoCard

/-- THE SECOND FORM's CARD OF 'laws.FnExactParseNight'. -/
def fnExactParseNightUptoCard : Claim7 := { stood := { row := fnExactParseNightUptoRow, standIns := [], harness := (true, "be06676ef229a5e9f0379ecacfb4307a9cf3df0a9ec73b4ad0229223a8ed6318"), looks := true }, kinds := [], alts := [], laidByText := true, laidKinds := [.data, .data, .data, .data, .sentinel, .sentinel, .pinned], laidTests := true, laidLooks := .later }
def FnExactParseNightUptoCardSaid : Prop := Claim7.holds Tryd.pinned (.plain (OpenSpec.upto fnExactParseNightSpec)) fnExactParseNightUptoCard

/-- THE SECOND FORM's CARD OF 'laws.FnExactParseKeep'. -/
def fnExactParseKeepUptoCard : Claim7 := { stood := { row := fnExactParseKeepUptoRow, standIns := [], harness := (true, "be06676ef229a5e9f0379ecacfb4307a9cf3df0a9ec73b4ad0229223a8ed6318"), looks := true }, kinds := [], alts := [], laidByText := true, laidKinds := [.data, .data, .data, .data, .sentinel, .sentinel, .pinned], laidTests := true, laidLooks := .later }
def FnExactParseKeepUptoCardSaid : Prop := Claim7.holds Tryd.pinned (.plain (OpenSpec.upto fnExactParseKeepSpec)) fnExactParseKeepUptoCard

/-- THE SECOND FORM's CARD OF 'laws.FnExactParsePuzzle'. -/
def fnExactParsePuzzleUptoCard : Claim7 := { stood := { row := fnExactParsePuzzleUptoRow, standIns := [], harness := (true, "be06676ef229a5e9f0379ecacfb4307a9cf3df0a9ec73b4ad0229223a8ed6318"), looks := true }, kinds := [], alts := [], laidByText := true, laidKinds := [.data, .data, .data, .data, .sentinel, .sentinel, .pinned], laidTests := true, laidLooks := .later }
def FnExactParsePuzzleUptoCardSaid : Prop := Claim7.holds Tryd.pinned (.plain (OpenSpec.upto fnExactParsePuzzleSpec)) fnExactParsePuzzleUptoCard

/-- THE SECOND FORM's CARD OF 'laws.FnExactParseCrew'. -/
def fnExactParseCrewUptoCard : Claim7 := { stood := { row := fnExactParseCrewUptoRow, standIns := [], harness := (true, "be06676ef229a5e9f0379ecacfb4307a9cf3df0a9ec73b4ad0229223a8ed6318"), looks := true }, kinds := [], alts := [], laidByText := true, laidKinds := [.data, .data, .data, .data, .sentinel, .sentinel, .pinned], laidTests := true, laidLooks := .later }
def FnExactParseCrewUptoCardSaid : Prop := Claim7.holds Tryd.pinned (.plain (OpenSpec.upto fnExactParseCrewSpec)) fnExactParseCrewUptoCard
end Rows
end Go.Proofs.YtpiidnmobofaeaaDoor
