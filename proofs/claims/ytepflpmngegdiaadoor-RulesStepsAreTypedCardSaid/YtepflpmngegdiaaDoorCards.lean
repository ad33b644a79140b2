/-
  DERIVED. GIVEN WITH THE SEED: THE CARDS: each row of YtepflpmngegdiaaDoorRows.lean that lists a variable, with what it lists TIED to the program's text (the seventh form; the later family's looks); each row that meets fmt, with fmt's text TOLD by the authors' own Lean function (tested against real Go, not proved from fmt's source: count such statements apart). THE CARD IS WHAT COUNTS. Prove the row's statement (the work); the ties are given (YtepflpmngegdiaaDoorTie.lean); close each card by the builder's one call (the guide's Derived/Test/ToyasCard.lean, 'card_holds'). Laid BY PROGRAM, IN A SANDBOX (cutbox-door.mjs). By AI agents, Wed Nov 11 2026. No macro, syntax, notation, axiom, sorry.
-/
import Derived.Test.YtepflpmngegdiaaDoorRows
import GoSem.ClaimSeven
namespace Go.Proofs.YtepflpmngegdiaaDoor
namespace Rows

/-- THE TIED CARD OF 'changeforgelaw6.RulesMatchSpec'. -/
def rulesMatchSpecCard : Claim7 := { stood := { row := rulesMatchSpecRow, standIns := [], harness := (true, "4c6adae04fa1ff999f680f43bd3506f5edd29fe99ff98f1f866884eb90708e00"), looks := false }, kinds := [], alts := [], laidByText := true, laidKinds := [.widerDeep], laidTests := true, laidLooks := .later }
def RulesMatchSpecCardSaid : Prop := Claim7.holds Tryd.pinned (.plain (OpenSpec.ofChange rulesMatchSpecSpec)) rulesMatchSpecCard

/-- THE TIED CARD OF 'changeforgelaw6.RulesExpandMatchesSpec'. -/
def rulesExpandMatchesSpecCard : Claim7 := { stood := { row := rulesExpandMatchesSpecRow, standIns := [], harness := (true, "4c6adae04fa1ff999f680f43bd3506f5edd29fe99ff98f1f866884eb90708e00"), looks := false }, kinds := [], alts := [], laidByText := true, laidKinds := [.widerDeep], laidTests := true, laidLooks := .later }
def RulesExpandMatchesSpecCardSaid : Prop := Claim7.holds Tryd.pinned (.plain (OpenSpec.ofChange rulesExpandMatchesSpecSpec)) rulesExpandMatchesSpecCard

/-- THE TIED CARD OF 'changeforgelaw6.RulesStepsAreTyped'. -/
def rulesStepsAreTypedCard : Claim7 := { stood := { row := rulesStepsAreTypedRow, standIns := [], harness := (true, "4c6adae04fa1ff999f680f43bd3506f5edd29fe99ff98f1f866884eb90708e00"), looks := false }, kinds := [], alts := [], laidByText := true, laidKinds := [.widerDeep], laidTests := true, laidLooks := .later }
def RulesStepsAreTypedCardSaid : Prop := Claim7.holds Tryd.pinned (.plain (OpenSpec.ofChange rulesStepsAreTypedSpec)) rulesStepsAreTypedCard

/-- THE TIED CARD OF 'changeforgelaw6.RulesGroupsAreTransparent'. -/
def rulesGroupsAreTransparentCard : Claim7 := { stood := { row := rulesGroupsAreTransparentRow, standIns := [], harness := (true, "4c6adae04fa1ff999f680f43bd3506f5edd29fe99ff98f1f866884eb90708e00"), looks := false }, kinds := [], alts := [], laidByText := true, laidKinds := [.widerDeep], laidTests := true, laidLooks := .later }
def RulesGroupsAreTransparentCardSaid : Prop := Claim7.holds Tryd.pinned (.plain (OpenSpec.ofChange rulesGroupsAreTransparentSpec)) rulesGroupsAreTransparentCard

/-- THE TIED CARD OF 'changeforgelaw6.RulesLaterRulesDoNotMatter'. -/
def rulesLaterRulesDoNotMatterCard : Claim7 := { stood := { row := rulesLaterRulesDoNotMatterRow, standIns := [], harness := (true, "4c6adae04fa1ff999f680f43bd3506f5edd29fe99ff98f1f866884eb90708e00"), looks := false }, kinds := [], alts := [], laidByText := true, laidKinds := [.widerDeep], laidTests := true, laidLooks := .later }
def RulesLaterRulesDoNotMatterCardSaid : Prop := Claim7.holds Tryd.pinned (.plain (OpenSpec.ofChange rulesLaterRulesDoNotMatterSpec)) rulesLaterRulesDoNotMatterCard

/-- THE TIED CARD OF 'changeforgelaw6.RulesExpansionIsIdempotent'. -/
def rulesExpansionIsIdempotentCard : Claim7 := { stood := { row := rulesExpansionIsIdempotentRow, standIns := [], harness := (true, "4c6adae04fa1ff999f680f43bd3506f5edd29fe99ff98f1f866884eb90708e00"), looks := false }, kinds := [], alts := [], laidByText := true, laidKinds := [.widerDeep], laidTests := true, laidLooks := .later }
def RulesExpansionIsIdempotentCardSaid : Prop := Claim7.holds Tryd.pinned (.plain (OpenSpec.ofChange rulesExpansionIsIdempotentSpec)) rulesExpansionIsIdempotentCard

/-- THE SECOND FORM's CARD OF 'changeforgelaw6.RulesMatchSpec'. -/
def rulesMatchSpecUptoCard : Claim7 := { stood := { row := rulesMatchSpecUptoRow, standIns := [], harness := (true, "4c6adae04fa1ff999f680f43bd3506f5edd29fe99ff98f1f866884eb90708e00"), looks := false }, kinds := [], alts := [], laidByText := true, laidKinds := [.widerDeep], laidTests := true, laidLooks := .later }
def RulesMatchSpecUptoCardSaid : Prop := Claim7.holds Tryd.pinned (.plain (OpenSpec.upto rulesMatchSpecSpec)) rulesMatchSpecUptoCard

/-- THE SECOND FORM's CARD OF 'changeforgelaw6.RulesExpandMatchesSpec'. -/
def rulesExpandMatchesSpecUptoCard : Claim7 := { stood := { row := rulesExpandMatchesSpecUptoRow, standIns := [], harness := (true, "4c6adae04fa1ff999f680f43bd3506f5edd29fe99ff98f1f866884eb90708e00"), looks := false }, kinds := [], alts := [], laidByText := true, laidKinds := [.widerDeep], laidTests := true, laidLooks := .later }
def RulesExpandMatchesSpecUptoCardSaid : Prop := Claim7.holds Tryd.pinned (.plain (OpenSpec.upto rulesExpandMatchesSpecSpec)) rulesExpandMatchesSpecUptoCard

/-- THE SECOND FORM's CARD OF 'changeforgelaw6.RulesStepsAreTyped'. -/
def rulesStepsAreTypedUptoCard : Claim7 := { stood := { row := rulesStepsAreTypedUptoRow, standIns := [], harness := (true, "4c6adae04fa1ff999f680f43bd3506f5edd29fe99ff98f1f866884eb90708e00"), looks := false }, kinds := [], alts := [], laidByText := true, laidKinds := [.widerDeep], laidTests := true, laidLooks := .later }
def RulesStepsAreTypedUptoCardSaid : Prop := Claim7.holds Tryd.pinned (.plain (OpenSpec.upto rulesStepsAreTypedSpec)) rulesStepsAreTypedUptoCard

/-- THE SECOND FORM's CARD OF 'changeforgelaw6.RulesGroupsAreTransparent'. -/
def rulesGroupsAreTransparentUptoCard : Claim7 := { stood := { row := rulesGroupsAreTransparentUptoRow, standIns := [], harness := (true, "4c6adae04fa1ff999f680f43bd3506f5edd29fe99ff98f1f866884eb90708e00"), looks := false }, kinds := [], alts := [], laidByText := true, laidKinds := [.widerDeep], laidTests := true, laidLooks := .later }
def RulesGroupsAreTransparentUptoCardSaid : Prop := Claim7.holds Tryd.pinned (.plain (OpenSpec.upto rulesGroupsAreTransparentSpec)) rulesGroupsAreTransparentUptoCard

/-- THE SECOND FORM's CARD OF 'changeforgelaw6.RulesLaterRulesDoNotMatter'. -/
def rulesLaterRulesDoNotMatterUptoCard : Claim7 := { stood := { row := rulesLaterRulesDoNotMatterUptoRow, standIns := [], harness := (true, "4c6adae04fa1ff999f680f43bd3506f5edd29fe99ff98f1f866884eb90708e00"), looks := false }, kinds := [], alts := [], laidByText := true, laidKinds := [.widerDeep], laidTests := true, laidLooks := .later }
def RulesLaterRulesDoNotMatterUptoCardSaid : Prop := Claim7.holds Tryd.pinned (.plain (OpenSpec.upto rulesLaterRulesDoNotMatterSpec)) rulesLaterRulesDoNotMatterUptoCard

/-- THE SECOND FORM's CARD OF 'changeforgelaw6.RulesExpansionIsIdempotent'. -/
def rulesExpansionIsIdempotentUptoCard : Claim7 := { stood := { row := rulesExpansionIsIdempotentUptoRow, standIns := [], harness := (true, "4c6adae04fa1ff999f680f43bd3506f5edd29fe99ff98f1f866884eb90708e00"), looks := false }, kinds := [], alts := [], laidByText := true, laidKinds := [.widerDeep], laidTests := true, laidLooks := .later }
def RulesExpansionIsIdempotentUptoCardSaid : Prop := Claim7.holds Tryd.pinned (.plain (OpenSpec.upto rulesExpansionIsIdempotentSpec)) rulesExpansionIsIdempotentUptoCard
end Rows
end Go.Proofs.YtepflpmngegdiaaDoor
