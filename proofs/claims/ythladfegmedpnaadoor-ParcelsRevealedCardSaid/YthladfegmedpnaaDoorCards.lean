/-
  DERIVED. GIVEN WITH THE SEED: THE CARDS: each row of YthladfegmedpnaaDoorRows.lean that lists a variable, with what it lists TIED to the program's text (the seventh form; the later family's looks); each row that meets fmt, with fmt's text TOLD by the authors' own Lean function (tested against real Go, not proved from fmt's source: count such statements apart). THE CARD IS WHAT COUNTS. Prove the row's statement (the work); the ties are given (YthladfegmedpnaaDoorTie.lean); close each card by the builder's one call (the guide's Derived/Test/ToyasCard.lean, 'card_holds'). Laid BY PROGRAM, IN A SANDBOX (cutbox-door.mjs). By AI agents, Wed Nov 11 2026. No macro, syntax, notation, axiom, sorry.
-/
import Derived.Test.YthladfegmedpnaaDoorRows
import GoSem.ClaimSeven
namespace Go.Proofs.YthladfegmedpnaaDoor
namespace Rows

/-- THE TIED CARD OF 'signatorylaw12.EqualSpec'. -/
def equalSpecCard : Claim7 := { stood := { row := equalSpecRow, standIns := [], harness := (true, "f86824cecc9c582613722376979ca2663d66c62e4c22279858bdd46e8a7064da"), looks := false }, kinds := [], alts := [], laidByText := true, laidKinds := [.data, .data], laidTests := true, laidLooks := .later }
def EqualSpecCardSaid : Prop := Claim7.holds Tryd.pinned (.plain (OpenSpec.ofChange equalSpecSpec)) equalSpecCard

/-- THE TIED CARD OF 'signatorylaw12.EqualSound'. -/
def equalSoundCard : Claim7 := { stood := { row := equalSoundRow, standIns := [], harness := (true, "f86824cecc9c582613722376979ca2663d66c62e4c22279858bdd46e8a7064da"), looks := false }, kinds := [], alts := [], laidByText := true, laidKinds := [.data, .data], laidTests := true, laidLooks := .later }
def EqualSoundCardSaid : Prop := Claim7.holds Tryd.pinned (.plain (OpenSpec.ofChange equalSoundSpec)) equalSoundCard

/-- THE TIED CARD OF 'signatorylaw12.EqualProves'. -/
def equalProvesCard : Claim7 := { stood := { row := equalProvesRow, standIns := [], harness := (true, "f86824cecc9c582613722376979ca2663d66c62e4c22279858bdd46e8a7064da"), looks := false }, kinds := [], alts := [], laidByText := true, laidKinds := [.data, .data], laidTests := true, laidLooks := .later }
def EqualProvesCardSaid : Prop := Claim7.holds Tryd.pinned (.plain (OpenSpec.ofChange equalProvesSpec)) equalProvesCard

/-- THE TIED CARD OF 'signatorylaw12.EqualProduct'. -/
def equalProductCard : Claim7 := { stood := { row := equalProductRow, standIns := [], harness := (true, "f86824cecc9c582613722376979ca2663d66c62e4c22279858bdd46e8a7064da"), looks := false }, kinds := [], alts := [], laidByText := true, laidKinds := [.data, .data], laidTests := true, laidLooks := .later }
def EqualProductCardSaid : Prop := Claim7.holds Tryd.pinned (.plain (OpenSpec.ofChange equalProductSpec)) equalProductCard

/-- THE TIED CARD OF 'signatorylaw12.EqualHash'. -/
def equalHashCard : Claim7 := { stood := { row := equalHashRow, standIns := [], harness := (true, "f86824cecc9c582613722376979ca2663d66c62e4c22279858bdd46e8a7064da"), looks := false }, kinds := [], alts := [], laidByText := true, laidKinds := [.data, .data], laidTests := true, laidLooks := .later }
def EqualHashCardSaid : Prop := Claim7.holds Tryd.pinned (.plain (OpenSpec.ofChange equalHashSpec)) equalHashCard

/-- THE TIED CARD OF 'signatorylaw35.ParcelsSpec'. -/
def parcelsSpecCard : Claim7 := { stood := { row := parcelsSpecRow, standIns := [], harness := (true, "f86824cecc9c582613722376979ca2663d66c62e4c22279858bdd46e8a7064da"), looks := false }, kinds := [], alts := [], laidByText := true, laidKinds := [.data, .data], laidTests := true, laidLooks := .later }
def ParcelsSpecCardSaid : Prop := Claim7.holds Tryd.pinned (.plain (OpenSpec.ofChange parcelsSpecSpec)) parcelsSpecCard

/-- THE TIED CARD OF 'signatorylaw35.ParcelsBack'. -/
def parcelsBackCard : Claim7 := { stood := { row := parcelsBackRow, standIns := [], harness := (true, "f86824cecc9c582613722376979ca2663d66c62e4c22279858bdd46e8a7064da"), looks := false }, kinds := [], alts := [], laidByText := true, laidKinds := [.data, .data], laidTests := true, laidLooks := .later }
def ParcelsBackCardSaid : Prop := Claim7.holds Tryd.pinned (.plain (OpenSpec.ofChange parcelsBackSpec)) parcelsBackCard

/-- THE TIED CARD OF 'signatorylaw35.ParcelsOpenSpec'. -/
def parcelsOpenSpecCard : Claim7 := { stood := { row := parcelsOpenSpecRow, standIns := [], harness := (true, "f86824cecc9c582613722376979ca2663d66c62e4c22279858bdd46e8a7064da"), looks := false }, kinds := [], alts := [], laidByText := true, laidKinds := [.data, .data], laidTests := true, laidLooks := .later }
def ParcelsOpenSpecCardSaid : Prop := Claim7.holds Tryd.pinned (.plain (OpenSpec.ofChange parcelsOpenSpecSpec)) parcelsOpenSpecCard

/-- THE TIED CARD OF 'signatorylaw35.ParcelsShift'. -/
def parcelsShiftCard : Claim7 := { stood := { row := parcelsShiftRow, standIns := [], harness := (true, "f86824cecc9c582613722376979ca2663d66c62e4c22279858bdd46e8a7064da"), looks := false }, kinds := [], alts := [], laidByText := true, laidKinds := [.data, .data], laidTests := true, laidLooks := .later }
def ParcelsShiftCardSaid : Prop := Claim7.holds Tryd.pinned (.plain (OpenSpec.ofChange parcelsShiftSpec)) parcelsShiftCard

/-- THE TIED CARD OF 'signatorylaw35.ParcelsPoints'. -/
def parcelsPointsCard : Claim7 := { stood := { row := parcelsPointsRow, standIns := [], harness := (true, "f86824cecc9c582613722376979ca2663d66c62e4c22279858bdd46e8a7064da"), looks := false }, kinds := [], alts := [], laidByText := true, laidKinds := [.data, .data], laidTests := true, laidLooks := .later }
def ParcelsPointsCardSaid : Prop := Claim7.holds Tryd.pinned (.plain (OpenSpec.ofChange parcelsPointsSpec)) parcelsPointsCard

/-- THE TIED CARD OF 'signatorylaw35.ParcelsRevealed'. -/
def parcelsRevealedCard : Claim7 := { stood := { row := parcelsRevealedRow, standIns := [], harness := (true, "f86824cecc9c582613722376979ca2663d66c62e4c22279858bdd46e8a7064da"), looks := false }, kinds := [], alts := [], laidByText := true, laidKinds := [.data, .data], laidTests := true, laidLooks := .later }
def ParcelsRevealedCardSaid : Prop := Claim7.holds Tryd.pinned (.plain (OpenSpec.ofChange parcelsRevealedSpec)) parcelsRevealedCard

/-- THE SECOND FORM's CARD OF 'signatorylaw12.EqualSpec'. -/
def equalSpecUptoCard : Claim7 := { stood := { row := equalSpecUptoRow, standIns := [], harness := (true, "f86824cecc9c582613722376979ca2663d66c62e4c22279858bdd46e8a7064da"), looks := false }, kinds := [], alts := [], laidByText := true, laidKinds := [.data, .data], laidTests := true, laidLooks := .later }
def EqualSpecUptoCardSaid : Prop := Claim7.holds Tryd.pinned (.plain (OpenSpec.upto equalSpecSpec)) equalSpecUptoCard

/-- THE SECOND FORM's CARD OF 'signatorylaw12.EqualSound'. -/
def equalSoundUptoCard : Claim7 := { stood := { row := equalSoundUptoRow, standIns := [], harness := (true, "f86824cecc9c582613722376979ca2663d66c62e4c22279858bdd46e8a7064da"), looks := false }, kinds := [], alts := [], laidByText := true, laidKinds := [.data, .data], laidTests := true, laidLooks := .later }
def EqualSoundUptoCardSaid : Prop := Claim7.holds Tryd.pinned (.plain (OpenSpec.upto equalSoundSpec)) equalSoundUptoCard

/-- THE SECOND FORM's CARD OF 'signatorylaw12.EqualProves'. -/
def equalProvesUptoCard : Claim7 := { stood := { row := equalProvesUptoRow, standIns := [], harness := (true, "f86824cecc9c582613722376979ca2663d66c62e4c22279858bdd46e8a7064da"), looks := false }, kinds := [], alts := [], laidByText := true, laidKinds := [.data, .data], laidTests := true, laidLooks := .later }
def EqualProvesUptoCardSaid : Prop := Claim7.holds Tryd.pinned (.plain (OpenSpec.upto equalProvesSpec)) equalProvesUptoCard

/-- THE SECOND FORM's CARD OF 'signatorylaw12.EqualProduct'. -/
def equalProductUptoCard : Claim7 := { stood := { row := equalProductUptoRow, standIns := [], harness := (true, "f86824cecc9c582613722376979ca2663d66c62e4c22279858bdd46e8a7064da"), looks := false }, kinds := [], alts := [], laidByText := true, laidKinds := [.data, .data], laidTests := true, laidLooks := .later }
def EqualProductUptoCardSaid : Prop := Claim7.holds Tryd.pinned (.plain (OpenSpec.upto equalProductSpec)) equalProductUptoCard

/-- THE SECOND FORM's CARD OF 'signatorylaw12.EqualHash'. -/
def equalHashUptoCard : Claim7 := { stood := { row := equalHashUptoRow, standIns := [], harness := (true, "f86824cecc9c582613722376979ca2663d66c62e4c22279858bdd46e8a7064da"), looks := false }, kinds := [], alts := [], laidByText := true, laidKinds := [.data, .data], laidTests := true, laidLooks := .later }
def EqualHashUptoCardSaid : Prop := Claim7.holds Tryd.pinned (.plain (OpenSpec.upto equalHashSpec)) equalHashUptoCard

/-- THE SECOND FORM's CARD OF 'signatorylaw35.ParcelsSpec'. -/
def parcelsSpecUptoCard : Claim7 := { stood := { row := parcelsSpecUptoRow, standIns := [], harness := (true, "f86824cecc9c582613722376979ca2663d66c62e4c22279858bdd46e8a7064da"), looks := false }, kinds := [], alts := [], laidByText := true, laidKinds := [.data, .data], laidTests := true, laidLooks := .later }
def ParcelsSpecUptoCardSaid : Prop := Claim7.holds Tryd.pinned (.plain (OpenSpec.upto parcelsSpecSpec)) parcelsSpecUptoCard

/-- THE SECOND FORM's CARD OF 'signatorylaw35.ParcelsBack'. -/
def parcelsBackUptoCard : Claim7 := { stood := { row := parcelsBackUptoRow, standIns := [], harness := (true, "f86824cecc9c582613722376979ca2663d66c62e4c22279858bdd46e8a7064da"), looks := false }, kinds := [], alts := [], laidByText := true, laidKinds := [.data, .data], laidTests := true, laidLooks := .later }
def ParcelsBackUptoCardSaid : Prop := Claim7.holds Tryd.pinned (.plain (OpenSpec.upto parcelsBackSpec)) parcelsBackUptoCard

/-- THE SECOND FORM's CARD OF 'signatorylaw35.ParcelsOpenSpec'. -/
def parcelsOpenSpecUptoCard : Claim7 := { stood := { row := parcelsOpenSpecUptoRow, standIns := [], harness := (true, "f86824cecc9c582613722376979ca2663d66c62e4c22279858bdd46e8a7064da"), looks := false }, kinds := [], alts := [], laidByText := true, laidKinds := [.data, .data], laidTests := true, laidLooks := .later }
def ParcelsOpenSpecUptoCardSaid : Prop := Claim7.holds Tryd.pinned (.plain (OpenSpec.upto parcelsOpenSpecSpec)) parcelsOpenSpecUptoCard

/-- THE SECOND FORM's CARD OF 'signatorylaw35.ParcelsShift'. -/
def parcelsShiftUptoCard : Claim7 := { stood := { row := parcelsShiftUptoRow, standIns := [], harness := (true, "f86824cecc9c582613722376979ca2663d66c62e4c22279858bdd46e8a7064da"), looks := false }, kinds := [], alts := [], laidByText := true, laidKinds := [.data, .data], laidTests := true, laidLooks := .later }
def ParcelsShiftUptoCardSaid : Prop := Claim7.holds Tryd.pinned (.plain (OpenSpec.upto parcelsShiftSpec)) parcelsShiftUptoCard

/-- THE SECOND FORM's CARD OF 'signatorylaw35.ParcelsPoints'. -/
def parcelsPointsUptoCard : Claim7 := { stood := { row := parcelsPointsUptoRow, standIns := [], harness := (true, "f86824cecc9c582613722376979ca2663d66c62e4c22279858bdd46e8a7064da"), looks := false }, kinds := [], alts := [], laidByText := true, laidKinds := [.data, .data], laidTests := true, laidLooks := .later }
def ParcelsPointsUptoCardSaid : Prop := Claim7.holds Tryd.pinned (.plain (OpenSpec.upto parcelsPointsSpec)) parcelsPointsUptoCard

/-- THE SECOND FORM's CARD OF 'signatorylaw35.ParcelsRevealed'. -/
def parcelsRevealedUptoCard : Claim7 := { stood := { row := parcelsRevealedUptoRow, standIns := [], harness := (true, "f86824cecc9c582613722376979ca2663d66c62e4c22279858bdd46e8a7064da"), looks := false }, kinds := [], alts := [], laidByText := true, laidKinds := [.data, .data], laidTests := true, laidLooks := .later }
def ParcelsRevealedUptoCardSaid : Prop := Claim7.holds Tryd.pinned (.plain (OpenSpec.upto parcelsRevealedSpec)) parcelsRevealedUptoCard
end Rows
end Go.Proofs.YthladfegmedpnaaDoor
