/-
  DERIVED. GIVEN WITH THE SEED: THE CARDS: each row of YtkfkdhjelncfhaaDoorRows.lean that lists a variable, with what it lists TIED to the program's text (the seventh form; the later family's looks); each row that meets fmt, with fmt's text TOLD by the authors' own Lean function (tested against real Go, not proved from fmt's source: count such statements apart). THE CARD IS WHAT COUNTS. Prove the row's statement (the work); the ties are given (YtkfkdhjelncfhaaDoorTie.lean); close each card by the builder's one call (the guide's Derived/Test/ToyasCard.lean, 'card_holds'). Laid BY PROGRAM, IN A SANDBOX (cutbox-door.mjs). By AI agents, Wed Nov 11 2026. No macro, syntax, notation, axiom, sorry.
-/
import Derived.Test.YtkfkdhjelncfhaaDoorRows
import GoSem.ClaimSeven
namespace Go.Proofs.YtkfkdhjelncfhaaDoor
namespace Rows

/-- THE TIED CARD OF 'bastionlaw1.Fields'. -/
def fieldsCard : Claim7 := { stood := { row := fieldsRow, standIns := [], harness := (true, "730f67eb91a13320ed98f8778ce8747e603d7ab705d207121d4199029fc61b45"), looks := true }, kinds := [], alts := [], laidByText := true, laidKinds := [.handle], laidTests := true, laidLooks := .later }
def FieldsCardSaid : Prop := Claim7.holds Tryd.pinned (.plain (OpenSpec.ofChange fieldsSpec)) fieldsCard

/-- THE TIED CARD OF 'bastionlaw1.FieldOrder'. -/
def fieldOrderCard : Claim7 := { stood := { row := fieldOrderRow, standIns := [], harness := (true, "730f67eb91a13320ed98f8778ce8747e603d7ab705d207121d4199029fc61b45"), looks := true }, kinds := [], alts := [], laidByText := true, laidKinds := [.handle], laidTests := true, laidLooks := .later }
def FieldOrderCardSaid : Prop := Claim7.holds Tryd.pinned (.plain (OpenSpec.ofChange fieldOrderSpec)) fieldOrderCard

/-- THE TIED CARD OF 'bastionlaw1.FieldSizes'. -/
def fieldSizesCard : Claim7 := { stood := { row := fieldSizesRow, standIns := [], harness := (true, "730f67eb91a13320ed98f8778ce8747e603d7ab705d207121d4199029fc61b45"), looks := true }, kinds := [], alts := [], laidByText := true, laidKinds := [.handle], laidTests := true, laidLooks := .later }
def FieldSizesCardSaid : Prop := Claim7.holds Tryd.pinned (.plain (OpenSpec.ofChange fieldSizesSpec)) fieldSizesCard

/-- THE TIED CARD OF 'bastionlaw1.FieldChains'. -/
def fieldChainsCard : Claim7 := { stood := { row := fieldChainsRow, standIns := [], harness := (true, "730f67eb91a13320ed98f8778ce8747e603d7ab705d207121d4199029fc61b45"), looks := true }, kinds := [], alts := [], laidByText := true, laidKinds := [.handle], laidTests := true, laidLooks := .later }
def FieldChainsCardSaid : Prop := Claim7.holds Tryd.pinned (.plain (OpenSpec.ofChange fieldChainsSpec)) fieldChainsCard

/-- THE TIED CARD OF 'bastionlaw1.FieldForms'. -/
def fieldFormsCard : Claim7 := { stood := { row := fieldFormsRow, standIns := [], harness := (true, "730f67eb91a13320ed98f8778ce8747e603d7ab705d207121d4199029fc61b45"), looks := true }, kinds := [], alts := [], laidByText := true, laidKinds := [.handle], laidTests := true, laidLooks := .later }
def FieldFormsCardSaid : Prop := Claim7.holds Tryd.pinned (.plain (OpenSpec.ofChange fieldFormsSpec)) fieldFormsCard

/-- THE SECOND FORM's CARD OF 'bastionlaw1.Fields'. -/
def fieldsUptoCard : Claim7 := { stood := { row := fieldsUptoRow, standIns := [], harness := (true, "730f67eb91a13320ed98f8778ce8747e603d7ab705d207121d4199029fc61b45"), looks := true }, kinds := [], alts := [], laidByText := true, laidKinds := [.handle], laidTests := true, laidLooks := .later }
def FieldsUptoCardSaid : Prop := Claim7.holds Tryd.pinned (.plain (OpenSpec.upto fieldsSpec)) fieldsUptoCard

/-- THE SECOND FORM's CARD OF 'bastionlaw1.FieldOrder'. -/
def fieldOrderUptoCard : Claim7 := { stood := { row := fieldOrderUptoRow, standIns := [], harness := (true, "730f67eb91a13320ed98f8778ce8747e603d7ab705d207121d4199029fc61b45"), looks := true }, kinds := [], alts := [], laidByText := true, laidKinds := [.handle], laidTests := true, laidLooks := .later }
def FieldOrderUptoCardSaid : Prop := Claim7.holds Tryd.pinned (.plain (OpenSpec.upto fieldOrderSpec)) fieldOrderUptoCard

/-- THE SECOND FORM's CARD OF 'bastionlaw1.FieldSizes'. -/
def fieldSizesUptoCard : Claim7 := { stood := { row := fieldSizesUptoRow, standIns := [], harness := (true, "730f67eb91a13320ed98f8778ce8747e603d7ab705d207121d4199029fc61b45"), looks := true }, kinds := [], alts := [], laidByText := true, laidKinds := [.handle], laidTests := true, laidLooks := .later }
def FieldSizesUptoCardSaid : Prop := Claim7.holds Tryd.pinned (.plain (OpenSpec.upto fieldSizesSpec)) fieldSizesUptoCard

/-- THE SECOND FORM's CARD OF 'bastionlaw1.FieldChains'. -/
def fieldChainsUptoCard : Claim7 := { stood := { row := fieldChainsUptoRow, standIns := [], harness := (true, "730f67eb91a13320ed98f8778ce8747e603d7ab705d207121d4199029fc61b45"), looks := true }, kinds := [], alts := [], laidByText := true, laidKinds := [.handle], laidTests := true, laidLooks := .later }
def FieldChainsUptoCardSaid : Prop := Claim7.holds Tryd.pinned (.plain (OpenSpec.upto fieldChainsSpec)) fieldChainsUptoCard

/-- THE SECOND FORM's CARD OF 'bastionlaw1.FieldForms'. -/
def fieldFormsUptoCard : Claim7 := { stood := { row := fieldFormsUptoRow, standIns := [], harness := (true, "730f67eb91a13320ed98f8778ce8747e603d7ab705d207121d4199029fc61b45"), looks := true }, kinds := [], alts := [], laidByText := true, laidKinds := [.handle], laidTests := true, laidLooks := .later }
def FieldFormsUptoCardSaid : Prop := Claim7.holds Tryd.pinned (.plain (OpenSpec.upto fieldFormsSpec)) fieldFormsUptoCard
end Rows
end Go.Proofs.YtkfkdhjelncfhaaDoor
