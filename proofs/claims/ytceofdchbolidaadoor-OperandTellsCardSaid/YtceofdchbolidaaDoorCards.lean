/-
  DERIVED. GIVEN WITH THE SEED: THE CARDS: each row of YtceofdchbolidaaDoorRows.lean that lists a variable, with what it lists TIED to the program's text (the seventh form; the later family's looks); each row that meets fmt, with fmt's text TOLD by the authors' own Lean function (tested against real Go, not proved from fmt's source: count such statements apart). THE CARD IS WHAT COUNTS. Prove the row's statement (the work); the ties are given (YtceofdchbolidaaDoorTie.lean); close each card by the builder's one call (the guide's Derived/Test/ToyasCard.lean, 'card_holds'). Laid BY PROGRAM, IN A SANDBOX (cutbox-door.mjs). By AI agents, Wed Nov 11 2026. No macro, syntax, notation, axiom, sorry.
-/
import Derived.Test.YtceofdchbolidaaDoorRows
import GoSem.ClaimSeven
namespace Go.Proofs.YtceofdchbolidaaDoor
namespace Rows

/-- THE TIED CARD OF 'linotypelaw05.MemTells'. -/
def memTellsCard : Claim7 := { stood := { row := memTellsRow, standIns := [], harness := (true, "dac9886f30385605a665f3873ae2cea5d0d0bf968f6bbb8df99762799e3624cb"), looks := false }, kinds := [], alts := [], laidByText := true, laidKinds := [.listed, .data], laidTests := true, laidLooks := .later }
def MemTellsCardSaid : Prop := Claim7.holds Tryd.pinned (.plain (OpenSpec.ofChange memTellsSpec)) memTellsCard

/-- THE TIED CARD OF 'linotypelaw05.MemAddresses'. -/
def memAddressesCard : Claim7 := { stood := { row := memAddressesRow, standIns := [], harness := (true, "dac9886f30385605a665f3873ae2cea5d0d0bf968f6bbb8df99762799e3624cb"), looks := false }, kinds := [], alts := [], laidByText := true, laidKinds := [.listed, .data], laidTests := true, laidLooks := .later }
def MemAddressesCardSaid : Prop := Claim7.holds Tryd.pinned (.plain (OpenSpec.ofChange memAddressesSpec)) memAddressesCard

/-- THE TIED CARD OF 'linotypelaw05.MemKnown'. -/
def memKnownCard : Claim7 := { stood := { row := memKnownRow, standIns := [], harness := (true, "dac9886f30385605a665f3873ae2cea5d0d0bf968f6bbb8df99762799e3624cb"), looks := false }, kinds := [], alts := [], laidByText := true, laidKinds := [.listed, .data], laidTests := true, laidLooks := .later }
def MemKnownCardSaid : Prop := Claim7.holds Tryd.pinned (.plain (OpenSpec.ofChange memKnownSpec)) memKnownCard

/-- THE TIED CARD OF 'linotypelaw05.MemCanon'. -/
def memCanonCard : Claim7 := { stood := { row := memCanonRow, standIns := [], harness := (true, "dac9886f30385605a665f3873ae2cea5d0d0bf968f6bbb8df99762799e3624cb"), looks := false }, kinds := [], alts := [], laidByText := true, laidKinds := [.listed, .data], laidTests := true, laidLooks := .later }
def MemCanonCardSaid : Prop := Claim7.holds Tryd.pinned (.plain (OpenSpec.ofChange memCanonSpec)) memCanonCard

/-- THE TIED CARD OF 'linotypelaw05.MemSame'. -/
def memSameCard : Claim7 := { stood := { row := memSameRow, standIns := [], harness := (true, "dac9886f30385605a665f3873ae2cea5d0d0bf968f6bbb8df99762799e3624cb"), looks := false }, kinds := [], alts := [], laidByText := true, laidKinds := [.listed, .data], laidTests := true, laidLooks := .later }
def MemSameCardSaid : Prop := Claim7.holds Tryd.pinned (.plain (OpenSpec.ofChange memSameSpec)) memSameCard

/-- THE TIED CARD OF 'linotypelaw06.OperandImm'. -/
def operandImmCard : Claim7 := { stood := { row := operandImmRow, standIns := [], harness := (true, "dac9886f30385605a665f3873ae2cea5d0d0bf968f6bbb8df99762799e3624cb"), looks := false }, kinds := [], alts := [], laidByText := true, laidKinds := [.listed, .data], laidTests := true, laidLooks := .later }
def OperandImmCardSaid : Prop := Claim7.holds Tryd.pinned (.plain (OpenSpec.ofChange operandImmSpec)) operandImmCard

/-- THE TIED CARD OF 'linotypelaw06.OperandLike'. -/
def operandLikeCard : Claim7 := { stood := { row := operandLikeRow, standIns := [], harness := (true, "dac9886f30385605a665f3873ae2cea5d0d0bf968f6bbb8df99762799e3624cb"), looks := false }, kinds := [], alts := [], laidByText := true, laidKinds := [.listed, .data], laidTests := true, laidLooks := .later }
def OperandLikeCardSaid : Prop := Claim7.holds Tryd.pinned (.plain (OpenSpec.ofChange operandLikeSpec)) operandLikeCard

/-- THE TIED CARD OF 'linotypelaw06.OperandKnown'. -/
def operandKnownCard : Claim7 := { stood := { row := operandKnownRow, standIns := [], harness := (true, "dac9886f30385605a665f3873ae2cea5d0d0bf968f6bbb8df99762799e3624cb"), looks := false }, kinds := [], alts := [], laidByText := true, laidKinds := [.listed, .data], laidTests := true, laidLooks := .later }
def OperandKnownCardSaid : Prop := Claim7.holds Tryd.pinned (.plain (OpenSpec.ofChange operandKnownSpec)) operandKnownCard

/-- THE TIED CARD OF 'linotypelaw06.OperandTells'. -/
def operandTellsCard : Claim7 := { stood := { row := operandTellsRow, standIns := [], harness := (true, "dac9886f30385605a665f3873ae2cea5d0d0bf968f6bbb8df99762799e3624cb"), looks := false }, kinds := [], alts := [], laidByText := true, laidKinds := [.listed, .data], laidTests := true, laidLooks := .later }
def OperandTellsCardSaid : Prop := Claim7.holds Tryd.pinned (.plain (OpenSpec.ofChange operandTellsSpec)) operandTellsCard

/-- THE TIED CARD OF 'linotypelaw06.OperandCanon'. -/
def operandCanonCard : Claim7 := { stood := { row := operandCanonRow, standIns := [], harness := (true, "dac9886f30385605a665f3873ae2cea5d0d0bf968f6bbb8df99762799e3624cb"), looks := false }, kinds := [], alts := [], laidByText := true, laidKinds := [.listed, .data], laidTests := true, laidLooks := .later }
def OperandCanonCardSaid : Prop := Claim7.holds Tryd.pinned (.plain (OpenSpec.ofChange operandCanonSpec)) operandCanonCard

/-- THE SECOND FORM's CARD OF 'linotypelaw05.MemTells'. -/
def memTellsUptoCard : Claim7 := { stood := { row := memTellsUptoRow, standIns := [], harness := (true, "dac9886f30385605a665f3873ae2cea5d0d0bf968f6bbb8df99762799e3624cb"), looks := false }, kinds := [], alts := [], laidByText := true, laidKinds := [.listed, .data], laidTests := true, laidLooks := .later }
def MemTellsUptoCardSaid : Prop := Claim7.holds Tryd.pinned (.plain (OpenSpec.upto memTellsSpec)) memTellsUptoCard

/-- THE SECOND FORM's CARD OF 'linotypelaw05.MemAddresses'. -/
def memAddressesUptoCard : Claim7 := { stood := { row := memAddressesUptoRow, standIns := [], harness := (true, "dac9886f30385605a665f3873ae2cea5d0d0bf968f6bbb8df99762799e3624cb"), looks := false }, kinds := [], alts := [], laidByText := true, laidKinds := [.listed, .data], laidTests := true, laidLooks := .later }
def MemAddressesUptoCardSaid : Prop := Claim7.holds Tryd.pinned (.plain (OpenSpec.upto memAddressesSpec)) memAddressesUptoCard

/-- THE SECOND FORM's CARD OF 'linotypelaw05.MemKnown'. -/
def memKnownUptoCard : Claim7 := { stood := { row := memKnownUptoRow, standIns := [], harness := (true, "dac9886f30385605a665f3873ae2cea5d0d0bf968f6bbb8df99762799e3624cb"), looks := false }, kinds := [], alts := [], laidByText := true, laidKinds := [.listed, .data], laidTests := true, laidLooks := .later }
def MemKnownUptoCardSaid : Prop := Claim7.holds Tryd.pinned (.plain (OpenSpec.upto memKnownSpec)) memKnownUptoCard

/-- THE SECOND FORM's CARD OF 'linotypelaw05.MemCanon'. -/
def memCanonUptoCard : Claim7 := { stood := { row := memCanonUptoRow, standIns := [], harness := (true, "dac9886f30385605a665f3873ae2cea5d0d0bf968f6bbb8df99762799e3624cb"), looks := false }, kinds := [], alts := [], laidByText := true, laidKinds := [.listed, .data], laidTests := true, laidLooks := .later }
def MemCanonUptoCardSaid : Prop := Claim7.holds Tryd.pinned (.plain (OpenSpec.upto memCanonSpec)) memCanonUptoCard

/-- THE SECOND FORM's CARD OF 'linotypelaw05.MemSame'. -/
def memSameUptoCard : Claim7 := { stood := { row := memSameUptoRow, standIns := [], harness := (true, "dac9886f30385605a665f3873ae2cea5d0d0bf968f6bbb8df99762799e3624cb"), looks := false }, kinds := [], alts := [], laidByText := true, laidKinds := [.listed, .data], laidTests := true, laidLooks := .later }
def MemSameUptoCardSaid : Prop := Claim7.holds Tryd.pinned (.plain (OpenSpec.upto memSameSpec)) memSameUptoCard

/-- THE SECOND FORM's CARD OF 'linotypelaw06.OperandImm'. -/
def operandImmUptoCard : Claim7 := { stood := { row := operandImmUptoRow, standIns := [], harness := (true, "dac9886f30385605a665f3873ae2cea5d0d0bf968f6bbb8df99762799e3624cb"), looks := false }, kinds := [], alts := [], laidByText := true, laidKinds := [.listed, .data], laidTests := true, laidLooks := .later }
def OperandImmUptoCardSaid : Prop := Claim7.holds Tryd.pinned (.plain (OpenSpec.upto operandImmSpec)) operandImmUptoCard

/-- THE SECOND FORM's CARD OF 'linotypelaw06.OperandLike'. -/
def operandLikeUptoCard : Claim7 := { stood := { row := operandLikeUptoRow, standIns := [], harness := (true, "dac9886f30385605a665f3873ae2cea5d0d0bf968f6bbb8df99762799e3624cb"), looks := false }, kinds := [], alts := [], laidByText := true, laidKinds := [.listed, .data], laidTests := true, laidLooks := .later }
def OperandLikeUptoCardSaid : Prop := Claim7.holds Tryd.pinned (.plain (OpenSpec.upto operandLikeSpec)) operandLikeUptoCard

/-- THE SECOND FORM's CARD OF 'linotypelaw06.OperandKnown'. -/
def operandKnownUptoCard : Claim7 := { stood := { row := operandKnownUptoRow, standIns := [], harness := (true, "dac9886f30385605a665f3873ae2cea5d0d0bf968f6bbb8df99762799e3624cb"), looks := false }, kinds := [], alts := [], laidByText := true, laidKinds := [.listed, .data], laidTests := true, laidLooks := .later }
def OperandKnownUptoCardSaid : Prop := Claim7.holds Tryd.pinned (.plain (OpenSpec.upto operandKnownSpec)) operandKnownUptoCard

/-- THE SECOND FORM's CARD OF 'linotypelaw06.OperandTells'. -/
def operandTellsUptoCard : Claim7 := { stood := { row := operandTellsUptoRow, standIns := [], harness := (true, "dac9886f30385605a665f3873ae2cea5d0d0bf968f6bbb8df99762799e3624cb"), looks := false }, kinds := [], alts := [], laidByText := true, laidKinds := [.listed, .data], laidTests := true, laidLooks := .later }
def OperandTellsUptoCardSaid : Prop := Claim7.holds Tryd.pinned (.plain (OpenSpec.upto operandTellsSpec)) operandTellsUptoCard

/-- THE SECOND FORM's CARD OF 'linotypelaw06.OperandCanon'. -/
def operandCanonUptoCard : Claim7 := { stood := { row := operandCanonUptoRow, standIns := [], harness := (true, "dac9886f30385605a665f3873ae2cea5d0d0bf968f6bbb8df99762799e3624cb"), looks := false }, kinds := [], alts := [], laidByText := true, laidKinds := [.listed, .data], laidTests := true, laidLooks := .later }
def OperandCanonUptoCardSaid : Prop := Claim7.holds Tryd.pinned (.plain (OpenSpec.upto operandCanonSpec)) operandCanonUptoCard
end Rows
end Go.Proofs.YtceofdchbolidaaDoor
