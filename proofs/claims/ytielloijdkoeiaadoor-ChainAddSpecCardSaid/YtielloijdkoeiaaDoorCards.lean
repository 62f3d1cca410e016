/-
  DERIVED. GIVEN WITH THE SEED: THE CARDS: each row of YtielloijdkoeiaaDoorRows.lean that lists a variable, with what it lists TIED to the program's text (the seventh form; the later family's looks); each row that meets fmt, with fmt's text TOLD by the authors' own Lean function (tested against real Go, not proved from fmt's source: count such statements apart). THE CARD IS WHAT COUNTS. Prove the row's statement (the work); the ties are given (YtielloijdkoeiaaDoorTie.lean); close each card by the builder's one call (the guide's Derived/Test/ToyasCard.lean, 'card_holds'). Laid BY PROGRAM, IN A SANDBOX (cutbox-door.mjs). By AI agents, Wed Nov 11 2026. No macro, syntax, notation, axiom, sorry.
-/
import Derived.Test.YtielloijdkoeiaaDoorRows
import GoSem.ClaimSeven
namespace Go.Proofs.YtielloijdkoeiaaDoor
namespace Rows

/-- THE TIED CARD OF 'signatorylaw47.DuressEither'. -/
def duressEitherCard : Claim7 := { stood := { row := duressEitherRow, standIns := [], harness := (true, "dbb11fbf9890d568f4124722388ab589a4d09bd4506f302f29b3a7bcfe4dbaea"), looks := false }, kinds := [], alts := [], laidByText := true, laidKinds := [.data, .data], laidTests := true, laidLooks := .later }
def DuressEitherCardSaid : Prop := Claim7.holds Tryd.pinned (.plain (OpenSpec.ofChange duressEitherSpec)) duressEitherCard

/-- THE TIED CARD OF 'signatorylaw47.DuressTwo'. -/
def duressTwoCard : Claim7 := { stood := { row := duressTwoRow, standIns := [], harness := (true, "dbb11fbf9890d568f4124722388ab589a4d09bd4506f302f29b3a7bcfe4dbaea"), looks := false }, kinds := [], alts := [], laidByText := true, laidKinds := [.data, .data], laidTests := true, laidLooks := .later }
def DuressTwoCardSaid : Prop := Claim7.holds Tryd.pinned (.plain (OpenSpec.ofChange duressTwoSpec)) duressTwoCard

/-- THE TIED CARD OF 'signatorylaw08.ChainAddSpec'. -/
def chainAddSpecCard : Claim7 := { stood := { row := chainAddSpecRow, standIns := [], harness := (true, "dbb11fbf9890d568f4124722388ab589a4d09bd4506f302f29b3a7bcfe4dbaea"), looks := false }, kinds := [], alts := [], laidByText := true, laidKinds := [.data, .data], laidTests := true, laidLooks := .later }
def ChainAddSpecCardSaid : Prop := Claim7.holds Tryd.pinned (.plain (OpenSpec.ofChange chainAddSpecSpec)) chainAddSpecCard

/-- THE TIED CARD OF 'signatorylaw08.ChainBuilt'. -/
def chainBuiltCard : Claim7 := { stood := { row := chainBuiltRow, standIns := [], harness := (true, "dbb11fbf9890d568f4124722388ab589a4d09bd4506f302f29b3a7bcfe4dbaea"), looks := false }, kinds := [], alts := [], laidByText := true, laidKinds := [.data, .data], laidTests := true, laidLooks := .later }
def ChainBuiltCardSaid : Prop := Claim7.holds Tryd.pinned (.plain (OpenSpec.ofChange chainBuiltSpec)) chainBuiltCard

/-- THE TIED CARD OF 'signatorylaw08.ChainEqual'. -/
def chainEqualCard : Claim7 := { stood := { row := chainEqualRow, standIns := [], harness := (true, "dbb11fbf9890d568f4124722388ab589a4d09bd4506f302f29b3a7bcfe4dbaea"), looks := false }, kinds := [], alts := [], laidByText := true, laidKinds := [.data, .data], laidTests := true, laidLooks := .later }
def ChainEqualCardSaid : Prop := Claim7.holds Tryd.pinned (.plain (OpenSpec.ofChange chainEqualSpec)) chainEqualCard

/-- THE TIED CARD OF 'signatorylaw08.ChainChanged'. -/
def chainChangedCard : Claim7 := { stood := { row := chainChangedRow, standIns := [], harness := (true, "dbb11fbf9890d568f4124722388ab589a4d09bd4506f302f29b3a7bcfe4dbaea"), looks := false }, kinds := [], alts := [], laidByText := true, laidKinds := [.data, .data], laidTests := true, laidLooks := .later }
def ChainChangedCardSaid : Prop := Claim7.holds Tryd.pinned (.plain (OpenSpec.ofChange chainChangedSpec)) chainChangedCard

/-- THE TIED CARD OF 'signatorylaw08.ChainParts'. -/
def chainPartsCard : Claim7 := { stood := { row := chainPartsRow, standIns := [], harness := (true, "dbb11fbf9890d568f4124722388ab589a4d09bd4506f302f29b3a7bcfe4dbaea"), looks := false }, kinds := [], alts := [], laidByText := true, laidKinds := [.data, .data], laidTests := true, laidLooks := .later }
def ChainPartsCardSaid : Prop := Claim7.holds Tryd.pinned (.plain (OpenSpec.ofChange chainPartsSpec)) chainPartsCard

/-- THE TIED CARD OF 'signatorylaw47.DuressSpec'. -/
def duressSpecCard : Claim7 := { stood := { row := duressSpecRow, standIns := [], harness := (true, "dbb11fbf9890d568f4124722388ab589a4d09bd4506f302f29b3a7bcfe4dbaea"), looks := false }, kinds := [], alts := [], laidByText := true, laidKinds := [.data, .data], laidTests := true, laidLooks := .later }
def DuressSpecCardSaid : Prop := Claim7.holds Tryd.pinned (.plain (OpenSpec.ofChange duressSpecSpec)) duressSpecCard

/-- THE TIED CARD OF 'signatorylaw47.DuressEitherSpec'. -/
def duressEitherSpecCard : Claim7 := { stood := { row := duressEitherSpecRow, standIns := [], harness := (true, "dbb11fbf9890d568f4124722388ab589a4d09bd4506f302f29b3a7bcfe4dbaea"), looks := false }, kinds := [], alts := [], laidByText := true, laidKinds := [.data, .data], laidTests := true, laidLooks := .later }
def DuressEitherSpecCardSaid : Prop := Claim7.holds Tryd.pinned (.plain (OpenSpec.ofChange duressEitherSpecSpec)) duressEitherSpecCard

/-- THE TIED CARD OF 'signatorylaw47.DuressRead'. -/
def duressReadCard : Claim7 := { stood := { row := duressReadRow, standIns := [], harness := (true, "dbb11fbf9890d568f4124722388ab589a4d09bd4506f302f29b3a7bcfe4dbaea"), looks := false }, kinds := [], alts := [], laidByText := true, laidKinds := [.data, .data], laidTests := true, laidLooks := .later }
def DuressReadCardSaid : Prop := Claim7.holds Tryd.pinned (.plain (OpenSpec.ofChange duressReadSpec)) duressReadCard

/-- THE SECOND FORM's CARD OF 'signatorylaw47.DuressEither'. -/
def duressEitherUptoCard : Claim7 := { stood := { row := duressEitherUptoRow, standIns := [], harness := (true, "dbb11fbf9890d568f4124722388ab589a4d09bd4506f302f29b3a7bcfe4dbaea"), looks := false }, kinds := [], alts := [], laidByText := true, laidKinds := [.data, .data], laidTests := true, laidLooks := .later }
def DuressEitherUptoCardSaid : Prop := Claim7.holds Tryd.pinned (.plain (OpenSpec.upto duressEitherSpec)) duressEitherUptoCard

/-- THE SECOND FORM's CARD OF 'signatorylaw47.DuressTwo'. -/
def duressTwoUptoCard : Claim7 := { stood := { row := duressTwoUptoRow, standIns := [], harness := (true, "dbb11fbf9890d568f4124722388ab589a4d09bd4506f302f29b3a7bcfe4dbaea"), looks := false }, kinds := [], alts := [], laidByText := true, laidKinds := [.data, .data], laidTests := true, laidLooks := .later }
def DuressTwoUptoCardSaid : Prop := Claim7.holds Tryd.pinned (.plain (OpenSpec.upto duressTwoSpec)) duressTwoUptoCard

/-- THE SECOND FORM's CARD OF 'signatorylaw08.ChainAddSpec'. -/
def chainAddSpecUptoCard : Claim7 := { stood := { row := chainAddSpecUptoRow, standIns := [], harness := (true, "dbb11fbf9890d568f4124722388ab589a4d09bd4506f302f29b3a7bcfe4dbaea"), looks := false }, kinds := [], alts := [], laidByText := true, laidKinds := [.data, .data], laidTests := true, laidLooks := .later }
def ChainAddSpecUptoCardSaid : Prop := Claim7.holds Tryd.pinned (.plain (OpenSpec.upto chainAddSpecSpec)) chainAddSpecUptoCard

/-- THE SECOND FORM's CARD OF 'signatorylaw08.ChainBuilt'. -/
def chainBuiltUptoCard : Claim7 := { stood := { row := chainBuiltUptoRow, standIns := [], harness := (true, "dbb11fbf9890d568f4124722388ab589a4d09bd4506f302f29b3a7bcfe4dbaea"), looks := false }, kinds := [], alts := [], laidByText := true, laidKinds := [.data, .data], laidTests := true, laidLooks := .later }
def ChainBuiltUptoCardSaid : Prop := Claim7.holds Tryd.pinned (.plain (OpenSpec.upto chainBuiltSpec)) chainBuiltUptoCard

/-- THE SECOND FORM's CARD OF 'signatorylaw08.ChainEqual'. -/
def chainEqualUptoCard : Claim7 := { stood := { row := chainEqualUptoRow, standIns := [], harness := (true, "dbb11fbf9890d568f4124722388ab589a4d09bd4506f302f29b3a7bcfe4dbaea"), looks := false }, kinds := [], alts := [], laidByText := true, laidKinds := [.data, .data], laidTests := true, laidLooks := .later }
def ChainEqualUptoCardSaid : Prop := Claim7.holds Tryd.pinned (.plain (OpenSpec.upto chainEqualSpec)) chainEqualUptoCard

/-- THE SECOND FORM's CARD OF 'signatorylaw08.ChainChanged'. -/
def chainChangedUptoCard : Claim7 := { stood := { row := chainChangedUptoRow, standIns := [], harness := (true, "dbb11fbf9890d568f4124722388ab589a4d09bd4506f302f29b3a7bcfe4dbaea"), looks := false }, kinds := [], alts := [], laidByText := true, laidKinds := [.data, .data], laidTests := true, laidLooks := .later }
def ChainChangedUptoCardSaid : Prop := Claim7.holds Tryd.pinned (.plain (OpenSpec.upto chainChangedSpec)) chainChangedUptoCard

/-- THE SECOND FORM's CARD OF 'signatorylaw08.ChainParts'. -/
def chainPartsUptoCard : Claim7 := { stood := { row := chainPartsUptoRow, standIns := [], harness := (true, "dbb11fbf9890d568f4124722388ab589a4d09bd4506f302f29b3a7bcfe4dbaea"), looks := false }, kinds := [], alts := [], laidByText := true, laidKinds := [.data, .data], laidTests := true, laidLooks := .later }
def ChainPartsUptoCardSaid : Prop := Claim7.holds Tryd.pinned (.plain (OpenSpec.upto chainPartsSpec)) chainPartsUptoCard

/-- THE SECOND FORM's CARD OF 'signatorylaw47.DuressSpec'. -/
def duressSpecUptoCard : Claim7 := { stood := { row := duressSpecUptoRow, standIns := [], harness := (true, "dbb11fbf9890d568f4124722388ab589a4d09bd4506f302f29b3a7bcfe4dbaea"), looks := false }, kinds := [], alts := [], laidByText := true, laidKinds := [.data, .data], laidTests := true, laidLooks := .later }
def DuressSpecUptoCardSaid : Prop := Claim7.holds Tryd.pinned (.plain (OpenSpec.upto duressSpecSpec)) duressSpecUptoCard

/-- THE SECOND FORM's CARD OF 'signatorylaw47.DuressEitherSpec'. -/
def duressEitherSpecUptoCard : Claim7 := { stood := { row := duressEitherSpecUptoRow, standIns := [], harness := (true, "dbb11fbf9890d568f4124722388ab589a4d09bd4506f302f29b3a7bcfe4dbaea"), looks := false }, kinds := [], alts := [], laidByText := true, laidKinds := [.data, .data], laidTests := true, laidLooks := .later }
def DuressEitherSpecUptoCardSaid : Prop := Claim7.holds Tryd.pinned (.plain (OpenSpec.upto duressEitherSpecSpec)) duressEitherSpecUptoCard

/-- THE SECOND FORM's CARD OF 'signatorylaw47.DuressRead'. -/
def duressReadUptoCard : Claim7 := { stood := { row := duressReadUptoRow, standIns := [], harness := (true, "dbb11fbf9890d568f4124722388ab589a4d09bd4506f302f29b3a7bcfe4dbaea"), looks := false }, kinds := [], alts := [], laidByText := true, laidKinds := [.data, .data], laidTests := true, laidLooks := .later }
def DuressReadUptoCardSaid : Prop := Claim7.holds Tryd.pinned (.plain (OpenSpec.upto duressReadSpec)) duressReadUptoCard
end Rows
end Go.Proofs.YtielloijdkoeiaaDoor
