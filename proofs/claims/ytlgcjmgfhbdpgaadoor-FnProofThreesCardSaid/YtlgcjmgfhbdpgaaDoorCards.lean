/-
  DERIVED. GIVEN WITH THE SEED: THE CARDS: each row of YtlgcjmgfhbdpgaaDoorRows.lean that lists a variable, with what it lists TIED to the program's text (the seventh form; the later family's looks); each row that meets fmt, with fmt's text TOLD by the authors' own Lean function (tested against real Go, not proved from fmt's source: count such statements apart). THE CARD IS WHAT COUNTS. Prove the row's statement (the work); the ties are given (YtlgcjmgfhbdpgaaDoorTie.lean); close each card by the builder's one call (the guide's Derived/Test/ToyasCard.lean, 'card_holds'). Laid BY PROGRAM, IN A SANDBOX (cutbox-door.mjs). By AI agents, Wed Nov 11 2026. No macro, syntax, notation, axiom, sorry.
-/
import Derived.Test.YtlgcjmgfhbdpgaaDoorRows
import GoSem.ClaimSeven
namespace Go.Proofs.YtlgcjmgfhbdpgaaDoor
namespace Rows

/-- THE TIED CARD OF 'laws.FnExactProofThrees'. -/
def fnExactProofThreesCard : Claim7 := { stood := { row := fnExactProofThreesRow, standIns := [], harness := (true, "a6c210edf51b8f06a62844ed57154c31231ae0a504c34d39b30a6a1dd33550a6"), looks := true }, kinds := [], alts := [], laidByText := true, laidKinds := [.data, .data, .data], laidTests := true, laidLooks := .later }
def FnExactProofThreesCardSaid : Prop := Claim7.holds Tryd.pinned (.plain (OpenSpec.ofChange fnExactProofThreesSpec)) fnExactProofThreesCard

/-- THE TIED CARD OF 'laws.FnExactProofThreesIs'. -/
def fnExactProofThreesIsCard : Claim7 := { stood := { row := fnExactProofThreesIsRow, standIns := [], harness := (true, "a6c210edf51b8f06a62844ed57154c31231ae0a504c34d39b30a6a1dd33550a6"), looks := true }, kinds := [], alts := [], laidByText := true, laidKinds := [.data, .data, .data, .data, .sentinel, .sentinel, .pinned], laidTests := true, laidLooks := .later }
def FnExactProofThreesIsCardSaid : Prop := Claim7.holds Tryd.pinned (.plain (OpenSpec.ofChange fnExactProofThreesIsSpec)) fnExactProofThreesIsCard

/-- THE TIED CARD OF 'laws.FnThreesIs'. -/
def fnThreesIsCard : Claim7 := { stood := { row := fnThreesIsRow, standIns := [], harness := (true, "a6c210edf51b8f06a62844ed57154c31231ae0a504c34d39b30a6a1dd33550a6"), looks := true }, kinds := [], alts := [], laidByText := true, laidKinds := [.data, .data, .data, .data, .sentinel, .sentinel, .pinned], laidTests := true, laidLooks := .later }
def FnThreesIsCardSaid : Prop := Claim7.holds Tryd.pinned (.plain (OpenSpec.ofChange fnThreesIsSpec)) fnThreesIsCard

/-- THE TIED CARD OF 'laws.FnProofThrees'. -/
def fnProofThreesCard : Claim7 := { stood := { row := fnProofThreesRow, standIns := [], harness := (true, "a6c210edf51b8f06a62844ed57154c31231ae0a504c34d39b30a6a1dd33550a6"), looks := true }, kinds := [], alts := [], laidByText := true, laidKinds := [.data, .data, .data, .data, .sentinel, .sentinel, .pinned], laidTests := true, laidLooks := .later }
def FnProofThreesCardSaid : Prop := Claim7.holds Tryd.pinned (.plain (OpenSpec.ofChange fnProofThreesSpec)) fnProofThreesCard

/-- THE SECOND FORM's CARD OF 'laws.FnExactProofThrees'. -/
def fnExactProofThreesUptoCard : Claim7 := { stood := { row := fnExactProofThreesUptoRow, standIns := [], harness := (true, "a6c210edf51b8f06a62844ed57154c31231ae0a504c34d39b30a6a1dd33550a6"), looks := true }, kinds := [], alts := [], laidByText := true, laidKinds := [.data, .data, .data], laidTests := true, laidLooks := .later }
def FnExactProofThreesUptoCardSaid : Prop := Claim7.holds Tryd.pinned (.plain (OpenSpec.upto fnExactProofThreesSpec)) fnExactProofThreesUptoCard

/-- THE SECOND FORM's CARD OF 'laws.FnExactProofThreesIs'. -/
def fnExactProofThreesIsUptoCard : Claim7 := { stood := { row := fnExactProofThreesIsUptoRow, standIns := [], harness := (true, "a6c210edf51b8f06a62844ed57154c31231ae0a504c34d39b30a6a1dd33550a6"), looks := true }, kinds := [], alts := [], laidByText := true, laidKinds := [.data, .data, .data, .data, .sentinel, .sentinel, .pinned], laidTests := true, laidLooks := .later }
def FnExactProofThreesIsUptoCardSaid : Prop := Claim7.holds Tryd.pinned (.plain (OpenSpec.upto fnExactProofThreesIsSpec)) fnExactProofThreesIsUptoCard

/-- THE SECOND FORM's CARD OF 'laws.FnThreesIs'. -/
def fnThreesIsUptoCard : Claim7 := { stood := { row := fnThreesIsUptoRow, standIns := [], harness := (true, "a6c210edf51b8f06a62844ed57154c31231ae0a504c34d39b30a6a1dd33550a6"), looks := true }, kinds := [], alts := [], laidByText := true, laidKinds := [.data, .data, .data, .data, .sentinel, .sentinel, .pinned], laidTests := true, laidLooks := .later }
def FnThreesIsUptoCardSaid : Prop := Claim7.holds Tryd.pinned (.plain (OpenSpec.upto fnThreesIsSpec)) fnThreesIsUptoCard

/-- THE SECOND FORM's CARD OF 'laws.FnProofThrees'. -/
def fnProofThreesUptoCard : Claim7 := { stood := { row := fnProofThreesUptoRow, standIns := [], harness := (true, "a6c210edf51b8f06a62844ed57154c31231ae0a504c34d39b30a6a1dd33550a6"), looks := true }, kinds := [], alts := [], laidByText := true, laidKinds := [.data, .data, .data, .data, .sentinel, .sentinel, .pinned], laidTests := true, laidLooks := .later }
def FnProofThreesUptoCardSaid : Prop := Claim7.holds Tryd.pinned (.plain (OpenSpec.upto fnProofThreesSpec)) fnProofThreesUptoCard
end Rows
end Go.Proofs.YtlgcjmgfhbdpgaaDoor
