/- The tied card of the law FnProofThrees is proved: the law's row, and its listed variables tied to the program's text by the given tie. -/
import Derived.Test.YtlgcjmgfhbdpgaaDoorLawFnProofThrees
import Derived.Test.YtlgcjmgfhbdpgaaDoorTie
import Derived.Test.YtlgcjmgfhbdpgaaDoorCards
import Derived.SevenTiedAt
namespace Go.Proofs.YtlgcjmgfhbdpgaaDoor
open Go
theorem fnProofThrees_card : Rows.FnProofThreesCardSaid :=
  Claim7.holds_tied_plain_at .later [] [.data, .data, .data, .data, .sentinel, .sentinel, .pinned] true (true, "a6c210edf51b8f06a62844ed57154c31231ae0a504c34d39b30a6a1dd33550a6") true
    fnProofThrees_holds (fun _ h => by cases h) (by kernel_rfl) (fun _ h => by cases h) fnProofThrees_row_tie rfl ⟨rfl, rfl⟩ (by kernel_rfl) rfl
    (fun f fn hf hfn => by
      obtain rfl : f = 6 := Option.some.inj ((show Tryd.prog.funcNamed "loop.example/closingsticks/laws.FnProofThrees" = some 6 by kernel_rfl).symm.trans hf) |>.symm
      obtain rfl : fn = Tryd.f6 := (Option.some.inj (Tryd.func6.symm.trans hfn)).symm
      exact ⟨by kernel_rfl, fun j t ht => by
        rw [Tryd.params6] at ht
        rcases j with _ | j
        · obtain rfl : t = 31 := by simpa using ht.symm
          exact (show Tryd.prog.wantsStandIn 31 = false by kernel_rfl)
        simp at ht⟩)
    (by kernel_rfl)
#print axioms fnProofThrees_card
end Go.Proofs.YtlgcjmgfhbdpgaaDoor
