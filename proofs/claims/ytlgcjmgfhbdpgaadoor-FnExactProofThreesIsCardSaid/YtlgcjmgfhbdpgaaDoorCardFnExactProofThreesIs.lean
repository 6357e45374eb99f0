/- The tied card of the law FnExactProofThreesIs is proved: the law's row, and its listed variables tied to the program's text by the given tie. -/
import Derived.Test.YtlgcjmgfhbdpgaaDoorLawFnExactProofThreesIs
import Derived.Test.YtlgcjmgfhbdpgaaDoorTie
import Derived.Test.YtlgcjmgfhbdpgaaDoorCards
import Derived.SevenTiedAt
namespace Go.Proofs.YtlgcjmgfhbdpgaaDoor
open Go
theorem fnExactProofThreesIs_card : Rows.FnExactProofThreesIsCardSaid :=
  Claim7.holds_tied_plain_at .later [] [.data, .data, .data, .data, .sentinel, .sentinel, .pinned] true (true, "a6c210edf51b8f06a62844ed57154c31231ae0a504c34d39b30a6a1dd33550a6") true
    fnExactProofThreesIs_holds (fun _ h => by cases h) (by kernel_rfl) (fun _ h => by cases h) fnExactProofThreesIs_row_tie rfl ⟨rfl, rfl⟩ (by kernel_rfl) rfl
    (fun f fn hf hfn => by
      obtain rfl : f = 4 := Option.some.inj ((show Tryd.prog.funcNamed "loop.example/closingsticks/laws.FnExactProofThreesIs" = some 4 by kernel_rfl).symm.trans hf) |>.symm
      obtain rfl : fn = Tryd.f4 := (Option.some.inj (Tryd.func4.symm.trans hfn)).symm
      exact ⟨by kernel_rfl, fun j t ht => by
        rw [Tryd.params4] at ht
        rcases j with _ | j
        · obtain rfl : t = 22 := by simpa using ht.symm
          exact (show Tryd.prog.wantsStandIn 22 = false by kernel_rfl)
        rcases j with _ | j
        · obtain rfl : t = 9 := by simpa using ht.symm
          exact (show Tryd.prog.wantsStandIn 9 = false by kernel_rfl)
        simp at ht⟩)
    (by kernel_rfl)
#print axioms fnExactProofThreesIs_card
end Go.Proofs.YtlgcjmgfhbdpgaaDoor
