/- The tied card of the law FnThreesIs is proved: the law's row, and its listed variables tied to the program's text by the given tie. -/
import Derived.Test.YtlgcjmgfhbdpgaaDoorLawFnThreesIs
import Derived.Test.YtlgcjmgfhbdpgaaDoorTie
import Derived.Test.YtlgcjmgfhbdpgaaDoorCards
import Derived.SevenTiedAt
namespace Go.Proofs.YtlgcjmgfhbdpgaaDoor
open Go
theorem fnThreesIs_card : Rows.FnThreesIsCardSaid :=
  Claim7.holds_tied_plain_at .later [] [.data, .data, .data, .data, .sentinel, .sentinel, .pinned] true (true, "a6c210edf51b8f06a62844ed57154c31231ae0a504c34d39b30a6a1dd33550a6") true
    fnThreesIs_holds (fun _ h => by cases h) (by kernel_rfl) (fun _ h => by cases h) fnThreesIs_row_tie rfl ⟨rfl, rfl⟩ (by kernel_rfl) rfl
    (fun f fn hf hfn => by
      obtain rfl : f = 5 := Option.some.inj ((show Tryd.prog.funcNamed "loop.example/closingsticks/laws.FnThreesIs" = some 5 by kernel_rfl).symm.trans hf) |>.symm
      obtain rfl : fn = Tryd.f5 := (Option.some.inj (Tryd.func5.symm.trans hfn)).symm
      exact ⟨by kernel_rfl, fun j t ht => by
        rw [Tryd.params5] at ht
        rcases j with _ | j
        · obtain rfl : t = 31 := by simpa using ht.symm
          exact (show Tryd.prog.wantsStandIn 31 = false by kernel_rfl)
        simp at ht⟩)
    (by kernel_rfl)
#print axioms fnThreesIs_card
end Go.Proofs.YtlgcjmgfhbdpgaaDoor
