/- The tied card of the law FnExecuteTwice is proved: the law's row, and its listed variables tied to the program's text by the given tie. -/
import Derived.Test.YtlgojeodceiglaaGreatDoorLawFnExecuteTwice
import Derived.Test.YtlgojeodceiglaaGreatDoorTie
import Derived.Test.YtlgojeodceiglaaGreatDoorCards
import Derived.SevenTiedAt
namespace Go.Proofs.YtlgojeodceiglaaGreatDoor
open Go
theorem fnExecuteTwice_card : Rows.FnExecuteTwiceCardSaid :=
  Claim7.holds_tied_plain_at .later [] [.data, .data, .data, .data, .pinned] true (true, "97108789c0c0b9f4544406cc1e1d67066847b7658827b974ea282c18da3627b6") false
    fnExecuteTwice_holds (fun _ h => by cases h) (by kernel_rfl) (fun _ h => by cases h) fnExecuteTwice_row_tie rfl ⟨rfl, rfl⟩ (by kernel_rfl) rfl
    (fun f fn hf hfn => by
      obtain rfl : f = 4 := Option.some.inj ((show Tryz.prog.funcNamed "loop.example/closingsticks/laws.FnExecuteTwice" = some 4 by kernel_rfl).symm.trans hf) |>.symm
      obtain rfl : fn = Tryz.f4 := (Option.some.inj (Tryz.func4.symm.trans hfn)).symm
      exact ⟨by kernel_rfl, fun j t ht => by
        rw [Tryz.params4] at ht
        rcases j with _ | j
        · obtain rfl : t = 22 := by simpa using ht.symm
          exact (show Tryz.prog.wantsStandIn 22 = false by kernel_rfl)
        simp at ht⟩)
    (by kernel_rfl)
#print axioms fnExecuteTwice_card
end Go.Proofs.YtlgojeodceiglaaGreatDoor
