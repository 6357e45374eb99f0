/- The tied card of the law FnExactExecute is proved: the law's row, and its listed variables tied to the program's text by the given tie. -/
import Derived.Test.YtlgojeodceiglaaGreatDoorLawFnExactExecute
import Derived.Test.YtlgojeodceiglaaGreatDoorTie
import Derived.Test.YtlgojeodceiglaaGreatDoorCards
import Derived.SevenTiedAt
namespace Go.Proofs.YtlgojeodceiglaaGreatDoor
open Go
theorem fnExactExecute_card : Rows.FnExactExecuteCardSaid :=
  Claim7.holds_tied_plain_at .later [] [.data, .data, .data, .data, .pinned] true (true, "97108789c0c0b9f4544406cc1e1d67066847b7658827b974ea282c18da3627b6") false
    fnExactExecute_holds (fun _ h => by cases h) (by kernel_rfl) (fun _ h => by cases h) fnExactExecute_row_tie rfl ⟨rfl, rfl⟩ (by kernel_rfl) rfl
    (fun f fn hf hfn => by
      obtain rfl : f = 6 := Option.some.inj ((show Tryz.prog.funcNamed "loop.example/closingsticks/laws.FnExactExecute" = some 6 by kernel_rfl).symm.trans hf) |>.symm
      obtain rfl : fn = Tryz.f6 := (Option.some.inj (Tryz.func6.symm.trans hfn)).symm
      exact ⟨by kernel_rfl, fun j t ht => by
        rw [Tryz.params6] at ht
        rcases j with _ | j
        · obtain rfl : t = 9 := by simpa using ht.symm
          exact (show Tryz.prog.wantsStandIn 9 = false by kernel_rfl)
        simp at ht⟩)
    (by kernel_rfl)
#print axioms fnExactExecute_card
end Go.Proofs.YtlgojeodceiglaaGreatDoor
