/- The tied card of the law FnExecuteWhat is proved: the law's row, and its listed variables tied to the program's text by the given tie. -/
import Derived.Test.YtlgojeodceiglaaGreatDoorLawFnExecuteWhat
import Derived.Test.YtlgojeodceiglaaGreatDoorTie
import Derived.Test.YtlgojeodceiglaaGreatDoorCards
import Derived.SevenTiedAt
namespace Go.Proofs.YtlgojeodceiglaaGreatDoor
open Go
theorem fnExecuteWhat_card : Rows.FnExecuteWhatCardSaid :=
  Claim7.holds_tied_plain_at .later [] [.data, .data, .data, .data, .pinned] true (true, "97108789c0c0b9f4544406cc1e1d67066847b7658827b974ea282c18da3627b6") false
    fnExecuteWhat_holds (fun _ h => by cases h) (by kernel_rfl) (fun _ h => by cases h) fnExecuteWhat_row_tie rfl ⟨rfl, rfl⟩ (by kernel_rfl) rfl
    (fun f fn hf hfn => by
      obtain rfl : f = 5 := Option.some.inj ((show Tryz.prog.funcNamed "loop.example/closingsticks/laws.FnExecuteWhat" = some 5 by kernel_rfl).symm.trans hf) |>.symm
      obtain rfl : fn = Tryz.f5 := (Option.some.inj (Tryz.func5.symm.trans hfn)).symm
      exact ⟨by kernel_rfl, fun j t ht => by
        rw [Tryz.params5] at ht
        rcases j with _ | j
        · obtain rfl : t = 22 := by simpa using ht.symm
          exact (show Tryz.prog.wantsStandIn 22 = false by kernel_rfl)
        simp at ht⟩)
    (by kernel_rfl)
#print axioms fnExecuteWhat_card
end Go.Proofs.YtlgojeodceiglaaGreatDoor
