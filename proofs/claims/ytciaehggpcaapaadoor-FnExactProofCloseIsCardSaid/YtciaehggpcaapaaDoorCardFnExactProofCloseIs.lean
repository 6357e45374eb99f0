/- The tied card of the law FnExactProofCloseIs is proved: the law's row, and its listed variables tied to the program's text by the given tie. -/
import Derived.Test.YtciaehggpcaapaaDoorLawFnExactProofCloseIs
import Derived.Test.YtciaehggpcaapaaDoorTie
import Derived.Test.YtciaehggpcaapaaDoorCards
import Derived.SevenTiedAt
namespace Go.Proofs.YtciaehggpcaapaaDoor
open Go
theorem fnExactProofCloseIs_card : Rows.FnExactProofCloseIsCardSaid :=
  Claim7.holds_tied_plain_at .later [] [.data, .data, .data] true (true, "541f0702befd81f02f1fdbcf5bae03d95e9be1111eb2add8141d97ea68db3e3b") false
    fnExactProofCloseIs_holds (fun _ h => by cases h) (by kernel_rfl) (fun _ h => by cases h) fnExactProofCloseIs_row_tie rfl ⟨rfl, rfl⟩ (by kernel_rfl) rfl
    (fun f fn hf hfn => by
      obtain rfl : f = 4 := Option.some.inj ((show Tryd.prog.funcNamed "loop.example/closingsticks/laws.FnExactProofCloseIs" = some 4 by kernel_rfl).symm.trans hf) |>.symm
      obtain rfl : fn = Tryd.f4 := (Option.some.inj (Tryd.func4.symm.trans hfn)).symm
      exact ⟨by kernel_rfl, fun j t ht => by
        rw [Tryd.params4] at ht
        rcases j with _ | j
        · obtain rfl : t = 22 := by simpa using ht.symm
          exact (show Tryd.prog.wantsStandIn 22 = false by kernel_rfl)
        rcases j with _ | j
        · obtain rfl : t = 9 := by simpa using ht.symm
          exact (show Tryd.prog.wantsStandIn 9 = false by kernel_rfl)
        simp at ht⟩)
    (by kernel_rfl)
#print axioms fnExactProofCloseIs_card
end Go.Proofs.YtciaehggpcaapaaDoor
