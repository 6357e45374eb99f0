/- The tied card of the law FnExactProofClose is proved: the law's row, and its listed variables tied to the program's text by the given tie. -/
import Derived.Test.YtciaehggpcaapaaDoorLawFnExactProofClose
import Derived.Test.YtciaehggpcaapaaDoorTie
import Derived.Test.YtciaehggpcaapaaDoorCards
import Derived.SevenTiedAt
namespace Go.Proofs.YtciaehggpcaapaaDoor
open Go
theorem fnExactProofClose_card : Rows.FnExactProofCloseCardSaid :=
  Claim7.holds_tied_plain_at .later [] [.data, .data, .data] true (true, "541f0702befd81f02f1fdbcf5bae03d95e9be1111eb2add8141d97ea68db3e3b") false
    fnExactProofClose_holds (fun _ h => by cases h) (by kernel_rfl) (fun _ h => by cases h) fnExactProofClose_row_tie rfl ⟨rfl, rfl⟩ (by kernel_rfl) rfl
    (fun f fn hf hfn => by
      obtain rfl : f = 3 := Option.some.inj ((show Tryd.prog.funcNamed "loop.example/closingsticks/laws.FnExactProofClose" = some 3 by kernel_rfl).symm.trans hf) |>.symm
      obtain rfl : fn = Tryd.f3 := (Option.some.inj (Tryd.func3.symm.trans hfn)).symm
      exact ⟨by kernel_rfl, fun j t ht => by
        rw [Tryd.params3] at ht
        rcases j with _ | j
        · obtain rfl : t = 22 := by simpa using ht.symm
          exact (show Tryd.prog.wantsStandIn 22 = false by kernel_rfl)
        simp at ht⟩)
    (by kernel_rfl)
#print axioms fnExactProofClose_card
end Go.Proofs.YtciaehggpcaapaaDoor
