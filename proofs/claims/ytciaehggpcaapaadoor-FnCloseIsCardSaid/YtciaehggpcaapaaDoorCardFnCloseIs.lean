/- The tied card of the law FnCloseIs is proved: the law's row, and its listed variables tied to the program's text by the given tie. -/
import Derived.Test.YtciaehggpcaapaaDoorLawFnCloseIs
import Derived.Test.YtciaehggpcaapaaDoorTie
import Derived.Test.YtciaehggpcaapaaDoorCards
import Derived.SevenTiedAt
namespace Go.Proofs.YtciaehggpcaapaaDoor
open Go
theorem fnCloseIs_card : Rows.FnCloseIsCardSaid :=
  Claim7.holds_tied_plain_at .later [] [.data, .data, .data] true (true, "541f0702befd81f02f1fdbcf5bae03d95e9be1111eb2add8141d97ea68db3e3b") false
    fnCloseIs_holds (fun _ h => by cases h) (by kernel_rfl) (fun _ h => by cases h) fnCloseIs_row_tie rfl ⟨rfl, rfl⟩ (by kernel_rfl) rfl
    (fun f fn hf hfn => by
      obtain rfl : f = 6 := Option.some.inj ((show Tryd.prog.funcNamed "loop.example/closingsticks/laws.FnCloseIs" = some 6 by kernel_rfl).symm.trans hf) |>.symm
      obtain rfl : fn = Tryd.f6 := (Option.some.inj (Tryd.func6.symm.trans hfn)).symm
      exact ⟨by kernel_rfl, fun j t ht => by
        rw [Tryd.params6] at ht
        rcases j with _ | j
        · obtain rfl : t = 31 := by simpa using ht.symm
          exact (show Tryd.prog.wantsStandIn 31 = false by kernel_rfl)
        simp at ht⟩)
    (by kernel_rfl)
#print axioms fnCloseIs_card
end Go.Proofs.YtciaehggpcaapaaDoor
