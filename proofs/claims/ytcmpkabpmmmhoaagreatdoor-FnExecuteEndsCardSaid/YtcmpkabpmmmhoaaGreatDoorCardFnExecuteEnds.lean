/- The tied card of the law FnExecuteEnds is proved: the law's row, and its listed variables tied to the program's text by the given tie. -/
import Derived.Test.YtcmpkabpmmmhoaaGreatDoorLawFnExecuteEnds
import Derived.Test.YtcmpkabpmmmhoaaGreatDoorTie
import Derived.Test.YtcmpkabpmmmhoaaGreatDoorCards
import Derived.SevenTiedAt
namespace Go.Proofs.YtcmpkabpmmmhoaaGreatDoor
open Go
theorem fnExecuteEnds_card : Rows.FnExecuteEndsCardSaid :=
  Claim7.holds_tied_plain_at .later [] [.data, .data, .data, .data, .pinned] true (true, "9881d848206e13a54acff1535e6bc12d719ddaf2ee1a71b575362c679f1735c2") false
    fnExecuteEnds_holds (fun _ h => by cases h) (by kernel_rfl) (fun _ h => by cases h) fnExecuteEnds_row_tie rfl ⟨rfl, rfl⟩ (by kernel_rfl) rfl
    (fun f fn hf hfn => by
      obtain rfl : f = 4 := Option.some.inj ((show Tryz.prog.funcNamed "loop.example/closingsticks/laws.FnExecuteEnds" = some 4 by kernel_rfl).symm.trans hf) |>.symm
      obtain rfl : fn = Tryz.f4 := (Option.some.inj (Tryz.func4.symm.trans hfn)).symm
      exact ⟨by kernel_rfl, fun j t ht => by
        rw [Tryz.params4] at ht
        rcases j with _ | j
        · obtain rfl : t = 22 := by simpa using ht.symm
          exact (show Tryz.prog.wantsStandIn 22 = false by kernel_rfl)
        simp at ht⟩)
    (by kernel_rfl)
#print axioms fnExecuteEnds_card
end Go.Proofs.YtcmpkabpmmmhoaaGreatDoor
