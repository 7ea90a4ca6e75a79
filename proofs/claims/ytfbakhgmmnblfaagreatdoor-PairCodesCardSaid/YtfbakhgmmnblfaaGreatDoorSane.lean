/- The chapter's examples run to true in every world, and leave what was there as it was. -/
import Derived.Test.YtfbakhgmmnblfaaGreatDoorSaneA
import Derived.Test.YtfbakhgmmnblfaaGreatDoorSaneB
import Derived.Test.YtfbakhgmmnblfaaGreatDoorSaneC
import Derived.Test.YtfbakhgmmnblfaaGreatDoorSaneD
namespace Go.Proofs.YtfbakhgmmnblfaaGreatDoor.Sane
open Go Go.Sim Go.RowKit
noncomputable def table : List Sum := [s1, s2, s3, s4, s5, s6, s7]
theorem calls16 (w : World) : Calls Tryz.prog 16 #[] w fun e w' => e = .returned (.bool true) ∧ Below w.heap.size w w' :=
  calls_true (n := 1000) (callS_ok (plans := plans) (sum := sumSub table) (steps := 1000000) follows (sumSub_ok (sums_cons ok1 (sums_cons ok2 (sums_cons ok3 (sums_cons ok4 (sums_cons ok5 (sums_cons ok6 (sums_cons ok7 sums_nil)))))))) 20) rfl (by kernel_rfl) (Nat.zero_le _)
end Go.Proofs.YtfbakhgmmnblfaaGreatDoor.Sane
