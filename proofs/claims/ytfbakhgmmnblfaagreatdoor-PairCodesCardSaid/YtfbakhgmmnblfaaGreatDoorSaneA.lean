/- Runs of calls of the chapter's examples, each on the rows that it reads: what they hand back is as their summaries tell. -/
import Derived.Test.YtfbakhgmmnblfaaGreatDoorSaneT
namespace Go.Proofs.YtfbakhgmmnblfaaGreatDoor.Sane
open Go Go.Sim
theorem ok1 : s1.OK Tryz.prog := Sum.ok_of (callN_ok (plans := plans) (steps := 1000000) follows 20) (by kernel_rfl)
theorem ok2 : s2.OK Tryz.prog := Sum.ok_of (callN_ok (plans := plans) (steps := 1000000) follows 20) (by kernel_rfl)
theorem ok3 : s3.OK Tryz.prog := Sum.ok_of (callN_ok (plans := plans) (steps := 1000000) follows 20) (by kernel_rfl)
theorem ok5 : s5.OK Tryz.prog := Sum.ok_of (callN_ok (plans := plans) (steps := 1000000) follows 20) (by kernel_rfl)
end Go.Proofs.YtfbakhgmmnblfaaGreatDoor.Sane
