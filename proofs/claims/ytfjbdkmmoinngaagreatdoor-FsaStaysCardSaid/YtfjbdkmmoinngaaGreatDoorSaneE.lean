/- Runs of calls of the chapter's examples, each on the rows that it reads: what they hand back is as their summaries tell. -/
import Derived.Test.YtfjbdkmmoinngaaGreatDoorSaneT
namespace Go.Proofs.YtfjbdkmmoinngaaGreatDoor.Sane
open Go Go.Sim
theorem ok7:s7.OK Tryz.prog:=Sum.ok_of (zxt (zz3:=zz3) (steps:=1000000) follows 20) (by kernel_rfl)
end Go.Proofs.YtfjbdkmmoinngaaGreatDoor.Sane
