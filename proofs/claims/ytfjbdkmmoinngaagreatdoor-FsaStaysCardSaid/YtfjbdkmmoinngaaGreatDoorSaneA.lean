/- Runs of calls of the chapter's examples, each on the rows that it reads: what they hand back is as their summaries tell. -/
import Derived.Test.YtfjbdkmmoinngaaGreatDoorSaneT
namespace Go.Proofs.YtfjbdkmmoinngaaGreatDoor.Sane
open Go Go.Sim
theorem ok1:s1.OK Tryz.prog:=Sum.ok_of (zxt (zz3:=zz3) (steps:=1000000) follows 20) (by kernel_rfl)
theorem ok9:s9.OK Tryz.prog:=Sum.ok_of (zxt (zz3:=zz3) (steps:=1000000) follows 20) (by kernel_rfl)
theorem xlu:s10.OK Tryz.prog:=Sum.ok_of (zxt (zz3:=zz3) (steps:=1000000) follows 20) (by kernel_rfl)
theorem ok2:s2.OK Tryz.prog:=Sum.ok_of (zxt (zz3:=zz3) (steps:=1000000) follows 20) (by kernel_rfl)
end Go.Proofs.YtfjbdkmmoinngaaGreatDoor.Sane
