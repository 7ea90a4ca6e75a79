/- The chapter's examples run to true in every world, and leave what was there as it was. -/
import Derived.Test.YtfjbdkmmoinngaaGreatDoorSaneA
import Derived.Test.YtfjbdkmmoinngaaGreatDoorSaneB
import Derived.Test.YtfjbdkmmoinngaaGreatDoorSaneC
import Derived.Test.YtfjbdkmmoinngaaGreatDoorSaneD
import Derived.Test.YtfjbdkmmoinngaaGreatDoorSaneE
import Derived.Test.YtfjbdkmmoinngaaGreatDoorSaneF
namespace Go.Proofs.YtfjbdkmmoinngaaGreatDoor.Sane
open Go Go.Sim Go.RowKit
noncomputable def xs0:List Sum:=[s1,s2,s3,s4,s5,s6,s7,s8,s9,s10,s11,s12,s13,s14,s15]
theorem calls11 (w:World):Calls Tryz.prog 11 #[] w λe w'=>e=.returned (.bool true)/\Below w.heap.size w w':=
 ysf (n:=1000) (zfw (zz3:=zz3) (sum:=ywo xs0) (steps:=1000000) follows (zcw (zy7 ok1 (zy7 ok2 (zy7 ok3 (zy7 ok4 (zy7 ok5 (zy7 ok6 (zy7 ok7 (zy7 ok8 (zy7 ok9 (zy7 xlu (zy7 xlv (zy7 xlw (zy7 xlx (zy7 xly (zy7 xlz yf6)))))))))))))))) 20) rfl (by kernel_rfl) (Nat.zero_le _)
end Go.Proofs.YtfjbdkmmoinngaaGreatDoor.Sane
