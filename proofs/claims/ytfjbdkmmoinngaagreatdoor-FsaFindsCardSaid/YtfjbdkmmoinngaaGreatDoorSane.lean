/- The chapter's examples run to true in every world, and leave what was there as it was. -/
import Derived.Test.YtfjbdkmmoinngaaGreatDoorSaneA
import Derived.Test.YtfjbdkmmoinngaaGreatDoorSaneB
import Derived.Test.YtfjbdkmmoinngaaGreatDoorSaneC
import Derived.Test.YtfjbdkmmoinngaaGreatDoorSaneD
import Derived.Test.YtfjbdkmmoinngaaGreatDoorSaneE
import Derived.Test.YtfjbdkmmoinngaaGreatDoorSaneF
set_option linter.unusedVariables false
set_option linter.unusedSimpArgs false
set_option linter.unusedSectionVars false
namespace Go.Proofs.YtfjbdkmmoinngaaGreatDoor.Sane
open Go Go.Sim Go.RowKit
noncomputable def table:List Sum:=[s1,s2,s3,s4,s5,s6,s7,s8,s9,s10,s11,s12,s13,s14,s15]
theorem calls11 (w:World):Calls Tryz.prog 11 #[] w fun e w'=>e=.returned (.bool true)∧Below w.heap.size w w':=
 calls_true (n:=1000) (callS_ok (plans:=plans) (sum:=sumSub table) (steps:=1000000) follows (sumSub_ok (sums_cons ok1 (sums_cons ok2 (sums_cons ok3 (sums_cons ok4 (sums_cons ok5 (sums_cons ok6 (sums_cons ok7 (sums_cons ok8 (sums_cons ok9 (sums_cons ok10 (sums_cons ok11 (sums_cons ok12 (sums_cons ok13 (sums_cons ok14 (sums_cons ok15 sums_nil)))))))))))))))) 20) rfl (by kernel_rfl) (Nat.zero_le _)
end Go.Proofs.YtfjbdkmmoinngaaGreatDoor.Sane
