/- The tied card of the law FsaFinds: for every input the law answers true and leaves its arguments as they were; the package's listed variables start as the program's text lays them. -/
import Derived.Test.YtfjbdkmmoinngaaGreatDoorLawFsaFinds
import Derived.Test.YtfjbdkmmoinngaaGreatDoorCards
import Derived.Test.YtfjbdkmmoinngaaGreatDoorTie
import Derived.SevenTiedAt
set_option linter.unusedVariables false
set_option linter.unusedSimpArgs false
set_option linter.unusedSectionVars false
namespace Go.Proofs.YtfjbdkmmoinngaaGreatDoor
open Go
theorem fsaFinds_stands:∀ (j:Nat) (t:TypeId),Tryz.f4.params[j]? =some t→Tryz.prog.wantsStandIn t=false:=by
 have h:Tryz.f4.params.toList.all (fun t=>!(Tryz.prog.wantsStandIn t))=true:=by kernel_rfl
 intro j t ht
 have hm:t∈Tryz.f4.params.toList:=by
  rw [Array.mem_toList_iff]
  exact Array.mem_of_getElem? ht
 simpa using List.all_eq_true.1 h t hm
theorem fsaFinds_card:Rows.FsaFindsCardSaid:=
 Claim7.holds_tied_plain_at .later [] [.data,.data,.data] true (true, "d97bba9321627cc7a12cd98a96640fab296f9aec59078067c092fcbccff9b302") false
  fsaFinds_holds (fun _ h=>by cases h) (by kernel_rfl) (fun _ h=>by cases h) fsaFinds_row_tie rfl ⟨rfl,rfl⟩ (by kernel_rfl) rfl
  (fun f fn hf hfn=>by
   obtain rfl:f=4:=Option.some.inj ((show Tryz.prog.funcNamed "cayley/cayleylaw06.FsaFinds" = some 4 by kernel_rfl).symm.trans hf) |>.symm
   obtain rfl:fn=Tryz.f4:=(Option.some.inj (Tryz.func4.symm.trans hfn)).symm
   exact ⟨by kernel_rfl,fun j t ht=>fsaFinds_stands j t ht⟩)
  (by kernel_rfl)
#print axioms fsaFinds_card
end Go.Proofs.YtfjbdkmmoinngaaGreatDoor
