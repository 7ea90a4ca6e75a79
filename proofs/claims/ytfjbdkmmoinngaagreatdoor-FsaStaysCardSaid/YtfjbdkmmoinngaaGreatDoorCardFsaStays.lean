/- The tied card of the law FsaStays: for every input the law answers true and leaves its arguments as they were; the package's listed variables start as the program's text lays them. -/
import Derived.Test.YtfjbdkmmoinngaaGreatDoorLawFsaStays
import Derived.Test.YtfjbdkmmoinngaaGreatDoorCards
import Derived.Test.YtfjbdkmmoinngaaGreatDoorTie
import Derived.SevenTiedAt
set_option linter.unusedVariables false
set_option linter.unusedSimpArgs false
set_option linter.unusedSectionVars false
namespace Go.Proofs.YtfjbdkmmoinngaaGreatDoor
open Go
theorem zl0:∀ (j:Nat) (t:TypeId),Tryz.f10.params[j]? =some t->Tryz.prog.wantsStandIn t=false:=by
 have h:Tryz.f10.params.toList.all (λt=>!(Tryz.prog.wantsStandIn t))=true:=by kernel_rfl
 intro j t ht;have hm:t∈Tryz.f10.params.toList:=(by rw [Array.mem_toList_iff];exact Array.mem_of_getElem? ht);simpa using List.all_eq_true.1 h t hm
theorem fsaStays_card:Rows.FsaStaysCardSaid:=
 Claim7.holds_tied_plain_at .later [] [.data,.data,.data] true (true, "d97bba9321627cc7a12cd98a96640fab296f9aec59078067c092fcbccff9b302") false
  fsaStays_holds (λ_ h=>by cases h) (by kernel_rfl) (λ_ h=>by cases h) fsaStays_row_tie rfl ⟨rfl,rfl⟩ (by kernel_rfl) rfl
  (λf fn hf hfn=>by
   obtain rfl:f=10:=Option.some.inj ((show Tryz.prog.funcNamed "cayley/cayleylaw06.FsaStays" = some 10 by kernel_rfl).symm.trans hf) |>.symm
   obtain rfl:fn=Tryz.f10:=(Option.some.inj (Tryz.func10.symm.trans hfn)).symm
   exact ⟨by kernel_rfl,λj t ht=>zl0 j t ht⟩)
  (by kernel_rfl)
#print axioms fsaStays_card
end Go.Proofs.YtfjbdkmmoinngaaGreatDoor
