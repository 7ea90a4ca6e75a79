/- The tied card of the law PairCodes: for every input the law answers true and leaves its arguments as they were; the package's listed variables start as the program's text lays them. -/
import Derived.Test.YtfbakhgmmnblfaaGreatDoorLawPairCodes
import Derived.Test.YtfbakhgmmnblfaaGreatDoorCards
import Derived.Test.YtfbakhgmmnblfaaGreatDoorTie
import Derived.SevenTiedAt
namespace Go.Proofs.YtfbakhgmmnblfaaGreatDoor
open Go
theorem pairCodes_stands : ∀ (j : Nat) (t : TypeId), Tryz.f3.params[j]? = some t → Tryz.prog.wantsStandIn t = false := by
  have h : Tryz.f3.params.toList.all (fun t => !(Tryz.prog.wantsStandIn t)) = true := by kernel_rfl
  intro j t ht
  have hm : t ∈ Tryz.f3.params.toList := by
    rw [Array.mem_toList_iff]
    exact Array.mem_of_getElem? ht
  simpa using List.all_eq_true.1 h t hm
theorem pairCodes_card : Rows.PairCodesCardSaid :=
  Claim7.holds_tied_plain_at .later [] [.data, .data, .data] true (true, "d322271ed4fccee729fbffaf7ca3a647d688901f7ea3f9437d76fe8ee68b198e") true
    pairCodes_holds (fun _ h => by cases h) (by kernel_rfl) (fun _ h => by cases h) pairCodes_row_tie rfl ⟨rfl, rfl⟩ (by kernel_rfl) rfl
    (fun f fn hf hfn => by
      obtain rfl : f = 3 := Option.some.inj ((show Tryz.prog.funcNamed "cayley/cayleylaw08.PairCodes" = some 3 by kernel_rfl).symm.trans hf) |>.symm
      obtain rfl : fn = Tryz.f3 := (Option.some.inj (Tryz.func3.symm.trans hfn)).symm
      exact ⟨by kernel_rfl, fun j t ht => pairCodes_stands j t ht⟩)
    (by kernel_rfl)
#print axioms pairCodes_card
end Go.Proofs.YtfbakhgmmnblfaaGreatDoor
