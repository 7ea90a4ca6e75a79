/- Facts on types (printed by facts.py). -/
import Derived.Test.YtfjbdkmmoinngaaGreatDoorAnn
set_option linter.unusedVariables false
set_option linter.unusedSimpArgs false
set_option linter.unusedSectionVars false
namespace Go.Dv
open Go Go.Sim Go.Proofs
theorem q_isSrcT_160:isSrcT Tryz.prog 160=true:=by kernel_rfl
theorem q_isSrcT_22:isSrcT Tryz.prog 22=true:=by kernel_rfl
theorem q_isSrcT_23:isSrcT Tryz.prog 23=true:=by kernel_rfl
theorem q_isSrcT_26:isSrcT Tryz.prog 26=true:=by kernel_rfl
theorem q_isSrcT_84:isSrcT Tryz.prog 84=true:=by kernel_rfl
theorem q_sizeT_128:sizeT Tryz.prog 128=some 1:=by kernel_rfl
theorem q_sizeT_129:sizeT Tryz.prog 129=some 1:=by kernel_rfl
theorem q_sizeT_130:sizeT Tryz.prog 130=some 5:=by kernel_rfl
theorem q_sizeT_133:sizeT Tryz.prog 133=some 2:=by kernel_rfl
theorem q_sizeT_22:sizeT Tryz.prog 22=some 1:=by kernel_rfl
theorem q_sizeT_23:sizeT Tryz.prog 23=some 1:=by kernel_rfl
theorem q_sizeT_25:sizeT Tryz.prog 25=some 4:=by kernel_rfl
theorem q_sizeT_26:sizeT Tryz.prog 26=some 1:=by kernel_rfl
theorem q_sizeT_3:sizeT Tryz.prog 3=some 1:=by kernel_rfl
theorem q_sizeT_4:sizeT Tryz.prog 4=some 1:=by kernel_rfl
theorem q_sizeT_75:sizeT Tryz.prog 75=some 7:=by kernel_rfl
theorem q_sizeT_84:sizeT Tryz.prog 84=some 1:=by kernel_rfl
theorem q_sizeT_88:sizeT Tryz.prog 88=some 1:=by kernel_rfl
theorem q_tArr_130:tArr Tryz.prog 130=some (5,(1,129)):=by kernel_rfl
theorem q_tArr_133:tArr Tryz.prog 133=some (2,(1,3)):=by kernel_rfl
theorem q_tArr_160:tArr Tryz.prog 160=none:=by kernel_rfl
theorem q_tArr_22:tArr Tryz.prog 22=none:=by kernel_rfl
theorem q_tArr_23:tArr Tryz.prog 23=none:=by kernel_rfl
theorem q_tArr_26:tArr Tryz.prog 26=none:=by kernel_rfl
theorem q_tArr_65:tArr Tryz.prog 65=none:=by kernel_rfl
theorem q_tArr_84:tArr Tryz.prog 84=none:=by kernel_rfl
theorem q_tBdS_130:tBd Tryz.prog 130=some ([(.f (.raw (.nilFunc))),(.f (.raw (.nilFunc))),(.f (.raw (.nilFunc))),(.f (.raw (.nilFunc))),(.f (.raw (.nilFunc)))],fun i=>some (i*1,1)):=by kernel_rfl
theorem q_tBdS_133:tBd Tryz.prog 133=some ([(.f (.raw (.int (.i64) 0))),(.f (.raw (.int (.i64) 0)))],fun i=>some (i*1,1)):=by kernel_rfl
theorem q_tBd_25:tBd Tryz.prog 25=some ([(.f (.raw (.int (.i64) 0))),(.f (.raw (.int (.i64) 0))),(.f (.raw (.slice none 0 0))),(.f (.raw (.slice none 0 0)))],fun i=>([(0,1),(1,1),(2,1),(3,1)]:List (Nat×Nat))[i]?):=by kernel_rfl
theorem q_tBd_75:tBd Tryz.prog 75=some ([(.f (.raw (.int (.i64) 0))),(.f (.raw (.int (.i64) 0))),(.f (.raw (.slice none 0 0))),(.f (.raw (.slice none 0 0))),(.f (.raw (.slice none 0 0))),(.f (.raw (.slice none 0 0))),(.f (.raw (.bool false)))],fun i=>([(0,4),(4,1),(5,1),(6,1)]:List (Nat×Nat))[i]?):=by kernel_rfl
theorem q_tBd_82:tBd Tryz.prog 82=some ([(.f (.raw (.int (.i64) 0))),(.f (.raw (.slice none 0 0))),(.f (.raw (.slice none 0 0))),(.f (.raw (.slice none 0 0))),(.f (.raw (.slice none 0 0)))],fun i=>([(0,1),(1,1),(2,1),(3,1),(4,1)]:List (Nat×Nat))[i]?):=by kernel_rfl
theorem q_tFld_25_0:tFld Tryz.prog 25 0=some (0,3):=by kernel_rfl
theorem q_tFld_25_1:tFld Tryz.prog 25 1=some (1,3):=by kernel_rfl
theorem q_tFld_25_2:tFld Tryz.prog 25 2=some (2,22):=by kernel_rfl
theorem q_tFld_25_3:tFld Tryz.prog 25 3=some (3,23):=by kernel_rfl
theorem q_tFld_75_0:tFld Tryz.prog 75 0=some (0,25):=by kernel_rfl
theorem q_tFld_75_1:tFld Tryz.prog 75 1=some (4,26):=by kernel_rfl
theorem q_tFld_75_2:tFld Tryz.prog 75 2=some (5,26):=by kernel_rfl
theorem q_tFld_75_3:tFld Tryz.prog 75 3=some (6,4):=by kernel_rfl
theorem q_tFld_82_1:tFld Tryz.prog 82 1=some (1,22):=by kernel_rfl
theorem q_tFld_82_2:tFld Tryz.prog 82 2=some (2,23):=by kernel_rfl
theorem q_tFld_82_3:tFld Tryz.prog 82 3=some (3,26):=by kernel_rfl
theorem q_tFld_82_4:tFld Tryz.prog 82 4=some (4,26):=by kernel_rfl
theorem q_tLd_128:tLd Tryz.prog 128=some none:=by kernel_rfl
theorem q_tLd_129:tLd Tryz.prog 129=some none:=by kernel_rfl
theorem q_tLd_130:tLd Tryz.prog 130=some (some 5):=by kernel_rfl
theorem q_tLd_133:tLd Tryz.prog 133=some (some 2):=by kernel_rfl
theorem q_tLd_22:tLd Tryz.prog 22=some none:=by kernel_rfl
theorem q_tLd_23:tLd Tryz.prog 23=some none:=by kernel_rfl
theorem q_tLd_25:tLd Tryz.prog 25=some (some 4):=by kernel_rfl
theorem q_tLd_26:tLd Tryz.prog 26=some none:=by kernel_rfl
theorem q_tLd_3:tLd Tryz.prog 3=some none:=by kernel_rfl
theorem q_tLd_4:tLd Tryz.prog 4=some none:=by kernel_rfl
theorem q_tLd_75:tLd Tryz.prog 75=some (some 7):=by kernel_rfl
theorem q_tLd_84:tLd Tryz.prog 84=some none:=by kernel_rfl
theorem q_tLd_88:tLd Tryz.prog 88=some none:=by kernel_rfl
theorem q_tLen_160:tLen Tryz.prog 160=some 3:=by kernel_rfl
theorem q_tLen_22:tLen Tryz.prog 22=some 3:=by kernel_rfl
theorem q_tLen_23:tLen Tryz.prog 23=some 3:=by kernel_rfl
theorem q_tLen_26:tLen Tryz.prog 26=some 3:=by kernel_rfl
theorem q_tLen_65:tLen Tryz.prog 65=some 3:=by kernel_rfl
theorem q_tMap_159:tMap Tryz.prog 159=some (133,(some (.int (.i64) 0))):=by kernel_rfl
theorem q_tSl_133:tSl Tryz.prog 133=none:=by kernel_rfl
theorem q_tSl_160:tSl Tryz.prog 160=some ⟨133,2,16,(.agg [(.f (.raw (.int (.i64) 0))),(.f (.raw (.int (.i64) 0)))])⟩:=by kernel_rfl
theorem q_tSl_22:tSl Tryz.prog 22=some ⟨4,1,1,(.f (.raw (.bool false)))⟩:=by kernel_rfl
theorem q_tSl_23:tSl Tryz.prog 23=some ⟨26,1,24,(.f (.raw (.slice none 0 0)))⟩:=by kernel_rfl
theorem q_tSl_26:tSl Tryz.prog 26=some ⟨3,1,8,(.f (.raw (.int (.i64) 0)))⟩:=by kernel_rfl
theorem q_tSl_65:tSl Tryz.prog 65=some ⟨25,4,64,(.agg [(.f (.raw (.int (.i64) 0))),(.f (.raw (.int (.i64) 0))),(.f (.raw (.slice none 0 0))),(.f (.raw (.slice none 0 0)))])⟩:=by kernel_rfl
theorem q_tSl_84:tSl Tryz.prog 84=some ⟨22,1,24,(.f (.raw (.slice none 0 0)))⟩:=by kernel_rfl
theorem q_zeroT_128:zeroT Tryz.prog 128=some (.nilFunc):=by kernel_rfl
theorem q_zeroT_129:zeroT Tryz.prog 129=some (.nilFunc):=by kernel_rfl
theorem q_zeroT_130:zeroT Tryz.prog 130=some (.agg ⟨[(.nilFunc),(.nilFunc),(.nilFunc),(.nilFunc),(.nilFunc)]⟩):=by kernel_rfl
theorem q_zeroT_133:zeroT Tryz.prog 133=some (.agg ⟨[(.int (.i64) 0),(.int (.i64) 0)]⟩):=by kernel_rfl
theorem q_zeroT_23:zeroT Tryz.prog 23=some (.slice none 0 0):=by kernel_rfl
theorem q_zeroT_25:zeroT Tryz.prog 25=some (.agg ⟨[(.int (.i64) 0),(.int (.i64) 0),(.slice none 0 0),(.slice none 0 0)]⟩):=by kernel_rfl
theorem q_zeroT_3:zeroT Tryz.prog 3=some (.int (.i64) 0):=by kernel_rfl
theorem q_zeroT_75:zeroT Tryz.prog 75=some (.agg ⟨[(.int (.i64) 0),(.int (.i64) 0),(.slice none 0 0),(.slice none 0 0),(.slice none 0 0),(.slice none 0 0),(.bool false)]⟩):=by kernel_rfl
theorem q_zeroT_84:zeroT Tryz.prog 84=some (.slice none 0 0):=by kernel_rfl
theorem q_zeroT_88:zeroT Tryz.prog 88=some (.nilFunc):=by kernel_rfl
attribute [simp] Q_P q_isSrcT_160 q_isSrcT_22 q_isSrcT_23 q_isSrcT_26 q_isSrcT_84 q_sizeT_128 q_sizeT_129 q_sizeT_130 q_sizeT_133 q_sizeT_22 q_sizeT_23 q_sizeT_25 q_sizeT_26 q_sizeT_3 q_sizeT_4 q_sizeT_75 q_sizeT_84 q_sizeT_88 q_tArr_130 q_tArr_133 q_tArr_160 q_tArr_22 q_tArr_23 q_tArr_26 q_tArr_65 q_tArr_84 q_tBdS_130 q_tBdS_133 q_tBd_25 q_tBd_75 q_tBd_82 q_tFld_25_0 q_tFld_25_1 q_tFld_25_2 q_tFld_25_3 q_tFld_75_0 q_tFld_75_1 q_tFld_75_2 q_tFld_75_3 q_tFld_82_1 q_tFld_82_2 q_tFld_82_3 q_tFld_82_4 q_tLd_128 q_tLd_129 q_tLd_130 q_tLd_133 q_tLd_22 q_tLd_23 q_tLd_25 q_tLd_26 q_tLd_3 q_tLd_4 q_tLd_75 q_tLd_84 q_tLd_88 q_tLen_160 q_tLen_22 q_tLen_23 q_tLen_26 q_tLen_65 q_tMap_159 q_tSl_133 q_tSl_160 q_tSl_22 q_tSl_23 q_tSl_26 q_tSl_65 q_tSl_84 q_zeroT_128 q_zeroT_129 q_zeroT_130 q_zeroT_133 q_zeroT_23 q_zeroT_25 q_zeroT_3 q_zeroT_75 q_zeroT_84 q_zeroT_88 Int.ofNat_inj Int.ofNat_lt Int.ofNat_le
end Go.Dv
