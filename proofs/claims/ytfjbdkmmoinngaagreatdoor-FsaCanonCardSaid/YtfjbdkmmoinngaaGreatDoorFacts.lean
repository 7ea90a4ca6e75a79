/- Facts on types (printed by facts.py). -/
import Derived.Test.YtfjbdkmmoinngaaGreatDoorAnn
set_option linter.unusedVariables false
set_option linter.unusedSimpArgs false
set_option linter.unusedSectionVars false
namespace Go.Dv
open Go Go.Sim Go.Proofs
theorem q_isSrcT_155:isSrcT Tryz.prog 155=true:=by kernel_rfl
theorem q_isSrcT_160:isSrcT Tryz.prog 160=true:=by kernel_rfl
theorem q_isSrcT_22:isSrcT Tryz.prog 22=true:=by kernel_rfl
theorem q_isSrcT_23:isSrcT Tryz.prog 23=true:=by kernel_rfl
theorem q_isSrcT_26:isSrcT Tryz.prog 26=true:=by kernel_rfl
theorem q_isSrcT_9:isSrcT Tryz.prog 9=true:=by kernel_rfl
theorem q_sizeT_128:sizeT Tryz.prog 128=some 1:=by kernel_rfl
theorem q_sizeT_129:sizeT Tryz.prog 129=some 1:=by kernel_rfl
theorem q_sizeT_130:sizeT Tryz.prog 130=some 5:=by kernel_rfl
theorem q_sizeT_133:sizeT Tryz.prog 133=some 2:=by kernel_rfl
theorem q_sizeT_153:sizeT Tryz.prog 153=some 2:=by kernel_rfl
theorem q_sizeT_158:sizeT Tryz.prog 158=some 1:=by kernel_rfl
theorem q_sizeT_22:sizeT Tryz.prog 22=some 1:=by kernel_rfl
theorem q_sizeT_23:sizeT Tryz.prog 23=some 1:=by kernel_rfl
theorem q_sizeT_25:sizeT Tryz.prog 25=some 4:=by kernel_rfl
theorem q_sizeT_26:sizeT Tryz.prog 26=some 1:=by kernel_rfl
theorem q_sizeT_3:sizeT Tryz.prog 3=some 1:=by kernel_rfl
theorem q_sizeT_4:sizeT Tryz.prog 4=some 1:=by kernel_rfl
theorem q_sizeT_5:sizeT Tryz.prog 5=some 1:=by kernel_rfl
theorem q_tArr_130:tArr Tryz.prog 130=some (5,(1,129)):=by kernel_rfl
theorem q_tArr_133:tArr Tryz.prog 133=some (2,(1,3)):=by kernel_rfl
theorem q_tArr_160:tArr Tryz.prog 160=none:=by kernel_rfl
theorem q_tArr_197:tArr Tryz.prog 197=some (65,(1,5)):=by kernel_rfl
theorem q_tArr_22:tArr Tryz.prog 22=none:=by kernel_rfl
theorem q_tArr_23:tArr Tryz.prog 23=none:=by kernel_rfl
theorem q_tArr_26:tArr Tryz.prog 26=none:=by kernel_rfl
theorem q_tArr_65:tArr Tryz.prog 65=none:=by kernel_rfl
theorem q_tArr_9:tArr Tryz.prog 9=none:=by kernel_rfl
theorem q_tBdS_130:tBd Tryz.prog 130=some ([(.f (.raw (.nilFunc))),(.f (.raw (.nilFunc))),(.f (.raw (.nilFunc))),(.f (.raw (.nilFunc))),(.f (.raw (.nilFunc)))],fun i=>some (i*1,1)):=by kernel_rfl
theorem q_tBdS_133:tBd Tryz.prog 133=some ([(.f (.raw (.int (.i64) 0))),(.f (.raw (.int (.i64) 0)))],fun i=>some (i*1,1)):=by kernel_rfl
theorem q_tBdS_153:tBd Tryz.prog 153=some ([(.f (.raw (.bool false))),(.f (.raw (.bool false)))],fun i=>some (i*1,1)):=by kernel_rfl
theorem q_tBd_25:tBd Tryz.prog 25=some ([(.f (.raw (.int (.i64) 0))),(.f (.raw (.int (.i64) 0))),(.f (.raw (.slice none 0 0))),(.f (.raw (.slice none 0 0)))],fun i=>([(0,1),(1,1),(2,1),(3,1)]:List (Nat×Nat))[i]?):=by kernel_rfl
theorem q_tBd_82:tBd Tryz.prog 82=some ([(.f (.raw (.int (.i64) 0))),(.f (.raw (.slice none 0 0))),(.f (.raw (.slice none 0 0))),(.f (.raw (.slice none 0 0))),(.f (.raw (.slice none 0 0)))],fun i=>([(0,1),(1,1),(2,1),(3,1),(4,1)]:List (Nat×Nat))[i]?):=by kernel_rfl
theorem q_tFld_25_0:tFld Tryz.prog 25 0=some (0,3):=by kernel_rfl
theorem q_tFld_25_1:tFld Tryz.prog 25 1=some (1,3):=by kernel_rfl
theorem q_tFld_25_2:tFld Tryz.prog 25 2=some (2,22):=by kernel_rfl
theorem q_tFld_25_3:tFld Tryz.prog 25 3=some (3,23):=by kernel_rfl
theorem q_tFld_82_0:tFld Tryz.prog 82 0=some (0,3):=by kernel_rfl
theorem q_tFld_82_1:tFld Tryz.prog 82 1=some (1,22):=by kernel_rfl
theorem q_tFld_82_2:tFld Tryz.prog 82 2=some (2,23):=by kernel_rfl
theorem q_tFld_82_3:tFld Tryz.prog 82 3=some (3,26):=by kernel_rfl
theorem q_tFld_82_4:tFld Tryz.prog 82 4=some (4,26):=by kernel_rfl
theorem q_tLd_128:tLd Tryz.prog 128=some none:=by kernel_rfl
theorem q_tLd_129:tLd Tryz.prog 129=some none:=by kernel_rfl
theorem q_tLd_130:tLd Tryz.prog 130=some (some 5):=by kernel_rfl
theorem q_tLd_133:tLd Tryz.prog 133=some (some 2):=by kernel_rfl
theorem q_tLd_153:tLd Tryz.prog 153=some (some 2):=by kernel_rfl
theorem q_tLd_158:tLd Tryz.prog 158=some none:=by kernel_rfl
theorem q_tLd_22:tLd Tryz.prog 22=some none:=by kernel_rfl
theorem q_tLd_23:tLd Tryz.prog 23=some none:=by kernel_rfl
theorem q_tLd_25:tLd Tryz.prog 25=some (some 4):=by kernel_rfl
theorem q_tLd_26:tLd Tryz.prog 26=some none:=by kernel_rfl
theorem q_tLd_3:tLd Tryz.prog 3=some none:=by kernel_rfl
theorem q_tLd_4:tLd Tryz.prog 4=some none:=by kernel_rfl
theorem q_tLd_70:tLd Tryz.prog 70=some none:=by kernel_rfl
theorem q_tLen_144:tLen Tryz.prog 144=some 1:=by kernel_rfl
theorem q_tLen_160:tLen Tryz.prog 160=some 3:=by kernel_rfl
theorem q_tLen_166:tLen Tryz.prog 166=some 1:=by kernel_rfl
theorem q_tLen_22:tLen Tryz.prog 22=some 3:=by kernel_rfl
theorem q_tLen_23:tLen Tryz.prog 23=some 3:=by kernel_rfl
theorem q_tLen_26:tLen Tryz.prog 26=some 3:=by kernel_rfl
theorem q_tLen_65:tLen Tryz.prog 65=some 3:=by kernel_rfl
theorem q_tMap_144:tMap Tryz.prog 144=some (9,(some (.int (.i64) 0))):=by kernel_rfl
theorem q_tMap_158:tMap Tryz.prog 158=some (3,(some (.int (.i64) 0))):=by kernel_rfl
theorem q_tMap_159:tMap Tryz.prog 159=some (133,(some (.int (.i64) 0))):=by kernel_rfl
theorem q_tMap_166:tMap Tryz.prog 166=some (153,(some (.int (.i64) 0))):=by kernel_rfl
theorem q_tSl_133:tSl Tryz.prog 133=none:=by kernel_rfl
theorem q_tSl_155:tSl Tryz.prog 155=some ⟨5,1,1,(.f (.raw (.int (.u8) 0)))⟩:=by kernel_rfl
theorem q_tSl_160:tSl Tryz.prog 160=some ⟨133,2,16,(.agg [(.f (.raw (.int (.i64) 0))),(.f (.raw (.int (.i64) 0)))])⟩:=by kernel_rfl
theorem q_tSl_187:tSl Tryz.prog 187=none:=by kernel_rfl
theorem q_tSl_197:tSl Tryz.prog 197=none:=by kernel_rfl
theorem q_tSl_22:tSl Tryz.prog 22=some ⟨4,1,1,(.f (.raw (.bool false)))⟩:=by kernel_rfl
theorem q_tSl_23:tSl Tryz.prog 23=some ⟨26,1,24,(.f (.raw (.slice none 0 0)))⟩:=by kernel_rfl
theorem q_tSl_26:tSl Tryz.prog 26=some ⟨3,1,8,(.f (.raw (.int (.i64) 0)))⟩:=by kernel_rfl
theorem q_tSl_65:tSl Tryz.prog 65=some ⟨25,4,64,(.agg [(.f (.raw (.int (.i64) 0))),(.f (.raw (.int (.i64) 0))),(.f (.raw (.slice none 0 0))),(.f (.raw (.slice none 0 0)))])⟩:=by kernel_rfl
theorem q_tStr_155_9:tStr Tryz.prog 155 9=true:=by kernel_rfl
theorem q_tStr_178_3:tStr Tryz.prog 178 3=false:=by kernel_rfl
theorem q_tStr_2_178:tStr Tryz.prog 2 178=false:=by kernel_rfl
theorem q_tStr_3_147:tStr Tryz.prog 3 147=false:=by kernel_rfl
theorem q_tStr_3_178:tStr Tryz.prog 3 178=false:=by kernel_rfl
theorem q_zeroT_128:zeroT Tryz.prog 128=some (.nilFunc):=by kernel_rfl
theorem q_zeroT_129:zeroT Tryz.prog 129=some (.nilFunc):=by kernel_rfl
theorem q_zeroT_130:zeroT Tryz.prog 130=some (.agg ⟨[(.nilFunc),(.nilFunc),(.nilFunc),(.nilFunc),(.nilFunc)]⟩):=by kernel_rfl
theorem q_zeroT_133:zeroT Tryz.prog 133=some (.agg ⟨[(.int (.i64) 0),(.int (.i64) 0)]⟩):=by kernel_rfl
theorem q_zeroT_153:zeroT Tryz.prog 153=some (.agg ⟨[(.bool false),(.bool false)]⟩):=by kernel_rfl
theorem q_zeroT_158:zeroT Tryz.prog 158=some (.map none):=by kernel_rfl
theorem q_zeroT_187:zeroT Tryz.prog 187=some (.agg ⟨[(.int (.u8) 0),(.int (.u8) 0),(.int (.u8) 0),(.int (.u8) 0),(.int (.u8) 0),(.int (.u8) 0),(.int (.u8) 0),(.int (.u8) 0),(.int (.u8) 0),(.int (.u8) 0),(.int (.u8) 0),(.int (.u8) 0),(.int (.u8) 0),(.int (.u8) 0),(.int (.u8) 0),(.int (.u8) 0),(.int (.u8) 0),(.int (.u8) 0),(.int (.u8) 0),(.int (.u8) 0),(.int (.u8) 0),(.int (.u8) 0),(.int (.u8) 0),(.int (.u8) 0)]⟩):=by kernel_rfl
theorem q_zeroT_197:zeroT Tryz.prog 197=some (.agg ⟨[(.int (.u8) 0),(.int (.u8) 0),(.int (.u8) 0),(.int (.u8) 0),(.int (.u8) 0),(.int (.u8) 0),(.int (.u8) 0),(.int (.u8) 0),(.int (.u8) 0),(.int (.u8) 0),(.int (.u8) 0),(.int (.u8) 0),(.int (.u8) 0),(.int (.u8) 0),(.int (.u8) 0),(.int (.u8) 0),(.int (.u8) 0),(.int (.u8) 0),(.int (.u8) 0),(.int (.u8) 0),(.int (.u8) 0),(.int (.u8) 0),(.int (.u8) 0),(.int (.u8) 0),(.int (.u8) 0),(.int (.u8) 0),(.int (.u8) 0),(.int (.u8) 0),(.int (.u8) 0),(.int (.u8) 0),(.int (.u8) 0),(.int (.u8) 0),(.int (.u8) 0),(.int (.u8) 0),(.int (.u8) 0),(.int (.u8) 0),(.int (.u8) 0),(.int (.u8) 0),(.int (.u8) 0),(.int (.u8) 0),(.int (.u8) 0),(.int (.u8) 0),(.int (.u8) 0),(.int (.u8) 0),(.int (.u8) 0),(.int (.u8) 0),(.int (.u8) 0),(.int (.u8) 0),(.int (.u8) 0),(.int (.u8) 0),(.int (.u8) 0),(.int (.u8) 0),(.int (.u8) 0),(.int (.u8) 0),(.int (.u8) 0),(.int (.u8) 0),(.int (.u8) 0),(.int (.u8) 0),(.int (.u8) 0),(.int (.u8) 0),(.int (.u8) 0),(.int (.u8) 0),(.int (.u8) 0),(.int (.u8) 0),(.int (.u8) 0)]⟩):=by kernel_rfl
theorem q_zeroT_22:zeroT Tryz.prog 22=some (.slice none 0 0):=by kernel_rfl
theorem q_zeroT_25:zeroT Tryz.prog 25=some (.agg ⟨[(.int (.i64) 0),(.int (.i64) 0),(.slice none 0 0),(.slice none 0 0)]⟩):=by kernel_rfl
theorem q_zeroT_26:zeroT Tryz.prog 26=some (.slice none 0 0):=by kernel_rfl
attribute [simp] Q_P q_isSrcT_155 q_isSrcT_160 q_isSrcT_22 q_isSrcT_23 q_isSrcT_26 q_isSrcT_9 q_sizeT_128 q_sizeT_129 q_sizeT_130 q_sizeT_133 q_sizeT_153 q_sizeT_158 q_sizeT_22 q_sizeT_23 q_sizeT_25 q_sizeT_26 q_sizeT_3 q_sizeT_4 q_sizeT_5 q_tArr_130 q_tArr_133 q_tArr_160 q_tArr_197 q_tArr_22 q_tArr_23 q_tArr_26 q_tArr_65 q_tArr_9 q_tBdS_130 q_tBdS_133 q_tBdS_153 q_tBd_25 q_tBd_82 q_tFld_25_0 q_tFld_25_1 q_tFld_25_2 q_tFld_25_3 q_tFld_82_0 q_tFld_82_1 q_tFld_82_2 q_tFld_82_3 q_tFld_82_4 q_tLd_128 q_tLd_129 q_tLd_130 q_tLd_133 q_tLd_153 q_tLd_158 q_tLd_22 q_tLd_23 q_tLd_25 q_tLd_26 q_tLd_3 q_tLd_4 q_tLd_70 q_tLen_144 q_tLen_160 q_tLen_166 q_tLen_22 q_tLen_23 q_tLen_26 q_tLen_65 q_tMap_144 q_tMap_158 q_tMap_159 q_tMap_166 q_tSl_133 q_tSl_155 q_tSl_160 q_tSl_187 q_tSl_197 q_tSl_22 q_tSl_23 q_tSl_26 q_tSl_65 q_tStr_155_9 q_tStr_178_3 q_tStr_2_178 q_tStr_3_147 q_tStr_3_178 q_zeroT_128 q_zeroT_129 q_zeroT_130 q_zeroT_133 q_zeroT_153 q_zeroT_158 q_zeroT_187 q_zeroT_197 q_zeroT_22 q_zeroT_25 q_zeroT_26 Int.ofNat_inj Int.ofNat_lt Int.ofNat_le
end Go.Dv
