/- The annotations of the functions (printed by ann.py). -/
import Derived.Test.YtfjbdkmmoinngaaGreatDoorDvB
import Derived.Test.YtfjbdkmmoinngaaGreatDoorProg
set_option linter.unusedVariables false
set_option linter.unusedSimpArgs false
set_option linter.unusedSectionVars false
set_option maxRecDepth 100000
namespace Go.Dv
open Go Go.Sim Go.Proofs
noncomputable def annTable:List (Nat×Ann):=[
 (12,⟨false,[],[],[(0,[0,3]),(2,[0,3,4,5])],false⟩),
 (63,⟨false,[],[(6,([.run 0,.run 1,.run 2,.run 3,.run 4,.run 5,.run 6,.run 7,.run 8],[0,0,3,7,0,0,48,112,255]))],[(0,[0,1,5])],false⟩),
 (19,⟨false,[],[(7,([.run 0,.run 1,.run 2,.run 3,.run 4,.run 5,.run 6,.run 7,.run 8],[0,1,0,7,15,31,0,64,255]))],[(0,[1,3,4]),(2,[1,3,4,5])],false⟩),
 (18,⟨false,[],[],[(0,[1,3,43,44,45]),(2,[1,3,43,44,45,54,55,56])],false⟩),
 (58,⟨false,[],[],[],false⟩),
 (107,⟨false,[],[(4,([.run 0,.run 1,.run 2,.run 3,.run 4,.run 5,.run 6,.run 7,.run 8],[0,0,3,7,0,0,48,112,255]))],[(0,[0,1,5])],false⟩),
 (73,⟨false,[],[],[],false⟩),
 (120,⟨false,[],[],[(0,[0,1,7,8])],false⟩),
 (106,⟨false,[],[],[(0,[1,3,4]),(2,[1,3,4,5]),(4,[1,3,4,5,6])],false⟩),
 (59,⟨false,[(12,[.frz 5]),(16,[.frzI 8 9]),(25,[.frz 8]),(27,[.own 13 3 1]),(41,[.frz 5])],[(17,([.run 0,.run 1,.run 2,.run 3,.run 4,.run 5,.run 6,.run 7,.run 8,.run 9,.run 10,.again 5,.again 9,.run 11,.run 12,.run 13],[0,0,0,0,12,28,0,0,192,448,960,2044,4095,8191])),(35,([.run 0,.run 1,.run 2,.run 3,.run 4,.run 5,.run 6,.run 7,.run 8,.run 9,.run 10,.run 11],[0,0,3,7,0,0,0,96,224,496,1008,2047]))],[(0,[1,3,4,5,6]),(2,[1,3,5,7]),(4,[1,3,5,7,8,9]),(6,[1,3,5,7,8,9,10]),(8,[1,3,5,7,8,12,13,14]),(10,[1,3,5,7,8,12,13,14,15])],false⟩),
 (15,⟨false,[(14,[.ownC 4 2 4 1,.ownC 4 3 26 1]),(30,[.frz 11])],[(18,([.run 0,.run 1,.run 2,.run 3,.run 4,.run 5,.run 6,.run 7,.again 1,.again 3,.again 6,.run 8,.run 9,.run 10],[0,1,0,4,0,28,60,124,255,511,1023]))],[(0,[1,2,4,5,6,7]),(2,[1,2,4,5,6,8,9]),(4,[1,2,4,5,6,8,9,10,11,12])],false⟩),
 (89,⟨false,[],[],[],false⟩),
 (91,⟨false,[],[],[],false⟩),
 (134,⟨false,[],[],[],false⟩),
 (117,⟨true,[(5,[.ownC 12 1 4 1,.ownC 12 2 26 1]),(26,[.frz 16])],[(8,([.run 0,.run 1,.run 2,.run 3,.run 4,.run 5,.run 6,.run 7,.run 8,.run 9,.run 10,.run 11,.again 4,.run 12,.run 13,.run 14,.run 15],[0,0,2,6,14,0,0,0,192,448,992,2016,4094,8191,16383,32767])),(23,([.run 0,.run 1,.run 2,.run 3,.run 4,.run 5,.run 6,.run 7,.run 9,.run 10,.run 11,.run 12,.run 13,.run 14,.again 5,.again 12,.run 8,.again 12,.run 15,.run 16,.run 17,.run 18,.run 19,.run 20,.run 21],[0,0,0,4,12,28,0,64,252,0,512,1536,3584,0,8192,32764,65533,131069,262141,524287,1048575,2097151]))],[(0,[0,1,3,4,12,13,14,15]),(2,[0,1,3,4,12,13,14,15,16,61,62])],false⟩),
 (116,⟨false,[],[],[],false⟩),
 (118,⟨false,[],[(1,([.run 0,.run 1,.run 2,.run 3,.run 5,.run 6,.run 7,.run 8,.run 4,.again 5,.again 7,.run 9,.run 10,.run 11,.run 12],[0,0,2,0,15,0,0,64,0,511,1023,2047,4095]))],[],false⟩),
 (119,⟨false,[],[(1,([.run 0,.run 1,.run 2,.run 3,.run 4,.run 6,.run 7,.run 8,.run 9,.run 5,.again 0,.again 6,.again 7,.again 9,.run 10,.again 0,.run 11,.run 12],[0,0,0,0,8,30,0,0,0,256,1022,2047,4095]))],[],false⟩),
 (115,⟨true,[],[],[],false⟩),
 (135,⟨false,[],[],[],false⟩),
 (136,⟨false,[],[],[],false⟩),
 (137,⟨false,[],[],[],false⟩),
 (68,⟨false,[],[],[],false⟩),
 (70,⟨false,[],[],[(0,[0,1,7,8])],false⟩),
 (71,⟨true,[],[(3,([.run 0,.run 1,.run 2,.run 3,.run 4,.run 5,.run 6,.run 7,.run 8,.run 9,.run 10,.run 11,.run 12,.run 13,.run 14,.run 15],[0,0,0,0,0,0,48,112,0,0,768,1792,4083,8179,16383,32767]))],[(0,[0,2,3])],false⟩),
 (69,⟨true,[],[(3,([.run 0,.run 1,.run 2,.run 4,.run 7,.run 8,.run 3,.again 1,.again 4,.run 5,.run 6,.again 1,.run 9,.run 10,.run 11,.run 12,.run 13],[0,1,0,4,0,28,60,0,0,511,1023,1023,4095,8191]))],[],false⟩),
 (27,⟨false,[],[],[(0,[8,10,11])],false⟩),
 (46,⟨false,[],[],[],false⟩),
 (28,⟨false,[],[(6,([.run 0,.run 1,.run 2,.run 3,.run 4,.run 5,.run 6,.run 7,.run 8,.run 9],[0,0,3,7,0,0,48,112,255,511]))],[(0,[0,1,5])],false⟩),
 (30,⟨false,[(19,[.frz 11])],[],[(0,[2,3,4,8,9,10]),(2,[2,3,4,8,9,10,11,58,59])],true⟩),
 (74,⟨false,[],[],[],false⟩),
 (75,⟨true,[(0,[.emp 1])],[(3,([.run 0,.run 1,.run 2,.run 3,.again 0,.run 4,.run 5],[0,0,2,6,15,31])),(8,([.run 0,.run 1,.run 2,.run 3,.run 4,.again 0,.run 5,.again 0,.run 6],[0,0,0,0,8,28,63]))],[(0,[1,7,42,43,44])],false⟩),
 (76,⟨false,[],[],[],false⟩),
 (4,⟨false,[],[],[],false⟩),
 (26,⟨false,[(13,[.own 9 3 1]),(18,[.own 11 3 1])],[],[(0,[7,8]),(2,[7,9,10]),(4,[9,11,12])],false⟩),
 (29,⟨false,[(7,[.own 10 26 1]),(13,[.frzI 11 12])],[(21,([.run 0,.run 1,.run 2,.run 3,.run 4,.run 5,.run 6,.run 7,.run 8,.run 9,.run 10,.run 11,.run 12,.run 13,.run 14,.run 15,.run 16,.run 17,.run 18,.run 19,.run 20,.run 21,.run 22,.run 23,.run 24,.run 25],[0,1,0,7,15,0,63,127,255,511,1023,1023,3071,8191,16383,1023,33791,1023,230399,492543,1023,2065407,4162559,8388607,16777215,33554431]))],[(0,[1,2,8,10,11,12]),(2,[1,2,8,10,11,12,13]),(4,[1,2,8,10,11,12,13,14]),(6,[1,2,8,10,11,15])],true⟩),
 (67,⟨false,[(8,[.ownC 7 2 4 1,.ownC 7 3 26 1]),(29,[.frz 12])],[(7,([.run 0,.run 1,.run 2,.run 3,.run 4,.run 5,.run 6,.run 7,.run 8,.run 9,.run 10,.run 11],[0,0,0,0,8,24,0,64,192,510,1023,2047])),(14,([.run 0,.run 1,.run 2,.run 3,.run 4,.run 5,.run 6,.run 7,.run 8,.run 10,.run 11,.run 12,.run 13,.run 14,.run 9,.again 2,.again 10,.again 14,.run 15,.again 2,.run 16,.run 17,.again 2,.run 18,.run 19,.run 20,.run 21],[0,1,3,0,0,0,0,96,224,496,0,0,0,6144,14336,32752,65528,131064,262143,524287,1048575,2097151])),(19,([.run 0,.run 1,.run 2,.run 3,.run 4,.run 5,.run 6,.run 7],[0,0,0,6,14,0,63,127])),(20,([.run 0,.run 1,.run 2,.run 3,.run 4,.run 5,.run 6,.run 7],[0,0,0,6,14,0,63,127]))],[(0,[2,3,4,6,7,8,9,10,11]),(2,[2,3,4,6,7,8,9,10,11,12,13])],false⟩),
 (72,⟨true,[],[(10,([.run 0,.run 1,.run 2,.run 3,.run 4,.run 5,.run 6,.run 7,.run 8,.run 9,.run 10,.run 11,.run 12,.run 13,.run 15,.run 16,.run 18,.run 19,.again 0,.again 3,.again 6,.again 9,.run 14,.again 0,.again 3,.again 6,.again 9,.run 17,.again 0,.again 3,.again 6,.again 9,.run 20,.run 21],[0,0,0,4,0,28,60,0,252,508,0,1024,0,0,12288,0,32768,126976,0,0,1048575,2097151]))],[(0,[1,2,3,4,5,6,7,15])],true⟩),
 (85,⟨false,[],[],[],false⟩),
 (113,⟨false,[],[],[],false⟩),
 (114,⟨false,[],[],[],false⟩)]
noncomputable def Q:Par:=⟨Tryz.prog,fun f=>(findN f annTable).getD ⟨false,[],[],[],false⟩,fun f=>[11].any (Nat.beq f),fun f=>(decide (f=72)||decide (f=86)||decide (f=87))⟩
theorem Q_fr {f:FuncId}:Q.fr f=(decide (f=72)||decide (f=86)||decide (f=87)):=rfl
attribute [simp] Q_fr
theorem Q_P:Q.P=Tryz.prog:=rfl
theorem ann12:Q.ann 12=⟨false,[],[],[(0,[0,3]),(2,[0,3,4,5])],false⟩:=by kernel_rfl
theorem gp63:gpB (Q.ann 63).pl Tryz.f63.body=true:=by kernel_rfl
theorem ann63:Q.ann 63=⟨false,[],[(6,([.run 0,.run 1,.run 2,.run 3,.run 4,.run 5,.run 6,.run 7,.run 8],[0,0,3,7,0,0,48,112,255]))],[(0,[0,1,5])],false⟩:=by kernel_rfl
theorem gp19:gpB (Q.ann 19).pl Tryz.f19.body=true:=by kernel_rfl
theorem ann19:Q.ann 19=⟨false,[],[(7,([.run 0,.run 1,.run 2,.run 3,.run 4,.run 5,.run 6,.run 7,.run 8],[0,1,0,7,15,31,0,64,255]))],[(0,[1,3,4]),(2,[1,3,4,5])],false⟩:=by kernel_rfl
theorem ann18:Q.ann 18=⟨false,[],[],[(0,[1,3,43,44,45]),(2,[1,3,43,44,45,54,55,56])],false⟩:=by kernel_rfl
theorem ann58:Q.ann 58=⟨false,[],[],[],false⟩:=by kernel_rfl
theorem gp107:gpB (Q.ann 107).pl Tryz.f107.body=true:=by kernel_rfl
theorem ann107:Q.ann 107=⟨false,[],[(4,([.run 0,.run 1,.run 2,.run 3,.run 4,.run 5,.run 6,.run 7,.run 8],[0,0,3,7,0,0,48,112,255]))],[(0,[0,1,5])],false⟩:=by kernel_rfl
theorem ann73:Q.ann 73=⟨false,[],[],[],false⟩:=by kernel_rfl
theorem ann120:Q.ann 120=⟨false,[],[],[(0,[0,1,7,8])],false⟩:=by kernel_rfl
theorem ann106:Q.ann 106=⟨false,[],[],[(0,[1,3,4]),(2,[1,3,4,5]),(4,[1,3,4,5,6])],false⟩:=by kernel_rfl
theorem gp59:gpB (Q.ann 59).pl Tryz.f59.body=true:=by kernel_rfl
theorem ann59:Q.ann 59=⟨false,[(12,[.frz 5]),(16,[.frzI 8 9]),(25,[.frz 8]),(27,[.own 13 3 1]),(41,[.frz 5])],[(17,([.run 0,.run 1,.run 2,.run 3,.run 4,.run 5,.run 6,.run 7,.run 8,.run 9,.run 10,.again 5,.again 9,.run 11,.run 12,.run 13],[0,0,0,0,12,28,0,0,192,448,960,2044,4095,8191])),(35,([.run 0,.run 1,.run 2,.run 3,.run 4,.run 5,.run 6,.run 7,.run 8,.run 9,.run 10,.run 11],[0,0,3,7,0,0,0,96,224,496,1008,2047]))],[(0,[1,3,4,5,6]),(2,[1,3,5,7]),(4,[1,3,5,7,8,9]),(6,[1,3,5,7,8,9,10]),(8,[1,3,5,7,8,12,13,14]),(10,[1,3,5,7,8,12,13,14,15])],false⟩:=by kernel_rfl
theorem gp15:gpB (Q.ann 15).pl Tryz.f15.body=true:=by kernel_rfl
theorem ann15:Q.ann 15=⟨false,[(14,[.ownC 4 2 4 1,.ownC 4 3 26 1]),(30,[.frz 11])],[(18,([.run 0,.run 1,.run 2,.run 3,.run 4,.run 5,.run 6,.run 7,.again 1,.again 3,.again 6,.run 8,.run 9,.run 10],[0,1,0,4,0,28,60,124,255,511,1023]))],[(0,[1,2,4,5,6,7]),(2,[1,2,4,5,6,8,9]),(4,[1,2,4,5,6,8,9,10,11,12])],false⟩:=by kernel_rfl
theorem ann89:Q.ann 89=⟨false,[],[],[],false⟩:=by kernel_rfl
theorem ann91:Q.ann 91=⟨false,[],[],[],false⟩:=by kernel_rfl
theorem ann134:Q.ann 134=⟨false,[],[],[],false⟩:=by kernel_rfl
theorem gp117:gpB (Q.ann 117).pl Tryz.f117.body=true:=by kernel_rfl
theorem ann117:Q.ann 117=⟨true,[(5,[.ownC 12 1 4 1,.ownC 12 2 26 1]),(26,[.frz 16])],[(8,([.run 0,.run 1,.run 2,.run 3,.run 4,.run 5,.run 6,.run 7,.run 8,.run 9,.run 10,.run 11,.again 4,.run 12,.run 13,.run 14,.run 15],[0,0,2,6,14,0,0,0,192,448,992,2016,4094,8191,16383,32767])),(23,([.run 0,.run 1,.run 2,.run 3,.run 4,.run 5,.run 6,.run 7,.run 9,.run 10,.run 11,.run 12,.run 13,.run 14,.again 5,.again 12,.run 8,.again 12,.run 15,.run 16,.run 17,.run 18,.run 19,.run 20,.run 21],[0,0,0,4,12,28,0,64,252,0,512,1536,3584,0,8192,32764,65533,131069,262141,524287,1048575,2097151]))],[(0,[0,1,3,4,12,13,14,15]),(2,[0,1,3,4,12,13,14,15,16,61,62])],false⟩:=by kernel_rfl
theorem ann116:Q.ann 116=⟨false,[],[],[],false⟩:=by kernel_rfl
theorem gp118:gpB (Q.ann 118).pl Tryz.f118.body=true:=by kernel_rfl
theorem ann118:Q.ann 118=⟨false,[],[(1,([.run 0,.run 1,.run 2,.run 3,.run 5,.run 6,.run 7,.run 8,.run 4,.again 5,.again 7,.run 9,.run 10,.run 11,.run 12],[0,0,2,0,15,0,0,64,0,511,1023,2047,4095]))],[],false⟩:=by kernel_rfl
theorem gp119:gpB (Q.ann 119).pl Tryz.f119.body=true:=by kernel_rfl
theorem ann119:Q.ann 119=⟨false,[],[(1,([.run 0,.run 1,.run 2,.run 3,.run 4,.run 6,.run 7,.run 8,.run 9,.run 5,.again 0,.again 6,.again 7,.again 9,.run 10,.again 0,.run 11,.run 12],[0,0,0,0,8,30,0,0,0,256,1022,2047,4095]))],[],false⟩:=by kernel_rfl
theorem ann115:Q.ann 115=⟨true,[],[],[],false⟩:=by kernel_rfl
theorem ann135:Q.ann 135=⟨false,[],[],[],false⟩:=by kernel_rfl
theorem ann136:Q.ann 136=⟨false,[],[],[],false⟩:=by kernel_rfl
theorem ann137:Q.ann 137=⟨false,[],[],[],false⟩:=by kernel_rfl
theorem ann68:Q.ann 68=⟨false,[],[],[],false⟩:=by kernel_rfl
theorem ann70:Q.ann 70=⟨false,[],[],[(0,[0,1,7,8])],false⟩:=by kernel_rfl
theorem gp71:gpB (Q.ann 71).pl Tryz.f71.body=true:=by kernel_rfl
theorem ann71:Q.ann 71=⟨true,[],[(3,([.run 0,.run 1,.run 2,.run 3,.run 4,.run 5,.run 6,.run 7,.run 8,.run 9,.run 10,.run 11,.run 12,.run 13,.run 14,.run 15],[0,0,0,0,0,0,48,112,0,0,768,1792,4083,8179,16383,32767]))],[(0,[0,2,3])],false⟩:=by kernel_rfl
theorem gp69:gpB (Q.ann 69).pl Tryz.f69.body=true:=by kernel_rfl
theorem ann69:Q.ann 69=⟨true,[],[(3,([.run 0,.run 1,.run 2,.run 4,.run 7,.run 8,.run 3,.again 1,.again 4,.run 5,.run 6,.again 1,.run 9,.run 10,.run 11,.run 12,.run 13],[0,1,0,4,0,28,60,0,0,511,1023,1023,4095,8191]))],[],false⟩:=by kernel_rfl
theorem ann27:Q.ann 27=⟨false,[],[],[(0,[8,10,11])],false⟩:=by kernel_rfl
theorem ann46:Q.ann 46=⟨false,[],[],[],false⟩:=by kernel_rfl
theorem gp28:gpB (Q.ann 28).pl Tryz.f28.body=true:=by kernel_rfl
theorem ann28:Q.ann 28=⟨false,[],[(6,([.run 0,.run 1,.run 2,.run 3,.run 4,.run 5,.run 6,.run 7,.run 8,.run 9],[0,0,3,7,0,0,48,112,255,511]))],[(0,[0,1,5])],false⟩:=by kernel_rfl
theorem ann30:Q.ann 30=⟨false,[(19,[.frz 11])],[],[(0,[2,3,4,8,9,10]),(2,[2,3,4,8,9,10,11,58,59])],true⟩:=by kernel_rfl
theorem ann74:Q.ann 74=⟨false,[],[],[],false⟩:=by kernel_rfl
theorem gp75:gpB (Q.ann 75).pl Tryz.f75.body=true:=by kernel_rfl
theorem ann75:Q.ann 75=⟨true,[(0,[.emp 1])],[(3,([.run 0,.run 1,.run 2,.run 3,.again 0,.run 4,.run 5],[0,0,2,6,15,31])),(8,([.run 0,.run 1,.run 2,.run 3,.run 4,.again 0,.run 5,.again 0,.run 6],[0,0,0,0,8,28,63]))],[(0,[1,7,42,43,44])],false⟩:=by kernel_rfl
theorem ann76:Q.ann 76=⟨false,[],[],[],false⟩:=by kernel_rfl
theorem ann4:Q.ann 4=⟨false,[],[],[],false⟩:=by kernel_rfl
theorem ann26:Q.ann 26=⟨false,[(13,[.own 9 3 1]),(18,[.own 11 3 1])],[],[(0,[7,8]),(2,[7,9,10]),(4,[9,11,12])],false⟩:=by kernel_rfl
theorem gp29:gpB (Q.ann 29).pl Tryz.f29.body=true:=by kernel_rfl
theorem ann29:Q.ann 29=⟨false,[(7,[.own 10 26 1]),(13,[.frzI 11 12])],[(21,([.run 0,.run 1,.run 2,.run 3,.run 4,.run 5,.run 6,.run 7,.run 8,.run 9,.run 10,.run 11,.run 12,.run 13,.run 14,.run 15,.run 16,.run 17,.run 18,.run 19,.run 20,.run 21,.run 22,.run 23,.run 24,.run 25],[0,1,0,7,15,0,63,127,255,511,1023,1023,3071,8191,16383,1023,33791,1023,230399,492543,1023,2065407,4162559,8388607,16777215,33554431]))],[(0,[1,2,8,10,11,12]),(2,[1,2,8,10,11,12,13]),(4,[1,2,8,10,11,12,13,14]),(6,[1,2,8,10,11,15])],true⟩:=by kernel_rfl
theorem gp67:gpB (Q.ann 67).pl Tryz.f67.body=true:=by kernel_rfl
theorem ann67:Q.ann 67=⟨false,[(8,[.ownC 7 2 4 1,.ownC 7 3 26 1]),(29,[.frz 12])],[(7,([.run 0,.run 1,.run 2,.run 3,.run 4,.run 5,.run 6,.run 7,.run 8,.run 9,.run 10,.run 11],[0,0,0,0,8,24,0,64,192,510,1023,2047])),(14,([.run 0,.run 1,.run 2,.run 3,.run 4,.run 5,.run 6,.run 7,.run 8,.run 10,.run 11,.run 12,.run 13,.run 14,.run 9,.again 2,.again 10,.again 14,.run 15,.again 2,.run 16,.run 17,.again 2,.run 18,.run 19,.run 20,.run 21],[0,1,3,0,0,0,0,96,224,496,0,0,0,6144,14336,32752,65528,131064,262143,524287,1048575,2097151])),(19,([.run 0,.run 1,.run 2,.run 3,.run 4,.run 5,.run 6,.run 7],[0,0,0,6,14,0,63,127])),(20,([.run 0,.run 1,.run 2,.run 3,.run 4,.run 5,.run 6,.run 7],[0,0,0,6,14,0,63,127]))],[(0,[2,3,4,6,7,8,9,10,11]),(2,[2,3,4,6,7,8,9,10,11,12,13])],false⟩:=by kernel_rfl
theorem gp72:gpB (Q.ann 72).pl Tryz.f72.body=true:=by kernel_rfl
theorem ann72:Q.ann 72=⟨true,[],[(10,([.run 0,.run 1,.run 2,.run 3,.run 4,.run 5,.run 6,.run 7,.run 8,.run 9,.run 10,.run 11,.run 12,.run 13,.run 15,.run 16,.run 18,.run 19,.again 0,.again 3,.again 6,.again 9,.run 14,.again 0,.again 3,.again 6,.again 9,.run 17,.again 0,.again 3,.again 6,.again 9,.run 20,.run 21],[0,0,0,4,0,28,60,0,252,508,0,1024,0,0,12288,0,32768,126976,0,0,1048575,2097151]))],[(0,[1,2,3,4,5,6,7,15])],true⟩:=by kernel_rfl
theorem ann85:Q.ann 85=⟨false,[],[],[],false⟩:=by kernel_rfl
theorem ann113:Q.ann 113=⟨false,[],[],[],false⟩:=by kernel_rfl
theorem ann114:Q.ann 114=⟨false,[],[],[],false⟩:=by kernel_rfl
end Go.Dv
