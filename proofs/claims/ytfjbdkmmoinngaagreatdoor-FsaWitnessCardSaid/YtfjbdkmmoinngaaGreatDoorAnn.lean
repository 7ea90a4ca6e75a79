/- The annotations of the functions (printed by ann.py). -/
import Derived.Test.YtfjbdkmmoinngaaGreatDoorDvB
import Derived.Test.YtfjbdkmmoinngaaGreatDoorProg
set_option linter.unusedVariables false
set_option linter.unusedSimpArgs false
set_option linter.unusedSectionVars false
set_option maxRecDepth 100000
namespace Go.Dv
open Go Go.Sim Go.Proofs
noncomputable def annTable:List (Nat×Ann):=[
 (12,⟨false,[],[],[(0,[0,3]),(2,[0,3,4,5])],false⟩),
 (13,⟨false,[],[],[(0,[0,3])],false⟩),
 (63,⟨false,[],[(6,([.run 0,.run 1,.run 2,.run 3,.run 4,.run 5,.run 6,.run 7,.run 8],[0,0,3,7,0,0,48,112,255]))],[(0,[0,1,5])],false⟩),
 (19,⟨false,[],[(7,([.run 0,.run 1,.run 2,.run 3,.run 4,.run 5,.run 6,.run 7,.run 8],[0,1,0,7,15,31,0,64,255]))],[(0,[1,3,4]),(2,[1,3,4,5])],false⟩),
 (18,⟨false,[],[],[(0,[1,3,43,44,45]),(2,[1,3,43,44,45,54,55,56])],false⟩),
 (58,⟨false,[],[],[],false⟩),
 (14,⟨false,[],[(7,([.run 0,.run 1,.run 2,.run 3,.run 4,.run 5,.run 6,.run 7,.run 8,.run 9,.run 10,.run 11,.run 12,.run 13],[0,0,3,7,15,31,63,63,255,511,63,1087,4095,8191])),(9,([.run 0,.run 1,.run 2,.run 3,.run 4,.run 5,.run 6,.run 7],[0,0,0,0,12,28,63,127]))],[(0,[2,3,8,9])],false⟩),
 (21,⟨false,[],[],[],false⟩),
 (73,⟨false,[],[],[],false⟩),
 (120,⟨false,[],[],[(0,[0,1,7,8])],false⟩),
 (89,⟨false,[],[],[],false⟩),
 (91,⟨false,[],[],[],false⟩),
 (134,⟨false,[],[],[],false⟩),
 (117,⟨true,[(5,[.ownC 12 1 4 1,.ownC 12 2 26 1]),(26,[.frz 16])],[(8,([.run 0,.run 1,.run 2,.run 3,.run 4,.run 5,.run 6,.run 7,.run 8,.run 9,.run 10,.run 11,.again 4,.run 12,.run 13,.run 14,.run 15],[0,0,2,6,14,0,0,0,192,448,992,2016,4094,8191,16383,32767])),(23,([.run 0,.run 1,.run 2,.run 3,.run 4,.run 5,.run 6,.run 7,.run 9,.run 10,.run 11,.run 12,.run 13,.run 14,.again 5,.again 12,.run 8,.again 12,.run 15,.run 16,.run 17,.run 18,.run 19,.run 20,.run 21],[0,0,0,4,12,28,0,64,252,0,512,1536,3584,0,8192,32764,65533,131069,262141,524287,1048575,2097151]))],[(0,[0,1,3,4,12,13,14,15]),(2,[0,1,3,4,12,13,14,15,16,61,62])],false⟩),
 (116,⟨false,[],[],[],false⟩),
 (118,⟨false,[],[(1,([.run 0,.run 1,.run 2,.run 3,.run 5,.run 6,.run 7,.run 8,.run 4,.again 5,.again 7,.run 9,.run 10,.run 11,.run 12],[0,0,2,0,15,0,0,64,0,511,1023,2047,4095]))],[],false⟩),
 (119,⟨false,[],[(1,([.run 0,.run 1,.run 2,.run 3,.run 4,.run 6,.run 7,.run 8,.run 9,.run 5,.again 0,.again 6,.again 7,.again 9,.run 10,.again 0,.run 11,.run 12],[0,0,0,0,8,30,0,0,0,256,1022,2047,4095]))],[],false⟩),
 (115,⟨true,[],[],[],false⟩),
 (135,⟨false,[],[],[],false⟩),
 (136,⟨false,[],[],[],false⟩),
 (137,⟨false,[],[],[],false⟩),
 (68,⟨false,[],[],[],false⟩),
 (70,⟨false,[],[],[(0,[0,1,7,8])],false⟩),
 (71,⟨true,[],[(3,([.run 0,.run 1,.run 2,.run 3,.run 4,.run 5,.run 6,.run 7,.run 8,.run 9,.run 10,.run 11,.run 12,.run 13,.run 14,.run 15],[0,0,0,0,0,0,48,112,0,0,768,1792,4083,8179,16383,32767]))],[(0,[0,2,3])],false⟩),
 (69,⟨true,[],[(3,([.run 0,.run 1,.run 2,.run 4,.run 7,.run 8,.run 3,.again 1,.again 4,.run 5,.run 6,.again 1,.run 9,.run 10,.run 11,.run 12,.run 13],[0,1,0,4,0,28,60,0,0,511,1023,1023,4095,8191]))],[],false⟩),
 (27,⟨false,[],[],[(0,[8,10,11])],false⟩),
 (6,⟨false,[],[(6,([.run 0,.run 1,.run 2,.run 3,.run 4,.run 5,.run 6,.run 8,.run 9,.run 7,.again 8,.run 10,.run 11,.run 12,.run 13],[0,1,3,7,15,31,31,127,31,31,1023,2047,4095,8191])),(11,([.run 0,.run 1,.run 2,.run 3,.run 4,.run 6,.run 7,.run 8,.run 9,.run 10,.run 5,.again 6,.again 10,.run 11,.run 12,.run 13,.run 14,.run 15,.run 16,.run 17,.run 18,.run 19,.run 20,.run 21,.run 22,.run 23,.run 24],[0,0,0,6,14,31,0,0,0,384,896,2047,4095,8191,16383,32767,65535,131071,131071,524287,1048575,131071,4194303,8388607,16777215])),(19,([.run 0,.run 1,.run 2,.run 3,.run 4,.run 5,.run 6,.run 7,.run 8,.run 9,.run 10,.run 11,.run 12,.run 13,.run 14,.run 15,.run 16,.run 17,.run 18,.run 19,.run 20,.run 21,.run 22,.run 23,.run 24,.run 25,.run 26,.run 27,.run 28,.run 29,.run 30,.run 31,.run 32],[0,1,3,7,7,23,63,127,7,7,775,1799,4095,8191,16383,32767,65535,65535,65535,458751,983039,2097151,4194303,8388607,16777215,33554431,33554431,134217727,268435455,536870911,33554431,2147483647,4294967295])),(24,([.run 0,.run 1,.run 2,.run 3,.run 4,.run 5,.run 6,.run 7,.run 8,.run 9,.run 10,.run 11,.run 12,.run 13,.run 14,.run 15,.run 16,.run 17,.run 18,.run 19,.run 20,.run 21,.run 22,.run 23,.run 24,.run 25,.run 26,.run 27,.run 28,.run 29,.run 30,.run 31,.run 32,.run 33,.run 34,.run 35,.run 36,.run 37],[0,0,3,7,15,0,63,127,255,255,255,1791,3839,8191,16383,32767,65535,131071,262143,131071,1048575,2097151,4194303,8388607,16777215,33554431,33554431,100663295,268435455,536870911,33554431,33554431,3254779903,7549747199,17179869183,34359738367,68719476735,137438953471])),(29,([.run 0,.run 1,.run 2,.run 3,.run 4,.run 5,.run 6,.run 7,.run 8,.run 9,.run 10,.run 11,.again 5,.again 10,.run 12,.run 13,.run 14],[0,1,3,3,15,31,63,3,3,387,899,1923,4095,8191,16383]))],[(0,[2,3,4,5,6,11,12,14]),(2,[2,3,4,5,15,16]),(4,[2,3,4,5,15,17]),(6,[2,3,4,5,15,17,18,19])],false⟩),
 (28,⟨false,[],[(6,([.run 0,.run 1,.run 2,.run 3,.run 4,.run 5,.run 6,.run 7,.run 8,.run 9],[0,0,3,7,0,0,48,112,255,511]))],[(0,[0,1,5])],false⟩),
 (30,⟨false,[(19,[.frz 11])],[],[(0,[2,3,4,8,9,10]),(2,[2,3,4,8,9,10,11,58,59])],true⟩),
 (31,⟨false,[],[(6,([.run 0,.run 1,.run 2,.run 3,.run 4,.run 5,.run 6,.run 7,.run 8],[0,0,3,7,0,0,48,112,255])),(7,([.run 0,.run 1,.run 2,.run 3,.run 4,.run 5,.run 6,.run 7,.run 8,.run 9],[0,0,3,7,0,0,48,112,255,511]))],[(0,[0,1,5])],false⟩),
 (74,⟨false,[],[],[],false⟩),
 (75,⟨true,[(0,[.emp 1])],[(3,([.run 0,.run 1,.run 2,.run 3,.again 0,.run 4,.run 5],[0,0,2,6,15,31])),(8,([.run 0,.run 1,.run 2,.run 3,.run 4,.again 0,.run 5,.again 0,.run 6],[0,0,0,0,8,28,63]))],[(0,[1,7,42,43,44])],false⟩),
 (76,⟨false,[],[],[],false⟩)]
noncomputable def Q:Par:=⟨Tryz.prog,fun f=>(findN f annTable).getD ⟨false,[],[],[],false⟩,fun f=>[11].any (Nat.beq f),fun f=>(decide (f=86)||decide (f=87))⟩
theorem Q_fr {f:FuncId}:Q.fr f=(decide (f=86)||decide (f=87)):=rfl
attribute [simp] Q_fr
theorem Q_P:Q.P=Tryz.prog:=rfl
theorem ann12:Q.ann 12=⟨false,[],[],[(0,[0,3]),(2,[0,3,4,5])],false⟩:=by kernel_rfl
theorem ann13:Q.ann 13=⟨false,[],[],[(0,[0,3])],false⟩:=by kernel_rfl
theorem gp63:gpB (Q.ann 63).pl Tryz.f63.body=true:=by kernel_rfl
theorem ann63:Q.ann 63=⟨false,[],[(6,([.run 0,.run 1,.run 2,.run 3,.run 4,.run 5,.run 6,.run 7,.run 8],[0,0,3,7,0,0,48,112,255]))],[(0,[0,1,5])],false⟩:=by kernel_rfl
theorem gp19:gpB (Q.ann 19).pl Tryz.f19.body=true:=by kernel_rfl
theorem ann19:Q.ann 19=⟨false,[],[(7,([.run 0,.run 1,.run 2,.run 3,.run 4,.run 5,.run 6,.run 7,.run 8],[0,1,0,7,15,31,0,64,255]))],[(0,[1,3,4]),(2,[1,3,4,5])],false⟩:=by kernel_rfl
theorem ann18:Q.ann 18=⟨false,[],[],[(0,[1,3,43,44,45]),(2,[1,3,43,44,45,54,55,56])],false⟩:=by kernel_rfl
theorem ann58:Q.ann 58=⟨false,[],[],[],false⟩:=by kernel_rfl
theorem gp14:gpB (Q.ann 14).pl Tryz.f14.body=true:=by kernel_rfl
theorem ann14:Q.ann 14=⟨false,[],[(7,([.run 0,.run 1,.run 2,.run 3,.run 4,.run 5,.run 6,.run 7,.run 8,.run 9,.run 10,.run 11,.run 12,.run 13],[0,0,3,7,15,31,63,63,255,511,63,1087,4095,8191])),(9,([.run 0,.run 1,.run 2,.run 3,.run 4,.run 5,.run 6,.run 7],[0,0,0,0,12,28,63,127]))],[(0,[2,3,8,9])],false⟩:=by kernel_rfl
theorem ann21:Q.ann 21=⟨false,[],[],[],false⟩:=by kernel_rfl
theorem ann73:Q.ann 73=⟨false,[],[],[],false⟩:=by kernel_rfl
theorem ann120:Q.ann 120=⟨false,[],[],[(0,[0,1,7,8])],false⟩:=by kernel_rfl
theorem ann89:Q.ann 89=⟨false,[],[],[],false⟩:=by kernel_rfl
theorem ann91:Q.ann 91=⟨false,[],[],[],false⟩:=by kernel_rfl
theorem ann134:Q.ann 134=⟨false,[],[],[],false⟩:=by kernel_rfl
theorem gp117:gpB (Q.ann 117).pl Tryz.f117.body=true:=by kernel_rfl
theorem ann117:Q.ann 117=⟨true,[(5,[.ownC 12 1 4 1,.ownC 12 2 26 1]),(26,[.frz 16])],[(8,([.run 0,.run 1,.run 2,.run 3,.run 4,.run 5,.run 6,.run 7,.run 8,.run 9,.run 10,.run 11,.again 4,.run 12,.run 13,.run 14,.run 15],[0,0,2,6,14,0,0,0,192,448,992,2016,4094,8191,16383,32767])),(23,([.run 0,.run 1,.run 2,.run 3,.run 4,.run 5,.run 6,.run 7,.run 9,.run 10,.run 11,.run 12,.run 13,.run 14,.again 5,.again 12,.run 8,.again 12,.run 15,.run 16,.run 17,.run 18,.run 19,.run 20,.run 21],[0,0,0,4,12,28,0,64,252,0,512,1536,3584,0,8192,32764,65533,131069,262141,524287,1048575,2097151]))],[(0,[0,1,3,4,12,13,14,15]),(2,[0,1,3,4,12,13,14,15,16,61,62])],false⟩:=by kernel_rfl
theorem ann116:Q.ann 116=⟨false,[],[],[],false⟩:=by kernel_rfl
theorem gp118:gpB (Q.ann 118).pl Tryz.f118.body=true:=by kernel_rfl
theorem ann118:Q.ann 118=⟨false,[],[(1,([.run 0,.run 1,.run 2,.run 3,.run 5,.run 6,.run 7,.run 8,.run 4,.again 5,.again 7,.run 9,.run 10,.run 11,.run 12],[0,0,2,0,15,0,0,64,0,511,1023,2047,4095]))],[],false⟩:=by kernel_rfl
theorem gp119:gpB (Q.ann 119).pl Tryz.f119.body=true:=by kernel_rfl
theorem ann119:Q.ann 119=⟨false,[],[(1,([.run 0,.run 1,.run 2,.run 3,.run 4,.run 6,.run 7,.run 8,.run 9,.run 5,.again 0,.again 6,.again 7,.again 9,.run 10,.again 0,.run 11,.run 12],[0,0,0,0,8,30,0,0,0,256,1022,2047,4095]))],[],false⟩:=by kernel_rfl
theorem ann115:Q.ann 115=⟨true,[],[],[],false⟩:=by kernel_rfl
theorem ann135:Q.ann 135=⟨false,[],[],[],false⟩:=by kernel_rfl
theorem ann136:Q.ann 136=⟨false,[],[],[],false⟩:=by kernel_rfl
theorem ann137:Q.ann 137=⟨false,[],[],[],false⟩:=by kernel_rfl
theorem ann68:Q.ann 68=⟨false,[],[],[],false⟩:=by kernel_rfl
theorem ann70:Q.ann 70=⟨false,[],[],[(0,[0,1,7,8])],false⟩:=by kernel_rfl
theorem gp71:gpB (Q.ann 71).pl Tryz.f71.body=true:=by kernel_rfl
theorem ann71:Q.ann 71=⟨true,[],[(3,([.run 0,.run 1,.run 2,.run 3,.run 4,.run 5,.run 6,.run 7,.run 8,.run 9,.run 10,.run 11,.run 12,.run 13,.run 14,.run 15],[0,0,0,0,0,0,48,112,0,0,768,1792,4083,8179,16383,32767]))],[(0,[0,2,3])],false⟩:=by kernel_rfl
theorem gp69:gpB (Q.ann 69).pl Tryz.f69.body=true:=by kernel_rfl
theorem ann69:Q.ann 69=⟨true,[],[(3,([.run 0,.run 1,.run 2,.run 4,.run 7,.run 8,.run 3,.again 1,.again 4,.run 5,.run 6,.again 1,.run 9,.run 10,.run 11,.run 12,.run 13],[0,1,0,4,0,28,60,0,0,511,1023,1023,4095,8191]))],[],false⟩:=by kernel_rfl
theorem ann27:Q.ann 27=⟨false,[],[],[(0,[8,10,11])],false⟩:=by kernel_rfl
theorem gp6:gpB (Q.ann 6).pl Tryz.f6.body=true:=by kernel_rfl
theorem ann6:Q.ann 6=⟨false,[],[(6,([.run 0,.run 1,.run 2,.run 3,.run 4,.run 5,.run 6,.run 8,.run 9,.run 7,.again 8,.run 10,.run 11,.run 12,.run 13],[0,1,3,7,15,31,31,127,31,31,1023,2047,4095,8191])),(11,([.run 0,.run 1,.run 2,.run 3,.run 4,.run 6,.run 7,.run 8,.run 9,.run 10,.run 5,.again 6,.again 10,.run 11,.run 12,.run 13,.run 14,.run 15,.run 16,.run 17,.run 18,.run 19,.run 20,.run 21,.run 22,.run 23,.run 24],[0,0,0,6,14,31,0,0,0,384,896,2047,4095,8191,16383,32767,65535,131071,131071,524287,1048575,131071,4194303,8388607,16777215])),(19,([.run 0,.run 1,.run 2,.run 3,.run 4,.run 5,.run 6,.run 7,.run 8,.run 9,.run 10,.run 11,.run 12,.run 13,.run 14,.run 15,.run 16,.run 17,.run 18,.run 19,.run 20,.run 21,.run 22,.run 23,.run 24,.run 25,.run 26,.run 27,.run 28,.run 29,.run 30,.run 31,.run 32],[0,1,3,7,7,23,63,127,7,7,775,1799,4095,8191,16383,32767,65535,65535,65535,458751,983039,2097151,4194303,8388607,16777215,33554431,33554431,134217727,268435455,536870911,33554431,2147483647,4294967295])),(24,([.run 0,.run 1,.run 2,.run 3,.run 4,.run 5,.run 6,.run 7,.run 8,.run 9,.run 10,.run 11,.run 12,.run 13,.run 14,.run 15,.run 16,.run 17,.run 18,.run 19,.run 20,.run 21,.run 22,.run 23,.run 24,.run 25,.run 26,.run 27,.run 28,.run 29,.run 30,.run 31,.run 32,.run 33,.run 34,.run 35,.run 36,.run 37],[0,0,3,7,15,0,63,127,255,255,255,1791,3839,8191,16383,32767,65535,131071,262143,131071,1048575,2097151,4194303,8388607,16777215,33554431,33554431,100663295,268435455,536870911,33554431,33554431,3254779903,7549747199,17179869183,34359738367,68719476735,137438953471])),(29,([.run 0,.run 1,.run 2,.run 3,.run 4,.run 5,.run 6,.run 7,.run 8,.run 9,.run 10,.run 11,.again 5,.again 10,.run 12,.run 13,.run 14],[0,1,3,3,15,31,63,3,3,387,899,1923,4095,8191,16383]))],[(0,[2,3,4,5,6,11,12,14]),(2,[2,3,4,5,15,16]),(4,[2,3,4,5,15,17]),(6,[2,3,4,5,15,17,18,19])],false⟩:=by kernel_rfl
theorem gp28:gpB (Q.ann 28).pl Tryz.f28.body=true:=by kernel_rfl
theorem ann28:Q.ann 28=⟨false,[],[(6,([.run 0,.run 1,.run 2,.run 3,.run 4,.run 5,.run 6,.run 7,.run 8,.run 9],[0,0,3,7,0,0,48,112,255,511]))],[(0,[0,1,5])],false⟩:=by kernel_rfl
theorem ann30:Q.ann 30=⟨false,[(19,[.frz 11])],[],[(0,[2,3,4,8,9,10]),(2,[2,3,4,8,9,10,11,58,59])],true⟩:=by kernel_rfl
theorem gp31:gpB (Q.ann 31).pl Tryz.f31.body=true:=by kernel_rfl
theorem ann31:Q.ann 31=⟨false,[],[(6,([.run 0,.run 1,.run 2,.run 3,.run 4,.run 5,.run 6,.run 7,.run 8],[0,0,3,7,0,0,48,112,255])),(7,([.run 0,.run 1,.run 2,.run 3,.run 4,.run 5,.run 6,.run 7,.run 8,.run 9],[0,0,3,7,0,0,48,112,255,511]))],[(0,[0,1,5])],false⟩:=by kernel_rfl
theorem ann74:Q.ann 74=⟨false,[],[],[],false⟩:=by kernel_rfl
theorem gp75:gpB (Q.ann 75).pl Tryz.f75.body=true:=by kernel_rfl
theorem ann75:Q.ann 75=⟨true,[(0,[.emp 1])],[(3,([.run 0,.run 1,.run 2,.run 3,.again 0,.run 4,.run 5],[0,0,2,6,15,31])),(8,([.run 0,.run 1,.run 2,.run 3,.run 4,.again 0,.run 5,.again 0,.run 6],[0,0,0,0,8,28,63]))],[(0,[1,7,42,43,44])],false⟩:=by kernel_rfl
theorem ann76:Q.ann 76=⟨false,[],[],[],false⟩:=by kernel_rfl
end Go.Dv
