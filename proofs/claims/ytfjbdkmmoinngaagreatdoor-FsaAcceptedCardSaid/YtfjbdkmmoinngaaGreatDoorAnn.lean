/- The annotations of the functions (printed by ann.py). -/
import Derived.Test.YtfjbdkmmoinngaaGreatDoorDvB
import Derived.Test.YtfjbdkmmoinngaaGreatDoorProg
set_option linter.unusedVariables false
set_option linter.unusedSimpArgs false
set_option linter.unusedSectionVars false
set_option maxRecDepth 100000
namespace Go.Dv
open Go Go.Sim Go.Proofs
noncomputable def yl7:List (Nat×Ann):=[
 (12,⟨false,[],[],[(0,[0,3]),(2,[0,3,4,5])],false⟩),
 (13,⟨false,[],[],[(0,[0,3])],false⟩),
 (19,⟨false,[],[(7,([.run 0,.run 1,.run 2,.run 3,.run 4,.run 5,.run 6,.run 7,.run 8],[0,1,0,7,15,31,0,64,255]))],[(0,[1,3,4]),(2,[1,3,4,5])],false⟩),
 (18,⟨false,[],[],[(0,[1,3,43,44,45]),(2,[1,3,43,44,45,54,55,56])],false⟩),
 (58,⟨false,[],[],[],false⟩),
 (14,⟨false,[],[(7,([.run 0,.run 1,.run 2,.run 3,.run 4,.run 5,.run 6,.run 7,.run 8,.run 9,.run 10,.run 11,.run 12,.run 13],[0,0,3,7,15,31,63,63,255,511,63,1087,4095,8191])),(9,([.run 0,.run 1,.run 2,.run 3,.run 4,.run 5,.run 6,.run 7],[0,0,0,0,12,28,63,127]))],[(0,[2,3,8,9])],false⟩),
 (21,⟨false,[],[],[],false⟩),
 (16,⟨false,[],[],[(0,[1,3,31,32,33])],false⟩),
 (20,⟨false,[],[],[],false⟩),
 (60,⟨false,[],[],[],false⟩),
 (73,⟨false,[],[],[],false⟩),
 (108,⟨false,[],[],[],false⟩),
 (120,⟨false,[],[],[(0,[0,1,7,8])],false⟩),
 (110,⟨true,[(5,[.ownC 12 1 4 1,.ownC 12 2 26 1]),(26,[.frz 16])],[(8,([.run 0,.run 1,.run 2,.run 3,.run 4,.run 5,.run 6,.run 7,.run 8,.run 9,.run 10,.run 11,.again 4,.run 12,.run 13,.run 14,.run 15],[0,0,2,6,14,0,0,0,192,448,992,2016,4094,8191,16383,32767])),(23,([.run 0,.run 1,.run 2,.run 3,.run 4,.run 5,.run 6,.run 7,.run 9,.run 10,.run 11,.run 12,.run 13,.run 14,.again 5,.again 12,.run 8,.again 12,.run 15,.run 16,.run 17,.run 18,.run 19,.run 20,.run 21],[0,0,0,4,12,28,0,64,252,0,512,1536,3584,0,8192,32764,65533,131069,262141,524287,1048575,2097151]))],[(0,[0,1,3,4,12,13,14,15]),(2,[0,1,3,4,12,13,14,15,16,61,62])],false⟩),
 (89,⟨false,[],[],[],false⟩),
 (91,⟨false,[],[],[],false⟩),
 (62,⟨true,[],[(1,([.run 0,.run 1,.run 2,.run 3,.run 4,.run 5,.run 6,.run 8,.run 9,.run 7,.again 1,.again 3,.again 4,.run 10,.run 11,.run 12,.run 13,.run 14,.run 15],[0,1,0,4,12,28,0,64,0,0,1023,2047,4095,4095,8191,32767]))],[],false⟩),
 (111,⟨false,[],[],[],false⟩),
 (112,⟨false,[],[],[],false⟩),
 (127,⟨true,[],[],[],false⟩),
 (140,⟨true,[(3,[.own 5 3 1])],[],[(0,[0,3,4,5,22,23,24]),(2,[0,3,4,5,8]),(4,[0,3,4,5,8,57,58,59])],false⟩),
 (141,⟨false,[(2,[.ownAll 3 3 1])],[],[(0,[3,17,18,19]),(2,[3,4,17,18,19,24,25,26])],false⟩),
 (128,⟨false,[(14,[.frz 8]),(22,[.frz 15])],[],[(0,[0,1,2,7,8,9,21,22]),(2,[0,2,7,8,14]),(4,[0,2,7,8,14,15,16,51,52])],false⟩),
 (142,⟨true,[],[],[],false⟩),
 (129,⟨false,[],[(1,([.run 0,.run 1,.run 2,.run 3,.run 4,.run 5,.run 6,.run 7,.run 8,.run 9,.run 10,.run 11,.run 12],[0,0,3,7,0,16,48,112,0,496,1008,2047,4095]))],[],false⟩),
 (130,⟨false,[],[],[(0,[0,2,7,26,27,28])],false⟩),
 (131,⟨true,[],[],[],false⟩),
 (143,⟨true,[],[],[],false⟩),
 (155,⟨true,[],[],[],false⟩),
 (165,⟨true,[(29,[.frzP 12])],[],[(0,[0,1,3,4,10,11,12,13,14,15,16]),(2,[0,1,3,4,10,11,12,13,17])],false⟩),
 (169,⟨false,[],[],[],false⟩),
 (109,⟨false,[],[(17,([.run 0,.run 1,.run 2,.run 3,.run 4,.run 5,.run 6,.run 7,.run 8,.run 9,.run 10,.run 11,.run 12,.run 13,.run 14],[0,1,3,7,0,16,48,0,0,511,1023,2047,2047,4095,16383])),(20,([.run 0,.run 1,.run 2,.run 3,.run 4,.run 5,.run 6,.run 7,.run 8,.run 9,.run 10,.run 11,.run 12,.run 13,.run 14],[0,1,3,7,0,16,48,112,0,256,768,1792,4095,8191,16383]))],[(2,[1,2,4,5,7,8,51,52,53])],false⟩),
 (132,⟨false,[],[(1,([.run 0,.run 1,.run 2,.run 3,.run 4,.run 5,.run 6,.run 7,.run 8,.run 9,.run 10,.run 11,.run 12],[0,1,3,7,0,0,48,127,255,0,1023,2047,4095]))],[],false⟩),
 (133,⟨false,[],[(1,([.run 0,.run 1,.run 2,.run 3,.run 4,.run 5,.run 6,.run 7,.run 8,.run 9],[0,1,3,7,0,0,48,127,255,511]))],[],false⟩),
 (134,⟨false,[],[],[],false⟩),
 (61,⟨false,[],[],[],false⟩),
 (117,⟨true,[(5,[.ownC 12 1 4 1,.ownC 12 2 26 1]),(26,[.frz 16])],[(8,([.run 0,.run 1,.run 2,.run 3,.run 4,.run 5,.run 6,.run 7,.run 8,.run 9,.run 10,.run 11,.again 4,.run 12,.run 13,.run 14,.run 15],[0,0,2,6,14,0,0,0,192,448,992,2016,4094,8191,16383,32767])),(23,([.run 0,.run 1,.run 2,.run 3,.run 4,.run 5,.run 6,.run 7,.run 9,.run 10,.run 11,.run 12,.run 13,.run 14,.again 5,.again 12,.run 8,.again 12,.run 15,.run 16,.run 17,.run 18,.run 19,.run 20,.run 21],[0,0,0,4,12,28,0,64,252,0,512,1536,3584,0,8192,32764,65533,131069,262141,524287,1048575,2097151]))],[(0,[0,1,3,4,12,13,14,15]),(2,[0,1,3,4,12,13,14,15,16,61,62])],false⟩),
 (116,⟨false,[],[],[],false⟩),
 (118,⟨false,[],[(1,([.run 0,.run 1,.run 2,.run 3,.run 5,.run 6,.run 7,.run 8,.run 4,.again 5,.again 7,.run 9,.run 10,.run 11,.run 12],[0,0,2,0,15,0,0,64,0,511,1023,2047,4095]))],[],false⟩),
 (119,⟨false,[],[(1,([.run 0,.run 1,.run 2,.run 3,.run 4,.run 6,.run 7,.run 8,.run 9,.run 5,.again 0,.again 6,.again 7,.again 9,.run 10,.again 0,.run 11,.run 12],[0,0,0,0,8,30,0,0,0,256,1022,2047,4095]))],[],false⟩),
 (115,⟨true,[],[],[],false⟩),
 (135,⟨false,[],[],[],false⟩),
 (136,⟨false,[],[],[],false⟩),
 (137,⟨false,[],[],[],false⟩),
 (68,⟨false,[],[],[],false⟩),
 (69,⟨true,[],[(3,([.run 0,.run 1,.run 2,.run 4,.run 7,.run 8,.run 3,.again 1,.again 4,.run 5,.run 6,.again 1,.run 9,.run 10,.run 11,.run 12,.run 13],[0,1,0,4,0,28,60,0,0,511,1023,1023,4095,8191]))],[],false⟩),
 (33,⟨false,[],[],[],false⟩),
 (35,⟨false,[],[(7,([.run 0,.run 1,.run 2,.run 3,.run 4,.run 5,.run 6,.run 7,.run 8,.run 9,.run 10,.run 11,.run 12,.run 13,.run 14],[0,1,3,7,0,0,32,96,224,0,992,2016,4064,8191,16383]))],[(0,[2,4,16,17])],false⟩),
 (8,⟨false,[],[(18,([.run 0,.run 1,.run 3,.run 4,.run 5,.run 6,.run 2,.again 5,.run 7,.run 8,.run 9,.run 10,.run 11,.run 12,.run 14,.run 13,.run 15,.run 16,.run 17,.run 18,.run 19,.run 22,.run 20,.again 18,.run 21,.run 23,.run 24,.run 25,.run 26,.run 27,.run 29,.run 30,.run 31,.run 28,.again 29,.again 30,.run 32,.run 33,.run 34,.run 35,.run 36,.run 37,.run 39,.run 40,.run 38,.again 39,.run 41,.run 42,.run 43],[0,0,3,0,0,0,0,103,255,511,1023,2047,2047,8191,2047,32767,65535,131071,262143,262143,786431,2097151,262143,8388607,16777215,33554431,67108863,67108863,268435455,67108863,67108863,67108863,4294967295,8589934591,17179869183,34359738367,68719476735,68719476735,274877906943,68719476735,68719476735,2199023255551,4398046511103,8796093022207]))],[(0,[2,3,4,5,9,11,13,15,17,19])],false⟩),
 (38,⟨false,[],[],[(0,[0,3])],false⟩),
 (40,⟨false,[],[(5,([.run 0,.run 1,.run 2,.run 3,.run 6,.run 7,.run 4,.again 1,.again 2,.run 5,.again 1,.run 8,.run 9,.run 10,.run 11,.run 12,.run 13,.run 14,.run 15],[0,1,0,0,8,28,0,0,255,511,511,2047,4095,4095,16383,32767]))],[],false⟩),
 (42,⟨false,[],[(6,([.run 0,.run 1,.run 2,.run 5,.run 6,.run 3,.run 4,.again 1,.run 7,.run 8,.run 9,.run 10,.run 11,.run 12,.run 13,.run 14],[0,1,0,4,12,0,0,127,255,255,1023,2047,2047,8191,16383]))],[],false⟩),
 (44,⟨false,[(5,[.own 5 3 1]),(9,[.ownAll 28 3 1])],[(8,([.run 0,.run 1,.run 2,.run 3,.run 4,.run 5,.again 0,.again 3,.run 6],[0,0,0,4,12,31,63])),(19,([.run 0,.run 1,.run 2,.run 3,.run 4,.run 5,.run 6,.run 7,.run 8,.run 9,.run 10,.run 11,.run 12,.run 13,.again 0,.again 3,.again 5,.again 8,.again 11,.run 14,.run 15,.again 0,.again 3,.run 16],[0,0,3,7,0,0,0,96,224,0,992,2016,0,4096,16352,32767,65535])),(22,([.run 0,.run 1,.run 2,.run 4,.run 5,.run 3,.again 1,.run 6,.run 7,.run 8,.run 9,.run 10,.run 11,.run 12,.run 13],[0,1,0,4,0,0,63,127,127,511,1023,1023,4095,8191]))],[(0,[1,2,4,5,20,21]),(2,[1,2,4,5,41,42,43]),(4,[1,2,4,5,7,41,42,43,48,49,50])],true⟩),
 (45,⟨false,[],[(4,([.run 0,.run 1,.run 2,.run 3,.run 4,.run 5,.run 6,.run 7,.run 8,.run 9,.run 10,.run 11,.run 12,.run 13],[0,0,3,7,15,31,63,63,255,511,63,1087,4095,8191]))],[(0,[1,2,5])],false⟩),
 (46,⟨false,[],[],[],false⟩),
 (47,⟨false,[(2,[.own 3 3 1])],[],[(0,[0,3,4])],false⟩),
 (48,⟨false,[],[(4,([.run 0,.run 1,.run 2,.run 3,.run 4,.run 5,.run 6,.run 7,.run 8,.run 9,.run 10,.run 11],[0,0,0,6,15,31,63,63,63,447,1023,2047]))],[(0,[2,3,4,7])],false⟩),
 (49,⟨false,[],[(9,([.run 0,.run 1,.run 2,.run 3,.run 4,.run 5,.run 6,.run 7,.run 8,.run 9,.run 10,.run 11,.run 12,.run 13,.run 14,.run 15],[0,0,0,0,12,28,60,124,124,124,124,1916,4092,8188,16383,32767]))],[(0,[1,2,5,6]),(2,[1,2,5,6,7])],false⟩),
 (86,⟨true,[],[],[],false⟩),
 (87,⟨true,[],[],[],false⟩),
 (88,⟨true,[(5,[.ownC 12 1 4 1,.ownC 12 2 26 1]),(26,[.frz 16])],[(8,([.run 0,.run 1,.run 2,.run 3,.run 4,.run 5,.run 6,.run 7,.run 8,.run 9,.run 10,.run 11,.again 4,.run 12,.run 13,.run 14,.run 15],[0,0,2,6,14,0,0,0,192,448,992,2016,4094,8191,16383,32767])),(23,([.run 0,.run 1,.run 2,.run 3,.run 4,.run 5,.run 6,.run 7,.run 9,.run 10,.run 11,.run 12,.run 13,.run 14,.again 5,.again 12,.run 8,.again 12,.run 15,.run 16,.run 17,.run 18,.run 19,.run 20,.run 21],[0,0,0,4,12,28,0,64,252,0,512,1536,3584,0,8192,32764,65533,131069,262141,524287,1048575,2097151]))],[(0,[0,1,3,4,12,13,14,15]),(2,[0,1,3,4,12,13,14,15,16,61,62])],false⟩),
 (90,⟨false,[],[(1,([.run 0,.run 1,.run 2,.run 3,.run 4,.run 6,.run 7,.run 8,.run 9,.run 5,.again 0,.again 6,.again 8,.run 10,.again 0,.run 11,.run 12,.run 13],[0,0,0,4,0,30,0,0,128,0,1022,2047,4095,8191]))],[],false⟩),
 (92,⟨true,[(2,[.own 7 3 1])],[],[(0,[2,3,7,12,13,14])],false⟩),
 (93,⟨false,[],[],[],false⟩),
 (94,⟨false,[],[],[],false⟩),
 (96,⟨true,[(5,[.ownC 12 1 4 1,.ownC 12 2 26 1]),(26,[.frz 16])],[(8,([.run 0,.run 1,.run 2,.run 3,.run 4,.run 5,.run 6,.run 7,.run 8,.run 9,.run 10,.run 11,.again 4,.run 12,.run 13,.run 14,.run 15],[0,0,2,6,14,0,0,0,192,448,992,2016,4094,8191,16383,32767])),(23,([.run 0,.run 1,.run 2,.run 3,.run 4,.run 5,.run 6,.run 7,.run 9,.run 10,.run 11,.run 12,.run 13,.run 14,.again 5,.again 12,.run 8,.again 12,.run 15,.run 16,.run 17,.run 18,.run 19,.run 20,.run 21],[0,0,0,4,12,28,0,64,252,0,512,1536,3584,0,8192,32764,65533,131069,262141,524287,1048575,2097151]))],[(0,[0,1,3,4,12,13,14,15]),(2,[0,1,3,4,12,13,14,15,16,61,62])],false⟩),
 (97,⟨false,[],[],[],false⟩),
 (98,⟨false,[],[],[],false⟩),
 (99,⟨false,[],[],[],false⟩),
 (100,⟨true,[(5,[.ownC 12 1 4 1,.ownC 12 2 26 1]),(26,[.frz 16])],[(8,([.run 0,.run 1,.run 2,.run 3,.run 4,.run 5,.run 6,.run 7,.run 8,.run 9,.run 10,.run 11,.again 4,.run 12,.run 13,.run 14,.run 15],[0,0,2,6,14,0,0,0,192,448,992,2016,4094,8191,16383,32767])),(23,([.run 0,.run 1,.run 2,.run 3,.run 4,.run 5,.run 6,.run 7,.run 9,.run 10,.run 11,.run 12,.run 13,.run 14,.again 5,.again 12,.run 8,.again 12,.run 15,.run 16,.run 17,.run 18,.run 19,.run 20,.run 21],[0,0,0,4,12,28,0,64,252,0,512,1536,3584,0,8192,32764,65533,131069,262141,524287,1048575,2097151]))],[(0,[0,1,3,4,12,13,14,15]),(2,[0,1,3,4,12,13,14,15,16,61,62])],false⟩),
 (101,⟨false,[(2,[.own 7 3 1])],[],[(0,[1,2,7,11,12,13])],false⟩),
 (102,⟨false,[],[(5,([.run 0,.run 1,.run 2,.run 3,.run 4,.run 5,.run 6,.run 7,.run 8,.run 9,.run 10,.run 11,.run 12,.again 4,.again 9,.run 13,.run 14],[0,0,0,6,14,0,0,64,224,480,992,2046,4094,8191,16383]))],[(0,[0,3,4])],false⟩),
 (103,⟨false,[],[(1,([.run 0,.run 2,.run 1,.again 2,.run 3,.run 4,.run 5],[0,1,0,7,15,31]))],[],false⟩),
 (104,⟨false,[],[],[],false⟩),
 (122,⟨true,[],[],[],false⟩),
 (123,⟨false,[(2,[.own 3 5 1])],[],[(0,[3,6,7,8])],false⟩),
 (124,⟨true,[],[(6,([.run 0,.run 1,.run 2,.run 3,.run 4,.run 5,.run 6,.run 7,.run 8,.run 9],[0,0,3,7,0,0,32,112,240,511])),(11,([.run 0,.run 1,.run 2,.run 3,.run 4,.run 5,.run 6,.run 7,.run 8,.run 9],[0,0,3,7,0,0,32,112,240,511]))],[(0,[0,3]),(2,[0,3,4,5])],false⟩),
 (125,⟨false,[],[],[],false⟩),
 (126,⟨false,[],[],[(0,[0,1,7,8])],false⟩),
 (138,⟨true,[],[(17,([.run 0,.run 1,.run 2,.run 3,.run 4,.run 5,.run 6,.run 7,.run 8,.run 9,.run 10,.run 11,.run 12,.run 13,.run 14],[0,1,3,7,7,23,63,127,7,7,775,1799,4095,8191,16383]))],[(0,[0,1,2,3,8,9])],false⟩),
 (139,⟨false,[],[],[],false⟩),
 (144,⟨true,[],[(4,([.run 0,.run 1,.run 2,.run 3,.run 4,.run 5,.run 6,.run 7,.run 8,.run 9,.run 10,.run 11,.run 12,.run 13,.run 14],[0,0,3,7,15,15,63,127,15,15,527,1807,3855,8191,16383])),(6,([.run 0,.run 1,.run 2,.run 3,.run 4,.run 5,.run 6,.run 7,.run 8,.run 9,.run 10,.run 11,.run 12,.run 13,.run 14,.run 15,.run 16,.run 17],[0,0,0,0,8,0,0,64,224,480,0,0,3072,7168,16355,32739,65535,131071]))],[(0,[0,1,2,6]),(2,[0,1,2,6,7])],false⟩),
 (150,⟨false,[],[],[],false⟩),
 (154,⟨false,[],[],[],false⟩),
 (161,⟨false,[],[],[],false⟩)]
noncomputable def Q:Par:=⟨Tryz.prog,λf=>(zyr f yl7).getD ⟨false,[],[],[],false⟩,λf=>[11].any (Nat.beq f),λf=>(decide (f=86)||decide (f=87))⟩
theorem xor {f:FuncId}:Q.fr f=(decide (f=86)||decide (f=87)):=rfl
attribute [simp] xor
theorem Q_P:Q.P=Tryz.prog:=rfl
theorem xs3:Q.ann 12=⟨false,[],[],[(0,[0,3]),(2,[0,3,4,5])],false⟩:=by kernel_rfl
theorem xs4:Q.ann 13=⟨false,[],[],[(0,[0,3])],false⟩:=by kernel_rfl
theorem xos:gpB (Q.ann 19).pl Tryz.f19.body=true:=by kernel_rfl
theorem xxc:Q.ann 19=⟨false,[],[(7,([.run 0,.run 1,.run 2,.run 3,.run 4,.run 5,.run 6,.run 7,.run 8],[0,1,0,7,15,31,0,64,255]))],[(0,[1,3,4]),(2,[1,3,4,5])],false⟩:=by kernel_rfl
theorem ydr:Q.ann 18=⟨false,[],[],[(0,[1,3,43,44,45]),(2,[1,3,43,44,45,54,55,56])],false⟩:=by kernel_rfl
theorem xs5:Q.ann 58=⟨false,[],[],[],false⟩:=by kernel_rfl
theorem xot:gpB (Q.ann 14).pl Tryz.f14.body=true:=by kernel_rfl
theorem xxd:Q.ann 14=⟨false,[],[(7,([.run 0,.run 1,.run 2,.run 3,.run 4,.run 5,.run 6,.run 7,.run 8,.run 9,.run 10,.run 11,.run 12,.run 13],[0,0,3,7,15,31,63,63,255,511,63,1087,4095,8191])),(9,([.run 0,.run 1,.run 2,.run 3,.run 4,.run 5,.run 6,.run 7],[0,0,0,0,12,28,63,127]))],[(0,[2,3,8,9])],false⟩:=by kernel_rfl
theorem yl8:Q.ann 21=⟨false,[],[],[],false⟩:=by kernel_rfl
theorem xs6:Q.ann 16=⟨false,[],[],[(0,[1,3,31,32,33])],false⟩:=by kernel_rfl
theorem xxe:Q.ann 20=⟨false,[],[],[],false⟩:=by kernel_rfl
theorem xs7:Q.ann 60=⟨false,[],[],[],false⟩:=by kernel_rfl
theorem yds:Q.ann 73=⟨false,[],[],[],false⟩:=by kernel_rfl
theorem xxf:Q.ann 108=⟨false,[],[],[],false⟩:=by kernel_rfl
theorem yea:Q.ann 120=⟨false,[],[],[(0,[0,1,7,8])],false⟩:=by kernel_rfl
theorem xs8:gpB (Q.ann 110).pl Tryz.f110.body=true:=by kernel_rfl
theorem yyt:Q.ann 110=⟨true,[(5,[.ownC 12 1 4 1,.ownC 12 2 26 1]),(26,[.frz 16])],[(8,([.run 0,.run 1,.run 2,.run 3,.run 4,.run 5,.run 6,.run 7,.run 8,.run 9,.run 10,.run 11,.again 4,.run 12,.run 13,.run 14,.run 15],[0,0,2,6,14,0,0,0,192,448,992,2016,4094,8191,16383,32767])),(23,([.run 0,.run 1,.run 2,.run 3,.run 4,.run 5,.run 6,.run 7,.run 9,.run 10,.run 11,.run 12,.run 13,.run 14,.again 5,.again 12,.run 8,.again 12,.run 15,.run 16,.run 17,.run 18,.run 19,.run 20,.run 21],[0,0,0,4,12,28,0,64,252,0,512,1536,3584,0,8192,32764,65533,131069,262141,524287,1048575,2097151]))],[(0,[0,1,3,4,12,13,14,15]),(2,[0,1,3,4,12,13,14,15,16,61,62])],false⟩:=by kernel_rfl
theorem ysv:Q.ann 89=⟨false,[],[],[],false⟩:=by kernel_rfl
theorem ydt:Q.ann 91=⟨false,[],[],[],false⟩:=by kernel_rfl
theorem xou:gpB (Q.ann 62).pl Tryz.f62.body=true:=by kernel_rfl
theorem ydu:Q.ann 62=⟨true,[],[(1,([.run 0,.run 1,.run 2,.run 3,.run 4,.run 5,.run 6,.run 8,.run 9,.run 7,.again 1,.again 3,.again 4,.run 10,.run 11,.run 12,.run 13,.run 14,.run 15],[0,1,0,4,12,28,0,64,0,0,1023,2047,4095,4095,8191,32767]))],[],false⟩:=by kernel_rfl
theorem xxg:Q.ann 111=⟨false,[],[],[],false⟩:=by kernel_rfl
theorem yeb:Q.ann 112=⟨false,[],[],[],false⟩:=by kernel_rfl
theorem xxh:Q.ann 127=⟨true,[],[],[],false⟩:=by kernel_rfl
theorem ysw:Q.ann 140=⟨true,[(3,[.own 5 3 1])],[],[(0,[0,3,4,5,22,23,24]),(2,[0,3,4,5,8]),(4,[0,3,4,5,8,57,58,59])],false⟩:=by kernel_rfl
theorem xxi:Q.ann 141=⟨false,[(2,[.ownAll 3 3 1])],[],[(0,[3,17,18,19]),(2,[3,4,17,18,19,24,25,26])],false⟩:=by kernel_rfl
theorem xxj:Q.ann 128=⟨false,[(14,[.frz 8]),(22,[.frz 15])],[],[(0,[0,1,2,7,8,9,21,22]),(2,[0,2,7,8,14]),(4,[0,2,7,8,14,15,16,51,52])],false⟩:=by kernel_rfl
theorem xxk:Q.ann 142=⟨true,[],[],[],false⟩:=by kernel_rfl
theorem xs9:gpB (Q.ann 129).pl Tryz.f129.body=true:=by kernel_rfl
theorem yec:Q.ann 129=⟨false,[],[(1,([.run 0,.run 1,.run 2,.run 3,.run 4,.run 5,.run 6,.run 7,.run 8,.run 9,.run 10,.run 11,.run 12],[0,0,3,7,0,16,48,112,0,496,1008,2047,4095]))],[],false⟩:=by kernel_rfl
theorem xxl:Q.ann 130=⟨false,[],[],[(0,[0,2,7,26,27,28])],false⟩:=by kernel_rfl
theorem xxm:Q.ann 131=⟨true,[],[],[],false⟩:=by kernel_rfl
theorem xxn:Q.ann 143=⟨true,[],[],[],false⟩:=by kernel_rfl
theorem xxo:Q.ann 155=⟨true,[],[],[],false⟩:=by kernel_rfl
theorem xxp:Q.ann 165=⟨true,[(29,[.frzP 12])],[],[(0,[0,1,3,4,10,11,12,13,14,15,16]),(2,[0,1,3,4,10,11,12,13,17])],false⟩:=by kernel_rfl
theorem xxq:Q.ann 169=⟨false,[],[],[],false⟩:=by kernel_rfl
theorem xxr:gpB (Q.ann 109).pl Tryz.f109.body=true:=by kernel_rfl
theorem yyu:Q.ann 109=⟨false,[],[(17,([.run 0,.run 1,.run 2,.run 3,.run 4,.run 5,.run 6,.run 7,.run 8,.run 9,.run 10,.run 11,.run 12,.run 13,.run 14],[0,1,3,7,0,16,48,0,0,511,1023,2047,2047,4095,16383])),(20,([.run 0,.run 1,.run 2,.run 3,.run 4,.run 5,.run 6,.run 7,.run 8,.run 9,.run 10,.run 11,.run 12,.run 13,.run 14],[0,1,3,7,0,16,48,112,0,256,768,1792,4095,8191,16383]))],[(2,[1,2,4,5,7,8,51,52,53])],false⟩:=by kernel_rfl
theorem ydv:gpB (Q.ann 132).pl Tryz.f132.body=true:=by kernel_rfl
theorem zhl:Q.ann 132=⟨false,[],[(1,([.run 0,.run 1,.run 2,.run 3,.run 4,.run 5,.run 6,.run 7,.run 8,.run 9,.run 10,.run 11,.run 12],[0,1,3,7,0,0,48,127,255,0,1023,2047,4095]))],[],false⟩:=by kernel_rfl
theorem xra:gpB (Q.ann 133).pl Tryz.f133.body=true:=by kernel_rfl
theorem ysx:Q.ann 133=⟨false,[],[(1,([.run 0,.run 1,.run 2,.run 3,.run 4,.run 5,.run 6,.run 7,.run 8,.run 9],[0,1,3,7,0,0,48,127,255,511]))],[],false⟩:=by kernel_rfl
theorem yed:Q.ann 134=⟨false,[],[],[],false⟩:=by kernel_rfl
theorem xxs:Q.ann 61=⟨false,[],[],[],false⟩:=by kernel_rfl
theorem xrb:gpB (Q.ann 117).pl Tryz.f117.body=true:=by kernel_rfl
theorem ysy:Q.ann 117=⟨true,[(5,[.ownC 12 1 4 1,.ownC 12 2 26 1]),(26,[.frz 16])],[(8,([.run 0,.run 1,.run 2,.run 3,.run 4,.run 5,.run 6,.run 7,.run 8,.run 9,.run 10,.run 11,.again 4,.run 12,.run 13,.run 14,.run 15],[0,0,2,6,14,0,0,0,192,448,992,2016,4094,8191,16383,32767])),(23,([.run 0,.run 1,.run 2,.run 3,.run 4,.run 5,.run 6,.run 7,.run 9,.run 10,.run 11,.run 12,.run 13,.run 14,.again 5,.again 12,.run 8,.again 12,.run 15,.run 16,.run 17,.run 18,.run 19,.run 20,.run 21],[0,0,0,4,12,28,0,64,252,0,512,1536,3584,0,8192,32764,65533,131069,262141,524287,1048575,2097151]))],[(0,[0,1,3,4,12,13,14,15]),(2,[0,1,3,4,12,13,14,15,16,61,62])],false⟩:=by kernel_rfl
theorem yee:Q.ann 116=⟨false,[],[],[],false⟩:=by kernel_rfl
theorem xrc:gpB (Q.ann 118).pl Tryz.f118.body=true:=by kernel_rfl
theorem yef:Q.ann 118=⟨false,[],[(1,([.run 0,.run 1,.run 2,.run 3,.run 5,.run 6,.run 7,.run 8,.run 4,.again 5,.again 7,.run 9,.run 10,.run 11,.run 12],[0,0,2,0,15,0,0,64,0,511,1023,2047,4095]))],[],false⟩:=by kernel_rfl
theorem xrd:gpB (Q.ann 119).pl Tryz.f119.body=true:=by kernel_rfl
theorem ysz:Q.ann 119=⟨false,[],[(1,([.run 0,.run 1,.run 2,.run 3,.run 4,.run 6,.run 7,.run 8,.run 9,.run 5,.again 0,.again 6,.again 7,.again 9,.run 10,.again 0,.run 11,.run 12],[0,0,0,0,8,30,0,0,0,256,1022,2047,4095]))],[],false⟩:=by kernel_rfl
theorem yeg:Q.ann 115=⟨true,[],[],[],false⟩:=by kernel_rfl
theorem yeh:Q.ann 135=⟨false,[],[],[],false⟩:=by kernel_rfl
theorem yei:Q.ann 136=⟨false,[],[],[],false⟩:=by kernel_rfl
theorem yej:Q.ann 137=⟨false,[],[],[],false⟩:=by kernel_rfl
theorem ydw:Q.ann 68=⟨false,[],[],[],false⟩:=by kernel_rfl
theorem xov:gpB (Q.ann 69).pl Tryz.f69.body=true:=by kernel_rfl
theorem ydx:Q.ann 69=⟨true,[],[(3,([.run 0,.run 1,.run 2,.run 4,.run 7,.run 8,.run 3,.again 1,.again 4,.run 5,.run 6,.again 1,.run 9,.run 10,.run 11,.run 12,.run 13],[0,1,0,4,0,28,60,0,0,511,1023,1023,4095,8191]))],[],false⟩:=by kernel_rfl
theorem xre:Q.ann 33=⟨false,[],[],[],false⟩:=by kernel_rfl
theorem xow:gpB (Q.ann 35).pl Tryz.f35.body=true:=by kernel_rfl
theorem xxt:Q.ann 35=⟨false,[],[(7,([.run 0,.run 1,.run 2,.run 3,.run 4,.run 5,.run 6,.run 7,.run 8,.run 9,.run 10,.run 11,.run 12,.run 13,.run 14],[0,1,3,7,0,0,32,96,224,0,992,2016,4064,8191,16383]))],[(0,[2,4,16,17])],false⟩:=by kernel_rfl
theorem gp8:gpB (Q.ann 8).pl Tryz.f8.body=true:=by kernel_rfl
theorem xp5:Q.ann 8=⟨false,[],[(18,([.run 0,.run 1,.run 3,.run 4,.run 5,.run 6,.run 2,.again 5,.run 7,.run 8,.run 9,.run 10,.run 11,.run 12,.run 14,.run 13,.run 15,.run 16,.run 17,.run 18,.run 19,.run 22,.run 20,.again 18,.run 21,.run 23,.run 24,.run 25,.run 26,.run 27,.run 29,.run 30,.run 31,.run 28,.again 29,.again 30,.run 32,.run 33,.run 34,.run 35,.run 36,.run 37,.run 39,.run 40,.run 38,.again 39,.run 41,.run 42,.run 43],[0,0,3,0,0,0,0,103,255,511,1023,2047,2047,8191,2047,32767,65535,131071,262143,262143,786431,2097151,262143,8388607,16777215,33554431,67108863,67108863,268435455,67108863,67108863,67108863,4294967295,8589934591,17179869183,34359738367,68719476735,68719476735,274877906943,68719476735,68719476735,2199023255551,4398046511103,8796093022207]))],[(0,[2,3,4,5,9,11,13,15,17,19])],false⟩:=by kernel_rfl
theorem xrf:Q.ann 38=⟨false,[],[],[(0,[0,3])],false⟩:=by kernel_rfl
theorem xox:gpB (Q.ann 40).pl Tryz.f40.body=true:=by kernel_rfl
theorem xxu:Q.ann 40=⟨false,[],[(5,([.run 0,.run 1,.run 2,.run 3,.run 6,.run 7,.run 4,.again 1,.again 2,.run 5,.again 1,.run 8,.run 9,.run 10,.run 11,.run 12,.run 13,.run 14,.run 15],[0,1,0,0,8,28,0,0,255,511,511,2047,4095,4095,16383,32767]))],[],false⟩:=by kernel_rfl
theorem xoy:gpB (Q.ann 42).pl Tryz.f42.body=true:=by kernel_rfl
theorem xxv:Q.ann 42=⟨false,[],[(6,([.run 0,.run 1,.run 2,.run 5,.run 6,.run 3,.run 4,.again 1,.run 7,.run 8,.run 9,.run 10,.run 11,.run 12,.run 13,.run 14],[0,1,0,4,12,0,0,127,255,255,1023,2047,2047,8191,16383]))],[],false⟩:=by kernel_rfl
theorem xoz:gpB (Q.ann 44).pl Tryz.f44.body=true:=by kernel_rfl
theorem xxw:Q.ann 44=⟨false,[(5,[.own 5 3 1]),(9,[.ownAll 28 3 1])],[(8,([.run 0,.run 1,.run 2,.run 3,.run 4,.run 5,.again 0,.again 3,.run 6],[0,0,0,4,12,31,63])),(19,([.run 0,.run 1,.run 2,.run 3,.run 4,.run 5,.run 6,.run 7,.run 8,.run 9,.run 10,.run 11,.run 12,.run 13,.again 0,.again 3,.again 5,.again 8,.again 11,.run 14,.run 15,.again 0,.again 3,.run 16],[0,0,3,7,0,0,0,96,224,0,992,2016,0,4096,16352,32767,65535])),(22,([.run 0,.run 1,.run 2,.run 4,.run 5,.run 3,.again 1,.run 6,.run 7,.run 8,.run 9,.run 10,.run 11,.run 12,.run 13],[0,1,0,4,0,0,63,127,127,511,1023,1023,4095,8191]))],[(0,[1,2,4,5,20,21]),(2,[1,2,4,5,41,42,43]),(4,[1,2,4,5,7,41,42,43,48,49,50])],true⟩:=by kernel_rfl
theorem xo0:gpB (Q.ann 45).pl Tryz.f45.body=true:=by kernel_rfl
theorem xxx:Q.ann 45=⟨false,[],[(4,([.run 0,.run 1,.run 2,.run 3,.run 4,.run 5,.run 6,.run 7,.run 8,.run 9,.run 10,.run 11,.run 12,.run 13],[0,0,3,7,15,31,63,63,255,511,63,1087,4095,8191]))],[(0,[1,2,5])],false⟩:=by kernel_rfl
theorem xxy:Q.ann 46=⟨false,[],[],[],false⟩:=by kernel_rfl
theorem xxz:Q.ann 47=⟨false,[(2,[.own 3 3 1])],[],[(0,[0,3,4])],false⟩:=by kernel_rfl
theorem xo1:gpB (Q.ann 48).pl Tryz.f48.body=true:=by kernel_rfl
theorem ydy:Q.ann 48=⟨false,[],[(4,([.run 0,.run 1,.run 2,.run 3,.run 4,.run 5,.run 6,.run 7,.run 8,.run 9,.run 10,.run 11],[0,0,0,6,15,31,63,63,63,447,1023,2047]))],[(0,[2,3,4,7])],false⟩:=by kernel_rfl
theorem xo2:gpB (Q.ann 49).pl Tryz.f49.body=true:=by kernel_rfl
theorem ydz:Q.ann 49=⟨false,[],[(9,([.run 0,.run 1,.run 2,.run 3,.run 4,.run 5,.run 6,.run 7,.run 8,.run 9,.run 10,.run 11,.run 12,.run 13,.run 14,.run 15],[0,0,0,0,12,28,60,124,124,124,124,1916,4092,8188,16383,32767]))],[(0,[1,2,5,6]),(2,[1,2,5,6,7])],false⟩:=by kernel_rfl
theorem yvm:Q.ann 86=⟨true,[],[],[],false⟩:=by kernel_rfl
theorem xp6:gpB (Q.ann 87).pl Tryz.f87.body=true:=by kernel_rfl
theorem zlf:Q.ann 87=⟨true,[],[],[],false⟩:=by kernel_rfl
theorem xo3:gpB (Q.ann 88).pl Tryz.f88.body=true:=by kernel_rfl
theorem yd0:Q.ann 88=⟨true,[(5,[.ownC 12 1 4 1,.ownC 12 2 26 1]),(26,[.frz 16])],[(8,([.run 0,.run 1,.run 2,.run 3,.run 4,.run 5,.run 6,.run 7,.run 8,.run 9,.run 10,.run 11,.again 4,.run 12,.run 13,.run 14,.run 15],[0,0,2,6,14,0,0,0,192,448,992,2016,4094,8191,16383,32767])),(23,([.run 0,.run 1,.run 2,.run 3,.run 4,.run 5,.run 6,.run 7,.run 9,.run 10,.run 11,.run 12,.run 13,.run 14,.again 5,.again 12,.run 8,.again 12,.run 15,.run 16,.run 17,.run 18,.run 19,.run 20,.run 21],[0,0,0,4,12,28,0,64,252,0,512,1536,3584,0,8192,32764,65533,131069,262141,524287,1048575,2097151]))],[(0,[0,1,3,4,12,13,14,15]),(2,[0,1,3,4,12,13,14,15,16,61,62])],false⟩:=by kernel_rfl
theorem xo4:gpB (Q.ann 90).pl Tryz.f90.body=true:=by kernel_rfl
theorem xx0:Q.ann 90=⟨false,[],[(1,([.run 0,.run 1,.run 2,.run 3,.run 4,.run 6,.run 7,.run 8,.run 9,.run 5,.again 0,.again 6,.again 8,.run 10,.again 0,.run 11,.run 12,.run 13],[0,0,0,4,0,30,0,0,128,0,1022,2047,4095,8191]))],[],false⟩:=by kernel_rfl
theorem yd1:Q.ann 92=⟨true,[(2,[.own 7 3 1])],[],[(0,[2,3,7,12,13,14])],false⟩:=by kernel_rfl
theorem yd2:Q.ann 93=⟨false,[],[],[],false⟩:=by kernel_rfl
theorem xrg:Q.ann 94=⟨false,[],[],[],false⟩:=by kernel_rfl
theorem xo5:gpB (Q.ann 96).pl Tryz.f96.body=true:=by kernel_rfl
theorem yd3:Q.ann 96=⟨true,[(5,[.ownC 12 1 4 1,.ownC 12 2 26 1]),(26,[.frz 16])],[(8,([.run 0,.run 1,.run 2,.run 3,.run 4,.run 5,.run 6,.run 7,.run 8,.run 9,.run 10,.run 11,.again 4,.run 12,.run 13,.run 14,.run 15],[0,0,2,6,14,0,0,0,192,448,992,2016,4094,8191,16383,32767])),(23,([.run 0,.run 1,.run 2,.run 3,.run 4,.run 5,.run 6,.run 7,.run 9,.run 10,.run 11,.run 12,.run 13,.run 14,.again 5,.again 12,.run 8,.again 12,.run 15,.run 16,.run 17,.run 18,.run 19,.run 20,.run 21],[0,0,0,4,12,28,0,64,252,0,512,1536,3584,0,8192,32764,65533,131069,262141,524287,1048575,2097151]))],[(0,[0,1,3,4,12,13,14,15]),(2,[0,1,3,4,12,13,14,15,16,61,62])],false⟩:=by kernel_rfl
theorem xrh:Q.ann 97=⟨false,[],[],[],false⟩:=by kernel_rfl
theorem xri:Q.ann 98=⟨false,[],[],[],false⟩:=by kernel_rfl
theorem yd4:Q.ann 99=⟨false,[],[],[],false⟩:=by kernel_rfl
theorem xrj:gpB (Q.ann 100).pl Tryz.f100.body=true:=by kernel_rfl
theorem ys0:Q.ann 100=⟨true,[(5,[.ownC 12 1 4 1,.ownC 12 2 26 1]),(26,[.frz 16])],[(8,([.run 0,.run 1,.run 2,.run 3,.run 4,.run 5,.run 6,.run 7,.run 8,.run 9,.run 10,.run 11,.again 4,.run 12,.run 13,.run 14,.run 15],[0,0,2,6,14,0,0,0,192,448,992,2016,4094,8191,16383,32767])),(23,([.run 0,.run 1,.run 2,.run 3,.run 4,.run 5,.run 6,.run 7,.run 9,.run 10,.run 11,.run 12,.run 13,.run 14,.again 5,.again 12,.run 8,.again 12,.run 15,.run 16,.run 17,.run 18,.run 19,.run 20,.run 21],[0,0,0,4,12,28,0,64,252,0,512,1536,3584,0,8192,32764,65533,131069,262141,524287,1048575,2097151]))],[(0,[0,1,3,4,12,13,14,15]),(2,[0,1,3,4,12,13,14,15,16,61,62])],false⟩:=by kernel_rfl
theorem xx1:Q.ann 101=⟨false,[(2,[.own 7 3 1])],[],[(0,[1,2,7,11,12,13])],false⟩:=by kernel_rfl
theorem xrk:gpB (Q.ann 102).pl Tryz.f102.body=true:=by kernel_rfl
theorem yyv:Q.ann 102=⟨false,[],[(5,([.run 0,.run 1,.run 2,.run 3,.run 4,.run 5,.run 6,.run 7,.run 8,.run 9,.run 10,.run 11,.run 12,.again 4,.again 9,.run 13,.run 14],[0,0,0,6,14,0,0,64,224,480,992,2046,4094,8191,16383]))],[(0,[0,3,4])],false⟩:=by kernel_rfl
theorem xrl:gpB (Q.ann 103).pl Tryz.f103.body=true:=by kernel_rfl
theorem ys1:Q.ann 103=⟨false,[],[(1,([.run 0,.run 2,.run 1,.again 2,.run 3,.run 4,.run 5],[0,1,0,7,15,31]))],[],false⟩:=by kernel_rfl
theorem yek:Q.ann 104=⟨false,[],[],[],false⟩:=by kernel_rfl
theorem zev:Q.ann 122=⟨true,[],[],[],false⟩:=by kernel_rfl
theorem yyw:Q.ann 123=⟨false,[(2,[.own 3 5 1])],[],[(0,[3,6,7,8])],false⟩:=by kernel_rfl
theorem yd5:gpB (Q.ann 124).pl Tryz.f124.body=true:=by kernel_rfl
theorem zp4:Q.ann 124=⟨true,[],[(6,([.run 0,.run 1,.run 2,.run 3,.run 4,.run 5,.run 6,.run 7,.run 8,.run 9],[0,0,3,7,0,0,32,112,240,511])),(11,([.run 0,.run 1,.run 2,.run 3,.run 4,.run 5,.run 6,.run 7,.run 8,.run 9],[0,0,3,7,0,0,32,112,240,511]))],[(0,[0,3]),(2,[0,3,4,5])],false⟩:=by kernel_rfl
theorem xx2:Q.ann 125=⟨false,[],[],[],false⟩:=by kernel_rfl
theorem xx3:Q.ann 126=⟨false,[],[],[(0,[0,1,7,8])],false⟩:=by kernel_rfl
theorem xx4:gpB (Q.ann 138).pl Tryz.f138.body=true:=by kernel_rfl
theorem zhm:Q.ann 138=⟨true,[],[(17,([.run 0,.run 1,.run 2,.run 3,.run 4,.run 5,.run 6,.run 7,.run 8,.run 9,.run 10,.run 11,.run 12,.run 13,.run 14],[0,1,3,7,7,23,63,127,7,7,775,1799,4095,8191,16383]))],[(0,[0,1,2,3,8,9])],false⟩:=by kernel_rfl
theorem xx5:Q.ann 139=⟨false,[],[],[],false⟩:=by kernel_rfl
theorem xx6:gpB (Q.ann 144).pl Tryz.f144.body=true:=by kernel_rfl
theorem zhn:Q.ann 144=⟨true,[],[(4,([.run 0,.run 1,.run 2,.run 3,.run 4,.run 5,.run 6,.run 7,.run 8,.run 9,.run 10,.run 11,.run 12,.run 13,.run 14],[0,0,3,7,15,15,63,127,15,15,527,1807,3855,8191,16383])),(6,([.run 0,.run 1,.run 2,.run 3,.run 4,.run 5,.run 6,.run 7,.run 8,.run 9,.run 10,.run 11,.run 12,.run 13,.run 14,.run 15,.run 16,.run 17],[0,0,0,0,8,0,0,64,224,480,0,0,3072,7168,16355,32739,65535,131071]))],[(0,[0,1,2,6]),(2,[0,1,2,6,7])],false⟩:=by kernel_rfl
theorem yel:Q.ann 150=⟨false,[],[],[],false⟩:=by kernel_rfl
theorem xx7:Q.ann 154=⟨false,[],[],[],false⟩:=by kernel_rfl
theorem xx8:Q.ann 161=⟨false,[],[],[],false⟩:=by kernel_rfl
end Go.Dv
