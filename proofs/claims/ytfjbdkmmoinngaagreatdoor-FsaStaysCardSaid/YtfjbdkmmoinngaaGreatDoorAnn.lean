/- The annotations of the functions (printed by ann.py). -/
import Derived.Test.YtfjbdkmmoinngaaGreatDoorDvB
import Derived.Test.YtfjbdkmmoinngaaGreatDoorProg
set_option linter.unusedVariables false
set_option linter.unusedSimpArgs false
set_option linter.unusedSectionVars false
set_option maxRecDepth 100000
namespace Go.Dv
open Go Go.Sim Go.Proofs
noncomputable def ykg:List (Nat×Ann):=[
 (12,⟨false,[],[],[(0,[0,3]),(2,[0,3,4,5])],false⟩),
 (63,⟨false,[],[(6,([.run 0,.run 1,.run 2,.run 3,.run 4,.run 5,.run 6,.run 7,.run 8],[0,0,3,7,0,0,48,112,255]))],[(0,[0,1,5])],false⟩),
 (18,⟨false,[],[],[(0,[1,3,43,44,45]),(2,[1,3,43,44,45,54,55,56])],false⟩),
 (22,⟨false,[],[(6,([.run 0,.run 1,.run 2,.run 3,.run 4,.run 5,.run 6,.run 7,.run 8,.run 9,.run 10],[0,1,0,7,15,0,32,0,224,480,1023])),(11,([.run 0,.run 1,.run 2,.run 3,.run 4,.run 5,.run 6,.run 7,.run 8,.run 9,.run 10,.run 11],[0,1,0,7,15,0,32,0,224,480,1023,2047]))],[(0,[2,3,5]),(2,[2,3,6])],false⟩),
 (16,⟨false,[],[],[(0,[1,3,31,32,33])],false⟩),
 (20,⟨false,[],[],[],false⟩),
 (23,⟨false,[],[],[],false⟩),
 (25,⟨false,[],[],[],false⟩),
 (60,⟨false,[],[],[],false⟩),
 (64,⟨false,[],[(6,([.run 0,.run 1,.run 2,.run 3,.run 4,.run 5,.run 6,.run 7,.run 8],[0,0,3,7,0,0,48,112,255]))],[(0,[0,1,12,13])],false⟩),
 (65,⟨false,[],[],[(0,[1,2,15,16,17])],false⟩),
 (66,⟨false,[],[(6,([.run 0,.run 1,.run 2,.run 3,.run 4,.run 5,.run 6,.run 7,.run 8],[0,0,3,7,0,0,48,112,255]))],[(0,[0,1,12,13])],false⟩),
 (73,⟨false,[],[],[],false⟩),
 (108,⟨false,[],[],[],false⟩),
 (120,⟨false,[],[],[(0,[0,1,7,8])],false⟩),
 (110,⟨true,[(5,[.ownC 12 1 4 1,.ownC 12 2 26 1]),(26,[.frz 16])],[(8,([.run 0,.run 1,.run 2,.run 3,.run 4,.run 5,.run 6,.run 7,.run 8,.run 9,.run 10,.run 11,.again 4,.run 12,.run 13,.run 14,.run 15],[0,0,2,6,14,0,0,0,192,448,992,2016,4094,8191,16383,32767])),(23,([.run 0,.run 1,.run 2,.run 3,.run 4,.run 5,.run 6,.run 7,.run 9,.run 10,.run 11,.run 12,.run 13,.run 14,.again 5,.again 12,.run 8,.again 12,.run 15,.run 16,.run 17,.run 18,.run 19,.run 20,.run 21],[0,0,0,4,12,28,0,64,252,0,512,1536,3584,0,8192,32764,65533,131069,262141,524287,1048575,2097151]))],[(0,[0,1,3,4,12,13,14,15]),(2,[0,1,3,4,12,13,14,15,16,61,62])],false⟩),
 (89,⟨false,[],[],[],false⟩),
 (91,⟨false,[],[],[],false⟩),
 (62,⟨true,[],[(1,([.run 0,.run 1,.run 2,.run 3,.run 4,.run 5,.run 6,.run 8,.run 9,.run 7,.again 1,.again 3,.again 4,.run 10,.run 11,.run 12,.run 13,.run 14,.run 15],[0,1,0,4,12,28,0,64,0,0,1023,2047,4095,4095,8191,32767]))],[],false⟩),
 (111,⟨false,[],[],[],false⟩),
 (112,⟨false,[],[],[],false⟩),
 (127,⟨true,[],[],[],false⟩),
 (140,⟨true,[(3,[.own 5 3 1])],[],[(0,[0,3,4,5,22,23,24]),(2,[0,3,4,5,8]),(4,[0,3,4,5,8,57,58,59])],false⟩),
 (141,⟨false,[(2,[.ownAll 3 3 1])],[],[(0,[3,17,18,19]),(2,[3,4,17,18,19,24,25,26])],false⟩),
 (128,⟨false,[(14,[.frz 8]),(22,[.frz 15])],[],[(0,[0,1,2,7,8,9,21,22]),(2,[0,2,7,8,14]),(4,[0,2,7,8,14,15,16,51,52])],false⟩),
 (142,⟨true,[],[],[],false⟩),
 (129,⟨false,[],[(1,([.run 0,.run 1,.run 2,.run 3,.run 4,.run 5,.run 6,.run 7,.run 8,.run 9,.run 10,.run 11,.run 12],[0,0,3,7,0,16,48,112,0,496,1008,2047,4095]))],[],false⟩),
 (130,⟨false,[],[],[(0,[0,2,7,26,27,28])],false⟩),
 (131,⟨true,[],[],[],false⟩),
 (143,⟨true,[],[],[],false⟩),
 (155,⟨true,[],[],[],false⟩),
 (165,⟨true,[(29,[.frzP 12])],[],[(0,[0,1,3,4,10,11,12,13,14,15,16]),(2,[0,1,3,4,10,11,12,13,17])],false⟩),
 (169,⟨false,[],[],[],false⟩),
 (109,⟨false,[],[(17,([.run 0,.run 1,.run 2,.run 3,.run 4,.run 5,.run 6,.run 7,.run 8,.run 9,.run 10,.run 11,.run 12,.run 13,.run 14],[0,1,3,7,0,16,48,0,0,511,1023,2047,2047,4095,16383])),(20,([.run 0,.run 1,.run 2,.run 3,.run 4,.run 5,.run 6,.run 7,.run 8,.run 9,.run 10,.run 11,.run 12,.run 13,.run 14],[0,1,3,7,0,16,48,112,0,256,768,1792,4095,8191,16383]))],[(2,[1,2,4,5,7,8,51,52,53])],false⟩),
 (132,⟨false,[],[(1,([.run 0,.run 1,.run 2,.run 3,.run 4,.run 5,.run 6,.run 7,.run 8,.run 9,.run 10,.run 11,.run 12],[0,1,3,7,0,0,48,127,255,0,1023,2047,4095]))],[],false⟩),
 (133,⟨false,[],[(1,([.run 0,.run 1,.run 2,.run 3,.run 4,.run 5,.run 6,.run 7,.run 8,.run 9],[0,1,3,7,0,0,48,127,255,511]))],[],false⟩),
 (134,⟨false,[],[],[],false⟩),
 (61,⟨false,[],[],[],false⟩),
 (17,⟨false,[],[],[],false⟩),
 (117,⟨true,[(5,[.ownC 12 1 4 1,.ownC 12 2 26 1]),(26,[.frz 16])],[(8,([.run 0,.run 1,.run 2,.run 3,.run 4,.run 5,.run 6,.run 7,.run 8,.run 9,.run 10,.run 11,.again 4,.run 12,.run 13,.run 14,.run 15],[0,0,2,6,14,0,0,0,192,448,992,2016,4094,8191,16383,32767])),(23,([.run 0,.run 1,.run 2,.run 3,.run 4,.run 5,.run 6,.run 7,.run 9,.run 10,.run 11,.run 12,.run 13,.run 14,.again 5,.again 12,.run 8,.again 12,.run 15,.run 16,.run 17,.run 18,.run 19,.run 20,.run 21],[0,0,0,4,12,28,0,64,252,0,512,1536,3584,0,8192,32764,65533,131069,262141,524287,1048575,2097151]))],[(0,[0,1,3,4,12,13,14,15]),(2,[0,1,3,4,12,13,14,15,16,61,62])],false⟩),
 (116,⟨false,[],[],[],false⟩),
 (118,⟨false,[],[(1,([.run 0,.run 1,.run 2,.run 3,.run 5,.run 6,.run 7,.run 8,.run 4,.again 5,.again 7,.run 9,.run 10,.run 11,.run 12],[0,0,2,0,15,0,0,64,0,511,1023,2047,4095]))],[],false⟩),
 (119,⟨false,[],[(1,([.run 0,.run 1,.run 2,.run 3,.run 4,.run 6,.run 7,.run 8,.run 9,.run 5,.again 0,.again 6,.again 7,.again 9,.run 10,.again 0,.run 11,.run 12],[0,0,0,0,8,30,0,0,0,256,1022,2047,4095]))],[],false⟩),
 (115,⟨true,[],[],[],false⟩),
 (135,⟨false,[],[],[],false⟩),
 (136,⟨false,[],[],[],false⟩),
 (137,⟨false,[],[],[],false⟩),
 (68,⟨false,[],[],[],false⟩),
 (70,⟨false,[],[],[(0,[0,1,7,8])],false⟩),
 (71,⟨true,[],[(3,([.run 0,.run 1,.run 2,.run 3,.run 4,.run 5,.run 6,.run 7,.run 8,.run 9,.run 10,.run 11,.run 12,.run 13,.run 14,.run 15],[0,0,0,0,0,0,48,112,0,0,768,1792,4083,8179,16383,32767]))],[(0,[0,2,3])],false⟩),
 (69,⟨true,[],[(3,([.run 0,.run 1,.run 2,.run 4,.run 7,.run 8,.run 3,.again 1,.again 4,.run 5,.run 6,.again 1,.run 9,.run 10,.run 11,.run 12,.run 13],[0,1,0,4,0,28,60,0,0,511,1023,1023,4095,8191]))],[],false⟩),
 (27,⟨false,[],[],[(0,[8,10,11])],false⟩),
 (33,⟨false,[],[],[],false⟩),
 (35,⟨false,[],[(7,([.run 0,.run 1,.run 2,.run 3,.run 4,.run 5,.run 6,.run 7,.run 8,.run 9,.run 10,.run 11,.run 12,.run 13,.run 14],[0,1,3,7,0,0,32,96,224,0,992,2016,4064,8191,16383]))],[(0,[2,4,16,17])],false⟩),
 (38,⟨false,[],[],[(0,[0,3])],false⟩),
 (40,⟨false,[],[(5,([.run 0,.run 1,.run 2,.run 3,.run 6,.run 7,.run 4,.again 1,.again 2,.run 5,.again 1,.run 8,.run 9,.run 10,.run 11,.run 12,.run 13,.run 14,.run 15],[0,1,0,0,8,28,0,0,255,511,511,2047,4095,4095,16383,32767]))],[],false⟩),
 (42,⟨false,[],[(6,([.run 0,.run 1,.run 2,.run 5,.run 6,.run 3,.run 4,.again 1,.run 7,.run 8,.run 9,.run 10,.run 11,.run 12,.run 13,.run 14],[0,1,0,4,12,0,0,127,255,255,1023,2047,2047,8191,16383]))],[],false⟩),
 (44,⟨false,[(5,[.own 5 3 1]),(9,[.ownAll 28 3 1])],[(8,([.run 0,.run 1,.run 2,.run 3,.run 4,.run 5,.again 0,.again 3,.run 6],[0,0,0,4,12,31,63])),(19,([.run 0,.run 1,.run 2,.run 3,.run 4,.run 5,.run 6,.run 7,.run 8,.run 9,.run 10,.run 11,.run 12,.run 13,.again 0,.again 3,.again 5,.again 8,.again 11,.run 14,.run 15,.again 0,.again 3,.run 16],[0,0,3,7,0,0,0,96,224,0,992,2016,0,4096,16352,32767,65535])),(22,([.run 0,.run 1,.run 2,.run 4,.run 5,.run 3,.again 1,.run 6,.run 7,.run 8,.run 9,.run 10,.run 11,.run 12,.run 13],[0,1,0,4,0,0,63,127,127,511,1023,1023,4095,8191]))],[(0,[1,2,4,5,20,21]),(2,[1,2,4,5,41,42,43]),(4,[1,2,4,5,7,41,42,43,48,49,50])],true⟩),
 (86,⟨true,[],[],[],false⟩),
 (87,⟨true,[],[],[],false⟩),
 (88,⟨true,[(5,[.ownC 12 1 4 1,.ownC 12 2 26 1]),(26,[.frz 16])],[(8,([.run 0,.run 1,.run 2,.run 3,.run 4,.run 5,.run 6,.run 7,.run 8,.run 9,.run 10,.run 11,.again 4,.run 12,.run 13,.run 14,.run 15],[0,0,2,6,14,0,0,0,192,448,992,2016,4094,8191,16383,32767])),(23,([.run 0,.run 1,.run 2,.run 3,.run 4,.run 5,.run 6,.run 7,.run 9,.run 10,.run 11,.run 12,.run 13,.run 14,.again 5,.again 12,.run 8,.again 12,.run 15,.run 16,.run 17,.run 18,.run 19,.run 20,.run 21],[0,0,0,4,12,28,0,64,252,0,512,1536,3584,0,8192,32764,65533,131069,262141,524287,1048575,2097151]))],[(0,[0,1,3,4,12,13,14,15]),(2,[0,1,3,4,12,13,14,15,16,61,62])],false⟩),
 (90,⟨false,[],[(1,([.run 0,.run 1,.run 2,.run 3,.run 4,.run 6,.run 7,.run 8,.run 9,.run 5,.again 0,.again 6,.again 8,.run 10,.again 0,.run 11,.run 12,.run 13],[0,0,0,4,0,30,0,0,128,0,1022,2047,4095,8191]))],[],false⟩),
 (92,⟨true,[(2,[.own 7 3 1])],[],[(0,[2,3,7,12,13,14])],false⟩),
 (93,⟨false,[],[],[],false⟩),
 (94,⟨false,[],[],[],false⟩),
 (96,⟨true,[(5,[.ownC 12 1 4 1,.ownC 12 2 26 1]),(26,[.frz 16])],[(8,([.run 0,.run 1,.run 2,.run 3,.run 4,.run 5,.run 6,.run 7,.run 8,.run 9,.run 10,.run 11,.again 4,.run 12,.run 13,.run 14,.run 15],[0,0,2,6,14,0,0,0,192,448,992,2016,4094,8191,16383,32767])),(23,([.run 0,.run 1,.run 2,.run 3,.run 4,.run 5,.run 6,.run 7,.run 9,.run 10,.run 11,.run 12,.run 13,.run 14,.again 5,.again 12,.run 8,.again 12,.run 15,.run 16,.run 17,.run 18,.run 19,.run 20,.run 21],[0,0,0,4,12,28,0,64,252,0,512,1536,3584,0,8192,32764,65533,131069,262141,524287,1048575,2097151]))],[(0,[0,1,3,4,12,13,14,15]),(2,[0,1,3,4,12,13,14,15,16,61,62])],false⟩),
 (97,⟨false,[],[],[],false⟩),
 (98,⟨false,[],[],[],false⟩),
 (99,⟨false,[],[],[],false⟩),
 (100,⟨true,[(5,[.ownC 12 1 4 1,.ownC 12 2 26 1]),(26,[.frz 16])],[(8,([.run 0,.run 1,.run 2,.run 3,.run 4,.run 5,.run 6,.run 7,.run 8,.run 9,.run 10,.run 11,.again 4,.run 12,.run 13,.run 14,.run 15],[0,0,2,6,14,0,0,0,192,448,992,2016,4094,8191,16383,32767])),(23,([.run 0,.run 1,.run 2,.run 3,.run 4,.run 5,.run 6,.run 7,.run 9,.run 10,.run 11,.run 12,.run 13,.run 14,.again 5,.again 12,.run 8,.again 12,.run 15,.run 16,.run 17,.run 18,.run 19,.run 20,.run 21],[0,0,0,4,12,28,0,64,252,0,512,1536,3584,0,8192,32764,65533,131069,262141,524287,1048575,2097151]))],[(0,[0,1,3,4,12,13,14,15]),(2,[0,1,3,4,12,13,14,15,16,61,62])],false⟩),
 (101,⟨false,[(2,[.own 7 3 1])],[],[(0,[1,2,7,11,12,13])],false⟩),
 (102,⟨false,[],[(5,([.run 0,.run 1,.run 2,.run 3,.run 4,.run 5,.run 6,.run 7,.run 8,.run 9,.run 10,.run 11,.run 12,.again 4,.again 9,.run 13,.run 14],[0,0,0,6,14,0,0,64,224,480,992,2046,4094,8191,16383]))],[(0,[0,3,4])],false⟩),
 (103,⟨false,[],[(1,([.run 0,.run 2,.run 1,.again 2,.run 3,.run 4,.run 5],[0,1,0,7,15,31]))],[],false⟩),
 (104,⟨false,[],[],[],false⟩),
 (122,⟨true,[],[],[],false⟩),
 (123,⟨false,[(2,[.own 3 5 1])],[],[(0,[3,6,7,8])],false⟩),
 (124,⟨true,[],[(6,([.run 0,.run 1,.run 2,.run 3,.run 4,.run 5,.run 6,.run 7,.run 8,.run 9],[0,0,3,7,0,0,32,112,240,511])),(11,([.run 0,.run 1,.run 2,.run 3,.run 4,.run 5,.run 6,.run 7,.run 8,.run 9],[0,0,3,7,0,0,32,112,240,511]))],[(0,[0,3]),(2,[0,3,4,5])],false⟩),
 (125,⟨false,[],[],[],false⟩),
 (126,⟨false,[],[],[(0,[0,1,7,8])],false⟩),
 (138,⟨true,[],[(17,([.run 0,.run 1,.run 2,.run 3,.run 4,.run 5,.run 6,.run 7,.run 8,.run 9,.run 10,.run 11,.run 12,.run 13,.run 14],[0,1,3,7,7,23,63,127,7,7,775,1799,4095,8191,16383]))],[(0,[0,1,2,3,8,9])],false⟩),
 (139,⟨false,[],[],[],false⟩),
 (144,⟨true,[],[(4,([.run 0,.run 1,.run 2,.run 3,.run 4,.run 5,.run 6,.run 7,.run 8,.run 9,.run 10,.run 11,.run 12,.run 13,.run 14],[0,0,3,7,15,15,63,127,15,15,527,1807,3855,8191,16383])),(6,([.run 0,.run 1,.run 2,.run 3,.run 4,.run 5,.run 6,.run 7,.run 8,.run 9,.run 10,.run 11,.run 12,.run 13,.run 14,.run 15,.run 16,.run 17],[0,0,0,0,8,0,0,64,224,480,0,0,3072,7168,16355,32739,65535,131071]))],[(0,[0,1,2,6]),(2,[0,1,2,6,7])],false⟩),
 (150,⟨false,[],[],[],false⟩),
 (154,⟨false,[],[],[],false⟩),
 (161,⟨false,[],[],[],false⟩),
 (28,⟨false,[],[(6,([.run 0,.run 1,.run 2,.run 3,.run 4,.run 5,.run 6,.run 7,.run 8,.run 9],[0,0,3,7,0,0,48,112,255,511]))],[(0,[0,1,5])],false⟩),
 (30,⟨false,[(19,[.frz 11])],[],[(0,[2,3,4,8,9,10]),(2,[2,3,4,8,9,10,11,58,59])],true⟩),
 (74,⟨false,[],[],[],false⟩),
 (75,⟨true,[(0,[.emp 1])],[(3,([.run 0,.run 1,.run 2,.run 3,.again 0,.run 4,.run 5],[0,0,2,6,15,31])),(8,([.run 0,.run 1,.run 2,.run 3,.run 4,.again 0,.run 5,.again 0,.run 6],[0,0,0,0,8,28,63]))],[(0,[1,7,42,43,44])],false⟩),
 (76,⟨false,[],[],[],false⟩),
 (80,⟨false,[],[],[],false⟩),
 (121,⟨false,[],[],[(0,[0,1,7,8])],false⟩),
 (81,⟨false,[],[],[],false⟩),
 (82,⟨true,[],[(1,([.run 0,.run 1,.run 2,.run 3,.run 4,.run 5,.again 0,.again 1,.again 4,.run 6,.run 7,.run 8,.again 0,.run 9],[0,0,2,6,14,0,62,127,255,511])),(8,([.run 0,.run 1,.run 2,.run 3,.run 4,.run 5,.run 6,.again 0,.again 1,.again 4,.run 7,.run 8,.run 9,.again 0,.run 10],[0,0,2,6,14,0,32,126,255,511,1023]))],[(0,[0,3,17,18])],false⟩),
 (37,⟨false,[(13,[.ownC 45 1 4 1,.ownC 45 2 26 1]),(28,[.frzE 45 2])],[],[(0,[1,2,4,6,29,30,31]),(2,[4,9,10,45,49,50,51]),(4,[4,9,10,13,45,49,50,51,55,56,57])],true⟩),
 (56,⟨false,[(2,[.ownC 3 3 26 1])],[(1,([.run 0,.run 1,.run 2,.run 3,.run 4,.run 5,.run 6,.run 9,.again 1,.again 3,.again 6,.run 7,.run 8,.again 1,.again 3,.run 10],[0,1,0,4,0,0,32,112,255,0,1023])),(5,([.run 0,.run 1,.run 2,.run 3,.run 4,.run 5,.run 6,.run 7,.again 1,.run 8,.run 9,.again 1,.run 10,.run 11,.run 12],[0,1,0,0,8,0,56,120,252,508,1023,2047,4095]))],[(0,[1,2,3,4])],true⟩),
 (10,⟨false,[(9,[.own 20 26 1]),(15,[.frz 19,.frz 20])],[],[(0,[2,3,4,5,6,7,8,9,17,18,19,20,21])],true⟩)]
noncomputable def Q:Par:=⟨Tryz.prog,λf=>(zym f ykg).getD ⟨false,[],[],[],false⟩,λf=>[11].any (Nat.beq f),λf=>(decide (f=72)||decide (f=86)||decide (f=87))⟩
theorem xms {f:FuncId}:Q.fr f=(decide (f=72)||decide (f=86)||decide (f=87)):=rfl
attribute [simp] xms
theorem Q_P:Q.P=Tryz.prog:=rfl
theorem xqb:Q.ann 12=⟨false,[],[],[(0,[0,3]),(2,[0,3,4,5])],false⟩:=by kernel_rfl
theorem xmt:gpB (Q.ann 63).pl Tryz.f63.body=true:=by kernel_rfl
theorem ykh:Q.ann 63=⟨false,[],[(6,([.run 0,.run 1,.run 2,.run 3,.run 4,.run 5,.run 6,.run 7,.run 8],[0,0,3,7,0,0,48,112,255]))],[(0,[0,1,5])],false⟩:=by kernel_rfl
theorem yki:Q.ann 18=⟨false,[],[],[(0,[1,3,43,44,45]),(2,[1,3,43,44,45,54,55,56])],false⟩:=by kernel_rfl
theorem xmu:gpB (Q.ann 22).pl Tryz.f22.body=true:=by kernel_rfl
theorem xx6:Q.ann 22=⟨false,[],[(6,([.run 0,.run 1,.run 2,.run 3,.run 4,.run 5,.run 6,.run 7,.run 8,.run 9,.run 10],[0,1,0,7,15,0,32,0,224,480,1023])),(11,([.run 0,.run 1,.run 2,.run 3,.run 4,.run 5,.run 6,.run 7,.run 8,.run 9,.run 10,.run 11],[0,1,0,7,15,0,32,0,224,480,1023,2047]))],[(0,[2,3,5]),(2,[2,3,6])],false⟩:=by kernel_rfl
theorem xqc:Q.ann 16=⟨false,[],[],[(0,[1,3,31,32,33])],false⟩:=by kernel_rfl
theorem xqd:Q.ann 20=⟨false,[],[],[],false⟩:=by kernel_rfl
theorem xx7:Q.ann 23=⟨false,[],[],[],false⟩:=by kernel_rfl
theorem xqe:Q.ann 25=⟨false,[],[],[],false⟩:=by kernel_rfl
theorem xqf:Q.ann 60=⟨false,[],[],[],false⟩:=by kernel_rfl
theorem xmv:gpB (Q.ann 64).pl Tryz.f64.body=true:=by kernel_rfl
theorem xx8:Q.ann 64=⟨false,[],[(6,([.run 0,.run 1,.run 2,.run 3,.run 4,.run 5,.run 6,.run 7,.run 8],[0,0,3,7,0,0,48,112,255]))],[(0,[0,1,12,13])],false⟩:=by kernel_rfl
theorem xqg:Q.ann 65=⟨false,[],[],[(0,[1,2,15,16,17])],false⟩:=by kernel_rfl
theorem xmw:gpB (Q.ann 66).pl Tryz.f66.body=true:=by kernel_rfl
theorem xx9:Q.ann 66=⟨false,[],[(6,([.run 0,.run 1,.run 2,.run 3,.run 4,.run 5,.run 6,.run 7,.run 8],[0,0,3,7,0,0,48,112,255]))],[(0,[0,1,12,13])],false⟩:=by kernel_rfl
theorem ykj:Q.ann 73=⟨false,[],[],[],false⟩:=by kernel_rfl
theorem xwa:Q.ann 108=⟨false,[],[],[],false⟩:=by kernel_rfl
theorem yeu:Q.ann 120=⟨false,[],[],[(0,[0,1,7,8])],false⟩:=by kernel_rfl
theorem xqh:gpB (Q.ann 110).pl Tryz.f110.body=true:=by kernel_rfl
theorem yyc:Q.ann 110=⟨true,[(5,[.ownC 12 1 4 1,.ownC 12 2 26 1]),(26,[.frz 16])],[(8,([.run 0,.run 1,.run 2,.run 3,.run 4,.run 5,.run 6,.run 7,.run 8,.run 9,.run 10,.run 11,.again 4,.run 12,.run 13,.run 14,.run 15],[0,0,2,6,14,0,0,0,192,448,992,2016,4094,8191,16383,32767])),(23,([.run 0,.run 1,.run 2,.run 3,.run 4,.run 5,.run 6,.run 7,.run 9,.run 10,.run 11,.run 12,.run 13,.run 14,.again 5,.again 12,.run 8,.again 12,.run 15,.run 16,.run 17,.run 18,.run 19,.run 20,.run 21],[0,0,0,4,12,28,0,64,252,0,512,1536,3584,0,8192,32764,65533,131069,262141,524287,1048575,2097151]))],[(0,[0,1,3,4,12,13,14,15]),(2,[0,1,3,4,12,13,14,15,16,61,62])],false⟩:=by kernel_rfl
theorem ysy:Q.ann 89=⟨false,[],[],[],false⟩:=by kernel_rfl
theorem ycb:Q.ann 91=⟨false,[],[],[],false⟩:=by kernel_rfl
theorem xmx:gpB (Q.ann 62).pl Tryz.f62.body=true:=by kernel_rfl
theorem ycc:Q.ann 62=⟨true,[],[(1,([.run 0,.run 1,.run 2,.run 3,.run 4,.run 5,.run 6,.run 8,.run 9,.run 7,.again 1,.again 3,.again 4,.run 10,.run 11,.run 12,.run 13,.run 14,.run 15],[0,1,0,4,12,28,0,64,0,0,1023,2047,4095,4095,8191,32767]))],[],false⟩:=by kernel_rfl
theorem xwb:Q.ann 111=⟨false,[],[],[],false⟩:=by kernel_rfl
theorem yev:Q.ann 112=⟨false,[],[],[],false⟩:=by kernel_rfl
theorem xwc:Q.ann 127=⟨true,[],[],[],false⟩:=by kernel_rfl
theorem ysz:Q.ann 140=⟨true,[(3,[.own 5 3 1])],[],[(0,[0,3,4,5,22,23,24]),(2,[0,3,4,5,8]),(4,[0,3,4,5,8,57,58,59])],false⟩:=by kernel_rfl
theorem xwd:Q.ann 141=⟨false,[(2,[.ownAll 3 3 1])],[],[(0,[3,17,18,19]),(2,[3,4,17,18,19,24,25,26])],false⟩:=by kernel_rfl
theorem xwe:Q.ann 128=⟨false,[(14,[.frz 8]),(22,[.frz 15])],[],[(0,[0,1,2,7,8,9,21,22]),(2,[0,2,7,8,14]),(4,[0,2,7,8,14,15,16,51,52])],false⟩:=by kernel_rfl
theorem xwf:Q.ann 142=⟨true,[],[],[],false⟩:=by kernel_rfl
theorem xqi:gpB (Q.ann 129).pl Tryz.f129.body=true:=by kernel_rfl
theorem yew:Q.ann 129=⟨false,[],[(1,([.run 0,.run 1,.run 2,.run 3,.run 4,.run 5,.run 6,.run 7,.run 8,.run 9,.run 10,.run 11,.run 12],[0,0,3,7,0,16,48,112,0,496,1008,2047,4095]))],[],false⟩:=by kernel_rfl
theorem xwg:Q.ann 130=⟨false,[],[],[(0,[0,2,7,26,27,28])],false⟩:=by kernel_rfl
theorem xwh:Q.ann 131=⟨true,[],[],[],false⟩:=by kernel_rfl
theorem xwi:Q.ann 143=⟨true,[],[],[],false⟩:=by kernel_rfl
theorem xwj:Q.ann 155=⟨true,[],[],[],false⟩:=by kernel_rfl
theorem xwk:Q.ann 165=⟨true,[(29,[.frzP 12])],[],[(0,[0,1,3,4,10,11,12,13,14,15,16]),(2,[0,1,3,4,10,11,12,13,17])],false⟩:=by kernel_rfl
theorem xwl:Q.ann 169=⟨false,[],[],[],false⟩:=by kernel_rfl
theorem xwm:gpB (Q.ann 109).pl Tryz.f109.body=true:=by kernel_rfl
theorem yyd:Q.ann 109=⟨false,[],[(17,([.run 0,.run 1,.run 2,.run 3,.run 4,.run 5,.run 6,.run 7,.run 8,.run 9,.run 10,.run 11,.run 12,.run 13,.run 14],[0,1,3,7,0,16,48,0,0,511,1023,2047,2047,4095,16383])),(20,([.run 0,.run 1,.run 2,.run 3,.run 4,.run 5,.run 6,.run 7,.run 8,.run 9,.run 10,.run 11,.run 12,.run 13,.run 14],[0,1,3,7,0,16,48,112,0,256,768,1792,4095,8191,16383]))],[(2,[1,2,4,5,7,8,51,52,53])],false⟩:=by kernel_rfl
theorem ycd:gpB (Q.ann 132).pl Tryz.f132.body=true:=by kernel_rfl
theorem zi2:Q.ann 132=⟨false,[],[(1,([.run 0,.run 1,.run 2,.run 3,.run 4,.run 5,.run 6,.run 7,.run 8,.run 9,.run 10,.run 11,.run 12],[0,1,3,7,0,0,48,127,255,0,1023,2047,4095]))],[],false⟩:=by kernel_rfl
theorem xqj:gpB (Q.ann 133).pl Tryz.f133.body=true:=by kernel_rfl
theorem ys0:Q.ann 133=⟨false,[],[(1,([.run 0,.run 1,.run 2,.run 3,.run 4,.run 5,.run 6,.run 7,.run 8,.run 9],[0,1,3,7,0,0,48,127,255,511]))],[],false⟩:=by kernel_rfl
theorem yex:Q.ann 134=⟨false,[],[],[],false⟩:=by kernel_rfl
theorem xwn:Q.ann 61=⟨false,[],[],[],false⟩:=by kernel_rfl
theorem xqk:Q.ann 17=⟨false,[],[],[],false⟩:=by kernel_rfl
theorem xql:gpB (Q.ann 117).pl Tryz.f117.body=true:=by kernel_rfl
theorem ys1:Q.ann 117=⟨true,[(5,[.ownC 12 1 4 1,.ownC 12 2 26 1]),(26,[.frz 16])],[(8,([.run 0,.run 1,.run 2,.run 3,.run 4,.run 5,.run 6,.run 7,.run 8,.run 9,.run 10,.run 11,.again 4,.run 12,.run 13,.run 14,.run 15],[0,0,2,6,14,0,0,0,192,448,992,2016,4094,8191,16383,32767])),(23,([.run 0,.run 1,.run 2,.run 3,.run 4,.run 5,.run 6,.run 7,.run 9,.run 10,.run 11,.run 12,.run 13,.run 14,.again 5,.again 12,.run 8,.again 12,.run 15,.run 16,.run 17,.run 18,.run 19,.run 20,.run 21],[0,0,0,4,12,28,0,64,252,0,512,1536,3584,0,8192,32764,65533,131069,262141,524287,1048575,2097151]))],[(0,[0,1,3,4,12,13,14,15]),(2,[0,1,3,4,12,13,14,15,16,61,62])],false⟩:=by kernel_rfl
theorem yey:Q.ann 116=⟨false,[],[],[],false⟩:=by kernel_rfl
theorem xqm:gpB (Q.ann 118).pl Tryz.f118.body=true:=by kernel_rfl
theorem yez:Q.ann 118=⟨false,[],[(1,([.run 0,.run 1,.run 2,.run 3,.run 5,.run 6,.run 7,.run 8,.run 4,.again 5,.again 7,.run 9,.run 10,.run 11,.run 12],[0,0,2,0,15,0,0,64,0,511,1023,2047,4095]))],[],false⟩:=by kernel_rfl
theorem xqn:gpB (Q.ann 119).pl Tryz.f119.body=true:=by kernel_rfl
theorem ys2:Q.ann 119=⟨false,[],[(1,([.run 0,.run 1,.run 2,.run 3,.run 4,.run 6,.run 7,.run 8,.run 9,.run 5,.again 0,.again 6,.again 7,.again 9,.run 10,.again 0,.run 11,.run 12],[0,0,0,0,8,30,0,0,0,256,1022,2047,4095]))],[],false⟩:=by kernel_rfl
theorem ye0:Q.ann 115=⟨true,[],[],[],false⟩:=by kernel_rfl
theorem ye1:Q.ann 135=⟨false,[],[],[],false⟩:=by kernel_rfl
theorem ye2:Q.ann 136=⟨false,[],[],[],false⟩:=by kernel_rfl
theorem ye3:Q.ann 137=⟨false,[],[],[],false⟩:=by kernel_rfl
theorem ys3:Q.ann 68=⟨false,[],[],[],false⟩:=by kernel_rfl
theorem xwo:Q.ann 70=⟨false,[],[],[(0,[0,1,7,8])],false⟩:=by kernel_rfl
theorem xnz:gpB (Q.ann 71).pl Tryz.f71.body=true:=by kernel_rfl
theorem yw6:Q.ann 71=⟨true,[],[(3,([.run 0,.run 1,.run 2,.run 3,.run 4,.run 5,.run 6,.run 7,.run 8,.run 9,.run 10,.run 11,.run 12,.run 13,.run 14,.run 15],[0,0,0,0,0,0,48,112,0,0,768,1792,4083,8179,16383,32767]))],[(0,[0,2,3])],false⟩:=by kernel_rfl
theorem xmy:gpB (Q.ann 69).pl Tryz.f69.body=true:=by kernel_rfl
theorem ykk:Q.ann 69=⟨true,[],[(3,([.run 0,.run 1,.run 2,.run 4,.run 7,.run 8,.run 3,.again 1,.again 4,.run 5,.run 6,.again 1,.run 9,.run 10,.run 11,.run 12,.run 13],[0,1,0,4,0,28,60,0,0,511,1023,1023,4095,8191]))],[],false⟩:=by kernel_rfl
theorem yce:Q.ann 27=⟨false,[],[],[(0,[8,10,11])],false⟩:=by kernel_rfl
theorem xqo:Q.ann 33=⟨false,[],[],[],false⟩:=by kernel_rfl
theorem xmz:gpB (Q.ann 35).pl Tryz.f35.body=true:=by kernel_rfl
theorem xwp:Q.ann 35=⟨false,[],[(7,([.run 0,.run 1,.run 2,.run 3,.run 4,.run 5,.run 6,.run 7,.run 8,.run 9,.run 10,.run 11,.run 12,.run 13,.run 14],[0,1,3,7,0,0,32,96,224,0,992,2016,4064,8191,16383]))],[(0,[2,4,16,17])],false⟩:=by kernel_rfl
theorem xqp:Q.ann 38=⟨false,[],[],[(0,[0,3])],false⟩:=by kernel_rfl
theorem xm0:gpB (Q.ann 40).pl Tryz.f40.body=true:=by kernel_rfl
theorem xwq:Q.ann 40=⟨false,[],[(5,([.run 0,.run 1,.run 2,.run 3,.run 6,.run 7,.run 4,.again 1,.again 2,.run 5,.again 1,.run 8,.run 9,.run 10,.run 11,.run 12,.run 13,.run 14,.run 15],[0,1,0,0,8,28,0,0,255,511,511,2047,4095,4095,16383,32767]))],[],false⟩:=by kernel_rfl
theorem xm1:gpB (Q.ann 42).pl Tryz.f42.body=true:=by kernel_rfl
theorem xwr:Q.ann 42=⟨false,[],[(6,([.run 0,.run 1,.run 2,.run 5,.run 6,.run 3,.run 4,.again 1,.run 7,.run 8,.run 9,.run 10,.run 11,.run 12,.run 13,.run 14],[0,1,0,4,12,0,0,127,255,255,1023,2047,2047,8191,16383]))],[],false⟩:=by kernel_rfl
theorem xm2:gpB (Q.ann 44).pl Tryz.f44.body=true:=by kernel_rfl
theorem xws:Q.ann 44=⟨false,[(5,[.own 5 3 1]),(9,[.ownAll 28 3 1])],[(8,([.run 0,.run 1,.run 2,.run 3,.run 4,.run 5,.again 0,.again 3,.run 6],[0,0,0,4,12,31,63])),(19,([.run 0,.run 1,.run 2,.run 3,.run 4,.run 5,.run 6,.run 7,.run 8,.run 9,.run 10,.run 11,.run 12,.run 13,.again 0,.again 3,.again 5,.again 8,.again 11,.run 14,.run 15,.again 0,.again 3,.run 16],[0,0,3,7,0,0,0,96,224,0,992,2016,0,4096,16352,32767,65535])),(22,([.run 0,.run 1,.run 2,.run 4,.run 5,.run 3,.again 1,.run 6,.run 7,.run 8,.run 9,.run 10,.run 11,.run 12,.run 13],[0,1,0,4,0,0,63,127,127,511,1023,1023,4095,8191]))],[(0,[1,2,4,5,20,21]),(2,[1,2,4,5,41,42,43]),(4,[1,2,4,5,7,41,42,43,48,49,50])],true⟩:=by kernel_rfl
theorem yw7:Q.ann 86=⟨true,[],[],[],false⟩:=by kernel_rfl
theorem xn0:gpB (Q.ann 87).pl Tryz.f87.body=true:=by kernel_rfl
theorem zmx:Q.ann 87=⟨true,[],[],[],false⟩:=by kernel_rfl
theorem xm3:gpB (Q.ann 88).pl Tryz.f88.body=true:=by kernel_rfl
theorem ycf:Q.ann 88=⟨true,[(5,[.ownC 12 1 4 1,.ownC 12 2 26 1]),(26,[.frz 16])],[(8,([.run 0,.run 1,.run 2,.run 3,.run 4,.run 5,.run 6,.run 7,.run 8,.run 9,.run 10,.run 11,.again 4,.run 12,.run 13,.run 14,.run 15],[0,0,2,6,14,0,0,0,192,448,992,2016,4094,8191,16383,32767])),(23,([.run 0,.run 1,.run 2,.run 3,.run 4,.run 5,.run 6,.run 7,.run 9,.run 10,.run 11,.run 12,.run 13,.run 14,.again 5,.again 12,.run 8,.again 12,.run 15,.run 16,.run 17,.run 18,.run 19,.run 20,.run 21],[0,0,0,4,12,28,0,64,252,0,512,1536,3584,0,8192,32764,65533,131069,262141,524287,1048575,2097151]))],[(0,[0,1,3,4,12,13,14,15]),(2,[0,1,3,4,12,13,14,15,16,61,62])],false⟩:=by kernel_rfl
theorem xm4:gpB (Q.ann 90).pl Tryz.f90.body=true:=by kernel_rfl
theorem xwt:Q.ann 90=⟨false,[],[(1,([.run 0,.run 1,.run 2,.run 3,.run 4,.run 6,.run 7,.run 8,.run 9,.run 5,.again 0,.again 6,.again 8,.run 10,.again 0,.run 11,.run 12,.run 13],[0,0,0,4,0,30,0,0,128,0,1022,2047,4095,8191]))],[],false⟩:=by kernel_rfl
theorem ycg:Q.ann 92=⟨true,[(2,[.own 7 3 1])],[],[(0,[2,3,7,12,13,14])],false⟩:=by kernel_rfl
theorem ych:Q.ann 93=⟨false,[],[],[],false⟩:=by kernel_rfl
theorem xqq:Q.ann 94=⟨false,[],[],[],false⟩:=by kernel_rfl
theorem xm5:gpB (Q.ann 96).pl Tryz.f96.body=true:=by kernel_rfl
theorem yci:Q.ann 96=⟨true,[(5,[.ownC 12 1 4 1,.ownC 12 2 26 1]),(26,[.frz 16])],[(8,([.run 0,.run 1,.run 2,.run 3,.run 4,.run 5,.run 6,.run 7,.run 8,.run 9,.run 10,.run 11,.again 4,.run 12,.run 13,.run 14,.run 15],[0,0,2,6,14,0,0,0,192,448,992,2016,4094,8191,16383,32767])),(23,([.run 0,.run 1,.run 2,.run 3,.run 4,.run 5,.run 6,.run 7,.run 9,.run 10,.run 11,.run 12,.run 13,.run 14,.again 5,.again 12,.run 8,.again 12,.run 15,.run 16,.run 17,.run 18,.run 19,.run 20,.run 21],[0,0,0,4,12,28,0,64,252,0,512,1536,3584,0,8192,32764,65533,131069,262141,524287,1048575,2097151]))],[(0,[0,1,3,4,12,13,14,15]),(2,[0,1,3,4,12,13,14,15,16,61,62])],false⟩:=by kernel_rfl
theorem xqr:Q.ann 97=⟨false,[],[],[],false⟩:=by kernel_rfl
theorem xqs:Q.ann 98=⟨false,[],[],[],false⟩:=by kernel_rfl
theorem ycj:Q.ann 99=⟨false,[],[],[],false⟩:=by kernel_rfl
theorem xqt:gpB (Q.ann 100).pl Tryz.f100.body=true:=by kernel_rfl
theorem ys4:Q.ann 100=⟨true,[(5,[.ownC 12 1 4 1,.ownC 12 2 26 1]),(26,[.frz 16])],[(8,([.run 0,.run 1,.run 2,.run 3,.run 4,.run 5,.run 6,.run 7,.run 8,.run 9,.run 10,.run 11,.again 4,.run 12,.run 13,.run 14,.run 15],[0,0,2,6,14,0,0,0,192,448,992,2016,4094,8191,16383,32767])),(23,([.run 0,.run 1,.run 2,.run 3,.run 4,.run 5,.run 6,.run 7,.run 9,.run 10,.run 11,.run 12,.run 13,.run 14,.again 5,.again 12,.run 8,.again 12,.run 15,.run 16,.run 17,.run 18,.run 19,.run 20,.run 21],[0,0,0,4,12,28,0,64,252,0,512,1536,3584,0,8192,32764,65533,131069,262141,524287,1048575,2097151]))],[(0,[0,1,3,4,12,13,14,15]),(2,[0,1,3,4,12,13,14,15,16,61,62])],false⟩:=by kernel_rfl
theorem xwu:Q.ann 101=⟨false,[(2,[.own 7 3 1])],[],[(0,[1,2,7,11,12,13])],false⟩:=by kernel_rfl
theorem xqu:gpB (Q.ann 102).pl Tryz.f102.body=true:=by kernel_rfl
theorem yye:Q.ann 102=⟨false,[],[(5,([.run 0,.run 1,.run 2,.run 3,.run 4,.run 5,.run 6,.run 7,.run 8,.run 9,.run 10,.run 11,.run 12,.again 4,.again 9,.run 13,.run 14],[0,0,0,6,14,0,0,64,224,480,992,2046,4094,8191,16383]))],[(0,[0,3,4])],false⟩:=by kernel_rfl
theorem xqv:gpB (Q.ann 103).pl Tryz.f103.body=true:=by kernel_rfl
theorem ys5:Q.ann 103=⟨false,[],[(1,([.run 0,.run 2,.run 1,.again 2,.run 3,.run 4,.run 5],[0,1,0,7,15,31]))],[],false⟩:=by kernel_rfl
theorem ye4:Q.ann 104=⟨false,[],[],[],false⟩:=by kernel_rfl
theorem zf6:Q.ann 122=⟨true,[],[],[],false⟩:=by kernel_rfl
theorem yyf:Q.ann 123=⟨false,[(2,[.own 3 5 1])],[],[(0,[3,6,7,8])],false⟩:=by kernel_rfl
theorem yck:gpB (Q.ann 124).pl Tryz.f124.body=true:=by kernel_rfl
theorem zps:Q.ann 124=⟨true,[],[(6,([.run 0,.run 1,.run 2,.run 3,.run 4,.run 5,.run 6,.run 7,.run 8,.run 9],[0,0,3,7,0,0,32,112,240,511])),(11,([.run 0,.run 1,.run 2,.run 3,.run 4,.run 5,.run 6,.run 7,.run 8,.run 9],[0,0,3,7,0,0,32,112,240,511]))],[(0,[0,3]),(2,[0,3,4,5])],false⟩:=by kernel_rfl
theorem xwv:Q.ann 125=⟨false,[],[],[],false⟩:=by kernel_rfl
theorem xww:Q.ann 126=⟨false,[],[],[(0,[0,1,7,8])],false⟩:=by kernel_rfl
theorem xwx:gpB (Q.ann 138).pl Tryz.f138.body=true:=by kernel_rfl
theorem zi3:Q.ann 138=⟨true,[],[(17,([.run 0,.run 1,.run 2,.run 3,.run 4,.run 5,.run 6,.run 7,.run 8,.run 9,.run 10,.run 11,.run 12,.run 13,.run 14],[0,1,3,7,7,23,63,127,7,7,775,1799,4095,8191,16383]))],[(0,[0,1,2,3,8,9])],false⟩:=by kernel_rfl
theorem xwy:Q.ann 139=⟨false,[],[],[],false⟩:=by kernel_rfl
theorem xwz:gpB (Q.ann 144).pl Tryz.f144.body=true:=by kernel_rfl
theorem zi4:Q.ann 144=⟨true,[],[(4,([.run 0,.run 1,.run 2,.run 3,.run 4,.run 5,.run 6,.run 7,.run 8,.run 9,.run 10,.run 11,.run 12,.run 13,.run 14],[0,0,3,7,15,15,63,127,15,15,527,1807,3855,8191,16383])),(6,([.run 0,.run 1,.run 2,.run 3,.run 4,.run 5,.run 6,.run 7,.run 8,.run 9,.run 10,.run 11,.run 12,.run 13,.run 14,.run 15,.run 16,.run 17],[0,0,0,0,8,0,0,64,224,480,0,0,3072,7168,16355,32739,65535,131071]))],[(0,[0,1,2,6]),(2,[0,1,2,6,7])],false⟩:=by kernel_rfl
theorem ye5:Q.ann 150=⟨false,[],[],[],false⟩:=by kernel_rfl
theorem xw0:Q.ann 154=⟨false,[],[],[],false⟩:=by kernel_rfl
theorem xw1:Q.ann 161=⟨false,[],[],[],false⟩:=by kernel_rfl
theorem xn1:gpB (Q.ann 28).pl Tryz.f28.body=true:=by kernel_rfl
theorem ykl:Q.ann 28=⟨false,[],[(6,([.run 0,.run 1,.run 2,.run 3,.run 4,.run 5,.run 6,.run 7,.run 8,.run 9],[0,0,3,7,0,0,48,112,255,511]))],[(0,[0,1,5])],false⟩:=by kernel_rfl
theorem xqw:Q.ann 30=⟨false,[(19,[.frz 11])],[],[(0,[2,3,4,8,9,10]),(2,[2,3,4,8,9,10,11,58,59])],true⟩:=by kernel_rfl
theorem xqx:Q.ann 74=⟨false,[],[],[],false⟩:=by kernel_rfl
theorem xn2:gpB (Q.ann 75).pl Tryz.f75.body=true:=by kernel_rfl
theorem yw8:Q.ann 75=⟨true,[(0,[.emp 1])],[(3,([.run 0,.run 1,.run 2,.run 3,.again 0,.run 4,.run 5],[0,0,2,6,15,31])),(8,([.run 0,.run 1,.run 2,.run 3,.run 4,.again 0,.run 5,.again 0,.run 6],[0,0,0,0,8,28,63]))],[(0,[1,7,42,43,44])],false⟩:=by kernel_rfl
theorem ycl:Q.ann 76=⟨false,[],[],[],false⟩:=by kernel_rfl
theorem xqy:Q.ann 80=⟨false,[],[],[],false⟩:=by kernel_rfl
theorem xw2:Q.ann 121=⟨false,[],[],[(0,[0,1,7,8])],false⟩:=by kernel_rfl
theorem xqz:Q.ann 81=⟨false,[],[],[],false⟩:=by kernel_rfl
theorem xm6:gpB (Q.ann 82).pl Tryz.f82.body=true:=by kernel_rfl
theorem xw3:Q.ann 82=⟨true,[],[(1,([.run 0,.run 1,.run 2,.run 3,.run 4,.run 5,.again 0,.again 1,.again 4,.run 6,.run 7,.run 8,.again 0,.run 9],[0,0,2,6,14,0,62,127,255,511])),(8,([.run 0,.run 1,.run 2,.run 3,.run 4,.run 5,.run 6,.again 0,.again 1,.again 4,.run 7,.run 8,.run 9,.again 0,.run 10],[0,0,2,6,14,0,32,126,255,511,1023]))],[(0,[0,3,17,18])],false⟩:=by kernel_rfl
theorem xq0:Q.ann 37=⟨false,[(13,[.ownC 45 1 4 1,.ownC 45 2 26 1]),(28,[.frzE 45 2])],[],[(0,[1,2,4,6,29,30,31]),(2,[4,9,10,45,49,50,51]),(4,[4,9,10,13,45,49,50,51,55,56,57])],true⟩:=by kernel_rfl
theorem xm7:gpB (Q.ann 56).pl Tryz.f56.body=true:=by kernel_rfl
theorem xw4:Q.ann 56=⟨false,[(2,[.ownC 3 3 26 1])],[(1,([.run 0,.run 1,.run 2,.run 3,.run 4,.run 5,.run 6,.run 9,.again 1,.again 3,.again 6,.run 7,.run 8,.again 1,.again 3,.run 10],[0,1,0,4,0,0,32,112,255,0,1023])),(5,([.run 0,.run 1,.run 2,.run 3,.run 4,.run 5,.run 6,.run 7,.again 1,.run 8,.run 9,.again 1,.run 10,.run 11,.run 12],[0,1,0,0,8,0,56,120,252,508,1023,2047,4095]))],[(0,[1,2,3,4])],true⟩:=by kernel_rfl
theorem xq1:Q.ann 10=⟨false,[(9,[.own 20 26 1]),(15,[.frz 19,.frz 20])],[],[(0,[2,3,4,5,6,7,8,9,17,18,19,20,21])],true⟩:=by kernel_rfl
end Go.Dv
