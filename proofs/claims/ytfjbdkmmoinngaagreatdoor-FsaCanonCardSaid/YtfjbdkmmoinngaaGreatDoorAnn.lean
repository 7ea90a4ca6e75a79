/- The annotations of the functions (printed by ann.py). -/
import Derived.Test.YtfjbdkmmoinngaaGreatDoorDvB
import Derived.Test.YtfjbdkmmoinngaaGreatDoorProg
set_option linter.unusedVariables false
set_option linter.unusedSimpArgs false
set_option linter.unusedSectionVars false
set_option maxRecDepth 100000
namespace Go.Dv
open Go Go.Sim Go.Proofs
noncomputable def annTable:List (Nat×Ann):=[
 (3,⟨false,[],[(9,([.run 0,.run 2,.run 1,.again 2,.run 3,.run 4,.run 5,.run 6,.run 7,.run 8,.run 9,.run 10,.run 11,.run 12,.run 13,.run 14,.run 15,.run 16,.run 17,.run 19,.run 20,.run 18,.again 19,.run 21,.run 22,.run 23,.run 24,.run 25,.run 26,.run 27,.run 28,.run 29,.run 30,.run 31,.run 32,.run 33,.run 34,.run 35,.run 37,.run 36,.again 37,.run 38,.run 39,.run 40,.run 41,.run 42,.run 43,.run 45,.run 46,.run 44,.again 45,.again 46,.run 47,.run 48,.run 49,.run 50,.run 51,.run 52,.run 53,.run 54,.run 55],[0,1,0,7,15,31,63,63,255,511,1023,2047,2047,8191,16383,32767,65535,65535,262143,65535,65535,2097151,4194303,8388607,16777215,33554431,33554431,134217727,268435455,536870911,1073741823,1073741823,4294967295,8589934591,17179869183,34359738367,68719476735,34359738367,274877906943,549755813887,1099511627775,2199023255551,4398046511103,4398046511103,17592186044415,4398046511103,4398046511103,140737488355327,281474976710655,562949953421311,1125899906842623,2251799813685247,2251799813685247,9007199254740991,18014398509481983,36028797018963967]))],[],false⟩),
 (12,⟨false,[],[],[(0,[0,3]),(2,[0,3,4,5])],false⟩),
 (13,⟨false,[],[],[(0,[0,3])],false⟩),
 (63,⟨false,[],[(6,([.run 0,.run 1,.run 2,.run 3,.run 4,.run 5,.run 6,.run 7,.run 8],[0,0,3,7,0,0,48,112,255]))],[(0,[0,1,5])],false⟩),
 (19,⟨false,[],[(7,([.run 0,.run 1,.run 2,.run 3,.run 4,.run 5,.run 6,.run 7,.run 8],[0,1,0,7,15,31,0,64,255]))],[(0,[1,3,4]),(2,[1,3,4,5])],false⟩),
 (18,⟨false,[],[],[(0,[1,3,43,44,45]),(2,[1,3,43,44,45,54,55,56])],false⟩),
 (58,⟨false,[],[],[],false⟩),
 (14,⟨false,[],[(7,([.run 0,.run 1,.run 2,.run 3,.run 4,.run 5,.run 6,.run 7,.run 8,.run 9,.run 10,.run 11,.run 12,.run 13],[0,0,3,7,15,31,63,63,255,511,63,1087,4095,8191])),(9,([.run 0,.run 1,.run 2,.run 3,.run 4,.run 5,.run 6,.run 7],[0,0,0,0,12,28,63,127]))],[(0,[2,3,8,9])],false⟩),
 (21,⟨false,[],[],[],false⟩),
 (22,⟨false,[],[(6,([.run 0,.run 1,.run 2,.run 3,.run 4,.run 5,.run 6,.run 7,.run 8,.run 9,.run 10],[0,1,0,7,15,0,32,0,224,480,1023])),(11,([.run 0,.run 1,.run 2,.run 3,.run 4,.run 5,.run 6,.run 7,.run 8,.run 9,.run 10,.run 11],[0,1,0,7,15,0,32,0,224,480,1023,2047]))],[(0,[2,3,5]),(2,[2,3,6])],false⟩),
 (107,⟨false,[],[(4,([.run 0,.run 1,.run 2,.run 3,.run 4,.run 5,.run 6,.run 7,.run 8],[0,0,3,7,0,0,48,112,255]))],[(0,[0,1,5])],false⟩),
 (16,⟨false,[],[],[(0,[1,3,31,32,33])],false⟩),
 (20,⟨false,[],[],[],false⟩),
 (23,⟨false,[],[],[],false⟩),
 (25,⟨false,[],[],[],false⟩),
 (60,⟨false,[],[],[],false⟩),
 (64,⟨false,[],[(6,([.run 0,.run 1,.run 2,.run 3,.run 4,.run 5,.run 6,.run 7,.run 8],[0,0,3,7,0,0,48,112,255]))],[(0,[0,1,12,13])],false⟩),
 (65,⟨false,[],[],[(0,[1,2,15,16,17])],false⟩),
 (66,⟨false,[],[(6,([.run 0,.run 1,.run 2,.run 3,.run 4,.run 5,.run 6,.run 7,.run 8],[0,0,3,7,0,0,48,112,255]))],[(0,[0,1,12,13])],false⟩),
 (73,⟨false,[],[],[],false⟩),
 (108,⟨false,[],[],[],false⟩),
 (120,⟨false,[],[],[(0,[0,1,7,8])],false⟩),
 (106,⟨false,[],[],[(0,[1,3,4]),(2,[1,3,4,5]),(4,[1,3,4,5,6])],false⟩),
 (59,⟨false,[(12,[.frz 5]),(16,[.frzI 8 9]),(25,[.frz 8]),(27,[.own 13 3 1]),(41,[.frz 5])],[(17,([.run 0,.run 1,.run 2,.run 3,.run 4,.run 5,.run 6,.run 7,.run 8,.run 9,.run 10,.again 5,.again 9,.run 11,.run 12,.run 13],[0,0,0,0,12,28,0,0,192,448,960,2044,4095,8191])),(35,([.run 0,.run 1,.run 2,.run 3,.run 4,.run 5,.run 6,.run 7,.run 8,.run 9,.run 10,.run 11],[0,0,3,7,0,0,0,96,224,496,1008,2047]))],[(0,[1,3,4,5,6]),(2,[1,3,5,7]),(4,[1,3,5,7,8,9]),(6,[1,3,5,7,8,9,10]),(8,[1,3,5,7,8,12,13,14]),(10,[1,3,5,7,8,12,13,14,15])],false⟩),
 (15,⟨false,[(14,[.ownC 4 2 4 1,.ownC 4 3 26 1]),(30,[.frz 11])],[(18,([.run 0,.run 1,.run 2,.run 3,.run 4,.run 5,.run 6,.run 7,.again 1,.again 3,.again 6,.run 8,.run 9,.run 10],[0,1,0,4,0,28,60,124,255,511,1023]))],[(0,[1,2,4,5,6,7]),(2,[1,2,4,5,6,8,9]),(4,[1,2,4,5,6,8,9,10,11,12])],false⟩),
 (24,⟨false,[],[],[],false⟩),
 (110,⟨true,[(5,[.ownC 12 1 4 1,.ownC 12 2 26 1]),(26,[.frz 16])],[(8,([.run 0,.run 1,.run 2,.run 3,.run 4,.run 5,.run 6,.run 7,.run 8,.run 9,.run 10,.run 11,.again 4,.run 12,.run 13,.run 14,.run 15],[0,0,2,6,14,0,0,0,192,448,992,2016,4094,8191,16383,32767])),(23,([.run 0,.run 1,.run 2,.run 3,.run 4,.run 5,.run 6,.run 7,.run 9,.run 10,.run 11,.run 12,.run 13,.run 14,.again 5,.again 12,.run 8,.again 12,.run 15,.run 16,.run 17,.run 18,.run 19,.run 20,.run 21],[0,0,0,4,12,28,0,64,252,0,512,1536,3584,0,8192,32764,65533,131069,262141,524287,1048575,2097151]))],[(0,[0,1,3,4,12,13,14,15]),(2,[0,1,3,4,12,13,14,15,16,61,62])],false⟩),
 (89,⟨false,[],[],[],false⟩),
 (91,⟨false,[],[],[],false⟩),
 (62,⟨true,[],[(1,([.run 0,.run 1,.run 2,.run 3,.run 4,.run 5,.run 6,.run 8,.run 9,.run 7,.again 1,.again 3,.again 4,.run 10,.run 11,.run 12,.run 13,.run 14,.run 15],[0,1,0,4,12,28,0,64,0,0,1023,2047,4095,4095,8191,32767]))],[],false⟩),
 (111,⟨false,[],[],[],false⟩),
 (112,⟨false,[],[],[],false⟩),
 (127,⟨true,[],[],[],false⟩),
 (140,⟨true,[(3,[.own 5 3 1])],[],[(0,[0,3,4,5,22,23,24]),(2,[0,3,4,5,8]),(4,[0,3,4,5,8,57,58,59])],false⟩),
 (141,⟨false,[(2,[.ownAll 3 3 1])],[],[(0,[3,17,18,19]),(2,[3,4,17,18,19,24,25,26])],false⟩),
 (128,⟨false,[(14,[.frz 8]),(22,[.frz 15])],[],[(0,[0,1,2,7,8,9,21,22]),(2,[0,2,7,8,14]),(4,[0,2,7,8,14,15,16,51,52])],false⟩),
 (142,⟨true,[],[],[],false⟩),
 (129,⟨false,[],[(1,([.run 0,.run 1,.run 2,.run 3,.run 4,.run 5,.run 6,.run 7,.run 8,.run 9,.run 10,.run 11,.run 12],[0,0,3,7,0,16,48,112,0,496,1008,2047,4095]))],[],false⟩),
 (130,⟨false,[],[],[(0,[0,2,7,26,27,28])],false⟩),
 (131,⟨true,[],[],[],false⟩),
 (143,⟨true,[],[],[],false⟩),
 (155,⟨true,[],[],[],false⟩),
 (165,⟨true,[(29,[.frzP 12])],[],[(0,[0,1,3,4,10,11,12,13,14,15,16]),(2,[0,1,3,4,10,11,12,13,17])],false⟩),
 (169,⟨false,[],[],[],false⟩),
 (109,⟨false,[],[(17,([.run 0,.run 1,.run 2,.run 3,.run 4,.run 5,.run 6,.run 7,.run 8,.run 9,.run 10,.run 11,.run 12,.run 13,.run 14],[0,1,3,7,0,16,48,0,0,511,1023,2047,2047,4095,16383])),(20,([.run 0,.run 1,.run 2,.run 3,.run 4,.run 5,.run 6,.run 7,.run 8,.run 9,.run 10,.run 11,.run 12,.run 13,.run 14],[0,1,3,7,0,16,48,112,0,256,768,1792,4095,8191,16383]))],[(2,[1,2,4,5,7,8,51,52,53])],false⟩),
 (132,⟨false,[],[(1,([.run 0,.run 1,.run 2,.run 3,.run 4,.run 5,.run 6,.run 7,.run 8,.run 9,.run 10,.run 11,.run 12],[0,1,3,7,0,0,48,127,255,0,1023,2047,4095]))],[],false⟩),
 (133,⟨false,[],[(1,([.run 0,.run 1,.run 2,.run 3,.run 4,.run 5,.run 6,.run 7,.run 8,.run 9],[0,1,3,7,0,0,48,127,255,511]))],[],false⟩),
 (134,⟨false,[],[],[],false⟩),
 (61,⟨false,[],[],[],false⟩),
 (17,⟨false,[],[],[],false⟩),
 (117,⟨true,[(5,[.ownC 12 1 4 1,.ownC 12 2 26 1]),(26,[.frz 16])],[(8,([.run 0,.run 1,.run 2,.run 3,.run 4,.run 5,.run 6,.run 7,.run 8,.run 9,.run 10,.run 11,.again 4,.run 12,.run 13,.run 14,.run 15],[0,0,2,6,14,0,0,0,192,448,992,2016,4094,8191,16383,32767])),(23,([.run 0,.run 1,.run 2,.run 3,.run 4,.run 5,.run 6,.run 7,.run 9,.run 10,.run 11,.run 12,.run 13,.run 14,.again 5,.again 12,.run 8,.again 12,.run 15,.run 16,.run 17,.run 18,.run 19,.run 20,.run 21],[0,0,0,4,12,28,0,64,252,0,512,1536,3584,0,8192,32764,65533,131069,262141,524287,1048575,2097151]))],[(0,[0,1,3,4,12,13,14,15]),(2,[0,1,3,4,12,13,14,15,16,61,62])],false⟩),
 (116,⟨false,[],[],[],false⟩),
 (118,⟨false,[],[(1,([.run 0,.run 1,.run 2,.run 3,.run 5,.run 6,.run 7,.run 8,.run 4,.again 5,.again 7,.run 9,.run 10,.run 11,.run 12],[0,0,2,0,15,0,0,64,0,511,1023,2047,4095]))],[],false⟩),
 (119,⟨false,[],[(1,([.run 0,.run 1,.run 2,.run 3,.run 4,.run 6,.run 7,.run 8,.run 9,.run 5,.again 0,.again 6,.again 7,.again 9,.run 10,.again 0,.run 11,.run 12],[0,0,0,0,8,30,0,0,0,256,1022,2047,4095]))],[],false⟩),
 (115,⟨true,[],[],[],false⟩),
 (135,⟨false,[],[],[],false⟩),
 (136,⟨false,[],[],[],false⟩),
 (137,⟨false,[],[],[],false⟩),
 (68,⟨false,[],[],[],false⟩),
 (70,⟨false,[],[],[(0,[0,1,7,8])],false⟩),
 (71,⟨true,[],[(3,([.run 0,.run 1,.run 2,.run 3,.run 4,.run 5,.run 6,.run 7,.run 8,.run 9,.run 10,.run 11,.run 12,.run 13,.run 14,.run 15],[0,0,0,0,0,0,48,112,0,0,768,1792,4083,8179,16383,32767]))],[(0,[0,2,3])],false⟩),
 (69,⟨true,[],[(3,([.run 0,.run 1,.run 2,.run 4,.run 7,.run 8,.run 3,.again 1,.again 4,.run 5,.run 6,.again 1,.run 9,.run 10,.run 11,.run 12,.run 13],[0,1,0,4,0,28,60,0,0,511,1023,1023,4095,8191]))],[],false⟩),
 (27,⟨false,[],[],[(0,[8,10,11])],false⟩),
 (5,⟨false,[],[(15,([.run 0,.run 1,.run 2,.run 3,.run 4,.run 6,.run 7,.run 8,.run 9,.run 10,.run 5,.again 6,.again 10,.run 11,.run 12],[0,0,0,6,14,31,0,0,0,384,896,2047,4095])),(22,([.run 0,.run 1,.run 2,.run 3,.run 4,.run 5,.run 6,.run 7,.run 8,.run 9,.run 10,.run 11,.run 12,.run 13,.run 14,.run 15,.run 17,.run 18,.run 16,.again 17,.run 19,.run 20,.run 21,.run 22,.run 23],[0,1,3,7,15,31,7,71,199,511,1023,2047,4095,8191,16383,16383,65535,16383,16383,524287,1048575,2097151,4194303,8388607]))],[(0,[2,3,4,7,9,12])],false⟩)]
noncomputable def Q:Par:=⟨Tryz.prog,fun f=>(findN f annTable).getD ⟨false,[],[],[],false⟩,fun f=>[11].any (Nat.beq f)⟩
theorem Q_P:Q.P=Tryz.prog:=rfl
theorem gp12:gpB (Q.ann 12).pl Tryz.f12.body=true:=by kernel_rfl
theorem ann12:Q.ann 12=⟨false,[],[],[(0,[0,3]),(2,[0,3,4,5])],false⟩:=by kernel_rfl
theorem gp13:gpB (Q.ann 13).pl Tryz.f13.body=true:=by kernel_rfl
theorem ann13:Q.ann 13=⟨false,[],[],[(0,[0,3])],false⟩:=by kernel_rfl
theorem gp63:gpB (Q.ann 63).pl Tryz.f63.body=true:=by kernel_rfl
theorem ann63:Q.ann 63=⟨false,[],[(6,([.run 0,.run 1,.run 2,.run 3,.run 4,.run 5,.run 6,.run 7,.run 8],[0,0,3,7,0,0,48,112,255]))],[(0,[0,1,5])],false⟩:=by kernel_rfl
theorem gp19:gpB (Q.ann 19).pl Tryz.f19.body=true:=by kernel_rfl
theorem ann19:Q.ann 19=⟨false,[],[(7,([.run 0,.run 1,.run 2,.run 3,.run 4,.run 5,.run 6,.run 7,.run 8],[0,1,0,7,15,31,0,64,255]))],[(0,[1,3,4]),(2,[1,3,4,5])],false⟩:=by kernel_rfl
theorem gp18:gpB (Q.ann 18).pl Tryz.f18.body=true:=by kernel_rfl
theorem ann18:Q.ann 18=⟨false,[],[],[(0,[1,3,43,44,45]),(2,[1,3,43,44,45,54,55,56])],false⟩:=by kernel_rfl
theorem gp22:gpB (Q.ann 22).pl Tryz.f22.body=true:=by kernel_rfl
theorem ann22:Q.ann 22=⟨false,[],[(6,([.run 0,.run 1,.run 2,.run 3,.run 4,.run 5,.run 6,.run 7,.run 8,.run 9,.run 10],[0,1,0,7,15,0,32,0,224,480,1023])),(11,([.run 0,.run 1,.run 2,.run 3,.run 4,.run 5,.run 6,.run 7,.run 8,.run 9,.run 10,.run 11],[0,1,0,7,15,0,32,0,224,480,1023,2047]))],[(0,[2,3,5]),(2,[2,3,6])],false⟩:=by kernel_rfl
theorem gp16:gpB (Q.ann 16).pl Tryz.f16.body=true:=by kernel_rfl
theorem ann16:Q.ann 16=⟨false,[],[],[(0,[1,3,31,32,33])],false⟩:=by kernel_rfl
theorem gp20:gpB (Q.ann 20).pl Tryz.f20.body=true:=by kernel_rfl
theorem ann20:Q.ann 20=⟨false,[],[],[],false⟩:=by kernel_rfl
theorem gp23:gpB (Q.ann 23).pl Tryz.f23.body=true:=by kernel_rfl
theorem ann23:Q.ann 23=⟨false,[],[],[],false⟩:=by kernel_rfl
theorem gp25:gpB (Q.ann 25).pl Tryz.f25.body=true:=by kernel_rfl
theorem ann25:Q.ann 25=⟨false,[],[],[],false⟩:=by kernel_rfl
theorem gp60:gpB (Q.ann 60).pl Tryz.f60.body=true:=by kernel_rfl
theorem ann60:Q.ann 60=⟨false,[],[],[],false⟩:=by kernel_rfl
theorem gp64:gpB (Q.ann 64).pl Tryz.f64.body=true:=by kernel_rfl
theorem ann64:Q.ann 64=⟨false,[],[(6,([.run 0,.run 1,.run 2,.run 3,.run 4,.run 5,.run 6,.run 7,.run 8],[0,0,3,7,0,0,48,112,255]))],[(0,[0,1,12,13])],false⟩:=by kernel_rfl
theorem gp65:gpB (Q.ann 65).pl Tryz.f65.body=true:=by kernel_rfl
theorem ann65:Q.ann 65=⟨false,[],[],[(0,[1,2,15,16,17])],false⟩:=by kernel_rfl
theorem gp66:gpB (Q.ann 66).pl Tryz.f66.body=true:=by kernel_rfl
theorem ann66:Q.ann 66=⟨false,[],[(6,([.run 0,.run 1,.run 2,.run 3,.run 4,.run 5,.run 6,.run 7,.run 8],[0,0,3,7,0,0,48,112,255]))],[(0,[0,1,12,13])],false⟩:=by kernel_rfl
theorem gp73:gpB (Q.ann 73).pl Tryz.f73.body=true:=by kernel_rfl
theorem ann73:Q.ann 73=⟨false,[],[],[],false⟩:=by kernel_rfl
theorem gp108:gpB (Q.ann 108).pl Tryz.f108.body=true:=by kernel_rfl
theorem ann108:Q.ann 108=⟨false,[],[],[],false⟩:=by kernel_rfl
theorem gp120:gpB (Q.ann 120).pl Tryz.f120.body=true:=by kernel_rfl
theorem ann120:Q.ann 120=⟨false,[],[],[(0,[0,1,7,8])],false⟩:=by kernel_rfl
theorem gp110:gpB (Q.ann 110).pl Tryz.f110.body=true:=by kernel_rfl
theorem ann110:Q.ann 110=⟨true,[(5,[.ownC 12 1 4 1,.ownC 12 2 26 1]),(26,[.frz 16])],[(8,([.run 0,.run 1,.run 2,.run 3,.run 4,.run 5,.run 6,.run 7,.run 8,.run 9,.run 10,.run 11,.again 4,.run 12,.run 13,.run 14,.run 15],[0,0,2,6,14,0,0,0,192,448,992,2016,4094,8191,16383,32767])),(23,([.run 0,.run 1,.run 2,.run 3,.run 4,.run 5,.run 6,.run 7,.run 9,.run 10,.run 11,.run 12,.run 13,.run 14,.again 5,.again 12,.run 8,.again 12,.run 15,.run 16,.run 17,.run 18,.run 19,.run 20,.run 21],[0,0,0,4,12,28,0,64,252,0,512,1536,3584,0,8192,32764,65533,131069,262141,524287,1048575,2097151]))],[(0,[0,1,3,4,12,13,14,15]),(2,[0,1,3,4,12,13,14,15,16,61,62])],false⟩:=by kernel_rfl
theorem gp89:gpB (Q.ann 89).pl Tryz.f89.body=true:=by kernel_rfl
theorem ann89:Q.ann 89=⟨false,[],[],[],false⟩:=by kernel_rfl
theorem gp91:gpB (Q.ann 91).pl Tryz.f91.body=true:=by kernel_rfl
theorem ann91:Q.ann 91=⟨false,[],[],[],false⟩:=by kernel_rfl
theorem gp62:gpB (Q.ann 62).pl Tryz.f62.body=true:=by kernel_rfl
theorem ann62:Q.ann 62=⟨true,[],[(1,([.run 0,.run 1,.run 2,.run 3,.run 4,.run 5,.run 6,.run 8,.run 9,.run 7,.again 1,.again 3,.again 4,.run 10,.run 11,.run 12,.run 13,.run 14,.run 15],[0,1,0,4,12,28,0,64,0,0,1023,2047,4095,4095,8191,32767]))],[],false⟩:=by kernel_rfl
theorem gp111:gpB (Q.ann 111).pl Tryz.f111.body=true:=by kernel_rfl
theorem ann111:Q.ann 111=⟨false,[],[],[],false⟩:=by kernel_rfl
theorem gp112:gpB (Q.ann 112).pl Tryz.f112.body=true:=by kernel_rfl
theorem ann112:Q.ann 112=⟨false,[],[],[],false⟩:=by kernel_rfl
theorem gp127:gpB (Q.ann 127).pl Tryz.f127.body=true:=by kernel_rfl
theorem ann127:Q.ann 127=⟨true,[],[],[],false⟩:=by kernel_rfl
theorem gp140:gpB (Q.ann 140).pl Tryz.f140.body=true:=by kernel_rfl
theorem ann140:Q.ann 140=⟨true,[(3,[.own 5 3 1])],[],[(0,[0,3,4,5,22,23,24]),(2,[0,3,4,5,8]),(4,[0,3,4,5,8,57,58,59])],false⟩:=by kernel_rfl
theorem gp141:gpB (Q.ann 141).pl Tryz.f141.body=true:=by kernel_rfl
theorem ann141:Q.ann 141=⟨false,[(2,[.ownAll 3 3 1])],[],[(0,[3,17,18,19]),(2,[3,4,17,18,19,24,25,26])],false⟩:=by kernel_rfl
theorem gp128:gpB (Q.ann 128).pl Tryz.f128.body=true:=by kernel_rfl
theorem ann128:Q.ann 128=⟨false,[(14,[.frz 8]),(22,[.frz 15])],[],[(0,[0,1,2,7,8,9,21,22]),(2,[0,2,7,8,14]),(4,[0,2,7,8,14,15,16,51,52])],false⟩:=by kernel_rfl
theorem gp142:gpB (Q.ann 142).pl Tryz.f142.body=true:=by kernel_rfl
theorem ann142:Q.ann 142=⟨true,[],[],[],false⟩:=by kernel_rfl
theorem gp129:gpB (Q.ann 129).pl Tryz.f129.body=true:=by kernel_rfl
theorem ann129:Q.ann 129=⟨false,[],[(1,([.run 0,.run 1,.run 2,.run 3,.run 4,.run 5,.run 6,.run 7,.run 8,.run 9,.run 10,.run 11,.run 12],[0,0,3,7,0,16,48,112,0,496,1008,2047,4095]))],[],false⟩:=by kernel_rfl
theorem gp130:gpB (Q.ann 130).pl Tryz.f130.body=true:=by kernel_rfl
theorem ann130:Q.ann 130=⟨false,[],[],[(0,[0,2,7,26,27,28])],false⟩:=by kernel_rfl
theorem gp131:gpB (Q.ann 131).pl Tryz.f131.body=true:=by kernel_rfl
theorem ann131:Q.ann 131=⟨true,[],[],[],false⟩:=by kernel_rfl
theorem gp143:gpB (Q.ann 143).pl Tryz.f143.body=true:=by kernel_rfl
theorem ann143:Q.ann 143=⟨true,[],[],[],false⟩:=by kernel_rfl
theorem gp155:gpB (Q.ann 155).pl Tryz.f155.body=true:=by kernel_rfl
theorem ann155:Q.ann 155=⟨true,[],[],[],false⟩:=by kernel_rfl
theorem gp165:gpB (Q.ann 165).pl Tryz.f165.body=true:=by kernel_rfl
theorem ann165:Q.ann 165=⟨true,[(29,[.frzP 12])],[],[(0,[0,1,3,4,10,11,12,13,14,15,16]),(2,[0,1,3,4,10,11,12,13,17])],false⟩:=by kernel_rfl
theorem gp169:gpB (Q.ann 169).pl Tryz.f169.body=true:=by kernel_rfl
theorem ann169:Q.ann 169=⟨false,[],[],[],false⟩:=by kernel_rfl
theorem gp109:gpB (Q.ann 109).pl Tryz.f109.body=true:=by kernel_rfl
theorem ann109:Q.ann 109=⟨false,[],[(17,([.run 0,.run 1,.run 2,.run 3,.run 4,.run 5,.run 6,.run 7,.run 8,.run 9,.run 10,.run 11,.run 12,.run 13,.run 14],[0,1,3,7,0,16,48,0,0,511,1023,2047,2047,4095,16383])),(20,([.run 0,.run 1,.run 2,.run 3,.run 4,.run 5,.run 6,.run 7,.run 8,.run 9,.run 10,.run 11,.run 12,.run 13,.run 14],[0,1,3,7,0,16,48,112,0,256,768,1792,4095,8191,16383]))],[(2,[1,2,4,5,7,8,51,52,53])],false⟩:=by kernel_rfl
theorem gp132:gpB (Q.ann 132).pl Tryz.f132.body=true:=by kernel_rfl
theorem ann132:Q.ann 132=⟨false,[],[(1,([.run 0,.run 1,.run 2,.run 3,.run 4,.run 5,.run 6,.run 7,.run 8,.run 9,.run 10,.run 11,.run 12],[0,1,3,7,0,0,48,127,255,0,1023,2047,4095]))],[],false⟩:=by kernel_rfl
theorem gp133:gpB (Q.ann 133).pl Tryz.f133.body=true:=by kernel_rfl
theorem ann133:Q.ann 133=⟨false,[],[(1,([.run 0,.run 1,.run 2,.run 3,.run 4,.run 5,.run 6,.run 7,.run 8,.run 9],[0,1,3,7,0,0,48,127,255,511]))],[],false⟩:=by kernel_rfl
theorem gp61:gpB (Q.ann 61).pl Tryz.f61.body=true:=by kernel_rfl
theorem ann61:Q.ann 61=⟨false,[],[],[],false⟩:=by kernel_rfl
theorem gp17:gpB (Q.ann 17).pl Tryz.f17.body=true:=by kernel_rfl
theorem ann17:Q.ann 17=⟨false,[],[],[],false⟩:=by kernel_rfl
theorem gp117:gpB (Q.ann 117).pl Tryz.f117.body=true:=by kernel_rfl
theorem ann117:Q.ann 117=⟨true,[(5,[.ownC 12 1 4 1,.ownC 12 2 26 1]),(26,[.frz 16])],[(8,([.run 0,.run 1,.run 2,.run 3,.run 4,.run 5,.run 6,.run 7,.run 8,.run 9,.run 10,.run 11,.again 4,.run 12,.run 13,.run 14,.run 15],[0,0,2,6,14,0,0,0,192,448,992,2016,4094,8191,16383,32767])),(23,([.run 0,.run 1,.run 2,.run 3,.run 4,.run 5,.run 6,.run 7,.run 9,.run 10,.run 11,.run 12,.run 13,.run 14,.again 5,.again 12,.run 8,.again 12,.run 15,.run 16,.run 17,.run 18,.run 19,.run 20,.run 21],[0,0,0,4,12,28,0,64,252,0,512,1536,3584,0,8192,32764,65533,131069,262141,524287,1048575,2097151]))],[(0,[0,1,3,4,12,13,14,15]),(2,[0,1,3,4,12,13,14,15,16,61,62])],false⟩:=by kernel_rfl
theorem gp116:gpB (Q.ann 116).pl Tryz.f116.body=true:=by kernel_rfl
theorem ann116:Q.ann 116=⟨false,[],[],[],false⟩:=by kernel_rfl
theorem gp118:gpB (Q.ann 118).pl Tryz.f118.body=true:=by kernel_rfl
theorem ann118:Q.ann 118=⟨false,[],[(1,([.run 0,.run 1,.run 2,.run 3,.run 5,.run 6,.run 7,.run 8,.run 4,.again 5,.again 7,.run 9,.run 10,.run 11,.run 12],[0,0,2,0,15,0,0,64,0,511,1023,2047,4095]))],[],false⟩:=by kernel_rfl
theorem gp119:gpB (Q.ann 119).pl Tryz.f119.body=true:=by kernel_rfl
theorem ann119:Q.ann 119=⟨false,[],[(1,([.run 0,.run 1,.run 2,.run 3,.run 4,.run 6,.run 7,.run 8,.run 9,.run 5,.again 0,.again 6,.again 7,.again 9,.run 10,.again 0,.run 11,.run 12],[0,0,0,0,8,30,0,0,0,256,1022,2047,4095]))],[],false⟩:=by kernel_rfl
theorem gp115:gpB (Q.ann 115).pl Tryz.f115.body=true:=by kernel_rfl
theorem ann115:Q.ann 115=⟨true,[],[],[],false⟩:=by kernel_rfl
theorem gp137:gpB (Q.ann 137).pl Tryz.f137.body=true:=by kernel_rfl
theorem ann137:Q.ann 137=⟨false,[],[],[],false⟩:=by kernel_rfl
theorem gp68:gpB (Q.ann 68).pl Tryz.f68.body=true:=by kernel_rfl
theorem ann68:Q.ann 68=⟨false,[],[],[],false⟩:=by kernel_rfl
theorem gp70:gpB (Q.ann 70).pl Tryz.f70.body=true:=by kernel_rfl
theorem ann70:Q.ann 70=⟨false,[],[],[(0,[0,1,7,8])],false⟩:=by kernel_rfl
theorem gp71:gpB (Q.ann 71).pl Tryz.f71.body=true:=by kernel_rfl
theorem ann71:Q.ann 71=⟨true,[],[(3,([.run 0,.run 1,.run 2,.run 3,.run 4,.run 5,.run 6,.run 7,.run 8,.run 9,.run 10,.run 11,.run 12,.run 13,.run 14,.run 15],[0,0,0,0,0,0,48,112,0,0,768,1792,4083,8179,16383,32767]))],[(0,[0,2,3])],false⟩:=by kernel_rfl
theorem gp69:gpB (Q.ann 69).pl Tryz.f69.body=true:=by kernel_rfl
theorem ann69:Q.ann 69=⟨true,[],[(3,([.run 0,.run 1,.run 2,.run 4,.run 7,.run 8,.run 3,.again 1,.again 4,.run 5,.run 6,.again 1,.run 9,.run 10,.run 11,.run 12,.run 13],[0,1,0,4,0,28,60,0,0,511,1023,1023,4095,8191]))],[],false⟩:=by kernel_rfl
theorem gp27:gpB (Q.ann 27).pl Tryz.f27.body=true:=by kernel_rfl
theorem ann27:Q.ann 27=⟨false,[],[],[(0,[8,10,11])],false⟩:=by kernel_rfl
theorem gp5:gpB (Q.ann 5).pl Tryz.f5.body=true:=by kernel_rfl
theorem ann5:Q.ann 5=⟨false,[],[(15,([.run 0,.run 1,.run 2,.run 3,.run 4,.run 6,.run 7,.run 8,.run 9,.run 10,.run 5,.again 6,.again 10,.run 11,.run 12],[0,0,0,6,14,31,0,0,0,384,896,2047,4095])),(22,([.run 0,.run 1,.run 2,.run 3,.run 4,.run 5,.run 6,.run 7,.run 8,.run 9,.run 10,.run 11,.run 12,.run 13,.run 14,.run 15,.run 17,.run 18,.run 16,.again 17,.run 19,.run 20,.run 21,.run 22,.run 23],[0,1,3,7,15,31,7,71,199,511,1023,2047,4095,8191,16383,16383,65535,16383,16383,524287,1048575,2097151,4194303,8388607]))],[(0,[2,3,4,7,9,12])],false⟩:=by kernel_rfl
end Go.Dv
