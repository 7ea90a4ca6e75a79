/- The zz3 for regions that draw their order, and the summaries of the calls of the chapter's examples. -/
import Derived.Test.YtfjbdkmmoinngaaGreatDoorSimB
import Derived.Test.YtfjbdkmmoinngaaGreatDoorProg
noncomputable section
namespace Go.Proofs.YtfjbdkmmoinngaaGreatDoor.Sane
open Go Go.Sim
def ymn:List (Nat×List (Nat×List PI×List Nat)):=[
 (22,[(6,[.run 0,.run 1,.run 2,.run 3,.run 4,.run 5,.run 6,.run 7,.run 8,.run 9,.run 10],[0,1,0,7,15,0,32,0,224,480,1023]),
 (11,[.run 0,.run 1,.run 2,.run 3,.run 4,.run 5,.run 6,.run 7,.run 8,.run 9,.run 10,.run 11],[0,1,0,7,15,0,32,0,224,480,1023,2047])]),
 (28,[(6,[.run 0,.run 1,.run 2,.run 3,.run 4,.run 5,.run 6,.run 7,.run 8,.run 9],[0,0,3,7,0,0,48,112,255,511])]),
 (35,[(7,[.run 0,.run 1,.run 2,.run 3,.run 4,.run 5,.run 6,.run 7,.run 8,.run 9,.run 10,.run 11,.run 12,.run 13,.run 14],[0,1,3,7,0,0,32,96,224,0,992,2016,4064,8191,16383])]),
 (40,[(5,[.run 0,.run 1,.run 2,.run 3,.run 6,.run 7,.run 4,.again 1,.again 2,.run 5,.again 1,.run 8,.run 9,.run 10,.run 11,.run 12,.run 13,.run 14,.run 15],[0,1,0,0,8,28,0,0,255,511,511,2047,4095,4095,16383,32767])]),
 (62,[(1,[.run 0,.run 1,.run 2,.run 3,.run 4,.run 5,.run 6,.run 8,.run 9,.run 7,.again 1,.again 3,.again 4,.run 10,.run 11,.run 12,.run 13,.run 14,.run 15],[0,1,0,4,12,28,0,64,0,0,1023,2047,4095,4095,8191,32767])]),
 (63,[(6,[.run 0,.run 1,.run 2,.run 3,.run 4,.run 5,.run 6,.run 7,.run 8],[0,0,3,7,0,0,48,112,255])]),
 (64,[(6,[.run 0,.run 1,.run 2,.run 3,.run 4,.run 5,.run 6,.run 7,.run 8],[0,0,3,7,0,0,48,112,255])]),
 (66,[(6,[.run 0,.run 1,.run 2,.run 3,.run 4,.run 5,.run 6,.run 7,.run 8],[0,0,3,7,0,0,48,112,255])]),
 (69,[(3,[.run 0,.run 1,.run 2,.run 4,.run 7,.run 8,.run 3,.again 1,.again 4,.run 5,.run 6,.again 1,.run 9,.run 10,.run 11,.run 12,.run 13],[0,1,0,4,0,28,60,0,0,511,1023,1023,4095,8191])]),
 (71,[(3,[.run 0,.run 1,.run 2,.run 3,.run 4,.run 5,.run 6,.run 7,.run 8,.run 9,.run 10,.run 11,.run 12,.run 13,.run 14,.run 15],[0,0,0,0,0,0,48,112,0,0,768,1792,4083,8179,16383,32767])]),
 (75,[(3,[.run 0,.run 1,.run 2,.run 3,.again 0,.run 4,.run 5],[0,0,2,6,15,31]),
 (8,[.run 0,.run 1,.run 2,.run 3,.run 4,.again 0,.run 5,.again 0,.run 6],[0,0,0,0,8,28,63])]),
 (82,[(1,[.run 0,.run 1,.run 2,.run 3,.run 4,.run 5,.again 0,.again 1,.again 4,.run 6,.run 7,.run 8,.again 0,.run 9],[0,0,2,6,14,0,62,127,255,511]),
 (8,[.run 0,.run 1,.run 2,.run 3,.run 4,.run 5,.run 6,.again 0,.again 1,.again 4,.run 7,.run 8,.run 9,.again 0,.run 10],[0,0,2,6,14,0,32,126,255,511,1023])]),
 (88,[(8,[.run 0,.run 1,.run 2,.run 3,.run 4,.run 5,.run 6,.run 7,.run 8,.run 9,.run 10,.run 11,.again 4,.run 12,.run 13,.run 14,.run 15],[0,0,2,6,14,0,0,0,192,448,992,2016,4094,8191,16383,32767]),
 (23,[.run 0,.run 1,.run 2,.run 3,.run 4,.run 5,.run 6,.run 7,.run 9,.run 10,.run 11,.run 12,.run 13,.run 14,.again 5,.again 12,.run 8,.again 12,.run 15,.run 16,.run 17,.run 18,.run 19,.run 20,.run 21],[0,0,0,4,12,28,0,64,252,0,512,1536,3584,0,8192,32764,65533,131069,262141,524287,1048575,2097151])]),
 (90,[(1,[.run 0,.run 1,.run 2,.run 3,.run 4,.run 6,.run 7,.run 8,.run 9,.run 5,.again 0,.again 6,.again 8,.run 10,.again 0,.run 11,.run 12,.run 13],[0,0,0,4,0,30,0,0,128,0,1022,2047,4095,8191])]),
 (102,[(5,[.run 0,.run 1,.run 2,.run 3,.run 4,.run 5,.run 6,.run 7,.run 8,.run 9,.run 10,.run 11,.run 12,.again 4,.again 9,.run 13,.run 14],[0,0,0,6,14,0,0,64,224,480,992,2046,4094,8191,16383])]),
 (109,[(17,[.run 0,.run 1,.run 2,.run 3,.run 4,.run 5,.run 6,.run 7,.run 8,.run 9,.run 10,.run 11,.run 12,.run 13,.run 14],[0,1,3,7,0,16,48,0,0,511,1023,2047,2047,4095,16383]),
 (20,[.run 0,.run 1,.run 2,.run 3,.run 4,.run 5,.run 6,.run 7,.run 8,.run 9,.run 10,.run 11,.run 12,.run 13,.run 14],[0,1,3,7,0,16,48,112,0,256,768,1792,4095,8191,16383])]),
 (110,[(8,[.run 0,.run 1,.run 2,.run 3,.run 4,.run 5,.run 6,.run 7,.run 8,.run 9,.run 10,.run 11,.again 4,.run 12,.run 13,.run 14,.run 15],[0,0,2,6,14,0,0,0,192,448,992,2016,4094,8191,16383,32767]),
 (23,[.run 0,.run 1,.run 2,.run 3,.run 4,.run 5,.run 6,.run 7,.run 9,.run 10,.run 11,.run 12,.run 13,.run 14,.again 5,.again 12,.run 8,.again 12,.run 15,.run 16,.run 17,.run 18,.run 19,.run 20,.run 21],[0,0,0,4,12,28,0,64,252,0,512,1536,3584,0,8192,32764,65533,131069,262141,524287,1048575,2097151])]),
 (117,[(8,[.run 0,.run 1,.run 2,.run 3,.run 4,.run 5,.run 6,.run 7,.run 8,.run 9,.run 10,.run 11,.again 4,.run 12,.run 13,.run 14,.run 15],[0,0,2,6,14,0,0,0,192,448,992,2016,4094,8191,16383,32767]),
 (23,[.run 0,.run 1,.run 2,.run 3,.run 4,.run 5,.run 6,.run 7,.run 9,.run 10,.run 11,.run 12,.run 13,.run 14,.again 5,.again 12,.run 8,.again 12,.run 15,.run 16,.run 17,.run 18,.run 19,.run 20,.run 21],[0,0,0,4,12,28,0,64,252,0,512,1536,3584,0,8192,32764,65533,131069,262141,524287,1048575,2097151])]),
 (118,[(1,[.run 0,.run 1,.run 2,.run 3,.run 5,.run 6,.run 7,.run 8,.run 4,.again 5,.again 7,.run 9,.run 10,.run 11,.run 12],[0,0,2,0,15,0,0,64,0,511,1023,2047,4095])]),
 (119,[(1,[.run 0,.run 1,.run 2,.run 3,.run 4,.run 6,.run 7,.run 8,.run 9,.run 5,.again 0,.again 6,.again 7,.again 9,.run 10,.again 0,.run 11,.run 12],[0,0,0,0,8,30,0,0,0,256,1022,2047,4095])]),
 (124,[(6,[.run 0,.run 1,.run 2,.run 3,.run 4,.run 5,.run 6,.run 7,.run 8,.run 9],[0,0,3,7,0,0,32,112,240,511]),
 (11,[.run 0,.run 1,.run 2,.run 3,.run 4,.run 5,.run 6,.run 7,.run 8,.run 9],[0,0,3,7,0,0,32,112,240,511])]),
 (129,[(1,[.run 0,.run 1,.run 2,.run 3,.run 4,.run 5,.run 6,.run 7,.run 8,.run 9,.run 10,.run 11,.run 12],[0,0,3,7,0,16,48,112,0,496,1008,2047,4095])]),
 (132,[(1,[.run 0,.run 1,.run 2,.run 3,.run 4,.run 5,.run 6,.run 7,.run 8,.run 9,.run 10,.run 11,.run 12],[0,1,3,7,0,0,48,127,255,0,1023,2047,4095])]),
 (133,[(1,[.run 0,.run 1,.run 2,.run 3,.run 4,.run 5,.run 6,.run 7,.run 8,.run 9],[0,1,3,7,0,0,48,127,255,511])]),
 (138,[(17,[.run 0,.run 1,.run 2,.run 3,.run 4,.run 5,.run 6,.run 7,.run 8,.run 9,.run 10,.run 11,.run 12,.run 13,.run 14],[0,1,3,7,7,23,63,127,7,7,775,1799,4095,8191,16383])]),
 (144,[(4,[.run 0,.run 1,.run 2,.run 3,.run 4,.run 5,.run 6,.run 7,.run 8,.run 9,.run 10,.run 11,.run 12,.run 13,.run 14],[0,0,3,7,15,15,63,127,15,15,527,1807,3855,8191,16383]),
 (6,[.run 0,.run 1,.run 2,.run 3,.run 4,.run 5,.run 6,.run 7,.run 8,.run 9,.run 10,.run 11,.run 12,.run 13,.run 14,.run 15,.run 16,.run 17],[0,0,0,0,8,0,0,64,224,480,0,0,3072,7168,16355,32739,65535,131071])]),
 (145,[(10,[.run 0,.run 1,.run 2,.run 3,.run 4,.run 5,.run 6,.run 7,.run 8,.run 9,.run 10,.run 11,.run 12,.run 13,.run 14,.run 15,.run 16,.run 17,.run 18,.run 19],[0,0,0,0,0,24,0,0,0,384,960,1984,0,0,12288,28672,65475,131011,262143,524287])]),
 (146,[(10,[.run 0,.run 1,.run 2,.run 3,.run 4,.run 5,.run 6,.run 7,.run 8,.run 9,.run 10,.run 11,.run 12,.run 13,.run 14,.run 15,.run 16,.run 17,.run 18,.run 19],[0,0,0,0,0,24,0,0,0,384,960,1984,0,0,12288,28672,65475,131011,262143,524287])]),
 (148,[(3,[.run 0,.run 1,.run 2,.run 3,.run 4,.run 5,.run 6,.run 7,.run 8,.run 9,.run 10,.run 11,.run 12,.run 13,.run 14,.run 15],[0,0,0,0,0,0,48,112,0,0,768,1792,4083,8179,16383,32767])]),
 (149,[(5,[.run 0,.run 1,.run 2,.run 3,.run 4,.run 5,.run 6,.run 7,.run 8,.run 9,.run 10,.run 11,.run 12,.run 13,.run 14,.run 15],[0,0,3,7,15,15,63,127,15,15,527,1807,3855,8191,16383,32767]),
 (11,[.run 0,.run 1,.run 2,.run 3,.run 4,.run 5,.run 6,.run 7,.run 8,.run 9,.run 10,.run 11,.run 12,.run 13,.run 14,.run 15,.run 16,.run 17],[0,0,0,0,8,0,0,64,224,480,0,0,3072,7168,16355,32739,65535,131071]),
 (16,[.run 0,.run 1,.run 2,.run 3,.run 4,.run 5,.run 6,.run 7,.run 8,.run 9,.run 10],[0,0,3,7,0,0,32,112,240,511,1023]),
 (17,[.run 0,.run 1,.run 2,.run 3,.run 4,.run 5,.run 6,.run 7,.run 8,.run 9,.run 10,.run 11,.run 12,.run 13,.run 14,.run 15,.run 16,.run 17],[0,0,0,0,8,0,0,64,224,480,0,0,3072,7168,16355,32739,65535,131071]),
 (22,[.run 0,.run 1,.run 2,.run 3,.run 4,.run 5,.run 6,.run 7,.run 8,.run 9,.run 10],[0,0,3,7,0,0,32,112,240,511,1023]),
 (23,[.run 0,.run 1,.run 2,.run 3,.run 4,.run 5,.run 6,.run 7,.run 8,.run 9,.run 10,.run 11,.run 12,.run 13,.run 14,.run 15,.run 16,.run 17],[0,0,0,0,8,0,0,64,224,480,0,0,3072,7168,16355,32739,65535,131071])]),
 (151,[(1,[.run 0,.run 1,.run 2,.run 3,.run 4,.run 5,.run 6,.run 7,.run 8,.run 9,.run 10,.run 11,.run 12,.run 13,.run 14,.run 15],[0,0,0,0,0,0,48,112,0,0,768,1792,4083,8179,16383,32767]),
 (3,[.run 0,.run 1,.run 2,.run 3,.run 4,.run 5,.run 6,.run 7,.run 8,.run 9,.run 10,.run 11,.run 12,.run 13,.run 14],[0,0,3,7,15,15,63,127,15,15,783,1807,4095,8191,16383]),
 (5,[.run 0,.run 1,.run 2,.run 3,.run 4,.run 5,.run 6,.run 7,.run 8,.run 9,.run 10,.run 11,.run 12,.run 13],[0,0,3,7,15,15,63,127,15,15,783,1807,4095,8191]),
 (8,[.run 0,.run 1,.run 2,.run 3,.run 4,.run 5,.run 6,.run 7,.run 8,.run 9,.run 10,.run 11,.run 12,.run 13,.run 14,.run 15],[0,0,0,0,0,0,48,112,0,0,768,1792,4083,8179,16383,32767])]),
 (152,[(1,[.run 0,.run 1,.run 2,.run 3,.run 4,.run 5,.run 6,.run 7,.run 8,.run 9,.run 10,.run 11,.run 12,.run 13,.run 14,.run 15],[0,0,0,0,0,0,48,112,0,0,768,1792,4083,8179,16383,32767]),
 (3,[.run 0,.run 1,.run 2,.run 3,.run 4,.run 5,.run 6,.run 7,.run 8,.run 9,.run 10,.run 11,.run 12,.run 13],[0,0,3,7,15,15,63,127,15,15,783,1807,4095,8191]),
 (5,[.run 0,.run 1,.run 2,.run 3,.run 4,.run 5,.run 6,.run 7,.run 8,.run 9,.run 10,.run 11,.run 12,.run 13,.run 14],[0,0,3,7,15,15,63,127,15,15,783,1807,4095,8191,16383]),
 (8,[.run 0,.run 1,.run 2,.run 3,.run 4,.run 5,.run 6,.run 7,.run 8,.run 9,.run 10,.run 11,.run 12,.run 13,.run 14,.run 15],[0,0,0,0,0,0,48,112,0,0,768,1792,4083,8179,16383,32767]),
 (10,[.run 0,.run 1,.run 2,.run 3,.run 4,.run 5,.run 6,.run 7,.run 8,.run 9,.run 10,.run 11,.run 12,.run 13,.run 14,.run 15],[0,0,0,0,0,0,48,112,0,0,768,1792,4083,8179,16383,32767]),
 (13,[.run 0,.run 1,.run 2,.run 3,.run 4,.run 5,.run 6,.run 7,.run 8,.run 9,.run 10,.run 11,.run 12,.run 13],[0,0,3,7,15,15,63,127,15,15,783,1807,4095,8191]),
 (15,[.run 0,.run 1,.run 2,.run 3,.run 4,.run 5,.run 6,.run 7,.run 8,.run 9,.run 10,.run 11,.run 12,.run 13,.run 14],[0,0,3,7,15,15,63,127,15,15,783,1807,4095,8191,16383]),
 (18,[.run 0,.run 1,.run 2,.run 3,.run 4,.run 5,.run 6,.run 7,.run 8,.run 9,.run 10,.run 11,.run 12,.run 13,.run 14,.run 15],[0,0,0,0,0,0,48,112,0,0,768,1792,4083,8179,16383,32767]),
 (21,[.run 0,.run 1,.run 2,.run 3,.run 4,.run 5,.run 6,.run 7,.run 8,.run 9,.run 10,.run 11,.run 12,.run 13,.run 14,.run 15],[0,0,0,0,0,0,48,112,0,0,768,1792,4083,8179,16383,32767])]),
 (156,[(3,[.run 0,.run 1,.run 2,.run 3,.run 4,.run 5,.run 6,.run 7,.run 8,.run 9,.run 10,.run 11,.run 12,.run 13,.run 14,.run 15,.run 16,.run 17,.run 18,.run 19],[0,1,0,7,15,31,31,31,223,511,1023,31,31,31,12319,28703,63519,129055,262143,524287]),
 (5,[.run 0,.run 1,.run 2,.run 3,.run 4,.run 5,.run 6,.run 7,.run 8,.run 9,.run 10,.run 11,.run 12,.run 13],[0,0,0,6,15,31,0,0,0,384,960,1984,4095,8191]),
 (6,[.run 0,.run 1,.run 2,.run 3,.run 4,.run 5,.run 6,.run 7,.run 8,.run 9,.run 10,.run 11,.run 12,.run 13,.run 14,.run 15,.run 16,.run 17,.run 18,.run 19,.run 20,.run 21,.run 22,.run 23],[0,0,0,6,0,0,0,96,0,0,0,1536,3840,7936,0,0,0,98304,245760,507904,1048335,2096911,4194303,8388607])]),
 (158,[(1,[.run 0,.run 1,.run 2,.run 3,.run 4,.run 5,.run 6,.run 7,.run 8,.run 9],[0,1,3,0,8,24,56,127,255,511]),
 (2,[.run 0,.run 1,.run 2,.run 3,.run 4,.run 5,.run 6,.run 7,.run 8,.run 9],[0,1,3,0,8,24,56,127,255,511]),
 (3,[.run 0,.run 1,.run 2,.run 3,.run 4,.run 5,.run 6,.run 7,.run 8,.run 9],[0,1,3,0,8,24,56,127,255,511])]),
 (164,[(7,[.run 0,.run 1,.run 2,.run 3,.run 4,.run 5,.run 6,.run 7,.run 8,.run 9,.run 10,.run 11,.run 12,.run 13,.run 14],[0,0,2,0,0,16,0,64,192,0,512,455,2503,8191,16383]),
 (8,[.run 0,.run 1,.run 2,.run 3,.run 4,.run 5,.run 6,.run 7,.run 8,.run 9,.run 10,.run 11,.run 12,.run 13,.run 14],[0,0,2,0,0,16,0,64,192,0,512,455,2503,8191,16383]),
 (9,[.run 0,.run 1,.run 2,.run 3,.run 4,.run 5,.run 6,.run 7,.run 8,.run 9,.run 10,.run 11,.run 12,.run 13,.run 14],[0,0,2,0,0,16,0,64,192,0,512,455,2503,8191,16383]),
 (10,[.run 0,.run 1,.run 2,.run 3,.run 4,.run 5,.run 6,.run 7,.run 8,.run 9,.run 10,.run 11,.run 12,.run 13,.run 14],[0,0,2,0,0,16,0,64,192,0,512,455,2503,8191,16383]),
 (17,[.run 0,.run 1,.run 2,.run 3,.run 4,.run 5,.run 6,.run 7,.run 8,.run 9,.run 10,.run 11,.run 12,.run 13,.run 14],[0,0,2,0,0,16,0,64,192,0,512,455,2503,8191,16383]),
 (18,[.run 0,.run 1,.run 2,.run 3,.run 4,.run 5,.run 6,.run 7,.run 8,.run 9,.run 10,.run 11,.run 12,.run 13,.run 14],[0,0,2,0,0,16,0,64,192,0,512,455,2503,8191,16383]),
 (23,[.run 0,.run 1,.run 2,.run 3,.run 4,.run 5,.run 6,.run 7,.run 8,.run 9,.run 10,.run 11,.run 12,.run 13,.run 14],[0,0,2,0,0,16,0,64,192,0,512,455,2503,8191,16383])]),
 (166,[(1,[.run 0,.run 1,.run 2,.run 3,.run 4,.run 5,.run 6,.run 7,.run 8],[0,0,3,7,0,0,48,112,255])])]
def xy8 {α:Type} (k:Nat):List (Nat×α)->Option α
 | []=>none
 | (j,x)::l=>match Nat.beq j k with
  | true=>some x
  | false=>xy8 k l
def zz3:zqi:=λfn id=>match xy8 fn ymn with
 | some l=>xy8 id l
 | none=>none
theorem follows:Tryz.prog.follows .mixedOrders=true:=by kernel_rfl
def s1:Sum:=
 { f:=35,args:=[.agg ⟨[.int .i64 (.ofNat 2),.int .i64 (.ofNat 0),.slice (some ⟨1001,0,none⟩) 2 2,.slice (some ⟨1004,0,none⟩) 2 2]⟩],rows:=[]++[(1001,[.bool true,.bool false]),(1004,[.slice (some ⟨1002,0,none⟩) 2 2,.slice (some ⟨1003,0,none⟩) 2 2]),(1002,[.int .i64 (.ofNat 1),.int .i64 (.ofNat 0)]),(1003,[.int .i64 (.ofNat 0),.int .i64 (.ofNat 1)])],n:=1008,v:=.tuple ⟨[.agg ⟨[.int .i64 (.ofNat 2),.int .i64 (.ofNat 0),.slice (some ⟨1109,0,none⟩) 2 18446744073709553834,.slice (some ⟨1112,0,none⟩) 2 18446744073709553840]⟩,.int .i64 (.ofNat 0)]⟩,rs:=[(1109,[.bool false,.bool true]),(1112,[.slice (some ⟨1099,0,none⟩) 2 2,.slice (some ⟨1110,0,none⟩) 2 2]),(1099,[.int .i64 (.ofNat 1),.int .i64 (.ofNat 0)]),(1110,[.int .i64 (.ofNat 0),.int .i64 (.ofNat 1)])],n':=1114 }
def s2:Sum:=
 { f:=33,args:=[.agg ⟨[.int .i64 (.ofNat 2),.int .i64 (.ofNat 0),.slice (some ⟨1001,0,none⟩) 2 2,.slice (some ⟨1004,0,none⟩) 2 2]⟩,.agg ⟨[.int .i64 (.ofNat 2),.int .i64 (.ofNat 0),.slice (some ⟨1109,0,none⟩) 2 18446744073709553834,.slice (some ⟨1112,0,none⟩) 2 18446744073709553840]⟩,.int .i64 (.ofNat 2)],rows:=[]++[(1001,[.bool true,.bool false]),(1004,[.slice (some ⟨1002,0,none⟩) 2 2,.slice (some ⟨1003,0,none⟩) 2 2]),(1002,[.int .i64 (.ofNat 1),.int .i64 (.ofNat 0)]),(1003,[.int .i64 (.ofNat 0),.int .i64 (.ofNat 1)]),(1109,[.bool false,.bool true]),(1112,[.slice (some ⟨1099,0,none⟩) 2 2,.slice (some ⟨1110,0,none⟩) 2 2]),(1099,[.int .i64 (.ofNat 1),.int .i64 (.ofNat 0)]),(1110,[.int .i64 (.ofNat 0),.int .i64 (.ofNat 1)])],n:=1115,v:=.tuple ⟨[.agg ⟨[.int .i64 (.ofNat 2),.int .i64 (.ofNat 0),.slice (some ⟨1237,0,none⟩) 1 18446744073709554090,.slice (some ⟨1240,0,none⟩) 1 18446744073709554096]⟩,.int .i64 (.ofNat 0)]⟩,rs:=[(1237,[.bool true]),(1240,[.slice (some ⟨1238,0,none⟩) 2 2]),(1238,[.int .i64 (.ofNat 0),.int .i64 (.ofNat 0)])],n':=1242 }
def s3:Sum:=
 { f:=33,args:=[.agg ⟨[.int .i64 (.ofNat 2),.int .i64 (.ofNat 0),.slice (some ⟨1001,0,none⟩) 2 2,.slice (some ⟨1004,0,none⟩) 2 2]⟩,.agg ⟨[.int .i64 (.ofNat 2),.int .i64 (.ofNat 0),.slice (some ⟨1109,0,none⟩) 2 18446744073709553834,.slice (some ⟨1112,0,none⟩) 2 18446744073709553840]⟩,.int .i64 (.ofNat 1)],rows:=[]++[(1001,[.bool true,.bool false]),(1004,[.slice (some ⟨1002,0,none⟩) 2 2,.slice (some ⟨1003,0,none⟩) 2 2]),(1002,[.int .i64 (.ofNat 1),.int .i64 (.ofNat 0)]),(1003,[.int .i64 (.ofNat 0),.int .i64 (.ofNat 1)]),(1109,[.bool false,.bool true]),(1112,[.slice (some ⟨1099,0,none⟩) 2 2,.slice (some ⟨1110,0,none⟩) 2 2]),(1099,[.int .i64 (.ofNat 1),.int .i64 (.ofNat 0)]),(1110,[.int .i64 (.ofNat 0),.int .i64 (.ofNat 1)])],n:=1243,v:=.tuple ⟨[.agg ⟨[.int .i64 (.ofNat 2),.int .i64 (.ofNat 0),.slice none 0 0,.slice none 0 0]⟩,.int .i64 (.ofNat 0)]⟩,rs:=[],n':=1325 }
def s4:Sum:=
 { f:=27,args:=[.agg ⟨[.int .i64 (.ofNat 2),.int .i64 (.ofNat 0),.slice (some ⟨1001,0,none⟩) 2 2,.slice (some ⟨1004,0,none⟩) 2 2]⟩,.agg ⟨[.int .i64 (.ofNat 2),.int .i64 (.ofNat 0),.slice (some ⟨1109,0,none⟩) 2 18446744073709553834,.slice (some ⟨1112,0,none⟩) 2 18446744073709553840]⟩],rows:=[]++[(1001,[.bool true,.bool false]),(1004,[.slice (some ⟨1002,0,none⟩) 2 2,.slice (some ⟨1003,0,none⟩) 2 2]),(1002,[.int .i64 (.ofNat 1),.int .i64 (.ofNat 0)]),(1003,[.int .i64 (.ofNat 0),.int .i64 (.ofNat 1)]),(1109,[.bool false,.bool true]),(1112,[.slice (some ⟨1099,0,none⟩) 2 2,.slice (some ⟨1110,0,none⟩) 2 2]),(1099,[.int .i64 (.ofNat 1),.int .i64 (.ofNat 0)]),(1110,[.int .i64 (.ofNat 0),.int .i64 (.ofNat 1)])],n:=1335,v:=.tuple ⟨[.slice (some ⟨1396,0,none⟩) 0 0,.bool true,.int .i64 (.ofNat 0)]⟩,rs:=[(1396,[])],n':=1397 }
def s5:Sum:=
 { f:=30,args:=[.agg ⟨[.int .i64 (.ofNat 2),.int .i64 (.ofNat 0),.slice (some ⟨1001,0,none⟩) 2 2,.slice (some ⟨1004,0,none⟩) 2 2]⟩,.int .i64 (.ofNat 4),.int .i64 (.ofNat 9)],rows:=[]++[(1001,[.bool true,.bool false]),(1004,[.slice (some ⟨1002,0,none⟩) 2 2,.slice (some ⟨1003,0,none⟩) 2 2]),(1002,[.int .i64 (.ofNat 1),.int .i64 (.ofNat 0)]),(1003,[.int .i64 (.ofNat 0),.int .i64 (.ofNat 1)])],n:=1397,v:=.tuple ⟨[.slice (some ⟨1449,0,none⟩) 4 18446744073709554514,.int .i64 (.ofNat 0)]⟩,rs:=[(1449,[.slice (some ⟨1407,0,none⟩) 0 0,.slice (some ⟨1421,0,none⟩) 1 18446744073709554458,.slice (some ⟨1435,0,none⟩) 2 18446744073709554486,.slice (some ⟨1447,0,none⟩) 2 18446744073709554510]),(1407,[]),(1421,[.int .i64 (.ofNat 1)]),(1435,[.int .i64 (.ofNat 0),.int .i64 (.ofNat 0)]),(1447,[.int .i64 (.ofNat 1),.int .i64 (.ofNat 1)])],n':=1451 }
def s6:Sum:=
 { f:=37,args:=[.int .i64 (.ofNat 2),.slice (some ⟨1453,0,none⟩) 2 2],rows:=[]++[(1453,[.slice (some ⟨1451,0,none⟩) 1 1,.slice (some ⟨1452,0,none⟩) 2 2]),(1451,[.int .i64 (.ofNat 0)]),(1452,[.int .i64 (.ofNat 0),.int .i64 (.ofNat 1)])],n:=1454,v:=.tuple ⟨[.agg ⟨[.int .i64 (.ofNat 2),.int .i64 (.ofNat 0),.slice (some ⟨1583,0,none⟩) 3 18446744073709554782,.slice (some ⟨1586,0,none⟩) 3 18446744073709554788]⟩,.int .i64 (.ofNat 0)]⟩,rs:=[(1583,[.bool false,.bool true,.bool true]),(1586,[.slice (some ⟨1562,0,none⟩) 2 2,.slice (some ⟨1573,0,none⟩) 2 2,.slice (some ⟨1584,0,none⟩) 2 2]),(1562,[.int .i64 (.ofNat 1),.int .i64 (.negSucc 0)]),(1573,[.int .i64 (.negSucc 0),.int .i64 (.ofNat 2)]),(1584,[.int .i64 (.negSucc 0),.int .i64 (.negSucc 0)])],n':=1588 }
def s7:Sum:=
 { f:=40,args:=[.agg ⟨[.int .i64 (.ofNat 2),.int .i64 (.ofNat 0),.slice (some ⟨1001,0,none⟩) 2 2,.slice (some ⟨1004,0,none⟩) 2 2]⟩,.agg ⟨[.int .i64 (.ofNat 2),.int .i64 (.ofNat 0),.slice (some ⟨1001,0,none⟩) 2 2,.slice (some ⟨1004,0,none⟩) 2 2]⟩],rows:=[]++[(1001,[.bool true,.bool false]),(1004,[.slice (some ⟨1002,0,none⟩) 2 2,.slice (some ⟨1003,0,none⟩) 2 2]),(1002,[.int .i64 (.ofNat 1),.int .i64 (.ofNat 0)]),(1003,[.int .i64 (.ofNat 0),.int .i64 (.ofNat 1)])],n:=1589,v:=.tuple ⟨[.agg ⟨[.int .i64 (.ofNat 2),.int .i64 (.ofNat 0),.slice (some ⟨1756,0,none⟩) 2 18446744073709555128,.slice (some ⟨1759,0,none⟩) 2 18446744073709555134]⟩,.int .i64 (.ofNat 0)]⟩,rs:=[(1756,[.bool true,.bool false]),(1759,[.slice (some ⟨1746,0,none⟩) 2 2,.slice (some ⟨1757,0,none⟩) 2 2]),(1746,[.int .i64 (.ofNat 1),.int .i64 (.ofNat 0)]),(1757,[.int .i64 (.ofNat 0),.int .i64 (.ofNat 1)])],n':=1761 }
def s8:Sum:=
 { f:=17,args:=[.agg ⟨[.int .i64 (.ofNat 2),.int .i64 (.ofNat 0),.slice (some ⟨1762,0,none⟩) 3 3,.slice (some ⟨1766,0,none⟩) 3 3]⟩],rows:=[]++[(1762,[.bool true,.bool false,.bool true]),(1766,[.slice (some ⟨1763,0,none⟩) 2 2,.slice (some ⟨1764,0,none⟩) 2 2,.slice (some ⟨1765,0,none⟩) 2 2]),(1763,[.int .i64 (.ofNat 1),.int .i64 (.ofNat 0)]),(1764,[.int .i64 (.ofNat 0),.int .i64 (.ofNat 1)]),(1765,[.int .i64 (.negSucc 0),.int .i64 (.ofNat 0)])],n:=1768,v:=.tuple ⟨[.agg ⟨[.int .i64 (.ofNat 2),.int .i64 (.ofNat 0),.slice (some ⟨1869,0,none⟩) 2 18446744073709555354,.slice (some ⟨1872,0,none⟩) 2 18446744073709555360]⟩,.int .i64 (.ofNat 0)]⟩,rs:=[(1869,[.bool true,.bool false]),(1872,[.slice (some ⟨1859,0,none⟩) 2 2,.slice (some ⟨1870,0,none⟩) 2 2]),(1859,[.int .i64 (.ofNat 1),.int .i64 (.ofNat 0)]),(1870,[.int .i64 (.ofNat 0),.int .i64 (.ofNat 1)])],n':=1874 }
def s9:Sum:=
 { f:=16,args:=[.agg ⟨[.int .i64 (.ofNat 2),.int .i64 (.ofNat 0),.slice (some ⟨1001,0,none⟩) 2 2,.slice (some ⟨1004,0,none⟩) 2 2]⟩,.int .i64 (.ofNat 0),.slice (some ⟨1891,0,none⟩) 1 1],rows:=[]++[(1001,[.bool true,.bool false]),(1004,[.slice (some ⟨1002,0,none⟩) 2 2,.slice (some ⟨1003,0,none⟩) 2 2]),(1002,[.int .i64 (.ofNat 1),.int .i64 (.ofNat 0)]),(1003,[.int .i64 (.ofNat 0),.int .i64 (.ofNat 1)]),(1891,[.int .i64 (.ofNat 0)])],n:=1892,v:=.tuple ⟨[.int .i64 (.ofNat 1),.bool true]⟩,rs:=[],n':=1895 }
def s10:Sum:=
 { f:=20,args:=[.agg ⟨[.int .i64 (.ofNat 2),.int .i64 (.ofNat 0),.slice (some ⟨1001,0,none⟩) 2 2,.slice (some ⟨1004,0,none⟩) 2 2]⟩,.slice (some ⟨1895,0,none⟩) 3 3],rows:=[]++[(1001,[.bool true,.bool false]),(1004,[.slice (some ⟨1002,0,none⟩) 2 2,.slice (some ⟨1003,0,none⟩) 2 2]),(1002,[.int .i64 (.ofNat 1),.int .i64 (.ofNat 0)]),(1003,[.int .i64 (.ofNat 0),.int .i64 (.ofNat 1)]),(1895,[.int .i64 (.ofNat 0),.int .i64 (.ofNat 1),.int .i64 (.ofNat 0)])],n:=1896,v:=.bool true,rs:=[],n':=1900 }
def s11:Sum:=
 { f:=20,args:=[.agg ⟨[.int .i64 (.ofNat 2),.int .i64 (.ofNat 0),.slice (some ⟨1001,0,none⟩) 2 2,.slice (some ⟨1004,0,none⟩) 2 2]⟩,.slice (some ⟨1900,0,none⟩) 1 1],rows:=[]++[(1001,[.bool true,.bool false]),(1004,[.slice (some ⟨1002,0,none⟩) 2 2,.slice (some ⟨1003,0,none⟩) 2 2]),(1002,[.int .i64 (.ofNat 1),.int .i64 (.ofNat 0)]),(1003,[.int .i64 (.ofNat 0),.int .i64 (.ofNat 1)]),(1900,[.int .i64 (.ofNat 0)])],n:=1901,v:=.bool false,rs:=[],n':=1905 }
def s12:Sum:=
 { f:=23,args:=[.agg ⟨[.int .i64 (.ofNat 2),.int .i64 (.ofNat 0),.slice (some ⟨1001,0,none⟩) 2 2,.slice (some ⟨1004,0,none⟩) 2 2]⟩],rows:=[]++[(1001,[.bool true,.bool false]),(1004,[.slice (some ⟨1002,0,none⟩) 2 2,.slice (some ⟨1003,0,none⟩) 2 2]),(1002,[.int .i64 (.ofNat 1),.int .i64 (.ofNat 0)]),(1003,[.int .i64 (.ofNat 0),.int .i64 (.ofNat 1)])],n:=1905,v:=.bool true,rs:=[],n':=2015 }
def s13:Sum:=
 { f:=23,args:=[.agg ⟨[.int .i64 (.ofNat 2),.int .i64 (.ofNat 0),.slice (some ⟨1762,0,none⟩) 3 3,.slice (some ⟨1766,0,none⟩) 3 3]⟩],rows:=[]++[(1762,[.bool true,.bool false,.bool true]),(1766,[.slice (some ⟨1763,0,none⟩) 2 2,.slice (some ⟨1764,0,none⟩) 2 2,.slice (some ⟨1765,0,none⟩) 2 2]),(1763,[.int .i64 (.ofNat 1),.int .i64 (.ofNat 0)]),(1764,[.int .i64 (.ofNat 0),.int .i64 (.ofNat 1)]),(1765,[.int .i64 (.negSucc 0),.int .i64 (.ofNat 0)])],n:=2015,v:=.bool false,rs:=[],n':=2125 }
def s14:Sum:=
 { f:=25,args:=[.agg ⟨[.int .i64 (.ofNat 2),.int .i64 (.ofNat 0),.slice (some ⟨1001,0,none⟩) 2 2,.slice (some ⟨1004,0,none⟩) 2 2]⟩,.agg ⟨[.int .i64 (.ofNat 2),.int .i64 (.ofNat 0),.slice (some ⟨1001,0,none⟩) 2 2,.slice (some ⟨1004,0,none⟩) 2 2]⟩],rows:=[]++[(1001,[.bool true,.bool false]),(1004,[.slice (some ⟨1002,0,none⟩) 2 2,.slice (some ⟨1003,0,none⟩) 2 2]),(1002,[.int .i64 (.ofNat 1),.int .i64 (.ofNat 0)]),(1003,[.int .i64 (.ofNat 0),.int .i64 (.ofNat 1)])],n:=2125,v:=.bool true,rs:=[],n':=2127 }
def s15:Sum:=
 { f:=18,args:=[.agg ⟨[.int .i64 (.ofNat 2),.int .i64 (.ofNat 0),.slice (some ⟨1001,0,none⟩) 2 2,.slice (some ⟨1004,0,none⟩) 2 2]⟩],rows:=[]++[(1001,[.bool true,.bool false]),(1004,[.slice (some ⟨1002,0,none⟩) 2 2,.slice (some ⟨1003,0,none⟩) 2 2]),(1002,[.int .i64 (.ofNat 1),.int .i64 (.ofNat 0)]),(1003,[.int .i64 (.ofNat 0),.int .i64 (.ofNat 1)])],n:=2127,v:=.int .i64 (.ofNat 0),rs:=[],n':=2128 }
end Go.Proofs.YtfjbdkmmoinngaaGreatDoor.Sane
