/- Texts of this proof, part WB. -/
import Derived.Test.YtfjbdkmmoinngaaGreatDoorWA
import Derived.Test.YtfjbdkmmoinngaaGreatDoorDvB
import Derived.Test.YtfjbdkmmoinngaaGreatDoorPure
set_option linter.unusedVariables false
set_option linter.unusedSimpArgs false
set_option linter.unusedSectionVars false
set_option maxRecDepth 100000
set_option maxHeartbeats 2000000
namespace Go.Dv
open Go Go.Sim Go.Proofs Go.Fsa
attribute [local simp] encI bitF autD b_neqB b_eqlB el_num set_num fz_num numD bitD el_bit set_bit fz_bit
def byteD (n:Nat):DV:=.f (.raw (.int .u8 n))
def byteF (n:Nat):FV:=.raw (.int .u8 n)
def digS:ByteArray:=⟨#[48,49,50,51,52,53,54,55,56,57,97,98,99,100,101,102,103,104,105,106,107,108,109,110,111,112,113,114,115,116,117,118,119,120,121,122]⟩
end Go.Dv
namespace Go.Dv
open Go Go.Sim Go.Proofs Go.Fsa
attribute [local simp] encI bitF autD b_neqB b_eqlB el_num set_num fz_num numD bitD el_bit set_bit fz_bit
end Go.Dv
namespace Go.Dv
open Go Go.Sim Go.Proofs Go.Fsa
attribute [local simp] encI bitF autD b_neqB b_eqlB el_num set_num fz_num numD bitD el_bit set_bit fz_bit
theorem normF_strL {l:List UInt8}:normF (.raw (strL l))=.raw (strL l):=rfl
attribute [local simp] normF_strL
theorem bl_byte {L n:Nat}:below L (byteD n)=true:=bl_f
attribute [local simp] bl_byte
theorem get_app {D X:DH} {o:Nat} {x:DObj} (h:D[o]? =some x):(D++X)[o]? =some x:=by
 rw [List.getElem?_append_left (ltOf h)];exact h
structure MachAt (D:DH) (o1 om oa on:Nat) (x y:DV) (m:Aut):Prop where
 box:D[o1]? =some (.arr 1 [.ref om 0 0])
 mach:D[om]? =some (.arr 5 [.agg [intD m.sy,.apl oa m.acc.length,.apl on m.acc.length,x,y]])
 acc:D[oa]? =some (.app 4 1 (m.acc.map bitD))
 nxt:D[on]? =some (.app 26 1 (m.nxt.map rowD))
theorem MachAt.app {D X:DH} {o1 om oa on:Nat} {x y:DV} {m:Aut} (h:MachAt D o1 om oa on x y m):MachAt (D++X) o1 om oa on x y m:=⟨get_app h.1,get_app h.2,get_app h.3,get_app h.4⟩
def natD (l:List Nat):DV:=rowD (l.map fun c:Nat=>(c:Int))
noncomputable def keyD (m:Aut) (lv:List Bool) (cl:List Nat) (i:Nat):DV:=rv (strL ((keyAt lv m.nxt cl i).map UInt8.ofNat))
end Go.Dv
namespace Go.Dv
open Go Go.Sim Go.Proofs Go.Fsa
attribute [local simp] encI bitF autD b_neqB b_eqlB el_num set_num fz_num numD bitD el_bit set_bit fz_bit normF_strL bl_byte
abbrev encB (p:Bool×Bool):Value:=.agg #[.bool p.1,.bool p.2]
end Go.Dv
namespace Go.Dv
open Go Go.Sim Go.Proofs Go.Fsa
attribute [local simp] encI bitF autD b_neqB b_eqlB el_num set_num fz_num numD bitD el_bit set_bit fz_bit normF_strL bl_byte
end Go.Dv
namespace Go.Dv
open Go Go.Sim Go.Proofs Go.Fsa
attribute [local simp] encI bitF autD b_neqB b_eqlB el_num set_num fz_num numD bitD el_bit set_bit fz_bit normF_strL bl_byte
def aplsD (o:Nat) (B:List (List Int)):List DV:=(List.range B.length).map fun i=>.apl (o+(i+1)) ((B[i]?).getD []).length
def appsD (B:List (List Int)):DH:=B.map fun l=>.app 3 1 (l.map numD)
end Go.Dv
namespace Go.Dv
open Go Go.Sim Go.Proofs Go.Fsa
attribute [local simp] encI bitF autD b_neqB b_eqlB el_num set_num fz_num numD bitD el_bit set_bit fz_bit normF_strL bl_byte
end Go.Dv
namespace Go.Dv
open Go Go.Sim Go.Proofs Go.Fsa
attribute [local simp] encI bitF autD b_neqB b_eqlB el_num set_num fz_num numD bitD el_bit set_bit fz_bit normF_strL bl_byte
structure MembAt (D:DH) (o8 op:Nat) (cI ks:List Int):Prop where
 cell:D[o8]? =some (.arr 1 [.mp op])
 map:D[op]? =some (.map (ks.map encI) ((ks.map fun c=>((numK cI c:Nat):Int)).map numD))
theorem MembAt.app {D X:DH} {o8 op:Nat} {cI ks:List Int} (h:MembAt D o8 op cI ks):MembAt (D++X) o8 op cI ks:=⟨get_app h.1,get_app h.2⟩
end Go.Dv
set_option maxHeartbeats 4000000
namespace Go.Dv
open Go Go.Sim Go.Proofs Go.Fsa
attribute [local simp] encI bitF autD b_neqB b_eqlB el_num set_num fz_num numD bitD el_bit set_bit fz_bit normF_strL bl_byte
end Go.Dv
namespace Go.Dv
open Go Go.Sim Go.Proofs Go.Fsa
attribute [local simp] encI bitF autD b_neqB b_eqlB el_num set_num fz_num numD bitD el_bit set_bit fz_bit normF_strL bl_byte
end Go.Dv
namespace Go.Dv
open Go Go.Sim Go.Proofs Go.Fsa
attribute [local simp] encI bitF autD b_neqB b_eqlB el_num set_num fz_num numD bitD el_bit set_bit fz_bit normF_strL bl_byte
end Go.Dv
namespace Go.Fsa
def Aut.small (a:Aut):Prop:=a.acc.length≤41∧a.nxt.length≤41∧∀ r∈a.nxt,r.length≤450
instance (a:Aut):Decidable a.small:=inferInstanceAs (Decidable (_∧_))
end Go.Fsa
namespace Go.Dv
open Go Go.Sim Go.Proofs Go.Fsa
attribute [local simp] encI bitF autD b_neqB b_eqlB el_num set_num fz_num numD bitD el_bit set_bit fz_bit normF_strL bl_byte
theorem w12 (l:List Aut) (hl:l.length≤1000) (h:∀ a∈l,a.nxt.length<1152921504606846976) (o base:Nat) (D:DH) (ho:D[o]? =some (.arr 4 (l.map autD))) :
  callD Q 12 [.row o 0 l.length l.length] base D=some (boolD (decide (∀ a∈l,a.small)),D):=by
 rw [call_pure (fn:=Tryz.f12) (show Q.P.funcs[12]? =some Tryz.f12 from Tryz.func12) rfl ann12 rfl (by simp only [List.length_cons,List.length_nil];decide) (by kernel_rfl)]
 have g:=fun X=>get_app (X:=X) ho
 have hol:∀ k,o<D.length+k:=fun k=>by have:=ltOf ho;omega
 have hol0:=ltOf ho
 simp (maxSteps:=2000000) [-getElem?_pos,-List.map_set,-objBelow,-depV,g,hol,hol0]
 generalize hs37:SD.mk _ _=sd37
 revert sd37
 refine wl (fun i:Nat=>⟨(Trie.leaf.put 3 (intD i)).put 0 (.row o 0 l.length l.length),D⟩) (fun i=>i≤l.length∧∀ a∈l.take i,a.small) (fun i=>l.length-i) ?_ 0 ⟨Nat.zero_le _,fun a h=>(by simp [-getElem?_pos,-List.map_set,-objBelow,-depV] at h)⟩
 intro i ⟨hi,hs⟩ ih
 rw [loopG_eq]
 by_cases hlt:i<l.length
 case neg=>
  rw [List.take_of_length_le (by omega)] at hs
  simp (maxSteps:=2000000) [-getElem?_pos,-List.map_set,-objBelow,-depV,ho,g,hlt]
  exact hs
 obtain ⟨a,ha⟩:∃ a,l[i]? =some a:=⟨_,List.getElem?_eq_getElem hlt⟩
 have ham:=List.mem_of_getElem? ha
 have han:=h a ham
 have hfail:¬a.small→(decide (∀ a∈l,a.small))=false:=fun hn=>decide_eq_false fun hh=>hn (hh a ham)
 have hww:=wrap_succ (show i+1≤9223372036854775807 by omega)
 by_cases c1:a.acc.length≤41
 case neg=>
  rw [hfail fun hh=>c1 hh.1]
  simp (maxSteps:=2000000) [-getElem?_pos,-List.map_set,-objBelow,-depV,ho,g,hlt,ha,show (41:Int)<a.acc.length by omega,show 41<a.acc.length by omega]
 by_cases c2:a.nxt.length≤41
 case neg=>
  rw [hfail fun hh=>c2 hh.2.1]
  simp (maxSteps:=2000000) [-getElem?_pos,-List.map_set,-objBelow,-depV,ho,g,hlt,ha,show ¬(41:Int)<a.acc.length by omega,show (41:Int)<a.nxt.length by omega,show ¬41<a.acc.length by omega,show 41<a.nxt.length by omega]
 simp (maxSteps:=2000000) [-getElem?_pos,-List.map_set,-objBelow,-depV,ho,g,hol,hol0,hlt,ha,show ¬(41:Int)<a.acc.length by omega,show ¬(41:Int)<a.nxt.length by omega,show ¬41<a.acc.length by omega,show ¬41<a.nxt.length by omega]
 by_cases c3:∀ r∈a.nxt,r.length≤450
 ·generalize hX:loopG _ _ _=X
  obtain ⟨tm,rfl,t0,t3⟩:∃ tm,X=some (.exit 2,⟨tm,D++[.arr 4 [autD a]]⟩)∧tm.get 0=some (.row o 0 l.length l.length)∧tm.get 3=some (intD i):=by
   rw [← hX]
   clear hX ih
   generalize hs38:SD.mk _ _=sd38
   revert sd38
   refine wl (fun k:Nat=>⟨(((Trie.leaf.put 5 (intD k)).put 4 (.ref D.length 0 0)).put 3 (intD i)).put 0 (.row o 0 l.length l.length),D++[.arr 4 [autD a]]⟩) (fun k=>k≤a.nxt.length) (fun k=>a.nxt.length-k) ?_ 0 (Nat.zero_le _)
   intro k hk ih
   rw [loopG_eq]
   by_cases hks:k<a.nxt.length
   ·obtain ⟨r,hr⟩:∃ r,a.nxt[k]? =some r:=⟨_,List.getElem?_eq_getElem hks⟩
    have hrl:=c3 r (List.mem_of_getElem? hr)
    have ih':=ih (k+1) (by omega) (by omega)
    simp (maxSteps:=2000000) [-getElem?_pos,-List.map_set,-objBelow,-depV] at ih'
    simp (maxSteps:=2000000) [-getElem?_pos,-List.map_set,-objBelow,-depV,hol,hks,hr,show ¬(450:Int)<r.length by omega,show ¬450<r.length by omega,wrap_succ (show k+1≤9223372036854775807 by omega)]
    exact ih'
   ·simp (maxSteps:=2000000) [-getElem?_pos,-List.map_set,-objBelow,-depV,hks]
  clear hX
  have ih':=ih (i+1) ⟨by omega,fun b hb=>by
   rw [List.take_add_one,ha] at hb
   rcases List.mem_append.1 hb with h | h
   ·exact hs b h
   ·simp only [Option.toList,List.mem_singleton] at h;rw [h];exact ⟨c1,c2,c3⟩⟩ (by omega)
  simp (maxSteps:=2000000) [-getElem?_pos,-List.map_set,-objBelow,-depV] at ih'
  simp (maxSteps:=2000000) [-getElem?_pos,-List.map_set,-objBelow,-depV,hol,hol0,t0,t3,hww]
  exact ih'
 ·rw [hfail fun hh=>c3 hh.2.2]
  generalize hX:loopG _ _ _=X
  obtain ⟨tm,E,rfl,t2⟩:∃ (tm:Trie DV) (E:DH),X=some (.ret,⟨tm,D++E⟩)∧tm.get 2=some (boolD false):=by
   rw [← hX]
   clear hX ih
   generalize hs39:SD.mk _ _=sd39
   revert sd39
   refine wl (fun k:Nat=>⟨(((Trie.leaf.put 5 (intD k)).put 4 (.ref D.length 0 0)).put 3 (intD i)).put 0 (.row o 0 l.length l.length),D++[.arr 4 [autD a]]⟩) (fun k=>k≤a.nxt.length∧∀ r∈a.nxt.take k,r.length≤450) (fun k=>a.nxt.length-k) ?_ 0 ⟨Nat.zero_le _,fun r h=>(by simp [-getElem?_pos,-List.map_set,-objBelow,-depV] at h)⟩
   intro k ⟨hk,hkr⟩ ih
   rw [loopG_eq]
   have hks:k<a.nxt.length:=by
    rcases Nat.lt_or_ge k a.nxt.length with g | g
    ·exact g
    ·rw [List.take_of_length_le g] at hkr;exact absurd hkr c3
   obtain ⟨r,hr⟩:∃ r,a.nxt[k]? =some r:=⟨_,List.getElem?_eq_getElem hks⟩
   by_cases hrl:r.length≤450
   ·have ih':=ih (k+1) ⟨by omega,fun s hs'=>by
     rw [List.take_add_one,hr] at hs'
     rcases List.mem_append.1 hs' with h | h
     ·exact hkr s h
     ·simp only [Option.toList,List.mem_singleton] at h;rw [h];exact hrl⟩ (by omega)
    simp (maxSteps:=2000000) [-getElem?_pos,-List.map_set,-objBelow,-depV] at ih'
    simp (maxSteps:=2000000) [-getElem?_pos,-List.map_set,-objBelow,-depV,hol,hks,hr,show ¬(450:Int)<r.length by omega,show ¬450<r.length by omega,wrap_succ (show k+1≤9223372036854775807 by omega)]
    exact ih'
   ·simp (maxSteps:=2000000) [-getElem?_pos,-List.map_set,-objBelow,-depV,hks,hr,show (450:Int)<r.length by omega,show 450<r.length by omega]
  simp (maxSteps:=2000000) [-getElem?_pos,-List.map_set,-objBelow,-depV,t2]
end Go.Dv
namespace Go.Dv
open Go Go.Sim Go.Proofs Go.Fsa
attribute [local simp] encI bitF autD b_neqB b_eqlB el_num set_num fz_num numD bitD el_bit set_bit fz_bit normF_strL bl_byte
theorem eqD_agg {D:DH} {l:List DV}:eqD D (.agg l)=l.all (eq1D D):=rfl
theorem eq1_int {D:DH} {k:IntKind} {n:Int}:eq1D D (.f (.raw (.int k n)))=true:=by
 show (eqV1 (.int k n) (.int k n)&&oneCell (.int k n))=true
 rw [show oneCell (.int k n)=true from rfl,Bool.and_true]
 show (match eqK k k with
  | true=>eqI n n
  | false=>false)=true
 rw [show eqK k k=true by cases k<;>rfl]
 rw [eqI_eq];simp [-getElem?_pos,-List.map_set,-objBelow,-depV]
theorem eq1_bool {D:DH} {b:Bool}:eq1D D (.f (.raw (.bool b)))=true:=by cases b<;>rfl
theorem eq1_lst {D:DH} {l:List FV}:eq1D D (.f (.lst l))=true:=rfl
noncomputable def agW (b:Bool):Option Bool→Bool
 | some true=>b
 | some false=>true
 | none=>false
theorem agO_g {nt:Nat} {all:List Oper} {tm:Trie DV} {cl:List (Nat×Option Nat)} {D:DH} {i d:Nat} {op:Op} {ty:TypeId} {pos:String} {aft:Array Edge} {g:Nat×Bool}:agO nt all tm cl D i (some ⟨some d,op,ty,pos,aft,some g⟩)=agW (hasD i cl&&(decide (d<nt)&&((tm.get d).map (eqD D)).getD false)) (wantD all tm (some g)):=by
 unfold agO agW
 simp only
 rcases wantD all tm (some g) with _ | b
 ·rfl
 ·cases b<;>rfl
theorem agW_t {b:Bool}:agW b (some true)=b:=rfl
theorem agW_f {b:Bool}:agW b (some false)=true:=rfl
attribute [local simp] agO_g agW_t agW_f
attribute [local simp] eqD_agg eq1_int eq1_bool eq1_lst
end Go.Dv
set_option maxHeartbeats 2000000
namespace Go.Dv
open Go Go.Sim Go.Proofs Go.Fsa
abbrev encP (p:Int×Int):Value:=.agg #[.int .i64 p.1,.int .i64 p.2]
def prD (p:Int×Int):DV:=.agg [.f (.raw (.int .i64 p.1)),.f (.raw (.int .i64 p.2))]
attribute [local simp] encI bitF autD b_neqB b_eqlB el_num set_num fz_num numD bitD el_bit set_bit fz_bit prD
theorem pureRun_bind {α β:Type} {P:Program}:∀ (x:Sem α) (f:α→Sem β),pureRun P (x >>= f)=(pureRun P x).bind fun a=>pureRun P (f a)
 | .pure _,_=>rfl
 | .program k,f=>pureRun_bind (k P) f
 | .mark _ k,f=>pureRun_bind k f
 | .load ..,_=>rfl
 | .store ..,_=>rfl
 | .new ..,_=>rfl
 | .shape ..,_=>rfl
 | .freeze ..,_=>rfl
 | .frozen ..,_=>rfl
 | .getObj ..,_=>rfl
 | .setObj ..,_=>rfl
 | .choose ..,_=>rfl
 | .sys ..,_=>rfl
 | .halt _,_=>rfl
theorem pureRun_pure {α:Type} {P:Program} (a:α):pureRun P (pure a:Sem α)=some a:=rfl
theorem pu133:pureRun Tryz.prog (underlying 133)=some (.array 2 3):=by kernel_rfl
theorem pu3:pureRun Tryz.prog (underlying 3)=some (.int .i64):=by kernel_rfl
theorem ps3:pureRun Tryz.prog (sizeOf 3)=some 1:=by kernel_rfl
theorem pp0 (a b:Int):pureRun Tryz.prog (part 3 #[.int .i64 a,.int .i64 b] 0)=some (.int .i64 a):=rfl
theorem pp1 (a b:Int):pureRun Tryz.prog (part 3 #[.int .i64 a,.int .i64 b] 1)=some (.int .i64 b):=rfl
theorem pe3 (d:Nat) (a c:Int):pureRun Tryz.prog (Op.equalIn (d+1) 3 (.int .i64 a) (.int .i64 c))=some (a==c):=by
 rw [Op.equalIn]
 simp only [pureRun_bind,pu3,Option.bind_some,if_true,pureRun_pure]
theorem pk3 (e:Bool) (d:Nat) (a:Int):pureRun Tryz.prog (Instr.checkKey e (d+1) 3 (.int .i64 a))=some ():=by
 rw [Instr.checkKey]
 simp only [pureRun_bind,pu3,Option.bind_some,pureRun_pure]
theorem he133 (a b c d:Int):keyEq Tryz.prog 133 (encP (a,b)) (encP (c,d))=some (decide ((a,b)=(c,d))):=by
 unfold keyEq Op.equal
 show pureRun Tryz.prog (Op.equalIn (9998+1+1) 133 _ _)=_
 rw [Op.equalIn]
 simp only [pureRun_bind,pu133,ps3,Option.bind_some]
 simp only [Std.Legacy.Range.forIn_eq_forIn_range',Std.Legacy.Range.size,Nat.sub_zero,Nat.add_sub_cancel,Nat.div_one,List.range'_succ,List.range'_zero,List.forIn_cons,List.forIn_nil]
 simp only [pureRun_bind,Option.bind_some,Nat.zero_mul,Nat.zero_add,Nat.one_mul,pp0,pp1,pe3]
 by_cases h1:a=c<;>by_cases h2:b=d<;>simp [-getElem?_pos,-List.map_set,-objBelow,-depV,h1,h2,pureRun_bind,pureRun_pure,pp0,pp1,pe3]
theorem hf133 (a b:Int) (es:List MapEntry):findT Tryz.prog 133 (encP (a,b)) es=findA Tryz.prog 133 (encP (a,b)) es 0:=by
 unfold findT
 rw [show Tryz.prog.underlying 133=some (.array 2 3) by kernel_rfl]
 show (match simple (encP (a,b)) with
  | true=>match pureRun Tryz.prog (Instr.checkKey false 10000 133 (encP (a,b))) with
   | some ()=>match pureRun Tryz.prog (Instr.checkKey true 10000 133 (encP (a,b))) with
    | some ()=>findA Tryz.prog 133 (encP (a,b)) es 0
    | none=>none
   | none=>none
  | false=>none)=_
 have hc:∀ e,pureRun Tryz.prog (Instr.checkKey e 10000 133 (encP (a,b)))=some ():=by
  intro e
  rw [show (10000:Nat)=9998+1+1 from rfl,Instr.checkKey]
  simp only [pureRun_bind,pu133,Option.bind_some]
  simp only [Std.Legacy.Range.forIn_eq_forIn_range',Std.Legacy.Range.size,Nat.sub_zero,Nat.add_sub_cancel,Nat.div_one,List.range'_succ,List.range'_zero,List.forIn_cons,List.forIn_nil]
  simp only [pureRun_bind,Option.bind_some,ps3,Nat.zero_mul,Nat.zero_add,Nat.one_mul,pp0,pp1,pk3,pureRun_pure]
 rw [hc,hc,show simple (encP (a,b))=true from rfl]
theorem key133:KeyD Tryz.prog 133 encP:=by
 refine ⟨fun ks x=>?_⟩
 rw [show encP x=encP (x.1,x.2) from rfl,hf133]
 rw [findA_map (enc:=encP) (fun _=>rfl) (fun k y=>he133 k.1 k.2 y.1 y.2)]
 cases List.findIdx? (fun y=>decide (x=y)) ks<;>rfl
structure FBL {S:Type} (succ:S→List (Option S)) (q:List S) (fi bs:List Int):Prop where
 lf:fi.length=q.length
 lb:bs.length=q.length
 get:∀ n,0<n→n<q.length→∃ (i c:Nat) (p y:S),fi[n]? =some (i:Int)∧bs[n]? =some (c:Int)∧i<n∧q[i]? =some p∧q[n]? =some y∧(succ p)[c]? =some (some y)
theorem FBL.one {S:Type} {succ:S→List (Option S)} {s:S}:FBL succ [s] [-1] [-1]:=⟨rfl,rfl,fun n h1 h2=>by simp [-getElem?_pos,-List.map_set,-objBelow,-depV] at h2;omega⟩
theorem FBL.add {S:Type} {succ:S→List (Option S)} {q:List S} {fi bs:List Int} (h:FBL succ q fi bs) {i k:Nat} {t y:S} (ht:q[i]? =some t) (hy:(succ t)[k]? =some (some y)):FBL succ (q++[y]) (fi++[(i:Int)]) (bs++[(k:Int)]):=by
 have lf:=h.lf
 have lb:=h.lb
 refine ⟨by simp [-getElem?_pos,-List.map_set,-objBelow,-depV,lf],by simp [-getElem?_pos,-List.map_set,-objBelow,-depV,lb],fun n h1 h2=>?_⟩
 simp only [List.length_append,List.length_cons,List.length_nil] at h2
 rcases Nat.lt_or_ge n q.length with g | g
 ·obtain ⟨i',c,p,z,e1,e2,e3,e4,e5,e6⟩:=h.get n h1 g
  have hi':=lt_of_get e4
  exact ⟨i',c,p,z,by rw [List.getElem?_append_left (by omega)];exact e1,by rw [List.getElem?_append_left (by omega)];exact e2,e3,by rw [List.getElem?_append_left (by omega)];exact e4,by rw [List.getElem?_append_left (by omega)];exact e5,e6⟩
 ·have hn:n=q.length:=by omega
  have hi:=lt_of_get ht
  refine ⟨i,k,t,y,?_,?_,by omega,by rw [List.getElem?_append_left (by omega)];exact ht,?_,hy⟩
  ·rw [List.getElem?_append_right (by omega),show n-fi.length=0 by omega];rfl
  ·rw [List.getElem?_append_right (by omega),show n-bs.length=0 by omega];rfl
  ·rw [List.getElem?_append_right (by omega),show n-q.length=0 by omega];rfl
structure FBC {S:Type} (succ:S→List (Option S)) (i k:Nat) (q:List S) (fi bs:List Int):Prop extends FBL succ q fi bs where
 clo:∀ (i' c':Nat) (s y:S),(i'<i∨i'=i∧c'<k)→q[i']? =some s→(succ s)[c']? =some (some y)→y∈q
 ord:∀ n,0<n→n<q.length→∃ (i c:Nat),fi[n]? =some (i:Int)∧bs[n]? =some (c:Int)∧∀ (i' c':Nat) (s y:S),(i'<i∨i'=i∧c'<c)→q[i']? =some s→(succ s)[c']? =some (some y)→y∈q.take n
theorem FBC.one {S:Type} {succ:S→List (Option S)} {s:S}:FBC succ 0 0 [s] [-1] [-1]:={ FBL.one with
 clo:=fun i' c' _ _ h=>by omega
 ord:=fun n h1 h2=>by simp [-getElem?_pos,-List.map_set,-objBelow,-depV] at h2;omega }
section
variable {S:Type} {succ:S→List (Option S)} {i k:Nat} {q:List S} {fi bs:List Int}
theorem FBC.none (h:FBC succ i k q fi bs) {t:S} (ht:q[i]? =some t) (hy:(succ t)[k]? =some none):FBC succ i (k+1) q fi bs:={ h.toFBL with
 clo:=fun i' c' s y hc hs hy'=>by
  rcases hc with hc | ⟨rfl,hc⟩
  ·exact h.clo i' c' s y (.inl hc) hs hy'
  ·rcases Nat.lt_or_ge c' k with g | g
   ·exact h.clo _ c' s y (.inr ⟨rfl,g⟩) hs hy'
   ·obtain rfl:c'=k:=by omega
    rw [ht] at hs;cases hs
    rw [hy] at hy';cases hy'
 ord:=h.ord }
theorem FBC.known (h:FBC succ i k q fi bs) {t y0:S} (ht:q[i]? =some t) (hy:(succ t)[k]? =some (some y0)) (hm:y0∈q):FBC succ i (k+1) q fi bs:={ h.toFBL with
 clo:=fun i' c' s y hc hs hy'=>by
  rcases hc with hc | ⟨rfl,hc⟩
  ·exact h.clo i' c' s y (.inl hc) hs hy'
  ·rcases Nat.lt_or_ge c' k with g | g
   ·exact h.clo _ c' s y (.inr ⟨rfl,g⟩) hs hy'
   ·obtain rfl:c'=k:=by omega
    rw [ht] at hs;cases hs
    rw [hy] at hy';cases hy'
    exact hm
 ord:=h.ord }
theorem FBC.next (h:FBC succ i k q fi bs) (hk:∀ s,(succ s).length=k):FBC succ (i+1) 0 q fi bs:={ h.toFBL with
 clo:=fun i' c' s y hc hs hy'=>by
  have hc':c'<k:=by rw [← hk s];exact lt_of_get hy'
  exact h.clo i' c' s y (by omega) hs hy'
 ord:=h.ord }
theorem FBC.new (h:FBC succ i k q fi bs) {t y0:S} (ht:q[i]? =some t) (hy:(succ t)[k]? =some (some y0)):FBC succ i (k+1) (q++[y0]) (fi++[(i:Int)]) (bs++[(k:Int)]):={ h.toFBL.add ht hy with
 clo:=fun i' c' s y hc hs hy'=>by
  have hi:=lt_of_get ht
  rw [List.getElem?_append_left (by omega)] at hs
  rcases hc with hc | ⟨rfl,hc⟩
  ·exact List.mem_append_left _ (h.clo i' c' s y (.inl hc) hs hy')
  ·rcases Nat.lt_or_ge c' k with g | g
   ·exact List.mem_append_left _ (h.clo _ c' s y (.inr ⟨rfl,g⟩) hs hy')
   ·obtain rfl:c'=k:=by omega
    rw [ht] at hs;cases hs
    rw [hy] at hy';cases hy'
    simp [-getElem?_pos,-List.map_set,-objBelow,-depV]
 ord:=fun n h1 h2=>by
  have lf:=h.lf
  have lb:=h.lb
  have hi:=lt_of_get ht
  simp only [List.length_append,List.length_cons,List.length_nil] at h2
  rcases Nat.lt_or_ge n q.length with g | g
  ·obtain ⟨j,c,e1,e2,e3⟩:=h.ord n h1 g
   obtain ⟨j',c2,p,z,d1,d2,d3,d4,d5,d6⟩:=h.get n h1 g
   refine ⟨j,c,by rw [List.getElem?_append_left (by omega)];exact e1,by rw [List.getElem?_append_left (by omega)];exact e2,fun i' c' s y hc hs hy'=>?_⟩
   have ej:j'=j:=by rw [e1] at d1;simp [-getElem?_pos,-List.map_set,-objBelow,-depV] at d1;omega
   rw [List.getElem?_append_left (by omega)] at hs
   rw [List.take_append_of_le_length (by omega)]
   exact e3 i' c' s y hc hs hy'
  ·have hn:n=q.length:=by omega
   refine ⟨i,k,?_,?_,fun i' c' s y hc hs hy'=>?_⟩
   ·rw [List.getElem?_append_right (by omega),show n-fi.length=0 by omega];rfl
   ·rw [List.getElem?_append_right (by omega),show n-bs.length=0 by omega];rfl
   ·rw [List.getElem?_append_left (by omega)] at hs
    rw [hn,List.take_append_of_le_length (Nat.le_refl _),List.take_length]
    exact h.clo i' c' s y hc hs hy' }
end
theorem below_pr {L:Nat} {l:List (Int×Int)}:(l.map prD).all (below L)=true:=by
 rw [List.all_eq_true]
 intro y hy
 obtain ⟨z,_,rfl⟩:=List.mem_map.1 hy
 rfl
theorem w117 (sy most:Nat) (s0:Int×Int) (succ:Int×Int→List (Option (Int×Int))) (ac:Int×Int→Bool) (dom:Int×Int→Prop) (F:Nat) (qs:List (Int×Int)) (rows:List (List Int))
  (g1 g2:FuncId) (a1 b1 a2 b2:List DV) (base:Nat) (D:DH)
  (hex:exR id succ most F 0 [s0]=some (qs,rows)) (h0:dom s0) (hdom:∀ s,dom s→∀ t,some t∈succ s→dom t) (hlen:∀ s,(succ s).length=sy)
  (hsy:sy≤400) (hmost:most≤200000) (h1m:1≤most) (hb:base≤D.length) (hob:(D.drop base).all (objBelow D.length)=true)
  (ha1:belows D.length a1=true) (hb1:belows D.length b1=true) (ha2:belows D.length a2=true) (hb2:belows D.length b2=true) (hraw:(Q.ann g2).raw=false)
  (hstep:∀ (x:Int×Int) (c:Nat) (o:Option (Int×Int)),dom x→(succ x)[c]? =some o→∃ y,(∀ X:DH,callD Q g1 (a1++[prD x,intD c]++b1) base (D++X)=some (.tup [prD y,boolD o.isSome],D++X))∧(o=some y∨o=none))
  (hacc:∀ (X:DH) (x:Int×Int),dom x→callD Q g2 (a2++[prD x]++b2) base (D++X)=some (boolD (ac x),D++X)) :
  ∃ (O1 O2:DObj) (fi bs:List Int),callD Q 117 [intD sy,intD most,prD s0,.fn g1 a1 b1,.fn g2 a2 b2] base D=some (.tup [.ref (D.length+1) 0 0,boolD true],D++[.arr 2 [prD s0],.arr 5 [.agg [intD sy,.apl (D.length+6) qs.length,.apl (D.length+7) qs.length,qV (D.length+4) qs.length,qV (D.length+5) qs.length]],O1,O2,qO 3 1 (fi.map numD),qO 3 1 (bs.map numD),.app 4 1 ((qs.map ac).map bitD),.app 26 1 (rows.map rowD)])∧FBC succ qs.length 0 qs fi bs∧∀ L,objBelow L O1=true∧objBelow L O2=true:=by
 rw [call_raw (fn:=Tryz.f117) (show Q.P.funcs[117]? =some Tryz.f117 from Tryz.func117) rfl ann117 rfl (by simp only [List.length_cons,List.length_nil];decide) (by kernel_rfl)]
 have gp:=gp117
 simp only [ann117,Tryz.f117,gpB_some,gpC_draw,gpC_reg,gpC_seq,gpC_cond,gpC_block,gpC_loop,gpC_range,gpC_skip,gpC_ret,gpC_exit,gpC_label,gpO_some,gpO_none,findN,Bool.and_eq_true,Bool.and_true,Bool.true_and,reduceIte,Nat.reduceEqDiff,true_and,and_true] at gp
 have hbk:∀ k,base≤D.length+k:=fun k=>by omega
 have hOK:∀ k X,objsOK base (D.length+k) (D++X)=(X.take k).all (objBelow (D.length+k)):=fun k X=>objsOK_raw hb hob
 have hbl:∀ (l:List DV) k,belows D.length l=true→belows (D.length+k) l=true:=fun l k h=>(below_le (Nat.le_add_right _ _)).2 l h
 have f0:findT Tryz.prog 133 (encP s0) (keyEs [])=some none:=key133.find [] s0
 have hbl:∀ k,belows (D.length+k) a1=true∧belows (D.length+k) b1=true∧belows (D.length+k) a2=true∧belows (D.length+k) b2=true:=fun k=>⟨hbl a1 k ha1,hbl b1 k hb1,hbl a2 k ha2,hbl b2 k hb2⟩
 simp (maxSteps:=2000000) [-getElem?_pos,-List.map_set,-objBelow,-depV,gp,hb,hbk,hOK,f0,(hbl _).1,(hbl _).2.1,(hbl _).2.2.1,(hbl _).2.2.2]
 generalize hX:loopG _ _ _=X
 obtain ⟨tm,vs,fi,bs,rfl,t12,hfbl⟩:∃ (tm:Trie DV) (vs fi bs:List Int),X=some (.exit 0,⟨tm,D++[.arr 2 [prD s0],.arr 5 [.agg [intD sy,.apl (D.length+6) qs.length,.apl (D.length+7) qs.length,qV (D.length+4) qs.length,qV (D.length+5) qs.length]],.map (qs.map encP) (vs.map numD),qO 133 2 (qs.map prD),qO 3 1 (fi.map numD),qO 3 1 (bs.map numD),.app 4 1 ((qs.map ac).map bitD),.app 26 1 (rows.map rowD)]⟩)∧tm.get 12=some (.ref (D.length+1) 0 0)∧FBC succ qs.length 0 qs fi bs:=by
  rw [← hX]
  clear hX
  generalize hs41:SD.mk _ _=sd41
  revert sd41
  refine wl (fun p:Nat×Nat×List (Int×Int)×List Int×List Int×List Int×List (List Int)×List Bool=>⟨(((((((Trie.leaf.put 15 (intD p.2.1)).put 14 (qV (D.length+3) p.2.2.1.length)).put 13 (.mp (D.length+2))).put 12 (.ref (D.length+1) 0 0)).put 4 (.fn g2 a2 b2)).put 3 (.fn g1 a1 b1)).put 1 (intD most)).put 0 (intD sy),D++[.arr 2 [prD s0],.arr 5 [.agg [intD sy,.apl (D.length+6) p.2.1,.apl (D.length+7) p.2.1,qV (D.length+4) p.2.2.1.length,qV (D.length+5) p.2.2.1.length]],.map (p.2.2.1.map encP) (p.2.2.2.1.map numD),qO 133 2 (p.2.2.1.map prD),qO 3 1 (p.2.2.2.2.1.map numD),qO 3 1 (p.2.2.2.2.2.1.map numD),.app 4 1 (p.2.2.2.2.2.2.2.map bitD),.app 26 1 (p.2.2.2.2.2.2.1.map rowD)]⟩)
   (fun p=>p.2.1≤p.2.2.1.length∧1≤p.2.2.1.length∧p.2.2.1.length≤most∧FBC succ p.2.1 0 p.2.2.1 p.2.2.2.2.1 p.2.2.2.2.2.1∧p.2.2.2.2.2.1.length=p.2.2.1.length∧(p.2.2.2.1.length=p.2.2.1.length∧∀ j,j<p.2.2.1.length→p.2.2.2.1[j]? =some (j:Int))∧p.2.2.2.2.2.2.1.length=p.2.1∧p.2.2.2.2.2.2.2=(p.2.2.1.take p.2.1).map ac∧(∀ t∈p.2.2.1,dom t)∧∃ R,exR id succ most p.1 p.2.1 p.2.2.1=some (qs,R)∧p.2.2.2.2.2.2.1++R=rows)
   (fun p=>p.1) ?_ (F,0,[s0],[0],[-1],[-1],[],[]) ⟨Nat.zero_le _,Nat.le_refl _,h1m,FBC.one,rfl,⟨rfl,fun j h=>by cases j with | zero=>rfl | succ j=>simp [-getElem?_pos,-List.map_set,-objBelow,-depV] at h⟩,rfl,rfl,fun t ht=>by rw [List.mem_singleton] at ht;rw [ht];exact h0,rows,hex,rfl⟩
  clear hex
  rintro ⟨F,i,q,vs,fi,bs,R0,A⟩ ⟨hi,hq1,hqm,hfb,hbs,⟨hvl,hvs⟩,hR0,hA,hdq,R,hex,hR⟩ ih
  have hfi:=hfb.lf
  simp only at hi hq1 hqm hfb hfi hbs hvl hvs hR0 hA hdq hex hR ih
  rw [loopG_eq]
  obtain ⟨F,rfl⟩:∃ F',F=F'+1:=by
   cases F with
   | zero=>simp [-getElem?_pos,-List.map_set,-objBelow,-depV,exR] at hex
   | succ F=>exact ⟨F,rfl⟩
  simp only [exR] at hex
  by_cases hlt:i<q.length
  ·obtain ⟨t,ht⟩:∃ t,q[i]? =some t:=⟨_,List.getElem?_eq_getElem hlt⟩
   have htd:=hdq t (List.mem_of_getElem? ht)
   rw [ht] at hex
   simp only at hex
   split at hex
   ·cases hex
   rename_i hqm'
   obtain ⟨⟨qf,R2⟩,hex2,heq⟩:=Option.map_eq_some_iff.1 hex
   simp only [Prod.mk.injEq] at heq
   obtain ⟨rfl,rfl⟩:=heq
   have hAl:A.length=i:=by rw [hA];simp [-getElem?_pos,-List.map_set,-objBelow,-depV];omega
   have hac:∀ X,callD Q g2 (a2++(DV.agg [DV.f (.raw (.int .i64 t.1)),DV.f (.raw (.int .i64 t.2))]::b2)) base (D++X)=some (DV.f (.raw (.bool (ac t))),D++X):=fun X=>by
    have:=hacc X t htd
    rw [List.append_assoc] at this;exact this
   obtain ⟨q',hq'⟩:∃ q',q'=addS id q (succ t):=⟨_,rfl⟩
   simp (maxSteps:=2000000) [-getElem?_pos,-List.map_set,-objBelow,-depV,gp,hb,hbk,hOK,hbl,hlt,ht,hraw,hac,hAl,hR0,hfi,hbs,hvl,show i+1≤1099511627776 by omega,show i≤1099511627775 by omega,show sy*8≤140737488355328 by omega,show sy<9223372036854775808 by omega]
   have hre:succ t=(succ t).take sy:=(List.take_of_length_le (by rw [hlen];exact Nat.le_refl _)).symm
   rw [← hq'] at hex2 hqm'
   have hpre:∀ k,addS id q ((succ t).take k) <+: q':=fun k=>by
    rw [hq']
    conv=>rhs;rw [← List.take_append_drop k (succ t),addS_app]
    exact addS_prefix
   generalize hX:loopG _ _ _=X
   obtain ⟨tm,vs',fi',bs',rfl,⟨hfb',hbs',hvl',hvs'⟩,t0,t1,t3,t4,t12,t13,t14,t15,t16⟩:∃ (tm:Trie DV) (vs' fi' bs':List Int),X=some (.exit 2,⟨tm,D++[.arr 2 [prD s0],.arr 5 [.agg [intD sy,.apl (D.length+6) (i+1),.apl (D.length+7) i,qV (D.length+4) q'.length,qV (D.length+5) q'.length]],.map (q'.map encP) (vs'.map numD),qO 133 2 (q'.map prD),qO 3 1 (fi'.map numD),qO 3 1 (bs'.map numD),.app 4 1 (A.map bitD++[bitD (ac t)]),.app 26 1 (R0.map rowD),.arr 1 [bitD (ac t)],.arr 1 ((rowS id q (succ t)).map numD)]⟩)∧(FBC succ i sy q' fi' bs'∧bs'.length=q'.length∧vs'.length=q'.length∧∀ j,j<q'.length→vs'[j]? =some (j:Int))∧tm.get 0=some (intD sy)∧tm.get 1=some (intD most)∧tm.get 3=some (.fn g1 a1 b1)∧tm.get 4=some (.fn g2 a2 b2)∧tm.get 12=some (.ref (D.length+1) 0 0)∧tm.get 13=some (.mp (D.length+2))∧tm.get 14=some (qV (D.length+3) q'.length)∧tm.get 15=some (intD i)∧tm.get 16=some (.row (D.length+9) 0 sy sy):=by
    rw [← hX]
    clear hX ih hex2
    obtain ⟨W0,hW0⟩:∃ L:List Int,L=List.replicate sy 0:=⟨_,rfl⟩
    rw [rep_num,← hW0]
    generalize hs42:SD.mk _ _=sd42
    revert sd42
    refine wl (fun p:Nat×List (Int×Int)×List Int×List Int×List Int×List Int=>⟨((((((((((Trie.leaf.put 62 (intD p.1)).put 61 (intD sy)).put 16 (.row (D.length+9) 0 sy sy)).put 15 (intD i)).put 14 (qV (D.length+3) p.2.1.length)).put 13 (.mp (D.length+2))).put 12 (.ref (D.length+1) 0 0)).put 4 (.fn g2 a2 b2)).put 3 (.fn g1 a1 b1)).put 1 (intD most)).put 0 (intD sy),D++[.arr 2 [prD s0],.arr 5 [.agg [intD sy,.apl (D.length+6) (i+1),.apl (D.length+7) i,qV (D.length+4) p.2.1.length,qV (D.length+5) p.2.1.length]],.map (p.2.1.map encP) (p.2.2.1.map numD),qO 133 2 (p.2.1.map prD),qO 3 1 (p.2.2.2.1.map numD),qO 3 1 (p.2.2.2.2.1.map numD),.app 4 1 (A.map bitD++[bitD (ac t)]),.app 26 1 (R0.map rowD),.arr 1 [bitD (ac t)],.arr 1 (p.2.2.2.2.2.map numD)]⟩)
     (fun p=>p.1≤sy∧p.2.1=addS id q ((succ t).take p.1)∧(FBC succ i p.1 p.2.1 p.2.2.2.1 p.2.2.2.2.1∧p.2.2.2.2.1.length=p.2.1.length∧p.2.2.1.length=p.2.1.length∧∀ j,j<p.2.1.length→p.2.2.1[j]? =some (j:Int))∧p.2.2.2.2.2.length=sy∧p.2.2.2.2.2.take p.1=rowS id q ((succ t).take p.1)) (fun p=>sy-p.1) ?_ (0,q,vs,fi,bs,W0) ⟨Nat.zero_le _,rfl,⟨hfb,hbs,hvl,hvs⟩,by simp [-getElem?_pos,-List.map_set,-objBelow,-depV,hW0],rfl⟩
    clear hvs hvl hfi hbs hfb
    rintro ⟨k,q1,vs,fi,bs,W⟩ ⟨hk,hq1',⟨hfb,hbs,hvl,hvs⟩,hWl,hW⟩ ihK
    have hfi:=hfb.lf
    simp only at hk hq1' hfb hfi hbs hvl hvs hWl hW ihK
    rw [loopG_eq]
    by_cases hks:k<sy
    case neg=>
     have hk':k=sy:=by omega
     subst hk'
     rw [← hre] at hq1' hW
     rw [List.take_of_length_le (by omega)] at hW
     subst hW
     rw [← hq'] at hq1'
     subst hq1'
     simp (maxSteps:=2000000) [-getElem?_pos,-List.map_set,-objBelow,-depV,gp,hks]
     refine ⟨_,vs,fi,bs,⟨rfl,rfl,rfl,rfl⟩,⟨hfb,hbs,hvl,hvs⟩,?_⟩
     simp [-getElem?_pos,-List.map_set,-objBelow,-depV]
    obtain ⟨o,ho⟩:∃ o,(succ t)[k]? =some o:=⟨_,List.getElem?_eq_getElem (by rw [hlen];exact hks)⟩
    have hL:(succ t).take (k+1)=(succ t).take k++[o]:=by rw [List.take_add_one,ho];rfl
    have hset:∀ v,(W.set k v).take (k+1)=W.take k++[v]:=fun v=>by
     rw [List.take_add_one,List.take_set_of_le (Nat.le_refl _),List.getElem?_set_self (by omega)];rfl
    obtain ⟨w0,hw0⟩:∃ x,W[k]? =some x:=⟨_,List.getElem?_eq_getElem (by omega)⟩
    have hws:∀ v,(W.set k v)[k]? =some v:=fun v=>List.getElem?_set_self (by omega)
    have hww:=wrap_succ (show k+1≤9223372036854775807 by omega)
    have hqt:q1[i]? =some t:=by rw [hq1'];exact prefix_getS addS_prefix ht
    have hqi:i<q1.length:=lt_of_get hqt
    obtain ⟨y,hst,hoy⟩:∃ y,(∀ X,callD Q g1 (a1++(DV.agg [DV.f (.raw (.int .i64 t.1)),DV.f (.raw (.int .i64 t.2))]::DV.f (.raw (.int .i64 k))::b1)) base (D++X)=some (.tup [DV.agg [DV.f (.raw (.int .i64 y.1)),DV.f (.raw (.int .i64 y.2))],DV.f (.raw (.bool o.isSome))],D++X))∧(o=some y∨o=none):=by
     obtain ⟨y,h1,h2⟩:=hstep t k o htd ho
     refine ⟨y,fun X=>?_,h2⟩
     have:=h1 X
     rw [List.append_assoc] at this;exact this
    rcases hoy with rfl | rfl
    case inr=>
     have ih':=ihK (k+1,q1,vs,fi,bs,W.set k (-1)) ⟨by simp only;omega,by simp only;rw [hL,addS_none,hq1'],⟨hfb.none hqt ho,hbs,hvl,hvs⟩,by simp only [List.length_set];exact hWl,by simp only;rw [hset,hL,rowS_none,hW]⟩ (by simp only;omega)
     simp (maxSteps:=2000000) [-getElem?_pos,-List.map_set,-objBelow,-depV] at ih'
     simp only [Option.isSome_none] at hst
     simp (maxSteps:=2000000) [-getElem?_pos,-List.map_set,-objBelow,-depV,gp,hb,hbk,hOK,hbl,hks,hst,hqt,hqi,hw0,hws,hWl,hww,hAl,hR0,hfi,hbs,hvl]
     exact ih'
    simp only [Option.isSome_some] at hst
    have hnew:=(hpre (k+1)).length_le
    rw [hL,addS_some,← hq1',List.map_id,id] at hnew
    by_cases hm:y∈q1
    ·obtain ⟨m,hm2⟩:∃ m,m=numK q1 y:=⟨_,rfl⟩
     have hmn:m<q1.length:=by rw [hm2];exact numK_lt hm
     have hvm:=hvs m hmn
     have hf:findT Tryz.prog 133 (encP y) (keyEs (q1.map encP))=some (some m):=by rw [hm2];exact (key133.find q1 y).trans (by rw [find_in hm])
     have ih':=ihK (k+1,q1,vs,fi,bs,W.set k (m:Int)) ⟨by simp only;omega,by simp only;rw [hL,addS_some,← hq1',List.map_id,id,if_pos hm],⟨hfb.known hqt ho hm,hbs,hvl,hvs⟩,by simp only [List.length_set];exact hWl,by simp only;rw [hset,hL,rowS_some,hW,← hq1',List.map_id,id,hm2]⟩ (by simp only;omega)
     simp (maxSteps:=2000000) [-getElem?_pos,-List.map_set,-objBelow,-depV] at ih'
     simp (maxSteps:=2000000) [-getElem?_pos,-List.map_set,-objBelow,-depV,gp,hb,hbk,hOK,hbl,hks,hst,hqt,hqi,hw0,hws,hWl,hww,hAl,hR0,hfi,hbs,hvl,hf,hvm]
     exact ih'
    ·rw [if_neg hm,List.length_append] at hnew
     simp only [List.length_cons,List.length_nil] at hnew
     have hf:findT Tryz.prog 133 (encP y) (keyEs (q1.map encP))=some none:=(key133.find q1 y).trans (by rw [find_out hm])
     have ih':=ihK (k+1,q1++[y],vs++[(q1.length:Int)],fi++[(i:Int)],bs++[(k:Int)],W.set k (q1.length:Int)) ⟨by simp only;omega,by simp only;rw [hL,addS_some,← hq1',List.map_id,id,if_neg hm],⟨hfb.new hqt ho,by simp [-getElem?_pos,-List.map_set,-objBelow,-depV,hbs],by simp [-getElem?_pos,-List.map_set,-objBelow,-depV,hvl],fun j hj=>by
      rcases Nat.lt_or_ge j q1.length with g | g
      ·rw [List.getElem?_append_left (by omega)];exact hvs j g
      ·simp only [List.length_append,List.length_cons,List.length_nil] at hj
       have:j=vs.length:=by omega
       rw [this,List.getElem?_append_right (Nat.le_refl _),Nat.sub_self,hvl];rfl⟩,by simp only [List.length_set];exact hWl,by simp only;rw [hset,hL,rowS_some,hW,← hq1',List.map_id,id,numK_none hm]⟩ (by simp only;omega)
     simp (maxSteps:=2000000) [-getElem?_pos,-List.map_set,-objBelow,-depV] at ih'
     simp (maxSteps:=2000000) [-getElem?_pos,-List.map_set,-objBelow,-depV,gp,hb,hbk,hOK,hbl,hks,hst,hqt,hqi,hw0,hws,hWl,hww,hAl,hR0,hfi,hbs,hvl,hf,show ¬most≤q1.length by omega,show q1.length<most by omega,show 1≤q1.length by omega,show (q1.length+1)*8≤1099511627776 by omega,show (q1.length+1)*16≤1099511627776 by omega,show q1.length≤1099511627775 by omega]
     exact ih'
   clear hX
   have hfi':=hfb'.lf
   obtain ⟨S,hS⟩:∃ S,S=rowS id q (succ t):=⟨_,rfl⟩
   have hSl:S.length=sy:=by rw [hS,rowS_len,hlen]
   rw [← hS] at hR
   have hpre':q <+: q':=by rw [hq'];exact addS_prefix
   have hpl:=hpre'.length_le
   have hqt:q'.take (i+1)=q.take i++[t]:=by
    rw [List.take_add_one,prefix_getS hpre' ht]
    obtain ⟨z,rfl⟩:=hpre'
    rw [List.take_append_of_le_length (by omega)];rfl
   have htk:List.take sy (S.map numD)=S.map numD:=List.take_of_length_le (by simp [-getElem?_pos,-List.map_set,-objBelow,-depV,hSl])
   have ih':=ih (F,i+1,q',vs',fi',bs',R0++[S],A++[ac t]) ⟨by simp only;omega,by simp only;omega,by simp only;omega,hfb'.next hlen,hbs',⟨hvl',hvs'⟩,by simp [-getElem?_pos,-List.map_set,-objBelow,-depV,hR0],by simp only;rw [hqt,List.map_append,List.map_cons,List.map_nil,hA],by
    simp only
    rw [hq']
    exact addS_dom hdq (hdom t htd),R2,hex2,by simp only;rw [List.append_assoc];exact hR⟩ (by simp only;omega)
   simp (maxSteps:=2000000) [-getElem?_pos,-List.map_set,-objBelow,-depV] at ih'
   rw [← hS]
   simp (maxSteps:=2000000) [-getElem?_pos,-List.map_set,-objBelow,-depV,gp,hb,hbk,hOK,hbl,t0,t1,t3,t4,t12,t13,t14,t15,t16,hSl,htk,hR0,hAl,hfi',hbs',hvl',show i+1≤1099511627776 by omega,show i≤1099511627775 by omega,show (i+1)*24≤1099511627776 by omega,wrap_succ (show i+1≤9223372036854775807 by omega)]
   exact ih'
  ·rw [List.getElem?_eq_none (by omega)] at hex
   simp only [Option.some.injEq,Prod.mk.injEq] at hex
   obtain ⟨rfl,rfl⟩:=hex
   rw [List.append_nil] at hR
   subst hR
   have hie:i=q.length:=by omega
   subst hie
   rw [List.take_length] at hA
   subst hA
   refine ex_help (vs:=vs) (fi:=fi) (bs:=bs) hfb ?_
   simp (maxSteps:=2000000) [-getElem?_pos,-List.map_set,-objBelow,-depV,gp,hlt,hR0]
 clear hX
 refine ⟨.map (qs.map encP) (vs.map numD),qO 133 2 (qs.map prD),fi,bs,?_,hfbl,fun L=>⟨by rw [ob_map];exact below_num,qO_below below_pr⟩⟩
 simp (maxSteps:=2000000) [-getElem?_pos,-List.map_set,-objBelow,-depV,gp,t12]
end Go.Dv
namespace Go.Dv
open Go Go.Sim Go.Proofs Go.Fsa
attribute [local simp] bitF autD b_neqB b_eqlB prD eqD_agg eq1_int eq1_lst bitD el_bit set_bit fz_bit
theorem eqD_fn0 {g:FuncId} {D:DH}:eqD D (.fn g [] [])=true:=rfl
attribute [local simp] eqD_fn0
theorem w68 (a b:Aut) (ha:a.nxt.length<1152921504606846976) (hb:b.nxt.length<1152921504606846976) (base:Nat) (D:DH) :
  callD Q 68 [autD a,autD b] base D=some (intD (if a.check=0∧b.check=0 then (if a.sy=b.sy then 0 else 1) else 60),D):=by
 obtain ⟨sa,ta,aa,na⟩:=a
 obtain ⟨sb,tb,ab,nb⟩:=b
 simp only at ha hb
 rw [call_pure (fn:=Tryz.f68) (show Q.P.funcs[68]? =some Tryz.f68 from Tryz.func68) rfl ann68 rfl (by simp only [List.length_cons,List.length_nil];decide) (by kernel_rfl)]
 by_cases h1:Aut.check ⟨sa,ta,aa,na⟩=0
 ·by_cases h2:Aut.check ⟨sb,tb,ab,nb⟩=0
  ·by_cases h3:sa=sb
   ·subst h3
    simp (maxSteps:=2000000) [-getElem?_pos,-List.map_set,-objBelow,-depV,c18,ha,hb,h1,h2]
   ·simp (maxSteps:=2000000) [-getElem?_pos,-List.map_set,-objBelow,-depV,c18,ha,hb,h1,h2,h3]
  ·simp (maxSteps:=2000000) [-getElem?_pos,-List.map_set,-objBelow,-depV,c18,ha,hb,h1,h2]
 ·simp (maxSteps:=2000000) [-getElem?_pos,-List.map_set,-objBelow,-depV,c18,ha,hb,h1]
theorem w116 (a:Aut) (s:Int) (hs:s<(a.acc.length:Nat)) (base:Nat) (D:DH):callD Q 116 [autD a,intD s] base D=some (boolD (a.accB s),D):=by
 rw [call_pure (fn:=Tryz.f116) (show Q.P.funcs[116]? =some Tryz.f116 from Tryz.func116) rfl ann116 rfl (by simp only [List.length_cons,List.length_nil];decide) (by kernel_rfl)]
 by_cases h:0≤s
 ·obtain ⟨n,rfl⟩:∃ n:Nat,s=n:=⟨s.toNat,by omega⟩
  obtain ⟨b,hb⟩:∃ b,a.acc[n]? =some b:=⟨_,List.getElem?_eq_getElem (by omega)⟩
  simp (maxSteps:=2000000) [-getElem?_pos,-List.map_set,-objBelow,-depV,hb,h,Aut.accB,show (0:Int)≤n by omega]
 ·simp (maxSteps:=2000000) [-getElem?_pos,-List.map_set,-objBelow,-depV,h,Aut.accB]
theorem c116 {sy st:Int} {acc:List Bool} {nxt:List (List Int)} {s:Int} {base:Nat} {D:DH} (hs:s<(acc.length:Nat)):callD Q 116 [.agg [.f (.raw (.int .i64 sy)),.f (.raw (.int .i64 st)),.f (.lst (acc.map bitF)),.f (.lst (nxt.map rowF))],.f (.raw (.int .i64 s))] base D=some (.f (.raw (.bool (Aut.accB ⟨sy,st,acc,nxt⟩ s))),D):=w116 ⟨sy,st,acc,nxt⟩ s hs base D
def FnBB (g:FuncId) (f:Bool→Bool→Bool):Prop:=(Q.ann g).raw=false∧∀ (x y:Bool) (base:Nat) (D:DH),callD Q g [boolD x,boolD y] base D=some (boolD (f x y),D)
theorem w134:FnBB 134 (fun x y=>x&&y):=⟨by rw [ann134],fun x y base D=>by
 rw [call_pure (fn:=Tryz.f134) (show Q.P.funcs[134]? =some Tryz.f134 from Tryz.func134) rfl ann134 rfl (by simp only [List.length_cons,List.length_nil];decide) (by kernel_rfl)]
 cases x<;>cases y<;>simp (maxSteps:=2000000) [-getElem?_pos,-List.map_set,-objBelow,-depV]⟩
theorem w135:FnBB 135 (fun x y=>x||y):=⟨by rw [ann135],fun x y base D=>by
 rw [call_pure (fn:=Tryz.f135) (show Q.P.funcs[135]? =some Tryz.f135 from Tryz.func135) rfl ann135 rfl (by simp only [List.length_cons,List.length_nil];decide) (by kernel_rfl)]
 cases x<;>cases y<;>simp (maxSteps:=2000000) [-getElem?_pos,-List.map_set,-objBelow,-depV]⟩
theorem w136:FnBB 136 (fun x y=>x&&!y):=⟨by rw [ann136],fun x y base D=>by
 rw [call_pure (fn:=Tryz.f136) (show Q.P.funcs[136]? =some Tryz.f136 from Tryz.func136) rfl ann136 rfl (by simp only [List.length_cons,List.length_nil];decide) (by kernel_rfl)]
 cases x<;>cases y<;>simp (maxSteps:=2000000) [-getElem?_pos,-List.map_set,-objBelow,-depV]⟩
theorem w137:FnBB 137 (fun x y=>x != y):=⟨by rw [ann137],fun x y base D=>by
 rw [call_pure (fn:=Tryz.f137) (show Q.P.funcs[137]? =some Tryz.f137 from Tryz.func137) rfl ann137 rfl (by simp only [List.length_cons,List.length_nil];decide) (by kernel_rfl)]
 cases x<;>cases y<;>simp (maxSteps:=2000000) [-getElem?_pos,-List.map_set,-objBelow,-depV]⟩
theorem w115 (base:Nat) (D:DH) (hb:base≤D.length):callD Q 115 [] base D=some (.agg [.f (.raw .nilFunc),.fn 134 [] [],.fn 135 [] [],.fn 136 [] [],.fn 137 [] []],D++[.arr 5 [.agg [.f (.raw .nilFunc),.fn 134 [] [],.fn 135 [] [],.fn 136 [] [],.fn 137 [] []]]]):=by
 rw [call_raw (fn:=Tryz.f115) (show Q.P.funcs[115]? =some Tryz.f115 from Tryz.func115) rfl ann115 rfl (by simp only [List.length_cons,List.length_nil];decide) (by kernel_rfl)]
 simp (maxSteps:=2000000) [-getElem?_pos,-List.map_set,-objBelow,-depV,hb,show oneD (rv Value.nilFunc)=true from rfl]
theorem w118 (a b:Aut) (ha:a.valid) (hb:b.valid) (hsy:a.sy=b.sy) (p:Int×Int) (h1:p.1<(a.nxt.length:Nat)) (h2:p.2<(b.nxt.length:Nat)) (c:Nat) (hc:(c:Int)<a.sy) (base o o':Nat) (D:DH) (ho:D[o]? =some (.arr 4 [autD a])) (ho':D[o']? =some (.arr 4 [autD b])) :
  callD Q 118 [prD p,intD c,.ref o 0 0,.ref o' 0 0] base D=some (.tup [prD (a.go p.1 c,b.go p.2 c),boolD true],D):=by
 rw [call_pure (fn:=Tryz.f118) (show Q.P.funcs[118]? =some Tryz.f118 from Tryz.func118) rfl ann118 rfl (by simp only [List.length_cons,List.length_nil];decide) (by kernel_rfl)]
 have gp:=gp118
 simp only [ann118,Tryz.f118,gpB_some,gpC_draw,gpC_reg,gpC_seq,gpC_cond,gpC_block,gpC_loop,gpC_range,gpC_skip,gpC_ret,gpC_exit,gpC_label,gpO_some,gpO_none,findN,Bool.and_eq_true,Bool.and_true,Bool.true_and,reduceIte,Nat.reduceEqDiff,true_and,and_true] at gp
 have r91:(Q.ann 91).raw=false:=by rw [ann91]
 have g1:∀ X,(D++X)[o]? =some (.arr 4 [autD a]):=fun X=>get_app ho
 have g2:∀ X,(D++X)[o']? =some (.arr 4 [autD b]):=fun X=>get_app ho'
 simp (maxSteps:=2000000) [-getElem?_pos,-List.map_set,-objBelow,-depV,gp,r91,g1,g2,c91,ha,hb,h1,h2,hc,show (c:Int)<b.sy by omega]
theorem w119 (g:FuncId) (f:Bool→Bool→Bool) (hg:FnBB g f) (a b:Aut) (p:Int×Int) (h1:p.1<(a.acc.length:Nat)) (h2:p.2<(b.acc.length:Nat)) (base o1 o2 o o':Nat) (D:DH) (hi:D[o1]? =some (.arr 1 [.fn g [] []])) (hf:D[o2]? =some (.arr 1 [.fn 116 [] []])) (ho:D[o]? =some (.arr 4 [autD a])) (ho':D[o']? =some (.arr 4 [autD b])) :
  callD Q 119 [prD p,.ref o1 0 0,.ref o2 0 0,.ref o 0 0,.ref o' 0 0] base D=some (boolD (f (a.accB p.1) (b.accB p.2)),D):=by
 rw [call_pure (fn:=Tryz.f119) (show Q.P.funcs[119]? =some Tryz.f119 from Tryz.func119) rfl ann119 rfl (by simp only [List.length_cons,List.length_nil];decide) (by kernel_rfl)]
 have gp:=gp119
 simp only [ann119,Tryz.f119,gpB_some,gpC_draw,gpC_reg,gpC_seq,gpC_cond,gpC_block,gpC_loop,gpC_range,gpC_skip,gpC_ret,gpC_exit,gpC_label,gpO_some,gpO_none,findN,Bool.and_eq_true,Bool.and_true,Bool.true_and,reduceIte,Nat.reduceEqDiff,true_and,and_true] at gp
 have r116:(Q.ann 116).raw=false:=by rw [ann116]
 have r137:=hg.1
 have g1:∀ X,(D++X)[o]? =some (.arr 4 [autD a]):=fun X=>get_app ho
 have g2:∀ X,(D++X)[o']? =some (.arr 4 [autD b]):=fun X=>get_app ho'
 have g3:∀ X,(D++X)[o1]? =some (.arr 1 [.fn g [] []]):=fun X=>get_app hi
 have g4:∀ X,(D++X)[o2]? =some (.arr 1 [.fn 116 [] []]):=fun X=>get_app hf
 have h137:=hg.2
 simp only [boolD] at h137
 simp (maxSteps:=2000000) [-getElem?_pos,-List.map_set,-objBelow,-depV,gp,r116,r137,g1,g2,g3,g4,c116,h1,h2,h137]
structure FirstT (l:List Bool) (r:Int):Prop where
 none:r<0→∀ x∈l,x=false
 some:0≤r→l[r.toNat]? =some true
 fst:0≤r→∀ x∈l.take r.toNat,x=false
theorem w70 (l:List Bool) (hl:l.length<1152921504606846976) (o base:Nat) (D:DH) (ho:D[o]? =some (.app 4 1 (l.map bitD))) :
  ∃ r,callD Q 70 [.apl o l.length,boolD true] base D=some (intD r,D)∧FirstT l r:=by
 rw [call_pure (fn:=Tryz.f70) (show Q.P.funcs[70]? =some Tryz.f70 from Tryz.func70) rfl ann70 rfl (by simp only [List.length_cons,List.length_nil];decide) (by kernel_rfl)]
 simp (maxSteps:=2000000) [-getElem?_pos,-List.map_set,-objBelow,-depV,ho]
 generalize hs43:SD.mk _ _=sd43
 revert sd43
 refine wl (fun i:Nat=>⟨(((Trie.leaf.put 8 (intD i)).put 7 (intD l.length)).put 1 (boolD true)).put 0 (.apl o l.length),D⟩) (fun i=>i≤l.length∧∀ x∈l.take i,x=false) (fun i=>l.length-i) ?_ 0 ⟨by omega,by simp [-getElem?_pos,-List.map_set,-objBelow,-depV]⟩
 intro i ⟨hi,hf⟩ ih
 have hol:=ltOf ho
 rw [if_pos hol,loopG_eq]
 by_cases hlt:i<l.length
 ·obtain ⟨x,hx⟩:∃ x,l[i]? =some x:=⟨_,List.getElem?_eq_getElem hlt⟩
  cases x with
  | false=>
   have ih':=ih (i+1) ⟨by omega,fun x hm=>by
    rw [List.take_add_one,hx] at hm
    rcases List.mem_append.1 hm with g | g
    ·exact hf x g
    ·simpa [-getElem?_pos,-List.map_set,-objBelow,-depV] using g⟩ (by omega)
   simp only [if_pos hol] at ih'
   simp (maxSteps:=2000000) [-getElem?_pos,-List.map_set,-objBelow,-depV] at ih'
   simp (maxSteps:=2000000) [-getElem?_pos,-List.map_set,-objBelow,-depV,hol,ho,hlt,hx,wrap_succ (show i+1≤9223372036854775807 by omega)]
   exact ih'
  | true=>
   simp (maxSteps:=2000000) [-getElem?_pos,-List.map_set,-objBelow,-depV,ho,hlt,hx]
   exact ⟨fun h=>by omega,fun _=>by simpa [-getElem?_pos,-List.map_set,-objBelow,-depV] using hx,fun _=>by simpa [-getElem?_pos,-List.map_set,-objBelow,-depV] using hf⟩
 ·have hf':∀ x∈l,x=false:=by rw [List.take_of_length_le (by omega)] at hf;exact hf
  simp (maxSteps:=2000000) [-getElem?_pos,-List.map_set,-objBelow,-depV,ho,hlt]
  exact ⟨fun _=>hf',fun h=>by omega,fun h=>by omega⟩
end Go.Dv
namespace Go.Dv
open Go Go.Sim Go.Proofs Go.Fsa
attribute [local simp] encI bitF autD b_neqB b_eqlB el_num set_num fz_num numD bitD el_bit set_bit fz_bit prD eqD_agg eq1_int eq1_lst eqD_fn0
theorem FBC.first {a b:Aut} {q:List (Int×Int)} {fi bs:List Int} {i k:Nat} (h:FBC (a.succD b) i k q fi bs):FirstBy a b q fi bs:=⟨h.lf,h.lb,fun n h1 h2=>by
 obtain ⟨i,c,p,y,e1,e2,e3,e4,e5,e6⟩:=h.get n h1 h2
 obtain ⟨e7,e8⟩:=succD_get e6
 simp only [Option.some.injEq] at e7
 subst e7
 exact ⟨i,c,p,e1,e2,e3,e8,e4,e5⟩,fun n h1 h2=>by
 obtain ⟨i,c,e1,e2,e3⟩:=h.ord n h1 h2
 exact ⟨i,c,e1,e2,fun i' c' p hc hs hp=>e3 i' c' p _ hc hp (succD_at hs)⟩⟩
def howD:DV:=.agg [.f (.raw .nilFunc),.fn 134 [] [],.fn 135 [] [],.fn 136 [] [],.fn 137 [] []]
theorem ofV_nilF:ofV Value.nilFunc=.f (.raw .nilFunc):=rfl
theorem cells_nilF:cellsD (.f (.raw .nilFunc))=[.f (.raw .nilFunc)]:=rfl
theorem one_nilF:oneD (.f (.raw .nilFunc))=true:=rfl
def opFn (op:Nat):FuncId:=133+op
def opB:Nat→Bool→Bool→Bool
 | 1=>fun x y=>x&&y
 | 2=>fun x y=>x||y
 | 3=>fun x y=>x&&!y
 | _=>fun x y=>x != y
theorem opFn_ok {op:Nat} (h1:1≤op) (h4:op≤4):FnBB (opFn op) (opB op)∧dIndex Tryz.prog 130 (some (.agg [.f (.raw .nilFunc),.fn 134 [] [],.fn 135 [] [],.fn 136 [] [],.fn 137 [] []])) (some (.f (.raw (.int .i64 op))))=some (.fn (opFn op) [] []):=by
 have t1:tArr Tryz.prog 130=some (5,1,129):=by kernel_rfl
 have t2:tLd Tryz.prog 129=some none:=by kernel_rfl
 have t3:∀ n:Nat,(some (DV.f (.raw (.int .i64 n)))).bind natR=some n:=fun n=>rfl
 simp only [dIndex,t1,t2,t3]
 match op,h1,h4 with
 | 1,_,_=>exact ⟨w134,rfl⟩
 | 2,_,_=>exact ⟨w135,rfl⟩
 | 3,_,_=>exact ⟨w136,rfl⟩
 | 4,_,_=>exact ⟨w137,rfl⟩
def prodH (op:Nat) (a b:Aut):DH:=[.arr 4 [autD a],.arr 4 [autD b],.arr 5 [howD],.arr 1 [.fn (opFn op) [] []],.arr 1 [.fn 116 [] []]]
theorem w69 (op:Nat) (h1:1≤op) (h4:op≤4) (a b:Aut) (ha:a.valid) (hb':b.valid) (hsy:a.sy=b.sy) (hN:(a.nxt.length+1)*(b.nxt.length+1)≤100000) (base:Nat) (D:DH) (hb:base≤D.length) (hob:(D.drop base).all (objBelow D.length)=true) :
  ∃ O1 O2 fi bs,callD Q 69 [autD a,autD b,intD op] base D=some (.tup [.ref (D.length+6) 0 0,boolD true],D++prodH op a b++.arr 2 [prD (a.begin,b.begin)]::machD (D.length+6) (machS a.sy (fun p=>opB op (a.accB p.1) (b.accB p.2)) (a.exD b)) O1 O2 fi bs)∧FirstBy a b (a.exD b).1 fi bs∧∀ L,objBelow L O1=true∧objBelow L O2=true:=by
 rw [call_raw (fn:=Tryz.f69) (show Q.P.funcs[69]? =some Tryz.f69 from Tryz.func69) rfl ann69 rfl (by simp only [List.length_cons,List.length_nil];decide) (by kernel_rfl)]
 have gp:=gp69
 simp only [ann69,Tryz.f69,gpB_some,gpC_draw,gpC_reg,gpC_seq,gpC_cond,gpC_block,gpC_loop,gpC_range,gpC_skip,gpC_ret,gpC_exit,gpC_label,gpO_some,gpO_none,findN,Bool.and_eq_true,Bool.and_true,Bool.true_and,reduceIte,Nat.reduceEqDiff,true_and,and_true] at gp
 have hop:=opFn_ok h1 h4
 have hbk:∀ k,base≤D.length+k:=fun k=>by omega
 have hhi:=ha.hi
 have hlo:=ha.lo
 have hla:=ha.len
 have hlb:=hb'.len
 have r117:(Q.ann 117).raw=true:=by rw [ann117]
 have r115:(Q.ann 115).raw=true:=by rw [ann115]
 have r89:(Q.ann 89).raw=false:=by rw [ann89]
 have hl:(D++prodH op a b).length=D.length+5:=by simp [-getElem?_pos,-List.map_set,-objBelow,-depV,prodH]
 obtain ⟨O1,O2,fi,bs,hex,hfb,hO⟩:=w117 a.sy.toNat 100000 (a.begin,b.begin) (a.succD b) (fun p=>opB op (a.accB p.1) (b.accB p.2)) (domD a b) (fuelD a b) (a.exD b).1 (a.exD b).2 118 119 [] [.ref D.length 0 0,.ref (D.length+1) 0 0] [] [.ref (D.length+3) 0 0,.ref (D.length+4) 0 0,.ref D.length 0 0,.ref (D.length+1) 0 0] base (D++prodH op a b)
  (exD_spec ha hb' hN) (begin_domD ha hb') (fun s hs t ht=>domD_succ ha hb' hs ht) (fun s=>succD_len) (by omega) (by omega) (by omega) (by omega)
  (by
   rw [List.drop_append_of_le_length hb,List.all_append,Bool.and_eq_true]
   refine ⟨?_,by simp [-getElem?_pos,-List.map_set,-objBelow,-depV,prodH,howD,ob_arr]⟩
   rw [List.all_eq_true] at hob ⊢
   intro x hx
   exact objBelow_le (by simp [-getElem?_pos,-List.map_set,-objBelow,-depV]) x (hob x hx)) (by simp [-getElem?_pos,-List.map_set,-objBelow,-depV]) (by simp [-getElem?_pos,-List.map_set,-objBelow,-depV,hl]) (by simp [-getElem?_pos,-List.map_set,-objBelow,-depV]) (by simp [-getElem?_pos,-List.map_set,-objBelow,-depV,hl]) (by rw [ann119])
  (fun x c o hx ho=>by
   obtain ⟨rfl,hc⟩:=succD_get ho
   refine ⟨(a.go x.1 c,b.go x.2 c),fun X=>?_,.inl rfl⟩
   exact w118 a b ha hb' hsy x hx.1.2 hx.2.2 c hc base D.length (D.length+1) (D++prodH op a b++X) (by simp [-getElem?_pos,-List.map_set,-objBelow,-depV,prodH]) (by simp [-getElem?_pos,-List.map_set,-objBelow,-depV,prodH]))
  (fun X x hx=>by
   have e1:=hx.1.2
   have e2:=hx.2.2
   exact w119 (opFn op) (opB op) hop.1 a b x (by omega) (by omega) base (D.length+3) (D.length+4) D.length (D.length+1) (D++prodH op a b++X) (by simp [-getElem?_pos,-List.map_set,-objBelow,-depV,prodH]) (by simp [-getElem?_pos,-List.map_set,-objBelow,-depV,prodH]) (by simp [-getElem?_pos,-List.map_set,-objBelow,-depV,prodH]) (by simp [-getElem?_pos,-List.map_set,-objBelow,-depV,prodH]))
 refine ⟨O1,O2,fi,bs,?_,hfb.first,hO⟩
 have h89:=fun x D'=>w89 x base D'
 simp only [autD,intD] at h89
 have h115:=fun D'=>w115 base D'
 simp only [prodH,howD,prD,autD,intD,List.append_assoc,List.cons_append,List.nil_append,List.length_append,List.length_cons,List.length_nil,Int.toNat_of_nonneg (show 0≤a.sy by omega),boolD] at hex
 rw [show ((100000:Nat):Int)=100000 from rfl] at hex
 simp (maxSteps:=2000000) [-getElem?_pos,-List.map_set,-objBelow,-depV,gp,ofV_nilF,cells_nilF,one_nilF,hop.2,hb,hbk,h89,h115,r89,r115,r117,hex,howD,prodH]
 simp [-getElem?_pos,-List.map_set,-objBelow,-depV,machD,machS,Nat.add_assoc]
end Go.Dv
namespace Go.Dv
open Go Go.Sim Go.Proofs Go.Fsa
attribute [local simp] encI bitF autD b_neqB b_eqlB el_num set_num fz_num numD bitD el_bit set_bit fz_bit prD
structure Turn (l W:List Int) (i:Nat):Prop where
 len:W.length=l.length
 get:∀ t,t<l.length→W[t]? =if t<i∨l.length≤t+i then l[l.length-1-t]? else l[t]?
theorem Turn.start {l:List Int}:Turn l l 0:=⟨rfl,fun t h=>by rw [if_neg (by omega)]⟩
theorem Turn.at {l W:List Int} {i:Nat} (h:Turn l W i) (hi:i+1+i<l.length):W[i]? =l[i]?∧W[l.length-1-i]? =l[l.length-1-i]?:=by
 rw [h.get i (by omega),h.get (l.length-1-i) (by omega),if_neg (by omega),if_neg (by omega)]
 exact ⟨rfl,rfl⟩
theorem Turn.step {l W:List Int} {i:Nat} (h:Turn l W i) (hi:i+1+i<l.length) {x y:Int} (hx:l[i]? =some x) (hy:l[l.length-1-i]? =some y):Turn l ((W.set i y).set (l.length-1-i) x) (i+1):=by
 have hl:=h.len
 refine ⟨by simp [-getElem?_pos,-List.map_set,-objBelow,-depV,hl],fun t ht=>?_⟩
 by_cases h1:t=l.length-1-i
 ·subst h1
  rw [List.getElem?_set_self (by simp [-getElem?_pos,-List.map_set,-objBelow,-depV];omega),if_pos (by omega),show l.length-1-(l.length-1-i)=i by omega,hx]
 ·rw [List.getElem?_set_ne (by omega)]
  by_cases h2:t=i
  ·subst h2
   rw [List.getElem?_set_self (by omega),if_pos (by omega),hy]
  ·rw [List.getElem?_set_ne (by omega),h.get t ht]
   by_cases h3:t<i∨l.length≤t+i
   ·rw [if_pos h3,if_pos (by omega)]
   ·rw [if_neg h3,if_neg (by omega)]
theorem Turn.done {l W:List Int} {i:Nat} (h:Turn l W i) (hi:¬i+1+i<l.length):W=l.reverse:=by
 refine List.ext_getElem? fun t=>?_
 by_cases ht:t<l.length
 ·rw [h.get t ht,List.getElem?_reverse ht]
  split
  ·rfl
  ·rw [show l.length-1-t=t by omega]
 ·rw [List.getElem?_eq_none (by rw [h.len];omega),List.getElem?_eq_none (by simp [-getElem?_pos,-List.map_set,-objBelow,-depV];omega)]
theorem objsOK_set {base o:Nat} {D:DH} (h:(D.drop base).all (objBelow D.length)=true) (W:List Int):objsOK base D.length (D.set o (.app 3 1 (W.map numD)))=true:=by
 unfold objsOK
 rw [List.all_eq_true] at h ⊢
 intro x hx
 obtain ⟨i,hi⟩:=List.mem_iff_getElem?.1 (List.mem_of_mem_take hx)
 rw [List.getElem?_drop] at hi
 by_cases e:o=base+i
 ·subst e
  have hlt:=ltOf hi
  rw [List.length_set] at hlt
  rw [List.getElem?_set_self hlt,Option.some.injEq] at hi
  subst hi
  rw [ob_app,List.all_eq_true]
  intro y hy
  obtain ⟨z,_,rfl⟩:=List.mem_map.1 hy
  rfl
 ·rw [List.getElem?_set_ne e] at hi
  exact h x (List.mem_iff_getElem?.2 ⟨i,by rw [List.getElem?_drop];exact hi⟩)
theorem w71 (l:List Int) (h1:1≤l.length) (hl:l.length<1000000) (o base:Nat) (D:DH) (hb:base≤o) (hob:(D.drop base).all (objBelow D.length)=true) (ho:D[o]? =some (.app 3 1 (l.map numD))) :
  ∃ v,callD Q 71 [.apl o l.length] base D=some (v,D.set o (.app 3 1 (l.reverse.map numD))):=by
 have hol:=ltOf ho
 have hD:D=D.set o (.app 3 1 (l.map numD)):=by
  refine List.ext_getElem? fun t=>?_
  by_cases e:t=o
  ·subst e;rw [List.getElem?_set_self hol,ho]
  ·rw [List.getElem?_set_ne (by omega)]
 obtain ⟨L,hL⟩:∃ L,L=D.length:=⟨_,rfl⟩
 have hOK:∀ W:List Int,objsOK base L (D.set o (.app 3 1 (W.map numD)))=true:=fun W=>by rw [hL];exact objsOK_set hob W
 have hbL:base≤L:=by omega
 have hoL:o<L:=by omega
 have hLD:L≤D.length:=by omega
 have hts:∀ X:DObj,List.take L (D.set o X)=D.set o X:=fun X=>List.take_of_length_le (by rw [List.length_set];omega)
 rw [call_raw (fn:=Tryz.f71) (show Q.P.funcs[71]? =some Tryz.f71 from Tryz.func71) rfl ann71 rfl (by simp only [List.length_cons,List.length_nil];decide) (by kernel_rfl)]
 have gp:=gp71
 simp only [ann71,Tryz.f71,gpB_some,gpC_draw,gpC_reg,gpC_seq,gpC_cond,gpC_block,gpC_loop,gpC_range,gpC_skip,gpC_ret,gpC_exit,gpC_label,gpO_some,gpO_none,findN,Bool.and_eq_true,Bool.and_true,Bool.true_and,reduceIte,Nat.reduceEqDiff,true_and,and_true] at gp
 simp (maxSteps:=2000000) [-getElem?_pos,-List.map_set,-objBelow,-depV,gp,ho,hb,hol,wrap_in (show -9223372036854775808≤(l.length:Int)-1 by omega) (show (l.length:Int)-1≤9223372036854775807 by omega)]
 rw [show D.length=L from hL.symm,show (l.map numD).reverse=l.reverse.map numD from List.map_reverse.symm]
 conv=>enter [1,v,1];rw [hD]
 rw [if_pos ⟨hOK l,hbL⟩]
 generalize hs44:SD.mk _ _=sd44
 revert sd44
 refine wl (fun p:Nat×Int×List Int=>⟨((Trie.leaf.put 3 (intD p.2.1)).put 2 (intD p.1)).put 0 (.apl o l.length),D.set o (.app 3 1 (p.2.2.map numD))⟩) (fun p=>p.1≤l.length∧p.2.1=(l.length:Int)-1-p.1∧Turn l p.2.2 p.1) (fun p=>l.length-p.1) ?_ (0,(l.length:Int)-1,l) ⟨by omega,by simp [-getElem?_pos,-List.map_set,-objBelow,-depV],.start⟩
 rintro ⟨i,j,W⟩ ⟨hi,hj,ht⟩ ih
 simp only at hi hj ht ih
 have hWl:=ht.len
 have hsl:(D.set o (.app 3 1 (W.map numD))).length=L:=by rw [List.length_set,hL]
 have hget:(D.set o (.app 3 1 (W.map numD)))[o]? =some (.app 3 1 (W.map numD)):=List.getElem?_set_self hol
 rw [loopG_eq]
 by_cases hlt:i+1+i<l.length
 ·obtain ⟨m,hm⟩:∃ m:Nat,m=l.length-1-i:=⟨_,rfl⟩
  obtain rfl:j=(m:Int):=by omega
  obtain ⟨a1,a2⟩:=ht.at hlt
  obtain ⟨x,hx⟩:∃ x,l[i]? =some x:=⟨_,List.getElem?_eq_getElem (by omega)⟩
  obtain ⟨y,hy⟩:∃ y,l[l.length-1-i]? =some y:=⟨_,List.getElem?_eq_getElem (by omega)⟩
  have hT:=ht.step hlt hx hy
  rw [hx] at a1
  rw [hy,← hm] at a2
  rw [← hm] at hT
  have a3:(W.set i y)[m]? =some y:=by rw [List.getElem?_set_ne (by omega)];exact a2
  have ih':=ih (i+1,(m:Int)-1,(W.set i y).set m x) ⟨by omega,by simp only;omega,hT⟩ (by simp only;omega)
  simp (maxSteps:=2000000) [-getElem?_pos,-List.map_set,-objBelow,-depV] at ih'
  simp (maxSteps:=2000000) [-getElem?_pos,-List.map_set,-objBelow,-depV,gp,hget,hOK,hbL,hb,hsl,hWl,hol,hoL,hLD,hts,a1,a2,a3,show (i:Int)<m by omega,show i<m by omega,show m<l.length by omega,show i<l.length by omega,wrap_succ (show i+1≤9223372036854775807 by omega),wrap_in (show -9223372036854775808≤(m:Int)-1 by omega) (show (m:Int)-1≤9223372036854775807 by omega)]
  exact ih'
 ·have e:=ht.done hlt
  subst e
  simp (maxSteps:=2000000) [-getElem?_pos,-List.map_set,-objBelow,-depV,gp,hget,hsl,show ¬(i:Int)<j by omega]
theorem w71_0 (o base:Nat) (D:DH) (hb:base≤o) (hob:(D.drop base).all (objBelow D.length)=true) (ho:D[o]? =some (.arr 1 [])):∃ v,callD Q 71 [.row o 0 0 0] base D=some (v,D):=by
 have hol:=ltOf ho
 have hOK:objsOK base D.length D=true:=by
  have:=objsOK_raw (k:=0) (X:=[]) (show base≤D.length by omega) hob
  simpa [-getElem?_pos,-List.map_set,-objBelow,-depV] using this
 rw [call_raw (fn:=Tryz.f71) (show Q.P.funcs[71]? =some Tryz.f71 from Tryz.func71) rfl ann71 rfl (by simp only [List.length_cons,List.length_nil];decide) (by kernel_rfl)]
 have gp:=gp71
 simp only [ann71,Tryz.f71,gpB_some,gpC_draw,gpC_reg,gpC_seq,gpC_cond,gpC_block,gpC_loop,gpC_range,gpC_skip,gpC_ret,gpC_exit,gpC_label,gpO_some,gpO_none,findN,Bool.and_eq_true,Bool.and_true,Bool.true_and,reduceIte,Nat.reduceEqDiff,true_and,and_true] at gp
 simp (maxSteps:=2000000) [-getElem?_pos,-List.map_set,-objBelow,-depV,gp,ho,hb,hol,hOK,show base≤D.length by omega,wrap_m1]
 rw [loopG_eq]
 simp (maxSteps:=2000000) [-getElem?_pos,-List.map_set,-objBelow,-depV,gp,ho]
end Go.Dv
namespace Go.Dv
open Go Go.Sim Go.Proofs Go.Fsa
attribute [local simp] encI bitF autD b_neqB b_eqlB el_num set_num fz_num numD bitD el_bit set_bit fz_bit prD eqD_agg eq1_int eq1_lst eqD_fn0
theorem fz_numR {b k:Nat} {D:DH} {l:List Int}:frzL (frz b D (k+1)) (l.map numD).reverse=some ((l.map intF).reverse,[]):=by rw [← List.map_reverse,fz_num,List.map_reverse]
def diffH (a b:Aut) (L:Nat) (l:List Bool) (rows:List (List Int)) (O1 O2:DObj) (fi bs:List Int) (x:DObj):DH:=[.arr 4 [autD a],.arr 4 [autD b],.arr 4 [autD a],.arr 4 [autD b],.arr 5 [howD],.arr 1 [.fn 137 [] []],.arr 1 [.fn 116 [] []],.arr 2 [prD (a.begin,b.begin)],.arr 5 [.agg [intD a.sy,.apl (L+13) l.length,.apl (L+14) l.length,qV (L+11) l.length,qV (L+12) l.length]],O1,O2,qO 3 1 (fi.map numD),qO 3 1 (bs.map numD),.app 4 1 (l.map bitD),.app 26 1 (rows.map rowD),x]
theorem wordTo_len (fi bs:List Int):∀ F n:Nat,(wordTo fi bs F n).length≤F
 | 0,n=>by simp [-getElem?_pos,-List.map_set,-objBelow,-depV,wordTo]
 | F+1,n=>by
  simp only [wordTo]
  split
  ·simp [-getElem?_pos,-List.map_set,-objBelow,-depV]
  ·have:=wordTo_len fi bs F ((fi[n]?).getD 0).toNat
   simp only [List.length_cons];omega
theorem w27y (a b:Aut) (ha:a.valid) (hb:b.valid) (hsy:a.sy=b.sy) (hN:(a.nxt.length+1)*(b.nxt.length+1)≤100000) (base:Nat) (D:DH) :
  ∃ (is:Bool) (w:List Int),w.length≤100000∧callD Q 27 [autD a,autD b] base D=some (.tup [rowD w,boolD is,intD 0],D)∧(is=false→a.can=b.can)∧(is=true→a.accepts w≠b.accepts w)∧(is=false→∀ u,a.accepts u=b.accepts u)∧(is=true→∀ u,a.accepts u≠b.accepts u→lessB u w=false)∧(is=false→w=[]):=by
 have hla:=ha.len
 have hlb:=hb.len
 have hma:=ha.most
 have hmb:=hb.most
 have h68:=fun bb D'=>w68 a b (by omega) (by omega) bb D'
 rw [if_pos ⟨Aut.check_valid.2 ha,Aut.check_valid.2 hb⟩,if_pos hsy] at h68
 simp only [autD,intD] at h68
 obtain ⟨O1,O2,fi,bs,h69,hfb,hO⟩:=w69 4 (by omega) (by omega) a b ha hb hsy hN D.length (D++[.arr 4 [autD a],.arr 4 [autD b]]) (by simp [-getElem?_pos,-List.map_set,-objBelow,-depV]) (by simp [-getElem?_pos,-List.map_set,-objBelow,-depV,ob_arr])
 simp only [autD,intD,boolD,List.length_append,List.length_cons,List.length_nil,machS,show opB 4=fun x y=>x != y from rfl,show ((4:Nat):Int)=4 from rfl] at h69
 have r69:(Q.ann 69).raw=true:=by rw [ann69]
 have r68:(Q.ann 68).raw=false:=by rw [ann68]
 have r70:(Q.ann 70).raw=false:=by rw [ann70]
 have hlen:(a.exD b).1.length≤100000:=by
  obtain ⟨d1,d2⟩:=exR_dom (dom:=domD a b) (fun s hs t ht=>domD_succ ha hb hs ht) (fun s hs=>by rw [List.mem_singleton] at hs;rw [hs];exact begin_domD ha hb) (by simp [-getElem?_pos,-List.map_set,-objBelow,-depV]) (exD_spec ha hb hN)
  exact Nat.le_trans (domD_len d1 (by simpa [-getElem?_pos,-List.map_set,-objBelow,-depV] using d2)) hN
 obtain ⟨l,hl⟩:∃ l,l=(a.exD b).1.map fun p=>a.accB p.1 != b.accB p.2:=⟨_,rfl⟩
 have hll:l.length=(a.exD b).1.length:=by rw [hl];simp [-getElem?_pos,-List.map_set,-objBelow,-depV]
 rw [← hl] at h69
 simp only [machD,show opFn 4=137 from rfl,prodH,howD,autD,prD,intD,List.append_assoc,List.cons_append,List.nil_append] at h69
 obtain ⟨r,h70,hr⟩:=w70 l (by omega) (D.length+13) D.length _ (show (D++[DObj.arr 4 [autD a],.arr 4 [autD b],.arr 4 [autD a],.arr 4 [autD b],.arr 5 [howD],.arr 1 [.fn 137 [] []],.arr 1 [.fn 116 [] []],.arr 2 [prD (a.begin,b.begin)],.arr 5 [.agg [intD a.sy,.apl (D.length+2+6+5) l.length,.apl (D.length+2+6+6) l.length,qV (D.length+2+6+3) l.length,qV (D.length+2+6+4) l.length]],O1,O2,qO 3 1 (fi.map numD),qO 3 1 (bs.map numD),.app 4 1 (l.map bitD),.app 26 1 ((a.exD b).2.map rowD)])[D.length+13]? =some (.app 4 1 (l.map bitD)) by simp [-getElem?_pos,-List.map_set,-objBelow,-depV])
 simp only [autD,howD,prD,intD,boolD,Nat.add_assoc,Nat.reduceAdd] at h70
 simp only [Nat.add_assoc,Nat.reduceAdd] at h69
 by_cases hneg:r<0
 ·have hall:∀ p∈(a.exD b).1,a.accB p.1=b.accB p.2:=fun p hp=>by
   have:=hr.none hneg (a.accB p.1 != b.accB p.2) (by rw [hl];exact List.mem_map_of_mem hp)
   simpa [-getElem?_pos,-List.map_set,-objBelow,-depV] using this
  refine ⟨false,[],by simp [-getElem?_pos,-List.map_set,-objBelow,-depV],?_,fun _=>differ_none ha hb hsy hN hall,(fun h=>by cases h),fun _=>differ_all ha hb hsy hN hall,(fun h=>by cases h),fun _=>rfl⟩
  rw [call_pure (fn:=Tryz.f27) (show Q.P.funcs[27]? =some Tryz.f27 from Tryz.func27) rfl ann27 rfl (by simp only [List.length_cons,List.length_nil];decide) (by kernel_rfl)]
  simp (maxSteps:=2000000) [-getElem?_pos,-List.map_set,-objBelow,-depV,h68,r68,r69,r70,h69,h70,hneg]
 ·obtain ⟨n,rfl⟩:∃ n:Nat,r=n:=⟨r.toNat,by omega⟩
  have hn:=hr.some (by omega)
  rw [Int.toNat_natCast] at hn
  have hnl:=lt_of_get hn
  obtain ⟨p,hp⟩:∃ p,(a.exD b).1[n]? =some p:=⟨_,List.getElem?_eq_getElem (by omega)⟩
  have hd:a.accB p.1≠b.accB p.2:=by
   rw [hl,List.getElem?_map,hp] at hn
   simpa [-getElem?_pos,-List.map_set,-objBelow,-depV] using hn
  refine ⟨true,(wordTo fi bs n n).reverse,by rw [List.length_reverse];have:=wordTo_len fi bs n n;omega,?_,(fun h=>by cases h),fun _=>differ_some ha hb hsy hN hfb hp hd (Nat.le_refl _),(fun h=>by cases h),fun _ u hu=>differ_min ha hb hsy hN hfb (by omega) (fun m p' hm hp'=>?_) (Nat.le_refl _) hu,fun h=>by cases h⟩
  rotate_left
  ·have:=hr.fst (by omega) (a.accB p'.1 != b.accB p'.2) (by
    rw [Int.toNat_natCast]
    refine List.mem_of_getElem? (i:=m) ?_
    rw [List.getElem?_take,if_pos hm,hl,List.getElem?_map,hp'];rfl)
   simpa [-getElem?_pos,-List.map_set,-objBelow,-depV] using this
  rw [call_pure (fn:=Tryz.f27) (show Q.P.funcs[27]? =some Tryz.f27 from Tryz.func27) rfl ann27 rfl (by simp only [List.length_cons,List.length_nil];decide) (by kernel_rfl)]
  simp (maxSteps:=2000000) [-getElem?_pos,-List.map_set,-objBelow,-depV,h68,r68,r69,r70,h69,h70,hneg,(hO _).1,(hO _).2]
  have hfl:=hfb.lf
  have hbl:=hfb.lb
  by_cases hz:n=0
  ·subst hz
   rw [loopG_eq]
   obtain ⟨v,hrev⟩:=w71_0 (D.length+15) D.length (D++diffH a b D.length l (a.exD b).2 O1 O2 fi bs (.arr 1 [])) (by omega) (by simp [-getElem?_pos,-List.map_set,-objBelow,-depV,diffH,ob_arr,ob_app,(hO _).1,(hO _).2,howD]) (by simp [-getElem?_pos,-List.map_set,-objBelow,-depV,diffH])
   simp only [diffH,howD,prD,autD,intD,List.append_assoc,List.cons_append,List.nil_append] at hrev
   have r71:(Q.ann 71).raw=true:=by rw [ann71]
   simp (maxSteps:=2000000) [-getElem?_pos,-List.map_set,-objBelow,-depV,hrev,r71,wordTo]
  obtain ⟨i0,c0,p0,f1,f2,f3,_⟩:=hfb.get n (by omega) (by omega)
  rw [loopG_eq]
  simp (maxSteps:=2000000) [-getElem?_pos,-List.map_set,-objBelow,-depV,f1,f2,show fi.length=l.length by omega,show bs.length=l.length by omega,(hO _).1,(hO _).2,hnl,show 0<n by omega,show (0:Int)<n by omega,qO_below,below_num]
  have hw0:∀ F,wordTo fi bs F 0=[]:=fun F=>by cases F<;>simp [-getElem?_pos,-List.map_set,-objBelow,-depV,wordTo]
  have hw1:∀ F m i c,0<m→fi[m]? =some (i:Int)→bs[m]? =some (c:Int)→wordTo fi bs (F+1) m=(c:Int)::wordTo fi bs F i.toNat:=fun F m i c h1 h2 h3=>by
   simp only [wordTo,if_neg (show ¬m=0 by omega),h2,h3,Option.getD_some]
  have hstart:[(c0:Int)]++wordTo fi bs (n-1) i0=wordTo fi bs n n:=by
   obtain ⟨m,rfl⟩:∃ m,n=m+1:=⟨n-1,by omega⟩
   rw [hw1 m (m+1) i0 c0 (by omega) f1 f2];rfl
  generalize hs45:SD.mk _ _=sd45
  revert sd45
  refine wl (fun p:Nat×List Int=>⟨((Trie.leaf.put 11 (.apl (D.length+15) p.2.length)).put 10 (intD p.1)).put 8 (.ref (D.length+8) 0 0),D++diffH a b D.length l (a.exD b).2 O1 O2 fi bs (.app 3 1 (p.2.map numD))⟩) (fun p=>1≤p.2.length∧p.2.length+p.1≤n∧∃ F,p.1≤F∧p.2++wordTo fi bs F p.1=wordTo fi bs n n) (fun p=>p.1) ?_ (i0,[(c0:Int)]) ⟨by simp [-getElem?_pos,-List.map_set,-objBelow,-depV],by simp [-getElem?_pos,-List.map_set,-objBelow,-depV];omega,n-1,by simp only;omega,hstart⟩
  rintro ⟨s,out⟩ ⟨ho1,ho2,F,hF,hw⟩ ih
  simp only at ho1 ho2 hF hw ih
  rw [loopG_eq]
  by_cases hs:s=0
  ·subst hs
   rw [hw0,List.append_nil] at hw
   subst hw
   obtain ⟨v,hrev⟩:=w71 (wordTo fi bs n n) ho1 (by omega) (D.length+15) D.length (D++diffH a b D.length l (a.exD b).2 O1 O2 fi bs (.app 3 1 ((wordTo fi bs n n).map numD))) (by omega) (by simp [-getElem?_pos,-List.map_set,-objBelow,-depV,diffH,ob_arr,ob_app,(hO _).1,(hO _).2,howD,qO_below,below_num]) (by simp [-getElem?_pos,-List.map_set,-objBelow,-depV,diffH])
   have r71:(Q.ann 71).raw=true:=by rw [ann71]
   simp only [diffH,howD,prD,autD,intD,List.append_assoc,List.cons_append,List.nil_append] at hrev ⊢
   simp (maxSteps:=2000000) [-getElem?_pos,-List.map_set,-objBelow,-depV,hrev,r71,fz_numR]
  ·obtain ⟨i,c,q,e1,e2,e3,_⟩:=hfb.get s (by omega) (by omega)
   obtain ⟨F,rfl⟩:∃ F',F=F'+1:=⟨F-1,by omega⟩
   rw [hw1 F s i c (by omega) e1 e2,Int.toNat_natCast] at hw
   have ih':=ih (i,out++[(c:Int)]) ⟨by simp [-getElem?_pos,-List.map_set,-objBelow,-depV],by simp [-getElem?_pos,-List.map_set,-objBelow,-depV];omega,F,by simp only;omega,by simp only;rw [List.append_assoc];exact hw⟩ e3
   simp only [diffH,howD] at ih' ⊢
   simp (maxSteps:=2000000) [-getElem?_pos,-List.map_set,-objBelow,-depV] at ih'
   simp (maxSteps:=2000000) [-getElem?_pos,-List.map_set,-objBelow,-depV,e1,e2,show fi.length=l.length by omega,show bs.length=l.length by omega,(hO _).1,(hO _).2,show s<l.length by omega,show 0<s by omega,show (0:Int)<s by omega,qO_below,below_num,howD,show 1≤out.length from ho1,show (out.length+1)*8≤1099511627776 by omega,show out.length+1≤1099511627776 by omega,show out.length≤1099511627775 by omega]
   exact ih'
end Go.Dv
set_option maxHeartbeats 4000000
namespace Go.Dv
open Go Go.Sim Go.Proofs Go.Fsa
attribute [local simp] encI bitF autD b_neqB b_eqlB el_num set_num fz_num numD bitD el_bit set_bit fz_bit normF_strL bl_byte
attribute [local simp] agO_g agW_t agW_f
attribute [local simp] eqD_agg eq1_int eq1_bool eq1_lst
end Go.Dv
