/- Texts of this proof, part WA. -/
import Derived.Test.YtfjbdkmmoinngaaGreatDoorFacts
import Derived.Test.YtfjbdkmmoinngaaGreatDoorPure
import Derived.Test.YtfjbdkmmoinngaaGreatDoorDvB
set_option linter.unusedVariables false
set_option linter.unusedSimpArgs false
set_option linter.unusedSectionVars false
set_option maxRecDepth 100000
namespace Go.Dv
open Go Go.Sim Go.Proofs
theorem b_neqB {x y:Operand} {a b:Bool}:binA Tryz.prog .neq 4 x y (.bool a) (.bool b)=some (.bool (a != b)):=by cases a<;>cases b<;>kernel_rfl
theorem b_eqlB {x y:Operand} {a b:Bool}:binA Tryz.prog .eql 4 x y (.bool a) (.bool b)=some (.bool (a==b)):=by cases a<;>cases b<;>kernel_rfl
theorem w63 (a b:List Int) (ha:a.length<1152921504606846976) (hb:b.length<1152921504606846976) (base:Nat) (D:DH):callD Q 63 [rowD a,rowD b] base D=some (boolD (decide (a=b)),D):=by
 rw [call_pure (fn:=Tryz.f63) (show Q.P.funcs[63]? =some Tryz.f63 from Tryz.func63) rfl ann63 rfl (by simp only [List.length_cons,List.length_nil];decide) (by kernel_rfl)]
 have gp:=gp63
 simp only [ann63,Tryz.f63,gpB_some,gpC_draw,gpC_reg,gpC_seq,gpC_cond,gpC_block,gpC_loop,gpC_range,gpC_skip,gpC_ret,gpC_exit,gpC_label,gpO_some,gpO_none,findN,Bool.and_eq_true,Bool.and_true,Bool.true_and,reduceIte,Nat.reduceEqDiff,true_and,and_true] at gp
 by_cases hl:a.length=b.length
 ·simp (maxSteps:=2000000) [-getElem?_pos,hl,gp]
  generalize hs:SD.mk _ _=s0
  revert s0
  refine wl (fun i:Nat=>⟨((Trie.leaf.put 5 (intD i)).put 1 (rowD b)).put 0 (rowD a),D⟩) (fun i=>i≤b.length∧a.take i=b.take i) (fun i=>b.length-i) ?_ 0 ⟨by omega,by simp [-getElem?_pos]⟩
  intro i ⟨hi,ht⟩ ih
  rw [loopG_eq]
  by_cases hlt:i<b.length
  ·obtain ⟨x,hx⟩:∃ x,a[i]? =some x:=⟨_,List.getElem?_eq_getElem (by omega)⟩
   obtain ⟨y,hy⟩:∃ x,b[i]? =some x:=⟨_,List.getElem?_eq_getElem hlt⟩
   by_cases hxy:x=y
   ·have hn:List.take (i+1) a=List.take (i+1) b:=by rw [List.take_add_one,List.take_add_one,ht,hx,hy,hxy]
    have ih':=ih (i+1) ⟨by omega,hn⟩ (by omega)
    simp (maxSteps:=2000000) [-getElem?_pos] at ih'
    simp (maxSteps:=2000000) [-getElem?_pos,hl,hlt,hx,hy,gp,hxy,wrap_succ (show i+1≤9223372036854775807 by omega)]
    exact ih'
   ·simp (maxSteps:=2000000) [-getElem?_pos,hl,hlt,hx,hy,gp,hxy]
    rintro rfl
    rw [hx] at hy
    exact hxy (Option.some.inj hy)
  ·simp (maxSteps:=2000000) [-getElem?_pos,hl,hlt,gp]
   have h:i=b.length:=by omega
   rw [List.take_of_length_le (by omega),List.take_of_length_le (by omega)] at ht
   exact ht
 ·simp (maxSteps:=2000000) [-getElem?_pos,hl,gp]
  exact fun h=>hl (by rw [h])
end Go.Dv
namespace Go.Dv
open Go Go.Sim Go.Proofs Go.Fsa
def bitF (b:Bool):FV:=.raw (.bool b)
def autD (a:Aut):DV:=.agg [.f (.raw (.int .i64 a.sy)),.f (.raw (.int .i64 a.st)),.f (.lst (a.acc.map bitF)),.f (.lst (a.nxt.map rowF))]
attribute [local simp] bitF autD
theorem w19 (a:Aut) (base:Nat) (D:DH):callD Q 19 [autD a] base D=some (intD a.check,D):=by
 rw [call_pure (fn:=Tryz.f19) (show Q.P.funcs[19]? =some Tryz.f19 from Tryz.func19) rfl ann19 rfl (by simp only [List.length_cons,List.length_nil];decide) (by kernel_rfl)]
 have gp:=gp19
 simp only [ann19,Tryz.f19,gpB_some,gpC_draw,gpC_reg,gpC_seq,gpC_cond,gpC_block,gpC_loop,gpC_range,gpC_skip,gpC_ret,gpC_exit,gpC_label,gpO_some,gpO_none,findN,Bool.and_eq_true,Bool.and_true,Bool.true_and,reduceIte,Nat.reduceEqDiff,true_and,and_true] at gp
 have bad:¬a.valid→a.check=60:=fun h=>by simp [-getElem?_pos,Aut.check,h]
 by_cases c1:a.sy<1
 ·rw [bad fun h=>h.lo c1];simp (maxSteps:=2000000) [-getElem?_pos,gp,c1]
 by_cases c2:400<a.sy
 ·rw [bad fun h=>h.hi c2];simp (maxSteps:=2000000) [-getElem?_pos,gp,c1,c2]
 by_cases c3:a.acc.length=a.nxt.length
 case neg=>rw [bad fun h=>c3 h.len.symm];simp (maxSteps:=2000000) [-getElem?_pos,gp,c1,c2,c3]
 by_cases c4:(20000:Int)<(a.nxt.length:Int)
 ·rw [bad fun h=>h.most (by omega)];simp (maxSteps:=2000000) [-getElem?_pos,gp,c1,c2,c3,c4]
 by_cases c5:a.st<0
 ·rw [bad fun h=>h.st0 c5];simp (maxSteps:=2000000) [-getElem?_pos,gp,c1,c2,c3,c4,c5]
 generalize hnn:a.nxt.length=n at *
 have hx:a.acc.length=n:=c3
 by_cases c6:n=0
 ·by_cases c7:a.st=0
  ·have hv:a.valid:=⟨c1,c2,by omega,by omega,c5,by omega,fun r hr=>by rw [List.length_eq_zero_iff.1 (hnn.trans c6)] at hr;cases hr⟩
   rw [show a.check=0 by simp [-getElem?_pos,Aut.check,hv]]
   simp (maxSteps:=2000000) [-getElem?_pos,gp,c1,c2,c3,c4,c5,c6,c7,hnn]
   rw [loopG_eq]
   simp (maxSteps:=2000000) [-getElem?_pos,gp]
  ·rw [bad fun h=>h.st1 (by omega)];simp (maxSteps:=2000000) [-getElem?_pos,gp,c1,c2,c3,c4,c5,c6,c7,hnn]
 by_cases c7:(n:Int)≤a.st
 ·rw [bad fun h=>h.st1 (by omega)];simp (maxSteps:=2000000) [-getElem?_pos,gp,c1,c2,c3,c4,c5,c6,c7,hnn,show 0<n by omega]
 have good:(∀ i,i<n→∃ r,a.nxt[i]? =some r∧rowOK a.sy n r)→a.valid:=fun h=>⟨c1,c2,by omega,by omega,c5,by omega,fun r hr=>by
  obtain ⟨i,hi,rfl⟩:=List.getElem_of_mem hr
  obtain ⟨r',h1,h2⟩:=h i (by omega)
  rw [List.getElem?_eq_getElem hi,Option.some.injEq] at h1
  rw [h1,hx];exact h2⟩
 have badRow:∀ i r,a.nxt[i]? =some r→¬rowOK a.sy n r→a.check=60:=fun i r hr h=>bad fun hv=>h (by rw [← hx];exact hv.rows r (List.mem_of_getElem? hr))
 simp (maxSteps:=2000000) [-getElem?_pos,gp,c1,c2,c3,c4,c5,c6,c7,hnn,show 0<n by omega]
 generalize hs:SD.mk _ _=s0
 revert s0
 refine wl (fun i:Nat=>⟨((Trie.leaf.put 4 (intD i)).put 3 (intD n)).put 1 (.ref D.length 0 0),D++[.arr 4 [autD a]]⟩) (fun i=>i≤n∧∀ j,j<i→∃ r,a.nxt[j]? =some r∧rowOK a.sy n r) (fun i=>n-i) ?_ 0 ⟨by omega,fun j h=>by omega⟩
 intro i ⟨hi,ht⟩ ih
 rw [loopG_eq]
 by_cases hlt:i<n
 case neg=>
  rw [show a.check=0 by simp [-getElem?_pos,Aut.check,good (fun j hj=>ht j (by omega))]]
  simp (maxSteps:=2000000) [-getElem?_pos,gp,hlt]
 obtain ⟨r,hr⟩:∃ r,a.nxt[i]? =some r:=⟨_,List.getElem?_eq_getElem (by omega)⟩
 by_cases hl:(r.length:Int)=a.sy
 case neg=>
  rw [badRow i r hr fun h=>hl h.1]
  simp (maxSteps:=2000000) [-getElem?_pos,gp,hlt,hr,hl]
 simp (maxSteps:=2000000) [-getElem?_pos,gp,hlt,hr,hl]
 generalize hs:SD.mk _ _=s1
 revert s1
 refine wl (fun k:Nat=>⟨(((Trie.leaf.put 5 (intD k)).put 4 (intD i)).put 3 (intD n)).put 1 (.ref D.length 0 0),D++[.arr 4 [autD a]]⟩) (fun k=>k≤r.length∧∀ j x,j<k→r[j]? =some x→¬x < -1∧¬(n:Int)≤x) (fun k=>r.length-k) ?_ 0 ⟨by omega,fun j x h=>by omega⟩
 intro k ⟨hk,hkt⟩ ih2
 rw [loopG_eq]
 by_cases hklt:k<r.length
 case neg=>
  have hrow:rowOK a.sy n r:=⟨hl,fun t ht=>by
   obtain ⟨j,hj,rfl⟩:=List.getElem_of_mem ht
   exact hkt j _ (by omega) (List.getElem?_eq_getElem hj)⟩
  have ih':=ih (i+1) ⟨by omega,fun j hj=>by
   by_cases h:j=i
   ·subst h;exact ⟨r,hr,hrow⟩
   ·exact ht j (by omega)⟩ (by omega)
  simp (maxSteps:=2000000) [-getElem?_pos] at ih'
  simp (maxSteps:=2000000) [-getElem?_pos,gp,show ¬(k:Int)<a.sy by omega,wrap_succ (show i+1≤9223372036854775807 by omega)]
  exact ih'
 obtain ⟨x,hxk⟩:∃ x,r[k]? =some x:=⟨_,List.getElem?_eq_getElem hklt⟩
 have hin:x∈r:=List.mem_of_getElem? hxk
 by_cases d1:x < -1
 ·rw [badRow i r hr fun h=>(h.2 x hin).1 d1]
  simp (maxSteps:=2000000) [-getElem?_pos,gp,show (k:Int)<a.sy by omega,hr,hxk,d1]
 by_cases d2:(n:Int)≤x
 ·rw [badRow i r hr fun h=>(h.2 x hin).2 d2]
  simp (maxSteps:=2000000) [-getElem?_pos,gp,show (k:Int)<a.sy by omega,hr,hxk,d1,d2]
 have ih':=ih2 (k+1) ⟨by omega,fun j y hj hy=>by
  by_cases h:j=k
  ·subst h;rw [hxk] at hy;cases hy;exact ⟨d1,d2⟩
  ·exact hkt j y (by omega) hy⟩ (by omega)
 simp (maxSteps:=2000000) [-getElem?_pos] at ih'
 simp (maxSteps:=2000000) [-getElem?_pos,gp,show (k:Int)<a.sy by omega,hr,hxk,d1,d2,wrap_succ (show k+1≤9223372036854775807 by omega)]
 exact ih'
end Go.Dv
namespace Go.Dv
open Go Go.Sim Go.Proofs Go.Fsa
attribute [local simp] bitF autD
def optD (o:Option Int):DV:=.tup [.f (.raw (.int .i64 (o.getD 0))),.f (.raw (.bool o.isSome))]
end Go.Dv
namespace Go.Dv
open Go Go.Sim Go.Proofs Go.Fsa
attribute [local simp] bitF autD b_neqB b_eqlB
def sameA (a b:Aut):Bool:=decide (a.sy=b.sy∧a.st=b.st∧a.acc=b.acc∧a.nxt=b.nxt)
theorem c63 {a b:List Int} (ha:a.length<1152921504606846976) (hb:b.length<1152921504606846976) {base:Nat} {D:DH}:callD Q 63 [.f (.lst (a.map intF)),.f (.lst (b.map intF))] base D=some (.f (.raw (.bool (decide (a=b)))),D):=w63 a b ha hb base D
theorem w22 (a b:Aut) (ha:a.acc.length<1152921504606846976) (hn:a.nxt.length<1152921504606846976) (hra:∀ r∈a.nxt,r.length<1152921504606846976) (hrb:∀ r∈b.nxt,r.length<1152921504606846976) (base:Nat) (D:DH):callD Q 22 [autD a,autD b] base D=some (boolD (sameA a b),D):=by
 obtain ⟨sy,st,acc,nxt⟩:=a
 obtain ⟨sy',st',acc',nxt'⟩:=b
 simp only at ha hn hra hrb
 rw [call_pure (fn:=Tryz.f22) (show Q.P.funcs[22]? =some Tryz.f22 from Tryz.func22) rfl ann22 rfl (by simp only [List.length_cons,List.length_nil];decide) (by kernel_rfl)]
 have gp:=gp22
 simp only [ann22,Tryz.f22,gpB_some,gpC_draw,gpC_reg,gpC_seq,gpC_cond,gpC_block,gpC_loop,gpC_range,gpC_skip,gpC_ret,gpC_exit,gpC_label,gpO_some,gpO_none,findN,Bool.and_eq_true,Bool.and_true,Bool.true_and,reduceIte,Nat.reduceEqDiff,true_and,and_true] at gp
 by_cases c1:sy=sy'
 case neg=>rw [show sameA ⟨sy,st,acc,nxt⟩ ⟨sy',st',acc',nxt'⟩=false by simp [-getElem?_pos,sameA,c1]];simp (maxSteps:=2000000) [-getElem?_pos,gp,c1]
 subst c1
 by_cases c2:st=st'
 case neg=>rw [show sameA ⟨sy,st,acc,nxt⟩ ⟨sy,st',acc',nxt'⟩=false by simp [-getElem?_pos,sameA,c2]];simp (maxSteps:=2000000) [-getElem?_pos,gp,c2]
 subst c2
 by_cases c3:acc.length=acc'.length
 case neg=>rw [show sameA ⟨sy,st,acc,nxt⟩ ⟨sy,st,acc',nxt'⟩=false by simp [-getElem?_pos,sameA,show ¬acc=acc' from fun h=>c3 (by rw [h])]];simp (maxSteps:=2000000) [-getElem?_pos,gp,c3]
 by_cases c4:nxt.length=nxt'.length
 case neg=>rw [show sameA ⟨sy,st,acc,nxt⟩ ⟨sy,st,acc',nxt'⟩=false by simp [-getElem?_pos,sameA,show ¬nxt=nxt' from fun h=>c4 (by rw [h])]];simp (maxSteps:=2000000) [-getElem?_pos,gp,c3,c4]
 have hsm:sameA ⟨sy,st,acc,nxt⟩ ⟨sy,st,acc',nxt'⟩=(decide (acc=acc')&&decide (nxt=nxt')):=by simp [-getElem?_pos,sameA]
 rw [hsm]
 simp (maxSteps:=2000000) [-getElem?_pos,gp,c3,c4]
 generalize hs3:SD.mk _ _=sd3
 revert sd3
 refine wl (fun i:Nat=>⟨((Trie.leaf.put 5 (intD i)).put 3 (.ref (D.length+1) 0 0)).put 2 (.ref D.length 0 0),D++[.arr 4 [autD ⟨sy,st,acc,nxt⟩],.arr 4 [autD ⟨sy,st,acc',nxt'⟩]]⟩) (fun i=>i≤acc'.length∧acc.take i=acc'.take i) (fun i=>acc'.length-i) ?_ 0 ⟨by omega,by simp [-getElem?_pos]⟩
 intro i ⟨hi,ht⟩ ih
 rw [loopG_eq]
 by_cases hlt:i<acc'.length
 ·obtain ⟨x,hx⟩:∃ x,acc[i]? =some x:=⟨_,List.getElem?_eq_getElem (by omega)⟩
  obtain ⟨y,hy⟩:∃ x,acc'[i]? =some x:=⟨_,List.getElem?_eq_getElem hlt⟩
  by_cases hxy:x=y
  ·subst hxy
   have hn:List.take (i+1) acc=List.take (i+1) acc':=by rw [List.take_add_one,List.take_add_one,ht,hx,hy]
   have ih':=ih (i+1) ⟨by omega,hn⟩ (by omega)
   simp (maxSteps:=2000000) [-getElem?_pos] at ih'
   cases x<;>simp (maxSteps:=2000000) [-getElem?_pos,gp,c3,hlt,hx,hy,wrap_succ (show i+1≤9223372036854775807 by omega)]<;>exact ih'
  ·have:acc≠acc':=fun h=>hxy (by rw [h,hy] at hx;exact (Option.some.inj hx).symm)
   cases x<;>cases y<;>first
    | exact absurd rfl hxy
    | simp (maxSteps:=2000000) [-getElem?_pos,gp,c3,hlt,hx,hy,this]
 ·have he:acc=acc':=by
   rw [List.take_of_length_le (by omega),List.take_of_length_le (by omega)] at ht
   exact ht
  subst he
  simp (maxSteps:=2000000) [-getElem?_pos,gp,hlt]
  generalize hs4:SD.mk _ _=sd4
  revert sd4
  refine wl (fun i:Nat=>⟨((Trie.leaf.put 6 (intD i)).put 3 (.ref (D.length+1) 0 0)).put 2 (.ref D.length 0 0),D++[.arr 4 [autD ⟨sy,st,acc,nxt⟩],.arr 4 [autD ⟨sy,st,acc,nxt'⟩]]⟩) (fun i=>i≤nxt'.length∧nxt.take i=nxt'.take i) (fun i=>nxt'.length-i) ?_ 0 ⟨by omega,by simp [-getElem?_pos]⟩
  intro k ⟨hk,hkt⟩ ih2
  rw [loopG_eq]
  by_cases hklt:k<nxt'.length
  ·obtain ⟨x,hx⟩:∃ x,nxt[k]? =some x:=⟨_,List.getElem?_eq_getElem (by omega)⟩
   obtain ⟨y,hy⟩:∃ x,nxt'[k]? =some x:=⟨_,List.getElem?_eq_getElem hklt⟩
   have hxa:=hra x (List.mem_of_getElem? hx)
   have hxb:=hrb y (List.mem_of_getElem? hy)
   by_cases hxy:x=y
   ·have hn:List.take (k+1) nxt=List.take (k+1) nxt':=by rw [List.take_add_one,List.take_add_one,hkt,hx,hy,hxy]
    have ih':=ih2 (k+1) ⟨by omega,hn⟩ (by omega)
    simp (maxSteps:=2000000) [-getElem?_pos] at ih'
    simp (maxSteps:=2000000) [-getElem?_pos,gp,c4,hklt,hx,hy,hxy,c63,hxa,hxb,wrap_succ (show k+1≤9223372036854775807 by omega)]
    exact ih'
   ·have:nxt≠nxt':=fun h=>hxy (by rw [h,hy] at hx;exact (Option.some.inj hx).symm)
    simp (maxSteps:=2000000) [-getElem?_pos,gp,c4,hklt,hx,hy,hxy,c63,hxa,hxb,this]
  ·have he:nxt=nxt':=by
    rw [List.take_of_length_le (by omega),List.take_of_length_le (by omega)] at hkt
    exact hkt
   subst he
   simp (maxSteps:=2000000) [-getElem?_pos,gp,hklt]
end Go.Dv
namespace Go.Dv
open Go Go.Sim Go.Proofs Go.Fsa
attribute [local simp] bitF autD b_neqB b_eqlB
theorem max2_int {x y:Int}:minmaxD Tryz.prog Builtin.max2 [.f (.raw (.int .i64 x)),.f (.raw (.int .i64 y))]=some (.f (.raw (.int .i64 (max x y)))):=by
 simp only [minmaxD,toVs,minmax,Option.map_some]
 have:Builtin.max2 (.int .i64 x) (.int .i64 y)=.pure (.int .i64 (max x y)):=by
  simp only [Builtin.max2]
  split<;>(congr 2;omega)
 rw [this];rfl
theorem bl_max {P:Program} {D:DH} {base:Nat} {ts:List TypeId} {l:List DV}:dBuiltin P D base ts l .max=valD D (minmaxD P Builtin.max2 l):=rfl
attribute [local simp] bl_max max2_int
theorem w18 (a:Aut) (ha:a.nxt.length<1152921504606846976) (base:Nat) (D:DH):callD Q 18 [autD a] base D=some (intD a.check,D):=by
 rw [call_pure (fn:=Tryz.f18) (show Q.P.funcs[18]? =some Tryz.f18 from Tryz.func18) rfl ann18 rfl (by simp only [List.length_cons,List.length_nil];decide) (by kernel_rfl)]
 have gp:=gp18
 simp only [ann18,Tryz.f18,gpB_some,gpC_draw,gpC_reg,gpC_seq,gpC_cond,gpC_block,gpC_loop,gpC_range,gpC_skip,gpC_ret,gpC_exit,gpC_label,gpO_some,gpO_none,findN,Bool.and_eq_true,Bool.and_true,Bool.true_and,reduceIte,Nat.reduceEqDiff,true_and,and_true] at gp
 have bad:¬a.valid→a.check=60:=fun h=>by simp [-getElem?_pos,Aut.check,h]
 by_cases c1:a.sy<1
 ·rw [bad fun h=>h.lo c1];simp (maxSteps:=2000000) [-getElem?_pos,gp,c1]
 by_cases c2:400<a.sy
 ·rw [bad fun h=>h.hi c2];simp (maxSteps:=2000000) [-getElem?_pos,gp,c1,c2]
 by_cases c4:(20000:Int)<(a.acc.length:Int)
 ·rw [bad fun h=>h.most (by omega)];simp (maxSteps:=2000000) [-getElem?_pos,gp,c1,c2,c4]
 by_cases c3:a.nxt.length=a.acc.length
 case neg=>rw [bad fun h=>c3 h.len];simp (maxSteps:=2000000) [-getElem?_pos,gp,c1,c2,c3,c4]
 by_cases c5:a.st<0
 ·rw [bad fun h=>h.st0 c5];simp (maxSteps:=2000000) [-getElem?_pos,gp,c1,c2,c3,c4,c5]
 generalize hnn:a.acc.length=n at *
 by_cases c7:max (n:Int) 1≤a.st
 ·rw [bad fun h=>h.st1 (by rw [hnn];exact c7)];simp (maxSteps:=2000000) [-getElem?_pos,gp,c1,c2,c3,c4,c5,hnn,c7]
 have good:(∀ i,i<n→∃ r,a.nxt[i]? =some r∧rowOK a.sy n r)→a.valid:=fun h=>⟨c1,c2,by omega,by omega,c5,by rw [hnn];exact c7,fun r hr=>by
  obtain ⟨i,hi,rfl⟩:=List.getElem_of_mem hr
  obtain ⟨r',h1,h2⟩:=h i (by omega)
  rw [List.getElem?_eq_getElem hi,Option.some.injEq] at h1
  rw [h1,hnn];exact h2⟩
 have badRow:∀ i r,a.nxt[i]? =some r→¬rowOK a.sy n r→a.check=60:=fun i r hr h=>bad fun hv=>h (by rw [← hnn];exact hv.rows r (List.mem_of_getElem? hr))
 simp (maxSteps:=2000000) [-getElem?_pos,gp,c1,c2,c3,c4,c5,c7,hnn]
 generalize hs5:SD.mk _ _=sd5
 revert sd5
 refine wl (fun i:Nat=>⟨((((Trie.leaf.put 45 (intD i)).put 44 (intD n)).put 43 (.f (.lst (a.nxt.map rowF)))).put 3 (intD n)).put 1 (.ref D.length 0 0),D++[.arr 4 [autD a]]⟩) (fun i=>i≤n∧∀ j,j<i→∃ r,a.nxt[j]? =some r∧rowOK a.sy n r) (fun i=>n-i) ?_ 0 ⟨by omega,fun j h=>by omega⟩
 intro i ⟨hi,ht⟩ ih
 rw [loopG_eq]
 by_cases hlt:i<n
 case neg=>
  rw [show a.check=0 by simp [-getElem?_pos,Aut.check,good (fun j hj=>ht j (by omega))]]
  simp (maxSteps:=2000000) [-getElem?_pos,gp,hlt]
 obtain ⟨r,hr⟩:∃ r,a.nxt[i]? =some r:=⟨_,List.getElem?_eq_getElem (by omega)⟩
 by_cases hl:(r.length:Int)=a.sy
 case neg=>
  rw [badRow i r hr fun h=>hl h.1]
  simp (maxSteps:=2000000) [-getElem?_pos,gp,hlt,hr,hl]
 simp (maxSteps:=2000000) [-getElem?_pos,gp,hlt,hr,hl]
 generalize hs6:SD.mk _ _=sd6
 revert sd6
 refine wl (fun k:Nat=>⟨(((((((Trie.leaf.put 56 (intD k)).put 55 (intD a.sy)).put 54 (rowD r)).put 45 (intD i)).put 44 (intD n)).put 43 (.f (.lst (a.nxt.map rowF)))).put 3 (intD n)).put 1 (.ref D.length 0 0),D++[.arr 4 [autD a]]⟩) (fun k=>k≤r.length∧∀ j x,j<k→r[j]? =some x→¬x < -1∧¬(n:Int)≤x) (fun k=>r.length-k) ?_ 0 ⟨by omega,fun j x h=>by omega⟩
 intro k ⟨hk,hkt⟩ ih2
 rw [loopG_eq]
 by_cases hklt:k<r.length
 case neg=>
  have hrow:rowOK a.sy n r:=⟨hl,fun t ht=>by
   obtain ⟨j,hj,rfl⟩:=List.getElem_of_mem ht
   exact hkt j _ (by omega) (List.getElem?_eq_getElem hj)⟩
  have ih':=ih (i+1) ⟨by omega,fun j hj=>by
   by_cases h:j=i
   ·subst h;exact ⟨r,hr,hrow⟩
   ·exact ht j (by omega)⟩ (by omega)
  simp (maxSteps:=2000000) [-getElem?_pos] at ih'
  simp (maxSteps:=2000000) [-getElem?_pos,gp,show ¬(k:Int)<a.sy by omega,wrap_succ (show i+1≤9223372036854775807 by omega)]
  exact ih'
 obtain ⟨x,hxk⟩:∃ x,r[k]? =some x:=⟨_,List.getElem?_eq_getElem hklt⟩
 have hin:x∈r:=List.mem_of_getElem? hxk
 by_cases d1:x < -1
 ·rw [badRow i r hr fun h=>(h.2 x hin).1 d1]
  simp (maxSteps:=2000000) [-getElem?_pos,gp,show (k:Int)<a.sy by omega,hr,hxk,d1]
 by_cases d2:(n:Int)≤x
 ·rw [badRow i r hr fun h=>(h.2 x hin).2 d2]
  simp (maxSteps:=2000000) [-getElem?_pos,gp,show (k:Int)<a.sy by omega,hr,hxk,d1,d2]
 have ih':=ih2 (k+1) ⟨by omega,fun j y hj hy=>by
  by_cases h:j=k
  ·subst h;rw [hxk] at hy;cases hy;exact ⟨d1,d2⟩
  ·exact hkt j y (by omega) hy⟩ (by omega)
 simp (maxSteps:=2000000) [-getElem?_pos] at ih'
 simp (maxSteps:=2000000) [-getElem?_pos,gp,show (k:Int)<a.sy by omega,hr,hxk,d1,d2,wrap_succ (show k+1≤9223372036854775807 by omega)]
 exact ih'
theorem w66 (a b:List Int) (ha:a.length<1152921504606846976) (hb:b.length<1152921504606846976) (base:Nat) (D:DH):callD Q 66 [rowD a,rowD b] base D=some (boolD (decide (a=b)),D):=by
 rw [call_pure (fn:=Tryz.f66) (show Q.P.funcs[66]? =some Tryz.f66 from Tryz.func66) rfl ann66 rfl (by simp only [List.length_cons,List.length_nil];decide) (by kernel_rfl)]
 have gp:=gp66
 simp only [ann66,Tryz.f66,gpB_some,gpC_draw,gpC_reg,gpC_seq,gpC_cond,gpC_block,gpC_loop,gpC_range,gpC_skip,gpC_ret,gpC_exit,gpC_label,gpO_some,gpO_none,findN,Bool.and_eq_true,Bool.and_true,Bool.true_and,reduceIte,Nat.reduceEqDiff,true_and,and_true] at gp
 by_cases hl:a.length=b.length
 case neg=>
  simp (maxSteps:=2000000) [-getElem?_pos,gp,hl]
  exact fun h=>hl (by rw [h])
 simp (maxSteps:=2000000) [-getElem?_pos,gp,hl]
 generalize hs7:SD.mk _ _=sd7
 revert sd7
 refine wl (fun i:Nat=>⟨(((Trie.leaf.put 13 (intD i)).put 12 (intD b.length)).put 1 (rowD b)).put 0 (rowD a),D⟩) (fun i=>i≤b.length∧a.take i=b.take i) (fun i=>b.length-i) ?_ 0 ⟨by omega,by simp [-getElem?_pos]⟩
 intro i ⟨hi,ht⟩ ih
 rw [loopG_eq]
 by_cases hlt:i<b.length
 ·obtain ⟨x,hx⟩:∃ x,a[i]? =some x:=⟨_,List.getElem?_eq_getElem (by omega)⟩
  obtain ⟨y,hy⟩:∃ x,b[i]? =some x:=⟨_,List.getElem?_eq_getElem hlt⟩
  by_cases hxy:x=y
  ·have hn:List.take (i+1) a=List.take (i+1) b:=by rw [List.take_add_one,List.take_add_one,ht,hx,hy,hxy]
   have ih':=ih (i+1) ⟨by omega,hn⟩ (by omega)
   simp (maxSteps:=2000000) [-getElem?_pos] at ih'
   simp (maxSteps:=2000000) [-getElem?_pos,gp,hl,hlt,hx,hy,hxy,wrap_succ (show i+1≤9223372036854775807 by omega)]
   exact ih'
  ·simp (maxSteps:=2000000) [-getElem?_pos,gp,hl,hlt,hx,hy,hxy]
   rintro rfl
   rw [hx] at hy
   exact hxy (Option.some.inj hy)
 ·simp (maxSteps:=2000000) [-getElem?_pos,gp,hl,hlt]
  rw [List.take_of_length_le (by omega),List.take_of_length_le (by omega)] at ht
  exact ht
theorem w64 (a b:List Bool) (ha:a.length<1152921504606846976) (hb:b.length<1152921504606846976) (base:Nat) (D:DH):callD Q 64 [.f (.lst (a.map bitF)),.f (.lst (b.map bitF))] base D=some (boolD (decide (a=b)),D):=by
 rw [call_pure (fn:=Tryz.f64) (show Q.P.funcs[64]? =some Tryz.f64 from Tryz.func64) rfl ann64 rfl (by simp only [List.length_cons,List.length_nil];decide) (by kernel_rfl)]
 have gp:=gp64
 simp only [ann64,Tryz.f64,gpB_some,gpC_draw,gpC_reg,gpC_seq,gpC_cond,gpC_block,gpC_loop,gpC_range,gpC_skip,gpC_ret,gpC_exit,gpC_label,gpO_some,gpO_none,findN,Bool.and_eq_true,Bool.and_true,Bool.true_and,reduceIte,Nat.reduceEqDiff,true_and,and_true] at gp
 by_cases hl:a.length=b.length
 case neg=>
  simp (maxSteps:=2000000) [-getElem?_pos,gp,hl]
  exact fun h=>hl (by rw [h])
 simp (maxSteps:=2000000) [-getElem?_pos,gp,hl]
 generalize hs8:SD.mk _ _=sd8
 revert sd8
 refine wl (fun i:Nat=>⟨(((Trie.leaf.put 13 (intD i)).put 12 (intD b.length)).put 1 (.f (.lst (b.map bitF)))).put 0 (.f (.lst (a.map bitF))),D⟩) (fun i=>i≤b.length∧a.take i=b.take i) (fun i=>b.length-i) ?_ 0 ⟨by omega,by simp [-getElem?_pos]⟩
 intro i ⟨hi,ht⟩ ih
 rw [loopG_eq]
 by_cases hlt:i<b.length
 ·obtain ⟨x,hx⟩:∃ x,a[i]? =some x:=⟨_,List.getElem?_eq_getElem (by omega)⟩
  obtain ⟨y,hy⟩:∃ x,b[i]? =some x:=⟨_,List.getElem?_eq_getElem hlt⟩
  by_cases hxy:x=y
  ·have hn:List.take (i+1) a=List.take (i+1) b:=by rw [List.take_add_one,List.take_add_one,ht,hx,hy,hxy]
   have ih':=ih (i+1) ⟨by omega,hn⟩ (by omega)
   simp (maxSteps:=2000000) [-getElem?_pos] at ih'
   simp (maxSteps:=2000000) [-getElem?_pos,gp,hl,hlt,hx,hy,hxy,wrap_succ (show i+1≤9223372036854775807 by omega)]
   exact ih'
  ·have:a≠b:=fun h=>hxy (by rw [h,hy] at hx;exact (Option.some.inj hx).symm)
   cases x<;>cases y<;>first
    | exact absurd rfl hxy
    | simp (maxSteps:=2000000) [-getElem?_pos,gp,hl,hlt,hx,hy,this]
 ·simp (maxSteps:=2000000) [-getElem?_pos,gp,hl,hlt]
  rw [List.take_of_length_le (by omega),List.take_of_length_le (by omega)] at ht
  exact ht
theorem c66 {a b:List Int} (ha:a.length<1152921504606846976) (hb:b.length<1152921504606846976) {base:Nat} {D:DH}:callD Q 66 [.f (.lst (a.map intF)),.f (.lst (b.map intF))] base D=some (.f (.raw (.bool (decide (a=b)))),D):=w66 a b ha hb base D
theorem c64 {a b:List Bool} (ha:a.length<1152921504606846976) (hb:b.length<1152921504606846976) {base:Nat} {D:DH}:callD Q 64 [.f (.lst (a.map bitF)),.f (.lst (b.map bitF))] base D=some (.f (.raw (.bool (decide (a=b)))),D):=w64 a b ha hb base D
theorem w65 (a b:List (List Int)) (ha:a.length<1152921504606846976) (hb:b.length<1152921504606846976) (hra:∀ r∈a,r.length<1152921504606846976) (hrb:∀ r∈b,r.length<1152921504606846976) (base:Nat) (D:DH):callD Q 65 [.f (.lst (a.map rowF)),.f (.lst (b.map rowF)),.fn 66 [] []] base D=some (boolD (decide (a=b)),D):=by
 rw [call_pure (fn:=Tryz.f65) (show Q.P.funcs[65]? =some Tryz.f65 from Tryz.func65) rfl ann65 rfl (by simp only [List.length_cons,List.length_nil];decide) (by kernel_rfl)]
 have gp:=gp65
 simp only [ann65,Tryz.f65,gpB_some,gpC_draw,gpC_reg,gpC_seq,gpC_cond,gpC_block,gpC_loop,gpC_range,gpC_skip,gpC_ret,gpC_exit,gpC_label,gpO_some,gpO_none,findN,Bool.and_eq_true,Bool.and_true,Bool.true_and,reduceIte,Nat.reduceEqDiff,true_and,and_true] at gp
 by_cases hl:a.length=b.length
 case neg=>
  simp (maxSteps:=2000000) [-getElem?_pos,gp,hl]
  exact fun h=>hl (by rw [h])
 simp (maxSteps:=2000000) [-getElem?_pos,gp,hl]
 generalize hs9:SD.mk _ _=sd9
 revert sd9
 refine wl (fun i:Nat=>⟨((((Trie.leaf.put 17 (intD i)).put 16 (intD b.length)).put 15 (.f (.lst (a.map rowF)))).put 2 (.fn 66 [] [])).put 1 (.f (.lst (b.map rowF))),D⟩) (fun i=>i≤b.length∧a.take i=b.take i) (fun i=>b.length-i) ?_ 0 ⟨by omega,by simp [-getElem?_pos]⟩
 intro i ⟨hi,ht⟩ ih
 rw [loopG_eq]
 by_cases hlt:i<b.length
 ·obtain ⟨x,hx⟩:∃ x,a[i]? =some x:=⟨_,List.getElem?_eq_getElem (by omega)⟩
  obtain ⟨y,hy⟩:∃ x,b[i]? =some x:=⟨_,List.getElem?_eq_getElem hlt⟩
  have hxa:=hra x (List.mem_of_getElem? hx)
  have hxb:=hrb y (List.mem_of_getElem? hy)
  by_cases hxy:x=y
  ·have hn:List.take (i+1) a=List.take (i+1) b:=by rw [List.take_add_one,List.take_add_one,ht,hx,hy,hxy]
   have ih':=ih (i+1) ⟨by omega,hn⟩ (by omega)
   simp (maxSteps:=2000000) [-getElem?_pos] at ih'
   simp (maxSteps:=2000000) [-getElem?_pos,gp,hl,hlt,hx,hy,hxy,c66,hxa,hxb,wrap_succ (show i+1≤9223372036854775807 by omega)]
   exact ih'
  ·have:a≠b:=fun h=>hxy (by rw [h,hy] at hx;exact (Option.some.inj hx).symm)
   simp (maxSteps:=2000000) [-getElem?_pos,gp,hl,hlt,hx,hy,hxy,c66,hxa,hxb,this]
 ·simp (maxSteps:=2000000) [-getElem?_pos,gp,hl,hlt]
  rw [List.take_of_length_le (by omega),List.take_of_length_le (by omega)] at ht
  exact ht
theorem c65 {a b:List (List Int)} (ha:a.length<1152921504606846976) (hb:b.length<1152921504606846976) (hra:∀ r∈a,r.length<1152921504606846976) (hrb:∀ r∈b,r.length<1152921504606846976) {base:Nat} {D:DH}:callD Q 65 [.f (.lst (a.map rowF)),.f (.lst (b.map rowF)),.fn 66 [] []] base D=some (.f (.raw (.bool (decide (a=b)))),D):=w65 a b ha hb hra hrb base D
theorem w25 (a b:Aut) (ha:a.acc.length<1152921504606846976) (hb:b.acc.length<1152921504606846976) (hn:a.nxt.length<1152921504606846976) (hm:b.nxt.length<1152921504606846976) (hra:∀ r∈a.nxt,r.length<1152921504606846976) (hrb:∀ r∈b.nxt,r.length<1152921504606846976) (base:Nat) (D:DH):callD Q 25 [autD a,autD b] base D=some (boolD (sameA a b),D):=by
 rw [call_pure (fn:=Tryz.f25) (show Q.P.funcs[25]? =some Tryz.f25 from Tryz.func25) rfl ann25 rfl (by simp only [List.length_cons,List.length_nil];decide) (by kernel_rfl)]
 have gp:=gp25
 simp only [ann25,Tryz.f25,gpB_some,gpC_draw,gpC_reg,gpC_seq,gpC_cond,gpC_block,gpC_loop,gpC_range,gpC_skip,gpC_ret,gpC_exit,gpC_label,gpO_some,gpO_none,findN,Bool.and_eq_true,Bool.and_true,Bool.true_and,reduceIte,Nat.reduceEqDiff,true_and,and_true] at gp
 have hsm:sameA a b=(decide (a.sy=b.sy)&&(decide (a.st=b.st)&&(decide (a.acc=b.acc)&&decide (a.nxt=b.nxt)))):=by simp [-getElem?_pos,sameA]
 rw [hsm]
 by_cases c1:a.sy=b.sy
 case neg=>simp (maxSteps:=2000000) [-getElem?_pos,gp,c1]
 by_cases c2:a.st=b.st
 case neg=>simp (maxSteps:=2000000) [-getElem?_pos,gp,c1,c2]
 by_cases c3:a.acc=b.acc
 case neg=>simp (maxSteps:=2000000) [-getElem?_pos,gp,c1,c2,c3,c64,ha,hb]
 simp (maxSteps:=2000000) [-getElem?_pos,gp,c1,c2,c3,c64,ha,hb,c65 hn hm hra hrb]
end Go.Dv
namespace Go.Dv
open Go Go.Sim Go.Proofs Go.Fsa
attribute [local simp] bitF autD b_neqB b_eqlB
def FnB (g:FuncId) (a b:List DV) (D:DH) (p:Int→Bool):Prop:=belows D.length a=true∧belows D.length b=true∧∀ (x:Int) (base:Nat),callD Q g (a++.f (.raw (.int .i64 x))::b) base D=some (.f (.raw (.bool (p x))),D)
theorem w120 (l:List Int) (hl:l.length<1152921504606846976) (g:FuncId) (a b:List DV) (p:Int→Bool) (base:Nat) (D:DH) (hp:FnB g a b D p):callD Q 120 [rowD l,.fn g a b] base D=some (intD (((l.findIdx? p).map fun n=>(n:Int)).getD (-1)),D):=by
 obtain ⟨ka,kb,hp⟩:=hp
 rw [call_pure (fn:=Tryz.f120) (show Q.P.funcs[120]? =some Tryz.f120 from Tryz.func120) rfl ann120 rfl (by simp only [List.length_cons,List.length_nil];decide) (by kernel_rfl)]
 have gp:=gp120
 simp only [ann120,Tryz.f120,gpB_some,gpC_draw,gpC_reg,gpC_seq,gpC_cond,gpC_block,gpC_loop,gpC_range,gpC_skip,gpC_ret,gpC_exit,gpC_label,gpO_some,gpO_none,findN,Bool.and_eq_true,Bool.and_true,Bool.true_and,reduceIte,Nat.reduceEqDiff,true_and,and_true] at gp
 simp (maxSteps:=2000000) [-getElem?_pos,gp,ka,kb]
 generalize hs10:SD.mk _ _=sd10
 revert sd10
 refine wl (fun i:Nat=>⟨(((Trie.leaf.put 8 (intD i)).put 7 (intD l.length)).put 1 (.fn g a b)).put 0 (rowD l),D⟩) (fun i=>i≤l.length∧∀ j x,j<i→l[j]? =some x→p x=false) (fun i=>l.length-i) ?_ 0 ⟨by omega,fun j x h=>by omega⟩
 intro i ⟨hi,ht⟩ ih
 rw [loopG_eq]
 by_cases hlt:i<l.length
 ·obtain ⟨x,hx⟩:∃ x,l[i]? =some x:=⟨_,List.getElem?_eq_getElem hlt⟩
  cases hpx:p x with
  | false=>
   have ih':=ih (i+1) ⟨by omega,fun j y hj hy=>by
    by_cases h:j=i
    ·subst h;rw [hx] at hy;cases hy;exact hpx
    ·exact ht j y (by omega) hy⟩ (by omega)
   simp (maxSteps:=2000000) [-getElem?_pos] at ih'
   simp (maxSteps:=2000000) [-getElem?_pos,gp,ka,kb,hlt,hx,hp x,hpx,wrap_succ (show i+1≤9223372036854775807 by omega)]
   exact ih'
  | true=>
   have hf:l.findIdx? p=some i:=by
    rw [List.findIdx?_eq_some_iff_getElem]
    rw [List.getElem?_eq_getElem hlt,Option.some.injEq] at hx
    exact ⟨hlt,by rw [hx];exact hpx,fun j hj=>by rw [ht j _ hj (List.getElem?_eq_getElem (by omega))];simp [-getElem?_pos]⟩
   simp (maxSteps:=2000000) [-getElem?_pos,gp,ka,kb,hlt,hx,hp x,hpx,hf]
 ·have hf:l.findIdx? p=none:=by
   rw [List.findIdx?_eq_none_iff]
   intro x hx
   obtain ⟨j,hj,rfl⟩:=List.getElem_of_mem hx
   exact ht j _ (by omega) (List.getElem?_eq_getElem hj)
  simp (maxSteps:=2000000) [-getElem?_pos,gp,hlt,hf]
theorem c120 {l:List Int} (hl:l.length<1152921504606846976) {g:FuncId} {a b:List DV} {p:Int→Bool} {base:Nat} {D:DH} (hp:FnB g a b D p):callD Q 120 [.f (.lst (l.map intF)),.fn g a b] base D=some (.f (.raw (.int .i64 (((l.findIdx? p).map fun n=>(n:Int)).getD (-1)))),D):=w120 l hl g a b p base D hp
theorem w73 (l:List Int) (hl:l.length<1152921504606846976) (g:FuncId) (a b:List DV) (p:Int→Bool) (base:Nat) (D:DH) (hp:FnB g a b D p):callD Q 73 [rowD l,.fn g a b] base D=some (boolD (l.any p),D):=by
 rw [call_pure (fn:=Tryz.f73) (show Q.P.funcs[73]? =some Tryz.f73 from Tryz.func73) rfl ann73 rfl (by simp only [List.length_cons,List.length_nil];decide) (by kernel_rfl)]
 have gp:=gp73
 simp only [ann73,Tryz.f73,gpB_some,gpC_draw,gpC_reg,gpC_seq,gpC_cond,gpC_block,gpC_loop,gpC_range,gpC_skip,gpC_ret,gpC_exit,gpC_label,gpO_some,gpO_none,findN,Bool.and_eq_true,Bool.and_true,Bool.true_and,reduceIte,Nat.reduceEqDiff,true_and,and_true] at gp
 cases h:l.findIdx? p with
 | none=>
  have:l.any p=false:=by
   rw [List.findIdx?_eq_none_iff] at h
   simpa [-getElem?_pos] using h
  simp (maxSteps:=2000000) [-getElem?_pos,gp,c120 hl hp,h,this]
 | some i=>
  have:l.any p=true:=by
   rw [List.findIdx?_eq_some_iff_getElem] at h
   obtain ⟨h1,h2,_⟩:=h
   exact List.any_eq_true.2 ⟨_,List.getElem_mem h1,h2⟩
  simp (maxSteps:=2000000) [-getElem?_pos,gp,c120 hl hp,h,this]
theorem c73 {l:List Int} (hl:l.length<1152921504606846976) {g:FuncId} {a b:List DV} {p:Int→Bool} {base:Nat} {D:DH} (hp:FnB g a b D p):callD Q 73 [.f (.lst (l.map intF)),.fn g a b] base D=some (.f (.raw (.bool (l.any p))),D):=w73 l hl g a b p base D hp
theorem w108 (D:DH) (sy:Int):FnB 108 [] [.ref D.length 0 0] (D++[.arr 1 [.f (.raw (.int .i64 sy))]]) (fun x=>decide (x<0∨sy≤x)):=by
 refine ⟨by simp [-getElem?_pos],by simp [-getElem?_pos],fun x base=>?_⟩
 rw [List.nil_append]
 rw [call_pure (fn:=Tryz.f108) (show Q.P.funcs[108]? =some Tryz.f108 from Tryz.func108) rfl ann108 rfl (by simp only [List.length_cons,List.length_nil];decide) (by kernel_rfl)]
 have gp:=gp108
 simp only [ann108,Tryz.f108,gpB_some,gpC_draw,gpC_reg,gpC_seq,gpC_cond,gpC_block,gpC_loop,gpC_range,gpC_skip,gpC_ret,gpC_exit,gpC_label,gpO_some,gpO_none,findN,Bool.and_eq_true,Bool.and_true,Bool.true_and,reduceIte,Nat.reduceEqDiff,true_and,and_true] at gp
 by_cases h:x<0
 ·simp (maxSteps:=2000000) [-getElem?_pos,gp,h]
 by_cases h2:sy≤x
 ·simp (maxSteps:=2000000) [-getElem?_pos,gp,h,h2]
 simp (maxSteps:=2000000) [-getElem?_pos,gp,h,h2]
theorem w60 (sy:Int) (l:List Int) (hl:l.length<1152921504606846976) (base:Nat) (D:DH):callD Q 60 [intD sy,rowD l] base D=some (boolD !(l.any fun x=>decide (x<0∨sy≤x)),D):=by
 rw [call_pure (fn:=Tryz.f60) (show Q.P.funcs[60]? =some Tryz.f60 from Tryz.func60) rfl ann60 rfl (by simp only [List.length_cons,List.length_nil];decide) (by kernel_rfl)]
 have gp:=gp60
 simp only [ann60,Tryz.f60,gpB_some,gpC_draw,gpC_reg,gpC_seq,gpC_cond,gpC_block,gpC_loop,gpC_range,gpC_skip,gpC_ret,gpC_exit,gpC_label,gpO_some,gpO_none,findN,Bool.and_eq_true,Bool.and_true,Bool.true_and,reduceIte,Nat.reduceEqDiff,true_and,and_true] at gp
 simp (maxSteps:=2000000) [-getElem?_pos,gp,c73 hl (w108 D sy)]
theorem c18 {sy st:Int} {acc:List Bool} {nxt:List (List Int)} {base:Nat} {D:DH} (h:nxt.length<1152921504606846976):callD Q 18 [.agg [.f (.raw (.int .i64 sy)),.f (.raw (.int .i64 st)),.f (.lst (acc.map bitF)),.f (.lst (nxt.map rowF))]] base D=some (.f (.raw (.int .i64 (Aut.check ⟨sy,st,acc,nxt⟩))),D):=w18 ⟨sy,st,acc,nxt⟩ h base D
theorem c60 {sy:Int} {l:List Int} (hl:l.length<1152921504606846976) {base:Nat} {D:DH}:callD Q 60 [.f (.raw (.int .i64 sy)),.f (.lst (l.map intF))] base D=some (.f (.raw (.bool !(l.any fun x=>decide (x<0∨sy≤x)))),D):=w60 sy l hl base D
theorem w16 (a:Aut) (f:Int) (w:List Int) (ha:a.nxt.length<1152921504606846976) (hw:w.length<1152921504606846976) (base:Nat) (D:DH):callD Q 16 [autD a,intD f,rowD w] base D=some (optD (a.lead f w),D):=by
 rw [call_pure (fn:=Tryz.f16) (show Q.P.funcs[16]? =some Tryz.f16 from Tryz.func16) rfl ann16 rfl (by simp only [List.length_cons,List.length_nil];decide) (by kernel_rfl)]
 have gp:=gp16
 simp only [ann16,Tryz.f16,gpB_some,gpC_draw,gpC_reg,gpC_seq,gpC_cond,gpC_block,gpC_loop,gpC_range,gpC_skip,gpC_ret,gpC_exit,gpC_label,gpO_some,gpO_none,findN,Bool.and_eq_true,Bool.and_true,Bool.true_and,reduceIte,Nat.reduceEqDiff,true_and,and_true] at gp
 by_cases hv:a.valid
 case neg=>
  have hc:a.check=60:=by simp [-getElem?_pos,Aut.check,hv]
  rw [show a.lead f w=none by simp [-getElem?_pos,Aut.lead,hc]]
  simp (maxSteps:=2000000) [-getElem?_pos,gp,c18,ha,hc,optD]
 have hc:a.check=0:=Aut.check_valid.2 hv
 have hlen:=hv.len
 by_cases h0:f<0
 ·rw [show a.lead f w=none by simp [-getElem?_pos,Aut.lead,show ¬0≤f by omega]]
  simp (maxSteps:=2000000) [-getElem?_pos,gp,c18,ha,hc,h0,optD]
 by_cases h1:(a.acc.length:Int)≤f
 ·rw [show a.lead f w=none by simp [-getElem?_pos,Aut.lead,show ¬f<(a.nxt.length:Nat) by omega]]
  simp (maxSteps:=2000000) [-getElem?_pos,gp,c18,ha,hc,h0,h1,optD]
 rw [show a.lead f w=a.run f w by simp [-getElem?_pos,Aut.lead,hc,show f<(a.nxt.length:Nat) by omega,show 0≤f by omega]]
 cases hb:w.any fun x=>decide (x<0∨a.sy≤x) with
 | true=>
  rw [Aut.run_word hb]
  simp (maxSteps:=2000000) [-getElem?_pos,gp,c18,ha,hc,h0,h1,c60 hw,hb,optD,-Bool.decide_or]
 | false=>
 have hgd:∀ i x,w[i]? =some x→¬x<0∧¬a.sy≤x:=fun i x hx=>by
  have:=List.any_eq_false.1 hb x (List.mem_of_getElem? hx)
  simp only [decide_eq_true_eq] at this
  omega
 simp (maxSteps:=2000000) [-getElem?_pos,gp,c18,ha,hc,h0,h1,c60 hw,hb,-Bool.decide_or]
 generalize hs11:SD.mk _ _=sd11
 revert sd11
 refine wl (fun p:Nat×Int=>⟨((((Trie.leaf.put 33 (intD p.1)).put 32 (intD w.length)).put 31 (rowD w)).put 3 (.ref D.length 0 0)).put 1 (intD p.2),D++[.arr 4 [autD a]]⟩) (fun p=>p.1≤w.length∧0≤p.2∧p.2<(a.nxt.length:Nat)∧a.run f w=a.run p.2 (w.drop p.1)) (fun p=>w.length-p.1) ?_ (0,f) ⟨by simp [-getElem?_pos],by omega,by omega,by simp [-getElem?_pos]⟩
 rintro ⟨i,s⟩ ⟨hi,hd0,hd1,hr⟩ ih
 simp only at hi hd0 hd1 hr ih
 rw [loopG_eq]
 by_cases hlt:i<w.length
 case neg=>
  rw [hr,List.drop_of_length_le (by omega)]
  simp (maxSteps:=2000000) [-getElem?_pos,gp,hlt,show ¬s<0 by omega,Aut.run,optD]
 obtain ⟨c,hcx⟩:∃ c,w[i]? =some c:=⟨_,List.getElem?_eq_getElem hlt⟩
 obtain ⟨d1,d2⟩:=hgd i c hcx
 have hrr:a.run s (w.drop i)=a.run (a.go s c.toNat) (w.drop (i+1)):=by
  rw [List.drop_eq_getElem_cons hlt]
  rw [List.getElem?_eq_getElem hlt,Option.some.injEq] at hcx
  rw [hcx]
  show (if c<0∨a.sy≤c then none else a.run (a.go s c.toNat) (w.drop (i+1)))=_
  rw [if_neg (by omega)]
 obtain ⟨n,rfl⟩:∃ n:Nat,c=n:=⟨c.toNat,by omega⟩
 obtain ⟨m,rfl⟩:∃ m:Nat,s=m:=⟨s.toNat,by omega⟩
 obtain ⟨r,h3,h4⟩:=a.go_some hv (s:=m) (c:=n) (by omega) hd1 (by omega)
 rw [Int.toNat_natCast] at h3 hrr
 by_cases hg:a.go m n<0
 ·rw [hr,hrr,Aut.run_neg hg]
  simp (maxSteps:=2000000) [-getElem?_pos,gp,hlt,hcx,h3,h4,hg,optD]
 have ih':=ih (i+1,a.go m n) ⟨by omega,by simp only;omega,(Aut.go_dom (x:=m) (c:=n) hv).2,by rw [hr,hrr]⟩ (by simp only;omega)
 simp (maxSteps:=2000000) [-getElem?_pos] at ih'
 simp (maxSteps:=2000000) [-getElem?_pos,gp,hlt,hcx,h3,h4,hg,wrap_succ (show i+1≤9223372036854775807 by omega)]
 exact ih'
theorem c16 {sy st f:Int} {acc:List Bool} {nxt:List (List Int)} {w:List Int} {base:Nat} {D:DH} (ha:nxt.length<1152921504606846976) (hw:w.length<1152921504606846976):callD Q 16 [.agg [.f (.raw (.int .i64 sy)),.f (.raw (.int .i64 st)),.f (.lst (acc.map bitF)),.f (.lst (nxt.map rowF))],.f (.raw (.int .i64 f)),.f (.lst (w.map intF))] base D=some (optD (Aut.lead ⟨sy,st,acc,nxt⟩ f w),D):=w16 ⟨sy,st,acc,nxt⟩ f w ha hw base D
theorem w20 (a:Aut) (w:List Int) (ha:a.nxt.length<1152921504606846976) (hw:w.length<1152921504606846976) (base:Nat) (D:DH):callD Q 20 [autD a,rowD w] base D=some (boolD (a.accepts w),D):=by
 rw [call_pure (fn:=Tryz.f20) (show Q.P.funcs[20]? =some Tryz.f20 from Tryz.func20) rfl ann20 rfl (by simp only [List.length_cons,List.length_nil];decide) (by kernel_rfl)]
 have gp:=gp20
 simp only [ann20,Tryz.f20,gpB_some,gpC_draw,gpC_reg,gpC_seq,gpC_cond,gpC_block,gpC_loop,gpC_range,gpC_skip,gpC_ret,gpC_exit,gpC_label,gpO_some,gpO_none,findN,Bool.and_eq_true,Bool.and_true,Bool.true_and,reduceIte,Nat.reduceEqDiff,true_and,and_true] at gp
 cases hl:a.lead a.st w with
 | none=>
  rw [show a.accepts w=false by simp [-getElem?_pos,Aut.accepts,hl]]
  simp (maxSteps:=2000000) [-getElem?_pos,gp,c16 ha hw,hl,optD]
 | some s=>
  have hs:a.valid∧0≤s∧s<(a.nxt.length:Nat):=by
   have:=hl
   simp only [Aut.lead] at this
   split at this
   ·rename_i g
    have hv:=Aut.check_valid.1 g.1
    exact ⟨hv,Aut.run_dom hv ⟨by omega,g.2.2⟩ this⟩
   ·cases this
  obtain ⟨hv,h0,h1⟩:=hs
  obtain ⟨m,rfl⟩:∃ m:Nat,s=m:=⟨s.toNat,by omega⟩
  obtain ⟨b,hb⟩:∃ b,a.acc[m]? =some b:=⟨_,List.getElem?_eq_getElem (by have:=hv.len;omega)⟩
  rw [show a.accepts w=b by simp [-getElem?_pos,Aut.accepts,hl,hb]]
  simp (maxSteps:=2000000) [-getElem?_pos,gp,c16 ha hw,hl,optD,hb]
end Go.Dv
set_option maxHeartbeats 2000000
namespace Go.Dv
open Go Go.Sim Go.Proofs Go.Fsa
attribute [local simp] bitF autD b_neqB b_eqlB
def bitD (b:Bool):DV:=.f (.raw (.bool b))
theorem el_bit {l:List Bool}:List.map (elD ∘ bitF) l=l.map bitD:=rfl
theorem set_bit {l:List Bool} {i:Nat} {b:Bool}:(l.map bitD).set i (.f (.raw (.bool b)))=(l.set i b).map bitD:=set_map (f:=bitD)
theorem fz_bit {b:Nat} {D:DH} {l:List Bool}:frzL (frz b D 3) (l.map bitD)=some (l.map bitF,[]):=fzL_map fun _=>rfl
attribute [local simp] el_bit set_bit fz_bit bitD
end Go.Dv
namespace Go.Dv
open Go Go.Sim Go.Proofs Go.Fsa
attribute [local simp] bitF autD b_neqB b_eqlB
theorem w89 (a:Aut) (base:Nat) (D:DH):callD Q 89 [autD a] base D=some (intD a.begin,D):=by
 rw [call_pure (fn:=Tryz.f89) (show Q.P.funcs[89]? =some Tryz.f89 from Tryz.func89) rfl ann89 rfl (by simp only [List.length_cons,List.length_nil];decide) (by kernel_rfl)]
 have gp:=gp89
 simp only [ann89,Tryz.f89,gpB_some,gpC_draw,gpC_reg,gpC_seq,gpC_cond,gpC_block,gpC_loop,gpC_range,gpC_skip,gpC_ret,gpC_exit,gpC_label,gpO_some,gpO_none,findN,Bool.and_eq_true,Bool.and_true,Bool.true_and,reduceIte,Nat.reduceEqDiff,true_and,and_true] at gp
 by_cases h:a.acc.length=0
 ·simp (maxSteps:=2000000) [-getElem?_pos,gp,h,Aut.begin]
 ·obtain ⟨n,hn⟩:∃ n,a.acc.length=n+1:=⟨a.acc.length-1,by omega⟩
  simp (maxSteps:=2000000) [-getElem?_pos,gp,hn,Aut.begin,show ¬((n:Int)+1=0) by omega]
theorem w91 (a:Aut) (hv:a.valid) (s:Int) (hs:s<(a.nxt.length:Nat)) (c:Nat) (hc:(c:Int)<a.sy) (base:Nat) (D:DH):callD Q 91 [autD a,intD s,intD c] base D=some (intD (a.go s c),D):=by
 rw [call_pure (fn:=Tryz.f91) (show Q.P.funcs[91]? =some Tryz.f91 from Tryz.func91) rfl ann91 rfl (by simp only [List.length_cons,List.length_nil];decide) (by kernel_rfl)]
 have gp:=gp91
 simp only [ann91,Tryz.f91,gpB_some,gpC_draw,gpC_reg,gpC_seq,gpC_cond,gpC_block,gpC_loop,gpC_range,gpC_skip,gpC_ret,gpC_exit,gpC_label,gpO_some,gpO_none,findN,Bool.and_eq_true,Bool.and_true,Bool.true_and,reduceIte,Nat.reduceEqDiff,true_and,and_true] at gp
 by_cases h:s<0
 ·rw [Aut.go_neg h]
  simp (maxSteps:=2000000) [-getElem?_pos,gp,h]
 ·obtain ⟨n,rfl⟩:∃ n:Nat,s=n:=⟨s.toNat,by omega⟩
  obtain ⟨r,h1,h2⟩:=a.go_some hv (by omega) hs hc
  rw [Int.toNat_natCast] at h1
  simp (maxSteps:=2000000) [-getElem?_pos,gp,h,h1,h2]
theorem c91 {sy st:Int} {acc:List Bool} {nxt:List (List Int)} {s:Int} {c:Nat} {base:Nat} {D:DH} (hv:Aut.valid ⟨sy,st,acc,nxt⟩) (hs:s<(nxt.length:Nat)) (hc:(c:Int)<sy):callD Q 91 [.agg [.f (.raw (.int .i64 sy)),.f (.raw (.int .i64 st)),.f (.lst (acc.map bitF)),.f (.lst (nxt.map rowF))],.f (.raw (.int .i64 s)),.f (.raw (.int .i64 c))] base D=some (.f (.raw (.int .i64 (Aut.go ⟨sy,st,acc,nxt⟩ s c))),D):=w91 ⟨sy,st,acc,nxt⟩ hv s hs c hc base D
theorem w111 (a:Aut) (hv:a.valid) (s:Int) (hs:s<(a.nxt.length:Nat)) (c:Nat) (hc:(c:Int)<a.sy) (base o:Nat) (D:DH) (ho:D[o]? =some (.arr 4 [autD a])):callD Q 111 [intD s,intD c,.ref o 0 0] base D=some (.tup [intD (a.go s c),boolD true],D):=by
 rw [call_pure (fn:=Tryz.f111) (show Q.P.funcs[111]? =some Tryz.f111 from Tryz.func111) rfl ann111 rfl (by simp only [List.length_cons,List.length_nil];decide) (by kernel_rfl)]
 have gp:=gp111
 simp only [ann111,Tryz.f111,gpB_some,gpC_draw,gpC_reg,gpC_seq,gpC_cond,gpC_block,gpC_loop,gpC_range,gpC_skip,gpC_ret,gpC_exit,gpC_label,gpO_some,gpO_none,findN,Bool.and_eq_true,Bool.and_true,Bool.true_and,reduceIte,Nat.reduceEqDiff,true_and,and_true] at gp
 simp (maxSteps:=2000000) [-getElem?_pos,gp,ho,c91,hv,hs,hc]
theorem w112 (a:Aut) (s:Int) (hs:s<(a.acc.length:Nat)) (base o:Nat) (D:DH) (ho:D[o]? =some (.arr 4 [autD a])):callD Q 112 [intD s,.ref o 0 0] base D=some (boolD (a.accB s),D):=by
 rw [call_pure (fn:=Tryz.f112) (show Q.P.funcs[112]? =some Tryz.f112 from Tryz.func112) rfl ann112 rfl (by simp only [List.length_cons,List.length_nil];decide) (by kernel_rfl)]
 have gp:=gp112
 simp only [ann112,Tryz.f112,gpB_some,gpC_draw,gpC_reg,gpC_seq,gpC_cond,gpC_block,gpC_loop,gpC_range,gpC_skip,gpC_ret,gpC_exit,gpC_label,gpO_some,gpO_none,findN,Bool.and_eq_true,Bool.and_true,Bool.true_and,reduceIte,Nat.reduceEqDiff,true_and,and_true] at gp
 by_cases h:0≤s
 ·obtain ⟨n,rfl⟩:∃ n:Nat,s=n:=⟨s.toNat,by omega⟩
  obtain ⟨b,hb⟩:∃ b,a.acc[n]? =some b:=⟨_,List.getElem?_eq_getElem (by omega)⟩
  simp (maxSteps:=2000000) [-getElem?_pos,gp,ho,hb,h,Aut.accB,show (0:Int)≤n by omega]
 ·simp (maxSteps:=2000000) [-getElem?_pos,gp,ho,h,Aut.accB]
end Go.Dv
namespace Go.Dv
open Go Go.Sim Go.Proofs Go.Fsa
attribute [local simp] bitF autD b_neqB b_eqlB
def numD (n:Int):DV:=.f (.raw (.int .i64 n))
theorem el_num {l:List Int}:List.map (elD ∘ intF) l=l.map numD:=rfl
theorem set_num {l:List Int} {i:Nat} {n:Int}:(l.map numD).set i (.f (.raw (.int .i64 n)))=(l.set i n).map numD:=set_map (f:=numD)
theorem fz_num {b:Nat} {D:DH} {l:List Int} {k:Nat}:frzL (frz b D (k+1)) (l.map numD)=some (l.map intF,[]):=fzL_map fun _=>rfl
theorem rep_num {n:Nat}:List.replicate n (DV.f (.raw (.int .i64 0)))=(List.replicate n (0:Int)).map numD:=by rw [List.map_replicate];rfl
attribute [local simp] el_num set_num fz_num numD
end Go.Dv
namespace Go.Dv
open Go Go.Sim Go.Proofs Go.Fsa
attribute [local simp] bitF autD b_neqB b_eqlB el_num set_num fz_num numD bitD el_bit set_bit fz_bit
def autO (a:Aut) (e:Int):DV:=.tup [autD a,intD e]
end Go.Dv
namespace Go.Dv
open Go Go.Sim Go.Proofs Go.Fsa
attribute [local simp] bitF autD b_neqB b_eqlB
end Go.Dv
namespace Go.Dv
open Go Go.Sim Go.Proofs Go.Fsa
attribute [local simp] encI bitF autD b_neqB b_eqlB el_num set_num fz_num numD bitD el_bit set_bit fz_bit
theorem key3:KeyD Tryz.prog 3 encI:=keyI (by kernel_rfl)
theorem w110 (sy most:Nat) (s0:Int) (succ:Int→List (Option Int)) (ac:Int→Bool) (dom:Int→Prop) (F:Nat) (qs:List Int) (rows:List (List Int))
  (g1 g2:FuncId) (a1 b1 a2 b2:List DV) (base:Nat) (D:DH)
  (hex:exR id succ most F 0 [s0]=some (qs,rows)) (h0:dom s0) (hdom:∀ s,dom s→∀ t,some t∈succ s→dom t) (hlen:∀ s,(succ s).length=sy)
  (hsy:sy≤400) (hmost:most≤200000) (h1m:1≤most) (hb:base≤D.length) (hob:(D.drop base).all (objBelow D.length)=true)
  (ha1:belows D.length a1=true) (hb1:belows D.length b1=true) (ha2:belows D.length a2=true) (hb2:belows D.length b2=true) (hraw:(Q.ann g2).raw=false)
  (hstep:∀ (x:Int) (c:Nat) (o:Option Int),dom x→(succ x)[c]? =some o→∃ y,(∀ X:DH,callD Q g1 (a1++[intD x,intD c]++b1) base (D++X)=some (.tup [intD y,boolD o.isSome],D++X))∧(o=some y∨o=none))
  (hacc:∀ (X:DH) (x:Int),dom x→callD Q g2 (a2++[intD x]++b2) base (D++X)=some (boolD (ac x),D++X)) :
  ∃ (O1 O2:DObj) (fi bs:List Int),callD Q 110 [intD sy,intD most,intD s0,.fn g1 a1 b1,.fn g2 a2 b2] base D=some (.tup [.ref D.length 0 0,boolD true],D++[.arr 5 [.agg [intD sy,.apl (D.length+5) qs.length,.apl (D.length+6) qs.length,qV (D.length+3) qs.length,qV (D.length+4) qs.length]],O1,O2,qO 3 1 (fi.map numD),qO 3 1 (bs.map numD),.app 4 1 ((qs.map ac).map bitD),.app 26 1 (rows.map rowD)]):=by
 rw [call_raw (fn:=Tryz.f110) (show Q.P.funcs[110]? =some Tryz.f110 from Tryz.func110) rfl ann110 rfl (by simp only [List.length_cons,List.length_nil];decide) (by kernel_rfl)]
 have gp:=gp110
 simp only [ann110,Tryz.f110,gpB_some,gpC_draw,gpC_reg,gpC_seq,gpC_cond,gpC_block,gpC_loop,gpC_range,gpC_skip,gpC_ret,gpC_exit,gpC_label,gpO_some,gpO_none,findN,Bool.and_eq_true,Bool.and_true,Bool.true_and,reduceIte,Nat.reduceEqDiff,true_and,and_true] at gp
 have hbk:∀ k,base≤D.length+k:=fun k=>by omega
 have hOK:∀ k X,objsOK base (D.length+k) (D++X)=(X.take k).all (objBelow (D.length+k)):=fun k X=>objsOK_raw hb hob
 have hbl:∀ (l:List DV) k,belows D.length l=true→belows (D.length+k) l=true:=fun l k h=>(below_le (Nat.le_add_right _ _)).2 l h
 have f0:findT Tryz.prog 3 (.int .i64 s0) (keyEs [])=some none:=key3.find [] s0
 have hbl:∀ k,belows (D.length+k) a1=true∧belows (D.length+k) b1=true∧belows (D.length+k) a2=true∧belows (D.length+k) b2=true:=fun k=>⟨hbl a1 k ha1,hbl b1 k hb1,hbl a2 k ha2,hbl b2 k hb2⟩
 simp (maxSteps:=2000000) [-getElem?_pos,-List.map_set,-objBelow,-depV,gp,hb,hbk,hOK,f0,(hbl _).1,(hbl _).2.1,(hbl _).2.2.1,(hbl _).2.2.2]
 generalize hX:loopG _ _ _=X
 obtain ⟨tm,O1,O2,fi,bs,rfl,t12⟩:∃ (tm:Trie DV) (O1 O2:DObj) (fi bs:List Int),X=some (.exit 0,⟨tm,D++[.arr 5 [.agg [intD sy,.apl (D.length+5) qs.length,.apl (D.length+6) qs.length,qV (D.length+3) qs.length,qV (D.length+4) qs.length]],O1,O2,qO 3 1 (fi.map numD),qO 3 1 (bs.map numD),.app 4 1 ((qs.map ac).map bitD),.app 26 1 (rows.map rowD)]⟩)∧tm.get 12=some (.ref D.length 0 0):=by
  rw [← hX]
  clear hX
  generalize hs24:SD.mk _ _=sd24
  revert sd24
  refine wl (fun p:Nat×Nat×List Int×List Int×List Int×List Int×List (List Int)×List Bool=>⟨(((((((Trie.leaf.put 15 (intD p.2.1)).put 14 (qV (D.length+2) p.2.2.1.length)).put 13 (.mp (D.length+1))).put 12 (.ref D.length 0 0)).put 4 (.fn g2 a2 b2)).put 3 (.fn g1 a1 b1)).put 1 (intD most)).put 0 (intD sy),D++[.arr 5 [.agg [intD sy,.apl (D.length+5) p.2.1,.apl (D.length+6) p.2.1,qV (D.length+3) p.2.2.1.length,qV (D.length+4) p.2.2.1.length]],.map (p.2.2.1.map encI) (p.2.2.2.1.map numD),qO 3 1 (p.2.2.1.map numD),qO 3 1 (p.2.2.2.2.1.map numD),qO 3 1 (p.2.2.2.2.2.1.map numD),.app 4 1 (p.2.2.2.2.2.2.2.map bitD),.app 26 1 (p.2.2.2.2.2.2.1.map rowD)]⟩)
   (fun p=>p.2.1≤p.2.2.1.length∧1≤p.2.2.1.length∧p.2.2.1.length≤most∧p.2.2.2.2.1.length=p.2.2.1.length∧p.2.2.2.2.2.1.length=p.2.2.1.length∧(p.2.2.2.1.length=p.2.2.1.length∧∀ j,j<p.2.2.1.length→p.2.2.2.1[j]? =some (j:Int))∧p.2.2.2.2.2.2.1.length=p.2.1∧p.2.2.2.2.2.2.2=(p.2.2.1.take p.2.1).map ac∧(∀ t∈p.2.2.1,dom t)∧∃ R,exR id succ most p.1 p.2.1 p.2.2.1=some (qs,R)∧p.2.2.2.2.2.2.1++R=rows)
   (fun p=>p.1) ?_ (F,0,[s0],[0],[-1],[-1],[],[]) ⟨Nat.zero_le _,Nat.le_refl _,h1m,rfl,rfl,⟨rfl,fun j h=>by cases j with | zero=>rfl | succ j=>simp [-getElem?_pos,-List.map_set,-objBelow,-depV] at h⟩,rfl,rfl,fun t ht=>by rw [List.mem_singleton] at ht;rw [ht];exact h0,rows,hex,rfl⟩
  clear hex
  rintro ⟨F,i,q,vs,fi,bs,R0,A⟩ ⟨hi,hq1,hqm,hfi,hbs,⟨hvl,hvs⟩,hR0,hA,hdq,R,hex,hR⟩ ih
  simp only at hi hq1 hqm hfi hbs hvl hvs hR0 hA hdq hex hR ih
  rw [loopG_eq]
  obtain ⟨F,rfl⟩:∃ F',F=F'+1:=by
   cases F with
   | zero=>simp [-getElem?_pos,-List.map_set,-objBelow,-depV,exR] at hex
   | succ F=>exact ⟨F,rfl⟩
  simp only [exR] at hex
  by_cases hlt:i<q.length
  ·obtain ⟨t,ht⟩:∃ t,q[i]? =some t:=⟨_,List.getElem?_eq_getElem hlt⟩
   have htd:=hdq t (List.mem_of_getElem? ht)
   rw [ht] at hex
   simp only at hex
   split at hex
   ·cases hex
   rename_i hqm'
   obtain ⟨⟨qf,R2⟩,hex2,heq⟩:=Option.map_eq_some_iff.1 hex
   simp only [Prod.mk.injEq] at heq
   obtain ⟨rfl,rfl⟩:=heq
   have hAl:A.length=i:=by rw [hA];simp [-getElem?_pos,-List.map_set,-objBelow,-depV];omega
   have hac:∀ X,callD Q g2 (a2++(DV.f (.raw (.int .i64 t))::b2)) base (D++X)=some (DV.f (.raw (.bool (ac t))),D++X):=fun X=>by
    have:=hacc X t htd
    rw [List.append_assoc] at this;exact this
   obtain ⟨q',hq'⟩:∃ q',q'=addS id q (succ t):=⟨_,rfl⟩
   simp (maxSteps:=2000000) [-getElem?_pos,-List.map_set,-objBelow,-depV,gp,hb,hbk,hOK,hbl,hlt,ht,hraw,hac,hAl,hR0,hfi,hbs,hvl,show i+1≤1099511627776 by omega,show i≤1099511627775 by omega,show sy*8≤140737488355328 by omega,show sy<9223372036854775808 by omega]
   have hre:succ t=(succ t).take sy:=(List.take_of_length_le (by rw [hlen];exact Nat.le_refl _)).symm
   rw [← hq'] at hex2 hqm'
   have hpre:∀ k,addS id q ((succ t).take k) <+: q':=fun k=>by
    rw [hq']
    conv=>rhs;rw [← List.take_append_drop k (succ t),addS_app]
    exact addS_prefix
   generalize hX:loopG _ _ _=X
   obtain ⟨tm,vs',fi',bs',rfl,⟨hfi',hbs',hvl',hvs'⟩,t0,t1,t3,t4,t12,t13,t14,t15,t16⟩:∃ (tm:Trie DV) (vs' fi' bs':List Int),X=some (.exit 2,⟨tm,D++[.arr 5 [.agg [intD sy,.apl (D.length+5) (i+1),.apl (D.length+6) i,qV (D.length+3) q'.length,qV (D.length+4) q'.length]],.map (q'.map encI) (vs'.map numD),qO 3 1 (q'.map numD),qO 3 1 (fi'.map numD),qO 3 1 (bs'.map numD),.app 4 1 (A.map bitD++[bitD (ac t)]),.app 26 1 (R0.map rowD),.arr 1 [bitD (ac t)],.arr 1 ((rowS id q (succ t)).map numD)]⟩)∧(fi'.length=q'.length∧bs'.length=q'.length∧vs'.length=q'.length∧∀ j,j<q'.length→vs'[j]? =some (j:Int))∧tm.get 0=some (intD sy)∧tm.get 1=some (intD most)∧tm.get 3=some (.fn g1 a1 b1)∧tm.get 4=some (.fn g2 a2 b2)∧tm.get 12=some (.ref D.length 0 0)∧tm.get 13=some (.mp (D.length+1))∧tm.get 14=some (qV (D.length+2) q'.length)∧tm.get 15=some (intD i)∧tm.get 16=some (.row (D.length+8) 0 sy sy):=by
    rw [← hX]
    clear hX ih hex2
    obtain ⟨W0,hW0⟩:∃ L:List Int,L=List.replicate sy 0:=⟨_,rfl⟩
    rw [rep_num,← hW0]
    generalize hs25:SD.mk _ _=sd25
    revert sd25
    refine wl (fun p:Nat×List Int×List Int×List Int×List Int×List Int=>⟨((((((((((Trie.leaf.put 62 (intD p.1)).put 61 (intD sy)).put 16 (.row (D.length+8) 0 sy sy)).put 15 (intD i)).put 14 (qV (D.length+2) p.2.1.length)).put 13 (.mp (D.length+1))).put 12 (.ref D.length 0 0)).put 4 (.fn g2 a2 b2)).put 3 (.fn g1 a1 b1)).put 1 (intD most)).put 0 (intD sy),D++[.arr 5 [.agg [intD sy,.apl (D.length+5) (i+1),.apl (D.length+6) i,qV (D.length+3) p.2.1.length,qV (D.length+4) p.2.1.length]],.map (p.2.1.map encI) (p.2.2.1.map numD),qO 3 1 (p.2.1.map numD),qO 3 1 (p.2.2.2.1.map numD),qO 3 1 (p.2.2.2.2.1.map numD),.app 4 1 (A.map bitD++[bitD (ac t)]),.app 26 1 (R0.map rowD),.arr 1 [bitD (ac t)],.arr 1 (p.2.2.2.2.2.map numD)]⟩)
     (fun p=>p.1≤sy∧p.2.1=addS id q ((succ t).take p.1)∧(p.2.2.2.1.length=p.2.1.length∧p.2.2.2.2.1.length=p.2.1.length∧p.2.2.1.length=p.2.1.length∧∀ j,j<p.2.1.length→p.2.2.1[j]? =some (j:Int))∧p.2.2.2.2.2.length=sy∧p.2.2.2.2.2.take p.1=rowS id q ((succ t).take p.1)) (fun p=>sy-p.1) ?_ (0,q,vs,fi,bs,W0) ⟨Nat.zero_le _,rfl,⟨hfi,hbs,hvl,hvs⟩,by simp [-getElem?_pos,-List.map_set,-objBelow,-depV,hW0],rfl⟩
    clear hvs hvl hfi hbs
    rintro ⟨k,q1,vs,fi,bs,W⟩ ⟨hk,hq1',⟨hfi,hbs,hvl,hvs⟩,hWl,hW⟩ ihK
    simp only at hk hq1' hfi hbs hvl hvs hWl hW ihK
    rw [loopG_eq]
    by_cases hks:k<sy
    case neg=>
     have hk':k=sy:=by omega
     subst hk'
     rw [← hre] at hq1' hW
     rw [List.take_of_length_le (by omega)] at hW
     subst hW
     rw [← hq'] at hq1'
     subst hq1'
     simp (maxSteps:=2000000) [-getElem?_pos,-List.map_set,-objBelow,-depV,gp,hks]
     refine ⟨_,vs,fi,bs,⟨rfl,rfl,rfl,rfl⟩,⟨hfi,hbs,hvl,hvs⟩,?_⟩
     simp [-getElem?_pos,-List.map_set,-objBelow,-depV]
    obtain ⟨o,ho⟩:∃ o,(succ t)[k]? =some o:=⟨_,List.getElem?_eq_getElem (by rw [hlen];exact hks)⟩
    have hL:(succ t).take (k+1)=(succ t).take k++[o]:=by rw [List.take_add_one,ho];rfl
    have hset:∀ v,(W.set k v).take (k+1)=W.take k++[v]:=fun v=>by
     rw [List.take_add_one,List.take_set_of_le (Nat.le_refl _),List.getElem?_set_self (by omega)];rfl
    obtain ⟨w0,hw0⟩:∃ x,W[k]? =some x:=⟨_,List.getElem?_eq_getElem (by omega)⟩
    have hws:∀ v,(W.set k v)[k]? =some v:=fun v=>List.getElem?_set_self (by omega)
    have hww:=wrap_succ (show k+1≤9223372036854775807 by omega)
    have hqt:q1[i]? =some t:=by rw [hq1'];exact prefix_getS addS_prefix ht
    have hqi:i<q1.length:=lt_of_get hqt
    obtain ⟨y,hst,hoy⟩:∃ y,(∀ X,callD Q g1 (a1++(DV.f (.raw (.int .i64 t))::DV.f (.raw (.int .i64 k))::b1)) base (D++X)=some (.tup [DV.f (.raw (.int .i64 y)),DV.f (.raw (.bool o.isSome))],D++X))∧(o=some y∨o=none):=by
     obtain ⟨y,h1,h2⟩:=hstep t k o htd ho
     refine ⟨y,fun X=>?_,h2⟩
     have:=h1 X
     rw [List.append_assoc] at this;exact this
    rcases hoy with rfl | rfl
    case inr=>
     have ih':=ihK (k+1,q1,vs,fi,bs,W.set k (-1)) ⟨by simp only;omega,by simp only;rw [hL,addS_none,hq1'],⟨hfi,hbs,hvl,hvs⟩,by simp only [List.length_set];exact hWl,by simp only;rw [hset,hL,rowS_none,hW]⟩ (by simp only;omega)
     simp (maxSteps:=2000000) [-getElem?_pos,-List.map_set,-objBelow,-depV] at ih'
     simp only [Option.isSome_none] at hst
     simp (maxSteps:=2000000) [-getElem?_pos,-List.map_set,-objBelow,-depV,gp,hb,hbk,hOK,hbl,hks,hst,hqt,hqi,hw0,hws,hWl,hww,hAl,hR0,hfi,hbs,hvl]
     exact ih'
    simp only [Option.isSome_some] at hst
    have hnew:=(hpre (k+1)).length_le
    rw [hL,addS_some,← hq1',List.map_id,id] at hnew
    by_cases hm:y∈q1
    ·obtain ⟨m,hm2⟩:∃ m,m=numK q1 y:=⟨_,rfl⟩
     have hmn:m<q1.length:=by rw [hm2];exact numK_lt hm
     have hvm:=hvs m hmn
     have hf:findT Tryz.prog 3 (.int .i64 y) (keyEs (q1.map encI))=some (some m):=by rw [hm2];exact (key3.find q1 y).trans (by rw [find_in hm])
     have ih':=ihK (k+1,q1,vs,fi,bs,W.set k (m:Int)) ⟨by simp only;omega,by simp only;rw [hL,addS_some,← hq1',List.map_id,id,if_pos hm],⟨hfi,hbs,hvl,hvs⟩,by simp only [List.length_set];exact hWl,by simp only;rw [hset,hL,rowS_some,hW,← hq1',List.map_id,id,hm2]⟩ (by simp only;omega)
     simp (maxSteps:=2000000) [-getElem?_pos,-List.map_set,-objBelow,-depV] at ih'
     simp (maxSteps:=2000000) [-getElem?_pos,-List.map_set,-objBelow,-depV,gp,hb,hbk,hOK,hbl,hks,hst,hqt,hqi,hw0,hws,hWl,hww,hAl,hR0,hfi,hbs,hvl,hf,hvm]
     exact ih'
    ·rw [if_neg hm,List.length_append] at hnew
     simp only [List.length_cons,List.length_nil] at hnew
     have hf:findT Tryz.prog 3 (.int .i64 y) (keyEs (q1.map encI))=some none:=(key3.find q1 y).trans (by rw [find_out hm])
     have ih':=ihK (k+1,q1++[y],vs++[(q1.length:Int)],fi++[(i:Int)],bs++[(k:Int)],W.set k (q1.length:Int)) ⟨by simp only;omega,by simp only;rw [hL,addS_some,← hq1',List.map_id,id,if_neg hm],⟨by simp [-getElem?_pos,-List.map_set,-objBelow,-depV,hfi],by simp [-getElem?_pos,-List.map_set,-objBelow,-depV,hbs],by simp [-getElem?_pos,-List.map_set,-objBelow,-depV,hvl],fun j hj=>by
      rcases Nat.lt_or_ge j q1.length with g | g
      ·rw [List.getElem?_append_left (by omega)];exact hvs j g
      ·simp only [List.length_append,List.length_cons,List.length_nil] at hj
       have:j=vs.length:=by omega
       rw [this,List.getElem?_append_right (Nat.le_refl _),Nat.sub_self,hvl];rfl⟩,by simp only [List.length_set];exact hWl,by simp only;rw [hset,hL,rowS_some,hW,← hq1',List.map_id,id,numK_none hm]⟩ (by simp only;omega)
     simp (maxSteps:=2000000) [-getElem?_pos,-List.map_set,-objBelow,-depV] at ih'
     simp (maxSteps:=2000000) [-getElem?_pos,-List.map_set,-objBelow,-depV,gp,hb,hbk,hOK,hbl,hks,hst,hqt,hqi,hw0,hws,hWl,hww,hAl,hR0,hfi,hbs,hvl,hf,show ¬most≤q1.length by omega,show q1.length<most by omega,show 1≤q1.length by omega,show (q1.length+1)*8≤1099511627776 by omega,show q1.length≤1099511627775 by omega]
     exact ih'
   clear hX
   obtain ⟨S,hS⟩:∃ S,S=rowS id q (succ t):=⟨_,rfl⟩
   have hSl:S.length=sy:=by rw [hS,rowS_len,hlen]
   rw [← hS] at hR
   have hpre':q <+: q':=by rw [hq'];exact addS_prefix
   have hpl:=hpre'.length_le
   have hqt:q'.take (i+1)=q.take i++[t]:=by
    rw [List.take_add_one,prefix_getS hpre' ht]
    obtain ⟨z,rfl⟩:=hpre'
    rw [List.take_append_of_le_length (by omega)];rfl
   have htk:List.take sy (S.map numD)=S.map numD:=List.take_of_length_le (by simp [-getElem?_pos,-List.map_set,-objBelow,-depV,hSl])
   have ih':=ih (F,i+1,q',vs',fi',bs',R0++[S],A++[ac t]) ⟨by simp only;omega,by simp only;omega,by simp only;omega,hfi',hbs',⟨hvl',hvs'⟩,by simp [-getElem?_pos,-List.map_set,-objBelow,-depV,hR0],by simp only;rw [hqt,List.map_append,List.map_cons,List.map_nil,hA],by
    simp only
    rw [hq']
    exact addS_dom hdq (hdom t htd),R2,hex2,by simp only;rw [List.append_assoc];exact hR⟩ (by simp only;omega)
   simp (maxSteps:=2000000) [-getElem?_pos,-List.map_set,-objBelow,-depV] at ih'
   rw [← hS]
   simp (maxSteps:=2000000) [-getElem?_pos,-List.map_set,-objBelow,-depV,gp,hb,hbk,hOK,hbl,t0,t1,t3,t4,t12,t13,t14,t15,t16,hSl,htk,hR0,hAl,hfi',hbs',hvl',show i+1≤1099511627776 by omega,show i≤1099511627775 by omega,show (i+1)*24≤1099511627776 by omega,wrap_succ (show i+1≤9223372036854775807 by omega)]
   exact ih'
  ·rw [List.getElem?_eq_none (by omega)] at hex
   simp only [Option.some.injEq,Prod.mk.injEq] at hex
   obtain ⟨rfl,rfl⟩:=hex
   rw [List.append_nil] at hR
   subst hR
   have hie:i=q.length:=by omega
   subst hie
   rw [List.take_length] at hA
   subst hA
   simp (maxSteps:=2000000) [-getElem?_pos,-List.map_set,-objBelow,-depV,gp,hlt,hR0]
   refine ⟨_,⟨rfl,⟨fi,rfl⟩,⟨bs,rfl⟩⟩,?_⟩
   simp [-getElem?_pos,-List.map_set,-objBelow,-depV]
 clear hX
 refine ⟨O1,O2,fi,bs,?_⟩
 simp (maxSteps:=2000000) [-getElem?_pos,-List.map_set,-objBelow,-depV,gp,t12]
end Go.Dv
namespace Go.Dv
open Go Go.Sim Go.Proofs Go.Fsa
attribute [local simp] encI bitF autD b_neqB b_eqlB el_num set_num fz_num numD bitD el_bit set_bit fz_bit
def machD (o:Nat) (m:Aut) (O1 O2:DObj) (fi bs:List Int):DH:=[.arr 5 [.agg [intD m.sy,.apl (o+5) m.acc.length,.apl (o+6) m.acc.length,qV (o+3) m.acc.length,qV (o+4) m.acc.length]],O1,O2,qO 3 1 (fi.map numD),qO 3 1 (bs.map numD),.app 4 1 (m.acc.map bitD),.app 26 1 (m.nxt.map rowD)]
theorem w62 (a:Aut) (hv:a.valid) (base:Nat) (D:DH) (hb:base≤D.length) (hob:(D.drop base).all (objBelow D.length)=true) :
  ∃ O1 O2 fi bs,callD Q 62 [autD a] base D=some (.ref (D.length+1) 0 0,D++.arr 4 [autD a]::machD (D.length+1) a.wh O1 O2 fi bs):=by
 rw [call_raw (fn:=Tryz.f62) (show Q.P.funcs[62]? =some Tryz.f62 from Tryz.func62) rfl ann62 rfl (by simp only [List.length_cons,List.length_nil];decide) (by kernel_rfl)]
 have gp:=gp62
 simp only [ann62,Tryz.f62,gpB_some,gpC_draw,gpC_reg,gpC_seq,gpC_cond,gpC_block,gpC_loop,gpC_range,gpC_skip,gpC_ret,gpC_exit,gpC_label,gpO_some,gpO_none,findN,Bool.and_eq_true,Bool.and_true,Bool.true_and,reduceIte,Nat.reduceEqDiff,true_and,and_true] at gp
 have hlen:=hv.len
 have hmost:=hv.most
 have hbk:∀ k,base≤D.length+k:=fun k=>by omega
 have hhi:=hv.hi
 have hlo:=hv.lo
 have hacc:∀ (X:DH) (x:Int),a.dom x→callD Q 112 ([]++[intD x]++[.ref D.length 0 0]) base ((D++[.arr 4 [autD a]])++X)=some (boolD (a.accB x),(D++[.arr 4 [autD a]])++X):=fun X x hx=>
  w112 a x (by have:=hx.2;omega) base D.length (D++[DObj.arr 4 [autD a]]++X) (by simp [-getElem?_pos,-List.map_set,-objBelow,-depV])
 have r110:(Q.ann 110).raw=true:=by rw [ann110]
 have r89:(Q.ann 89).raw=false:=by rw [ann89]
 have hw2:wrapF .i64 ((a.acc.length:Int)+2)=((a.acc.length+2:Nat):Int):=by rw [wrap_in (by omega) (by omega)];rfl
 obtain ⟨O1,O2,fi,bs,hex⟩:=w110 a.sy.toNat (a.acc.length+2) a.begin a.succW a.accB a.dom (a.acc.length+2) a.exW.1 a.exW.2 111 112 [] [.ref D.length 0 0] [] [.ref D.length 0 0] base (D++[.arr 4 [autD a]])
  (exW_spec hv) (begin_dom hv) (fun s hs t ht=>by
   unfold Aut.succW at ht
   obtain ⟨k,_,e⟩:=List.mem_map.1 ht
   simp only [Option.some.injEq] at e
   rw [← e];exact Aut.go_dom hv) (fun s=>succW_len) (by omega) (by omega) (by omega) (by simp [-getElem?_pos,-List.map_set,-objBelow,-depV];omega)
  (by
   rw [List.drop_append_of_le_length hb,List.all_append,Bool.and_eq_true]
   refine ⟨?_,by simp [-getElem?_pos,-List.map_set,-objBelow,-depV,ob_arr]⟩
   rw [List.all_eq_true] at hob ⊢
   intro x hx
   exact objBelow_le (by simp [-getElem?_pos,-List.map_set,-objBelow,-depV]) x (hob x hx)) (by simp [-getElem?_pos,-List.map_set,-objBelow,-depV]) (by simp [-getElem?_pos,-List.map_set,-objBelow,-depV]) (by simp [-getElem?_pos,-List.map_set,-objBelow,-depV]) (by simp [-getElem?_pos,-List.map_set,-objBelow,-depV]) (by rw [ann112])
  (fun x c o hx ho=>by
   obtain ⟨rfl,hc⟩:=succW_get ho
   refine ⟨a.go x c,fun X=>?_,.inl rfl⟩
   exact w111 a hv x hx.2 c hc base D.length (D++[DObj.arr 4 [autD a]]++X) (by simp [-getElem?_pos,-List.map_set,-objBelow,-depV]))
  hacc
 refine ⟨O1,O2,fi,bs,?_⟩
 have hal:a.wh.acc.length=a.exW.1.length:=by simp [-getElem?_pos,-List.map_set,-objBelow,-depV,Aut.wh]
 have h89:=fun D'=>w89 a base D'
 simp only [autD,intD] at h89
 simp only [autD,intD,List.append_assoc,List.cons_append,List.nil_append,List.length_append,List.length_cons,List.length_nil,Int.toNat_of_nonneg (show 0≤a.sy by omega),boolD] at hex
 rw [show ((a.acc.length+2:Nat):Int)=(a.acc.length:Int)+2 from rfl] at hex
 simp (maxSteps:=2000000) [-getElem?_pos,-List.map_set,-objBelow,-depV,gp,hb,hbk,h89,r89,r110,hw2,hex]
 simp [-getElem?_pos,-List.map_set,-objBelow,-depV,machD,Aut.wh]
 trace_state
end Go.Dv
