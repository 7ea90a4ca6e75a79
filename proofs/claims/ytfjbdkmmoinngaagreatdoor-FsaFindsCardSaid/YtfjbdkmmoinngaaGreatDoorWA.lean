/- Texts of this proof, part WA. -/
import Derived.Test.YtfjbdkmmoinngaaGreatDoorFacts
import Derived.Test.YtfjbdkmmoinngaaGreatDoorPure
import Derived.Test.YtfjbdkmmoinngaaGreatDoorDvB
set_option linter.unusedVariables false
set_option linter.unusedSimpArgs false
set_option linter.unusedSectionVars false
set_option maxRecDepth 100000
namespace Go.Dv
open Go Go.Sim Go.Proofs
theorem b_neqB {x y:Operand} {a b:Bool}:binA Tryz.prog .neq 4 x y (.bool a) (.bool b)=some (.bool (a != b)):=by cases a<;>cases b<;>kernel_rfl
theorem b_eqlB {x y:Operand} {a b:Bool}:binA Tryz.prog .eql 4 x y (.bool a) (.bool b)=some (.bool (a==b)):=by cases a<;>cases b<;>kernel_rfl
theorem w63 (a b:List Int) (ha:a.length<1152921504606846976) (hb:b.length<1152921504606846976) (base:Nat) (D:DH):callD Q 63 [rowD a,rowD b] base D=some (boolD (decide (a=b)),D):=by
 rw [call_pure (fn:=Tryz.f63) (show Q.P.funcs[63]? =some Tryz.f63 from Tryz.func63) rfl ann63 rfl (by simp only [List.length_cons,List.length_nil];decide) (by kernel_rfl)]
 have gp:=gp63
 simp only [ann63,Tryz.f63,gpB_some,gpC_draw,gpC_reg,gpC_seq,gpC_cond,gpC_block,gpC_loop,gpC_range,gpC_skip,gpC_ret,gpC_exit,gpC_label,gpO_some,gpO_none,findN,Bool.and_eq_true,Bool.and_true,Bool.true_and,reduceIte,Nat.reduceEqDiff,true_and,and_true] at gp
 by_cases hl:a.length=b.length
 ·simp (maxSteps:=2000000) [-getElem?_pos,hl,gp]
  generalize hs:SD.mk _ _=s0
  revert s0
  refine wl (fun i:Nat=>⟨((Trie.leaf.put 5 (intD i)).put 1 (rowD b)).put 0 (rowD a),D⟩) (fun i=>i≤b.length∧a.take i=b.take i) (fun i=>b.length-i) ?_ 0 ⟨by omega,by simp [-getElem?_pos]⟩
  intro i ⟨hi,ht⟩ ih
  rw [loopG_eq]
  by_cases hlt:i<b.length
  ·obtain ⟨x,hx⟩:∃ x,a[i]? =some x:=⟨_,List.getElem?_eq_getElem (by omega)⟩
   obtain ⟨y,hy⟩:∃ x,b[i]? =some x:=⟨_,List.getElem?_eq_getElem hlt⟩
   by_cases hxy:x=y
   ·have hn:List.take (i+1) a=List.take (i+1) b:=by rw [List.take_add_one,List.take_add_one,ht,hx,hy,hxy]
    have ih':=ih (i+1) ⟨by omega,hn⟩ (by omega)
    simp (maxSteps:=2000000) [-getElem?_pos] at ih'
    simp (maxSteps:=2000000) [-getElem?_pos,hl,hlt,hx,hy,gp,hxy,wrap_succ (show i+1≤9223372036854775807 by omega)]
    exact ih'
   ·simp (maxSteps:=2000000) [-getElem?_pos,hl,hlt,hx,hy,gp,hxy]
    rintro rfl
    rw [hx] at hy
    exact hxy (Option.some.inj hy)
  ·simp (maxSteps:=2000000) [-getElem?_pos,hl,hlt,gp]
   have h:i=b.length:=by omega
   rw [List.take_of_length_le (by omega),List.take_of_length_le (by omega)] at ht
   exact ht
 ·simp (maxSteps:=2000000) [-getElem?_pos,hl,gp]
  exact fun h=>hl (by rw [h])
end Go.Dv
namespace Go.Dv
open Go Go.Sim Go.Proofs Go.Fsa
def bitF (b:Bool):FV:=.raw (.bool b)
def autD (a:Aut):DV:=.agg [.f (.raw (.int .i64 a.sy)),.f (.raw (.int .i64 a.st)),.f (.lst (a.acc.map bitF)),.f (.lst (a.nxt.map rowF))]
attribute [local simp] bitF autD
theorem w19 (a:Aut) (base:Nat) (D:DH):callD Q 19 [autD a] base D=some (intD a.check,D):=by
 rw [call_pure (fn:=Tryz.f19) (show Q.P.funcs[19]? =some Tryz.f19 from Tryz.func19) rfl ann19 rfl (by simp only [List.length_cons,List.length_nil];decide) (by kernel_rfl)]
 have gp:=gp19
 simp only [ann19,Tryz.f19,gpB_some,gpC_draw,gpC_reg,gpC_seq,gpC_cond,gpC_block,gpC_loop,gpC_range,gpC_skip,gpC_ret,gpC_exit,gpC_label,gpO_some,gpO_none,findN,Bool.and_eq_true,Bool.and_true,Bool.true_and,reduceIte,Nat.reduceEqDiff,true_and,and_true] at gp
 have bad:¬a.valid→a.check=60:=fun h=>by simp [-getElem?_pos,Aut.check,h]
 by_cases c1:a.sy<1
 ·rw [bad fun h=>h.lo c1];simp (maxSteps:=2000000) [-getElem?_pos,gp,c1]
 by_cases c2:400<a.sy
 ·rw [bad fun h=>h.hi c2];simp (maxSteps:=2000000) [-getElem?_pos,gp,c1,c2]
 by_cases c3:a.acc.length=a.nxt.length
 case neg=>rw [bad fun h=>c3 h.len.symm];simp (maxSteps:=2000000) [-getElem?_pos,gp,c1,c2,c3]
 by_cases c4:(20000:Int)<(a.nxt.length:Int)
 ·rw [bad fun h=>h.most (by omega)];simp (maxSteps:=2000000) [-getElem?_pos,gp,c1,c2,c3,c4]
 by_cases c5:a.st<0
 ·rw [bad fun h=>h.st0 c5];simp (maxSteps:=2000000) [-getElem?_pos,gp,c1,c2,c3,c4,c5]
 generalize hnn:a.nxt.length=n at *
 have hx:a.acc.length=n:=c3
 by_cases c6:n=0
 ·by_cases c7:a.st=0
  ·have hv:a.valid:=⟨c1,c2,by omega,by omega,c5,by omega,fun r hr=>by rw [List.length_eq_zero_iff.1 (hnn.trans c6)] at hr;cases hr⟩
   rw [show a.check=0 by simp [-getElem?_pos,Aut.check,hv]]
   simp (maxSteps:=2000000) [-getElem?_pos,gp,c1,c2,c3,c4,c5,c6,c7,hnn]
   rw [loopG_eq]
   simp (maxSteps:=2000000) [-getElem?_pos,gp]
  ·rw [bad fun h=>h.st1 (by omega)];simp (maxSteps:=2000000) [-getElem?_pos,gp,c1,c2,c3,c4,c5,c6,c7,hnn]
 by_cases c7:(n:Int)≤a.st
 ·rw [bad fun h=>h.st1 (by omega)];simp (maxSteps:=2000000) [-getElem?_pos,gp,c1,c2,c3,c4,c5,c6,c7,hnn,show 0<n by omega]
 have good:(∀ i,i<n→∃ r,a.nxt[i]? =some r∧rowOK a.sy n r)→a.valid:=fun h=>⟨c1,c2,by omega,by omega,c5,by omega,fun r hr=>by
  obtain ⟨i,hi,rfl⟩:=List.getElem_of_mem hr
  obtain ⟨r',h1,h2⟩:=h i (by omega)
  rw [List.getElem?_eq_getElem hi,Option.some.injEq] at h1
  rw [h1,hx];exact h2⟩
 have badRow:∀ i r,a.nxt[i]? =some r→¬rowOK a.sy n r→a.check=60:=fun i r hr h=>bad fun hv=>h (by rw [← hx];exact hv.rows r (List.mem_of_getElem? hr))
 simp (maxSteps:=2000000) [-getElem?_pos,gp,c1,c2,c3,c4,c5,c6,c7,hnn,show 0<n by omega]
 generalize hs:SD.mk _ _=s0
 revert s0
 refine wl (fun i:Nat=>⟨((Trie.leaf.put 4 (intD i)).put 3 (intD n)).put 1 (.ref D.length 0 0),D++[.arr 4 [autD a]]⟩) (fun i=>i≤n∧∀ j,j<i→∃ r,a.nxt[j]? =some r∧rowOK a.sy n r) (fun i=>n-i) ?_ 0 ⟨by omega,fun j h=>by omega⟩
 intro i ⟨hi,ht⟩ ih
 rw [loopG_eq]
 by_cases hlt:i<n
 case neg=>
  rw [show a.check=0 by simp [-getElem?_pos,Aut.check,good (fun j hj=>ht j (by omega))]]
  simp (maxSteps:=2000000) [-getElem?_pos,gp,hlt]
 obtain ⟨r,hr⟩:∃ r,a.nxt[i]? =some r:=⟨_,List.getElem?_eq_getElem (by omega)⟩
 by_cases hl:(r.length:Int)=a.sy
 case neg=>
  rw [badRow i r hr fun h=>hl h.1]
  simp (maxSteps:=2000000) [-getElem?_pos,gp,hlt,hr,hl]
 simp (maxSteps:=2000000) [-getElem?_pos,gp,hlt,hr,hl]
 generalize hs:SD.mk _ _=s1
 revert s1
 refine wl (fun k:Nat=>⟨(((Trie.leaf.put 5 (intD k)).put 4 (intD i)).put 3 (intD n)).put 1 (.ref D.length 0 0),D++[.arr 4 [autD a]]⟩) (fun k=>k≤r.length∧∀ j x,j<k→r[j]? =some x→¬x < -1∧¬(n:Int)≤x) (fun k=>r.length-k) ?_ 0 ⟨by omega,fun j x h=>by omega⟩
 intro k ⟨hk,hkt⟩ ih2
 rw [loopG_eq]
 by_cases hklt:k<r.length
 case neg=>
  have hrow:rowOK a.sy n r:=⟨hl,fun t ht=>by
   obtain ⟨j,hj,rfl⟩:=List.getElem_of_mem ht
   exact hkt j _ (by omega) (List.getElem?_eq_getElem hj)⟩
  have ih':=ih (i+1) ⟨by omega,fun j hj=>by
   by_cases h:j=i
   ·subst h;exact ⟨r,hr,hrow⟩
   ·exact ht j (by omega)⟩ (by omega)
  simp (maxSteps:=2000000) [-getElem?_pos] at ih'
  simp (maxSteps:=2000000) [-getElem?_pos,gp,show ¬(k:Int)<a.sy by omega,wrap_succ (show i+1≤9223372036854775807 by omega)]
  exact ih'
 obtain ⟨x,hxk⟩:∃ x,r[k]? =some x:=⟨_,List.getElem?_eq_getElem hklt⟩
 have hin:x∈r:=List.mem_of_getElem? hxk
 by_cases d1:x < -1
 ·rw [badRow i r hr fun h=>(h.2 x hin).1 d1]
  simp (maxSteps:=2000000) [-getElem?_pos,gp,show (k:Int)<a.sy by omega,hr,hxk,d1]
 by_cases d2:(n:Int)≤x
 ·rw [badRow i r hr fun h=>(h.2 x hin).2 d2]
  simp (maxSteps:=2000000) [-getElem?_pos,gp,show (k:Int)<a.sy by omega,hr,hxk,d1,d2]
 have ih':=ih2 (k+1) ⟨by omega,fun j y hj hy=>by
  by_cases h:j=k
  ·subst h;rw [hxk] at hy;cases hy;exact ⟨d1,d2⟩
  ·exact hkt j y (by omega) hy⟩ (by omega)
 simp (maxSteps:=2000000) [-getElem?_pos] at ih'
 simp (maxSteps:=2000000) [-getElem?_pos,gp,show (k:Int)<a.sy by omega,hr,hxk,d1,d2,wrap_succ (show k+1≤9223372036854775807 by omega)]
 exact ih'
end Go.Dv
namespace Go.Dv
open Go Go.Sim Go.Proofs Go.Fsa
attribute [local simp] bitF autD
theorem c19 {sy st:Int} {acc:List Bool} {nxt:List (List Int)} {base:Nat} {D:DH}:callD Q 19 [.agg [.f (.raw (.int .i64 sy)),.f (.raw (.int .i64 st)),.f (.lst (acc.map bitF)),.f (.lst (nxt.map rowF))]] base D=some (.f (.raw (.int .i64 (Aut.check ⟨sy,st,acc,nxt⟩))),D):=w19 ⟨sy,st,acc,nxt⟩ base D
theorem w58 (a:Aut) (hv:a.valid) (s:Int) (hs:s<(a.nxt.length:Nat)) (c:Nat) (hc:(c:Int)<a.sy) (base:Nat) (D:DH):callD Q 58 [autD a,intD s,intD c] base D=some (intD (a.go s c),D):=by
 rw [call_pure (fn:=Tryz.f58) (show Q.P.funcs[58]? =some Tryz.f58 from Tryz.func58) rfl ann58 rfl (by simp only [List.length_cons,List.length_nil];decide) (by kernel_rfl)]
 by_cases h:s<0
 ·rw [Aut.go_neg h]
  simp (maxSteps:=2000000) [-getElem?_pos,h]
 ·obtain ⟨n,rfl⟩:∃ n:Nat,s=n:=⟨s.toNat,by omega⟩
  obtain ⟨r,h1,h2⟩:=a.go_some hv (by omega) hs hc
  rw [Int.toNat_natCast] at h1
  simp (maxSteps:=2000000) [-getElem?_pos,h,h1,h2]
theorem c58 {sy st:Int} {acc:List Bool} {nxt:List (List Int)} {s:Int} {c:Nat} {base:Nat} {D:DH} (hv:Aut.valid ⟨sy,st,acc,nxt⟩) (hs:s<(nxt.length:Nat)) (hc:(c:Int)<sy):callD Q 58 [.agg [.f (.raw (.int .i64 sy)),.f (.raw (.int .i64 st)),.f (.lst (acc.map bitF)),.f (.lst (nxt.map rowF))],.f (.raw (.int .i64 s)),.f (.raw (.int .i64 c))] base D=some (.f (.raw (.int .i64 (Aut.go ⟨sy,st,acc,nxt⟩ s c))),D):=w58 ⟨sy,st,acc,nxt⟩ hv s hs c hc base D
def optD (o:Option Int):DV:=.tup [.f (.raw (.int .i64 (o.getD 0))),.f (.raw (.bool o.isSome))]
end Go.Dv
namespace Go.Dv
open Go Go.Sim Go.Proofs Go.Fsa
attribute [local simp] bitF autD b_neqB b_eqlB
theorem w107 (a b:List Int) (ha:a.length<1152921504606846976) (hl:a.length=b.length) (base:Nat) (D:DH):callD Q 107 [rowD a,rowD b] base D=some (boolD (decide (a=b)),D):=by
 rw [call_pure (fn:=Tryz.f107) (show Q.P.funcs[107]? =some Tryz.f107 from Tryz.func107) rfl ann107 rfl (by simp only [List.length_cons,List.length_nil];decide) (by kernel_rfl)]
 have gp:=gp107
 simp only [ann107,Tryz.f107,gpB_some,gpC_draw,gpC_reg,gpC_seq,gpC_cond,gpC_block,gpC_loop,gpC_range,gpC_skip,gpC_ret,gpC_exit,gpC_label,gpO_some,gpO_none,findN,Bool.and_eq_true,Bool.and_true,Bool.true_and,reduceIte,Nat.reduceEqDiff,true_and,and_true] at gp
 simp (maxSteps:=2000000) [-getElem?_pos,gp,hl]
 generalize hs2:SD.mk _ _=sd2
 revert sd2
 refine wl (fun i:Nat=>⟨((Trie.leaf.put 5 (intD i)).put 1 (rowD b)).put 0 (rowD a),D⟩) (fun i=>i≤b.length∧a.take i=b.take i) (fun i=>b.length-i) ?_ 0 ⟨by omega,by simp [-getElem?_pos]⟩
 intro i ⟨hi,ht⟩ ih
 rw [loopG_eq]
 by_cases hlt:i<b.length
 ·obtain ⟨x,hx⟩:∃ x,a[i]? =some x:=⟨_,List.getElem?_eq_getElem (by omega)⟩
  obtain ⟨y,hy⟩:∃ x,b[i]? =some x:=⟨_,List.getElem?_eq_getElem hlt⟩
  by_cases hxy:x=y
  ·have hn:List.take (i+1) a=List.take (i+1) b:=by rw [List.take_add_one,List.take_add_one,ht,hx,hy,hxy]
   have ih':=ih (i+1) ⟨by omega,hn⟩ (by omega)
   simp (maxSteps:=2000000) [-getElem?_pos] at ih'
   simp (maxSteps:=2000000) [-getElem?_pos,gp,hl,hlt,hx,hy,hxy,wrap_succ (show i+1≤9223372036854775807 by omega)]
   exact ih'
  ·simp (maxSteps:=2000000) [-getElem?_pos,gp,hl,hlt,hx,hy,hxy]
   rintro rfl
   rw [hx] at hy
   exact hxy (Option.some.inj hy)
 ·simp (maxSteps:=2000000) [-getElem?_pos,gp,hl,hlt]
  rw [List.take_of_length_le (by omega),List.take_of_length_le (by omega)] at ht
  exact ht
def sameA (a b:Aut):Bool:=decide (a.sy=b.sy∧a.st=b.st∧a.acc=b.acc∧a.nxt=b.nxt)
end Go.Dv
namespace Go.Dv
open Go Go.Sim Go.Proofs Go.Fsa
attribute [local simp] bitF autD b_neqB b_eqlB
theorem max2_int {x y:Int}:minmaxD Tryz.prog Builtin.max2 [.f (.raw (.int .i64 x)),.f (.raw (.int .i64 y))]=some (.f (.raw (.int .i64 (max x y)))):=by
 simp only [minmaxD,toVs,minmax,Option.map_some]
 have:Builtin.max2 (.int .i64 x) (.int .i64 y)=.pure (.int .i64 (max x y)):=by
  simp only [Builtin.max2]
  split<;>(congr 2;omega)
 rw [this];rfl
theorem bl_max {P:Program} {D:DH} {base:Nat} {ts:List TypeId} {l:List DV}:dBuiltin P D base ts l .max=valD D (minmaxD P Builtin.max2 l):=rfl
attribute [local simp] bl_max max2_int
theorem w18 (a:Aut) (ha:a.nxt.length<1152921504606846976) (base:Nat) (D:DH):callD Q 18 [autD a] base D=some (intD a.check,D):=by
 rw [call_pure (fn:=Tryz.f18) (show Q.P.funcs[18]? =some Tryz.f18 from Tryz.func18) rfl ann18 rfl (by simp only [List.length_cons,List.length_nil];decide) (by kernel_rfl)]
 have bad:¬a.valid→a.check=60:=fun h=>by simp [-getElem?_pos,Aut.check,h]
 by_cases c1:a.sy<1
 ·rw [bad fun h=>h.lo c1];simp (maxSteps:=2000000) [-getElem?_pos,c1]
 by_cases c2:400<a.sy
 ·rw [bad fun h=>h.hi c2];simp (maxSteps:=2000000) [-getElem?_pos,c1,c2]
 by_cases c4:(20000:Int)<(a.acc.length:Int)
 ·rw [bad fun h=>h.most (by omega)];simp (maxSteps:=2000000) [-getElem?_pos,c1,c2,c4]
 by_cases c3:a.nxt.length=a.acc.length
 case neg=>rw [bad fun h=>c3 h.len];simp (maxSteps:=2000000) [-getElem?_pos,c1,c2,c3,c4]
 by_cases c5:a.st<0
 ·rw [bad fun h=>h.st0 c5];simp (maxSteps:=2000000) [-getElem?_pos,c1,c2,c3,c4,c5]
 generalize hnn:a.acc.length=n at *
 by_cases c7:max (n:Int) 1≤a.st
 ·rw [bad fun h=>h.st1 (by rw [hnn];exact c7)];simp (maxSteps:=2000000) [-getElem?_pos,c1,c2,c3,c4,c5,hnn,c7]
 have good:(∀ i,i<n→∃ r,a.nxt[i]? =some r∧rowOK a.sy n r)→a.valid:=fun h=>⟨c1,c2,by omega,by omega,c5,by rw [hnn];exact c7,fun r hr=>by
  obtain ⟨i,hi,rfl⟩:=List.getElem_of_mem hr
  obtain ⟨r',h1,h2⟩:=h i (by omega)
  rw [List.getElem?_eq_getElem hi,Option.some.injEq] at h1
  rw [h1,hnn];exact h2⟩
 have badRow:∀ i r,a.nxt[i]? =some r→¬rowOK a.sy n r→a.check=60:=fun i r hr h=>bad fun hv=>h (by rw [← hnn];exact hv.rows r (List.mem_of_getElem? hr))
 simp (maxSteps:=2000000) [-getElem?_pos,c1,c2,c3,c4,c5,c7,hnn]
 generalize hs5:SD.mk _ _=sd5
 revert sd5
 refine wl (fun i:Nat=>⟨((((Trie.leaf.put 45 (intD i)).put 44 (intD n)).put 43 (.f (.lst (a.nxt.map rowF)))).put 3 (intD n)).put 1 (.ref D.length 0 0),D++[.arr 4 [autD a]]⟩) (fun i=>i≤n∧∀ j,j<i→∃ r,a.nxt[j]? =some r∧rowOK a.sy n r) (fun i=>n-i) ?_ 0 ⟨by omega,fun j h=>by omega⟩
 intro i ⟨hi,ht⟩ ih
 rw [loopG_eq]
 by_cases hlt:i<n
 case neg=>
  rw [show a.check=0 by simp [-getElem?_pos,Aut.check,good (fun j hj=>ht j (by omega))]]
  simp (maxSteps:=2000000) [-getElem?_pos,hlt]
 obtain ⟨r,hr⟩:∃ r,a.nxt[i]? =some r:=⟨_,List.getElem?_eq_getElem (by omega)⟩
 by_cases hl:(r.length:Int)=a.sy
 case neg=>
  rw [badRow i r hr fun h=>hl h.1]
  simp (maxSteps:=2000000) [-getElem?_pos,hlt,hr,hl]
 simp (maxSteps:=2000000) [-getElem?_pos,hlt,hr,hl]
 generalize hs6:SD.mk _ _=sd6
 revert sd6
 refine wl (fun k:Nat=>⟨(((((((Trie.leaf.put 56 (intD k)).put 55 (intD a.sy)).put 54 (rowD r)).put 45 (intD i)).put 44 (intD n)).put 43 (.f (.lst (a.nxt.map rowF)))).put 3 (intD n)).put 1 (.ref D.length 0 0),D++[.arr 4 [autD a]]⟩) (fun k=>k≤r.length∧∀ j x,j<k→r[j]? =some x→¬x < -1∧¬(n:Int)≤x) (fun k=>r.length-k) ?_ 0 ⟨by omega,fun j x h=>by omega⟩
 intro k ⟨hk,hkt⟩ ih2
 rw [loopG_eq]
 by_cases hklt:k<r.length
 case neg=>
  have hrow:rowOK a.sy n r:=⟨hl,fun t ht=>by
   obtain ⟨j,hj,rfl⟩:=List.getElem_of_mem ht
   exact hkt j _ (by omega) (List.getElem?_eq_getElem hj)⟩
  have ih':=ih (i+1) ⟨by omega,fun j hj=>by
   by_cases h:j=i
   ·subst h;exact ⟨r,hr,hrow⟩
   ·exact ht j (by omega)⟩ (by omega)
  simp (maxSteps:=2000000) [-getElem?_pos] at ih'
  simp (maxSteps:=2000000) [-getElem?_pos,show ¬(k:Int)<a.sy by omega,wrap_succ (show i+1≤9223372036854775807 by omega)]
  exact ih'
 obtain ⟨x,hxk⟩:∃ x,r[k]? =some x:=⟨_,List.getElem?_eq_getElem hklt⟩
 have hin:x∈r:=List.mem_of_getElem? hxk
 by_cases d1:x < -1
 ·rw [badRow i r hr fun h=>(h.2 x hin).1 d1]
  simp (maxSteps:=2000000) [-getElem?_pos,show (k:Int)<a.sy by omega,hr,hxk,d1]
 by_cases d2:(n:Int)≤x
 ·rw [badRow i r hr fun h=>(h.2 x hin).2 d2]
  simp (maxSteps:=2000000) [-getElem?_pos,show (k:Int)<a.sy by omega,hr,hxk,d1,d2]
 have ih':=ih2 (k+1) ⟨by omega,fun j y hj hy=>by
  by_cases h:j=k
  ·subst h;rw [hxk] at hy;cases hy;exact ⟨d1,d2⟩
  ·exact hkt j y (by omega) hy⟩ (by omega)
 simp (maxSteps:=2000000) [-getElem?_pos] at ih'
 simp (maxSteps:=2000000) [-getElem?_pos,show (k:Int)<a.sy by omega,hr,hxk,d1,d2,wrap_succ (show k+1≤9223372036854775807 by omega)]
 exact ih'
end Go.Dv
namespace Go.Dv
open Go Go.Sim Go.Proofs Go.Fsa
attribute [local simp] bitF autD b_neqB b_eqlB
def FnB (g:FuncId) (a b:List DV) (D:DH) (l:List Int) (p:Int→Bool):Prop:=belows D.length a=true∧belows D.length b=true∧∀ (x:Int) (base:Nat),x∈l→callD Q g (a++.f (.raw (.int .i64 x))::b) base D=some (.f (.raw (.bool (p x))),D)
theorem w120 (l:List Int) (hl:l.length<1152921504606846976) (g:FuncId) (a b:List DV) (p:Int→Bool) (base:Nat) (D:DH) (hp:FnB g a b D l p):callD Q 120 [rowD l,.fn g a b] base D=some (intD (((l.findIdx? p).map fun n=>(n:Int)).getD (-1)),D):=by
 obtain ⟨ka,kb,hp⟩:=hp
 rw [call_pure (fn:=Tryz.f120) (show Q.P.funcs[120]? =some Tryz.f120 from Tryz.func120) rfl ann120 rfl (by simp only [List.length_cons,List.length_nil];decide) (by kernel_rfl)]
 simp (maxSteps:=2000000) [-getElem?_pos,ka,kb]
 generalize hs10:SD.mk _ _=sd10
 revert sd10
 refine wl (fun i:Nat=>⟨(((Trie.leaf.put 8 (intD i)).put 7 (intD l.length)).put 1 (.fn g a b)).put 0 (rowD l),D⟩) (fun i=>i≤l.length∧∀ j x,j<i→l[j]? =some x→p x=false) (fun i=>l.length-i) ?_ 0 ⟨by omega,fun j x h=>by omega⟩
 intro i ⟨hi,ht⟩ ih
 rw [loopG_eq]
 by_cases hlt:i<l.length
 ·obtain ⟨x,hx⟩:∃ x,l[i]? =some x:=⟨_,List.getElem?_eq_getElem hlt⟩
  have hp':=fun bb=>hp x bb (List.mem_of_getElem? hx)
  cases hpx:p x with
  | false=>
   have ih':=ih (i+1) ⟨by omega,fun j y hj hy=>by
    by_cases h:j=i
    ·subst h;rw [hx] at hy;cases hy;exact hpx
    ·exact ht j y (by omega) hy⟩ (by omega)
   simp (maxSteps:=2000000) [-getElem?_pos] at ih'
   simp (maxSteps:=2000000) [-getElem?_pos,ka,kb,hlt,hx,hp',hpx,wrap_succ (show i+1≤9223372036854775807 by omega)]
   exact ih'
  | true=>
   have hf:l.findIdx? p=some i:=by
    rw [List.findIdx?_eq_some_iff_getElem]
    rw [List.getElem?_eq_getElem hlt,Option.some.injEq] at hx
    exact ⟨hlt,by rw [hx];exact hpx,fun j hj=>by rw [ht j _ hj (List.getElem?_eq_getElem (by omega))];simp [-getElem?_pos]⟩
   simp (maxSteps:=2000000) [-getElem?_pos,ka,kb,hlt,hx,hp',hpx,hf]
 ·have hf:l.findIdx? p=none:=by
   rw [List.findIdx?_eq_none_iff]
   intro x hx
   obtain ⟨j,hj,rfl⟩:=List.getElem_of_mem hx
   exact ht j _ (by omega) (List.getElem?_eq_getElem hj)
  simp (maxSteps:=2000000) [-getElem?_pos,hlt,hf]
theorem c120 {l:List Int} (hl:l.length<1152921504606846976) {g:FuncId} {a b:List DV} {p:Int→Bool} {base:Nat} {D:DH} (hp:FnB g a b D l p):callD Q 120 [.f (.lst (l.map intF)),.fn g a b] base D=some (.f (.raw (.int .i64 (((l.findIdx? p).map fun n=>(n:Int)).getD (-1)))),D):=w120 l hl g a b p base D hp
theorem w73 (l:List Int) (hl:l.length<1152921504606846976) (g:FuncId) (a b:List DV) (p:Int→Bool) (base:Nat) (D:DH) (hp:FnB g a b D l p):callD Q 73 [rowD l,.fn g a b] base D=some (boolD (l.any p),D):=by
 rw [call_pure (fn:=Tryz.f73) (show Q.P.funcs[73]? =some Tryz.f73 from Tryz.func73) rfl ann73 rfl (by simp only [List.length_cons,List.length_nil];decide) (by kernel_rfl)]
 cases h:l.findIdx? p with
 | none=>
  have:l.any p=false:=by
   rw [List.findIdx?_eq_none_iff] at h
   simpa [-getElem?_pos] using h
  simp (maxSteps:=2000000) [-getElem?_pos,c120 hl hp,h,this]
 | some i=>
  have:l.any p=true:=by
   rw [List.findIdx?_eq_some_iff_getElem] at h
   obtain ⟨h1,h2,_⟩:=h
   exact List.any_eq_true.2 ⟨_,List.getElem_mem h1,h2⟩
  simp (maxSteps:=2000000) [-getElem?_pos,c120 hl hp,h,this]
theorem c18 {sy st:Int} {acc:List Bool} {nxt:List (List Int)} {base:Nat} {D:DH} (h:nxt.length<1152921504606846976):callD Q 18 [.agg [.f (.raw (.int .i64 sy)),.f (.raw (.int .i64 st)),.f (.lst (acc.map bitF)),.f (.lst (nxt.map rowF))]] base D=some (.f (.raw (.int .i64 (Aut.check ⟨sy,st,acc,nxt⟩))),D):=w18 ⟨sy,st,acc,nxt⟩ h base D
end Go.Dv
set_option maxHeartbeats 2000000
namespace Go.Dv
open Go Go.Sim Go.Proofs Go.Fsa
attribute [local simp] bitF autD b_neqB b_eqlB
def bitD (b:Bool):DV:=.f (.raw (.bool b))
theorem el_bit {l:List Bool}:List.map (elD ∘ bitF) l=l.map bitD:=rfl
theorem set_bit {l:List Bool} {i:Nat} {b:Bool}:(l.map bitD).set i (.f (.raw (.bool b)))=(l.set i b).map bitD:=set_map (f:=bitD)
theorem fz_bit {b:Nat} {D:DH} {l:List Bool}:frzL (frz b D 3) (l.map bitD)=some (l.map bitF,[]):=fzL_map fun _=>rfl
attribute [local simp] el_bit set_bit fz_bit bitD
theorem w106 (a:Aut) (hv:a.valid) (base:Nat) (D:DH):callD Q 106 [autD a] base D=some (.f (.lst (a.liveL.map bitF)),D):=by
 rw [call_pure (fn:=Tryz.f106) (show Q.P.funcs[106]? =some Tryz.f106 from Tryz.func106) rfl ann106 rfl (by simp only [List.length_cons,List.length_nil];decide) (by kernel_rfl)]
 obtain ⟨sy,hsy⟩:∃ sy:Nat,a.sy=sy:=⟨a.sy.toNat,by have:=hv.lo;omega⟩
 have hmost:=hv.most
 have hlen:=hv.len
 by_cases hn:a.acc.length=0
 ·have h1:a.acc=[]:=List.eq_nil_of_length_eq_zero hn
  have h2:a.nxt=[]:=List.eq_nil_of_length_eq_zero (by omega)
  have h3:a.liveL=[]:=List.eq_nil_of_length_eq_zero (by rw [Aut.liveL_len,hn])
  rw [h3]
  simp (maxSteps:=2000000) [-getElem?_pos,-List.map_set,h1,h2]
  rw [loopG_eq]
  simp (maxSteps:=2000000) [-getElem?_pos,-List.map_set]
  rw [loopG_eq]
  simp (maxSteps:=2000000) [-getElem?_pos,-List.map_set]
  rw [loopG_eq]
  simp (maxSteps:=2000000) [-getElem?_pos,-List.map_set]
 simp (maxSteps:=2000000) [-getElem?_pos,-List.map_set,show ¬a.acc.length≤0 by omega,hn,show a.acc.length≤1099511627776 by omega]
 generalize hs12:SD.mk _ _=sd12
 revert sd12
 refine wl (fun p:List Bool×Bool=>⟨((Trie.leaf.put 4 (boolD p.2)).put 3 (.apl (D.length+1) a.acc.length)).put 1 (.ref D.length 0 0),D++[.arr 4 [autD a],.app 4 1 (p.1.map bitD)]⟩) (fun p=>LiveI a p.1∧(p.2=false→∀ i,i<a.acc.length→p.1[i]? =some false→shut a p.1 i sy)) (fun p=>2*falses p.1+if p.2 then 1 else 0) ?_ (a.acc,true) ⟨LiveI.start,fun h=>by cases h⟩
 rintro ⟨l0,ch0⟩ ⟨hi0,hc0⟩ ih
 simp only at hi0 hc0 ih
 rw [loopG_eq]
 cases ch0 with
 | false=>
  have:=hi0.done hv (fun i h1 h2=>by rw [show a.sy.toNat=sy by omega];exact hc0 rfl i h1 h2)
  rw [← this]
  simp (maxSteps:=2000000) [-getElem?_pos,-List.map_set,hi0.len]
 | true=>
 simp (maxSteps:=2000000) [-getElem?_pos,-List.map_set,hi0.len,hlen,wrap_pred (show a.acc.length≤9223372036854775807 by omega)]
 generalize hs13:SD.mk _ _=sd13
 revert sd13
 refine wl (fun p:Nat×List Bool×Bool=>⟨(((Trie.leaf.put 5 (intD ((p.1:Int)-1))).put 4 (boolD p.2.2)).put 3 (.apl (D.length+1) a.acc.length)).put 1 (.ref D.length 0 0),D++[.arr 4 [autD a],.app 4 1 (p.2.1.map bitD)]⟩)
  (fun p=>p.1≤a.acc.length∧LiveI a p.2.1∧falses p.2.1≤falses l0∧(p.2.2=true→falses p.2.1<falses l0)∧(p.2.2=false→∀ i,p.1≤i→i<a.acc.length→p.2.1[i]? =some false→shut a p.2.1 i sy)) (fun p=>p.1) ?_ (a.acc.length,l0,false) ⟨Nat.le_refl _,hi0,Nat.le_refl _,(fun h=>by cases h),fun _ i h1 h2=>absurd h2 (by simp only at h1 ⊢;omega)⟩
 rintro ⟨m,l,ch⟩ ⟨hm,hi,hle,hlt,hsh⟩ ih2
 simp only at hm hi hle hlt hsh ih2
 rw [loopG_eq]
 cases m with
 | zero=>
  have ih':=ih (l,ch) ⟨hi,fun h i h1 h2=>hsh h i (Nat.zero_le _) h1 h2⟩ (by
   simp only
   cases ch with
   | false=>simp [-getElem?_pos,-List.map_set];omega
   | true=>have:=hlt rfl;simp [-getElem?_pos,-List.map_set];omega)
  simp (maxSteps:=2000000) [-getElem?_pos,-List.map_set] at ih'
  simp (maxSteps:=2000000) [-getElem?_pos,-List.map_set,hi.len]
  exact ih'
 | succ m=>
 obtain ⟨r,hr⟩:∃ r,a.nxt[m]? =some r:=⟨_,List.getElem?_eq_getElem (by omega)⟩
 have hrow:=hv.rows r (List.mem_of_getElem? hr)
 simp (maxSteps:=2000000) [-getElem?_pos,-List.map_set,hi.len,show ((m:Int)+1-1)=m by omega,show (0:Int)≤m by omega]
 generalize hs14:SD.mk _ _=sd14
 revert sd14
 refine wl (fun p:Nat×List Bool×Bool=>⟨((((Trie.leaf.put 6 (intD p.1)).put 5 (intD (m:Int))).put 4 (boolD p.2.2)).put 3 (.apl (D.length+1) a.acc.length)).put 1 (.ref D.length 0 0),D++[.arr 4 [autD a],.app 4 1 (p.2.1.map bitD)]⟩)
  (fun p=>p.1≤sy∧LiveI a p.2.1∧falses p.2.1≤falses l0∧(p.2.2=true→falses p.2.1<falses l0)∧(p.2.2=false→∀ i,m+1≤i→i<a.acc.length→p.2.1[i]? =some false→shut a p.2.1 i sy)∧(p.2.1[m]? =some false→shut a p.2.1 m p.1)) (fun p=>sy-p.1) ?_ (0,l,ch) ⟨Nat.zero_le _,hi,hle,hlt,hsh,fun _ r c t _ h=>absurd h (Nat.not_lt_zero _)⟩
 rintro ⟨k,l2,ch2⟩ ⟨hk,hi2,hle2,hlt2,hsh2,hsk⟩ ih3
 simp only at hk hi2 hle2 hlt2 hsh2 hsk ih3
 rw [loopG_eq]
 obtain ⟨b,hb⟩:∃ b,l2[m]? =some b:=⟨_,List.getElem?_eq_getElem (by rw [hi2.len];omega)⟩
 have out:(b=false→k=sy)→_:=fun hout=>ih2 (m,l2,ch2) ⟨by omega,hi2,hle2,hlt2,fun h i h1 h2 h3=>by
  by_cases e:i=m
  ·subst e
   rw [hb,Option.some.injEq] at h3
   rw [← hout h3];exact hsk (by rw [hb,h3])
  ·exact hsh2 h i (by omega) h2 h3⟩ (Nat.lt_succ_self _)
 by_cases hks:k<sy
 case neg=>
  have ih':=out fun _=>by omega
  simp (maxSteps:=2000000) [-getElem?_pos,-List.map_set,hsy] at ih'
  simp (maxSteps:=2000000) [-getElem?_pos,-List.map_set,hi2.len,hsy,hks,hb,wrap_pred (show m≤9223372036854775807 by omega)]
  exact ih'
 cases b with
 | true=>
  have ih':=out fun h=>by cases h
  simp (maxSteps:=2000000) [-getElem?_pos,-List.map_set,hsy] at ih'
  simp (maxSteps:=2000000) [-getElem?_pos,-List.map_set,hi2.len,hsy,hks,hb,show m<a.acc.length by omega,wrap_pred (show m≤9223372036854775807 by omega)]
  exact ih'
 | false=>
 obtain ⟨t,ht⟩:∃ t,r[k]? =some t:=⟨_,List.getElem?_eq_getElem (by have:=hrow.1;omega)⟩
 have htr:=hrow.2 t (List.mem_of_getElem? ht)
 have next:(0≤t→l2[t.toNat]?≠some true)→_:=fun h=>ih3 (k+1,l2,ch2) ⟨by omega,hi2,hle2,hlt2,hsh2,fun hf r' c u h1 h2 h3 h4=>by
  by_cases e:c=k
  ·subst e
   rw [hr,Option.some.injEq] at h1
   subst h1
   rw [ht,Option.some.injEq] at h3
   subst h3
   exact h h4
  ·exact hsk hf r' c u h1 (by omega) h3 h4⟩ (by simp only;omega)
 by_cases ht0:t<0
 ·have ih':=next (fun h=>by omega)
  simp (maxSteps:=2000000) [-getElem?_pos,-List.map_set,hsy] at ih'
  simp (maxSteps:=2000000) [-getElem?_pos,-List.map_set,hi2.len,hsy,hks,hb,hr,ht,show ¬0≤t by omega,show m<a.acc.length by omega,wrap_succ (show k+1≤9223372036854775807 by have:=hv.hi;omega)]
  exact ih'
 obtain ⟨u,rfl⟩:∃ u:Nat,t=u:=⟨t.toNat,by omega⟩
 obtain ⟨tb,htb⟩:∃ b,l2[u]? =some b:=⟨_,List.getElem?_eq_getElem (by rw [hi2.len];omega)⟩
 cases tb with
 | false=>
  have ih':=next (fun _ h=>by rw [Int.toNat_natCast,htb] at h;cases h)
  simp (maxSteps:=2000000) [-getElem?_pos,-List.map_set,hsy] at ih'
  simp (maxSteps:=2000000) [-getElem?_pos,-List.map_set,hi2.len,hsy,hks,hb,hr,ht,htb,show (0:Int)≤u by omega,show u<a.acc.length by omega,show m<a.acc.length by omega,wrap_succ (show k+1≤9223372036854775807 by have:=hv.hi;omega)]
  exact ih'
 | true=>
  have hlv:Live a.acc a.nxt m:=.step hr (List.mem_of_getElem? ht) (hi2.ok u htb)
  have hfs:=falses_set hb
  have ih':=ih3 (k+1,l2.set m true,true) ⟨by omega,hi2.add hlv,by simp only;omega,fun _=>by simp only;omega,(fun h=>by cases h),fun h=>by
   simp only at h
   rw [List.getElem?_set_self (by rw [hi2.len];omega)] at h;cases h⟩ (by simp only;omega)
  simp (maxSteps:=2000000) [-getElem?_pos,-List.map_set,hsy] at ih'
  simp (maxSteps:=2000000) [-getElem?_pos,-List.map_set,hi2.len,hsy,hks,hb,hr,ht,htb,show (0:Int)≤u by omega,show u<a.acc.length by omega,show m<a.acc.length by omega,wrap_succ (show k+1≤9223372036854775807 by have:=hv.hi;omega)]
  exact ih'
end Go.Dv
namespace Go.Dv
open Go Go.Sim Go.Proofs Go.Fsa
attribute [local simp] bitF autD b_neqB b_eqlB
theorem w89 (a:Aut) (base:Nat) (D:DH):callD Q 89 [autD a] base D=some (intD a.begin,D):=by
 rw [call_pure (fn:=Tryz.f89) (show Q.P.funcs[89]? =some Tryz.f89 from Tryz.func89) rfl ann89 rfl (by simp only [List.length_cons,List.length_nil];decide) (by kernel_rfl)]
 by_cases h:a.acc.length=0
 ·simp (maxSteps:=2000000) [-getElem?_pos,h,Aut.begin]
 ·obtain ⟨n,hn⟩:∃ n,a.acc.length=n+1:=⟨a.acc.length-1,by omega⟩
  simp (maxSteps:=2000000) [-getElem?_pos,hn,Aut.begin,show ¬((n:Int)+1=0) by omega]
theorem w91 (a:Aut) (hv:a.valid) (s:Int) (hs:s<(a.nxt.length:Nat)) (c:Nat) (hc:(c:Int)<a.sy) (base:Nat) (D:DH):callD Q 91 [autD a,intD s,intD c] base D=some (intD (a.go s c),D):=by
 rw [call_pure (fn:=Tryz.f91) (show Q.P.funcs[91]? =some Tryz.f91 from Tryz.func91) rfl ann91 rfl (by simp only [List.length_cons,List.length_nil];decide) (by kernel_rfl)]
 by_cases h:s<0
 ·rw [Aut.go_neg h]
  simp (maxSteps:=2000000) [-getElem?_pos,h]
 ·obtain ⟨n,rfl⟩:∃ n:Nat,s=n:=⟨s.toNat,by omega⟩
  obtain ⟨r,h1,h2⟩:=a.go_some hv (by omega) hs hc
  rw [Int.toNat_natCast] at h1
  simp (maxSteps:=2000000) [-getElem?_pos,h,h1,h2]
theorem c91 {sy st:Int} {acc:List Bool} {nxt:List (List Int)} {s:Int} {c:Nat} {base:Nat} {D:DH} (hv:Aut.valid ⟨sy,st,acc,nxt⟩) (hs:s<(nxt.length:Nat)) (hc:(c:Int)<sy):callD Q 91 [.agg [.f (.raw (.int .i64 sy)),.f (.raw (.int .i64 st)),.f (.lst (acc.map bitF)),.f (.lst (nxt.map rowF))],.f (.raw (.int .i64 s)),.f (.raw (.int .i64 c))] base D=some (.f (.raw (.int .i64 (Aut.go ⟨sy,st,acc,nxt⟩ s c))),D):=w91 ⟨sy,st,acc,nxt⟩ hv s hs c hc base D
end Go.Dv
namespace Go.Dv
open Go Go.Sim Go.Proofs Go.Fsa
attribute [local simp] bitF autD b_neqB b_eqlB
def numD (n:Int):DV:=.f (.raw (.int .i64 n))
theorem el_num {l:List Int}:List.map (elD ∘ intF) l=l.map numD:=rfl
theorem set_num {l:List Int} {i:Nat} {n:Int}:(l.map numD).set i (.f (.raw (.int .i64 n)))=(l.set i n).map numD:=set_map (f:=numD)
theorem fz_num {b:Nat} {D:DH} {l:List Int} {k:Nat}:frzL (frz b D (k+1)) (l.map numD)=some (l.map intF,[]):=fzL_map fun _=>rfl
theorem rep_num {n:Nat}:List.replicate n (DV.f (.raw (.int .i64 0)))=(List.replicate n (0:Int)).map numD:=by rw [List.map_replicate];rfl
attribute [local simp] el_num set_num fz_num numD
theorem c106 {sy st:Int} {acc:List Bool} {nxt:List (List Int)} {base:Nat} {D:DH} (hv:Aut.valid ⟨sy,st,acc,nxt⟩):callD Q 106 [.agg [.f (.raw (.int .i64 sy)),.f (.raw (.int .i64 st)),.f (.lst (acc.map bitF)),.f (.lst (nxt.map rowF))]] base D=some (.f (.lst ((Aut.liveL ⟨sy,st,acc,nxt⟩).map bitF)),D):=w106 ⟨sy,st,acc,nxt⟩ hv base D
theorem w59 (a:Aut) (hv:a.valid) (c:List Int) (F0:Nat) (hc:a.iterC F0 0 (Cl0 a)=some c) (base:Nat) (D:DH):callD Q 59 [autD a] base D=some (.f (.lst (c.map intF)),D):=by
 rw [call_pure (fn:=Tryz.f59) (show Q.P.funcs[59]? =some Tryz.f59 from Tryz.func59) rfl ann59 rfl (by simp only [List.length_cons,List.length_nil];decide) (by kernel_rfl)]
 have gp:=gp59
 simp only [ann59,Tryz.f59,gpB_some,gpC_draw,gpC_reg,gpC_seq,gpC_cond,gpC_block,gpC_loop,gpC_range,gpC_skip,gpC_ret,gpC_exit,gpC_label,gpO_some,gpO_none,findN,Bool.and_eq_true,Bool.and_true,Bool.true_and,reduceIte,Nat.reduceEqDiff,true_and,and_true] at gp
 have hmost:=hv.most
 have hlen:=hv.len
 have hmost':a.acc.length≤20000:=by omega
 simp (maxSteps:=2000000) [-getElem?_pos,-List.map_set,gp,c106,hv,hlen,show a.acc.length*8≤140737488355328 by omega,show a.acc.length<9223372036854775808 by omega]
 rw [rep_num]
 generalize hX:loopG _ _ _=X
 obtain ⟨tm,rfl,t1,t3,t5⟩:∃ tm,X=some (.exit 0,⟨tm,D++[.arr 4 [autD a],.arr 1 ((Cl0 a).map numD)]⟩)∧tm.get 1=some (.ref D.length 0 0)∧tm.get 3=some (intD a.acc.length)∧tm.get 5=some (.row (D.length+1) 0 a.acc.length a.acc.length):=by
  rw [← hX]
  clear hX hc
  generalize hs15:SD.mk _ _=sd15
  revert sd15
  refine wl (fun p:Nat×List Int=>⟨((((Trie.leaf.put 6 (intD p.1)).put 5 (.row (D.length+1) 0 a.acc.length a.acc.length)).put 4 (.f (.lst (a.liveL.map bitF)))).put 3 (intD a.acc.length)).put 1 (.ref D.length 0 0),D++[.arr 4 [autD a],.arr 1 (p.2.map numD)]⟩) (fun p=>p.1≤a.acc.length∧p.2.length=a.acc.length∧∀ j,j<p.1→p.2[j]? =(Cl0 a)[j]?) (fun p=>a.acc.length-p.1) ?_ (0,List.replicate a.acc.length 0) ⟨Nat.zero_le _,by simp [-getElem?_pos,-List.map_set],fun j h=>absurd h (Nat.not_lt_zero _)⟩
  rintro ⟨i,l⟩ ⟨hi,hl,hp⟩ ih
  simp only at hi hl hp ih
  rw [loopG_eq]
  by_cases hlt:i<a.acc.length
  ·have step:∀ v:Int,(Cl0 a)[i]? =some v→_:=fun v hcv=>ih (i+1,l.set i v) ⟨by omega,by simp only [List.length_set];exact hl,fun j hj=>by
    by_cases e:j=i
    ·subst e;rw [hcv,List.getElem?_set_self (by omega)]
    ·rw [List.getElem?_set_ne (by omega)];exact hp j (by simp only at hj;omega)⟩ (by simp only;omega)
   obtain ⟨x,hx⟩:∃ x,l[i]? =some x:=⟨_,List.getElem?_eq_getElem (by omega)⟩
   obtain ⟨b,hb⟩:∃ b,a.liveL[i]? =some b:=⟨_,List.getElem?_eq_getElem (by rw [Aut.liveL_len];omega)⟩
   obtain ⟨b',hb'⟩:∃ b,a.acc[i]? =some b:=⟨_,List.getElem?_eq_getElem hlt⟩
   have hss:∀ v,(l.set i v)[i]? =some v:=fun v=>List.getElem?_set_self (by omega)
   have hw:=wrap_succ (show i+1≤9223372036854775807 by omega)
   cases b with
   | false=>
    have ih':=step (-1) (by rw [Cl0_get hlt,hb];rfl)
    simp (maxSteps:=2000000) [-getElem?_pos,-List.map_set] at ih'
    simp (maxSteps:=2000000) [-getElem?_pos,-List.map_set,gp,hlt,hx,hb,hl,hw]
    exact ih'
   | true=>
    cases b' with
    | false=>
     have ih':=step 0 (by rw [Cl0_get hlt,hb,hb'];rfl)
     simp (maxSteps:=2000000) [-getElem?_pos,-List.map_set] at ih'
     simp (maxSteps:=2000000) [-getElem?_pos,-List.map_set,gp,hlt,hx,hb,hb',hl,hw,hss]
     exact ih'
    | true=>
     have ih':=step 1 (by rw [Cl0_get hlt,hb,hb'];rfl)
     simp (maxSteps:=2000000) [-getElem?_pos,-List.map_set] at ih'
     simp (maxSteps:=2000000) [-getElem?_pos,-List.map_set,gp,hlt,hx,hb,hb',hl,hw,hss]
     exact ih'
  have hl0:l=Cl0 a:=by
   refine List.ext_getElem? fun j=>?_
   rcases Nat.lt_or_ge j a.acc.length with g | g
   ·exact hp j (by omega)
   ·rw [List.getElem?_eq_none (by omega),List.getElem?_eq_none (by rw [Cl0_len];exact g)]
  subst hl0
  simp (maxSteps:=2000000) [-getElem?_pos,-List.map_set,gp,hlt]
 clear hX
 have htk:List.take a.acc.length ((Cl0 a).map numD)=(Cl0 a).map numD:=List.take_of_length_le (by simp [-getElem?_pos,-List.map_set,Cl0_len])
 simp (maxSteps:=2000000) [-getElem?_pos,-List.map_set,gp,t1,t3,t5,Cl0_len,htk]
 clear t1 t3 t5 tm
 generalize hX:loopG _ _ _=X
 obtain ⟨tm,E,rfl,t2⟩:∃ tm E,X=some (.ret,⟨tm,D++E⟩)∧tm.get 2=some (rowD c):=by
  rw [← hX]
  clear hX
  generalize hs16:SD.mk _ _=sd16
  revert sd16
  refine wl (fun p:Nat×Nat×List Int=>⟨(((Trie.leaf.put 7 (intD p.2.1)).put 5 (rowD p.2.2)).put 3 (intD a.acc.length)).put 1 (.ref D.length 0 0),D++[.arr 4 [autD a],.dead]⟩) (fun p=>p.2.2.length=a.acc.length∧a.iterC p.1 p.2.1 p.2.2=some c) (fun p=>p.1) ?_ (F0,0,Cl0 a) ⟨Cl0_len,hc⟩
  clear hc
  rintro ⟨F,cnt,cl⟩ ⟨hcl,hc⟩ ihM
  simp only at hcl hc ihM
  rw [loopG_eq]
  simp (maxSteps:=2000000) [-getElem?_pos,-List.map_set,gp,show a.acc.length*24≤140737488355328 by omega,show a.acc.length<9223372036854775808 by omega]
  obtain ⟨R0,hR0⟩:∃ R:List DV,R=List.replicate a.acc.length nilS:=⟨_,rfl⟩
  rw [← hR0]
  generalize hX:loopG _ _ _=X
  obtain ⟨tm,rfl,t1,t3,t5,t7,t8⟩:∃ tm,X=some (.exit 4,⟨tm,D++[.arr 4 [autD a],.dead,.arr 1 ((List.range a.acc.length).map fun j=>rowD (a.keyC cl j))]⟩)∧tm.get 1=some (.ref D.length 0 0)∧tm.get 3=some (intD a.acc.length)∧tm.get 5=some (rowD cl)∧tm.get 7=some (intD cnt)∧tm.get 8=some (.row (D.length+2) 0 a.acc.length a.acc.length):=by
   rw [← hX]
   clear hX ihM hc
   generalize hs17:SD.mk _ _=sd17
   revert sd17
   refine wl (fun p:Nat×List DV=>⟨(((((Trie.leaf.put 9 (intD p.1)).put 8 (.row (D.length+2) 0 a.acc.length a.acc.length)).put 7 (intD cnt)).put 5 (rowD cl)).put 3 (intD a.acc.length)).put 1 (.ref D.length 0 0),D++[.arr 4 [autD a],.dead,.arr 1 p.2]⟩) (fun p=>p.1≤a.acc.length∧p.2.length=a.acc.length∧(∀ j,j<p.1→p.2[j]? =some (rowD (a.keyC cl j)))∧∀ j,p.1≤j→j<a.acc.length→p.2[j]? =some nilS) (fun p=>a.acc.length-p.1) ?_ (0,R0) ⟨Nat.zero_le _,by simp [-getElem?_pos,-List.map_set,hR0],fun j h=>absurd h (Nat.not_lt_zero _),fun j _ h=>by rw [hR0,List.getElem?_replicate,if_pos h]⟩
   rintro ⟨i,R⟩ ⟨hi,hRl,hR1,hR2⟩ ihR
   simp only at hi hRl hR1 hR2 ihR
   rw [loopG_eq]
   have hbl:∀ L,∀ x∈R,below L x=true:=fun L x hx=>by
    obtain ⟨j,hj,rfl⟩:=List.getElem_of_mem hx
    rcases Nat.lt_or_ge j i with g | g
    ·have:=hR1 j g
     rw [List.getElem?_eq_getElem hj,Option.some.injEq] at this
     rw [this];exact bl_f
    ·have:=hR2 j g (by omega)
     rw [List.getElem?_eq_getElem hj,Option.some.injEq] at this
     rw [this];exact bl_f
   by_cases hlt:i<a.acc.length
   ·have hRi:=hR2 i (Nat.le_refl _) hlt
    obtain ⟨x,hx⟩:∃ x,cl[i]? =some x:=⟨_,List.getElem?_eq_getElem (by omega)⟩
    have hbs:∀ L p q,p<L→∀ x∈R.set i (.apl p q),below L x=true:=fun L p q hp x hx=>by
     rcases List.mem_or_eq_of_mem_set hx with h | rfl
     ·exact hbl L x h
     ·rw [bl_apl];exact decide_eq_true hp
    have hbs':=hbs (D.length+5) (D.length+4) 1 (by omega)
    obtain ⟨r,hr⟩:∃ r,a.nxt[i]? =some r:=⟨_,List.getElem?_eq_getElem (by omega)⟩
    have hrl:=(hv.rows r (List.mem_of_getElem? hr)).1
    have hrt:=(hv.rows r (List.mem_of_getElem? hr)).2
    have hkey:a.keyC cl i=x::r.map (clAt cl):=by simp [-getElem?_pos,-List.map_set,Aut.keyC,hx,hr]
    simp (maxSteps:=2000000) [-getElem?_pos,-List.map_set,gp,hlt,hRi,hx,hRl]
    rw [if_pos hbs']
    generalize hX:loopG _ _ _=X
    obtain ⟨tm,rfl,t1,t3,t5,t7,t8,t9⟩:∃ tm,X=some (.exit 6,⟨tm,D++[.arr 4 [autD a],.dead,.arr 1 (R.set i (.apl (D.length+4) (a.keyC cl i).length)),.arr 1 [numD x],.app 3 1 ((a.keyC cl i).map numD)]⟩)∧tm.get 1=some (.ref D.length 0 0)∧tm.get 3=some (intD a.acc.length)∧tm.get 5=some (rowD cl)∧tm.get 7=some (intD cnt)∧tm.get 8=some (.row (D.length+2) 0 a.acc.length a.acc.length)∧tm.get 9=some (intD i):=by
     rw [← hX]
     clear hX ihR
     generalize hs18:SD.mk _ _=sd18
     revert sd18
     refine wl (fun p:Nat×List Int=>⟨((((((Trie.leaf.put 10 (intD p.1)).put 9 (intD i)).put 8 (.row (D.length+2) 0 a.acc.length a.acc.length)).put 7 (intD cnt)).put 5 (rowD cl)).put 3 (intD a.acc.length)).put 1 (.ref D.length 0 0),D++[.arr 4 [autD a],.dead,.arr 1 (R.set i (.apl (D.length+4) (p.1+1))),.arr 1 [numD x],.app 3 1 (p.2.map numD)]⟩) (fun p=>(p.1:Int)≤a.sy∧p.2=(a.keyC cl i).take (p.1+1)) (fun p=>a.sy.toNat-p.1) ?_ (0,[x]) ⟨by have:=hv.lo;simp only;omega,by simp [-getElem?_pos,-List.map_set,hkey]⟩
     rintro ⟨k,l⟩ ⟨hk,hl'⟩ ihK
     simp only at hk hl' ihK
     rw [loopG_eq]
     have hll:l.length=k+1:=by rw [hl',List.length_take,hkey];simp [-getElem?_pos,-List.map_set];omega
     have hsx:=List.getElem?_set_self (l:=R) (i:=i) (a:=DV.apl (D.length+4) (k+1)) (by omega)
     have hbs':=hbs (D.length+5) (D.length+4) (k+1+1) (by omega)
     by_cases hks:(k:Int)<a.sy
     ·obtain ⟨t,ht⟩:∃ t,r[k]? =some t:=⟨_,List.getElem?_eq_getElem (by omega)⟩
      have next:l++[clAt cl t]=(a.keyC cl i).take (k+1+1):=by
       rw [hl',List.take_add_one (i:=k+1),hkey];simp [-getElem?_pos,-List.map_set,ht]
      have ih':=ihK (k+1,l++[clAt cl t]) ⟨by simp only;omega,next⟩ (by simp only;omega)
      simp (maxSteps:=2000000) [-getElem?_pos,-List.map_set] at ih'
      have hw:=wrap_succ (show k+1≤9223372036854775807 by have:=hv.hi;omega)
      by_cases ht0:t<0
      ·rw [show clAt cl t=-1 by simp [-getElem?_pos,-List.map_set,clAt,show ¬0≤t by omega]] at ih'
       simp (maxSteps:=2000000) [-getElem?_pos,-List.map_set,gp,hks,hr,ht,show ¬0≤t by omega,hll,hRl,hsx,hlt,hw,show (k+1+1)*8≤1099511627776 by have:=hv.hi;omega,show k≤1099511627774 by have:=hv.hi;omega]
       rw [if_pos hbs']
       exact ih'
      ·obtain ⟨u,rfl⟩:∃ u:Nat,t=u:=⟨t.toNat,by omega⟩
       have hu:=(hrt u (List.mem_of_getElem? ht)).2
       obtain ⟨y,hy⟩:∃ y,cl[u]? =some y:=⟨_,List.getElem?_eq_getElem (by omega)⟩
       rw [show clAt cl u=y by simp [-getElem?_pos,-List.map_set,clAt,hy]] at ih'
       simp (maxSteps:=2000000) [-getElem?_pos,-List.map_set,gp,hks,hr,ht,hy,show (0:Int)≤u by omega,hll,hRl,hsx,hlt,hw,show (k+1+1)*8≤1099511627776 by have:=hv.hi;omega,show k≤1099511627774 by have:=hv.hi;omega]
       rw [if_pos hbs']
       exact ih'
     ·have hfin:l=a.keyC cl i:=by rw [hl',List.take_of_length_le];rw [hkey];simp [-getElem?_pos,-List.map_set];omega
      subst hfin
      simp (maxSteps:=2000000) [-getElem?_pos,-List.map_set,gp,hks,hll]
    clear hX
    have ih':=ihR (i+1,R.set i (rowD (a.keyC cl i))) ⟨by simp only;omega,by simp only [List.length_set];exact hRl,fun j hj=>by
     by_cases e:j=i
     ·subst e;rw [List.getElem?_set_self (by omega)]
     ·rw [List.getElem?_set_ne (by omega)];exact hR1 j (by simp only at hj;omega),fun j hj hj2=>by
     rw [List.getElem?_set_ne (by simp only at hj;omega)];exact hR2 j (by simp only at hj;omega) hj2⟩ (by simp only;omega)
    simp (maxSteps:=2000000) [-getElem?_pos,-List.map_set] at ih'
    have hsx:=List.getElem?_set_self (l:=R) (i:=i) (a:=DV.apl (D.length+4) (a.keyC cl i).length) (by omega)
    have hbs2:∀ x∈R.set i (DV.f (FV.lst ((a.keyC cl i).map intF))),below (D.length+3) x=true:=fun x hx=>by
     rcases List.mem_or_eq_of_mem_set hx with h | rfl
     ·exact hbl _ x h
     ·exact bl_f
    simp (maxSteps:=2000000) [-getElem?_pos,-List.map_set,gp,t1,t3,t5,t7,t8,t9,hsx,hRl,hlt,wrap_succ (show i+1≤9223372036854775807 by omega)]
    rw [if_pos hbs2]
    exact ih'
   ·have hRR:R=(List.range a.acc.length).map fun j=>rowD (a.keyC cl j):=by
     refine List.ext_getElem? fun j=>?_
     rcases Nat.lt_or_ge j a.acc.length with g | g
     ·rw [hR1 j (by omega),List.getElem?_map,List.getElem?_range g];rfl
     ·rw [List.getElem?_eq_none (by omega),List.getElem?_eq_none (by simpa [-getElem?_pos,-List.map_set] using g)]
    subst hRR
    simp (maxSteps:=2000000) [-getElem?_pos,-List.map_set,gp,hlt]
  clear hX
  have htk:List.take a.acc.length ((List.range a.acc.length).map fun j=>rowD (a.keyC cl j))=(List.range a.acc.length).map fun j=>rowD (a.keyC cl j):=List.take_of_length_le (by simp [-getElem?_pos,-List.map_set])
  have hfz:∀ b D,frzL (frz b D 3) ((List.range a.acc.length).map fun j=>rowD (a.keyC cl j))=some ((List.range a.acc.length).map fun j=>rowF (a.keyC cl j),[]):=fun b D=>fzL_map fun _=>rfl
  simp only [rowD,rowF] at htk hfz
  simp (maxSteps:=2000000) [-getElem?_pos,-List.map_set,gp,t1,t3,t5,t7,t8,htk,hfz,show a.acc.length*8≤140737488355328 by omega,show a.acc.length<9223372036854775808 by omega]
  obtain ⟨F,rfl⟩:∃ F',F=F'+1:=by
   cases F with
   | zero=>simp [-getElem?_pos,-List.map_set,Aut.iterC] at hc
   | succ F=>exact ⟨F,rfl⟩
  generalize hX:loopG _ _ _=X
  obtain ⟨tm,fi,rfl,hfi,t1,t3,t7,t12,t13⟩:∃ (tm:Trie DV) (fi:List Nat),X=some (.exit 8,⟨tm,D++[.arr 4 [autD a],.dead,.dead,.arr 1 ((numO [] (a.keysC cl)).1.map numD),.app 3 1 (fi.map fun f:Nat=>numD f)]⟩)∧fi.map (a.keyC cl)=(numO [] (a.keysC cl)).2∧tm.get 1=some (.ref D.length 0 0)∧tm.get 3=some (intD a.acc.length)∧tm.get 7=some (intD cnt)∧tm.get 12=some (.row (D.length+3) 0 a.acc.length a.acc.length)∧tm.get 13=some (.apl (D.length+4) fi.length):=by
   rw [← hX]
   clear hX ihM hc htk hfz t1 t3 t5 t7 t8
   obtain ⟨L0,hL0⟩:∃ L:List Int,L=List.replicate a.acc.length 0:=⟨_,rfl⟩
   rw [rep_num,← hL0]
   generalize hs19:SD.mk _ _=sd19
   revert sd19
   refine wl (fun p:Nat×List Int×List Nat=>⟨(((((((Trie.leaf.put 14 (intD p.1)).put 13 (.apl (D.length+4) p.2.2.length)).put 12 (.row (D.length+3) 0 a.acc.length a.acc.length)).put 8 (.f (.lst ((List.range a.acc.length).map fun j=>rowF (a.keyC cl j))))).put 7 (intD cnt)).put 5 (rowD cl)).put 3 (intD a.acc.length)).put 1 (.ref D.length 0 0),D++[.arr 4 [autD a],.dead,.dead,.arr 1 (p.2.1.map numD),.app 3 1 (p.2.2.map fun f:Nat=>numD f)]⟩) (fun p=>p.1≤a.acc.length∧p.2.1.length=a.acc.length∧p.2.1.take p.1=(numO [] ((a.keysC cl).take p.1)).1∧p.2.2.map (a.keyC cl)=(numO [] ((a.keysC cl).take p.1)).2∧∀ f∈p.2.2,f<a.acc.length) (fun p=>a.acc.length-p.1) ?_ (0,L0,[]) ⟨Nat.zero_le _,by simp [-getElem?_pos,-List.map_set,hL0],rfl,rfl,fun f h=>by cases h⟩
   rintro ⟨i,N,fi⟩ ⟨hi,hNl,hN,hfi,hfm⟩ ih
   simp only at hi hNl hN hfi hfm ih
   rw [loopG_eq]
   by_cases hlt:i<a.acc.length
   ·obtain ⟨x,hx⟩:∃ x,cl[i]? =some x:=⟨_,List.getElem?_eq_getElem (by omega)⟩
    obtain ⟨z,hz⟩:∃ x,N[i]? =some x:=⟨_,List.getElem?_eq_getElem (by omega)⟩
    have hw:=wrap_succ (show i+1≤9223372036854775807 by omega)
    have hk:=keysC_get (a:=a) (cl:=cl) hlt
    rw [hx,Option.getD_some] at hk
    have hkt:(a.keysC cl).take (i+1)=(a.keysC cl).take i++[if x<0 then none else some (a.keyC cl i)]:=by rw [List.take_add_one,hk];rfl
    have hset:∀ v,(N.set i v).take (i+1)=N.take i++[v]:=fun v=>by
     rw [List.take_add_one,List.take_set_of_le (Nat.le_refl _),List.getElem?_set_self (by omega)];rfl
    by_cases hx0:x<0
    ·rw [if_pos hx0] at hkt
     have ih':=ih (i+1,N.set i (-1),fi) ⟨by simp only;omega,by simp only [List.length_set];exact hNl,by simp only;rw [hkt,hset,numO_snoc_none,hN],by simp only;rw [hkt,numO_snoc_none,hfi],hfm⟩ (by simp only;omega)
     simp (maxSteps:=2000000) [-getElem?_pos,-List.map_set] at ih'
     simp (maxSteps:=2000000) [-getElem?_pos,-List.map_set,gp,hlt,hx,hz,hx0,hw,hNl]
     exact ih'
    ·rw [if_neg hx0] at hkt
     have hij:∀ j,j<a.acc.length→(a.keyC cl j).length=a.sy.toNat+1:=fun j hj=>by
      obtain ⟨r,r1,r2,_⟩:=row_go hv.fine hj
      simp [-getElem?_pos,-List.map_set,Aut.keyC,r1];omega
     have hflen:fi.length≤i:=by
      have h1:=congrArg List.length hfi
      have h2:=numO_count (l:=(a.keysC cl).take i) (ks:=[])
      simp only [List.length_map,List.length_take,List.length_nil] at h1 h2;omega
     obtain ⟨v,hv'⟩:∃ v:Int,v=if a.keyC cl i∈fi.map (a.keyC cl) then (numK (fi.map (a.keyC cl)) (a.keyC cl i):Int) else -1:=⟨_,rfl⟩
     simp (maxSteps:=2000000) [-getElem?_pos,-List.map_set,gp,hlt,hx,hz,hx0,hNl]
     generalize hX:loopG _ _ _=X
     obtain ⟨tm,rfl,t1,t3,t5,t7,t8,t12,t13,t14⟩:∃ tm,X=some (.exit 10,⟨tm,D++[.arr 4 [autD a],.dead,.dead,.arr 1 ((N.set i v).map numD),.app 3 1 (fi.map fun f:Nat=>numD f)]⟩)∧tm.get 1=some (.ref D.length 0 0)∧tm.get 3=some (intD a.acc.length)∧tm.get 5=some (rowD cl)∧tm.get 7=some (intD cnt)∧tm.get 8=some (.f (.lst ((List.range a.acc.length).map fun j=>rowF (a.keyC cl j))))∧tm.get 12=some (.row (D.length+3) 0 a.acc.length a.acc.length)∧tm.get 13=some (.apl (D.length+4) fi.length)∧tm.get 14=some (intD i):=by
      rw [← hX]
      clear hX ih
      generalize hs20:SD.mk _ _=sd20
      revert sd20
      refine wl (fun p:Nat×Int=>⟨((((((((Trie.leaf.put 15 (intD p.1)).put 14 (intD i)).put 13 (.apl (D.length+4) fi.length)).put 12 (.row (D.length+3) 0 a.acc.length a.acc.length)).put 8 (.f (.lst ((List.range a.acc.length).map fun j=>rowF (a.keyC cl j))))).put 7 (intD cnt)).put 5 (rowD cl)).put 3 (intD a.acc.length)).put 1 (.ref D.length 0 0),D++[.arr 4 [autD a],.dead,.dead,.arr 1 ((N.set i p.2).map numD),.app 3 1 (fi.map fun f:Nat=>numD f)]⟩) (fun p=>p.1≤fi.length∧((p.2=-1∧∀ j f:Nat,j<p.1→fi[j]? =some f→a.keyC cl f≠a.keyC cl i)∨(0≤p.2∧p.2=v))) (fun p=>fi.length-p.1) ?_ (0,-1) ⟨Nat.zero_le _,.inl ⟨rfl,fun j f h=>absurd h (Nat.not_lt_zero _)⟩⟩
      rintro ⟨k,u⟩ ⟨hk,hu⟩ ihK
      simp only at hk hu ihK
      rw [loopG_eq]
      have hsu:=List.getElem?_set_self (l:=N) (i:=i) (a:=u) (by omega)
      rcases hu with ⟨rfl,hu⟩ | ⟨hu0,rfl⟩
      ·by_cases hkf:k<fi.length
       ·obtain ⟨f,hf⟩:∃ f,fi[k]? =some f:=⟨_,List.getElem?_eq_getElem hkf⟩
        have hfn:=hfm f (List.mem_of_getElem? hf)
        have hi2:(List.range a.acc.length)[i]? =some i:=List.getElem?_range hlt
        have hf2:(List.range a.acc.length)[f]? =some f:=List.getElem?_range hfn
        have hlf:=hij f hfn
        have hli:=hij i hlt
        have hw:=wrap_succ (show k+1≤9223372036854775807 by omega)
        have hcall:=w107 (a.keyC cl i) (a.keyC cl f) (by rw [hli];have:=hv.hi;omega) (by rw [hli,hlf]) D.length
        simp only [rowD,rowF,boolD] at hcall
        by_cases he:a.keyC cl i=a.keyC cl f
        ·have hv2:(k:Int)=v:=by
          have hg:(fi.map (a.keyC cl))[k]? =some (a.keyC cl i):=by rw [List.getElem?_map,hf,Option.map_some,he]
          rw [hv',if_pos (List.mem_of_getElem? hg),numK_of hg fun j hj hn=>by
           rw [List.getElem?_map] at hn
           obtain ⟨g,g1,g2⟩:=Option.map_eq_some_iff.1 hn
           exact hu j g hj g1 g2]
         have ih':=ihK (k+1,(k:Int)) ⟨by simp only;omega,.inr ⟨by simp only;omega,hv2⟩⟩ (by simp only;omega)
         simp (maxSteps:=2000000) [-getElem?_pos,-List.map_set] at ih'
         rw [decide_eq_true he] at hcall
         simp (maxSteps:=2000000) [-getElem?_pos,-List.map_set,gp,hlt,hkf,hf,hi2,hf2,hfn,hsu,hcall,show (Q.ann 107).raw=false by rw [ann107],hNl,hw]
         exact ih'
        ·have ih':=ihK (k+1,-1) ⟨by simp only;omega,.inl ⟨rfl,fun j g hj hg=>by
          by_cases e:j=k
          ·subst e;rw [hf,Option.some.injEq] at hg;subst hg;exact fun e=>he e.symm
          ·exact hu j g (by simp only at hj;omega) hg⟩⟩ (by simp only;omega)
         simp (maxSteps:=2000000) [-getElem?_pos,-List.map_set] at ih'
         simp (maxSteps:=2000000) [-getElem?_pos,-List.map_set,gp,hlt,hkf,hf,hi2,hf2,hfn,hsu,hcall,show (Q.ann 107).raw=false by rw [ann107],he,hNl,hw]
         exact ih'
       ·have hv2:v=-1:=by
         rw [hv',if_neg]
         intro hm
         obtain ⟨f,hf,he⟩:=List.mem_map.1 hm
         obtain ⟨j,hj,rfl⟩:=List.getElem_of_mem hf
         exact hu j _ (by omega) (List.getElem?_eq_getElem hj) he
        subst hv2
        simp (maxSteps:=2000000) [-getElem?_pos,-List.map_set,gp,hkf,hsu]
      ·by_cases hkf:k<fi.length
       ·simp (maxSteps:=2000000) [-getElem?_pos,-List.map_set,gp,hkf,hsu,hNl,hlt,show ¬u<0 by omega]
       ·simp (maxSteps:=2000000) [-getElem?_pos,-List.map_set,gp,hkf,hsu,hNl,hlt,show ¬u<0 by omega]
     clear hX
     have hsu:=List.getElem?_set_self (l:=N) (i:=i) (a:=v) (by omega)
     by_cases hm:a.keyC cl i∈fi.map (a.keyC cl)
     ·rw [if_pos hm] at hv'
      have ih':=ih (i+1,N.set i v,fi) ⟨by simp only;omega,by simp only [List.length_set];exact hNl,by simp only;rw [hkt,hset,numO_snoc,hN,← hfi,hv'],by simp only;rw [hkt,numO_snoc,← hfi];unfold addK;rw [if_pos hm],hfm⟩ (by simp only;omega)
      simp (maxSteps:=2000000) [-getElem?_pos,-List.map_set] at ih'
      simp (maxSteps:=2000000) [-getElem?_pos,-List.map_set,gp,t1,t3,t5,t7,t8,t12,t13,t14,hsu,hNl,hlt,show ¬v<0 by omega,hw]
      exact ih'
     ·rw [if_neg hm] at hv'
      subst hv'
      have ih':=ih (i+1,N.set i (fi.length:Int),fi++[i]) ⟨by simp only;omega,by simp only [List.length_set];exact hNl,by simp only;rw [hkt,hset,numO_snoc,hN,← hfi,numK_none hm,List.length_map],by simp only;rw [hkt,numO_snoc,← hfi];unfold addK;rw [if_neg hm,List.map_append];rfl,fun f hf=>by
       rcases List.mem_append.1 hf with h | h
       ·exact hfm f h
       ·rw [List.mem_singleton] at h;omega⟩ (by simp only;omega)
      simp (maxSteps:=2000000) [-getElem?_pos,-List.map_set] at ih'
      simp (maxSteps:=2000000) [-getElem?_pos,-List.map_set,gp,t1,t3,t5,t7,t8,t12,t13,t14,hsu,hNl,hlt,hw,show fi.length≤1099511627775 by omega,show (fi.length+1)*8≤1099511627776 by omega]
      exact ih'
   ·have hie:i=(a.keysC cl).length:=by rw [keysC_len];omega
    rw [hie,List.take_length] at hN hfi
    rw [keysC_len,List.take_of_length_le (by omega)] at hN
    rw [← hN,← hfi]
    simp (maxSteps:=2000000) [-getElem?_pos,-List.map_set,gp,hlt]
    refine ⟨_,fi,⟨rfl,rfl⟩,rfl,?_⟩
    simp [-getElem?_pos,-List.map_set]
  clear hX
  simp only [Aut.iterC] at hc
  have hNl:(numO [] (a.keysC cl)).1.length=a.acc.length:=by rw [numO_len,keysC_len]
  have htN:List.take a.acc.length ((numO [] (a.keysC cl)).1.map numD)=(numO [] (a.keysC cl)).1.map numD:=List.take_of_length_le (by simp [-getElem?_pos,-List.map_set,hNl])
  have hfl:=congrArg List.length hfi
  rw [List.length_map] at hfl
  rw [← hfl] at hc
  by_cases he:fi.length=cnt
  ·rw [if_pos he,Option.some.injEq] at hc
   subst hc
   simp (maxSteps:=2000000) [-getElem?_pos,-List.map_set,gp,t1,t3,t7,t12,t13,he,htN,hNl]
  ·rw [if_neg he] at hc
   have ih':=ihM (F,fi.length,(numO [] (a.keysC cl)).1) ⟨hNl,hc⟩ (by simp only;omega)
   simp (maxSteps:=2000000) [-getElem?_pos,-List.map_set] at ih'
   simp (maxSteps:=2000000) [-getElem?_pos,-List.map_set,gp,t1,t3,t7,t12,t13,he,htN,hNl]
   exact ih'
 simp (maxSteps:=2000000) [-getElem?_pos,-List.map_set,gp,t2]
end Go.Dv
namespace Go.Dv
open Go Go.Sim Go.Proofs Go.Fsa
attribute [local simp] bitF autD b_neqB b_eqlB el_num set_num fz_num numD bitD el_bit set_bit fz_bit
def autO (a:Aut) (e:Int):DV:=.tup [autD a,intD e]
theorem w15_bad (a:Aut) (hv:¬a.valid) (base:Nat) (D:DH):callD Q 15 [autD a] base D=some (autO ⟨0,0,[],[]⟩ 60,D):=by
 rw [call_pure (fn:=Tryz.f15) (show Q.P.funcs[15]? =some Tryz.f15 from Tryz.func15) rfl ann15 rfl (by simp only [List.length_cons,List.length_nil];decide) (by kernel_rfl)]
 have gp:=gp15
 simp only [ann15,Tryz.f15,gpB_some,gpC_draw,gpC_reg,gpC_seq,gpC_cond,gpC_block,gpC_loop,gpC_range,gpC_skip,gpC_ret,gpC_exit,gpC_label,gpO_some,gpO_none,findN,Bool.and_eq_true,Bool.and_true,Bool.true_and,reduceIte,Nat.reduceEqDiff,true_and,and_true] at gp
 have hc:a.check=60:=by simp [-getElem?_pos,-List.map_set,-objBelow,Aut.check,hv]
 simp (maxSteps:=2000000) [-getElem?_pos,-List.map_set,-objBelow,gp,c19,hc,autO]
theorem w15_none (a:Aut) (hv:a.valid) (cl:List Int) (F0:Nat) (hc:a.iterC F0 0 (Cl0 a)=some cl) (h0:clAt cl a.begin<0) (base:Nat) (D:DH):callD Q 15 [autD a] base D=some (autO ⟨a.sy,0,[],[]⟩ 0,D):=by
 rw [call_pure (fn:=Tryz.f15) (show Q.P.funcs[15]? =some Tryz.f15 from Tryz.func15) rfl ann15 rfl (by simp only [List.length_cons,List.length_nil];decide) (by kernel_rfl)]
 have gp:=gp15
 simp only [ann15,Tryz.f15,gpB_some,gpC_draw,gpC_reg,gpC_seq,gpC_cond,gpC_block,gpC_loop,gpC_range,gpC_skip,gpC_ret,gpC_exit,gpC_label,gpO_some,gpO_none,findN,Bool.and_eq_true,Bool.and_true,Bool.true_and,reduceIte,Nat.reduceEqDiff,true_and,and_true] at gp
 obtain ⟨sy,st,acc,nxt⟩:=a
 obtain ⟨s,rfl⟩:∃ s:Nat,st=s:=⟨st.toNat,by have:=hv.st0;simp only at this;omega⟩
 have hck:Aut.check ⟨sy,s,acc,nxt⟩=0:=Aut.check_valid.2 hv
 have hlen:=hv.len
 have hst1:=hv.st1
 obtain ⟨hcl,hcr⟩:=iterC_hi hc
 have hcall:∀ D',callD Q 59 [autD ⟨sy,s,acc,nxt⟩] D.length D'=some (rowD cl,D'):=fun D'=>w59 ⟨sy,s,acc,nxt⟩ hv cl F0 hc D.length D'
 simp only [autD,rowD,rowF] at hcall hlen hst1 hcl hcr
 by_cases hn:acc.length=0
 ·simp (maxSteps:=2000000) [-getElem?_pos,-List.map_set,-objBelow,gp,c19,hck,hcall,autO,hlen,hn]
 ·obtain ⟨x,hx⟩:∃ x,cl[s]? =some x:=⟨_,List.getElem?_eq_getElem (by omega)⟩
  have hx0:x<0:=by
   unfold Aut.begin at h0
   rw [if_neg hn] at h0
   simpa [-getElem?_pos,-List.map_set,-objBelow,clAt,hx] using h0
  simp (maxSteps:=2000000) [-getElem?_pos,-List.map_set,-objBelow,gp,c19,hck,hcall,autO,hlen,hn,hx,hx0]
theorem w15 (a:Aut) (hv:a.valid) (cl:List Int) (F0:Nat) (hc:a.iterC F0 0 (Cl0 a)=some cl) (h0:0≤clAt cl a.begin) (most F1:Nat) (qs:List Int) (rows:List (List Int))
  (hex:exR (clAt cl) (a.succR cl) most F1 0 [a.begin]=some (qs,rows)) (base:Nat) (D:DH):callD Q 15 [autD a] base D=some (autO ⟨a.sy,0,qs.map a.accB,rows⟩ 0,D):=by
 rw [call_pure (fn:=Tryz.f15) (show Q.P.funcs[15]? =some Tryz.f15 from Tryz.func15) rfl ann15 rfl (by simp only [List.length_cons,List.length_nil];decide) (by kernel_rfl)]
 have gp:=gp15
 simp only [ann15,Tryz.f15,gpB_some,gpC_draw,gpC_reg,gpC_seq,gpC_cond,gpC_block,gpC_loop,gpC_range,gpC_skip,gpC_ret,gpC_exit,gpC_label,gpO_some,gpO_none,findN,Bool.and_eq_true,Bool.and_true,Bool.true_and,reduceIte,Nat.reduceEqDiff,true_and,and_true] at gp
 obtain ⟨sy,st,acc,nxt⟩:=a
 obtain ⟨s,rfl⟩:∃ s:Nat,st=s:=⟨st.toNat,by have:=hv.st0;simp only at this;omega⟩
 obtain ⟨sy,rfl⟩:∃ s:Nat,sy=s:=⟨sy.toNat,by have:=hv.lo;simp only at this;omega⟩
 have hck:Aut.check ⟨sy,s,acc,nxt⟩=0:=Aut.check_valid.2 hv
 have hlen:=hv.len
 have hst1:=hv.st1
 have hmost:=hv.most
 obtain ⟨hcl,hcr⟩:=iterC_hi hc
 have hcall:∀ D',callD Q 59 [autD ⟨sy,s,acc,nxt⟩] D.length D'=some (rowD cl,D'):=fun D'=>w59 ⟨sy,s,acc,nxt⟩ hv cl F0 hc D.length D'
 simp only [autD,rowD,rowF] at hcall hlen hst1 hcl hcr hmost
 have hn:acc.length≠0:=by
  intro e
  unfold Aut.begin at h0
  rw [if_pos e] at h0
  simp [-getElem?_pos,-List.map_set,-objBelow,clAt] at h0
 have hb:Aut.begin ⟨sy,s,acc,nxt⟩=s:=by unfold Aut.begin;rw [if_neg hn]
 rw [hb] at h0 hex
 obtain ⟨x,hx⟩:∃ x,cl[s]? =some x:=⟨_,List.getElem?_eq_getElem (by omega)⟩
 have hxs:clAt cl s=x:=by simp [-getElem?_pos,-List.map_set,-objBelow,clAt,hx]
 rw [hxs] at h0
 obtain ⟨x,rfl⟩:∃ y:Nat,x=y:=⟨x.toNat,by omega⟩
 have hxn:=(hcr x (List.mem_of_getElem? hx)).2
 have hn':nxt.length≠0:=by omega
 simp (maxSteps:=2000000) [-getElem?_pos,-List.map_set,-objBelow,gp,c19,hck,hcall,hn',hx,h0,show ¬(x:Int)<0 by omega,show nxt.length*8≤140737488355328 by omega,show nxt.length<9223372036854775808 by omega]
 obtain ⟨N0,hN0⟩:∃ N:List Int,N=List.replicate nxt.length (-1):=⟨_,rfl⟩
 rw [rep_num]
 generalize hX:loopG _ _ _=X
 obtain ⟨tm,rfl,t1,t2,t4,t5,t6⟩:∃ tm,X=some (.exit 0,⟨tm,D++[.arr 4 [autD ⟨sy,s,acc,nxt⟩],.arr 4 [.agg [numD 0,numD 0,nilS,nilS]],.arr 4 [.agg [numD sy,numD 0,nilS,nilS]],.arr 1 (N0.map numD)]⟩)∧tm.get 1=some (.ref D.length 0 0)∧tm.get 2=some (.ref (D.length+1) 0 0)∧tm.get 4=some (.ref (D.length+2) 0 0)∧tm.get 5=some (rowD cl)∧tm.get 6=some (.row (D.length+3) 0 nxt.length nxt.length):=by
  rw [← hX]
  clear hX hc hex
  generalize hs21:SD.mk _ _=sd21
  revert sd21
  refine wl (fun p:Nat×List Int=>⟨(((((Trie.leaf.put 7 (intD p.1)).put 6 (.row (D.length+3) 0 nxt.length nxt.length)).put 5 (rowD cl)).put 4 (.ref (D.length+2) 0 0)).put 2 (.ref (D.length+1) 0 0)).put 1 (.ref D.length 0 0),D++[.arr 4 [autD ⟨sy,s,acc,nxt⟩],.arr 4 [.agg [numD 0,numD 0,nilS,nilS]],.arr 4 [.agg [numD sy,numD 0,nilS,nilS]],.arr 1 (p.2.map numD)]⟩) (fun p=>p.1≤nxt.length∧p.2.length=nxt.length∧∀ j,j<p.1→p.2[j]? =some (-1)) (fun p=>nxt.length-p.1) ?_ (0,List.replicate nxt.length 0) ⟨Nat.zero_le _,by simp [-getElem?_pos,-List.map_set,-objBelow],fun j h=>absurd h (Nat.not_lt_zero _)⟩
  rintro ⟨i,l⟩ ⟨hi,hl,hp⟩ ih
  simp only at hi hl hp ih
  rw [loopG_eq]
  by_cases hlt:i<nxt.length
  ·obtain ⟨z,hz⟩:∃ z,l[i]? =some z:=⟨_,List.getElem?_eq_getElem (by omega)⟩
   have ih':=ih (i+1,l.set i (-1)) ⟨by simp only;omega,by simp only [List.length_set];exact hl,fun j hj=>by
    by_cases e:j=i
    ·subst e;rw [List.getElem?_set_self (by omega)]
    ·rw [List.getElem?_set_ne (by omega)];exact hp j (by simp only at hj;omega)⟩ (by simp only;omega)
   simp (maxSteps:=2000000) [-getElem?_pos,-List.map_set,-objBelow] at ih'
   simp (maxSteps:=2000000) [-getElem?_pos,-List.map_set,-objBelow,gp,hlt,hl,hz,wrap_succ (show i+1≤9223372036854775807 by omega)]
   exact ih'
  ·have hl0:l=N0:=by
    rw [hN0]
    refine List.ext_getElem? fun j=>?_
    rcases Nat.lt_or_ge j nxt.length with g | g
    ·rw [hp j (by omega),List.getElem?_replicate,if_pos g]
    ·rw [List.getElem?_eq_none (by omega),List.getElem?_eq_none (by simpa [-getElem?_pos,-List.map_set,-objBelow] using g)]
   subst hl0
   simp (maxSteps:=2000000) [-getElem?_pos,-List.map_set,-objBelow,gp,hlt]
 clear hX
 have hxr:N0[x]? =some (-1):=by rw [hN0,List.getElem?_replicate,if_pos (by omega)]
 have hxl:x<nxt.length:=by omega
 obtain ⟨N1,hN1⟩:∃ N,N=N0.set x 0:=⟨_,rfl⟩
 have hNT:NumT nxt.length N1 [(x:Int)]:=by rw [hN1,hN0];exact NumT.one hxl
 simp (maxSteps:=2000000) [-getElem?_pos,-List.map_set,-objBelow,gp,t1,t2,t4,t5,t6,hx,hxr,hxl]
 rw [← hN1]
 clear t1 t2 t4 t5 t6 tm
 generalize hX:loopG _ _ _=X
 obtain ⟨tm,O1,O2,rfl,t1,t2,t4⟩:∃ tm O1 O2,X=some (.exit 2,⟨tm,D++[.arr 4 [autD ⟨sy,s,acc,nxt⟩],.arr 4 [.agg [numD 0,numD 0,nilS,nilS]],.arr 4 [.agg [numD sy,numD 0,.apl (D.length+5) qs.length,.apl (D.length+6) qs.length]],O1,O2,.app 4 1 ((qs.map (Aut.accB ⟨sy,s,acc,nxt⟩)).map bitD),.app 26 1 (rows.map rowD)]⟩)∧tm.get 1=some (.ref D.length 0 0)∧tm.get 2=some (.ref (D.length+1) 0 0)∧tm.get 4=some (.ref (D.length+2) 0 0):=by
  rw [← hX]
  clear hX
  generalize hs22:SD.mk _ _=sd22
  revert sd22
  refine wl (fun p:Nat×Nat×List Int×List Int×List (List Int)×List Bool=>⟨((((((Trie.leaf.put 9 (intD p.2.1)).put 8 (qV (D.length+4) p.2.2.1.length)).put 6 (.row (D.length+3) 0 nxt.length nxt.length)).put 5 (rowD cl)).put 4 (.ref (D.length+2) 0 0)).put 2 (.ref (D.length+1) 0 0)).put 1 (.ref D.length 0 0),D++[.arr 4 [autD ⟨sy,s,acc,nxt⟩],.arr 4 [.agg [numD 0,numD 0,nilS,nilS]],.arr 4 [.agg [numD sy,numD 0,.apl (D.length+5) p.2.1,.apl (D.length+6) p.2.1]],.arr 1 (p.2.2.2.1.map numD),qO 3 1 (p.2.2.1.map numD),.app 4 1 (p.2.2.2.2.2.map bitD),.app 26 1 (p.2.2.2.2.1.map rowD)]⟩)
   (fun p=>p.2.1≤p.2.2.1.length∧1≤p.2.2.1.length∧p.2.2.2.2.1.length=p.2.1∧p.2.2.2.2.2=(p.2.2.1.take p.2.1).map (Aut.accB ⟨sy,s,acc,nxt⟩)∧NumT nxt.length p.2.2.2.1 (p.2.2.1.map (clAt cl))∧(p.2.2.1.map (clAt cl)).Nodup∧(∀ t∈p.2.2.1,0≤t∧t<(nxt.length:Nat)∧0≤clAt cl t)∧∃ R,exR (clAt cl) (Aut.succR ⟨sy,s,acc,nxt⟩ cl) most p.1 p.2.1 p.2.2.1=some (qs,R)∧p.2.2.2.2.1++R=rows)
   (fun p=>p.1) ?_ (F1,0,[(s:Int)],N1,[],[]) ⟨Nat.zero_le _,Nat.le_refl _,rfl,rfl,by simpa [-getElem?_pos,-List.map_set,-objBelow,hxs] using hNT,by simp [-getElem?_pos,-List.map_set,-objBelow],fun t ht=>by rw [List.mem_singleton] at ht;subst ht;exact ⟨by omega,by omega,by rw [hxs];omega⟩,rows,hex,rfl⟩
  clear hex
  rintro ⟨F,i,q,N,R0,A⟩ ⟨hi,hq1,hR0,hA,hN,hnd,hdom,R,hex,hR⟩ ih
  simp only at hi hq1 hR0 hA hN hnd hdom hex hR ih
  rw [loopG_eq]
  obtain ⟨F,rfl⟩:∃ F',F=F'+1:=by
   cases F with
   | zero=>simp [-getElem?_pos,-List.map_set,-objBelow,exR] at hex
   | succ F=>exact ⟨F,rfl⟩
  simp only [exR] at hex
  by_cases hlt:i<q.length
  ·obtain ⟨t,ht⟩:∃ t,q[i]? =some t:=⟨_,List.getElem?_eq_getElem hlt⟩
   have htd:=hdom t (List.mem_of_getElem? ht)
   rw [ht] at hex
   simp only at hex
   split at hex
   ·cases hex
   obtain ⟨⟨qf,R2⟩,hex2,heq⟩:=Option.map_eq_some_iff.1 hex
   simp only [Prod.mk.injEq] at heq
   obtain ⟨rfl,rfl⟩:=heq
   obtain ⟨t,rfl⟩:∃ u:Nat,t=u:=⟨t.toNat,by omega⟩
   obtain ⟨bt,hbt⟩:∃ b,acc[t]? =some b:=⟨_,List.getElem?_eq_getElem (by omega)⟩
   have hab:Aut.accB ⟨sy,s,acc,nxt⟩ t=bt:=by simp [-getElem?_pos,-List.map_set,-objBelow,Aut.accB,hbt]
   obtain ⟨r,hr,hrl,hrg⟩:=row_go hv.fine (i:=t) (by simp only;omega)
   simp only at hr hrl hrg
   have hqn:∀ q:List Int,(q.map (clAt cl)).Nodup→(∀ t∈q,0≤t∧t<(nxt.length:Nat)∧0≤clAt cl t)→q.length≤nxt.length:=fun q h1 h2=>by
    have:=nodup_le h1 (n:=nxt.length) (fun x hx=>by
     obtain ⟨u,hu,rfl⟩:=List.mem_map.1 hx
     have h3:=h2 u hu
     obtain ⟨y,hy⟩:∃ y,cl[u.toNat]? =some y:=⟨_,List.getElem?_eq_getElem (by omega)⟩
     have:=hcr y (List.mem_of_getElem? hy)
     have e:clAt cl u=y:=by simp [-getElem?_pos,-List.map_set,-objBelow,clAt,show 0≤u by omega,hy]
     rw [e] at h3 ⊢
     omega)
    simpa [-getElem?_pos,-List.map_set,-objBelow] using this
   have hqi:=hqn q hnd hdom
   have hAl:A.length=i:=by rw [hA];simp [-getElem?_pos,-List.map_set,-objBelow];omega
   have hsy:=hv.hi
   simp only at hsy
   simp (maxSteps:=2000000) [-getElem?_pos,-List.map_set,-objBelow,gp,hlt,ht,hbt,htd.1,show i+1≤1099511627776 by omega,show i≤1099511627775 by omega,show sy*8≤140737488355328 by omega,show sy<9223372036854775808 by omega,hAl,hR0]
   obtain ⟨q',hq'⟩:∃ q',q'=addS (clAt cl) q (Aut.succR ⟨sy,s,acc,nxt⟩ cl t):=⟨_,rfl⟩
   have hre:Aut.succR ⟨sy,s,acc,nxt⟩ cl t=(Aut.succR ⟨sy,s,acc,nxt⟩ cl t).take sy:=(List.take_of_length_le (by rw [succR_len];simp [-getElem?_pos,-List.map_set,-objBelow])).symm
   generalize hX:loopG _ _ _=X
   obtain ⟨tm,N',rfl,hN',t1,t2,t4,t5,t6,t8,t9,t11⟩:∃ tm N',X=some (.exit 4,⟨tm,D++[.arr 4 [autD ⟨sy,s,acc,nxt⟩],.arr 4 [.agg [numD 0,numD 0,nilS,nilS]],.arr 4 [.agg [numD sy,numD 0,.apl (D.length+5) (i+1),.apl (D.length+6) i]],.arr 1 (N'.map numD),qO 3 1 (q'.map numD),.app 4 1 (A.map bitD++[bitD bt]),.app 26 1 (R0.map rowD),.arr 1 [bitD bt],.arr 1 ((rowS (clAt cl) q (Aut.succR ⟨sy,s,acc,nxt⟩ cl t)).map numD)]⟩)∧NumT nxt.length N' (q'.map (clAt cl))∧tm.get 1=some (.ref D.length 0 0)∧tm.get 2=some (.ref (D.length+1) 0 0)∧tm.get 4=some (.ref (D.length+2) 0 0)∧tm.get 5=some (rowD cl)∧tm.get 6=some (.row (D.length+3) 0 nxt.length nxt.length)∧tm.get 8=some (qV (D.length+4) q'.length)∧tm.get 9=some (intD i)∧tm.get 11=some (.row (D.length+8) 0 sy sy):=by
    rw [← hX]
    clear hX ih hex2
    obtain ⟨W0,hW0⟩:∃ L:List Int,L=List.replicate sy 0:=⟨_,rfl⟩
    rw [rep_num,← hW0]
    generalize hs23:SD.mk _ _=sd23
    revert sd23
    refine wl (fun p:Nat×List Int×List Int×List Int=>⟨(((((((((Trie.leaf.put 12 (intD p.1)).put 11 (.row (D.length+8) 0 sy sy)).put 10 (intD t)).put 9 (intD i)).put 8 (qV (D.length+4) p.2.1.length)).put 6 (.row (D.length+3) 0 nxt.length nxt.length)).put 5 (rowD cl)).put 4 (.ref (D.length+2) 0 0)).put 2 (.ref (D.length+1) 0 0)).put 1 (.ref D.length 0 0),D++[.arr 4 [autD ⟨sy,s,acc,nxt⟩],.arr 4 [.agg [numD 0,numD 0,nilS,nilS]],.arr 4 [.agg [numD sy,numD 0,.apl (D.length+5) (i+1),.apl (D.length+6) i]],.arr 1 (p.2.2.1.map numD),qO 3 1 (p.2.1.map numD),.app 4 1 (A.map bitD++[bitD bt]),.app 26 1 (R0.map rowD),.arr 1 [bitD bt],.arr 1 (p.2.2.2.map numD)]⟩)
     (fun p=>p.1≤sy∧p.2.1=addS (clAt cl) q ((Aut.succR ⟨sy,s,acc,nxt⟩ cl t).take p.1)∧NumT nxt.length p.2.2.1 (p.2.1.map (clAt cl))∧p.2.2.2.length=sy∧p.2.2.2.take p.1=rowS (clAt cl) q ((Aut.succR ⟨sy,s,acc,nxt⟩ cl t).take p.1)) (fun p=>sy-p.1) ?_ (0,q,N,W0) ⟨Nat.zero_le _,rfl,hN,by simp [-getElem?_pos,-List.map_set,-objBelow,hW0],rfl⟩
    rintro ⟨k,q1,N1,W⟩ ⟨hk,hq1',hN1,hWl,hW⟩ ihK
    simp only at hk hq1' hN1 hWl hW ihK
    rw [loopG_eq]
    by_cases hks:k<sy
    case neg=>
     have hk':k=sy:=by omega
     subst hk'
     rw [← hre] at hq1' hW
     rw [List.take_of_length_le (by omega)] at hW
     subst hW
     rw [← hq'] at hq1'
     subst hq1'
     simp (maxSteps:=2000000) [-getElem?_pos,-List.map_set,-objBelow,gp,hks,hN1]
     refine ⟨_,N1,⟨rfl,rfl⟩,hN1,?_⟩
     simp [-getElem?_pos,-List.map_set,-objBelow]
    have hL:=succR_take (a:=⟨sy,s,acc,nxt⟩) (cl:=cl) (s:=t) (k:=k) (by simpa [-getElem?_pos,-List.map_set,-objBelow] using hks)
    have hset:∀ v,(W.set k v).take (k+1)=W.take k++[v]:=fun v=>by
     rw [List.take_add_one,List.take_set_of_le (Nat.le_refl _),List.getElem?_set_self (by omega)];rfl
    obtain ⟨w0,hw0⟩:∃ x,W[k]? =some x:=⟨_,List.getElem?_eq_getElem (by omega)⟩
    have hws:∀ v,(W.set k v)[k]? =some v:=fun v=>List.getElem?_set_self (by omega)
    have hgo:=hrg k (by omega)
    have hgf:-1≤Aut.go ⟨sy,s,acc,nxt⟩ t k∧Aut.go ⟨sy,s,acc,nxt⟩ t k<(acc.length:Nat):=Aut.go_fine hv.fine
    obtain ⟨u,hu⟩:∃ u,u=Aut.go ⟨sy,s,acc,nxt⟩ t k:=⟨_,rfl⟩
    rw [← hu] at hgo hgf hL
    have hww:=wrap_succ (show k+1≤9223372036854775807 by omega)
    by_cases hcu:clAt cl u<0
    ·rw [if_pos hcu] at hL
     have ih':=ihK (k+1,q1,N1,W.set k (-1)) ⟨by simp only;omega,by simp only;rw [hL,addS_none,hq1'],hN1,by simp only [List.length_set];exact hWl,by simp only;rw [hset,hL,rowS_none,hW]⟩ (by simp only;omega)
     simp (maxSteps:=2000000) [-getElem?_pos,-List.map_set,-objBelow] at ih'
     by_cases hu0:u<0
     ·simp (maxSteps:=2000000) [-getElem?_pos,-List.map_set,-objBelow,gp,hks,ht,hr,hgo,hu0,hw0,hws,hWl,hAl,hR0,hww]
      exact ih'
     ·obtain ⟨u,rfl⟩:∃ y:Nat,u=y:=⟨u.toNat,by omega⟩
      obtain ⟨c,hc⟩:∃ c,cl[u]? =some c:=⟨_,List.getElem?_eq_getElem (by omega)⟩
      have hc0:c<0:=by simpa [-getElem?_pos,-List.map_set,-objBelow,clAt,hc] using hcu
      simp (maxSteps:=2000000) [-getElem?_pos,-List.map_set,-objBelow,gp,hks,ht,hr,hgo,hu0,hw0,hws,hWl,hc,hc0,hAl,hR0,hww]
      exact ih'
    ·rw [if_neg hcu] at hL
     have hu0:0≤u:=by
      rcases Int.lt_or_le u 0 with h | h
      ·exfalso;apply hcu;simp [-getElem?_pos,-List.map_set,-objBelow,clAt,show ¬0≤u by omega]
      ·exact h
     obtain ⟨u,rfl⟩:∃ y:Nat,u=y:=⟨u.toNat,by omega⟩
     obtain ⟨c,hc⟩:∃ c,cl[u]? =some c:=⟨_,List.getElem?_eq_getElem (by omega)⟩
     have hcc:clAt cl u=c:=by simp [-getElem?_pos,-List.map_set,-objBelow,clAt,hc]
     rw [hcc] at hcu
     have hcn:=(hcr c (List.mem_of_getElem? hc)).2
     obtain ⟨c,rfl⟩:∃ y:Nat,c=y:=⟨c.toNat,by omega⟩
     have hg:=hN1.get c (by omega)
     have hNl:=hN1.len
     have hq1n:q1.length≤nxt.length:=hqn q1 (by rw [hq1'];exact addS_nodup hnd) (by
      rw [hq1']
      refine addS_dom hdom fun v hv'=>?_
      have:=succR_dom hv.fine (List.mem_of_mem_take hv')
      simp only at this
      omega)
     have hq1p:1≤q1.length:=by
      have:=(addS_prefix (key:=clAt cl) (l:=(Aut.succR ⟨sy,s,acc,nxt⟩ cl t).take k) (qs:=q)).length_le
      rw [← hq1'] at this;omega
     by_cases hm:(c:Int)∈q1.map (clAt cl)
     ·rw [if_pos hm] at hg
      obtain ⟨m,hm2⟩:∃ m,m=numK (q1.map (clAt cl)) (c:Int):=⟨_,rfl⟩
      rw [← hm2] at hg
      have ih':=ihK (k+1,q1,N1,W.set k (m:Int)) ⟨by simp only;omega,by simp only;rw [hL,addS_some,← hq1',hcc,if_pos hm],hN1,by simp only [List.length_set];exact hWl,by simp only;rw [hset,hL,rowS_some,hW,← hq1',hcc,hm2]⟩ (by simp only;omega)
      simp (maxSteps:=2000000) [-getElem?_pos,-List.map_set,-objBelow] at ih'
      simp (maxSteps:=2000000) [-getElem?_pos,-List.map_set,-objBelow,gp,hks,ht,hr,hgo,hw0,hws,hWl,hc,hcu,hg,hNl,hAl,hR0,hww,show ¬(c:Int)<0 by omega,show ¬(m:Int)<0 by omega,show ¬(u:Int)<0 by omega,show c<nxt.length by omega]
      exact ih'
     ·rw [if_neg hm] at hg
      have hadd:=hN1.add (c:=c) (by omega) hm
      rw [List.length_map] at hadd
      have hgs:(N1.set c (q1.length:Int))[c]? =some (q1.length:Int):=List.getElem?_set_self (by omega)
      have ih':=ihK (k+1,q1++[(u:Int)],N1.set c (q1.length:Int),W.set k (q1.length:Int)) ⟨by simp only;omega,by simp only;rw [hL,addS_some,← hq1',hcc,if_neg hm],by simp only [List.map_append,List.map_cons,List.map_nil];rw [hcc];exact hadd,by simp only [List.length_set];exact hWl,by simp only;rw [hset,hL,rowS_some,hW,← hq1',hcc,numK_none hm,List.length_map]⟩ (by simp only;omega)
      simp (maxSteps:=2000000) [-getElem?_pos,-List.map_set,-objBelow] at ih'
      simp (maxSteps:=2000000) [-getElem?_pos,-List.map_set,-objBelow,gp,hks,ht,hr,hgo,hw0,hws,hWl,hc,hcu,hg,hgs,hNl,hAl,hR0,hww,hq1p,show (q1.length+1)*8≤1099511627776 by omega,show q1.length≤1099511627775 by omega,show ¬(c:Int)<0 by omega,show ¬(u:Int)<0 by omega,show c<nxt.length by omega]
      exact ih'
   clear hX
   obtain ⟨S,hS⟩:∃ S,S=rowS (clAt cl) q (Aut.succR ⟨sy,s,acc,nxt⟩ cl t):=⟨_,rfl⟩
   have hSl:S.length=sy:=by rw [hS,rowS_len,succR_len];simp [-getElem?_pos,-List.map_set,-objBelow]
   rw [← hq'] at hex2
   rw [← hS] at hR
   have hpre:q <+: q':=by rw [hq'];exact addS_prefix
   have hqt:q'.take (i+1)=q.take i++[(t:Int)]:=by
    rw [List.take_add_one,prefix_getS hpre ht]
    obtain ⟨z,rfl⟩:=hpre
    rw [List.take_append_of_le_length (by omega)];rfl
   have htk:List.take sy (S.map numD)=S.map numD:=List.take_of_length_le (by simp [-getElem?_pos,-List.map_set,-objBelow,hSl])
   have ih':=ih (F,i+1,q',N',R0++[S],A++[bt]) ⟨by have:=hpre.length_le;simp only;omega,by have:=hpre.length_le;simp only;omega,by simp [-getElem?_pos,-List.map_set,-objBelow,hR0],by simp only;rw [hqt,List.map_append,List.map_cons,List.map_nil,hab,hA],hN',by rw [hq'];exact addS_nodup hnd,by
    simp only
    rw [hq']
    refine addS_dom hdom fun v hv'=>?_
    have:=succR_dom hv.fine hv'
    simp only at this
    omega,R2,hex2,by simp only;rw [List.append_assoc];exact hR⟩ (by simp only;omega)
   simp (maxSteps:=2000000) [-getElem?_pos,-List.map_set,-objBelow] at ih'
   rw [← hS]
   simp (maxSteps:=2000000) [-getElem?_pos,-List.map_set,-objBelow,gp,t1,t2,t4,t5,t6,t8,t9,t11,hSl,htk,hR0,hAl,show i+1≤1099511627776 by omega,show i≤1099511627775 by omega,show (i+1)*24≤1099511627776 by omega,wrap_succ (show i+1≤9223372036854775807 by omega)]
   exact ih'
  ·rw [List.getElem?_eq_none (by omega)] at hex
   simp only [Option.some.injEq,Prod.mk.injEq] at hex
   obtain ⟨rfl,rfl⟩:=hex
   rw [List.append_nil] at hR
   subst hR
   have hie:i=q.length:=by omega
   subst hie
   rw [List.take_length] at hA
   subst hA
   simp (maxSteps:=2000000) [-getElem?_pos,-List.map_set,-objBelow,gp,hlt,hR0]
 clear hX
 have hrl:rows.length=qs.length:=by simpa [-getElem?_pos,-List.map_set,-objBelow] using (exR_spec hex).2.1 (Nat.zero_le _)
 obtain ⟨AA,hAA⟩:∃ A,A=qs.map (Aut.accB ⟨sy,s,acc,nxt⟩):=⟨_,rfl⟩
 have hAl:AA.length=qs.length:=by rw [hAA];simp [-getElem?_pos,-List.map_set,-objBelow]
 rw [← hAA]
 have hfz:∀ b D,frzL (frz b D 3) (rows.map rowD)=some (rows.map rowF,[]):=fun b D=>fzL_map fun _=>rfl
 simp (maxSteps:=2000000) [-getElem?_pos,-List.map_set,-objBelow,gp,t1,t2,t4,hlen,hrl,hfz,hAl,autO]
end Go.Dv
namespace Go.Dv
open Go Go.Sim Go.Proofs Go.Fsa
attribute [local simp] bitF autD b_neqB b_eqlB
theorem w15_all (a:Aut) (base:Nat) (D:DH):callD Q 15 [autD a] base D=some (autO a.canon.1 a.canon.2,D):=by
 by_cases hv:a.valid
 ·have hc:=(cls_ok hv.fine).1
  unfold Aut.canon
  rw [if_pos hv]
  unfold Aut.can
  by_cases h0:clAt a.cls a.begin<0
  ·rw [if_pos h0]
   exact w15_none a hv a.cls _ hc h0 base D
  ·rw [if_neg h0]
   obtain ⟨r,hr⟩:=canR_ex hv (by omega)
   have e:a.exC=r:=by unfold Aut.exC;rw [hr];rfl
   rw [e]
   exact w15 a hv a.cls _ hc (by omega) 20001 _ r.1 r.2 hr base D
 ·unfold Aut.canon
  rw [if_neg hv]
  exact w15_bad a hv base D
end Go.Dv
namespace Go.Dv
open Go Go.Sim Go.Proofs Go.Fsa
attribute [local simp] encI bitF autD b_neqB b_eqlB el_num set_num fz_num numD bitD el_bit set_bit fz_bit
theorem ex_help {R:Option (BX×SD)} {G:List Int→List Int→List Int→Trie DV→Option (BX×SD)} {T:Trie DV→Prop} {p:List Int→List Int→Prop} {vs fi bs:List Int} (hp:p fi bs) (h:∃ tm,R=G vs fi bs tm∧T tm) :
  ∃ (tm:Trie DV) (vs fi bs:List Int),R=G vs fi bs tm∧T tm∧p fi bs:=by
 obtain ⟨tm,h1,h2⟩:=h
 exact ⟨tm,vs,fi,bs,h1,h2,hp⟩
theorem qO_below {L e sz:Nat} {els:List DV} (h:els.all (below L)=true):objBelow L (qO e sz els)=true:=by
 unfold qO
 split
 ·rw [ob_arr];exact h
 ·rw [ob_app];exact h
theorem below_num {L:Nat} {l:List Int}:(l.map numD).all (below L)=true:=by
 rw [List.all_eq_true]
 intro y hy
 obtain ⟨z,_,rfl⟩:=List.mem_map.1 hy
 rfl
end Go.Dv
namespace Go.Dv
open Go Go.Sim Go.Proofs Go.Fsa
attribute [local simp] encI bitF autD b_neqB b_eqlB el_num set_num fz_num numD bitD el_bit set_bit fz_bit
def machD (o:Nat) (m:Aut) (O1 O2:DObj) (fi bs:List Int):DH:=[.arr 5 [.agg [intD m.sy,.apl (o+5) m.acc.length,.apl (o+6) m.acc.length,qV (o+3) m.acc.length,qV (o+4) m.acc.length]],O1,O2,qO 3 1 (fi.map numD),qO 3 1 (bs.map numD),.app 4 1 (m.acc.map bitD),.app 26 1 (m.nxt.map rowD)]
end Go.Dv
