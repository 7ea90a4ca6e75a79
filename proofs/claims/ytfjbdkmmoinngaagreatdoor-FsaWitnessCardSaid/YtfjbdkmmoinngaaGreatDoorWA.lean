/- Texts of this proof, part WA. -/
import Derived.Test.YtfjbdkmmoinngaaGreatDoorFacts
import Derived.Test.YtfjbdkmmoinngaaGreatDoorPure
import Derived.Test.YtfjbdkmmoinngaaGreatDoorDvB
set_option linter.unusedVariables false
set_option linter.unusedSimpArgs false
set_option linter.unusedSectionVars false
set_option maxRecDepth 100000
namespace Go.Dv
open Go Go.Sim Go.Proofs
theorem b_neqB {x y:Operand} {a b:Bool}:binA Tryz.prog .neq 4 x y (.bool a) (.bool b)=some (.bool (a != b)):=by cases a<;>cases b<;>kernel_rfl
theorem b_eqlB {x y:Operand} {a b:Bool}:binA Tryz.prog .eql 4 x y (.bool a) (.bool b)=some (.bool (a==b)):=by cases a<;>cases b<;>kernel_rfl
theorem w63 (a b:List Int) (ha:a.length<1152921504606846976) (hb:b.length<1152921504606846976) (base:Nat) (D:DH):callD Q 63 [rowD a,rowD b] base D=some (boolD (decide (a=b)),D):=by
 rw [call_pure (fn:=Tryz.f63) (show Q.P.funcs[63]? =some Tryz.f63 from Tryz.func63) rfl ann63 rfl (by simp only [List.length_cons,List.length_nil];decide) (by kernel_rfl)]
 have gp:=gp63
 simp only [ann63,Tryz.f63,gpB_some,gpC_draw,gpC_reg,gpC_seq,gpC_cond,gpC_block,gpC_loop,gpC_range,gpC_skip,gpC_ret,gpC_exit,gpC_label,gpO_some,gpO_none,findN,Bool.and_eq_true,Bool.and_true,Bool.true_and,reduceIte,Nat.reduceEqDiff,true_and,and_true] at gp
 by_cases hl:a.length=b.length
 ·simp (maxSteps:=2000000) [-getElem?_pos,hl,gp]
  generalize hs:SD.mk _ _=s0
  revert s0
  refine wl (fun i:Nat=>⟨((Trie.leaf.put 5 (intD i)).put 1 (rowD b)).put 0 (rowD a),D⟩) (fun i=>i≤b.length∧a.take i=b.take i) (fun i=>b.length-i) ?_ 0 ⟨by omega,by simp [-getElem?_pos]⟩
  intro i ⟨hi,ht⟩ ih
  rw [loopG_eq]
  by_cases hlt:i<b.length
  ·obtain ⟨x,hx⟩:∃ x,a[i]? =some x:=⟨_,List.getElem?_eq_getElem (by omega)⟩
   obtain ⟨y,hy⟩:∃ x,b[i]? =some x:=⟨_,List.getElem?_eq_getElem hlt⟩
   by_cases hxy:x=y
   ·have hn:List.take (i+1) a=List.take (i+1) b:=by rw [List.take_add_one,List.take_add_one,ht,hx,hy,hxy]
    have ih':=ih (i+1) ⟨by omega,hn⟩ (by omega)
    simp (maxSteps:=2000000) [-getElem?_pos] at ih'
    simp (maxSteps:=2000000) [-getElem?_pos,hl,hlt,hx,hy,gp,hxy,wrap_succ (show i+1≤9223372036854775807 by omega)]
    exact ih'
   ·simp (maxSteps:=2000000) [-getElem?_pos,hl,hlt,hx,hy,gp,hxy]
    rintro rfl
    rw [hx] at hy
    exact hxy (Option.some.inj hy)
  ·simp (maxSteps:=2000000) [-getElem?_pos,hl,hlt,gp]
   have h:i=b.length:=by omega
   rw [List.take_of_length_le (by omega),List.take_of_length_le (by omega)] at ht
   exact ht
 ·simp (maxSteps:=2000000) [-getElem?_pos,hl,gp]
  exact fun h=>hl (by rw [h])
end Go.Dv
namespace Go.Dv
open Go Go.Sim Go.Proofs Go.Fsa
def bitF (b:Bool):FV:=.raw (.bool b)
def autD (a:Aut):DV:=.agg [.f (.raw (.int .i64 a.sy)),.f (.raw (.int .i64 a.st)),.f (.lst (a.acc.map bitF)),.f (.lst (a.nxt.map rowF))]
attribute [local simp] bitF autD
theorem w19 (a:Aut) (base:Nat) (D:DH):callD Q 19 [autD a] base D=some (intD a.check,D):=by
 rw [call_pure (fn:=Tryz.f19) (show Q.P.funcs[19]? =some Tryz.f19 from Tryz.func19) rfl ann19 rfl (by simp only [List.length_cons,List.length_nil];decide) (by kernel_rfl)]
 have gp:=gp19
 simp only [ann19,Tryz.f19,gpB_some,gpC_draw,gpC_reg,gpC_seq,gpC_cond,gpC_block,gpC_loop,gpC_range,gpC_skip,gpC_ret,gpC_exit,gpC_label,gpO_some,gpO_none,findN,Bool.and_eq_true,Bool.and_true,Bool.true_and,reduceIte,Nat.reduceEqDiff,true_and,and_true] at gp
 have bad:¬a.valid→a.check=60:=fun h=>by simp [-getElem?_pos,Aut.check,h]
 by_cases c1:a.sy<1
 ·rw [bad fun h=>h.lo c1];simp (maxSteps:=2000000) [-getElem?_pos,gp,c1]
 by_cases c2:400<a.sy
 ·rw [bad fun h=>h.hi c2];simp (maxSteps:=2000000) [-getElem?_pos,gp,c1,c2]
 by_cases c3:a.acc.length=a.nxt.length
 case neg=>rw [bad fun h=>c3 h.len.symm];simp (maxSteps:=2000000) [-getElem?_pos,gp,c1,c2,c3]
 by_cases c4:(20000:Int)<(a.nxt.length:Int)
 ·rw [bad fun h=>h.most (by omega)];simp (maxSteps:=2000000) [-getElem?_pos,gp,c1,c2,c3,c4]
 by_cases c5:a.st<0
 ·rw [bad fun h=>h.st0 c5];simp (maxSteps:=2000000) [-getElem?_pos,gp,c1,c2,c3,c4,c5]
 generalize hnn:a.nxt.length=n at *
 have hx:a.acc.length=n:=c3
 by_cases c6:n=0
 ·by_cases c7:a.st=0
  ·have hv:a.valid:=⟨c1,c2,by omega,by omega,c5,by omega,fun r hr=>by rw [List.length_eq_zero_iff.1 (hnn.trans c6)] at hr;cases hr⟩
   rw [show a.check=0 by simp [-getElem?_pos,Aut.check,hv]]
   simp (maxSteps:=2000000) [-getElem?_pos,gp,c1,c2,c3,c4,c5,c6,c7,hnn]
   rw [loopG_eq]
   simp (maxSteps:=2000000) [-getElem?_pos,gp]
  ·rw [bad fun h=>h.st1 (by omega)];simp (maxSteps:=2000000) [-getElem?_pos,gp,c1,c2,c3,c4,c5,c6,c7,hnn]
 by_cases c7:(n:Int)≤a.st
 ·rw [bad fun h=>h.st1 (by omega)];simp (maxSteps:=2000000) [-getElem?_pos,gp,c1,c2,c3,c4,c5,c6,c7,hnn,show 0<n by omega]
 have good:(∀ i,i<n→∃ r,a.nxt[i]? =some r∧rowOK a.sy n r)→a.valid:=fun h=>⟨c1,c2,by omega,by omega,c5,by omega,fun r hr=>by
  obtain ⟨i,hi,rfl⟩:=List.getElem_of_mem hr
  obtain ⟨r',h1,h2⟩:=h i (by omega)
  rw [List.getElem?_eq_getElem hi,Option.some.injEq] at h1
  rw [h1,hx];exact h2⟩
 have badRow:∀ i r,a.nxt[i]? =some r→¬rowOK a.sy n r→a.check=60:=fun i r hr h=>bad fun hv=>h (by rw [← hx];exact hv.rows r (List.mem_of_getElem? hr))
 simp (maxSteps:=2000000) [-getElem?_pos,gp,c1,c2,c3,c4,c5,c6,c7,hnn,show 0<n by omega]
 generalize hs:SD.mk _ _=s0
 revert s0
 refine wl (fun i:Nat=>⟨((Trie.leaf.put 4 (intD i)).put 3 (intD n)).put 1 (.ref D.length 0 0),D++[.arr 4 [autD a]]⟩) (fun i=>i≤n∧∀ j,j<i→∃ r,a.nxt[j]? =some r∧rowOK a.sy n r) (fun i=>n-i) ?_ 0 ⟨by omega,fun j h=>by omega⟩
 intro i ⟨hi,ht⟩ ih
 rw [loopG_eq]
 by_cases hlt:i<n
 case neg=>
  rw [show a.check=0 by simp [-getElem?_pos,Aut.check,good (fun j hj=>ht j (by omega))]]
  simp (maxSteps:=2000000) [-getElem?_pos,gp,hlt]
 obtain ⟨r,hr⟩:∃ r,a.nxt[i]? =some r:=⟨_,List.getElem?_eq_getElem (by omega)⟩
 by_cases hl:(r.length:Int)=a.sy
 case neg=>
  rw [badRow i r hr fun h=>hl h.1]
  simp (maxSteps:=2000000) [-getElem?_pos,gp,hlt,hr,hl]
 simp (maxSteps:=2000000) [-getElem?_pos,gp,hlt,hr,hl]
 generalize hs:SD.mk _ _=s1
 revert s1
 refine wl (fun k:Nat=>⟨(((Trie.leaf.put 5 (intD k)).put 4 (intD i)).put 3 (intD n)).put 1 (.ref D.length 0 0),D++[.arr 4 [autD a]]⟩) (fun k=>k≤r.length∧∀ j x,j<k→r[j]? =some x→¬x < -1∧¬(n:Int)≤x) (fun k=>r.length-k) ?_ 0 ⟨by omega,fun j x h=>by omega⟩
 intro k ⟨hk,hkt⟩ ih2
 rw [loopG_eq]
 by_cases hklt:k<r.length
 case neg=>
  have hrow:rowOK a.sy n r:=⟨hl,fun t ht=>by
   obtain ⟨j,hj,rfl⟩:=List.getElem_of_mem ht
   exact hkt j _ (by omega) (List.getElem?_eq_getElem hj)⟩
  have ih':=ih (i+1) ⟨by omega,fun j hj=>by
   by_cases h:j=i
   ·subst h;exact ⟨r,hr,hrow⟩
   ·exact ht j (by omega)⟩ (by omega)
  simp (maxSteps:=2000000) [-getElem?_pos] at ih'
  simp (maxSteps:=2000000) [-getElem?_pos,gp,show ¬(k:Int)<a.sy by omega,wrap_succ (show i+1≤9223372036854775807 by omega)]
  exact ih'
 obtain ⟨x,hxk⟩:∃ x,r[k]? =some x:=⟨_,List.getElem?_eq_getElem hklt⟩
 have hin:x∈r:=List.mem_of_getElem? hxk
 by_cases d1:x < -1
 ·rw [badRow i r hr fun h=>(h.2 x hin).1 d1]
  simp (maxSteps:=2000000) [-getElem?_pos,gp,show (k:Int)<a.sy by omega,hr,hxk,d1]
 by_cases d2:(n:Int)≤x
 ·rw [badRow i r hr fun h=>(h.2 x hin).2 d2]
  simp (maxSteps:=2000000) [-getElem?_pos,gp,show (k:Int)<a.sy by omega,hr,hxk,d1,d2]
 have ih':=ih2 (k+1) ⟨by omega,fun j y hj hy=>by
  by_cases h:j=k
  ·subst h;rw [hxk] at hy;cases hy;exact ⟨d1,d2⟩
  ·exact hkt j y (by omega) hy⟩ (by omega)
 simp (maxSteps:=2000000) [-getElem?_pos] at ih'
 simp (maxSteps:=2000000) [-getElem?_pos,gp,show (k:Int)<a.sy by omega,hr,hxk,d1,d2,wrap_succ (show k+1≤9223372036854775807 by omega)]
 exact ih'
end Go.Dv
namespace Go.Dv
open Go Go.Sim Go.Proofs Go.Fsa
attribute [local simp] bitF autD
theorem c19 {sy st:Int} {acc:List Bool} {nxt:List (List Int)} {base:Nat} {D:DH}:callD Q 19 [.agg [.f (.raw (.int .i64 sy)),.f (.raw (.int .i64 st)),.f (.lst (acc.map bitF)),.f (.lst (nxt.map rowF))]] base D=some (.f (.raw (.int .i64 (Aut.check ⟨sy,st,acc,nxt⟩))),D):=w19 ⟨sy,st,acc,nxt⟩ base D
theorem w58 (a:Aut) (hv:a.valid) (s:Int) (hs:s<(a.nxt.length:Nat)) (c:Nat) (hc:(c:Int)<a.sy) (base:Nat) (D:DH):callD Q 58 [autD a,intD s,intD c] base D=some (intD (a.go s c),D):=by
 rw [call_pure (fn:=Tryz.f58) (show Q.P.funcs[58]? =some Tryz.f58 from Tryz.func58) rfl ann58 rfl (by simp only [List.length_cons,List.length_nil];decide) (by kernel_rfl)]
 by_cases h:s<0
 ·rw [Aut.go_neg h]
  simp (maxSteps:=2000000) [-getElem?_pos,h]
 ·obtain ⟨n,rfl⟩:∃ n:Nat,s=n:=⟨s.toNat,by omega⟩
  obtain ⟨r,h1,h2⟩:=a.go_some hv (by omega) hs hc
  rw [Int.toNat_natCast] at h1
  simp (maxSteps:=2000000) [-getElem?_pos,h,h1,h2]
theorem c58 {sy st:Int} {acc:List Bool} {nxt:List (List Int)} {s:Int} {c:Nat} {base:Nat} {D:DH} (hv:Aut.valid ⟨sy,st,acc,nxt⟩) (hs:s<(nxt.length:Nat)) (hc:(c:Int)<sy):callD Q 58 [.agg [.f (.raw (.int .i64 sy)),.f (.raw (.int .i64 st)),.f (.lst (acc.map bitF)),.f (.lst (nxt.map rowF))],.f (.raw (.int .i64 s)),.f (.raw (.int .i64 c))] base D=some (.f (.raw (.int .i64 (Aut.go ⟨sy,st,acc,nxt⟩ s c))),D):=w58 ⟨sy,st,acc,nxt⟩ hv s hs c hc base D
def optD (o:Option Int):DV:=.tup [.f (.raw (.int .i64 (o.getD 0))),.f (.raw (.bool o.isSome))]
theorem w14 (a:Aut) (f:Int) (w:List Int) (hw:w.length<1152921504606846976) (base:Nat) (D:DH):callD Q 14 [autD a,intD f,rowD w] base D=some (optD (a.lead f w),D):=by
 rw [call_pure (fn:=Tryz.f14) (show Q.P.funcs[14]? =some Tryz.f14 from Tryz.func14) rfl ann14 rfl (by simp only [List.length_cons,List.length_nil];decide) (by kernel_rfl)]
 have gp:=gp14
 simp only [ann14,Tryz.f14,gpB_some,gpC_draw,gpC_reg,gpC_seq,gpC_cond,gpC_block,gpC_loop,gpC_range,gpC_skip,gpC_ret,gpC_exit,gpC_label,gpO_some,gpO_none,findN,Bool.and_eq_true,Bool.and_true,Bool.true_and,reduceIte,Nat.reduceEqDiff,true_and,and_true] at gp
 by_cases hv:a.valid
 case neg=>
  have hc:a.check=60:=by simp [-getElem?_pos,Aut.check,hv]
  rw [show a.lead f w=none by simp [-getElem?_pos,Aut.lead,hc]]
  simp (maxSteps:=2000000) [-getElem?_pos,gp,c19,hc,optD]
 have hc:a.check=0:=Aut.check_valid.2 hv
 by_cases h0:f<0
 ·rw [show a.lead f w=none by simp [-getElem?_pos,Aut.lead,show ¬0≤f by omega]]
  simp (maxSteps:=2000000) [-getElem?_pos,gp,c19,hc,h0,optD]
 by_cases h1:(a.nxt.length:Int)≤f
 ·rw [show a.lead f w=none by simp [-getElem?_pos,Aut.lead,show ¬f<(a.nxt.length:Nat) by omega]]
  simp (maxSteps:=2000000) [-getElem?_pos,gp,c19,hc,h0,h1,optD]
 rw [show a.lead f w=a.run f w by simp [-getElem?_pos,Aut.lead,hc,show f<(a.nxt.length:Nat) by omega,show 0≤f by omega]]
 simp (maxSteps:=2000000) [-getElem?_pos,gp,c19,hc,h0,h1]
 generalize hs1:SD.mk _ _=sd1
 revert sd1
 refine wl (fun p:Nat×Int=>⟨(((Trie.leaf.put 9 (intD p.1)).put 8 (intD p.2)).put 3 (.ref D.length 0 0)).put 2 (rowD w),D++[.arr 4 [autD a]]⟩) (fun p=>p.1≤w.length∧a.dom p.2∧a.run f w=a.run p.2 (w.drop p.1)) (fun p=>w.length-p.1) ?_ (0,f) ⟨by simp [-getElem?_pos],⟨by omega,by omega⟩,by simp [-getElem?_pos]⟩
 rintro ⟨i,s⟩ ⟨hi,hd,hr⟩ ih
 simp only at hi hd hr ih
 rw [loopG_eq]
 by_cases hlt:i<w.length
 case neg=>
  rw [hr,List.drop_of_length_le (by omega)]
  by_cases hs:s<0
  ·simp (maxSteps:=2000000) [-getElem?_pos,gp,hlt,hs,Aut.run,optD]
  ·simp (maxSteps:=2000000) [-getElem?_pos,gp,hlt,hs,Aut.run,optD]
 obtain ⟨c,hcx⟩:∃ c,w[i]? =some c:=⟨_,List.getElem?_eq_getElem hlt⟩
 have hrr:a.run s (w.drop i)=if c<0∨a.sy≤c then none else a.run (a.go s c.toNat) (w.drop (i+1)):=by
  rw [List.drop_eq_getElem_cons hlt]
  rw [List.getElem?_eq_getElem hlt,Option.some.injEq] at hcx
  rw [hcx];rfl
 by_cases d1:c<0
 ·rw [hr,hrr,if_pos (.inl d1)]
  simp (maxSteps:=2000000) [-getElem?_pos,gp,hlt,hcx,d1,optD]
 obtain ⟨n,rfl⟩:∃ n:Nat,c=n:=⟨c.toNat,by omega⟩
 by_cases d2:a.sy≤n
 ·rw [hr,hrr,if_pos (.inr d2)]
  simp (maxSteps:=2000000) [-getElem?_pos,gp,hlt,hcx,d1,d2,optD]
 have ih':=ih (i+1,a.go s n) ⟨by omega,Aut.go_dom hv,by rw [hr,hrr,if_neg (by omega),Int.toNat_natCast]⟩ (by simp only;omega)
 simp (maxSteps:=2000000) [-getElem?_pos] at ih'
 simp (maxSteps:=2000000) [-getElem?_pos,gp,hlt,hcx,d1,d2,c58,hv,hd.2,show (n:Int)<a.sy by omega,wrap_succ (show i+1≤9223372036854775807 by omega)]
 exact ih'
end Go.Dv
namespace Go.Dv
open Go Go.Sim Go.Proofs Go.Fsa
attribute [local simp] bitF autD b_neqB b_eqlB
theorem c14 {sy st f:Int} {acc:List Bool} {nxt:List (List Int)} {w:List Int} {base:Nat} {D:DH} (hw:w.length<1152921504606846976):callD Q 14 [.agg [.f (.raw (.int .i64 sy)),.f (.raw (.int .i64 st)),.f (.lst (acc.map bitF)),.f (.lst (nxt.map rowF))],.f (.raw (.int .i64 f)),.f (.lst (w.map intF))] base D=some (optD (Aut.lead ⟨sy,st,acc,nxt⟩ f w),D):=w14 ⟨sy,st,acc,nxt⟩ f w hw base D
theorem w21 (a:Aut) (w:List Int) (hw:w.length<1152921504606846976) (base:Nat) (D:DH):callD Q 21 [autD a,rowD w] base D=some (boolD (a.accepts w),D):=by
 rw [call_pure (fn:=Tryz.f21) (show Q.P.funcs[21]? =some Tryz.f21 from Tryz.func21) rfl ann21 rfl (by simp only [List.length_cons,List.length_nil];decide) (by kernel_rfl)]
 by_cases hv:a.valid
 case neg=>
  have hc:a.check=60:=by simp [-getElem?_pos,Aut.check,hv]
  rw [show a.accepts w=false by simp [-getElem?_pos,Aut.accepts,Aut.lead,hc]]
  simp (maxSteps:=2000000) [-getElem?_pos,c19,hc]
 have hc:a.check=0:=Aut.check_valid.2 hv
 by_cases h0:a.nxt.length=0
 ·rw [show a.accepts w=false by
   have:=hv.st0
   simp [-getElem?_pos,Aut.accepts,Aut.lead,show ¬a.st<0 by omega,h0]
]
  simp (maxSteps:=2000000) [-getElem?_pos,c19,hc,h0]
 obtain ⟨n,hn⟩:∃ n,a.nxt.length=n+1:=⟨a.nxt.length-1,by omega⟩
 cases hl:a.lead a.st w with
 | none=>
  rw [show a.accepts w=false by simp [-getElem?_pos,Aut.accepts,hl]]
  simp (maxSteps:=2000000) [-getElem?_pos,c19,hc,hn,c14,hw,hl,optD,show ¬((n:Int)+1=0) by omega]
 | some s=>
  have hs:0≤s∧s<(a.nxt.length:Nat):=by
   have:=hl
   simp only [Aut.lead] at this
   split at this
   ·rename_i g;exact Aut.run_dom hv ⟨by omega,g.2.2⟩ this
   ·cases this
  obtain ⟨m,rfl⟩:∃ m:Nat,s=m:=⟨s.toNat,by omega⟩
  obtain ⟨b,hb⟩:∃ b,a.acc[m]? =some b:=⟨_,List.getElem?_eq_getElem (by have:=hv.len;omega)⟩
  rw [show a.accepts w=b by simp [-getElem?_pos,Aut.accepts,hl,hb]]
  simp (maxSteps:=2000000) [-getElem?_pos,c19,hc,hn,c14,hw,hl,optD,hb,show ¬((n:Int)+1=0) by omega]
def sameA (a b:Aut):Bool:=decide (a.sy=b.sy∧a.st=b.st∧a.acc=b.acc∧a.nxt=b.nxt)
end Go.Dv
namespace Go.Dv
open Go Go.Sim Go.Proofs Go.Fsa
attribute [local simp] bitF autD b_neqB b_eqlB
theorem max2_int {x y:Int}:minmaxD Tryz.prog Builtin.max2 [.f (.raw (.int .i64 x)),.f (.raw (.int .i64 y))]=some (.f (.raw (.int .i64 (max x y)))):=by
 simp only [minmaxD,toVs,minmax,Option.map_some]
 have:Builtin.max2 (.int .i64 x) (.int .i64 y)=.pure (.int .i64 (max x y)):=by
  simp only [Builtin.max2]
  split<;>(congr 2;omega)
 rw [this];rfl
theorem bl_max {P:Program} {D:DH} {base:Nat} {ts:List TypeId} {l:List DV}:dBuiltin P D base ts l .max=valD D (minmaxD P Builtin.max2 l):=rfl
attribute [local simp] bl_max max2_int
theorem w18 (a:Aut) (ha:a.nxt.length<1152921504606846976) (base:Nat) (D:DH):callD Q 18 [autD a] base D=some (intD a.check,D):=by
 rw [call_pure (fn:=Tryz.f18) (show Q.P.funcs[18]? =some Tryz.f18 from Tryz.func18) rfl ann18 rfl (by simp only [List.length_cons,List.length_nil];decide) (by kernel_rfl)]
 have bad:¬a.valid→a.check=60:=fun h=>by simp [-getElem?_pos,Aut.check,h]
 by_cases c1:a.sy<1
 ·rw [bad fun h=>h.lo c1];simp (maxSteps:=2000000) [-getElem?_pos,c1]
 by_cases c2:400<a.sy
 ·rw [bad fun h=>h.hi c2];simp (maxSteps:=2000000) [-getElem?_pos,c1,c2]
 by_cases c4:(20000:Int)<(a.acc.length:Int)
 ·rw [bad fun h=>h.most (by omega)];simp (maxSteps:=2000000) [-getElem?_pos,c1,c2,c4]
 by_cases c3:a.nxt.length=a.acc.length
 case neg=>rw [bad fun h=>c3 h.len];simp (maxSteps:=2000000) [-getElem?_pos,c1,c2,c3,c4]
 by_cases c5:a.st<0
 ·rw [bad fun h=>h.st0 c5];simp (maxSteps:=2000000) [-getElem?_pos,c1,c2,c3,c4,c5]
 generalize hnn:a.acc.length=n at *
 by_cases c7:max (n:Int) 1≤a.st
 ·rw [bad fun h=>h.st1 (by rw [hnn];exact c7)];simp (maxSteps:=2000000) [-getElem?_pos,c1,c2,c3,c4,c5,hnn,c7]
 have good:(∀ i,i<n→∃ r,a.nxt[i]? =some r∧rowOK a.sy n r)→a.valid:=fun h=>⟨c1,c2,by omega,by omega,c5,by rw [hnn];exact c7,fun r hr=>by
  obtain ⟨i,hi,rfl⟩:=List.getElem_of_mem hr
  obtain ⟨r',h1,h2⟩:=h i (by omega)
  rw [List.getElem?_eq_getElem hi,Option.some.injEq] at h1
  rw [h1,hnn];exact h2⟩
 have badRow:∀ i r,a.nxt[i]? =some r→¬rowOK a.sy n r→a.check=60:=fun i r hr h=>bad fun hv=>h (by rw [← hnn];exact hv.rows r (List.mem_of_getElem? hr))
 simp (maxSteps:=2000000) [-getElem?_pos,c1,c2,c3,c4,c5,c7,hnn]
 generalize hs5:SD.mk _ _=sd5
 revert sd5
 refine wl (fun i:Nat=>⟨((((Trie.leaf.put 45 (intD i)).put 44 (intD n)).put 43 (.f (.lst (a.nxt.map rowF)))).put 3 (intD n)).put 1 (.ref D.length 0 0),D++[.arr 4 [autD a]]⟩) (fun i=>i≤n∧∀ j,j<i→∃ r,a.nxt[j]? =some r∧rowOK a.sy n r) (fun i=>n-i) ?_ 0 ⟨by omega,fun j h=>by omega⟩
 intro i ⟨hi,ht⟩ ih
 rw [loopG_eq]
 by_cases hlt:i<n
 case neg=>
  rw [show a.check=0 by simp [-getElem?_pos,Aut.check,good (fun j hj=>ht j (by omega))]]
  simp (maxSteps:=2000000) [-getElem?_pos,hlt]
 obtain ⟨r,hr⟩:∃ r,a.nxt[i]? =some r:=⟨_,List.getElem?_eq_getElem (by omega)⟩
 by_cases hl:(r.length:Int)=a.sy
 case neg=>
  rw [badRow i r hr fun h=>hl h.1]
  simp (maxSteps:=2000000) [-getElem?_pos,hlt,hr,hl]
 simp (maxSteps:=2000000) [-getElem?_pos,hlt,hr,hl]
 generalize hs6:SD.mk _ _=sd6
 revert sd6
 refine wl (fun k:Nat=>⟨(((((((Trie.leaf.put 56 (intD k)).put 55 (intD a.sy)).put 54 (rowD r)).put 45 (intD i)).put 44 (intD n)).put 43 (.f (.lst (a.nxt.map rowF)))).put 3 (intD n)).put 1 (.ref D.length 0 0),D++[.arr 4 [autD a]]⟩) (fun k=>k≤r.length∧∀ j x,j<k→r[j]? =some x→¬x < -1∧¬(n:Int)≤x) (fun k=>r.length-k) ?_ 0 ⟨by omega,fun j x h=>by omega⟩
 intro k ⟨hk,hkt⟩ ih2
 rw [loopG_eq]
 by_cases hklt:k<r.length
 case neg=>
  have hrow:rowOK a.sy n r:=⟨hl,fun t ht=>by
   obtain ⟨j,hj,rfl⟩:=List.getElem_of_mem ht
   exact hkt j _ (by omega) (List.getElem?_eq_getElem hj)⟩
  have ih':=ih (i+1) ⟨by omega,fun j hj=>by
   by_cases h:j=i
   ·subst h;exact ⟨r,hr,hrow⟩
   ·exact ht j (by omega)⟩ (by omega)
  simp (maxSteps:=2000000) [-getElem?_pos] at ih'
  simp (maxSteps:=2000000) [-getElem?_pos,show ¬(k:Int)<a.sy by omega,wrap_succ (show i+1≤9223372036854775807 by omega)]
  exact ih'
 obtain ⟨x,hxk⟩:∃ x,r[k]? =some x:=⟨_,List.getElem?_eq_getElem hklt⟩
 have hin:x∈r:=List.mem_of_getElem? hxk
 by_cases d1:x < -1
 ·rw [badRow i r hr fun h=>(h.2 x hin).1 d1]
  simp (maxSteps:=2000000) [-getElem?_pos,show (k:Int)<a.sy by omega,hr,hxk,d1]
 by_cases d2:(n:Int)≤x
 ·rw [badRow i r hr fun h=>(h.2 x hin).2 d2]
  simp (maxSteps:=2000000) [-getElem?_pos,show (k:Int)<a.sy by omega,hr,hxk,d1,d2]
 have ih':=ih2 (k+1) ⟨by omega,fun j y hj hy=>by
  by_cases h:j=k
  ·subst h;rw [hxk] at hy;cases hy;exact ⟨d1,d2⟩
  ·exact hkt j y (by omega) hy⟩ (by omega)
 simp (maxSteps:=2000000) [-getElem?_pos] at ih'
 simp (maxSteps:=2000000) [-getElem?_pos,show (k:Int)<a.sy by omega,hr,hxk,d1,d2,wrap_succ (show k+1≤9223372036854775807 by omega)]
 exact ih'
end Go.Dv
namespace Go.Dv
open Go Go.Sim Go.Proofs Go.Fsa
attribute [local simp] bitF autD b_neqB b_eqlB
def FnB (g:FuncId) (a b:List DV) (D:DH) (l:List Int) (p:Int→Bool):Prop:=belows D.length a=true∧belows D.length b=true∧∀ (x:Int) (base:Nat),x∈l→callD Q g (a++.f (.raw (.int .i64 x))::b) base D=some (.f (.raw (.bool (p x))),D)
theorem w120 (l:List Int) (hl:l.length<1152921504606846976) (g:FuncId) (a b:List DV) (p:Int→Bool) (base:Nat) (D:DH) (hp:FnB g a b D l p):callD Q 120 [rowD l,.fn g a b] base D=some (intD (((l.findIdx? p).map fun n=>(n:Int)).getD (-1)),D):=by
 obtain ⟨ka,kb,hp⟩:=hp
 rw [call_pure (fn:=Tryz.f120) (show Q.P.funcs[120]? =some Tryz.f120 from Tryz.func120) rfl ann120 rfl (by simp only [List.length_cons,List.length_nil];decide) (by kernel_rfl)]
 simp (maxSteps:=2000000) [-getElem?_pos,ka,kb]
 generalize hs10:SD.mk _ _=sd10
 revert sd10
 refine wl (fun i:Nat=>⟨(((Trie.leaf.put 8 (intD i)).put 7 (intD l.length)).put 1 (.fn g a b)).put 0 (rowD l),D⟩) (fun i=>i≤l.length∧∀ j x,j<i→l[j]? =some x→p x=false) (fun i=>l.length-i) ?_ 0 ⟨by omega,fun j x h=>by omega⟩
 intro i ⟨hi,ht⟩ ih
 rw [loopG_eq]
 by_cases hlt:i<l.length
 ·obtain ⟨x,hx⟩:∃ x,l[i]? =some x:=⟨_,List.getElem?_eq_getElem hlt⟩
  have hp':=fun bb=>hp x bb (List.mem_of_getElem? hx)
  cases hpx:p x with
  | false=>
   have ih':=ih (i+1) ⟨by omega,fun j y hj hy=>by
    by_cases h:j=i
    ·subst h;rw [hx] at hy;cases hy;exact hpx
    ·exact ht j y (by omega) hy⟩ (by omega)
   simp (maxSteps:=2000000) [-getElem?_pos] at ih'
   simp (maxSteps:=2000000) [-getElem?_pos,ka,kb,hlt,hx,hp',hpx,wrap_succ (show i+1≤9223372036854775807 by omega)]
   exact ih'
  | true=>
   have hf:l.findIdx? p=some i:=by
    rw [List.findIdx?_eq_some_iff_getElem]
    rw [List.getElem?_eq_getElem hlt,Option.some.injEq] at hx
    exact ⟨hlt,by rw [hx];exact hpx,fun j hj=>by rw [ht j _ hj (List.getElem?_eq_getElem (by omega))];simp [-getElem?_pos]⟩
   simp (maxSteps:=2000000) [-getElem?_pos,ka,kb,hlt,hx,hp',hpx,hf]
 ·have hf:l.findIdx? p=none:=by
   rw [List.findIdx?_eq_none_iff]
   intro x hx
   obtain ⟨j,hj,rfl⟩:=List.getElem_of_mem hx
   exact ht j _ (by omega) (List.getElem?_eq_getElem hj)
  simp (maxSteps:=2000000) [-getElem?_pos,hlt,hf]
theorem c120 {l:List Int} (hl:l.length<1152921504606846976) {g:FuncId} {a b:List DV} {p:Int→Bool} {base:Nat} {D:DH} (hp:FnB g a b D l p):callD Q 120 [.f (.lst (l.map intF)),.fn g a b] base D=some (.f (.raw (.int .i64 (((l.findIdx? p).map fun n=>(n:Int)).getD (-1)))),D):=w120 l hl g a b p base D hp
theorem w73 (l:List Int) (hl:l.length<1152921504606846976) (g:FuncId) (a b:List DV) (p:Int→Bool) (base:Nat) (D:DH) (hp:FnB g a b D l p):callD Q 73 [rowD l,.fn g a b] base D=some (boolD (l.any p),D):=by
 rw [call_pure (fn:=Tryz.f73) (show Q.P.funcs[73]? =some Tryz.f73 from Tryz.func73) rfl ann73 rfl (by simp only [List.length_cons,List.length_nil];decide) (by kernel_rfl)]
 cases h:l.findIdx? p with
 | none=>
  have:l.any p=false:=by
   rw [List.findIdx?_eq_none_iff] at h
   simpa [-getElem?_pos] using h
  simp (maxSteps:=2000000) [-getElem?_pos,c120 hl hp,h,this]
 | some i=>
  have:l.any p=true:=by
   rw [List.findIdx?_eq_some_iff_getElem] at h
   obtain ⟨h1,h2,_⟩:=h
   exact List.any_eq_true.2 ⟨_,List.getElem_mem h1,h2⟩
  simp (maxSteps:=2000000) [-getElem?_pos,c120 hl hp,h,this]
theorem c18 {sy st:Int} {acc:List Bool} {nxt:List (List Int)} {base:Nat} {D:DH} (h:nxt.length<1152921504606846976):callD Q 18 [.agg [.f (.raw (.int .i64 sy)),.f (.raw (.int .i64 st)),.f (.lst (acc.map bitF)),.f (.lst (nxt.map rowF))]] base D=some (.f (.raw (.int .i64 (Aut.check ⟨sy,st,acc,nxt⟩))),D):=w18 ⟨sy,st,acc,nxt⟩ h base D
end Go.Dv
set_option maxHeartbeats 2000000
namespace Go.Dv
open Go Go.Sim Go.Proofs Go.Fsa
attribute [local simp] bitF autD b_neqB b_eqlB
def bitD (b:Bool):DV:=.f (.raw (.bool b))
theorem el_bit {l:List Bool}:List.map (elD ∘ bitF) l=l.map bitD:=rfl
theorem set_bit {l:List Bool} {i:Nat} {b:Bool}:(l.map bitD).set i (.f (.raw (.bool b)))=(l.set i b).map bitD:=set_map (f:=bitD)
theorem fz_bit {b:Nat} {D:DH} {l:List Bool}:frzL (frz b D 3) (l.map bitD)=some (l.map bitF,[]):=fzL_map fun _=>rfl
attribute [local simp] el_bit set_bit fz_bit bitD
end Go.Dv
namespace Go.Dv
open Go Go.Sim Go.Proofs Go.Fsa
attribute [local simp] bitF autD b_neqB b_eqlB
theorem w89 (a:Aut) (base:Nat) (D:DH):callD Q 89 [autD a] base D=some (intD a.begin,D):=by
 rw [call_pure (fn:=Tryz.f89) (show Q.P.funcs[89]? =some Tryz.f89 from Tryz.func89) rfl ann89 rfl (by simp only [List.length_cons,List.length_nil];decide) (by kernel_rfl)]
 by_cases h:a.acc.length=0
 ·simp (maxSteps:=2000000) [-getElem?_pos,h,Aut.begin]
 ·obtain ⟨n,hn⟩:∃ n,a.acc.length=n+1:=⟨a.acc.length-1,by omega⟩
  simp (maxSteps:=2000000) [-getElem?_pos,hn,Aut.begin,show ¬((n:Int)+1=0) by omega]
theorem w91 (a:Aut) (hv:a.valid) (s:Int) (hs:s<(a.nxt.length:Nat)) (c:Nat) (hc:(c:Int)<a.sy) (base:Nat) (D:DH):callD Q 91 [autD a,intD s,intD c] base D=some (intD (a.go s c),D):=by
 rw [call_pure (fn:=Tryz.f91) (show Q.P.funcs[91]? =some Tryz.f91 from Tryz.func91) rfl ann91 rfl (by simp only [List.length_cons,List.length_nil];decide) (by kernel_rfl)]
 by_cases h:s<0
 ·rw [Aut.go_neg h]
  simp (maxSteps:=2000000) [-getElem?_pos,h]
 ·obtain ⟨n,rfl⟩:∃ n:Nat,s=n:=⟨s.toNat,by omega⟩
  obtain ⟨r,h1,h2⟩:=a.go_some hv (by omega) hs hc
  rw [Int.toNat_natCast] at h1
  simp (maxSteps:=2000000) [-getElem?_pos,h,h1,h2]
theorem c91 {sy st:Int} {acc:List Bool} {nxt:List (List Int)} {s:Int} {c:Nat} {base:Nat} {D:DH} (hv:Aut.valid ⟨sy,st,acc,nxt⟩) (hs:s<(nxt.length:Nat)) (hc:(c:Int)<sy):callD Q 91 [.agg [.f (.raw (.int .i64 sy)),.f (.raw (.int .i64 st)),.f (.lst (acc.map bitF)),.f (.lst (nxt.map rowF))],.f (.raw (.int .i64 s)),.f (.raw (.int .i64 c))] base D=some (.f (.raw (.int .i64 (Aut.go ⟨sy,st,acc,nxt⟩ s c))),D):=w91 ⟨sy,st,acc,nxt⟩ hv s hs c hc base D
end Go.Dv
namespace Go.Dv
open Go Go.Sim Go.Proofs Go.Fsa
attribute [local simp] bitF autD b_neqB b_eqlB
def numD (n:Int):DV:=.f (.raw (.int .i64 n))
theorem el_num {l:List Int}:List.map (elD ∘ intF) l=l.map numD:=rfl
theorem set_num {l:List Int} {i:Nat} {n:Int}:(l.map numD).set i (.f (.raw (.int .i64 n)))=(l.set i n).map numD:=set_map (f:=numD)
theorem fz_num {b:Nat} {D:DH} {l:List Int} {k:Nat}:frzL (frz b D (k+1)) (l.map numD)=some (l.map intF,[]):=fzL_map fun _=>rfl
theorem rep_num {n:Nat}:List.replicate n (DV.f (.raw (.int .i64 0)))=(List.replicate n (0:Int)).map numD:=by rw [List.map_replicate];rfl
attribute [local simp] el_num set_num fz_num numD
end Go.Dv
namespace Go.Dv
open Go Go.Sim Go.Proofs Go.Fsa
attribute [local simp] bitF autD b_neqB b_eqlB el_num set_num fz_num numD bitD el_bit set_bit fz_bit
def autO (a:Aut) (e:Int):DV:=.tup [autD a,intD e]
end Go.Dv
namespace Go.Dv
open Go Go.Sim Go.Proofs Go.Fsa
attribute [local simp] bitF autD b_neqB b_eqlB
end Go.Dv
namespace Go.Dv
open Go Go.Sim Go.Proofs Go.Fsa
attribute [local simp] encI bitF autD b_neqB b_eqlB el_num set_num fz_num numD bitD el_bit set_bit fz_bit
theorem ex_help {R:Option (BX×SD)} {G:List Int→List Int→List Int→Trie DV→Option (BX×SD)} {T:Trie DV→Prop} {p:List Int→List Int→Prop} {vs fi bs:List Int} (hp:p fi bs) (h:∃ tm,R=G vs fi bs tm∧T tm) :
  ∃ (tm:Trie DV) (vs fi bs:List Int),R=G vs fi bs tm∧T tm∧p fi bs:=by
 obtain ⟨tm,h1,h2⟩:=h
 exact ⟨tm,vs,fi,bs,h1,h2,hp⟩
theorem qO_below {L e sz:Nat} {els:List DV} (h:els.all (below L)=true):objBelow L (qO e sz els)=true:=by
 unfold qO
 split
 ·rw [ob_arr];exact h
 ·rw [ob_app];exact h
theorem below_num {L:Nat} {l:List Int}:(l.map numD).all (below L)=true:=by
 rw [List.all_eq_true]
 intro y hy
 obtain ⟨z,_,rfl⟩:=List.mem_map.1 hy
 rfl
end Go.Dv
namespace Go.Dv
open Go Go.Sim Go.Proofs Go.Fsa
attribute [local simp] encI bitF autD b_neqB b_eqlB el_num set_num fz_num numD bitD el_bit set_bit fz_bit
def machD (o:Nat) (m:Aut) (O1 O2:DObj) (fi bs:List Int):DH:=[.arr 5 [.agg [intD m.sy,.apl (o+5) m.acc.length,.apl (o+6) m.acc.length,qV (o+3) m.acc.length,qV (o+4) m.acc.length]],O1,O2,qO 3 1 (fi.map numD),qO 3 1 (bs.map numD),.app 4 1 (m.acc.map bitD),.app 26 1 (m.nxt.map rowD)]
end Go.Dv
