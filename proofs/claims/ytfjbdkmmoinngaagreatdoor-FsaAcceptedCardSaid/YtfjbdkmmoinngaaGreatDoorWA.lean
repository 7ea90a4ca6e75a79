/- Texts of this proof, part WA. -/
import Derived.Test.YtfjbdkmmoinngaaGreatDoorFacts
import Derived.Test.YtfjbdkmmoinngaaGreatDoorPure
import Derived.Test.YtfjbdkmmoinngaaGreatDoorDvB
set_option linter.unusedVariables false
set_option linter.unusedSimpArgs false
set_option linter.unusedSectionVars false
set_option maxRecDepth 100000
namespace Go.Dv
attribute [local simp] zza zyl zys
open Go Go.Sim Go.Proofs
theorem zz6 {x y:Operand} {a b:Bool}:zsz Tryz.prog .neq 4 x y (.bool a) (.bool b)=some (.bool (a != b)):=by cases a<;>cases b<;>kernel_rfl
theorem zz7 {x y:Operand} {a b:Bool}:zsz Tryz.prog .eql 4 x y (.bool a) (.bool b)=some (.bool (a==b)):=by cases a<;>cases b<;>kernel_rfl
end Go.Dv
namespace Go.Dv
attribute [local simp] zza zyl zys
open Go Go.Sim Go.Proofs Go.Fsa
def zwp (b:Bool):FV:=.raw (.bool b)
def zzp (a:Aut):DV:=.agg [.f (.raw (.int .i64 a.sy)),.f (.raw (.int .i64 a.st)),.f (.lst (a.acc.map zwp)),.f (.lst (a.nxt.map zug))]
attribute [local simp] zwp zzp
theorem w19 (a:Aut) (base:Nat) (D:DH):zzh Q 19 [zzp a] base D=some (zze a.check,D):=by
 rw [zzb (fn:=Tryz.f19) (show Q.P.funcs[19]? =some Tryz.f19 from Tryz.func19) rfl xxc rfl (by simp only [tzd,tze];decide) (by kernel_rfl)]
 have gp:=xos
 simp [xxc,Tryz.f19,zyr] at gp
 have bad:¬a.valid->a.check=60:=λh=>by simp [-getElem?_pos,Aut.check,h]
 by_cases c1:a.sy<1
 .rw [bad λh=>h.lo c1];simp (maxSteps:=2000000) [-getElem?_pos,gp,c1]
 by_cases c2:400<a.sy
 .rw [bad λh=>h.hi c2];simp (maxSteps:=2000000) [-getElem?_pos,gp,c1,c2]
 by_cases c3:a.acc.length=a.nxt.length
 case neg=>rw [bad λh=>c3 h.len.symm];simp (maxSteps:=2000000) [-getElem?_pos,gp,c1,c2,c3]
 by_cases c4:(20000:Int)<(a.nxt.length:Int)
 .rw [bad λh=>h.most (by omega)];simp (maxSteps:=2000000) [-getElem?_pos,gp,c1,c2,c3,c4]
 by_cases c5:a.st<0
 .rw [bad λh=>h.st0 c5];simp (maxSteps:=2000000) [-getElem?_pos,gp,c1,c2,c3,c4,c5]
 generalize hnn:a.nxt.length=n at *
 have hx:a.acc.length=n:=c3
 by_cases c6:n=0
 .by_cases c7:a.st=0
  .have hv:a.valid:=⟨c1,c2,by omega,by omega,c5,by omega,λr hr=>by rw [List.length_eq_zero_iff.1 (hnn.trans c6)] at hr;cases hr⟩
   rw [show a.check=0 by simp [-getElem?_pos,Aut.check,hv]]
   simp (maxSteps:=2000000) [-getElem?_pos,gp,c1,c2,c3,c4,c5,c6,c7,hnn]
   rw [zzi]
   simp (maxSteps:=2000000) [-getElem?_pos,gp]
  .rw [bad λh=>h.st1 (by omega)];simp (maxSteps:=2000000) [-getElem?_pos,gp,c1,c2,c3,c4,c5,c6,c7,hnn]
 by_cases c7:(n:Int)<=a.st
 .rw [bad λh=>h.st1 (by omega)];simp (maxSteps:=2000000) [-getElem?_pos,gp,c1,c2,c3,c4,c5,c6,c7,hnn,show 0<n by omega]
 have good:(∀ i,i<n->∃ r,a.nxt[i]? =some r/\zli a.sy n r)->a.valid:=λh=>⟨c1,c2,by omega,by omega,c5,by omega,λr hr=>by
  obtain ⟨i,hi,rfl⟩:=tyn hr
  obtain ⟨r',h1,h2⟩:=h i (by omega)
  rw [tzb hi,tza] at h1
  rw [h1,hx];exact h2⟩
 have badRow:∀ i r,a.nxt[i]? =some r->¬zli a.sy n r->a.check=60:=λi r hr h=>bad λhv=>h (by rw [<-hx];exact hv.rows r (tzg hr))
 simp (maxSteps:=2000000) [-getElem?_pos,gp,c1,c2,c3,c4,c5,c6,c7,hnn,show 0<n by omega]
 generalize hs:SD.mk _ _=s0
 revert s0
 refine wl (λi:Nat=>⟨((Trie.leaf.put 4 (zze i)).put 3 (zze n)).put 1 (.ref D.length 0 0),D++[.arr 4 [zzp a]]⟩) (λi=>i<=n/\∀ j,j<i->∃ r,a.nxt[j]? =some r/\zli a.sy n r) (λi=>n-i) ?_ 0 ⟨by omega,λj h=>by omega⟩
 intro i ⟨hi,ht⟩ ih
 rw [zzi]
 by_cases hlt:i<n
 case neg=>
  rw [show a.check=0 by simp [-getElem?_pos,Aut.check,good (λj hj=>ht j (by omega))]]
  simp (maxSteps:=2000000) [-getElem?_pos,gp,hlt]
 obtain ⟨r,hr⟩:∃ r,a.nxt[i]? =some r:=⟨_,tzb (by omega)⟩
 by_cases hl:(r.length:Int)=a.sy
 case neg=>
  rw [badRow i r hr λh=>hl h.1]
  simp (maxSteps:=2000000) [-getElem?_pos,gp,hlt,hr,hl]
 simp (maxSteps:=2000000) [-getElem?_pos,gp,hlt,hr,hl]
 generalize hs:SD.mk _ _=s1
 revert s1
 refine wl (λk:Nat=>⟨(((Trie.leaf.put 5 (zze k)).put 4 (zze i)).put 3 (zze n)).put 1 (.ref D.length 0 0),D++[.arr 4 [zzp a]]⟩) (λk=>k<=r.length/\∀ j x,j<k->r[j]? =some x->¬x < -1/\¬(n:Int)<=x) (λk=>r.length-k) ?_ 0 ⟨by omega,λj x h=>by omega⟩
 intro k ⟨hk,hkt⟩ ih2
 rw [zzi]
 by_cases hklt:k<r.length
 case neg=>
  have hrow:zli a.sy n r:=⟨hl,λt ht=>by
   obtain ⟨j,hj,rfl⟩:=tyn ht
   exact hkt j _ (by omega) (tzb hj)⟩
  have ih':=ih (i+1) ⟨by omega,λj hj=>by
   by_cases h:j=i
   .subst h;exact ⟨r,hr,hrow⟩
   .exact ht j (by omega)⟩ (by omega)
  simp (maxSteps:=2000000) [-getElem?_pos] at ih'
  simp (maxSteps:=2000000) [-getElem?_pos,gp,show ¬(k:Int)<a.sy by omega,zzg (show i+1<=9223372036854775807 by omega)]
  exact ih'
 obtain ⟨x,hxk⟩:∃ x,r[k]? =some x:=⟨_,tzb hklt⟩
 have hin:x∈r:=tzg hxk
 by_cases d1:x < -1
 .rw [badRow i r hr λh=>(h.2 x hin).1 d1]
  simp (maxSteps:=2000000) [-getElem?_pos,gp,show (k:Int)<a.sy by omega,hr,hxk,d1]
 by_cases d2:(n:Int)<=x
 .rw [badRow i r hr λh=>(h.2 x hin).2 d2]
  simp (maxSteps:=2000000) [-getElem?_pos,gp,show (k:Int)<a.sy by omega,hr,hxk,d1,d2]
 have ih':=ih2 (k+1) ⟨by omega,λj y hj hy=>by
  by_cases h:j=k
  .subst h;rw [hxk] at hy;cases hy;exact ⟨d1,d2⟩
  .exact hkt j y (by omega) hy⟩ (by omega)
 simp (maxSteps:=2000000) [-getElem?_pos] at ih'
 simp (maxSteps:=2000000) [-getElem?_pos,gp,show (k:Int)<a.sy by omega,hr,hxk,d1,d2,zzg (show k+1<=9223372036854775807 by omega)]
 exact ih'
end Go.Dv
namespace Go.Dv
attribute [local simp] zza zyl zys
open Go Go.Sim Go.Proofs Go.Fsa
attribute [local simp] zwp zzp
theorem c19 {sy st:Int} {acc:List Bool} {nxt:List (List Int)} {base:Nat} {D:DH}:zzh Q 19 [.agg [.f (.raw (.int .i64 sy)),.f (.raw (.int .i64 st)),.f (.lst (acc.map zwp)),.f (.lst (nxt.map zug))]] base D=some (.f (.raw (.int .i64 (Aut.check ⟨sy,st,acc,nxt⟩))),D):=w19 ⟨sy,st,acc,nxt⟩ base D
theorem w58 (a:Aut) (hv:a.valid) (s:Int) (hs:s<(a.nxt.length:Nat)) (c:Nat) (hc:(c:Int)<a.sy) (base:Nat) (D:DH):zzh Q 58 [zzp a,zze s,zze c] base D=some (zze (a.go s c),D):=by
 rw [zzb (fn:=Tryz.f58) (show Q.P.funcs[58]? =some Tryz.f58 from Tryz.func58) rfl xs5 rfl (by simp only [tzd,tze];decide) (by kernel_rfl)]
 by_cases h:s<0
 .rw [Aut.go_neg h]
  simp (maxSteps:=2000000) [-getElem?_pos,h]
 .obtain ⟨n,rfl⟩:∃ n:Nat,s=n:=⟨s.toNat,by omega⟩
  obtain ⟨r,h1,h2⟩:=a.go_some hv (by omega) hs hc
  rw [tym] at h1
  simp (maxSteps:=2000000) [-getElem?_pos,h,h1,h2]
theorem c58 {sy st:Int} {acc:List Bool} {nxt:List (List Int)} {s:Int} {c:Nat} {base:Nat} {D:DH} (hv:Aut.valid ⟨sy,st,acc,nxt⟩) (hs:s<(nxt.length:Nat)) (hc:(c:Int)<sy):zzh Q 58 [.agg [.f (.raw (.int .i64 sy)),.f (.raw (.int .i64 st)),.f (.lst (acc.map zwp)),.f (.lst (nxt.map zug))],.f (.raw (.int .i64 s)),.f (.raw (.int .i64 c))] base D=some (.f (.raw (.int .i64 (Aut.go ⟨sy,st,acc,nxt⟩ s c))),D):=w58 ⟨sy,st,acc,nxt⟩ hv s hs c hc base D
def zhj (o:Option Int):DV:=.tup [.f (.raw (.int .i64 (o.getD 0))),.f (.raw (.bool o.isSome))]
theorem w14 (a:Aut) (f:Int) (w:List Int) (hw:w.length<1152921504606846976) (base:Nat) (D:DH):zzh Q 14 [zzp a,zze f,zxd w] base D=some (zhj (a.lead f w),D):=by
 rw [zzb (fn:=Tryz.f14) (show Q.P.funcs[14]? =some Tryz.f14 from Tryz.func14) rfl xxd rfl (by simp only [tzd,tze];decide) (by kernel_rfl)]
 have gp:=xot
 simp [xxd,Tryz.f14,zyr] at gp
 by_cases hv:a.valid
 case neg=>
  have hc:a.check=60:=by simp [-getElem?_pos,Aut.check,hv]
  rw [show a.lead f w=none by simp [-getElem?_pos,Aut.lead,hc]]
  simp (maxSteps:=2000000) [-getElem?_pos,gp,c19,hc,zhj]
 have hc:a.check=0:=Aut.check_valid.2 hv
 by_cases h0:f<0
 .rw [show a.lead f w=none by simp [-getElem?_pos,Aut.lead,show ¬0<=f by omega]]
  simp (maxSteps:=2000000) [-getElem?_pos,gp,c19,hc,h0,zhj]
 by_cases h1:(a.nxt.length:Int)<=f
 .rw [show a.lead f w=none by simp [-getElem?_pos,Aut.lead,show ¬f<(a.nxt.length:Nat) by omega]]
  simp (maxSteps:=2000000) [-getElem?_pos,gp,c19,hc,h0,h1,zhj]
 rw [show a.lead f w=a.run f w by simp [-getElem?_pos,Aut.lead,hc,show f<(a.nxt.length:Nat) by omega,show 0<=f by omega]]
 simp (maxSteps:=2000000) [-getElem?_pos,gp,c19,hc,h0,h1]
 generalize hs1:SD.mk _ _=sd1
 revert sd1
 refine wl (λp:Nat×Int=>⟨(((Trie.leaf.put 9 (zze p.1)).put 8 (zze p.2)).put 3 (.ref D.length 0 0)).put 2 (zxd w),D++[.arr 4 [zzp a]]⟩) (λp=>p.1<=w.length/\a.dom p.2/\a.run f w=a.run p.2 (w.drop p.1)) (λp=>w.length-p.1) ?_ (0,f) ⟨by simp [-getElem?_pos],⟨by omega,by omega⟩,by simp [-getElem?_pos]⟩
 rintro ⟨i,s⟩ ⟨hi,hd,hr⟩ ih
 simp only at hi hd hr ih
 rw [zzi]
 by_cases hlt:i<w.length
 case neg=>
  rw [hr,tyy (by omega)]
  by_cases hs:s<0
  .simp (maxSteps:=2000000) [-getElem?_pos,gp,hlt,hs,Aut.run,zhj]
  .simp (maxSteps:=2000000) [-getElem?_pos,gp,hlt,hs,Aut.run,zhj]
 obtain ⟨c,hcx⟩:∃ c,w[i]? =some c:=⟨_,tzb hlt⟩
 have hrr:a.run s (w.drop i)=if c<0∨a.sy<=c then none else a.run (a.go s c.toNat) (w.drop (i+1)):=by
  rw [List.drop_eq_getElem_cons hlt]
  rw [tzb hlt,tza] at hcx
  rw [hcx];rfl
 by_cases d1:c<0
 .rw [hr,hrr,if_pos (.inl d1)]
  simp (maxSteps:=2000000) [-getElem?_pos,gp,hlt,hcx,d1,zhj]
 obtain ⟨n,rfl⟩:∃ n:Nat,c=n:=⟨c.toNat,by omega⟩
 by_cases d2:a.sy<=n
 .rw [hr,hrr,if_pos (.inr d2)]
  simp (maxSteps:=2000000) [-getElem?_pos,gp,hlt,hcx,d1,d2,zhj]
 have ih':=ih (i+1,a.go s n) ⟨by omega,Aut.go_dom hv,by rw [hr,hrr,if_neg (by omega),tym]⟩ (by simp only;omega)
 simp (maxSteps:=2000000) [-getElem?_pos] at ih'
 simp (maxSteps:=2000000) [-getElem?_pos,gp,hlt,hcx,d1,d2,c58,hv,hd.2,show (n:Int)<a.sy by omega,zzg (show i+1<=9223372036854775807 by omega)]
 exact ih'
end Go.Dv
namespace Go.Dv
attribute [local simp] zza zyl zys
open Go Go.Sim Go.Proofs Go.Fsa
attribute [local simp] zwp zzp zz6 zz7
theorem c14 {sy st f:Int} {acc:List Bool} {nxt:List (List Int)} {w:List Int} {base:Nat} {D:DH} (hw:w.length<1152921504606846976):zzh Q 14 [.agg [.f (.raw (.int .i64 sy)),.f (.raw (.int .i64 st)),.f (.lst (acc.map zwp)),.f (.lst (nxt.map zug))],.f (.raw (.int .i64 f)),.f (.lst (w.map yxf))] base D=some (zhj (Aut.lead ⟨sy,st,acc,nxt⟩ f w),D):=w14 ⟨sy,st,acc,nxt⟩ f w hw base D
theorem w21 (a:Aut) (w:List Int) (hw:w.length<1152921504606846976) (base:Nat) (D:DH):zzh Q 21 [zzp a,zxd w] base D=some (zzu (a.accepts w),D):=by
 rw [zzb (fn:=Tryz.f21) (show Q.P.funcs[21]? =some Tryz.f21 from Tryz.func21) rfl yl8 rfl (by simp only [tzd,tze];decide) (by kernel_rfl)]
 by_cases hv:a.valid
 case neg=>
  have hc:a.check=60:=by simp [-getElem?_pos,Aut.check,hv]
  rw [show a.accepts w=false by simp [-getElem?_pos,Aut.accepts,Aut.lead,hc]]
  simp (maxSteps:=2000000) [-getElem?_pos,c19,hc]
 have hc:a.check=0:=Aut.check_valid.2 hv
 by_cases h0:a.nxt.length=0
 .rw [show a.accepts w=false by
   have:=hv.st0
   simp [-getElem?_pos,Aut.accepts,Aut.lead,show ¬a.st<0 by omega,h0]
]
  simp (maxSteps:=2000000) [-getElem?_pos,c19,hc,h0]
 obtain ⟨n,hn⟩:∃ n,a.nxt.length=n+1:=⟨a.nxt.length-1,by omega⟩
 cases hl:a.lead a.st w with
 | none=>
  rw [show a.accepts w=false by simp [-getElem?_pos,Aut.accepts,hl]]
  simp (maxSteps:=2000000) [-getElem?_pos,c19,hc,hn,c14,hw,hl,zhj,show ¬((n:Int)+1=0) by omega]
 | some s=>
  have hs:0<=s/\s<(a.nxt.length:Nat):=by
   have:=hl
   simp only [Aut.lead] at this
   split at this
   .rename_i g;exact Aut.run_dom hv ⟨by omega,g.2.2⟩ this
   .cases this
  obtain ⟨m,rfl⟩:∃ m:Nat,s=m:=⟨s.toNat,by omega⟩
  obtain ⟨b,hb⟩:∃ b,a.acc[m]? =some b:=⟨_,tzb (by have:=hv.len;omega)⟩
  rw [show a.accepts w=b by simp [-getElem?_pos,Aut.accepts,hl,hb]]
  simp (maxSteps:=2000000) [-getElem?_pos,c19,hc,hn,c14,hw,hl,zhj,hb,show ¬((n:Int)+1=0) by omega]
def xnw (a b:Aut):Bool:=decide (a.sy=b.sy/\a.st=b.st/\a.acc=b.acc/\a.nxt=b.nxt)
end Go.Dv
namespace Go.Dv
attribute [local simp] zza zyl zys
open Go Go.Sim Go.Proofs Go.Fsa
attribute [local simp] zwp zzp zz6 zz7
theorem yfx {x y:Int}:zpc Tryz.prog Builtin.max2 [.f (.raw (.int .i64 x)),.f (.raw (.int .i64 y))]=some (.f (.raw (.int .i64 (max x y)))):=by
 simp only [zpc,yl9,zrr,tz2]
 have:Builtin.max2 (.int .i64 x) (.int .i64 y)=.pure (.int .i64 (max x y)):=by
  simp only [Builtin.max2]
  split<;>(congr 2;omega)
 rw [this];rfl
theorem xse {P:Program} {D:DH} {base:Nat} {ts:List TypeId} {l:List DV}:zx0 P D base ts l .max=zv1 D (zpc P Builtin.max2 l):=rfl
attribute [local simp] xse yfx
theorem w18 (a:Aut) (ha:a.nxt.length<1152921504606846976) (base:Nat) (D:DH):zzh Q 18 [zzp a] base D=some (zze a.check,D):=by
 rw [zzb (fn:=Tryz.f18) (show Q.P.funcs[18]? =some Tryz.f18 from Tryz.func18) rfl ydr rfl (by simp only [tzd,tze];decide) (by kernel_rfl)]
 have bad:¬a.valid->a.check=60:=λh=>by simp [-getElem?_pos,Aut.check,h]
 by_cases c1:a.sy<1
 .rw [bad λh=>h.lo c1];simp (maxSteps:=2000000) [-getElem?_pos,c1]
 by_cases c2:400<a.sy
 .rw [bad λh=>h.hi c2];simp (maxSteps:=2000000) [-getElem?_pos,c1,c2]
 by_cases c4:(20000:Int)<(a.acc.length:Int)
 .rw [bad λh=>h.most (by omega)];simp (maxSteps:=2000000) [-getElem?_pos,c1,c2,c4]
 by_cases c3:a.nxt.length=a.acc.length
 case neg=>rw [bad λh=>c3 h.len];simp (maxSteps:=2000000) [-getElem?_pos,c1,c2,c3,c4]
 by_cases c5:a.st<0
 .rw [bad λh=>h.st0 c5];simp (maxSteps:=2000000) [-getElem?_pos,c1,c2,c3,c4,c5]
 generalize hnn:a.acc.length=n at *
 by_cases c7:max (n:Int) 1<=a.st
 .rw [bad λh=>h.st1 (by rw [hnn];exact c7)];simp (maxSteps:=2000000) [-getElem?_pos,c1,c2,c3,c4,c5,hnn,c7]
 have good:(∀ i,i<n->∃ r,a.nxt[i]? =some r/\zli a.sy n r)->a.valid:=λh=>⟨c1,c2,by omega,by omega,c5,by rw [hnn];exact c7,λr hr=>by
  obtain ⟨i,hi,rfl⟩:=tyn hr
  obtain ⟨r',h1,h2⟩:=h i (by omega)
  rw [tzb hi,tza] at h1
  rw [h1,hnn];exact h2⟩
 have badRow:∀ i r,a.nxt[i]? =some r->¬zli a.sy n r->a.check=60:=λi r hr h=>bad λhv=>h (by rw [<-hnn];exact hv.rows r (tzg hr))
 simp (maxSteps:=2000000) [-getElem?_pos,c1,c2,c3,c4,c5,c7,hnn]
 generalize hs5:SD.mk _ _=sd5
 revert sd5
 refine wl (λi:Nat=>⟨((((Trie.leaf.put 45 (zze i)).put 44 (zze n)).put 43 (.f (.lst (a.nxt.map zug)))).put 3 (zze n)).put 1 (.ref D.length 0 0),D++[.arr 4 [zzp a]]⟩) (λi=>i<=n/\∀ j,j<i->∃ r,a.nxt[j]? =some r/\zli a.sy n r) (λi=>n-i) ?_ 0 ⟨by omega,λj h=>by omega⟩
 intro i ⟨hi,ht⟩ ih
 rw [zzi]
 by_cases hlt:i<n
 case neg=>
  rw [show a.check=0 by simp [-getElem?_pos,Aut.check,good (λj hj=>ht j (by omega))]]
  simp (maxSteps:=2000000) [-getElem?_pos,hlt]
 obtain ⟨r,hr⟩:∃ r,a.nxt[i]? =some r:=⟨_,tzb (by omega)⟩
 by_cases hl:(r.length:Int)=a.sy
 case neg=>
  rw [badRow i r hr λh=>hl h.1]
  simp (maxSteps:=2000000) [-getElem?_pos,hlt,hr,hl]
 simp (maxSteps:=2000000) [-getElem?_pos,hlt,hr,hl]
 generalize hs6:SD.mk _ _=sd6
 revert sd6
 refine wl (λk:Nat=>⟨(((((((Trie.leaf.put 56 (zze k)).put 55 (zze a.sy)).put 54 (zxd r)).put 45 (zze i)).put 44 (zze n)).put 43 (.f (.lst (a.nxt.map zug)))).put 3 (zze n)).put 1 (.ref D.length 0 0),D++[.arr 4 [zzp a]]⟩) (λk=>k<=r.length/\∀ j x,j<k->r[j]? =some x->¬x < -1/\¬(n:Int)<=x) (λk=>r.length-k) ?_ 0 ⟨by omega,λj x h=>by omega⟩
 intro k ⟨hk,hkt⟩ ih2
 rw [zzi]
 by_cases hklt:k<r.length
 case neg=>
  have hrow:zli a.sy n r:=⟨hl,λt ht=>by
   obtain ⟨j,hj,rfl⟩:=tyn ht
   exact hkt j _ (by omega) (tzb hj)⟩
  have ih':=ih (i+1) ⟨by omega,λj hj=>by
   by_cases h:j=i
   .subst h;exact ⟨r,hr,hrow⟩
   .exact ht j (by omega)⟩ (by omega)
  simp (maxSteps:=2000000) [-getElem?_pos] at ih'
  simp (maxSteps:=2000000) [-getElem?_pos,show ¬(k:Int)<a.sy by omega,zzg (show i+1<=9223372036854775807 by omega)]
  exact ih'
 obtain ⟨x,hxk⟩:∃ x,r[k]? =some x:=⟨_,tzb hklt⟩
 have hin:x∈r:=tzg hxk
 by_cases d1:x < -1
 .rw [badRow i r hr λh=>(h.2 x hin).1 d1]
  simp (maxSteps:=2000000) [-getElem?_pos,show (k:Int)<a.sy by omega,hr,hxk,d1]
 by_cases d2:(n:Int)<=x
 .rw [badRow i r hr λh=>(h.2 x hin).2 d2]
  simp (maxSteps:=2000000) [-getElem?_pos,show (k:Int)<a.sy by omega,hr,hxk,d1,d2]
 have ih':=ih2 (k+1) ⟨by omega,λj y hj hy=>by
  by_cases h:j=k
  .subst h;rw [hxk] at hy;cases hy;exact ⟨d1,d2⟩
  .exact hkt j y (by omega) hy⟩ (by omega)
 simp (maxSteps:=2000000) [-getElem?_pos] at ih'
 simp (maxSteps:=2000000) [-getElem?_pos,show (k:Int)<a.sy by omega,hr,hxk,d1,d2,zzg (show k+1<=9223372036854775807 by omega)]
 exact ih'
end Go.Dv
namespace Go.Dv
attribute [local simp] zza zyl zys
open Go Go.Sim Go.Proofs Go.Fsa
attribute [local simp] zwp zzp zz6 zz7
def FnB (g:FuncId) (a b:List DV) (D:DH) (l:List Int) (p:Int->Bool):Prop:=zzm D.length a=true/\zzm D.length b=true/\∀ (x:Int) (base:Nat),x∈l->zzh Q g (a++.f (.raw (.int .i64 x))::b) base D=some (.f (.raw (.bool (p x))),D)
theorem xnx (l:List Int) (hl:l.length<1152921504606846976) (g:FuncId) (a b:List DV) (p:Int->Bool) (base:Nat) (D:DH) (hp:FnB g a b D l p):zzh Q 120 [zxd l,.fn g a b] base D=some (zze (((l.findIdx? p).map λn=>(n:Int)).getD (-1)),D):=by
 obtain ⟨ka,kb,hp⟩:=hp
 rw [zzb (fn:=Tryz.f120) (show Q.P.funcs[120]? =some Tryz.f120 from Tryz.func120) rfl yea rfl (by simp only [tzd,tze];decide) (by kernel_rfl)]
 simp (maxSteps:=2000000) [-getElem?_pos,ka,kb]
 generalize hs10:SD.mk _ _=sd10
 revert sd10
 refine wl (λi:Nat=>⟨(((Trie.leaf.put 8 (zze i)).put 7 (zze l.length)).put 1 (.fn g a b)).put 0 (zxd l),D⟩) (λi=>i<=l.length/\∀ j x,j<i->l[j]? =some x->p x=false) (λi=>l.length-i) ?_ 0 ⟨by omega,λj x h=>by omega⟩
 intro i ⟨hi,ht⟩ ih
 rw [zzi]
 by_cases hlt:i<l.length
 .obtain ⟨x,hx⟩:∃ x,l[i]? =some x:=⟨_,tzb hlt⟩
  have hp':=λbb=>hp x bb (tzg hx)
  cases hpx:p x with
  | false=>
   have ih':=ih (i+1) ⟨by omega,λj y hj hy=>by
    by_cases h:j=i
    .subst h;rw [hx] at hy;cases hy;exact hpx
    .exact ht j y (by omega) hy⟩ (by omega)
   simp (maxSteps:=2000000) [-getElem?_pos] at ih'
   simp (maxSteps:=2000000) [-getElem?_pos,ka,kb,hlt,hx,hp',hpx,zzg (show i+1<=9223372036854775807 by omega)]
   exact ih'
  | true=>
   have hf:l.findIdx? p=some i:=by
    rw [List.findIdx?_eq_some_iff_getElem]
    rw [tzb hlt,tza] at hx
    exact ⟨hlt,by rw [hx];exact hpx,λj hj=>by rw [ht j _ hj (tzb (by omega))];simp [-getElem?_pos]⟩
   simp (maxSteps:=2000000) [-getElem?_pos,ka,kb,hlt,hx,hp',hpx,hf]
 .have hf:l.findIdx? p=none:=by
   rw [ty6]
   intro x hx
   obtain ⟨j,hj,rfl⟩:=tyn hx
   exact ht j _ (by omega) (tzb hj)
  simp (maxSteps:=2000000) [-getElem?_pos,hlt,hf]
theorem xoj {l:List Int} (hl:l.length<1152921504606846976) {g:FuncId} {a b:List DV} {p:Int->Bool} {base:Nat} {D:DH} (hp:FnB g a b D l p):zzh Q 120 [.f (.lst (l.map yxf)),.fn g a b] base D=some (.f (.raw (.int .i64 (((l.findIdx? p).map λn=>(n:Int)).getD (-1)))),D):=xnx l hl g a b p base D hp
theorem w73 (l:List Int) (hl:l.length<1152921504606846976) (g:FuncId) (a b:List DV) (p:Int->Bool) (base:Nat) (D:DH) (hp:FnB g a b D l p):zzh Q 73 [zxd l,.fn g a b] base D=some (zzu (l.any p),D):=by
 rw [zzb (fn:=Tryz.f73) (show Q.P.funcs[73]? =some Tryz.f73 from Tryz.func73) rfl yds rfl (by simp only [tzd,tze];decide) (by kernel_rfl)]
 cases h:l.findIdx? p with
 | none=>
  have:l.any p=false:=by
   rw [ty6] at h
   simpa [-getElem?_pos] using h
  simp (maxSteps:=2000000) [-getElem?_pos,xoj hl hp,h,this]
 | some i=>
  have:l.any p=true:=by
   rw [List.findIdx?_eq_some_iff_getElem] at h
   obtain ⟨h1,h2,_⟩:=h
   exact List.any_eq_true.2 ⟨_,List.getElem_mem h1,h2⟩
  simp (maxSteps:=2000000) [-getElem?_pos,xoj hl hp,h,this]
theorem c73 {l:List Int} (hl:l.length<1152921504606846976) {g:FuncId} {a b:List DV} {p:Int->Bool} {base:Nat} {D:DH} (hp:FnB g a b D l p):zzh Q 73 [.f (.lst (l.map yxf)),.fn g a b] base D=some (.f (.raw (.bool (l.any p))),D):=w73 l hl g a b p base D hp
theorem xny (D:DH) (sy:Int) (l:List Int):FnB 108 [] [.ref D.length 0 0] (D++[.arr 1 [.f (.raw (.int .i64 sy))]]) l (λx=>decide (x<0∨sy<=x)):=by
 refine ⟨by simp [-getElem?_pos],by simp [-getElem?_pos],λx base _=>?_⟩
 rw [ty2]
 rw [zzb (fn:=Tryz.f108) (show Q.P.funcs[108]? =some Tryz.f108 from Tryz.func108) rfl xxf rfl (by simp only [tzd,tze];decide) (by kernel_rfl)]
 by_cases h:x<0
 .simp (maxSteps:=2000000) [-getElem?_pos,h]
 by_cases h2:sy<=x
 .simp (maxSteps:=2000000) [-getElem?_pos,h,h2]
 simp (maxSteps:=2000000) [-getElem?_pos,h,h2]
theorem w60 (sy:Int) (l:List Int) (hl:l.length<1152921504606846976) (base:Nat) (D:DH):zzh Q 60 [zze sy,zxd l] base D=some (zzu !(l.any λx=>decide (x<0∨sy<=x)),D):=by
 rw [zzb (fn:=Tryz.f60) (show Q.P.funcs[60]? =some Tryz.f60 from Tryz.func60) rfl xs7 rfl (by simp only [tzd,tze];decide) (by kernel_rfl)]
 simp (maxSteps:=2000000) [-getElem?_pos,c73 hl (xny D sy l)]
theorem c18 {sy st:Int} {acc:List Bool} {nxt:List (List Int)} {base:Nat} {D:DH} (h:nxt.length<1152921504606846976):zzh Q 18 [.agg [.f (.raw (.int .i64 sy)),.f (.raw (.int .i64 st)),.f (.lst (acc.map zwp)),.f (.lst (nxt.map zug))]] base D=some (.f (.raw (.int .i64 (Aut.check ⟨sy,st,acc,nxt⟩))),D):=w18 ⟨sy,st,acc,nxt⟩ h base D
theorem c60 {sy:Int} {l:List Int} (hl:l.length<1152921504606846976) {base:Nat} {D:DH}:zzh Q 60 [.f (.raw (.int .i64 sy)),.f (.lst (l.map yxf))] base D=some (.f (.raw (.bool !(l.any λx=>decide (x<0∨sy<=x)))),D):=w60 sy l hl base D
theorem w16 (a:Aut) (f:Int) (w:List Int) (ha:a.nxt.length<1152921504606846976) (hw:w.length<1152921504606846976) (base:Nat) (D:DH):zzh Q 16 [zzp a,zze f,zxd w] base D=some (zhj (a.lead f w),D):=by
 rw [zzb (fn:=Tryz.f16) (show Q.P.funcs[16]? =some Tryz.f16 from Tryz.func16) rfl xs6 rfl (by simp only [tzd,tze];decide) (by kernel_rfl)]
 by_cases hv:a.valid
 case neg=>
  have hc:a.check=60:=by simp [-getElem?_pos,Aut.check,hv]
  rw [show a.lead f w=none by simp [-getElem?_pos,Aut.lead,hc]]
  simp (maxSteps:=2000000) [-getElem?_pos,c18,ha,hc,zhj]
 have hc:a.check=0:=Aut.check_valid.2 hv
 have hlen:=hv.len
 by_cases h0:f<0
 .rw [show a.lead f w=none by simp [-getElem?_pos,Aut.lead,show ¬0<=f by omega]]
  simp (maxSteps:=2000000) [-getElem?_pos,c18,ha,hc,h0,zhj]
 by_cases h1:(a.acc.length:Int)<=f
 .rw [show a.lead f w=none by simp [-getElem?_pos,Aut.lead,show ¬f<(a.nxt.length:Nat) by omega]]
  simp (maxSteps:=2000000) [-getElem?_pos,c18,ha,hc,h0,h1,zhj]
 rw [show a.lead f w=a.run f w by simp [-getElem?_pos,Aut.lead,hc,show f<(a.nxt.length:Nat) by omega,show 0<=f by omega]]
 cases hb:w.any λx=>decide (x<0∨a.sy<=x) with
 | true=>
  rw [Aut.run_word hb]
  simp (maxSteps:=2000000) [-getElem?_pos,c18,ha,hc,h0,h1,c60 hw,hb,zhj,-Bool.decide_or]
 | false=>
 have hgd:∀ i x,w[i]? =some x->¬x<0/\¬a.sy<=x:=λi x hx=>by
  have:=List.any_eq_false.1 hb x (tzg hx)
  simp only [decide_eq_true_eq] at this
  omega
 simp (maxSteps:=2000000) [-getElem?_pos,c18,ha,hc,h0,h1,c60 hw,hb,-Bool.decide_or]
 generalize hs11:SD.mk _ _=sd11
 revert sd11
 refine wl (λp:Nat×Int=>⟨((((Trie.leaf.put 33 (zze p.1)).put 32 (zze w.length)).put 31 (zxd w)).put 3 (.ref D.length 0 0)).put 1 (zze p.2),D++[.arr 4 [zzp a]]⟩) (λp=>p.1<=w.length/\0<=p.2/\p.2<(a.nxt.length:Nat)/\a.run f w=a.run p.2 (w.drop p.1)) (λp=>w.length-p.1) ?_ (0,f) ⟨by simp [-getElem?_pos],by omega,by omega,by simp [-getElem?_pos]⟩
 rintro ⟨i,s⟩ ⟨hi,hd0,hd1,hr⟩ ih
 simp only at hi hd0 hd1 hr ih
 rw [zzi]
 by_cases hlt:i<w.length
 case neg=>
  rw [hr,tyy (by omega)]
  simp (maxSteps:=2000000) [-getElem?_pos,hlt,show ¬s<0 by omega,Aut.run,zhj]
 obtain ⟨c,hcx⟩:∃ c,w[i]? =some c:=⟨_,tzb hlt⟩
 obtain ⟨d1,d2⟩:=hgd i c hcx
 have hrr:a.run s (w.drop i)=a.run (a.go s c.toNat) (w.drop (i+1)):=by
  rw [List.drop_eq_getElem_cons hlt]
  rw [tzb hlt,tza] at hcx
  rw [hcx]
  show (if c<0∨a.sy<=c then none else a.run (a.go s c.toNat) (w.drop (i+1)))=_
  rw [if_neg (by omega)]
 obtain ⟨n,rfl⟩:∃ n:Nat,c=n:=⟨c.toNat,by omega⟩
 obtain ⟨m,rfl⟩:∃ m:Nat,s=m:=⟨s.toNat,by omega⟩
 obtain ⟨r,h3,h4⟩:=a.go_some hv (s:=m) (c:=n) (by omega) hd1 (by omega)
 rw [tym] at h3 hrr
 by_cases hg:a.go m n<0
 .rw [hr,hrr,Aut.run_neg hg]
  simp (maxSteps:=2000000) [-getElem?_pos,hlt,hcx,h3,h4,hg,zhj]
 have ih':=ih (i+1,a.go m n) ⟨by omega,by simp only;omega,(Aut.go_dom (x:=m) (c:=n) hv).2,by rw [hr,hrr]⟩ (by simp only;omega)
 simp (maxSteps:=2000000) [-getElem?_pos] at ih'
 simp (maxSteps:=2000000) [-getElem?_pos,hlt,hcx,h3,h4,hg,zzg (show i+1<=9223372036854775807 by omega)]
 exact ih'
theorem c16 {sy st f:Int} {acc:List Bool} {nxt:List (List Int)} {w:List Int} {base:Nat} {D:DH} (ha:nxt.length<1152921504606846976) (hw:w.length<1152921504606846976):zzh Q 16 [.agg [.f (.raw (.int .i64 sy)),.f (.raw (.int .i64 st)),.f (.lst (acc.map zwp)),.f (.lst (nxt.map zug))],.f (.raw (.int .i64 f)),.f (.lst (w.map yxf))] base D=some (zhj (Aut.lead ⟨sy,st,acc,nxt⟩ f w),D):=w16 ⟨sy,st,acc,nxt⟩ f w ha hw base D
theorem w20 (a:Aut) (w:List Int) (ha:a.nxt.length<1152921504606846976) (hw:w.length<1152921504606846976) (base:Nat) (D:DH):zzh Q 20 [zzp a,zxd w] base D=some (zzu (a.accepts w),D):=by
 rw [zzb (fn:=Tryz.f20) (show Q.P.funcs[20]? =some Tryz.f20 from Tryz.func20) rfl xxe rfl (by simp only [tzd,tze];decide) (by kernel_rfl)]
 cases hl:a.lead a.st w with
 | none=>
  rw [show a.accepts w=false by simp [-getElem?_pos,Aut.accepts,hl]]
  simp (maxSteps:=2000000) [-getElem?_pos,c16 ha hw,hl,zhj]
 | some s=>
  have hs:a.valid/\0<=s/\s<(a.nxt.length:Nat):=by
   have:=hl
   simp only [Aut.lead] at this
   split at this
   .rename_i g
    have hv:=Aut.check_valid.1 g.1
    exact ⟨hv,Aut.run_dom hv ⟨by omega,g.2.2⟩ this⟩
   .cases this
  obtain ⟨hv,h0,h1⟩:=hs
  obtain ⟨m,rfl⟩:∃ m:Nat,s=m:=⟨s.toNat,by omega⟩
  obtain ⟨b,hb⟩:∃ b,a.acc[m]? =some b:=⟨_,tzb (by have:=hv.len;omega)⟩
  rw [show a.accepts w=b by simp [-getElem?_pos,Aut.accepts,hl,hb]]
  simp (maxSteps:=2000000) [-getElem?_pos,c16 ha hw,hl,zhj,hb]
end Go.Dv
set_option maxHeartbeats 2000000
namespace Go.Dv
attribute [local simp] zza zyl zys
open Go Go.Sim Go.Proofs Go.Fsa
attribute [local simp] zwp zzp zz6 zz7
def zz4 (b:Bool):DV:=.f (.raw (.bool b))
theorem zyd {l:List Bool}:List.map (elD ∘ zwp) l=l.map zz4:=rfl
theorem zzy {l:List Bool} {i:Nat} {b:Bool}:(l.map zz4).set i (.f (.raw (.bool b)))=(l.set i b).map zz4:=zap (f:=zz4)
theorem zye {b:Nat} {D:DH} {l:List Bool}:zml (frz b D 3) (l.map zz4)=some (l.map zwp,[]):=zfb λ_=>rfl
attribute [local simp] zyd zzy zye zz4
end Go.Dv
namespace Go.Dv
attribute [local simp] zza zyl zys
open Go Go.Sim Go.Proofs Go.Fsa
attribute [local simp] zwp zzp zz6 zz7
theorem w89 (a:Aut) (base:Nat) (D:DH):zzh Q 89 [zzp a] base D=some (zze a.begin,D):=by
 rw [zzb (fn:=Tryz.f89) (show Q.P.funcs[89]? =some Tryz.f89 from Tryz.func89) rfl ysv rfl (by simp only [tzd,tze];decide) (by kernel_rfl)]
 by_cases h:a.acc.length=0
 .simp (maxSteps:=2000000) [-getElem?_pos,h,Aut.begin]
 .obtain ⟨n,hn⟩:∃ n,a.acc.length=n+1:=⟨a.acc.length-1,by omega⟩
  simp (maxSteps:=2000000) [-getElem?_pos,hn,Aut.begin,show ¬((n:Int)+1=0) by omega]
theorem w91 (a:Aut) (hv:a.valid) (s:Int) (hs:s<(a.nxt.length:Nat)) (c:Nat) (hc:(c:Int)<a.sy) (base:Nat) (D:DH):zzh Q 91 [zzp a,zze s,zze c] base D=some (zze (a.go s c),D):=by
 rw [zzb (fn:=Tryz.f91) (show Q.P.funcs[91]? =some Tryz.f91 from Tryz.func91) rfl ydt rfl (by simp only [tzd,tze];decide) (by kernel_rfl)]
 by_cases h:s<0
 .rw [Aut.go_neg h]
  simp (maxSteps:=2000000) [-getElem?_pos,h]
 .obtain ⟨n,rfl⟩:∃ n:Nat,s=n:=⟨s.toNat,by omega⟩
  obtain ⟨r,h1,h2⟩:=a.go_some hv (by omega) hs hc
  rw [tym] at h1
  simp (maxSteps:=2000000) [-getElem?_pos,h,h1,h2]
theorem c91 {sy st:Int} {acc:List Bool} {nxt:List (List Int)} {s:Int} {c:Nat} {base:Nat} {D:DH} (hv:Aut.valid ⟨sy,st,acc,nxt⟩) (hs:s<(nxt.length:Nat)) (hc:(c:Int)<sy):zzh Q 91 [.agg [.f (.raw (.int .i64 sy)),.f (.raw (.int .i64 st)),.f (.lst (acc.map zwp)),.f (.lst (nxt.map zug))],.f (.raw (.int .i64 s)),.f (.raw (.int .i64 c))] base D=some (.f (.raw (.int .i64 (Aut.go ⟨sy,st,acc,nxt⟩ s c))),D):=w91 ⟨sy,st,acc,nxt⟩ hv s hs c hc base D
theorem xnz (a:Aut) (hv:a.valid) (s:Int) (hs:s<(a.nxt.length:Nat)) (c:Nat) (hc:(c:Int)<a.sy) (base o:Nat) (D:DH) (ho:D[o]? =some (.arr 4 [zzp a])):zzh Q 111 [zze s,zze c,.ref o 0 0] base D=some (.tup [zze (a.go s c),zzu true],D):=by
 rw [zzb (fn:=Tryz.f111) (show Q.P.funcs[111]? =some Tryz.f111 from Tryz.func111) rfl xxg rfl (by simp only [tzd,tze];decide) (by kernel_rfl)]
 simp (maxSteps:=2000000) [-getElem?_pos,ho,c91,hv,hs,hc]
theorem xn0 (a:Aut) (s:Int) (hs:s<(a.acc.length:Nat)) (base o:Nat) (D:DH) (ho:D[o]? =some (.arr 4 [zzp a])):zzh Q 112 [zze s,.ref o 0 0] base D=some (zzu (a.accB s),D):=by
 rw [zzb (fn:=Tryz.f112) (show Q.P.funcs[112]? =some Tryz.f112 from Tryz.func112) rfl yeb rfl (by simp only [tzd,tze];decide) (by kernel_rfl)]
 by_cases h:0<=s
 .obtain ⟨n,rfl⟩:∃ n:Nat,s=n:=⟨s.toNat,by omega⟩
  obtain ⟨b,hb⟩:∃ b,a.acc[n]? =some b:=⟨_,tzb (by omega)⟩
  simp (maxSteps:=2000000) [-getElem?_pos,ho,hb,h,Aut.accB,show (0:Int)<=n by omega]
 .simp (maxSteps:=2000000) [-getElem?_pos,ho,h,Aut.accB]
end Go.Dv
namespace Go.Dv
attribute [local simp] zza zyl zys
open Go Go.Sim Go.Proofs Go.Fsa
attribute [local simp] zwp zzp zz6 zz7
def zzf (n:Int):DV:=.f (.raw (.int .i64 n))
theorem zyg {l:List Int}:List.map (elD ∘ yxf) l=l.map zzf:=rfl
theorem zzz {l:List Int} {i:Nat} {n:Int}:(l.map zzf).set i (.f (.raw (.int .i64 n)))=(l.set i n).map zzf:=zap (f:=zzf)
theorem zyb {b:Nat} {D:DH} {l:List Int} {k:Nat}:zml (frz b D (k+1)) (l.map zzf)=some (l.map yxf,[]):=zfb λ_=>rfl
theorem zr3 {n:Nat}:List.replicate n (DV.f (.raw (.int .i64 0)))=(List.replicate n (0:Int)).map zzf:=by rw [List.map_replicate];rfl
attribute [local simp] zyg zzz zyb zzf
end Go.Dv
namespace Go.Dv
attribute [local simp] zza zyl zys
open Go Go.Sim Go.Proofs Go.Fsa
attribute [local simp] zwp zzp zz6 zz7 zyg zzz zyb zzf zz4 zyd zzy zye
def zp3 (a:Aut) (e:Int):DV:=.tup [zzp a,zze e]
end Go.Dv
namespace Go.Dv
attribute [local simp] zza zyl zys
open Go Go.Sim Go.Proofs Go.Fsa
attribute [local simp] zwp zzp zz6 zz7
end Go.Dv
namespace Go.Dv
attribute [local simp] zza zyl zys
open Go Go.Sim Go.Proofs Go.Fsa
attribute [local simp] zwq zwp zzp zz6 zz7 zyg zzz zyb zzf zz4 zyd zzy zye
theorem zit {R:Option (BX×SD)} {G:List Int->List Int->List Int->Trie DV->Option (BX×SD)} {T:Trie DV->Prop} {p:List Int->List Int->Prop} {vs fi bs:List Int} (hp:p fi bs) (h:∃ tm,R=G vs fi bs tm/\T tm) :
  ∃ (tm:Trie DV) (vs fi bs:List Int),R=G vs fi bs tm/\T tm/\p fi bs:=by
 obtain ⟨tm,h1,h2⟩:=h
 exact ⟨tm,vs,fi,bs,h1,h2,hp⟩
theorem zqr {L e sz:Nat} {els:List DV} (h:els.all (below L)=true):zza L (qO e sz els)=true:=by
 unfold qO
 split
 .rw [zxk];exact h
 .rw [zvy];exact h
theorem zy8 {L:Nat} {l:List Int}:(l.map zzf).all (below L)=true:=by
 rw [tzx]
 intro y hy
 obtain ⟨z,_,rfl⟩:=tyg.1 hy
 rfl
theorem xy8:KeyD Tryz.prog 3 zwq:=xnk (by kernel_rfl)
theorem xok (sy most:Nat) (s0:Int) (succ:Int->List (Option Int)) (ac:Int->Bool) (dom:Int->Prop) (F:Nat) (qs:List Int) (rows:List (List Int))
  (g1 g2:FuncId) (a1 b1 a2 b2:List DV) (base:Nat) (D:DH)
  (hex:exR id succ most F 0 [s0]=some (qs,rows)) (h0:dom s0) (hdom:∀ s,dom s->∀ t,some t∈succ s->dom t) (hlen:∀ s,(succ s).length=sy)
  (hsy:sy<=400) (hmost:most<=200000) (h1m:1<=most) (hb:base<=D.length) (hob:(D.drop base).all (zza D.length)=true)
  (ha1:zzm D.length a1=true) (hb1:zzm D.length b1=true) (ha2:zzm D.length a2=true) (hb2:zzm D.length b2=true) (hraw:(Q.ann g2).raw=false)
  (hstep:∀ (x:Int) (c:Nat) (o:Option Int),dom x->(succ x)[c]? =some o->∃ y,(∀ X:DH,zzh Q g1 (a1++[zze x,zze c]++b1) base (D++X)=some (.tup [zze y,zzu o.isSome],D++X))/\(o=some y∨o=none))
  (hacc:∀ (X:DH) (x:Int),dom x->zzh Q g2 (a2++[zze x]++b2) base (D++X)=some (zzu (ac x),D++X)) :
  ∃ (O1 O2:DObj) (fi bs:List Int),zzh Q 110 [zze sy,zze most,zze s0,.fn g1 a1 b1,.fn g2 a2 b2] base D=some (.tup [.ref D.length 0 0,zzu true],D++[.arr 5 [.agg [zze sy,.apl (D.length+5) qs.length,.apl (D.length+6) qs.length,qV (D.length+3) qs.length,qV (D.length+4) qs.length]],O1,O2,qO 3 1 (fi.map zzf),qO 3 1 (bs.map zzf),.app 4 1 ((qs.map ac).map zz4),.app 26 1 (rows.map zxd)])/\∀ L,zza L O1=true/\zza L O2=true:=by
 rw [zz2 (fn:=Tryz.f110) (show Q.P.funcs[110]? =some Tryz.f110 from Tryz.func110) rfl yyt rfl (by simp only [tzd,tze];decide) (by kernel_rfl)]
 have gp:=xs8
 simp [yyt,Tryz.f110,zyr] at gp
 have hbk:∀ k,base<=D.length+k:=λk=>by omega
 have hOK:∀ k X,zyp base (D.length+k) (D++X)=(X.take k).all (zza (D.length+k)):=λk X=>zxx hb hob
 have hbl:∀ (l:List DV) k,zzm D.length l=true->zzm (D.length+k) l=true:=λl k h=>(zy9 (tyt _ _)).2 l h
 have f0:zy1 Tryz.prog 3 (.int .i64 s0) (zxb [])=some none:=xy8.find [] s0
 have hbl:∀ k,zzm (D.length+k) a1=true/\zzm (D.length+k) b1=true/\zzm (D.length+k) a2=true/\zzm (D.length+k) b2=true:=λk=>⟨hbl a1 k ha1,hbl b1 k hb1,hbl a2 k ha2,hbl b2 k hb2⟩
 simp (maxSteps:=2000000) [-getElem?_pos,-List.map_set,-zza,-zyl,gp,hb,hbk,hOK,f0,(hbl _).1,(hbl _).2.1,(hbl _).2.2.1,(hbl _).2.2.2]
 generalize hX:zxi _ _ _=X
 obtain ⟨tm,vs,fi,bs,rfl,t12,_⟩:∃ (tm:Trie DV) (vs fi bs:List Int),X=some (.exit 0,⟨tm,D++[.arr 5 [.agg [zze sy,.apl (D.length+5) qs.length,.apl (D.length+6) qs.length,qV (D.length+3) qs.length,qV (D.length+4) qs.length]],.map (qs.map zwq) (vs.map zzf),qO 3 1 (qs.map zzf),qO 3 1 (fi.map zzf),qO 3 1 (bs.map zzf),.app 4 1 ((qs.map ac).map zz4),.app 26 1 (rows.map zxd)]⟩)/\tm.get 12=some (.ref D.length 0 0)/\True:=by
  rw [<-hX]
  clear hX
  generalize hs24:SD.mk _ _=sd24
  revert sd24
  refine wl (λp:Nat×Nat×List Int×List Int×List Int×List Int×List (List Int)×List Bool=>⟨(((((((Trie.leaf.put 15 (zze p.2.1)).put 14 (qV (D.length+2) p.2.2.1.length)).put 13 (.mp (D.length+1))).put 12 (.ref D.length 0 0)).put 4 (.fn g2 a2 b2)).put 3 (.fn g1 a1 b1)).put 1 (zze most)).put 0 (zze sy),D++[.arr 5 [.agg [zze sy,.apl (D.length+5) p.2.1,.apl (D.length+6) p.2.1,qV (D.length+3) p.2.2.1.length,qV (D.length+4) p.2.2.1.length]],.map (p.2.2.1.map zwq) (p.2.2.2.1.map zzf),qO 3 1 (p.2.2.1.map zzf),qO 3 1 (p.2.2.2.2.1.map zzf),qO 3 1 (p.2.2.2.2.2.1.map zzf),.app 4 1 (p.2.2.2.2.2.2.2.map zz4),.app 26 1 (p.2.2.2.2.2.2.1.map zxd)]⟩)
   (λp=>p.2.1<=p.2.2.1.length/\1<=p.2.2.1.length/\p.2.2.1.length<=most/\p.2.2.2.2.1.length=p.2.2.1.length/\p.2.2.2.2.2.1.length=p.2.2.1.length/\(p.2.2.2.1.length=p.2.2.1.length/\∀ j,j<p.2.2.1.length->p.2.2.2.1[j]? =some (j:Int))/\p.2.2.2.2.2.2.1.length=p.2.1/\p.2.2.2.2.2.2.2=(p.2.2.1.take p.2.1).map ac/\(∀ t∈p.2.2.1,dom t)/\∃ R,exR id succ most p.1 p.2.1 p.2.2.1=some (qs,R)/\p.2.2.2.2.2.2.1++R=rows)
   (λp=>p.1) ?_ (F,0,[s0],[0],[-1],[-1],[],[]) ⟨tz6 _,tzp _,h1m,rfl,rfl,⟨rfl,λj h=>by cases j with | zero=>rfl | succ j=>simp [-getElem?_pos,-List.map_set,-zza,-zyl] at h⟩,rfl,rfl,λt ht=>by rw [tzw] at ht;rw [ht];exact h0,rows,hex,rfl⟩
  clear hex
  rintro ⟨F,i,q,vs,fi,bs,R0,A⟩ ⟨hi,hq1,hqm,hfi,hbs,⟨hvl,hvs⟩,hR0,hA,hdq,R,hex,hR⟩ ih
  simp only at hi hq1 hqm hfi hbs hvl hvs hR0 hA hdq hex hR ih
  rw [zzi]
  obtain ⟨F,rfl⟩:∃ F',F=F'+1:=by
   cases F with
   | zero=>simp [-getElem?_pos,-List.map_set,-zza,-zyl,exR] at hex
   | succ F=>exact ⟨F,rfl⟩
  simp only [exR] at hex
  by_cases hlt:i<q.length
  .obtain ⟨t,ht⟩:∃ t,q[i]? =some t:=⟨_,tzb hlt⟩
   have htd:=hdq t (tzg ht)
   rw [ht] at hex
   simp only at hex
   split at hex
   .cases hex
   rename_i hqm'
   obtain ⟨⟨qf,R2⟩,hex2,heq⟩:=tzf.1 hex
   simp only [tzl] at heq
   obtain ⟨rfl,rfl⟩:=heq
   have hAl:A.length=i:=by rw [hA];simp [-getElem?_pos,-List.map_set,-zza,-zyl];omega
   have hac:∀ X,zzh Q g2 (a2++(DV.f (.raw (.int .i64 t))::b2)) base (D++X)=some (DV.f (.raw (.bool (ac t))),D++X):=λX=>by
    have:=hacc X t htd
    rw [tyd] at this;exact this
   obtain ⟨q',hq'⟩:∃ q',q'=addS id q (succ t):=⟨_,rfl⟩
   simp (maxSteps:=2000000) [-getElem?_pos,-List.map_set,-zza,-zyl,gp,hb,hbk,hOK,hbl,hlt,ht,hraw,hac,hAl,hR0,hfi,hbs,hvl,show i+1<=1099511627776 by omega,show i<=1099511627775 by omega,show sy*8<=140737488355328 by omega,show sy<9223372036854775808 by omega]
   have hre:succ t=(succ t).take sy:=(tzk (by rw [hlen];exact tzp _)).symm
   rw [<-hq'] at hex2 hqm'
   have hpre:∀ k,addS id q ((succ t).take k) <+: q':=λk=>by
    rw [hq']
    conv=>rhs;rw [<-List.take_append_drop k (succ t),zv4]
    exact zz3
   generalize hX:zxi _ _ _=X
   obtain ⟨tm,vs',fi',bs',rfl,⟨hfi',hbs',hvl',hvs'⟩,t0,t1,t3,t4,t12,t13,t14,t15,t16⟩:∃ (tm:Trie DV) (vs' fi' bs':List Int),X=some (.exit 2,⟨tm,D++[.arr 5 [.agg [zze sy,.apl (D.length+5) (i+1),.apl (D.length+6) i,qV (D.length+3) q'.length,qV (D.length+4) q'.length]],.map (q'.map zwq) (vs'.map zzf),qO 3 1 (q'.map zzf),qO 3 1 (fi'.map zzf),qO 3 1 (bs'.map zzf),.app 4 1 (A.map zz4++[zz4 (ac t)]),.app 26 1 (R0.map zxd),.arr 1 [zz4 (ac t)],.arr 1 ((znu id q (succ t)).map zzf)]⟩)/\(fi'.length=q'.length/\bs'.length=q'.length/\vs'.length=q'.length/\∀ j,j<q'.length->vs'[j]? =some (j:Int))/\tm.get 0=some (zze sy)/\tm.get 1=some (zze most)/\tm.get 3=some (.fn g1 a1 b1)/\tm.get 4=some (.fn g2 a2 b2)/\tm.get 12=some (.ref D.length 0 0)/\tm.get 13=some (.mp (D.length+1))/\tm.get 14=some (qV (D.length+2) q'.length)/\tm.get 15=some (zze i)/\tm.get 16=some (.row (D.length+8) 0 sy sy):=by
    rw [<-hX]
    clear hX ih hex2
    obtain ⟨W0,hW0⟩:∃ L:List Int,L=List.replicate sy 0:=⟨_,rfl⟩
    rw [zr3,<-hW0]
    generalize hs25:SD.mk _ _=sd25
    revert sd25
    refine wl (λp:Nat×List Int×List Int×List Int×List Int×List Int=>⟨((((((((((Trie.leaf.put 62 (zze p.1)).put 61 (zze sy)).put 16 (.row (D.length+8) 0 sy sy)).put 15 (zze i)).put 14 (qV (D.length+2) p.2.1.length)).put 13 (.mp (D.length+1))).put 12 (.ref D.length 0 0)).put 4 (.fn g2 a2 b2)).put 3 (.fn g1 a1 b1)).put 1 (zze most)).put 0 (zze sy),D++[.arr 5 [.agg [zze sy,.apl (D.length+5) (i+1),.apl (D.length+6) i,qV (D.length+3) p.2.1.length,qV (D.length+4) p.2.1.length]],.map (p.2.1.map zwq) (p.2.2.1.map zzf),qO 3 1 (p.2.1.map zzf),qO 3 1 (p.2.2.2.1.map zzf),qO 3 1 (p.2.2.2.2.1.map zzf),.app 4 1 (A.map zz4++[zz4 (ac t)]),.app 26 1 (R0.map zxd),.arr 1 [zz4 (ac t)],.arr 1 (p.2.2.2.2.2.map zzf)]⟩)
     (λp=>p.1<=sy/\p.2.1=addS id q ((succ t).take p.1)/\(p.2.2.2.1.length=p.2.1.length/\p.2.2.2.2.1.length=p.2.1.length/\p.2.2.1.length=p.2.1.length/\∀ j,j<p.2.1.length->p.2.2.1[j]? =some (j:Int))/\p.2.2.2.2.2.length=sy/\p.2.2.2.2.2.take p.1=znu id q ((succ t).take p.1)) (λp=>sy-p.1) ?_ (0,q,vs,fi,bs,W0) ⟨tz6 _,rfl,⟨hfi,hbs,hvl,hvs⟩,by simp [-getElem?_pos,-List.map_set,-zza,-zyl,hW0],rfl⟩
    clear hvs hvl hfi hbs
    rintro ⟨k,q1,vs,fi,bs,W⟩ ⟨hk,hq1',⟨hfi,hbs,hvl,hvs⟩,hWl,hW⟩ ihK
    simp only at hk hq1' hfi hbs hvl hvs hWl hW ihK
    rw [zzi]
    by_cases hks:k<sy
    case neg=>
     have hk':k=sy:=by omega
     subst hk'
     rw [<-hre] at hq1' hW
     rw [tzk (by omega)] at hW
     subst hW
     rw [<-hq'] at hq1'
     subst hq1'
     simp (maxSteps:=2000000) [-getElem?_pos,-List.map_set,-zza,-zyl,gp,hks]
     refine ⟨_,vs,fi,bs,⟨rfl,rfl,rfl,rfl⟩,⟨hfi,hbs,hvl,hvs⟩,?_⟩
     simp [-getElem?_pos,-List.map_set,-zza,-zyl]
    obtain ⟨o,ho⟩:∃ o,(succ t)[k]? =some o:=⟨_,tzb (by rw [hlen];exact hks)⟩
    have hL:(succ t).take (k+1)=(succ t).take k++[o]:=by rw [tz8,ho];rfl
    have hset:∀ v,(W.set k v).take (k+1)=W.take k++[v]:=λv=>by
     rw [tz8,txx (tzp _),tz1 (by omega)];rfl
    obtain ⟨w0,hw0⟩:∃ x,W[k]? =some x:=⟨_,tzb (by omega)⟩
    have hws:∀ v,(W.set k v)[k]? =some v:=λv=>tz1 (by omega)
    have hww:=zzg (show k+1<=9223372036854775807 by omega)
    have hqt:q1[i]? =some t:=by rw [hq1'];exact zyc zz3 ht
    have hqi:i<q1.length:=zzw hqt
    obtain ⟨y,hst,hoy⟩:∃ y,(∀ X,zzh Q g1 (a1++(DV.f (.raw (.int .i64 t))::DV.f (.raw (.int .i64 k))::b1)) base (D++X)=some (.tup [DV.f (.raw (.int .i64 y)),DV.f (.raw (.bool o.isSome))],D++X))/\(o=some y∨o=none):=by
     obtain ⟨y,h1,h2⟩:=hstep t k o htd ho
     refine ⟨y,λX=>?_,h2⟩
     have:=h1 X
     rw [tyd] at this;exact this
    rcases hoy with rfl | rfl
    case inr=>
     have ih':=ihK (k+1,q1,vs,fi,bs,W.set k (-1)) ⟨by simp only;omega,by simp only;rw [hL,zrc,hq1'],⟨hfi,hbs,hvl,hvs⟩,by simp only [tz3];exact hWl,by simp only;rw [hset,hL,zrb,hW]⟩ (by simp only;omega)
     simp (maxSteps:=2000000) [-getElem?_pos,-List.map_set,-zza,-zyl] at ih'
     simp only [Option.isSome_none] at hst
     simp (maxSteps:=2000000) [-getElem?_pos,-List.map_set,-zza,-zyl,gp,hb,hbk,hOK,hbl,hks,hst,hqt,hqi,hw0,hws,hWl,hww,hAl,hR0,hfi,hbs,hvl]
     exact ih'
    simp only [Option.isSome_some] at hst
    have hnew:=(hpre (k+1)).length_le
    rw [hL,zy6,<-hq1',txa,id] at hnew
    by_cases hm:y∈q1
    .obtain ⟨m,hm2⟩:∃ m,m=zxp q1 y:=⟨_,rfl⟩
     have hmn:m<q1.length:=by rw [hm2];exact ztd hm
     have hvm:=hvs m hmn
     have hf:zy1 Tryz.prog 3 (.int .i64 y) (zxb (q1.map zwq))=some (some m):=by rw [hm2];exact (xy8.find q1 y).trans (by rw [zte hm])
     have ih':=ihK (k+1,q1,vs,fi,bs,W.set k (m:Int)) ⟨by simp only;omega,by simp only;rw [hL,zy6,<-hq1',txa,id,if_pos hm],⟨hfi,hbs,hvl,hvs⟩,by simp only [tz3];exact hWl,by simp only;rw [hset,hL,zwl,hW,<-hq1',txa,id,hm2]⟩ (by simp only;omega)
     simp (maxSteps:=2000000) [-getElem?_pos,-List.map_set,-zza,-zyl] at ih'
     simp (maxSteps:=2000000) [-getElem?_pos,-List.map_set,-zza,-zyl,gp,hb,hbk,hOK,hbl,hks,hst,hqt,hqi,hw0,hws,hWl,hww,hAl,hR0,hfi,hbs,hvl,hf,hvm]
     exact ih'
    .rw [if_neg hm,tz5] at hnew
     simp only [tzd,tze] at hnew
     have hf:zy1 Tryz.prog 3 (.int .i64 y) (zxb (q1.map zwq))=some none:=(xy8.find q1 y).trans (by rw [zu1 hm])
     have ih':=ihK (k+1,q1++[y],vs++[(q1.length:Int)],fi++[(i:Int)],bs++[(k:Int)],W.set k (q1.length:Int)) ⟨by simp only;omega,by simp only;rw [hL,zy6,<-hq1',txa,id,if_neg hm],⟨by simp [-getElem?_pos,-List.map_set,-zza,-zyl,hfi],by simp [-getElem?_pos,-List.map_set,-zza,-zyl,hbs],by simp [-getElem?_pos,-List.map_set,-zza,-zyl,hvl],λj hj=>by
      rcases tz9 j q1.length with g | g
      .rw [tzs (by omega)];exact hvs j g
      .simp only [tz5,tzd,tze] at hj
       have:j=vs.length:=by omega
       rw [this,tzv (tzp _),Nat.sub_self,hvl];rfl⟩,by simp only [tz3];exact hWl,by simp only;rw [hset,hL,zwl,hW,<-hq1',txa,id,zvk hm]⟩ (by simp only;omega)
     simp (maxSteps:=2000000) [-getElem?_pos,-List.map_set,-zza,-zyl] at ih'
     simp (maxSteps:=2000000) [-getElem?_pos,-List.map_set,-zza,-zyl,gp,hb,hbk,hOK,hbl,hks,hst,hqt,hqi,hw0,hws,hWl,hww,hAl,hR0,hfi,hbs,hvl,hf,show ¬most<=q1.length by omega,show q1.length<most by omega,show 1<=q1.length by omega,show (q1.length+1)*8<=1099511627776 by omega,show q1.length<=1099511627775 by omega]
     exact ih'
   clear hX
   obtain ⟨S,hS⟩:∃ S,S=znu id q (succ t):=⟨_,rfl⟩
   have hSl:S.length=sy:=by rw [hS,zqf,hlen]
   rw [<-hS] at hR
   have hpre':q <+: q':=by rw [hq'];exact zz3
   have hpl:=hpre'.length_le
   have hqt:q'.take (i+1)=q.take i++[t]:=by
    rw [tz8,zyc hpre' ht]
    obtain ⟨z,rfl⟩:=hpre'
    rw [txi (by omega)];rfl
   have htk:List.take sy (S.map zzf)=S.map zzf:=tzk (by simp [-getElem?_pos,-List.map_set,-zza,-zyl,hSl])
   have ih':=ih (F,i+1,q',vs',fi',bs',R0++[S],A++[ac t]) ⟨by simp only;omega,by simp only;omega,by simp only;omega,hfi',hbs',⟨hvl',hvs'⟩,by simp [-getElem?_pos,-List.map_set,-zza,-zyl,hR0],by simp only;rw [hqt,txk,txe,List.map_nil,hA],by
    simp only
    rw [hq']
    exact zv3 hdq (hdom t htd),R2,hex2,by simp only;rw [tyd];exact hR⟩ (by simp only;omega)
   simp (maxSteps:=2000000) [-getElem?_pos,-List.map_set,-zza,-zyl] at ih'
   rw [<-hS]
   simp (maxSteps:=2000000) [-getElem?_pos,-List.map_set,-zza,-zyl,gp,hb,hbk,hOK,hbl,t0,t1,t3,t4,t12,t13,t14,t15,t16,hSl,htk,hR0,hAl,hfi',hbs',hvl',show i+1<=1099511627776 by omega,show i<=1099511627775 by omega,show (i+1)*24<=1099511627776 by omega,zzg (show i+1<=9223372036854775807 by omega)]
   exact ih'
  .rw [tzt (by omega)] at hex
   simp only [tza,tzl] at hex
   obtain ⟨rfl,rfl⟩:=hex
   rw [tyv] at hR
   subst hR
   have hie:i=q.length:=by omega
   subst hie
   rw [ty0] at hA
   subst hA
   refine zit (vs:=vs) (fi:=fi) (bs:=bs) (p:=λ_ _=>True) trivial ?_
   simp (maxSteps:=2000000) [-getElem?_pos,-List.map_set,-zza,-zyl,gp,hlt,hR0]
 clear hX
 refine ⟨.map (qs.map zwq) (vs.map zzf),qO 3 1 (qs.map zzf),⟨fi,bs,?_⟩,λL=>⟨by rw [zh2];exact zy8,zqr zy8⟩⟩
 simp (maxSteps:=2000000) [-getElem?_pos,-List.map_set,-zza,-zyl,gp,t12]
end Go.Dv
namespace Go.Dv
attribute [local simp] zza zyl zys
open Go Go.Sim Go.Proofs Go.Fsa
attribute [local simp] zwq zwp zzp zz6 zz7 zyg zzz zyb zzf zz4 zyd zzy zye
def zxu (o:Nat) (m:Aut) (O1 O2:DObj) (fi bs:List Int):DH:=[.arr 5 [.agg [zze m.sy,.apl (o+5) m.acc.length,.apl (o+6) m.acc.length,qV (o+3) m.acc.length,qV (o+4) m.acc.length]],O1,O2,qO 3 1 (fi.map zzf),qO 3 1 (bs.map zzf),.app 4 1 (m.acc.map zz4),.app 26 1 (m.nxt.map zxd)]
theorem w62 (a:Aut) (hv:a.valid) (base:Nat) (D:DH) (hb:base<=D.length) (hob:(D.drop base).all (zza D.length)=true) :
  ∃ O1 O2 fi bs,zzh Q 62 [zzp a] base D=some (.ref (D.length+1) 0 0,D++.arr 4 [zzp a]::zxu (D.length+1) a.wh O1 O2 fi bs)/\∀ L,zza L O1=true/\zza L O2=true:=by
 rw [zz2 (fn:=Tryz.f62) (show Q.P.funcs[62]? =some Tryz.f62 from Tryz.func62) rfl ydu rfl (by simp only [tzd,tze];decide) (by kernel_rfl)]
 have gp:=xou
 simp [ydu,Tryz.f62,zyr] at gp
 have hlen:=hv.len
 have hmost:=hv.most
 have hbk:∀ k,base<=D.length+k:=λk=>by omega
 have hhi:=hv.hi
 have hlo:=hv.lo
 have hacc:∀ (X:DH) (x:Int),a.dom x->zzh Q 112 ([]++[zze x]++[.ref D.length 0 0]) base ((D++[.arr 4 [zzp a]])++X)=some (zzu (a.accB x),(D++[.arr 4 [zzp a]])++X):=λX x hx=>
  xn0 a x (by have:=hx.2;omega) base D.length (D++[DObj.arr 4 [zzp a]]++X) (by simp [-getElem?_pos,-List.map_set,-zza,-zyl])
 have r110:(Q.ann 110).raw=true:=by rw [yyt]
 have r89:(Q.ann 89).raw=false:=by rw [ysv]
 have hw2:zvm .i64 ((a.acc.length:Int)+2)=((a.acc.length+2:Nat):Int):=by rw [zwf (by omega) (by omega)];rfl
 obtain ⟨O1,O2,fi,bs,hex,hO⟩:=xok a.sy.toNat (a.acc.length+2) a.begin a.succW a.accB a.dom (a.acc.length+2) a.exW.1 a.exW.2 111 112 [] [.ref D.length 0 0] [] [.ref D.length 0 0] base (D++[.arr 4 [zzp a]])
  (yxv hv) (zwm hv) (λs hs t ht=>by
   unfold Aut.succW at ht
   obtain ⟨k,_,e⟩:=tyg.1 ht
   simp only [tza] at e
   rw [<-e];exact Aut.go_dom hv) (λs=>zjc) (by omega) (by omega) (by omega) (by simp [-getElem?_pos,-List.map_set,-zza,-zyl];omega)
  (by
   rw [List.drop_append_of_le_length hb,List.all_append,tzc]
   refine ⟨?_,by simp [-getElem?_pos,-List.map_set,-zza,-zyl,zxk]⟩
   rw [tzx] at hob ⊢
   intro x hx
   exact zx4 (by simp [-getElem?_pos,-List.map_set,-zza,-zyl]) x (hob x hx)) (by simp [-getElem?_pos,-List.map_set,-zza,-zyl]) (by simp [-getElem?_pos,-List.map_set,-zza,-zyl]) (by simp [-getElem?_pos,-List.map_set,-zza,-zyl]) (by simp [-getElem?_pos,-List.map_set,-zza,-zyl]) (by rw [yeb])
  (λx c o hx ho=>by
   obtain ⟨rfl,hc⟩:=ynz ho
   refine ⟨a.go x c,λX=>?_,.inl rfl⟩
   exact xnz a hv x hx.2 c hc base D.length (D++[DObj.arr 4 [zzp a]]++X) (by simp [-getElem?_pos,-List.map_set,-zza,-zyl]))
  hacc
 refine ⟨O1,O2,fi,bs,?_,hO⟩
 have hal:a.wh.acc.length=a.exW.1.length:=by simp [-getElem?_pos,-List.map_set,-zza,-zyl,Aut.wh]
 have h89:=λD'=>w89 a base D'
 simp only [zzp,zze] at h89
 simp only [zzp,zze,tyd,txo,ty2,tz5,tzd,tze,Int.toNat_of_nonneg (show 0<=a.sy by omega),zzu] at hex
 rw [show ((a.acc.length+2:Nat):Int)=(a.acc.length:Int)+2 from rfl] at hex
 simp (maxSteps:=2000000) [-getElem?_pos,-List.map_set,-zza,-zyl,gp,hb,hbk,h89,r89,r110,hw2,hex]
 simp [-getElem?_pos,-List.map_set,-zza,-zyl,zxu,Aut.wh]
 trace_state
end Go.Dv
