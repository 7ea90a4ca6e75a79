/- Texts of this proof, part WA. -/
import Derived.Test.YtfjbdkmmoinngaaGreatDoorFacts
import Derived.Test.YtfjbdkmmoinngaaGreatDoorPure
import Derived.Test.YtfjbdkmmoinngaaGreatDoorDvB
set_option linter.unusedVariables false
set_option linter.unusedSimpArgs false
set_option linter.unusedSectionVars false
set_option maxRecDepth 100000
namespace Go.Dv
attribute [local simp] zza zyw zzh
open Go Go.Sim Go.Proofs
theorem zz0 {x y:Operand} {a b:Bool}:zty Tryz.prog .neq 4 x y (.bool a) (.bool b)=some (.bool (a != b)):=by cases a<;>cases b<;>kernel_rfl
theorem zz1 {x y:Operand} {a b:Bool}:zty Tryz.prog .eql 4 x y (.bool a) (.bool b)=some (.bool (a==b)):=by cases a<;>cases b<;>kernel_rfl
theorem w63 (a b:List Int) (ha:a.length<1152921504606846976) (hb:b.length<1152921504606846976) (base:Nat) (D:DH):zzg Q 63 [zyq a,zyq b] base D=some (zzr (decide (a=b)),D):=by
 rw [zzb (fn:=Tryz.f63) (show Q.P.funcs[63]? =some Tryz.f63 from Tryz.func63) rfl ykh rfl (by simp only [tzd,tze];decide) (by kernel_rfl)];have gp:=xmt;simp [ykh,Tryz.f63,zym] at gp;by_cases hl:a.length=b.length
 .simp [-getElem?_pos,hl,gp];generalize hs:SD.mk _ _=s0;revert s0;refine wl (λi:Nat=>⟨((Trie.leaf.put 5 (zze i)).put 1 (zyq b)).put 0 (zyq a),D⟩) (λi=>i<=b.length/\a.take i=b.take i) (λi=>b.length-i) ?_ 0 ⟨by omega,by simp [-getElem?_pos]⟩;intro i ⟨hi,ht⟩ ih;rw [zzj];by_cases hlt:i<b.length
  .obtain ⟨x,hx⟩:∃ x,a[i]? =some x:=⟨_,tzb (by omega)⟩;obtain ⟨y,hy⟩:∃ x,b[i]? =some x:=⟨_,tzb hlt⟩;by_cases hxy:x=y
   .have hn:List.take (i+1) a=List.take (i+1) b:=by rw [tz8,tz8,ht,hx,hy,hxy]
    have ih':=ih (i+1) ⟨by omega,hn⟩ (by omega);simp [-getElem?_pos] at ih';simp [-getElem?_pos,hl,hlt,hx,hy,gp,hxy,zzi (show i+1<=9223372036854775807 by omega)];exact ih'
   .simp [-getElem?_pos,hl,hlt,hx,hy,gp,hxy];rintro rfl;rw [hx] at hy;exact hxy (Option.some.inj hy)
  .simp [-getElem?_pos,hl,hlt,gp];have h:i=b.length:=by omega
   rw [tzk (by omega),tzk (by omega)] at ht;exact ht
 .simp [-getElem?_pos,hl,gp];exact λh=>hl (by rw [h])
end Go.Dv
namespace Go.Dv
attribute [local simp] zza zyw zzh
open Go Go.Sim Go.Proofs Go.Fsa
def zxi (b:Bool):FV:=.raw (.bool b)
def zzn (a:Aut):DV:=.agg [.f (.raw (.int .i64 a.sy)),.f (.raw (.int .i64 a.st)),.f (.lst (a.acc.map zxi)),.f (.lst (a.nxt.map zx2))]
attribute [local simp] zxi zzn
end Go.Dv
namespace Go.Dv
attribute [local simp] zza zyw zzh
open Go Go.Sim Go.Proofs Go.Fsa
attribute [local simp] zxi zzn
def ykc (o:Option Int):DV:=.tup [.f (.raw (.int .i64 (o.getD 0))),.f (.raw (.bool o.isSome))]
end Go.Dv
namespace Go.Dv
attribute [local simp] zza zyw zzh
open Go Go.Sim Go.Proofs Go.Fsa
attribute [local simp] zxi zzn zz0 zz1
def zrk (a b:Aut):Bool:=decide (a.sy=b.sy/\a.st=b.st/\a.acc=b.acc/\a.nxt=b.nxt)
theorem c63 {a b:List Int} (ha:a.length<1152921504606846976) (hb:b.length<1152921504606846976) {base:Nat} {D:DH}:zzg Q 63 [.f (.lst (a.map zf4)),.f (.lst (b.map zf4))] base D=some (.f (.raw (.bool (decide (a=b)))),D):=w63 a b ha hb base D
theorem w22 (a b:Aut) (ha:a.acc.length<1152921504606846976) (hn:a.nxt.length<1152921504606846976) (hra:∀ r∈a.nxt,r.length<1152921504606846976) (hrb:∀ r∈b.nxt,r.length<1152921504606846976) (base:Nat) (D:DH):zzg Q 22 [zzn a,zzn b] base D=some (zzr (zrk a b),D):=by
 obtain ⟨sy,st,acc,nxt⟩:=a;obtain ⟨sy',st',acc',nxt'⟩:=b;simp only at ha hn hra hrb;rw [zzb (fn:=Tryz.f22) (show Q.P.funcs[22]? =some Tryz.f22 from Tryz.func22) rfl xx6 rfl (by simp only [tzd,tze];decide) (by kernel_rfl)];have gp:=xmu;simp [xx6,Tryz.f22,zym] at gp;by_cases c1:sy=sy'
 case neg=>rw [show zrk ⟨sy,st,acc,nxt⟩ ⟨sy',st',acc',nxt'⟩=false by simp [-getElem?_pos,zrk,c1]];simp [-getElem?_pos,gp,c1]
 subst c1;by_cases c2:st=st'
 case neg=>rw [show zrk ⟨sy,st,acc,nxt⟩ ⟨sy,st',acc',nxt'⟩=false by simp [-getElem?_pos,zrk,c2]];simp [-getElem?_pos,gp,c2]
 subst c2;by_cases c3:acc.length=acc'.length
 case neg=>rw [show zrk ⟨sy,st,acc,nxt⟩ ⟨sy,st,acc',nxt'⟩=false by simp [-getElem?_pos,zrk,show ¬acc=acc' from λh=>c3 (by rw [h])]];simp [-getElem?_pos,gp,c3]
 by_cases c4:nxt.length=nxt'.length
 case neg=>rw [show zrk ⟨sy,st,acc,nxt⟩ ⟨sy,st,acc',nxt'⟩=false by simp [-getElem?_pos,zrk,show ¬nxt=nxt' from λh=>c4 (by rw [h])]];simp [-getElem?_pos,gp,c3,c4]
 have hsm:zrk ⟨sy,st,acc,nxt⟩ ⟨sy,st,acc',nxt'⟩=(decide (acc=acc')&&decide (nxt=nxt')):=by simp [-getElem?_pos,zrk]
 rw [hsm];simp [-getElem?_pos,gp,c3,c4];generalize hs3:SD.mk _ _=sd3;revert sd3;refine wl (λi:Nat=>⟨((Trie.leaf.put 5 (zze i)).put 3 (.ref (D.length+1) 0 0)).put 2 (.ref D.length 0 0),D++[.arr 4 [zzn ⟨sy,st,acc,nxt⟩],.arr 4 [zzn ⟨sy,st,acc',nxt'⟩]]⟩) (λi=>i<=acc'.length/\acc.take i=acc'.take i) (λi=>acc'.length-i) ?_ 0 ⟨by omega,by simp [-getElem?_pos]⟩;intro i ⟨hi,ht⟩ ih;rw [zzj];by_cases hlt:i<acc'.length
 .obtain ⟨x,hx⟩:∃ x,acc[i]? =some x:=⟨_,tzb (by omega)⟩;obtain ⟨y,hy⟩:∃ x,acc'[i]? =some x:=⟨_,tzb hlt⟩;by_cases hxy:x=y
  .subst hxy;have hn:List.take (i+1) acc=List.take (i+1) acc':=by rw [tz8,tz8,ht,hx,hy]
   have ih':=ih (i+1) ⟨by omega,hn⟩ (by omega);simp [-getElem?_pos] at ih';cases x<;>simp [-getElem?_pos,gp,c3,hlt,hx,hy,zzi (show i+1<=9223372036854775807 by omega)]<;>exact ih'
  .have:acc≠acc':=λh=>hxy (by rw [h,hy] at hx;exact (Option.some.inj hx).symm)
   cases x<;>cases y<;>first
    | exact absurd rfl hxy
    | simp [-getElem?_pos,gp,c3,hlt,hx,hy,this]
 have he:acc=acc':=(by rw [tzk (by omega),tzk (by omega)] at ht;exact ht);subst he;simp [-getElem?_pos,gp,hlt];generalize hs4:SD.mk _ _=sd4;revert sd4;refine wl (λi:Nat=>⟨((Trie.leaf.put 6 (zze i)).put 3 (.ref (D.length+1) 0 0)).put 2 (.ref D.length 0 0),D++[.arr 4 [zzn ⟨sy,st,acc,nxt⟩],.arr 4 [zzn ⟨sy,st,acc,nxt'⟩]]⟩) (λi=>i<=nxt'.length/\nxt.take i=nxt'.take i) (λi=>nxt'.length-i) ?_ 0 ⟨by omega,by simp [-getElem?_pos]⟩;intro k ⟨hk,hkt⟩ ih2;rw [zzj];by_cases hklt:k<nxt'.length
 .obtain ⟨x,hx⟩:∃ x,nxt[k]? =some x:=⟨_,tzb (by omega)⟩;obtain ⟨y,hy⟩:∃ x,nxt'[k]? =some x:=⟨_,tzb hklt⟩;have hxa:=hra x (tzg hx);have hxb:=hrb y (tzg hy);by_cases hxy:x=y
  .have hn:List.take (k+1) nxt=List.take (k+1) nxt':=by rw [tz8,tz8,hkt,hx,hy,hxy]
   have ih':=ih2 (k+1) ⟨by omega,hn⟩ (by omega);simp [-getElem?_pos] at ih';simp [-getElem?_pos,gp,c4,hklt,hx,hy,hxy,c63,hxa,hxb,zzi (show k+1<=9223372036854775807 by omega)];exact ih'
  .have:nxt≠nxt':=λh=>hxy (by rw [h,hy] at hx;exact (Option.some.inj hx).symm);simp [-getElem?_pos,gp,c4,hklt,hx,hy,hxy,c63,hxa,hxb,this]
 .have he:nxt=nxt':=(by rw [tzk (by omega),tzk (by omega)] at hkt;exact hkt);subst he;simp [-getElem?_pos,gp,hklt]
end Go.Dv
namespace Go.Dv
attribute [local simp] zza zyw zzh
open Go Go.Sim Go.Proofs Go.Fsa
attribute [local simp] zxi zzn zz0 zz1
theorem yeb {x y:Int}:zqv Tryz.prog Builtin.max2 [.f (.raw (.int .i64 x)),.f (.raw (.int .i64 y))]=some (.f (.raw (.int .i64 (max x y)))):=by
 simp only [zqv,ykm,zs8,tz2];have:Builtin.max2 (.int .i64 x) (.int .i64 y)=.pure (.int .i64 (max x y)):=(by simp only [Builtin.max2];split<;>(congr 2;omega));rw [this];rfl
theorem xri {P:Program} {D:DH} {base:Nat} {ts:List TypeId} {l:List DV}:zx1 P D base ts l .max=zv3 D (zqv P Builtin.max2 l):=rfl
attribute [local simp] xri yeb
theorem w18 (a:Aut) (ha:a.nxt.length<1152921504606846976) (base:Nat) (D:DH):zzg Q 18 [zzn a] base D=some (zze a.check,D):=by
 rw [zzb (fn:=Tryz.f18) (show Q.P.funcs[18]? =some Tryz.f18 from Tryz.func18) rfl yki rfl (by simp only [tzd,tze];decide) (by kernel_rfl)];have bad:¬a.valid->a.check=60:=λh=>by simp [Aut.check,h]
 by_cases c1:a.sy<1
 .rw [bad λh=>h.lo c1];simp [c1]
 by_cases c2:400<a.sy
 .rw [bad λh=>h.hi c2];simp [c1,c2]
 by_cases c4:(20000:Int)<(a.acc.length:Int)
 .rw [bad λh=>h.most (by omega)];simp [c1,c2,c4]
 by_cases c3:a.nxt.length=a.acc.length
 case neg=>rw [bad λh=>c3 h.len];simp [c1,c2,c3,c4]
 by_cases c5:a.st<0
 .rw [bad λh=>h.st0 c5];simp [c1,c2,c3,c4,c5]
 generalize hnn:a.acc.length=n at *;by_cases c7:max (n:Int) 1<=a.st
 .rw [bad λh=>h.st1 (by rw [hnn];exact c7)];simp [c1,c2,c3,c4,c5,hnn,c7]
 have good:(∀ i,i<n->∃ r,a.nxt[i]? =some r/\zdl a.sy n r)->a.valid:=λh=>⟨c1,c2,by omega,by omega,c5,by rw [hnn];exact c7,λr hr=>by
  obtain ⟨i,hi,rfl⟩:=tyn hr
  obtain ⟨r',h1,h2⟩:=h i (by omega)
  rw [tzb hi,tza] at h1
  rw [h1,hnn];exact h2⟩
 have badRow:∀ i r,a.nxt[i]? =some r->¬zdl a.sy n r->a.check=60:=λi r hr h=>bad λhv=>h (by rw [<-hnn];exact hv.rows r (tzg hr));simp [c1,c2,c3,c4,c5,c7,hnn];generalize hs5:SD.mk _ _=sd5;revert sd5;refine wl (λi:Nat=>⟨((((Trie.leaf.put 45 (zze i)).put 44 (zze n)).put 43 (.f (.lst (a.nxt.map zx2)))).put 3 (zze n)).put 1 (.ref D.length 0 0),D++[.arr 4 [zzn a]]⟩) (λi=>i<=n/\∀ j,j<i->∃ r,a.nxt[j]? =some r/\zdl a.sy n r) (λi=>n-i) ?_ 0 ⟨by omega,λj h=>by omega⟩;intro i ⟨hi,ht⟩ ih;rw [zzj];by_cases hlt:i<n
 case neg=>
  rw [show a.check=0 by simp [Aut.check,good (λj hj=>ht j (by omega))]];simp [hlt]
 obtain ⟨r,hr⟩:∃ r,a.nxt[i]? =some r:=⟨_,tzb (by omega)⟩;by_cases hl:(r.length:Int)=a.sy
 case neg=>
  rw [badRow i r hr λh=>hl h.1];simp [hlt,hr,hl]
 simp [hlt,hr,hl];generalize hs6:SD.mk _ _=sd6;revert sd6;refine wl (λk:Nat=>⟨(((((((Trie.leaf.put 56 (zze k)).put 55 (zze a.sy)).put 54 (zyq r)).put 45 (zze i)).put 44 (zze n)).put 43 (.f (.lst (a.nxt.map zx2)))).put 3 (zze n)).put 1 (.ref D.length 0 0),D++[.arr 4 [zzn a]]⟩) (λk=>k<=r.length/\∀ j x,j<k->r[j]? =some x->¬x < -1/\¬(n:Int)<=x) (λk=>r.length-k) ?_ 0 ⟨by omega,λj x h=>by omega⟩;intro k ⟨hk,hkt⟩ ih2;rw [zzj];by_cases hklt:k<r.length
 case neg=>
  have hrow:zdl a.sy n r:=⟨hl,λt ht=>by
   obtain ⟨j,hj,rfl⟩:=tyn ht
   exact hkt j _ (by omega) (tzb hj)⟩
  have ih':=ih (i+1) ⟨by omega,λj hj=>by
   by_cases h:j=i
   .subst h;exact ⟨r,hr,hrow⟩
   .exact ht j (by omega)⟩ (by omega)
  simp at ih';simp [show ¬(k:Int)<a.sy by omega,zzi (show i+1<=9223372036854775807 by omega)];exact ih'
 obtain ⟨x,hxk⟩:∃ x,r[k]? =some x:=⟨_,tzb hklt⟩;have hin:x∈r:=tzg hxk;by_cases d1:x < -1
 .rw [badRow i r hr λh=>(h.2 x hin).1 d1];simp [show (k:Int)<a.sy by omega,hr,hxk,d1]
 by_cases d2:(n:Int)<=x
 .rw [badRow i r hr λh=>(h.2 x hin).2 d2];simp [show (k:Int)<a.sy by omega,hr,hxk,d1,d2]
 have ih':=ih2 (k+1) ⟨by omega,λj y hj hy=>by
  by_cases h:j=k
  .subst h;rw [hxk] at hy;cases hy;exact ⟨d1,d2⟩
  .exact hkt j y (by omega) hy⟩ (by omega)
 simp at ih';simp [show (k:Int)<a.sy by omega,hr,hxk,d1,d2,zzi (show k+1<=9223372036854775807 by omega)];exact ih'
theorem w66 (a b:List Int) (ha:a.length<1152921504606846976) (hb:b.length<1152921504606846976) (base:Nat) (D:DH):zzg Q 66 [zyq a,zyq b] base D=some (zzr (decide (a=b)),D):=by
 rw [zzb (fn:=Tryz.f66) (show Q.P.funcs[66]? =some Tryz.f66 from Tryz.func66) rfl xx9 rfl (by simp only [tzd,tze];decide) (by kernel_rfl)];have gp:=xmw;simp [xx9,Tryz.f66,zym] at gp;by_cases hl:a.length=b.length
 case neg=>
  simp [-getElem?_pos,gp,hl];exact λh=>hl (by rw [h])
 simp [-getElem?_pos,gp,hl];generalize hs7:SD.mk _ _=sd7;revert sd7;refine wl (λi:Nat=>⟨(((Trie.leaf.put 13 (zze i)).put 12 (zze b.length)).put 1 (zyq b)).put 0 (zyq a),D⟩) (λi=>i<=b.length/\a.take i=b.take i) (λi=>b.length-i) ?_ 0 ⟨by omega,by simp [-getElem?_pos]⟩;intro i ⟨hi,ht⟩ ih;rw [zzj];by_cases hlt:i<b.length
 .obtain ⟨x,hx⟩:∃ x,a[i]? =some x:=⟨_,tzb (by omega)⟩;obtain ⟨y,hy⟩:∃ x,b[i]? =some x:=⟨_,tzb hlt⟩;by_cases hxy:x=y
  .have hn:List.take (i+1) a=List.take (i+1) b:=by rw [tz8,tz8,ht,hx,hy,hxy]
   have ih':=ih (i+1) ⟨by omega,hn⟩ (by omega);simp [-getElem?_pos] at ih';simp [-getElem?_pos,gp,hl,hlt,hx,hy,hxy,zzi (show i+1<=9223372036854775807 by omega)];exact ih'
  .simp [-getElem?_pos,gp,hl,hlt,hx,hy,hxy];rintro rfl;rw [hx] at hy;exact hxy (Option.some.inj hy)
 .simp [-getElem?_pos,gp,hl,hlt];rw [tzk (by omega),tzk (by omega)] at ht;exact ht
theorem w64 (a b:List Bool) (ha:a.length<1152921504606846976) (hb:b.length<1152921504606846976) (base:Nat) (D:DH):zzg Q 64 [.f (.lst (a.map zxi)),.f (.lst (b.map zxi))] base D=some (zzr (decide (a=b)),D):=by
 rw [zzb (fn:=Tryz.f64) (show Q.P.funcs[64]? =some Tryz.f64 from Tryz.func64) rfl xx8 rfl (by simp only [tzd,tze];decide) (by kernel_rfl)];have gp:=xmv;simp [xx8,Tryz.f64,zym] at gp;by_cases hl:a.length=b.length
 case neg=>
  simp [-getElem?_pos,gp,hl];exact λh=>hl (by rw [h])
 simp [-getElem?_pos,gp,hl];generalize hs8:SD.mk _ _=sd8;revert sd8;refine wl (λi:Nat=>⟨(((Trie.leaf.put 13 (zze i)).put 12 (zze b.length)).put 1 (.f (.lst (b.map zxi)))).put 0 (.f (.lst (a.map zxi))),D⟩) (λi=>i<=b.length/\a.take i=b.take i) (λi=>b.length-i) ?_ 0 ⟨by omega,by simp [-getElem?_pos]⟩;intro i ⟨hi,ht⟩ ih;rw [zzj];by_cases hlt:i<b.length
 .obtain ⟨x,hx⟩:∃ x,a[i]? =some x:=⟨_,tzb (by omega)⟩;obtain ⟨y,hy⟩:∃ x,b[i]? =some x:=⟨_,tzb hlt⟩;by_cases hxy:x=y
  .have hn:List.take (i+1) a=List.take (i+1) b:=by rw [tz8,tz8,ht,hx,hy,hxy]
   have ih':=ih (i+1) ⟨by omega,hn⟩ (by omega);simp [-getElem?_pos] at ih';simp [-getElem?_pos,gp,hl,hlt,hx,hy,hxy,zzi (show i+1<=9223372036854775807 by omega)];exact ih'
  .have:a≠b:=λh=>hxy (by rw [h,hy] at hx;exact (Option.some.inj hx).symm)
   cases x<;>cases y<;>first
    | exact absurd rfl hxy
    | simp [-getElem?_pos,gp,hl,hlt,hx,hy,this]
 .simp [-getElem?_pos,gp,hl,hlt];rw [tzk (by omega),tzk (by omega)] at ht;exact ht
theorem c66 {a b:List Int} (ha:a.length<1152921504606846976) (hb:b.length<1152921504606846976) {base:Nat} {D:DH}:zzg Q 66 [.f (.lst (a.map zf4)),.f (.lst (b.map zf4))] base D=some (.f (.raw (.bool (decide (a=b)))),D):=w66 a b ha hb base D
theorem c64 {a b:List Bool} (ha:a.length<1152921504606846976) (hb:b.length<1152921504606846976) {base:Nat} {D:DH}:zzg Q 64 [.f (.lst (a.map zxi)),.f (.lst (b.map zxi))] base D=some (.f (.raw (.bool (decide (a=b)))),D):=w64 a b ha hb base D
theorem w65 (a b:List (List Int)) (ha:a.length<1152921504606846976) (hb:b.length<1152921504606846976) (hra:∀ r∈a,r.length<1152921504606846976) (hrb:∀ r∈b,r.length<1152921504606846976) (base:Nat) (D:DH):zzg Q 65 [.f (.lst (a.map zx2)),.f (.lst (b.map zx2)),.fn 66 [] []] base D=some (zzr (decide (a=b)),D):=by
 rw [zzb (fn:=Tryz.f65) (show Q.P.funcs[65]? =some Tryz.f65 from Tryz.func65) rfl xqg rfl (by simp only [tzd,tze];decide) (by kernel_rfl)];by_cases hl:a.length=b.length
 case neg=>
  simp [-getElem?_pos,hl];exact λh=>hl (by rw [h])
 simp [-getElem?_pos,hl];generalize hs9:SD.mk _ _=sd9;revert sd9;refine wl (λi:Nat=>⟨((((Trie.leaf.put 17 (zze i)).put 16 (zze b.length)).put 15 (.f (.lst (a.map zx2)))).put 2 (.fn 66 [] [])).put 1 (.f (.lst (b.map zx2))),D⟩) (λi=>i<=b.length/\a.take i=b.take i) (λi=>b.length-i) ?_ 0 ⟨by omega,by simp [-getElem?_pos]⟩;intro i ⟨hi,ht⟩ ih;rw [zzj];by_cases hlt:i<b.length
 .obtain ⟨x,hx⟩:∃ x,a[i]? =some x:=⟨_,tzb (by omega)⟩;obtain ⟨y,hy⟩:∃ x,b[i]? =some x:=⟨_,tzb hlt⟩;have hxa:=hra x (tzg hx);have hxb:=hrb y (tzg hy);by_cases hxy:x=y
  .have hn:List.take (i+1) a=List.take (i+1) b:=by rw [tz8,tz8,ht,hx,hy,hxy]
   have ih':=ih (i+1) ⟨by omega,hn⟩ (by omega);simp [-getElem?_pos] at ih';simp [-getElem?_pos,hl,hlt,hx,hy,hxy,c66,hxa,hxb,zzi (show i+1<=9223372036854775807 by omega)];exact ih'
  .have:a≠b:=λh=>hxy (by rw [h,hy] at hx;exact (Option.some.inj hx).symm);simp [-getElem?_pos,hl,hlt,hx,hy,hxy,c66,hxa,hxb,this]
 .simp [-getElem?_pos,hl,hlt];rw [tzk (by omega),tzk (by omega)] at ht;exact ht
theorem c65 {a b:List (List Int)} (ha:a.length<1152921504606846976) (hb:b.length<1152921504606846976) (hra:∀ r∈a,r.length<1152921504606846976) (hrb:∀ r∈b,r.length<1152921504606846976) {base:Nat} {D:DH}:zzg Q 65 [.f (.lst (a.map zx2)),.f (.lst (b.map zx2)),.fn 66 [] []] base D=some (.f (.raw (.bool (decide (a=b)))),D):=w65 a b ha hb hra hrb base D
theorem w25 (a b:Aut) (ha:a.acc.length<1152921504606846976) (hb:b.acc.length<1152921504606846976) (hn:a.nxt.length<1152921504606846976) (hm:b.nxt.length<1152921504606846976) (hra:∀ r∈a.nxt,r.length<1152921504606846976) (hrb:∀ r∈b.nxt,r.length<1152921504606846976) (base:Nat) (D:DH):zzg Q 25 [zzn a,zzn b] base D=some (zzr (zrk a b),D):=by
 rw [zzb (fn:=Tryz.f25) (show Q.P.funcs[25]? =some Tryz.f25 from Tryz.func25) rfl xqe rfl (by simp only [tzd,tze];decide) (by kernel_rfl)];have hsm:zrk a b=(decide (a.sy=b.sy)&&(decide (a.st=b.st)&&(decide (a.acc=b.acc)&&decide (a.nxt=b.nxt)))):=by simp [zrk]
 rw [hsm];by_cases c1:a.sy=b.sy
 case neg=>simp [c1]
 by_cases c2:a.st=b.st
 case neg=>simp [c1,c2]
 by_cases c3:a.acc=b.acc
 case neg=>simp [c1,c2,c3,c64,ha,hb]
 simp [c1,c2,c3,c64,ha,hb,c65 hn hm hra hrb]
end Go.Dv
namespace Go.Dv
attribute [local simp] zza zyw zzh
open Go Go.Sim Go.Proofs Go.Fsa
attribute [local simp] zxi zzn zz0 zz1
def FnB (g:FuncId) (a b:List DV) (D:DH) (l:List Int) (p:Int->Bool):Prop:=zzo D.length a=true/\zzo D.length b=true/\∀ (x:Int) (base:Nat),x∈l->zzg Q g (a++.f (.raw (.int .i64 x))::b) base D=some (.f (.raw (.bool (p x))),D)
theorem xl2 (l:List Int) (hl:l.length<1152921504606846976) (g:FuncId) (a b:List DV) (p:Int->Bool) (base:Nat) (D:DH) (hp:FnB g a b D l p):zzg Q 120 [zyq l,.fn g a b] base D=some (zze (((l.findIdx? p).map λn=>(n:Int)).getD (-1)),D):=by
 obtain ⟨ka,kb,hp⟩:=hp;rw [zzb (fn:=Tryz.f120) (show Q.P.funcs[120]? =some Tryz.f120 from Tryz.func120) rfl yeu rfl (by simp only [tzd,tze];decide) (by kernel_rfl)];simp [-getElem?_pos,ka,kb];generalize hs10:SD.mk _ _=sd10;revert sd10;refine wl (λi:Nat=>⟨(((Trie.leaf.put 8 (zze i)).put 7 (zze l.length)).put 1 (.fn g a b)).put 0 (zyq l),D⟩) (λi=>i<=l.length/\∀ j x,j<i->l[j]? =some x->p x=false) (λi=>l.length-i) ?_ 0 ⟨by omega,λj x h=>by omega⟩;intro i ⟨hi,ht⟩ ih;rw [zzj];by_cases hlt:i<l.length
 .obtain ⟨x,hx⟩:∃ x,l[i]? =some x:=⟨_,tzb hlt⟩;have hp':=λbb=>hp x bb (tzg hx);cases hpx:p x with
  | false=>
   have ih':=ih (i+1) ⟨by omega,λj y hj hy=>by
    by_cases h:j=i
    .subst h;rw [hx] at hy;cases hy;exact hpx
    .exact ht j y (by omega) hy⟩ (by omega)
   simp [-getElem?_pos] at ih';simp [-getElem?_pos,ka,kb,hlt,hx,hp',hpx,zzi (show i+1<=9223372036854775807 by omega)];exact ih'
  | true=>
   have hf:l.findIdx? p=some i:=(by rw [List.findIdx?_eq_some_iff_getElem];rw [tzb hlt,tza] at hx;exact ⟨hlt,by rw [hx];exact hpx,λj hj=>by rw [ht j _ hj (tzb (by omega))];simp [-getElem?_pos]⟩);simp [-getElem?_pos,ka,kb,hlt,hx,hp',hpx,hf]
 .have hf:l.findIdx? p=none:=(by rw [ty6];intro x hx;obtain ⟨j,hj,rfl⟩:=tyn hx;exact ht j _ (by omega) (tzb hj));simp [-getElem?_pos,hlt,hf]
theorem xmg {l:List Int} (hl:l.length<1152921504606846976) {g:FuncId} {a b:List DV} {p:Int->Bool} {base:Nat} {D:DH} (hp:FnB g a b D l p):zzg Q 120 [.f (.lst (l.map zf4)),.fn g a b] base D=some (.f (.raw (.int .i64 (((l.findIdx? p).map λn=>(n:Int)).getD (-1)))),D):=xl2 l hl g a b p base D hp
theorem w73 (l:List Int) (hl:l.length<1152921504606846976) (g:FuncId) (a b:List DV) (p:Int->Bool) (base:Nat) (D:DH) (hp:FnB g a b D l p):zzg Q 73 [zyq l,.fn g a b] base D=some (zzr (l.any p),D):=by
 rw [zzb (fn:=Tryz.f73) (show Q.P.funcs[73]? =some Tryz.f73 from Tryz.func73) rfl ykj rfl (by simp only [tzd,tze];decide) (by kernel_rfl)];cases h:l.findIdx? p with
 | none=>
  have:l.any p=false:=(by rw [ty6] at h;simpa using h);simp [xmg hl hp,h,this]
 | some i=>
  have:l.any p=true:=(by rw [List.findIdx?_eq_some_iff_getElem] at h;obtain ⟨h1,h2,_⟩:=h;exact List.any_eq_true.2 ⟨_,List.getElem_mem h1,h2⟩);simp [xmg hl hp,h,this]
theorem c73 {l:List Int} (hl:l.length<1152921504606846976) {g:FuncId} {a b:List DV} {p:Int->Bool} {base:Nat} {D:DH} (hp:FnB g a b D l p):zzg Q 73 [.f (.lst (l.map zf4)),.fn g a b] base D=some (.f (.raw (.bool (l.any p))),D):=w73 l hl g a b p base D hp
theorem xl3 (D:DH) (sy:Int) (l:List Int):FnB 108 [] [.ref D.length 0 0] (D++[.arr 1 [.f (.raw (.int .i64 sy))]]) l (λx=>decide (x<0∨sy<=x)):=by
 refine ⟨by simp,by simp,λx base _=>?_⟩;rw [ty2];rw [zzb (fn:=Tryz.f108) (show Q.P.funcs[108]? =some Tryz.f108 from Tryz.func108) rfl xwa rfl (by simp only [tzd,tze];decide) (by kernel_rfl)];by_cases h:x<0
 .simp [h]
 by_cases h2:sy<=x
 .simp [h,h2]
 simp [h,h2]
theorem w60 (sy:Int) (l:List Int) (hl:l.length<1152921504606846976) (base:Nat) (D:DH):zzg Q 60 [zze sy,zyq l] base D=some (zzr !(l.any λx=>decide (x<0∨sy<=x)),D):=by
 rw [zzb (fn:=Tryz.f60) (show Q.P.funcs[60]? =some Tryz.f60 from Tryz.func60) rfl xqf rfl (by simp only [tzd,tze];decide) (by kernel_rfl)];simp [c73 hl (xl3 D sy l)]
theorem c18 {sy st:Int} {acc:List Bool} {nxt:List (List Int)} {base:Nat} {D:DH} (h:nxt.length<1152921504606846976):zzg Q 18 [.agg [.f (.raw (.int .i64 sy)),.f (.raw (.int .i64 st)),.f (.lst (acc.map zxi)),.f (.lst (nxt.map zx2))]] base D=some (.f (.raw (.int .i64 (Aut.check ⟨sy,st,acc,nxt⟩))),D):=w18 ⟨sy,st,acc,nxt⟩ h base D
theorem c60 {sy:Int} {l:List Int} (hl:l.length<1152921504606846976) {base:Nat} {D:DH}:zzg Q 60 [.f (.raw (.int .i64 sy)),.f (.lst (l.map zf4))] base D=some (.f (.raw (.bool !(l.any λx=>decide (x<0∨sy<=x)))),D):=w60 sy l hl base D
theorem w16 (a:Aut) (f:Int) (w:List Int) (ha:a.nxt.length<1152921504606846976) (hw:w.length<1152921504606846976) (base:Nat) (D:DH):zzg Q 16 [zzn a,zze f,zyq w] base D=some (ykc (a.lead f w),D):=by
 rw [zzb (fn:=Tryz.f16) (show Q.P.funcs[16]? =some Tryz.f16 from Tryz.func16) rfl xqc rfl (by simp only [tzd,tze];decide) (by kernel_rfl)];by_cases hv:a.valid
 case neg=>
  have hc:a.check=60:=by simp [-getElem?_pos,Aut.check,hv]
  rw [show a.lead f w=none by simp [-getElem?_pos,Aut.lead,hc]];simp [-getElem?_pos,c18,ha,hc,ykc]
 have hc:a.check=0:=Aut.check_valid.2 hv;have hlen:=hv.len;by_cases h0:f<0
 .rw [show a.lead f w=none by simp [-getElem?_pos,Aut.lead,show ¬0<=f by omega]];simp [-getElem?_pos,c18,ha,hc,h0,ykc]
 by_cases h1:(a.acc.length:Int)<=f
 .rw [show a.lead f w=none by simp [-getElem?_pos,Aut.lead,show ¬f<(a.nxt.length:Nat) by omega]];simp [-getElem?_pos,c18,ha,hc,h0,h1,ykc]
 rw [show a.lead f w=a.run f w by simp [-getElem?_pos,Aut.lead,hc,show f<(a.nxt.length:Nat) by omega,show 0<=f by omega]];cases hb:w.any λx=>decide (x<0∨a.sy<=x) with
 | true=>
  rw [Aut.run_word hb];simp [-getElem?_pos,c18,ha,hc,h0,h1,c60 hw,hb,ykc,-Bool.decide_or]
 | false=>
 have hgd:∀ i x,w[i]? =some x->¬x<0/\¬a.sy<=x:=λi x hx=>by
  have:=List.any_eq_false.1 hb x (tzg hx);simp only [decide_eq_true_eq] at this;omega
 simp [-getElem?_pos,c18,ha,hc,h0,h1,c60 hw,hb,-Bool.decide_or];generalize hs11:SD.mk _ _=sd11;revert sd11;refine wl (λp:Nat×Int=>⟨((((Trie.leaf.put 33 (zze p.1)).put 32 (zze w.length)).put 31 (zyq w)).put 3 (.ref D.length 0 0)).put 1 (zze p.2),D++[.arr 4 [zzn a]]⟩) (λp=>p.1<=w.length/\0<=p.2/\p.2<(a.nxt.length:Nat)/\a.run f w=a.run p.2 (w.drop p.1)) (λp=>w.length-p.1) ?_ (0,f) ⟨by simp [-getElem?_pos],by omega,by omega,by simp [-getElem?_pos]⟩;rintro ⟨i,s⟩ ⟨hi,hd0,hd1,hr⟩ ih;simp only at hi hd0 hd1 hr ih;rw [zzj];by_cases hlt:i<w.length
 case neg=>
  rw [hr,tyy (by omega)];simp [-getElem?_pos,hlt,show ¬s<0 by omega,Aut.run,ykc]
 obtain ⟨c,hcx⟩:∃ c,w[i]? =some c:=⟨_,tzb hlt⟩;obtain ⟨d1,d2⟩:=hgd i c hcx;have hrr:a.run s (w.drop i)=a.run (a.go s c.toNat) (w.drop (i+1)):=(by rw [List.drop_eq_getElem_cons hlt];rw [tzb hlt,tza] at hcx;rw [hcx];show (if c<0∨a.sy<=c then none else a.run (a.go s c.toNat) (w.drop (i+1)))=_;rw [if_neg (by omega)]);obtain ⟨n,rfl⟩:∃ n:Nat,c=n:=⟨c.toNat,by omega⟩;obtain ⟨m,rfl⟩:∃ m:Nat,s=m:=⟨s.toNat,by omega⟩;obtain ⟨r,h3,h4⟩:=a.go_some hv (s:=m) (c:=n) (by omega) hd1 (by omega);rw [tym] at h3 hrr;by_cases hg:a.go m n<0
 .rw [hr,hrr,Aut.run_neg hg];simp [-getElem?_pos,hlt,hcx,h3,h4,hg,ykc]
 have ih':=ih (i+1,a.go m n) ⟨by omega,by simp only;omega,(Aut.go_dom (x:=m) (c:=n) hv).2,by rw [hr,hrr]⟩ (by simp only;omega);simp [-getElem?_pos] at ih';simp [-getElem?_pos,hlt,hcx,h3,h4,hg,zzi (show i+1<=9223372036854775807 by omega)];exact ih'
theorem c16 {sy st f:Int} {acc:List Bool} {nxt:List (List Int)} {w:List Int} {base:Nat} {D:DH} (ha:nxt.length<1152921504606846976) (hw:w.length<1152921504606846976):zzg Q 16 [.agg [.f (.raw (.int .i64 sy)),.f (.raw (.int .i64 st)),.f (.lst (acc.map zxi)),.f (.lst (nxt.map zx2))],.f (.raw (.int .i64 f)),.f (.lst (w.map zf4))] base D=some (ykc (Aut.lead ⟨sy,st,acc,nxt⟩ f w),D):=w16 ⟨sy,st,acc,nxt⟩ f w ha hw base D
theorem w20 (a:Aut) (w:List Int) (ha:a.nxt.length<1152921504606846976) (hw:w.length<1152921504606846976) (base:Nat) (D:DH):zzg Q 20 [zzn a,zyq w] base D=some (zzr (a.accepts w),D):=by
 rw [zzb (fn:=Tryz.f20) (show Q.P.funcs[20]? =some Tryz.f20 from Tryz.func20) rfl xqd rfl (by simp only [tzd,tze];decide) (by kernel_rfl)];cases hl:a.lead a.st w with
 | none=>
  rw [show a.accepts w=false by simp [Aut.accepts,hl]];simp [c16 ha hw,hl,ykc]
 | some s=>
  have hs:a.valid/\0<=s/\s<(a.nxt.length:Nat):=by
   have:=hl;simp only [Aut.lead] at this;split at this
   .rename_i g;have hv:=Aut.check_valid.1 g.1;exact ⟨hv,Aut.run_dom hv ⟨by omega,g.2.2⟩ this⟩
   .cases this
  obtain ⟨hv,h0,h1⟩:=hs;obtain ⟨m,rfl⟩:∃ m:Nat,s=m:=⟨s.toNat,by omega⟩;obtain ⟨b,hb⟩:∃ b,a.acc[m]? =some b:=⟨_,tzb (by have:=hv.len;omega)⟩;rw [show a.accepts w=b by simp [Aut.accepts,hl,hb]];simp [c16 ha hw,hl,ykc,hb]
end Go.Dv
set_option maxHeartbeats 2000000
namespace Go.Dv
attribute [local simp] zza zyw zzh
open Go Go.Sim Go.Proofs Go.Fsa
attribute [local simp] zxi zzn zz0 zz1
def zz8 (b:Bool):DV:=.f (.raw (.bool b))
theorem zz6 {l:List Bool}:List.map (elD ∘ zxi) l=l.map zz8:=rfl
theorem zzt {l:List Bool} {i:Nat} {b:Bool}:(l.map zz8).set i (.f (.raw (.bool b)))=(l.set i b).map zz8:=zb8 (f:=zz8)
theorem zz4 {b:Nat} {D:DH} {l:List Bool}:zsq (frz b D 3) (l.map zz8)=some (l.map zxi,[]):=zkn λ_=>rfl
attribute [local simp] zz6 zzt zz4 zz8
end Go.Dv
namespace Go.Dv
attribute [local simp] zza zyw zzh
open Go Go.Sim Go.Proofs Go.Fsa
attribute [local simp] zxi zzn zz0 zz1
theorem w89 (a:Aut) (base:Nat) (D:DH):zzg Q 89 [zzn a] base D=some (zze a.begin,D):=by
 rw [zzb (fn:=Tryz.f89) (show Q.P.funcs[89]? =some Tryz.f89 from Tryz.func89) rfl ysy rfl (by simp only [tzd,tze];decide) (by kernel_rfl)];by_cases h:a.acc.length=0
 .simp [h,Aut.begin]
 obtain ⟨n,hn⟩:∃ n,a.acc.length=n+1:=⟨a.acc.length-1,by omega⟩;simp [hn,Aut.begin,show ¬((n:Int)+1=0) by omega]
theorem w91 (a:Aut) (hv:a.valid) (s:Int) (hs:s<(a.nxt.length:Nat)) (c:Nat) (hc:(c:Int)<a.sy) (base:Nat) (D:DH):zzg Q 91 [zzn a,zze s,zze c] base D=some (zze (a.go s c),D):=by
 rw [zzb (fn:=Tryz.f91) (show Q.P.funcs[91]? =some Tryz.f91 from Tryz.func91) rfl ycb rfl (by simp only [tzd,tze];decide) (by kernel_rfl)];by_cases h:s<0
 .rw [Aut.go_neg h];simp [h]
 obtain ⟨n,rfl⟩:∃ n:Nat,s=n:=⟨s.toNat,by omega⟩;obtain ⟨r,h1,h2⟩:=a.go_some hv (by omega) hs hc;rw [tym] at h1;simp [h,h1,h2]
theorem c91 {sy st:Int} {acc:List Bool} {nxt:List (List Int)} {s:Int} {c:Nat} {base:Nat} {D:DH} (hv:Aut.valid ⟨sy,st,acc,nxt⟩) (hs:s<(nxt.length:Nat)) (hc:(c:Int)<sy):zzg Q 91 [.agg [.f (.raw (.int .i64 sy)),.f (.raw (.int .i64 st)),.f (.lst (acc.map zxi)),.f (.lst (nxt.map zx2))],.f (.raw (.int .i64 s)),.f (.raw (.int .i64 c))] base D=some (.f (.raw (.int .i64 (Aut.go ⟨sy,st,acc,nxt⟩ s c))),D):=w91 ⟨sy,st,acc,nxt⟩ hv s hs c hc base D
theorem xl4 (a:Aut) (hv:a.valid) (s:Int) (hs:s<(a.nxt.length:Nat)) (c:Nat) (hc:(c:Int)<a.sy) (base o:Nat) (D:DH) (ho:D[o]? =some (.arr 4 [zzn a])):zzg Q 111 [zze s,zze c,.ref o 0 0] base D=some (.tup [zze (a.go s c),zzr true],D):=by
 rw [zzb (fn:=Tryz.f111) (show Q.P.funcs[111]? =some Tryz.f111 from Tryz.func111) rfl xwb rfl (by simp only [tzd,tze];decide) (by kernel_rfl)];simp [ho,c91,hv,hs,hc]
theorem xl5 (a:Aut) (s:Int) (hs:s<(a.acc.length:Nat)) (base o:Nat) (D:DH) (ho:D[o]? =some (.arr 4 [zzn a])):zzg Q 112 [zze s,.ref o 0 0] base D=some (zzr (a.accB s),D):=by
 rw [zzb (fn:=Tryz.f112) (show Q.P.funcs[112]? =some Tryz.f112 from Tryz.func112) rfl yev rfl (by simp only [tzd,tze];decide) (by kernel_rfl)];by_cases h:0<=s
 .obtain ⟨n,rfl⟩:∃ n:Nat,s=n:=⟨s.toNat,by omega⟩;obtain ⟨b,hb⟩:∃ b,a.acc[n]? =some b:=⟨_,tzb (by omega)⟩;simp [ho,hb,h,Aut.accB,show (0:Int)<=n by omega]
 .simp [ho,h,Aut.accB]
end Go.Dv
namespace Go.Dv
attribute [local simp] zza zyw zzh
open Go Go.Sim Go.Proofs Go.Fsa
attribute [local simp] zxi zzn zz0 zz1
def zzf (n:Int):DV:=.f (.raw (.int .i64 n))
theorem zya {l:List Int}:List.map (elD ∘ zf4) l=l.map zzf:=rfl
theorem zzv {l:List Int} {i:Nat} {n:Int}:(l.map zzf).set i (.f (.raw (.int .i64 n)))=(l.set i n).map zzf:=zb8 (f:=zzf)
theorem zz5 {b:Nat} {D:DH} {l:List Int} {k:Nat}:zsq (frz b D (k+1)) (l.map zzf)=some (l.map zf4,[]):=zkn λ_=>rfl
theorem zn0 {n:Nat}:List.replicate n (DV.f (.raw (.int .i64 0)))=(List.replicate n (0:Int)).map zzf:=by rw [List.map_replicate];rfl
attribute [local simp] zya zzv zz5 zzf
end Go.Dv
namespace Go.Dv
attribute [local simp] zza zyw zzh
open Go Go.Sim Go.Proofs Go.Fsa
attribute [local simp] zxi zzn zz0 zz1 zya zzv zz5 zzf zz8 zz6 zzt zz4
def zu9 (a:Aut) (e:Int):DV:=.tup [zzn a,zze e]
end Go.Dv
namespace Go.Dv
attribute [local simp] zza zyw zzh
open Go Go.Sim Go.Proofs Go.Fsa
attribute [local simp] zxi zzn zz0 zz1
end Go.Dv
namespace Go.Dv
attribute [local simp] zza zyw zzh
open Go Go.Sim Go.Proofs Go.Fsa
attribute [local simp] zwo zxi zzn zz0 zz1 zya zzv zz5 zzf zz8 zz6 zzt zz4
theorem zqa {L e sz:Nat} {els:List DV} (h:els.all (below L)=true):zza L (qO e sz els)=true:=by
 unfold qO;split
 .rw [zys];exact h
 rw [zvc];exact h
theorem zy1 {L:Nat} {l:List Int}:(l.map zzf).all (below L)=true:=by
 rw [tzx];intro y hy;obtain ⟨z,_,rfl⟩:=tyg.1 hy;rfl
theorem xr9:KeyD Tryz.prog 3 zwo:=xlm (by kernel_rfl)
end Go.Dv
set_option maxHeartbeats 8000000
namespace Go.Dv
attribute [local simp] zza zyw zzh
open Go Go.Sim Go.Proofs Go.Fsa
structure FBL {S:Type} (succ:S->List (Option S)) (q:List S) (fi bs:List Int):Prop where
 lf:fi.length=q.length
 lb:bs.length=q.length
 get:∀ n,0<n->n<q.length->∃ (i c:Nat) (p y:S),fi[n]? =some (i:Int)/\bs[n]? =some (c:Int)/\i<n/\q[i]? =some p/\q[n]? =some y/\(succ p)[c]? =some (some y)
theorem FBL.one {S:Type} {succ:S->List (Option S)} {s:S}:FBL succ [s] [-1] [-1]:=⟨rfl,rfl,λn h1 h2=>by simp [-List.map_set,-zza,-zyw,-zzh] at h2;omega⟩
theorem FBL.add {S:Type} {succ:S->List (Option S)} {q:List S} {fi bs:List Int} (h:FBL succ q fi bs) {i k:Nat} {t y:S} (ht:q[i]? =some t) (hy:(succ t)[k]? =some (some y)):FBL succ (q++[y]) (fi++[(i:Int)]) (bs++[(k:Int)]):=by
 have lf:=h.lf;have lb:=h.lb;refine ⟨by simp [-List.map_set,-zza,-zyw,-zzh,lf],by simp [-List.map_set,-zza,-zyw,-zzh,lb],λn h1 h2=>?_⟩;simp only [tz5,tzd,tze] at h2;rcases tz9 n q.length with g | g
 .obtain ⟨i',c,p,z,e1,e2,e3,e4,e5,e6⟩:=h.get n h1 g;have hi':=zzy e4;exact ⟨i',c,p,z,by rw [tzs (by omega)];exact e1,by rw [tzs (by omega)];exact e2,e3,by rw [tzs (by omega)];exact e4,by rw [tzs (by omega)];exact e5,e6⟩
 have hn:n=q.length:=by omega
 have hi:=zzy ht;refine ⟨i,k,t,y,?_,?_,by omega,by rw [tzs (by omega)];exact ht,?_,hy⟩
 .rw [tzv (by omega),show n-fi.length=0 by omega];rfl
 .rw [tzv (by omega),show n-bs.length=0 by omega];rfl
 .rw [tzv (by omega),show n-q.length=0 by omega];rfl
structure FBC {S:Type} (succ:S->List (Option S)) (i k:Nat) (q:List S) (fi bs:List Int):Prop extends FBL succ q fi bs where
 clo:∀ (i' c':Nat) (s y:S),(i'<i∨i'=i/\c'<k)->q[i']? =some s->(succ s)[c']? =some (some y)->y∈q
 ord:∀ n,0<n->n<q.length->∃ (i c:Nat),fi[n]? =some (i:Int)/\bs[n]? =some (c:Int)/\∀ (i' c':Nat) (s y:S),(i'<i∨i'=i/\c'<c)->q[i']? =some s->(succ s)[c']? =some (some y)->y∈q.take n
theorem FBC.one {S:Type} {succ:S->List (Option S)} {s:S}:FBC succ 0 0 [s] [-1] [-1]:={ FBL.one with
 clo:=λi' c' _ _ h=>by omega
 ord:=λn h1 h2=>by simp [-List.map_set,-zza,-zyw,-zzh] at h2;omega }
section
variable {S:Type} {succ:S->List (Option S)} {i k:Nat} {q:List S} {fi bs:List Int}
theorem FBC.none (h:FBC succ i k q fi bs) {t:S} (ht:q[i]? =some t) (hy:(succ t)[k]? =some none):FBC succ i (k+1) q fi bs:={ h.toFBL with
 clo:=λi' c' s y hc hs hy'=>by
  rcases hc with hc | ⟨rfl,hc⟩
  .exact h.clo i' c' s y (.inl hc) hs hy'
  .rcases tz9 c' k with g | g
   .exact h.clo _ c' s y (.inr ⟨rfl,g⟩) hs hy'
   .obtain rfl:c'=k:=by omega
    rw [ht] at hs;cases hs
    rw [hy] at hy';cases hy'
 ord:=h.ord }
theorem FBC.known (h:FBC succ i k q fi bs) {t y0:S} (ht:q[i]? =some t) (hy:(succ t)[k]? =some (some y0)) (hm:y0∈q):FBC succ i (k+1) q fi bs:={ h.toFBL with
 clo:=λi' c' s y hc hs hy'=>by
  rcases hc with hc | ⟨rfl,hc⟩
  .exact h.clo i' c' s y (.inl hc) hs hy'
  .rcases tz9 c' k with g | g
   .exact h.clo _ c' s y (.inr ⟨rfl,g⟩) hs hy'
   .obtain rfl:c'=k:=by omega
    rw [ht] at hs;cases hs
    rw [hy] at hy';cases hy'
    exact hm
 ord:=h.ord }
theorem FBC.next (h:FBC succ i k q fi bs) (hk:∀ s,(succ s).length=k):FBC succ (i+1) 0 q fi bs:={ h.toFBL with
 clo:=λi' c' s y hc hs hy'=>by
  have hc':c'<k:=by rw [<-hk s];exact zzy hy'
  exact h.clo i' c' s y (by omega) hs hy'
 ord:=h.ord }
theorem FBC.new (h:FBC succ i k q fi bs) {t y0:S} (ht:q[i]? =some t) (hy:(succ t)[k]? =some (some y0)):FBC succ i (k+1) (q++[y0]) (fi++[(i:Int)]) (bs++[(k:Int)]):={ h.toFBL.add ht hy with
 clo:=λi' c' s y hc hs hy'=>by
  have hi:=zzy ht
  rw [tzs (by omega)] at hs
  rcases hc with hc | ⟨rfl,hc⟩
  .exact txf _ (h.clo i' c' s y (.inl hc) hs hy')
  .rcases tz9 c' k with g | g
   .exact txf _ (h.clo _ c' s y (.inr ⟨rfl,g⟩) hs hy')
   .obtain rfl:c'=k:=by omega
    rw [ht] at hs;cases hs
    rw [hy] at hy';cases hy'
    simp [-List.map_set,-zza,-zyw,-zzh]
 ord:=λn h1 h2=>by
  have lf:=h.lf
  have lb:=h.lb
  have hi:=zzy ht
  simp only [tz5,tzd,tze] at h2
  rcases tz9 n q.length with g | g
  .obtain ⟨j,c,e1,e2,e3⟩:=h.ord n h1 g
   obtain ⟨j',c2,p,z,d1,d2,d3,d4,d5,d6⟩:=h.get n h1 g
   refine ⟨j,c,by rw [tzs (by omega)];exact e1,by rw [tzs (by omega)];exact e2,λi' c' s y hc hs hy'=>?_⟩
   have ej:j'=j:=by rw [e1] at d1;simp [-List.map_set,-zza,-zyw,-zzh] at d1;omega
   rw [tzs (by omega)] at hs
   rw [txi (by omega)]
   exact e3 i' c' s y hc hs hy'
  .have hn:n=q.length:=by omega
   refine ⟨i,k,?_,?_,λi' c' s y hc hs hy'=>?_⟩
   .rw [tzv (by omega),show n-fi.length=0 by omega];rfl
   .rw [tzv (by omega),show n-bs.length=0 by omega];rfl
   .rw [tzs (by omega)] at hs
    rw [hn,txi (tzp _),ty0]
    exact h.clo i' c' s y hc hs hy' }
end
def xxl {S:Type} (e:S->Value):Prop:=∀ x,zud (.raw (e x))=.raw (e x)/\zva (.f (.raw (e x)))=.f (.raw (e x))/\zwz (.f (.raw (e x)))=true
def zrl {S:Type} (fa fb:S->Value) (x:S):DV:=.agg [.f (.raw (fa x)),.f (.raw (fb x))]
abbrev yz3 {S:Type} (fa fb:S->Value) (x:S):Value:=.agg #[fa x,fb x]
attribute [local simp] zwo zxi zzn zz0 zz1 zya zzv zz5 zzf zz8 zz6 zzt zz4 zrl
theorem yz4 {S:Type} {fa fb:S->Value} {L:Nat} {l:List S}:(l.map (zrl fa fb)).all (below L)=true:=by
 rw [tzx];intro y hy;obtain ⟨z,_,rfl⟩:=tyg.1 hy;rfl
theorem ywv {S:Type} {R:Option (BX×SD)} {G:List S->List (List Int)->List Int->List Int->List Int->Trie DV->Option (BX×SD)} {T:Trie DV->Prop} {p:List S->List Int->List Int->Prop} {q:List S} {rs:List (List Int)} {tot:Option (List S×List (List Int))} {E:Prop} {vs fi bs:List Int} (ht:tot=some (q,rs)) (hp:p q fi bs) (h:∃ tm,R=G q rs vs fi bs tm/\T tm) :
  (∃ (qs:List S) (rows:List (List Int)) (tm:Trie DV) (vs fi bs:List Int),tot=some (qs,rows)/\R=G qs rows vs fi bs tm/\T tm/\p qs fi bs)∨E:=by
 obtain ⟨tm,h1,h2⟩:=h;exact .inl ⟨q,rs,tm,vs,fi,bs,ht,h1,h2,hp⟩
theorem wS {S:Type} [DecidableEq S] (fa fb:S->Value) (ha:xxl fa) (hc:xxl fb) (f T:Nat) (hfT:f=117/\T=133∨f=88/\T=101∨f=96/\T=112) (hkey:KeyD Tryz.prog T (yz3 fa fb)) (sy most:Nat) (s0:S) (succ:S->List (Option S)) (ac:S->Bool) (dom:S->Prop) (F:Nat) (hF:most<F)
  (g1 g2:FuncId) (a1 b1 a2 b2:List DV) (base:Nat) (D:DH)
  (h0:dom s0) (hdom:∀ s,dom s->∀ t,some t∈succ s->dom t) (hlen:∀ s,(succ s).length=sy)
  (hsy:sy<=400) (hmost:most<=200000) (h1m:1<=most) (hb:base<=D.length) (hob:(D.drop base).all (zza D.length)=true)
  (ha1:zzo D.length a1=true) (hb1:zzo D.length b1=true) (ha2:zzo D.length a2=true) (hb2:zzo D.length b2=true) (hraw:(Q.ann g2).raw=false)
  (hstep:∀ (x:S) (c:Nat) (o:Option S),dom x->(succ x)[c]? =some o->∃ y,(∀ X:DH,zzg Q g1 (a1++[zrl fa fb x,zze c]++b1) base (D++X)=some (.tup [zrl fa fb y,zzr o.isSome],D++X))/\(o=some y∨o=none))
  (hacc:∀ (X:DH) (x:S),dom x->zzg Q g2 (a2++[zrl fa fb x]++b2) base (D++X)=some (zzr (ac x),D++X)) :
  (∃ qs rows,exR id succ most F 0 [s0]=some (qs,rows)/\∃ (O1 O2:DObj) (fi bs:List Int),zzg Q f [zze sy,zze most,zrl fa fb s0,.fn g1 a1 b1,.fn g2 a2 b2] base D=some (.tup [.ref (D.length+1) 0 0,zzr true],D++[.arr 2 [zrl fa fb s0],.arr 5 [.agg [zze sy,.apl (D.length+6) qs.length,.apl (D.length+7) qs.length,qV (D.length+4) qs.length,qV (D.length+5) qs.length]],O1,O2,qO 3 1 (fi.map zzf),qO 3 1 (bs.map zzf),.app 4 1 ((qs.map ac).map zz8),.app 26 1 (rows.map zyq)])/\FBC succ qs.length 0 qs fi bs/\∀ L,zza L O1=true/\zza L O2=true)∨(exR id succ most F 0 [s0]=none/\∃ Z,zzg Q f [zze sy,zze most,zrl fa fb s0,.fn g1 a1 b1,.fn g2 a2 b2] base D=some (.tup [rv (.pointer none),zzr false],D++Z)):=by
 have ha1':=λx=>(ha x).1;have ha2':=λx=>(ha x).2.1;have ha3':=λx=>(ha x).2.2;have hc1':=λx=>(hc x).1;have hc2':=λx=>(hc x).2.1;have hc3':=λx=>(hc x).2.2
 let T':=T
 have hT':T'=T:=rfl;rcases hfT with ⟨rfl,rfl⟩ | ⟨rfl,rfl⟩ | ⟨rfl,rfl⟩
 case' inl=>
  rw [zz2 (fn:=Tryz.f117) (show Q.P.funcs[117]? =some Tryz.f117 from Tryz.func117) rfl ys1 rfl (by simp only [tzd,tze];decide) (by kernel_rfl)];have gp:=xql;simp [ys1,Tryz.f117,zym] at gp
 case' inr.inl=>
  rw [zz2 (fn:=Tryz.f88) (show Q.P.funcs[88]? =some Tryz.f88 from Tryz.func88) rfl ycf rfl (by simp only [tzd,tze];decide) (by kernel_rfl)];have gp:=xm3;simp [ycf,Tryz.f88,zym] at gp
 case' inr.inr=>
  rw [zz2 (fn:=Tryz.f96) (show Q.P.funcs[96]? =some Tryz.f96 from Tryz.func96) rfl yci rfl (by simp only [tzd,tze];decide) (by kernel_rfl)];have gp:=xm5;simp [yci,Tryz.f96,zym] at gp
 all_goals
  have hbk:∀ k,base<=D.length+k:=λk=>by omega
  have hOK:∀ k X,zyg base (D.length+k) (D++X)=(X.take k).all (zza (D.length+k)):=λk X=>zwv hb hob
  have hbl:∀ (l:List DV) k,zzo D.length l=true->zzo (D.length+k) l=true:=λl k h=>(zy8 (tyt _ _)).2 l h
  have f0:zx0 _ _ (yz3 fa fb s0) (zwl [])=some none:=hkey.find [] s0
  have hbl:∀ k,zzo (D.length+k) a1=true/\zzo (D.length+k) b1=true/\zzo (D.length+k) a2=true/\zzo (D.length+k) b2=true:=λk=>⟨hbl a1 k ha1,hbl b1 k hb1,hbl a2 k ha2,hbl b2 k hb2⟩
  simp [-getElem?_pos,-List.map_set,-zza,-zyw,-zzh,gp,hT',ha1',ha2',ha3',hc1',hc2',hc3',hb,hbk,hOK,f0,(hbl _).1,(hbl _).2.1,(hbl _).2.2.1,(hbl _).2.2.2]
  generalize hX:zxj _ _ _=X
  obtain ⟨qs,rows,tm,vs,fi,bs,hex,rfl,t12,hfbl⟩ | ⟨tm,Z,hex,rfl,t10,t11⟩:(∃ (qs:List S) (rows:List (List Int)) (tm:Trie DV) (vs fi bs:List Int),exR id succ most F 0 [s0]=some (qs,rows)/\X=some (.exit 0,⟨tm,D++[.arr 2 [zrl fa fb s0],.arr 5 [.agg [zze sy,.apl (D.length+6) qs.length,.apl (D.length+7) qs.length,qV (D.length+4) qs.length,qV (D.length+5) qs.length]],.map (qs.map (yz3 fa fb)) (vs.map zzf),qO T' 2 (qs.map (zrl fa fb)),qO 3 1 (fi.map zzf),qO 3 1 (bs.map zzf),.app 4 1 ((qs.map ac).map zz8),.app 26 1 (rows.map zyq)]⟩)/\tm.get 12=some (.ref (D.length+1) 0 0)/\FBC succ qs.length 0 qs fi bs)∨∃ (tm:Trie DV) (Z:DH),exR id succ most F 0 [s0]=none/\X=some (.ret,⟨tm,D++Z⟩)/\tm.get 10=some (rv (.pointer none))/\tm.get 11=some (zzr false):=by
   rw [<-hX]
   clear hX
   obtain ⟨tot,htot⟩:∃ tot,tot=exR id succ most F 0 [s0]:=⟨_,rfl⟩
   rw [<-htot]
   generalize hs24:SD.mk _ _=sd24
   revert sd24
   refine wl (λp:Nat×Nat×List S×List Int×List Int×List Int×List (List Int)×List Bool=>⟨(((((((Trie.leaf.put 15 (zze p.2.1)).put 14 (qV (D.length+3) p.2.2.1.length)).put 13 (.mp (D.length+2))).put 12 (.ref (D.length+1) 0 0)).put 4 (.fn g2 a2 b2)).put 3 (.fn g1 a1 b1)).put 1 (zze most)).put 0 (zze sy),D++[.arr 2 [zrl fa fb s0],.arr 5 [.agg [zze sy,.apl (D.length+6) p.2.1,.apl (D.length+7) p.2.1,qV (D.length+4) p.2.2.1.length,qV (D.length+5) p.2.2.1.length]],.map (p.2.2.1.map (yz3 fa fb)) (p.2.2.2.1.map zzf),qO T' 2 (p.2.2.1.map (zrl fa fb)),qO 3 1 (p.2.2.2.2.1.map zzf),qO 3 1 (p.2.2.2.2.2.1.map zzf),.app 4 1 (p.2.2.2.2.2.2.2.map zz8),.app 26 1 (p.2.2.2.2.2.2.1.map zyq)]⟩)
    (λp=>p.2.1<=p.2.2.1.length/\1<=p.2.2.1.length/\p.2.2.1.length<=most/\FBC succ p.2.1 0 p.2.2.1 p.2.2.2.2.1 p.2.2.2.2.2.1/\p.2.2.2.2.2.1.length=p.2.2.1.length/\(p.2.2.2.1.length=p.2.2.1.length/\∀ j,j<p.2.2.1.length->p.2.2.2.1[j]? =some (j:Int))/\p.2.2.2.2.2.2.1.length=p.2.1/\p.2.2.2.2.2.2.2=(p.2.2.1.take p.2.1).map ac/\(∀ t∈p.2.2.1,dom t)/\most<p.1+p.2.1/\(exR id succ most p.1 p.2.1 p.2.2.1).map (λz=>(z.1,p.2.2.2.2.2.2.1++z.2))=tot)
    (λp=>p.1) ?_ (F,0,[s0],[0],[-1],[-1],[],[]) ⟨tz6 _,tzp _,h1m,FBC.one,rfl,⟨rfl,λj h=>by cases j with | zero=>rfl | succ j=>simp [-getElem?_pos,-List.map_set,-zza,-zyw,-zzh] at h⟩,rfl,rfl,λt ht=>by rw [tzw] at ht;rw [ht];exact h0,hF,by rw [htot];simp [-getElem?_pos,-List.map_set,-zza,-zyw,-zzh]⟩
   clear htot
   rintro ⟨F,i,q,vs,fi,bs,R0,A⟩ ⟨hi,hq1,hqm,hfb,hbs,⟨hvl,hvs⟩,hR0,hA,hdq,hFi,hex⟩ ih
   have hfi:=hfb.lf
   simp only at hi hq1 hqm hfb hfi hbs hvl hvs hR0 hA hdq hFi hex ih
   rw [zzj]
   obtain ⟨F,rfl⟩:∃ F',F=F'+1:=by
    cases F with
    | zero=>omega
    | succ F=>exact ⟨F,rfl⟩
   simp only [exR] at hex
   by_cases hlt:i<q.length
   .obtain ⟨t,ht⟩:∃ t,q[i]? =some t:=⟨_,tzb hlt⟩
    have htd:=hdq t (tzg ht)
    rw [ht] at hex
    simp only at hex
    have hAl:A.length=i:=by rw [hA];simp [-getElem?_pos,-List.map_set,-zza,-zyw,-zzh];omega
    have hac:∀ X,zzg Q g2 (a2++(DV.agg [DV.f (.raw (fa t)),DV.f (.raw (fb t))]::b2)) base (D++X)=some (DV.f (.raw (.bool (ac t))),D++X):=λX=>by
     have:=hacc X t htd
     rw [tyd] at this;exact this
    obtain ⟨q',hq'⟩:∃ q',q'=addS id q (succ t):=⟨_,rfl⟩
    simp [-getElem?_pos,-List.map_set,-zza,-zyw,-zzh,gp,hT',ha1',ha2',ha3',hc1',hc2',hc3',hb,hbk,hOK,hbl,hlt,ht,hraw,hac,hAl,hR0,hfi,hbs,hvl,show i+1<=1099511627776 by omega,show i<=1099511627775 by omega,show sy*8<=140737488355328 by omega,show sy<9223372036854775808 by omega]
    have hre:succ t=(succ t).take sy:=(tzk (by rw [hlen];exact tzp _)).symm
    rw [<-hq'] at hex
    have hpre:∀ k,addS id q ((succ t).take k) <+: q':=λk=>by
     rw [hq']
     conv=>rhs;rw [<-List.take_append_drop k (succ t),zr0]
     exact zxg
    generalize hX:zxj _ _ _=X
    obtain ⟨hqm',tm,vs',fi',bs',rfl,⟨hfb',hbs',hvl',hvs'⟩,t0,t1,t3,t4,t12,t13,t14,t15,t16⟩ | ⟨hqm',tm,Z,rfl,t10,t11⟩:(q'.length<=most/\∃ (tm:Trie DV) (vs' fi' bs':List Int),X=some (.exit 2,⟨tm,D++[.arr 2 [zrl fa fb s0],.arr 5 [.agg [zze sy,.apl (D.length+6) (i+1),.apl (D.length+7) i,qV (D.length+4) q'.length,qV (D.length+5) q'.length]],.map (q'.map (yz3 fa fb)) (vs'.map zzf),qO T' 2 (q'.map (zrl fa fb)),qO 3 1 (fi'.map zzf),qO 3 1 (bs'.map zzf),.app 4 1 (A.map zz8++[zz8 (ac t)]),.app 26 1 (R0.map zyq),.arr 1 [zz8 (ac t)],.arr 1 ((za8 id q (succ t)).map zzf)]⟩)/\(FBC succ i sy q' fi' bs'/\bs'.length=q'.length/\vs'.length=q'.length/\∀ j,j<q'.length->vs'[j]? =some (j:Int))/\tm.get 0=some (zze sy)/\tm.get 1=some (zze most)/\tm.get 3=some (.fn g1 a1 b1)/\tm.get 4=some (.fn g2 a2 b2)/\tm.get 12=some (.ref (D.length+1) 0 0)/\tm.get 13=some (.mp (D.length+2))/\tm.get 14=some (qV (D.length+3) q'.length)/\tm.get 15=some (zze i)/\tm.get 16=some (.row (D.length+9) 0 sy sy))∨(most<q'.length/\∃ (tm:Trie DV) (Z:DH),X=some (.ret,⟨tm,D++Z⟩)/\tm.get 10=some (rv (.pointer none))/\tm.get 11=some (zzr false)):=by
     rw [<-hX]
     clear hX ih hex
     obtain ⟨W0,hW0⟩:∃ L:List Int,L=List.replicate sy 0:=⟨_,rfl⟩
     rw [zn0,<-hW0]
     generalize hs25:SD.mk _ _=sd25
     revert sd25
     refine wl (λp:Nat×List S×List Int×List Int×List Int×List Int=>⟨((((((((((Trie.leaf.put 62 (zze p.1)).put 61 (zze sy)).put 16 (.row (D.length+9) 0 sy sy)).put 15 (zze i)).put 14 (qV (D.length+3) p.2.1.length)).put 13 (.mp (D.length+2))).put 12 (.ref (D.length+1) 0 0)).put 4 (.fn g2 a2 b2)).put 3 (.fn g1 a1 b1)).put 1 (zze most)).put 0 (zze sy),D++[.arr 2 [zrl fa fb s0],.arr 5 [.agg [zze sy,.apl (D.length+6) (i+1),.apl (D.length+7) i,qV (D.length+4) p.2.1.length,qV (D.length+5) p.2.1.length]],.map (p.2.1.map (yz3 fa fb)) (p.2.2.1.map zzf),qO T' 2 (p.2.1.map (zrl fa fb)),qO 3 1 (p.2.2.2.1.map zzf),qO 3 1 (p.2.2.2.2.1.map zzf),.app 4 1 (A.map zz8++[zz8 (ac t)]),.app 26 1 (R0.map zyq),.arr 1 [zz8 (ac t)],.arr 1 (p.2.2.2.2.2.map zzf)]⟩)
      (λp=>p.1<=sy/\p.2.1=addS id q ((succ t).take p.1)/\p.2.1.length<=most/\(FBC succ i p.1 p.2.1 p.2.2.2.1 p.2.2.2.2.1/\p.2.2.2.2.1.length=p.2.1.length/\p.2.2.1.length=p.2.1.length/\∀ j,j<p.2.1.length->p.2.2.1[j]? =some (j:Int))/\p.2.2.2.2.2.length=sy/\p.2.2.2.2.2.take p.1=za8 id q ((succ t).take p.1)) (λp=>sy-p.1) ?_ (0,q,vs,fi,bs,W0) ⟨tz6 _,rfl,hqm,⟨hfb,hbs,hvl,hvs⟩,by simp [-getElem?_pos,-List.map_set,-zza,-zyw,-zzh,hW0],rfl⟩
     clear hvs hvl hfi hbs hfb
     rintro ⟨k,q1,vs,fi,bs,W⟩ ⟨hk,hq1',hq1m,⟨hfb,hbs,hvl,hvs⟩,hWl,hW⟩ ihK
     have hfi:=hfb.lf
     simp only at hk hq1' hq1m hfb hfi hbs hvl hvs hWl hW ihK
     rw [zzj]
     by_cases hks:k<sy
     case neg=>
      have hk':k=sy:=by omega
      subst hk'
      rw [<-hre] at hq1' hW
      rw [tzk (by omega)] at hW
      subst hW
      rw [<-hq'] at hq1'
      subst hq1'
      simp [-getElem?_pos,-List.map_set,-zza,-zyw,-zzh,gp,hT',ha1',ha2',ha3',hc1',hc2',hc3',hks]
      refine ⟨hq1m,_,vs,fi,bs,⟨rfl,rfl,rfl,rfl⟩,⟨hfb,hbs,hvl,hvs⟩,?_⟩
      simp [-getElem?_pos,-List.map_set,-zza,-zyw,-zzh]
     obtain ⟨o,ho⟩:∃ o,(succ t)[k]? =some o:=⟨_,tzb (by rw [hlen];exact hks)⟩
     have hL:(succ t).take (k+1)=(succ t).take k++[o]:=by rw [tz8,ho];rfl
     have hset:∀ v,(W.set k v).take (k+1)=W.take k++[v]:=λv=>by
      rw [tz8,txx (tzp _),tz1 (by omega)];rfl
     obtain ⟨w0,hw0⟩:∃ x,W[k]? =some x:=⟨_,tzb (by omega)⟩
     have hws:∀ v,(W.set k v)[k]? =some v:=λv=>tz1 (by omega)
     have hww:=zzi (show k+1<=9223372036854775807 by omega)
     have hqt:q1[i]? =some t:=by rw [hq1'];exact zxr zxg ht
     have hqi:i<q1.length:=zzy hqt
     obtain ⟨y,hst,hoy⟩:∃ y,(∀ X,zzg Q g1 (a1++(DV.agg [DV.f (.raw (fa t)),DV.f (.raw (fb t))]::DV.f (.raw (.int .i64 k))::b1)) base (D++X)=some (.tup [DV.agg [DV.f (.raw (fa y)),DV.f (.raw (fb y))],DV.f (.raw (.bool o.isSome))],D++X))/\(o=some y∨o=none):=by
      obtain ⟨y,h1,h2⟩:=hstep t k o htd ho
      refine ⟨y,λX=>?_,h2⟩
      have:=h1 X
      rw [tyd] at this;exact this
     rcases hoy with rfl | rfl
     case inr=>
      have ih':=ihK (k+1,q1,vs,fi,bs,W.set k (-1)) ⟨by simp only;omega,by simp only;rw [hL,zdr,hq1'],hq1m,⟨hfb.none hqt ho,hbs,hvl,hvs⟩,by simp only [tz3];exact hWl,by simp only;rw [hset,hL,zdq,hW]⟩ (by simp only;omega)
      simp [-getElem?_pos,-List.map_set,-zza,-zyw,-zzh,hT',ha1',ha2',ha3',hc1',hc2',hc3'] at ih'
      simp only [Option.isSome_none] at hst
      simp [-getElem?_pos,-List.map_set,-zza,-zyw,-zzh,gp,hT',ha1',ha2',ha3',hc1',hc2',hc3',hb,hbk,hOK,hbl,hks,hst,hqt,hqi,hw0,hws,hWl,hww,hAl,hR0,hfi,hbs,hvl]
      exact ih'
     simp only [Option.isSome_some] at hst
     have hnew:=(hpre (k+1)).length_le
     rw [hL,ztc,<-hq1',txa,id] at hnew
     by_cases hm:y∈q1
     .obtain ⟨m,hm2⟩:∃ m,m=zwe q1 y:=⟨_,rfl⟩
      have hmn:m<q1.length:=by rw [hm2];exact znd hm
      have hvm:=hvs m hmn
      have hf:=hkey.find q1 y
      rw [zq2 hm,<-hm2] at hf
      have ih':=ihK (k+1,q1,vs,fi,bs,W.set k (m:Int)) ⟨by simp only;omega,by simp only;rw [hL,ztc,<-hq1',txa,id,if_pos hm],hq1m,⟨hfb.known hqt ho hm,hbs,hvl,hvs⟩,by simp only [tz3];exact hWl,by simp only;rw [hset,hL,zod,hW,<-hq1',txa,id,hm2]⟩ (by simp only;omega)
      simp [-getElem?_pos,-List.map_set,-zza,-zyw,-zzh,hT',ha1',ha2',ha3',hc1',hc2',hc3'] at ih'
      simp [-getElem?_pos,-List.map_set,-zza,-zyw,-zzh,gp,hT',ha1',ha2',ha3',hc1',hc2',hc3',hb,hbk,hOK,hbl,hks,hst,hqt,hqi,hw0,hws,hWl,hww,hAl,hR0,hfi,hbs,hvl,hf,hvm]
      exact ih'
     .rw [if_neg hm,tz5] at hnew
      simp only [tzd,tze] at hnew
      have hf:=hkey.find q1 y
      rw [zoc hm] at hf
      by_cases hlm:q1.length<most
      case neg=>
       simp [-getElem?_pos,-List.map_set,-zza,-zyw,-zzh,gp,hT',ha1',ha2',ha3',hc1',hc2',hc3',hb,hbk,hOK,hbl,hks,hst,hqt,hqi,hw0,hws,hWl,hww,hAl,hR0,hfi,hbs,hvl,hf,show most<=q1.length by omega]
       omega
      have ih':=ihK (k+1,q1++[y],vs++[(q1.length:Int)],fi++[(i:Int)],bs++[(k:Int)],W.set k (q1.length:Int)) ⟨by simp only;omega,by simp only;rw [hL,ztc,<-hq1',txa,id,if_neg hm],by simp only [tz5,tzd,tze];omega,⟨hfb.new hqt ho,by simp [-getElem?_pos,-List.map_set,-zza,-zyw,-zzh,hbs],by simp [-getElem?_pos,-List.map_set,-zza,-zyw,-zzh,hvl],λj hj=>by
       rcases tz9 j q1.length with g | g
       .rw [tzs (by omega)];exact hvs j g
       .simp only [tz5,tzd,tze] at hj
        have:j=vs.length:=by omega
        rw [this,tzv (tzp _),Nat.sub_self,hvl];rfl⟩,by simp only [tz3];exact hWl,by simp only;rw [hset,hL,zod,hW,<-hq1',txa,id,zsv hm]⟩ (by simp only;omega)
      simp [-getElem?_pos,-List.map_set,-zza,-zyw,-zzh,hT',ha1',ha2',ha3',hc1',hc2',hc3'] at ih'
      simp [-getElem?_pos,-List.map_set,-zza,-zyw,-zzh,gp,hT',ha1',ha2',ha3',hc1',hc2',hc3',hb,hbk,hOK,hbl,hks,hst,hqt,hqi,hw0,hws,hWl,hww,hAl,hR0,hfi,hbs,hvl,hf,show ¬most<=q1.length by omega,show q1.length<most by omega,show 1<=q1.length by omega,show (q1.length+1)*8<=1099511627776 by omega,show (q1.length+1)*16<=1099511627776 by omega,show (q1.length+1)*24<=1099511627776 by omega,show q1.length<=1099511627775 by omega]
      exact ih'
    case inr=>
     rw [if_pos hqm'] at hex
     clear hX ih
     simp [-getElem?_pos,-List.map_set,-zza,-zyw,-zzh,gp,hT',t10,t11]
     exact hex.symm
    clear hX
    rw [if_neg (by omega)] at hex
    have hfi':=hfb'.lf
    obtain ⟨Z,hS⟩:∃ Z,Z=za8 id q (succ t):=⟨_,rfl⟩
    have hSl:Z.length=sy:=by rw [hS,zg6,hlen]
    rw [<-hS] at hex
    have hpre':q <+: q':=by rw [hq'];exact zxg
    have hpl:=hpre'.length_le
    have hqt:q'.take (i+1)=q.take i++[t]:=by
     rw [tz8,zxr hpre' ht]
     obtain ⟨z,rfl⟩:=hpre'
     rw [txi (by omega)];rfl
    have htk:List.take sy (Z.map zzf)=Z.map zzf:=tzk (by simp [-getElem?_pos,-List.map_set,-zza,-zyw,-zzh,hSl])
    have ih':=ih (F,i+1,q',vs',fi',bs',R0++[Z],A++[ac t]) ⟨by simp only;omega,by simp only;omega,by simp only;omega,hfb'.next hlen,hbs',⟨hvl',hvs'⟩,by simp [-getElem?_pos,-List.map_set,-zza,-zyw,-zzh,hR0],by simp only;rw [hqt,txk,txe,List.map_nil,hA],by
     simp only
     rw [hq']
     exact zry hdq (hdom t htd),by simp only;omega,by
     simp only
     rw [<-hex,Option.map_map]
     congr 1
     funext z
     simp [-getElem?_pos,-List.map_set,-zza,-zyw,-zzh]⟩ (by simp only;omega)
    simp [-getElem?_pos,-List.map_set,-zza,-zyw,-zzh,hT',ha1',ha2',ha3',hc1',hc2',hc3'] at ih'
    rw [<-hS]
    simp [-getElem?_pos,-List.map_set,-zza,-zyw,-zzh,gp,hT',ha1',ha2',ha3',hc1',hc2',hc3',hb,hbk,hOK,hbl,t0,t1,t3,t4,t12,t13,t14,t15,t16,hSl,htk,hR0,hAl,hfi',hbs',hvl',show i+1<=1099511627776 by omega,show i<=1099511627775 by omega,show (i+1)*24<=1099511627776 by omega,zzi (show i+1<=9223372036854775807 by omega)]
    exact ih'
   .rw [tzt (by omega)] at hex
    simp only [tz2,tyv] at hex
    have hie:i=q.length:=by omega
    subst hie
    rw [ty0] at hA
    subst hA
    refine ywv (vs:=vs) (fi:=fi) (bs:=bs) hex.symm hfb ?_
    simp [-getElem?_pos,-List.map_set,-zza,-zyw,-zzh,gp,hT',ha1',ha2',ha3',hc1',hc2',hc3',hlt,hR0]
  case inr=>
   clear hX
   refine .inr ⟨hex,Z,?_⟩
   simp [-getElem?_pos,-List.map_set,-zza,-zyw,-zzh,gp,t10,t11]
  clear hX
  refine .inl ⟨qs,rows,hex,.map (qs.map (yz3 fa fb)) (vs.map zzf),qO T' 2 (qs.map (zrl fa fb)),fi,bs,?_,hfbl,λL=>⟨by rw [yop];exact zy1,zqa yz4⟩⟩
  simp [-getElem?_pos,-List.map_set,-zza,-zyw,-zzh,gp,hT',ha1',ha2',ha3',hc1',hc2',hc3',t12]
end Go.Dv
