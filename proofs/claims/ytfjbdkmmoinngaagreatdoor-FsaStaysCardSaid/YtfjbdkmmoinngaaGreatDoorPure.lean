/- Texts of this proof, part Pure. -/
import Derived.Test.YtfjbdkmmoinngaaGreatDoorAl
set_option linter.unusedVariables false
set_option linter.unusedSimpArgs false
set_option linter.unusedSectionVars false
noncomputable section
namespace Go.Fsa
structure Aut where
 sy:Int
 st:Int
 acc:List Bool
 nxt:List (List Int)
def zdl (sy:Int) (n:Nat) (r:List Int):Prop:=(r.length:Int)=sy/\∀ t∈r,¬t < -1/\¬(n:Int)<=t
instance (sy:Int) (n:Nat) (r:List Int):Decidable (zdl sy n r):=inferInstanceAs (Decidable (_/\_))
structure Aut.valid (a:Aut):Prop where
 lo:¬a.sy<1
 hi:¬400<a.sy
 most:¬20000<a.acc.length
 len:a.nxt.length=a.acc.length
 st0:¬a.st<0
 st1:¬max (a.acc.length:Int) 1<=a.st
 rows:∀ r∈a.nxt,zdl a.sy a.acc.length r
theorem Aut.valid_iff (a:Aut):a.valid↔(¬a.sy<1/\¬400<a.sy/\¬20000<a.acc.length/\a.nxt.length=a.acc.length/\¬a.st<0/\¬max (a.acc.length:Int) 1<=a.st/\∀ r∈a.nxt,zdl a.sy a.acc.length r):=
 ⟨λh=>⟨h.1,h.2,h.3,h.4,h.5,h.6,h.7⟩,λh=>⟨h.1,h.2.1,h.2.2.1,h.2.2.2.1,h.2.2.2.2.1,h.2.2.2.2.2.1,h.2.2.2.2.2.2⟩⟩
instance (a:Aut):Decidable a.valid:=decidable_of_iff _ a.valid_iff.symm
def Aut.check (a:Aut):Int:=if a.valid then 0 else 60
def Aut.go (a:Aut) (x:Int) (c:Nat):Int:=if x<0 then -1 else ((a.nxt[x.toNat]?).bind λr=>r[c]?).getD (-1)
def Aut.begin (a:Aut):Int:=if a.acc.length=0 then -1 else a.st
def Aut.accB (a:Aut) (x:Int):Bool:=decide (0<=x)&&(a.acc[x.toNat]?).getD false
def Aut.dom (a:Aut) (x:Int):Prop:=-1<=x/\x<(a.nxt.length:Nat)
theorem Aut.go_dom {a:Aut} (hv:a.valid) {x:Int} {c:Nat}:a.dom (a.go x c):=by
 unfold Aut.go;split
 .exact ⟨by omega,by omega⟩
 cases h1:a.nxt[x.toNat]? with
 | none=>exact ⟨by simp,by simp;omega⟩
 | some r=>
  cases h2:r[c]? with
  | none=>simp only [tzn,h2];exact ⟨by simp,by simp;omega⟩
  | some t=>
   simp only [tzn,h2,tye];have:=(hv.rows r (tzg h1)).2 t (tzg h2);have:=hv.len;exact ⟨by omega,by omega⟩
def zvr (s:Int) (B:List (List Int)) (t:Int):List (List Int):=if 0<=t then B.set t.toNat ((B[t.toNat]?).getD []++[s]) else B
def zwt (s:Int) (r:List Int) (B:List (List Int)):List (List Int):=r.foldl (zvr s) B
def zx6:Nat->List (List Int)->List (List Int)->List (List Int)
 | _,[],B=>B
 | s,r::rs,B=>zx6 (s+1) rs (zwt s r B)
theorem zna {s t:Int} {B:List (List Int)}:(zvr s B t).length=B.length:=by unfold zvr;split<;>simp
theorem zq0 {s:Int}:∀ {r:List Int} {B:List (List Int)},(zwt s r B).length=B.length
 | [],B=>rfl
 | t::r,B=>by
  have:=zq0 (s:=s) (r:=r) (B:=zvr s B t);rw [zna] at this;exact this
theorem zko:∀ {rs:List (List Int)} {s:Nat} {B:List (List Int)},(zx6 s rs B).length=B.length
 | [],s,B=>rfl
 | r::rs,s,B=>by
  show (zx6 (s+1) rs (zwt s r B)).length=_;rw [zko,zq0]
end Go.Fsa
namespace Go.Fsa
inductive Live (acc:List Bool) (rows:List (List Int)):Nat->Prop
 | acc {s:Nat}:acc[s]? =some true->Live acc rows s
 | step {s t:Nat} {r:List Int}:rows[s]? =some r->(t:Int)∈r->Live acc rows t->Live acc rows s
abbrev at_ (B:List (List Int)) (t:Nat):List Int:=(B[t]?).getD []
theorem ytm {s u:Int} {B:List (List Int)} {t:Nat} {x:Int} (ht:t<B.length):x∈at_ (zvr s B u) t↔x∈at_ B t∨(u=t/\x=s):=by
 unfold zvr at_;split
 .grind
 grind
theorem zkp {s:Int}:∀ {r:List Int} {B:List (List Int)} {t:Nat} {x:Int},t<B.length->(x∈at_ (zwt s r B) t↔x∈at_ B t∨((t:Int)∈r/\x=s))
 | [],B,t,x,ht=>by simp [zwt]
 | u::r,B,t,x,ht=>by
  have:=zkp (s:=s) (r:=r) (B:=zvr s B u) (t:=t) (x:=x) (by rw [zna];exact ht);show x∈at_ (zwt s r (zvr s B u)) t↔_;rw [this,ytm ht,tzu];constructor
  .grind
  grind
theorem zkq:∀ {rs:List (List Int)} {s0:Nat} {B:List (List Int)} {t:Nat} {x:Int},t<B.length->(x∈at_ (zx6 s0 rs B) t↔x∈at_ B t∨∃ j r,rs[j]? =some r/\(t:Int)∈r/\x=((s0+j:Nat):Int))
 | [],s0,B,t,x,ht=>by simp [zx6]
 | u::rs,s0,B,t,x,ht=>by
  show x∈at_ (zx6 (s0+1) rs (zwt s0 u B)) t↔_;rw [zkq (by rw [zq0];exact ht),zkp ht];constructor
  .rintro ((h | ⟨h,h'⟩) | ⟨j,r,h1,h2,h3⟩)
   .exact .inl h
   .exact .inr ⟨0,u,rfl,h,by simpa using h'⟩
   exact .inr ⟨j+1,r,h1,h2,by rw [h3];congr 1;omega⟩
  .grind
theorem yy6 {rows:List (List Int)} {n t:Nat} {x:Int} (ht:t<n):x∈at_ (zx6 0 rows (List.replicate n [])) t↔∃ j r,rows[j]? =some r/\(t:Int)∈r/\x=((j:Nat):Int):=by
 rw [zkq (by simpa using ht)];simp [at_,tyq,ht]
theorem zdm {s u:Int} {B:List (List Int)} {t:Nat}:(at_ (zvr s B u) t).length<=(at_ B t).length+1:=by
 unfold zvr at_;split
 .grind
 omega
theorem znb {s:Int}:∀ {r:List Int} {B:List (List Int)} {t:Nat},(at_ (zwt s r B) t).length<=(at_ B t).length+r.length
 | [],B,t=>by simp [zwt]
 | u::r,B,t=>by
  have h1:=znb (s:=s) (r:=r) (B:=zvr s B u) (t:=t);have h2:=zdm (s:=s) (u:=u) (B:=B) (t:=t);show (at_ (zwt s r (zvr s B u)) t).length<=_;simp only [tzd];omega
theorem zhj {sy:Nat}:∀ {rs:List (List Int)} {s:Nat} {B:List (List Int)} {t:Nat},(∀ r∈rs,r.length=sy)->(at_ (zx6 s rs B) t).length<=(at_ B t).length+rs.length*sy
 | [],s,B,t,_=>by simp [zx6]
 | u::rs,s,B,t,h=>by
  have h1:=zhj (sy:=sy) (rs:=rs) (s:=s+1) (B:=zwt s u B) (t:=t) (λr hr=>h r (tzq _ hr));have h2:=znb (s:=s) (r:=u) (B:=B) (t:=t);have h3:=h u (tz0 ..);show (at_ (zx6 (s+1) rs (zwt s u B)) t).length<=_;rw [tzd,Nat.succ_mul];omega
theorem zp6:∀ {n:Nat} {l:List Int},l.Nodup->(∀ x∈l,0<=x/\x<(n:Int))->l.length<=n
 | 0,l,_,h=>by
  cases l with
  | nil=>simp
  | cons x l=>have:=h x (tz0 ..);omega
 | n+1,l,hd,h=>by
  by_cases hn:(n:Int)∈l
  .have h1:=zp6 (n:=n) (l:=l.erase n) (hd.erase _) (λx hx=>by
    grind)
   rw [List.length_erase_of_mem hn] at h1;omega
  .have:=zp6 (n:=n) (l:=l) hd (λx hx=>by
    grind)
   omega
structure LiveQ (acc:List Bool) (rows:List (List Int)) (n i:Nat) (q:List Int) (seen:List Bool):Prop where
 len:seen.length=n
 seen:∀ j,j<n->(seen[j]? =some true↔(j:Int)∈q)
 nodup:q.Nodup
 dom:∀ x∈q,0<=x/\x<(n:Int)
 live:∀ x∈q,Live acc rows x.toNat
theorem LiveQ.add {acc:List Bool} {rows:List (List Int)} {n i j:Nat} {q:List Int} {seen:List Bool} (h:LiveQ acc rows n i q seen) (hj:j<n) (hs:seen[j]?≠some true) (hl:Live acc rows j):LiveQ acc rows n i (q++[(j:Int)]) (seen.set j true):=by
 have hjq:(j:Int)∉q:=λe=>hs ((h.seen j hj).2 e);refine ⟨by simp [h.len],λk hk=>?_,?_,?_,?_⟩
 .rw [tya,tyh,tzw];by_cases e:j=k
  .subst e;simp [h.len,hj]
  rw [if_neg e,h.seen k hk];constructor
  .exact λh=>.inl h
  .grind
 .rw [List.nodup_append]
  exact ⟨h.nodup,by simp,λa ha b hb e=>by
   simp_all⟩
 .intro x hx;rw [tyh,tzw] at hx;rcases hx with hx | rfl
  .exact h.dom x hx
  .omega
 .intro x hx;rw [tyh,tzw] at hx;rcases hx with hx | rfl
  .exact h.live x hx
  .simpa using hl
theorem LiveQ.all {acc:List Bool} {rows:List (List Int)} {n i:Nat} {q:List Int} {seen:List Bool} (h:LiveQ acc rows n i q seen) (hlen:acc.length=n) (hrows:rows.length=n)
  (h1:∀ j:Nat,acc[j]? =some true->(j:Int)∈q) (h2:∀ x∈q,∀ p∈at_ (zx6 0 rows (List.replicate n [])) x.toNat,p∈q) (s:Nat):((s:Int)∈q↔Live acc rows s):=by
 constructor
 .intro hs;simpa using h.live _ hs
 intro hl
 induction hl with
 | acc hs=>exact h1 _ hs
 | @step s t r hr ht hl ih=>
  have:=(h.dom _ ih).2;exact h2 _ ih s ((yy6 (by omega)).2 ⟨s,r,hr,by simpa using ht,rfl⟩)
end Go.Fsa
namespace Go.Fsa
section
variable {K:Type} [DecidableEq K]
def zwe (ks:List K) (k:K):Nat:=(ks.findIdx? λy=>decide (k=y)).getD ks.length
def zrv (ks:List K) (k:K):List K:=if k∈ks then ks else ks++[k]
def zzp (ks:List K):List K->List Nat×List K
 | []=>([],ks)
 | k::l=>(zwe ks k::(zzp (zrv ks k) l).1,(zzp (zrv ks k) l).2)
theorem zxm:∀ {l ks:List K},(zzp ks l).1.length=l.length
 | [],ks=>rfl
 | k::l,ks=>by simp only [zzp,tzd,zxm]
theorem zkr {ks:List K} {k:K} (h:k∈ks):ks[zwe ks k]? =some k:=by
 unfold zwe;cases hf:ks.findIdx? λy=>decide (k=y) with
 | none=>
  grind
 | some i=>
  obtain ⟨h1,h2,_⟩:=List.findIdx?_eq_some_iff_getElem.1 hf;simp only [decide_eq_true_eq] at h2;rw [tye,tzb h1,<-h2]
theorem zsv {ks:List K} {k:K} (h:k∉ks):zwe ks k=ks.length:=by
 unfold zwe;have:(ks.findIdx? λy=>decide (k=y))=none:=(by grind);rw [this];rfl
theorem yy7 {ks:List K} {k:K}:(zrv ks k)[zwe ks k]? =some k:=by
 unfold zrv;split
 .rename_i h;exact zkr h
 rename_i h;rw [zsv h];simp
theorem zks {ks:List K} {k:K}:ks <+: zrv ks k:=by
 unfold zrv;split
 .exact List.prefix_refl _
 exact List.prefix_append _ _
theorem zhk {ks:List K} {k:K} (h:ks.Nodup):(zrv ks k).Nodup:=by
 unfold zrv;split
 .exact h
 .grind
theorem yg6 {ks:List K} {k x:K}:x∈zrv ks k↔x∈ks∨x=k:=by
 unfold zrv;split
 .simp_all
 .simp
theorem zp7:∀ {l ks:List K},ks <+: (zzp ks l).2
 | [],ks=>List.prefix_refl _
 | k::l,ks=>zks.trans zp7
theorem zsw:∀ {l ks:List K},ks.Nodup->(zzp ks l).2.Nodup
 | [],ks,h=>h
 | k::l,ks,h=>by
  show (zzp (zrv ks k) l).2.Nodup;exact zsw (zhk h)
theorem zrw:∀ {l ks:List K} {x:K},x∈(zzp ks l).2↔x∈ks∨x∈l
 | [],ks,x=>by simp [zzp]
 | k::l,ks,x=>by
  show x∈(zzp (zrv ks k) l).2↔_;rw [zrw,yg6,tzu,or_assoc]
theorem zhl {A B:List K} (h:A <+: B) {i:Nat} {x:K} (hx:A[i]? =some x):B[i]? =some x:=by
 obtain ⟨t,rfl⟩:=h;have:i<A.length:=(by grind);rw [tzs this];exact hx
theorem zrx:∀ {l ks:List K} {i:Nat} {n:Nat},(zzp ks l).1[i]? =some n->∃ x,l[i]? =some x/\(zzp ks l).2[n]? =some x
 | [],ks,i,n,h=>by simp [zzp] at h
 | k::l,ks,0,n,h=>by
  simp only [zzp,txp,tza] at h;subst h;refine ⟨k,rfl,?_⟩;show (zzp (zrv ks k) l).2[zwe ks k]? =some k;exact zhl zp7 yy7
 | k::l,ks,i+1,n,h=>by
  simp only [zzp,txr] at h;obtain ⟨x,h1,h2⟩:=zrx h;exact ⟨x,by simpa using h1,h2⟩
theorem yn1 {A:List K} (h:A.Nodup) {i j:Nat} {x:K} (hi:A[i]? =some x) (hj:A[j]? =some x):i=j:=by
 have li:i<A.length:=(by grind);have lj:j<A.length:=(by grind);rw [tzb li,tza] at hi;rw [tzb lj,tza] at hj;exact (List.getElem_inj h).1 (hi.trans hj.symm)
theorem ytn {l:List K} {i j a b:Nat} (hi:(zzp [] l).1[i]? =some a) (hj:(zzp [] l).1[j]? =some b):a=b↔l[i]? =l[j]?:=by
 obtain ⟨x,h1,h2⟩:=zrx hi;obtain ⟨y,g1,g2⟩:=zrx hj;constructor
 .rintro rfl;rw [h2] at g2;rw [h1,g1];exact g2
 intro h;rw [h1,g1] at h;simp only [tza] at h;subst h;exact yn1 (zsw List.nodup_nil) h2 g2
theorem zkt {l:List K} {i a:Nat} (hi:(zzp [] l).1[i]? =some a):a<(zzp [] l).2.length:=by
 obtain ⟨x,h1,h2⟩:=zrx hi;rcases tz9 a (zzp [] l).2.length with g | g
 .exact g
 rw [tzt g] at h2;cases h2
def dc:List K->Nat
 | []=>0
 | x::l=>dc l+(if x∈l then 0 else 1)
theorem xyw:∀ (l:List K),dc l<=l.length
 | []=>tzp _
 | x::l=>by
  have:=xyw l;simp only [dc,tzd];split<;>omega
theorem xyx:∀ {l A:List K},A.Nodup->(∀ x,x∈A↔x∈l)->A.length=dc l
 | [],A,_,h=>by
  cases A with
  | nil=>rfl
  | cons x A=>have:=(h x).1 (tz0 ..);cases this
 | x::l,A,hA,h=>by
  simp only [dc];by_cases hx:x∈l
  .rw [if_pos hx,Nat.add_zero]
   exact xyx hA (λy=>by
    simp_all)
  rw [if_neg hx];have hxA:x∈A:=(h x).2 (tz0 ..)
  have:=xyx (l:=l) (A:=A.erase x) (hA.erase _) (λy=>by
   grind)
  rw [List.length_erase_of_mem hxA] at this;have:=List.length_pos_of_mem hxA;omega
theorem zsx (l:List K):(zzp [] l).2.length=dc l:=xyx (zsw List.nodup_nil) (λx=>by rw [zrw];simp)
end
theorem zg2 {K L:Type} [DecidableEq K] [DecidableEq L] {f:Nat->K} {g:Nat->L}:∀ {I:List Nat},(∀ i∈I,∀ j∈I,f i=f j->g i=g j)->dc (I.map g)<=dc (I.map f)/\(dc (I.map g)=dc (I.map f)->∀ i∈I,∀ j∈I,g i=g j->f i=f j)
 | [],_=>⟨tzp _,λ_ i hi=>by cases hi⟩
 | i::I,h=>by
  obtain ⟨ih1,ih2⟩:=zg2 (I:=I) (λa ha b hb=>h a (tzq _ ha) b (tzq _ hb));have key:f i∈I.map f->g i∈I.map g:=(by grind);simp only [txe,dc];refine ⟨by split<;>split<;>first | omega | (rename_i a b;exact absurd (key b) a),λhe=>?_⟩;have hinc:(g i∈I.map g->f i∈I.map f)/\dc (I.map g)=dc (I.map f):=(by grind);have ih:=ih2 hinc.2;have one:∀ j∈I,g i=g j->f i=f j:=(by grind);intro a ha b hb e;rcases tzu.1 ha with e1 | ha
  .grind
  grind
end Go.Fsa
namespace Go.Fsa
def yn2 {K:Type} [DecidableEq K] (keys:List Nat->List K):Nat->Nat->List Nat->Option (List Nat)
 | 0,_,_=>none
 | F+1,cnt,cl=>if (zzp [] (keys cl)).2.length=cnt then some (zzp [] (keys cl)).1 else yn2 keys F (zzp [] (keys cl)).2.length (zzp [] (keys cl)).1
end Go.Fsa
namespace Go.Fsa
def dgt (d:Nat):Nat:=if d<10 then 48+d else 87+d
theorem yds (d:Nat):48<=dgt d:=by unfold dgt;split<;>omega
theorem yn3 {a b:Nat} (h:dgt a=dgt b):a=b:=by
 unfold dgt at h;split at h<;>split at h<;>omega
def dig:Nat->Nat->List Nat
 | 0,_=>[]
 | f+1,u=>if u<36 then [dgt u] else dig f (u / 36)++[dgt (u % 36)]
theorem xyy {f u:Nat} (h:¬u<36):dig (f+1) u=dig f (u / 36)++[dgt (u % 36)]:=by rw [dig,if_neg h]
theorem yn4 {f u:Nat} (h:u<36):dig (f+1) u=[dgt u]:=by rw [dig,if_pos h]
theorem zdn:∀ {f u x:Nat},x∈dig f u->48<=x
 | 0,u,x,h=>by simp [dig] at h
 | f+1,u,x,h=>by
  simp only [dig] at h;split at h
  .rw [tzw] at h;rw [h];exact yds _
  rw [tyh,tzw] at h;rcases h with h | h
  .exact zdn h
  rw [h];exact yds _
theorem zku:∀ {f u:Nat},(dig f u).length<=f
 | 0,u=>by simp [dig]
 | f+1,u=>by
  simp only [dig];split
  .simp
  have:=zku (f:=f) (u:=u / 36);simp;omega
theorem zdo {f u:Nat} (hf:0<f):dig f u≠[]:=by
 obtain ⟨f,rfl⟩:∃ k,f=k+1:=⟨f-1,by omega⟩;simp only [dig];split<;>simp
theorem za7:∀ {f u v:Nat},u<36 ^ f->v<36 ^ f->dig f u=dig f v->u=v
 | 0,u,v,hu,hv,_=>by simp at hu hv;omega
 | f+1,u,v,hu,hv,h=>by
  rw [Nat.pow_succ] at hu hv
  have pos:∀ w,¬w<36->w<36 ^ f*36->0<f:=λw h1 h2=>by
   grind
  simp only [dig] at h;split at h
  .split at h
   .simp only [tyi,and_true] at h;exact yn3 h
   rename_i h1 h2;have hl:=congrArg List.length h;have:=List.length_pos_iff.2 (zdo (u:=v / 36) (pos v h2 hv));simp only [tz5,tzd,tze] at hl;omega
  split at h
  .rename_i h1 h2;have hl:=congrArg List.length h;have:=List.length_pos_iff.2 (zdo (u:=u / 36) (pos u h1 hu));simp only [tz5,tzd,tze] at hl;omega
  .have h1:=List.append_inj' h rfl;have h2:=za7 (f:=f) (by omega) (by omega) h1.1;have h3:=h1.2;simp only [tyi,and_true] at h3;have h4:=yn3 h3;omega
def zsy (o:Option Nat):List Nat:=32::(o.map (dig 13)).getD []
def zkv (c:Nat) (l:List (Option Nat)):List Nat:=dig 13 c++(l.map zsy).flatten
theorem zdp {A A' R R':List Nat} (hA:∀ x∈A,x≠32) (hA':∀ x∈A',x≠32) (hR:∀ x t,R=x::t->x=32) (hR':∀ x t,R'=x::t->x=32) (h:A++R=A'++R'):A=A'/\R=R':=by
 induction A generalizing A' with
 | nil=>
  cases A' with
  | nil=>exact ⟨rfl,h⟩
  | cons y A'=>exact absurd (hR y _ h) (hA' y (tz0 ..))
 | cons x A ih=>
  cases A' with
  | nil=>exact absurd (hR' x _ h.symm) (hA x (tz0 ..))
  | cons y A'=>
   grind
theorem zp8 {l:List (Option Nat)} {x:Nat} {t:List Nat} (h:(l.map zsy).flatten=x::t):x=32:=by
 cases l with
 | nil=>simp at h
 | cons o l=>simp only [txe,List.flatten_cons,zsy,txo,tyi] at h;exact h.1.symm
theorem yy8:∀ {l l':List (Option Nat)},(∀ o∈l,∀ c,o=some c->c<36 ^ 13)->(∀ o∈l',∀ c,o=some c->c<36 ^ 13)->(l.map zsy).flatten=(l'.map zsy).flatten->l=l'
 | [],[],_,_,_=>rfl
 | [],o::l',_,_,h=>by simp [zsy] at h
 | o::l,[],_,_,h=>by simp [zsy] at h
 | o::l,o'::l',hl,hl',h=>by
  simp only [txe,List.flatten_cons,zsy,txo,tyi,true_and] at h
  have lo:∀ (o:Option Nat) x,x∈(o.map (dig 13)).getD []->x≠32:=by
   intro o x hx;cases o with
   | none=>simp at hx
   | some c=>have:=zdn (f:=13) (u:=c) (by simpa using hx);omega
  obtain ⟨h1,h2⟩:=zdp (lo o) (lo o') (λx t=>zp8) (λx t=>zp8) h;have h3:=yy8 (λo ho=>hl o (tzq _ ho)) (λo ho=>hl' o (tzq _ ho)) h2
  have h4:o=o':=by
   cases o with
   | none=>
    cases o' with
    | none=>rfl
    | some c=>exact absurd h1.symm (by simpa using zdo (f:=13) (u:=c) (by omega))
   | some c=>
    cases o' with
    | none=>exact absurd h1 (by simpa using zdo (f:=13) (u:=c) (by omega))
    | some c'=>
     simp only [tz2,tye] at h1;rw [za7 (hl _ (tz0 ..) c rfl) (hl' _ (tz0 ..) c' rfl) h1]
  rw [h3,h4]
theorem yn5 {c c':Nat} {l l':List (Option Nat)} (hc:c<36 ^ 13) (hc':c'<36 ^ 13) (hl:∀ o∈l,∀ c,o=some c->c<36 ^ 13) (hl':∀ o∈l',∀ c,o=some c->c<36 ^ 13) (h:zkv c l=zkv c' l'):c=c'/\l=l':=by
 obtain ⟨h1,h2⟩:=zdp (λx hx=>by have:=zdn hx;omega) (λx hx=>by have:=zdn hx;omega) (λx t=>zp8) (λx t=>zp8) h;exact ⟨za7 hc hc' h1,yy8 hl hl' h2⟩
theorem yg7 {c:Nat} {l:List (Option Nat)}:zkv c l≠[45]:=by
 intro h;unfold zkv at h;cases hd:dig 13 c with
 | nil=>exact zdo (by omega) hd
 | cons x t=>
  have h1:=zdn (f:=13) (u:=c) (x:=x) (by rw [hd];exact tz0 ..);rw [hd,txo,tyi] at h;omega
end Go.Fsa
namespace Go.Fsa
def zvs (lv:List Bool) (rows:List (List Int)) (cl:List Nat) (i:Nat):List Nat:=
 if lv[i]? =some true then zkv ((cl[i]?).getD 0) (((rows[i]?).getD []).map λt=>if 0<=t/\lv[t.toNat]? =some true then some ((cl[t.toNat]?).getD 0) else none) else [45]
theorem ydt {d:Nat} (h:d<36):dgt d<256:=by unfold dgt;split<;>omega
theorem yn6:∀ {f u x:Nat},x∈dig f u->x<256
 | 0,u,x,h=>by simp [dig] at h
 | f+1,u,x,h=>by
  simp only [dig] at h;split at h
  .rw [tzw] at h;rw [h];exact ydt ‹_›
  rw [tyh,tzw] at h;rcases h with h | h
  .exact yn6 h
  rw [h];exact ydt (Nat.mod_lt _ (by omega))
theorem xyz {o:Option Nat} {x:Nat} (h:x∈zsy o):x<256:=by
 unfold zsy at h;rcases tzu.1 h with h | h
 .omega
 cases o with
 | none=>cases h
 | some c=>exact yn6 h
theorem yg8 {c:Nat} {l:List (Option Nat)} {x:Nat} (h:x∈zkv c l):x<256:=by
 unfold zkv at h;rcases tyh.1 h with h | h
 .exact yn6 h
 obtain ⟨p,hp,hx⟩:=List.mem_flatten.1 h;obtain ⟨o,_,rfl⟩:=tyg.1 hp;exact xyz hx
theorem yg9 {o:Option Nat}:(zsy o).length<=14:=by
 unfold zsy;cases o with
 | none=>simp
 | some c=>have:=zku (f:=13) (u:=c);simp;omega
theorem yy9:∀ {l:List (Option Nat)},((l.map zsy).flatten).length<=14*l.length
 | []=>by simp
 | o::l=>by
  have h1:=yg9 (o:=o);have h2:=yy9 (l:=l);simp only [txe,List.flatten_cons,tz5,tzd];omega
end Go.Fsa
namespace Go.Fsa
theorem Aut.go_some {a:Aut} (hv:a.valid) {s:Int} (h0:0<=s) (h1:s<(a.nxt.length:Nat)) {c:Nat} (hc:(c:Int)<a.sy):∃ r,a.nxt[s.toNat]? =some r/\r[c]? =some (a.go s c):=by
 obtain ⟨r,hr⟩:∃ r,a.nxt[s.toNat]? =some r:=⟨_,tzb (by omega)⟩;have hl:=(hv.rows r (tzg hr)).1;obtain ⟨x,hx⟩:∃ x,r[c]? =some x:=⟨_,tzb (by omega)⟩;refine ⟨r,hr,?_⟩;rw [hx];simp [Aut.go,show ¬s<0 by omega,hr,hx]
theorem Aut.go_neg {a:Aut} {s:Int} (h:s<0) {c:Nat}:a.go s c=-1:=by simp [Aut.go,h]
def Aut.run (a:Aut):Int->List Int->Option Int
 | s,[]=>if s<0 then none else some s
 | s,c::w=>if c<0∨a.sy<=c then none else a.run (a.go s c.toNat) w
theorem Aut.run_neg {a:Aut}:∀ {w:List Int} {s:Int},s<0->a.run s w=none
 | [],s,h=>by simp [Aut.run,h]
 | c::w,s,h=>by
  simp only [Aut.run];split
  .rfl
  rw [Aut.go_neg h];exact Aut.run_neg (by omega)
def Aut.lead (a:Aut) (f:Int) (w:List Int):Option Int:=if a.check=0/\0<=f/\f<(a.nxt.length:Nat) then a.run f w else none
def Aut.accepts (a:Aut) (w:List Int):Bool:=match a.lead a.st w with
 | some s=>(a.acc[s.toNat]?).getD false
 | none=>false
theorem Aut.check_valid {a:Aut}:a.check=0↔a.valid:=by
 unfold Aut.check;split
 .rename_i h;exact ⟨λ_=>h,λ_=>rfl⟩
 .simp_all
theorem Aut.run_dom {a:Aut} (hv:a.valid):∀ {w:List Int} {s t:Int},a.dom s->a.run s w=some t->0<=t/\t<(a.nxt.length:Nat)
 | [],s,t,hd,h=>by
  simp only [Aut.run] at h;split at h
  .cases h
  cases h;exact ⟨by omega,hd.2⟩
 | c::w,s,t,hd,h=>by
  simp only [Aut.run] at h;split at h
  .cases h
  exact Aut.run_dom hv (Aut.go_dom hv) h
theorem Aut.run_word {a:Aut}:∀ {w:List Int} {s:Int},(w.any λx=>decide (x<0∨a.sy<=x))=true->a.run s w=none
 | [],s,h=>by simp at h
 | c::w,s,h=>by
  rw [List.any_cons,Bool.or_eq_true,decide_eq_true_eq] at h;simp only [Aut.run];split
  .rfl
  rename_i hc;rcases h with h | h
  .exact absurd h hc
  exact Aut.run_word h
end Go.Fsa
namespace Go.Fsa
section
variable {K:Type} [DecidableEq K]
def zsz:List K->List (Option K)->List Int×List K
 | ks,[]=>([],ks)
 | ks,none::l=>(-1::(zsz ks l).1,(zsz ks l).2)
 | ks,some k::l=>((zwe ks k:Int)::(zsz (zrv ks k) l).1,(zsz (zrv ks k) l).2)
theorem zg3:∀ {l:List (Option K)} {ks:List K},(zsz ks l).1.length=l.length
 | [],ks=>rfl
 | none::l,ks=>by simp only [zsz,tzd,zg3]
 | some k::l,ks=>by simp only [zsz,tzd,zg3]
theorem zq1:∀ {l:List (Option K)} {ks:List K},ks <+: (zsz ks l).2
 | [],ks=>List.prefix_refl _
 | none::l,ks=>zq1 (l:=l)
 | some k::l,ks=>zks.trans (zq1 (l:=l) (ks:=zrv ks k))
theorem znc:∀ {l:List (Option K)} {ks:List K},ks.Nodup->(zsz ks l).2.Nodup
 | [],ks,h=>h
 | none::l,ks,h=>znc (l:=l) h
 | some k::l,ks,h=>znc (l:=l) (zhk h)
theorem zg4:∀ {l:List (Option K)} {ks:List K} {i:Nat} {k:K},l[i]? =some (some k)->∃ n:Nat,(zsz ks l).1[i]? =some (n:Int)/\(zsz ks l).2[n]? =some k
 | [],ks,i,k,h=>by simp at h
 | none::l,ks,0,k,h=>by simp at h
 | none::l,ks,i+1,k,h=>by
  simp only [txr] at h;obtain ⟨n,h1,h2⟩:=zg4 (ks:=ks) h;exact ⟨n,by simpa [zsz] using h1,h2⟩
 | some x::l,ks,0,k,h=>by
  simp only [txp,tza] at h;subst h;exact ⟨zwe ks x,rfl,zhl (zq1 (l:=l)) yy7⟩
 | some x::l,ks,i+1,k,h=>by
  simp only [txr] at h;obtain ⟨n,h1,h2⟩:=zg4 (ks:=zrv ks x) h;exact ⟨n,by simpa [zsz] using h1,h2⟩
theorem zkw:∀ {l:List (Option K)} {ks:List K} {i:Nat},l[i]? =some none->(zsz ks l).1[i]? =some (-1)
 | [],ks,i,h=>by simp at h
 | none::l,ks,0,h=>rfl
 | none::l,ks,i+1,h=>by
  simp only [txr] at h;show (zsz ks l).1[i]? =_;exact zkw h
 | some x::l,ks,0,h=>by simp at h
 | some x::l,ks,i+1,h=>by
  simp only [txr] at h;show (zsz (zrv ks x) l).1[i]? =_;exact zkw h
end
end Go.Fsa
namespace Go.Fsa
section
variable {K:Type} [DecidableEq K]
theorem zu1:∀ {l:List (Option K)} {ks:List K},zsz ks (l++[none])=((zsz ks l).1++[-1],(zsz ks l).2)
 | [],ks=>rfl
 | none::l,ks=>by simp only [txo,zsz,zu1 (l:=l)]
 | some k::l,ks=>by simp only [txo,zsz,zu1 (l:=l)]
theorem zkx:∀ {l:List (Option K)} {ks:List K} {k:K},zsz ks (l++[some k])=((zsz ks l).1++[(zwe (zsz ks l).2 k:Int)],zrv (zsz ks l).2 k)
 | [],ks,k=>rfl
 | none::l,ks,k=>by simp only [txo,zsz,zkx (l:=l)]
 | some x::l,ks,k=>by simp only [txo,zsz,zkx (l:=l)]
theorem yxa {x k:K} {ks:List K}:zwe (x::ks) k=if k=x then 0 else zwe ks k+1:=by
 unfold zwe;rw [List.findIdx?_cons];by_cases h:k=x
 .simp [h]
 simp_all
theorem zg5:∀ {ks:List K} {k:K} {m:Nat},ks[m]? =some k->(∀ j,j<m->ks[j]?≠some k)->zwe ks k=m
 | [],k,m,h,_=>by simp at h
 | x::ks,k,0,h,_=>by
  simp only [txp,tza] at h;rw [yxa,if_pos h.symm]
 | x::ks,k,m+1,h,g=>by
  simp only [txr] at h;have h0:=g 0 (Nat.succ_pos _);simp only [txp,ne_eq,tza] at h0
  rw [yxa,if_neg (λe=>h0 e.symm),zg5 h λj hj=>by
   grind]
theorem znd {ks:List K} {k:K} (h:k∈ks):zwe ks k<ks.length:=by
 have:=zkr h;rcases tz9 (zwe ks k) ks.length with g | g
 .exact g
 simp_all
end
end Go.Fsa
namespace Go.Fsa
open Classical in
def Aut.liveL (a:Aut):List Bool:=(List.range a.acc.length).map λi=>decide (Live a.acc a.nxt i)
theorem Aut.liveL_len {a:Aut}:a.liveL.length=a.acc.length:=by simp [Aut.liveL]
theorem Aut.liveL_get {a:Aut} {i:Nat}:a.liveL[i]? =some true↔i<a.acc.length/\Live a.acc a.nxt i:=by
 unfold Aut.liveL;rw [tzr,tzf];constructor
 .grind
 simp_all
def xn9 (l:List Bool):Nat:=l.count false
structure LiveI (a:Aut) (is:List Bool):Prop where
 len:is.length=a.acc.length
 acc:∀ i:Nat,a.acc[i]? =some true->is[i]? =some true
 ok:∀ i:Nat,is[i]? =some true->Live a.acc a.nxt i
def xjm (a:Aut) (is:List Bool) (i k:Nat):Prop:=∀ r c t,a.nxt[i]? =some r->c<k->r[c]? =some t->0<=t->is[t.toNat]?≠some true
theorem LiveI.add {a:Aut} {is:List Bool} (h:LiveI a is) {i:Nat} (hl:Live a.acc a.nxt i):LiveI a (is.set i true):=by
 refine ⟨by rw [tz3];exact h.len,λj hj=>?_,λj hj=>?_⟩
 .rw [tya];have:=h.acc j hj;split
  .grind
  exact this
 rw [tya] at hj;split at hj
 .rename_i e;subst e;exact hl
 .exact h.ok j hj
end Go.Fsa
namespace Go.Fsa
def xsu (cl:List Int) (t:Int):Int:=if 0<=t then (cl[t.toNat]?).getD 0 else -1
def Aut.keyC (a:Aut) (cl:List Int) (i:Nat):List Int:=(cl[i]?).getD 0::((a.nxt[i]?).getD []).map (xsu cl)
def Aut.keysC (a:Aut) (cl:List Int):List (Option (List Int)):=(List.range a.acc.length).map λi=>if (cl[i]?).getD 0<0 then none else some (a.keyC cl i)
def Aut.iterC (a:Aut):Nat->Nat->List Int->Option (List Int)
 | 0,_,_=>none
 | F+1,cnt,cl=>if (zsz [] (a.keysC cl)).2.length=cnt then some (zsz [] (a.keysC cl)).1 else a.iterC F (zsz [] (a.keysC cl)).2.length (zsz [] (a.keysC cl)).1
def Cl0 (a:Aut):List Int:=(List.range a.acc.length).map λi=>if a.liveL[i]? =some true then (if a.acc[i]? =some true then 1 else 0) else -1
end Go.Fsa
namespace Go.Fsa
theorem zxr {α:Type} {A B:List α} (h:A <+: B) {i:Nat} {x:α} (hx:A[i]? =some x):B[i]? =some x:=by
 obtain ⟨t,rfl⟩:=h;have:i<A.length:=(by grind);rw [tzs this];exact hx
inductive All2 {α β:Type} (R:α->β->Prop):List α->List β->Prop
 | nil:All2 R [] []
 | cons {a:α} {b:β} {l:List α} {m:List β}:R a b->All2 R l m->All2 R (a::l) (b::m)
theorem All2.length {α β:Type} {R:α->β->Prop}:∀ {l:List α} {m:List β},All2 R l m->l.length=m.length
 | _,_,.nil=>rfl
 | _,_,.cons _ h=>by simp [h.length]
theorem All2.append {α β:Type} {R:α->β->Prop} {l':List α} {m':List β} (h':All2 R l' m'):∀ {l:List α} {m:List β},All2 R l m->All2 R (l++l') (m++m')
 | _,_,.nil=>h'
 | _,_,.cons a h=>.cons a (All2.append h' h)
theorem All2.get {α β:Type} {R:α->β->Prop}:∀ {l:List α} {m:List β} {i:Nat} {a:α},All2 R l m->l[i]? =some a->∃ b,m[i]? =some b/\R a b
 | _,_,i,a,.nil,h=>by simp at h
 | _,_,0,a,.cons r h,e=>by
  simp_all
 | _,_,i+1,a,.cons r h,e=>by
  simp only [txr] at e;obtain ⟨b,h1,h2⟩:=h.get e;exact ⟨b,by simpa using h1,h2⟩
section
variable {S K:Type} [DecidableEq K]
def addS (key:S->K):List S->List (Option S)->List S
 | qs,[]=>qs
 | qs,none::l=>addS key qs l
 | qs,some s::l=>addS key (if key s∈qs.map key then qs else qs++[s]) l
def za8 (key:S->K) (qs:List S) (l:List (Option S)):List Int:=(zsz (qs.map key) (l.map (Option.map key))).1
def exR (key:S->K) (succ:S->List (Option S)) (most:Nat):Nat->Nat->List S->Option (List S×List (List Int))
 | 0,_,_=>none
 | F+1,i,qs=>match qs[i]? with
  | none=>some (qs,[])
  | some s=>if most<(addS key qs (succ s)).length then none else
   (exR key succ most F (i+1) (addS key qs (succ s))).map λr=>(r.1,za8 key qs (succ s)::r.2)
variable {key:S->K} {succ:S->List (Option S)} {most:Nat}
theorem yfa {qs:List S} {s:S}:(if key s∈qs.map key then qs else qs++[s]).map key=zrv (qs.map key) (key s):=by
 unfold zrv;split<;>simp
theorem zp9:∀ {l:List (Option S)} {qs:List S},(addS key qs l).map key=(zsz (qs.map key) (l.map (Option.map key))).2
 | [],qs=>rfl
 | none::l,qs=>zp9 (l:=l)
 | some s::l,qs=>by
  show (addS key _ l).map key=_;rw [zp9 (l:=l),yfa];rfl
theorem zxg:∀ {l:List (Option S)} {qs:List S},qs <+: addS key qs l
 | [],qs=>List.prefix_refl _
 | none::l,qs=>zxg (l:=l)
 | some s::l,qs=>by
  refine List.IsPrefix.trans ?_ (zxg (l:=l));split
  .exact List.prefix_refl _
  exact List.prefix_append _ _
theorem zry {dom:S->Prop}:∀ {l:List (Option S)} {qs:List S},(∀ s∈qs,dom s)->(∀ s,some s∈l->dom s)->∀ s∈addS key qs l,dom s
 | [],qs,h,_=>h
 | none::l,qs,h,k=>zry (l:=l) h λs hs=>k s (tzq _ hs)
 | some t::l,qs,h,k=>by
  refine zry (l:=l) ?_ λs hs=>k s (tzq _ hs);split
  .exact h
  .grind
theorem zhm {l:List (Option S)} {qs:List S} (h:(qs.map key).Nodup):((addS key qs l).map key).Nodup:=by
 rw [zp9];exact znc h
theorem zg6 {l:List (Option S)} {qs:List S}:(za8 key qs l).length=l.length:=by
 unfold za8;rw [zg3,tyk]
theorem zoa {dom:S->Prop} {N:Nat} (hd:∀ s,dom s->∀ t,some t∈succ s->dom t) (hb:∀ qs:List S,(∀ s∈qs,dom s)->(qs.map key).Nodup->qs.length<=N) (hN:N<=most) :
  ∀ {F i:Nat} {qs:List S},(∀ s∈qs,dom s)->(qs.map key).Nodup->N<F+i->i<=qs.length->∃ r,exR key succ most F i qs=some r
 | 0,i,qs,h1,h2,h3,h4=>by have:=hb qs h1 h2;omega
 | F+1,i,qs,h1,h2,h3,h4=>by
  simp only [exR]
  cases hq:qs[i]? with
  | none=>exact ⟨_,rfl⟩
  | some s=>
   have hs:s∈qs:=tzg hq
   have g1:=zry (key:=key) h1 (hd s (h1 s hs))
   have g2:=zhm (l:=succ s) h2
   have hl:=hb _ g1 g2
   have hi:i<qs.length:=by
    grind
   have hp:=(zxg (key:=key) (l:=succ s) (qs:=qs)).length_le
   obtain ⟨r,hr⟩:=zoa hd hb hN (F:=F) (i:=i+1) g1 g2 (by omega) (by omega)
   simp only
   rw [if_neg (by omega),hr]
   exact ⟨_,rfl⟩
theorem zob:∀ {F i:Nat} {qs:List S} {r:List S×List (List Int)},exR key succ most F i qs=some r->qs <+: r.1/\(i<=qs.length->i+r.2.length=r.1.length) /\
   ∀ (j:Nat) s,r.1[i+j]? =some s->i<=qs.length->∃ row,r.2[j]? =some row/\row.length=(succ s).length/\(∀ k:Nat,(succ s)[k]? =some none->row[k]? =some (-1))/\∀ (k:Nat) t,(succ s)[k]? =some (some t)->∃ (n:Nat) (t':S),row[k]? =some (n:Int)/\r.1[n]? =some t'/\key t'=key t
 | 0,i,qs,r,h=>by simp [exR] at h
 | F+1,i,qs,r,h=>by
  simp only [exR] at h
  cases hq:qs[i]? with
  | none=>
   grind
  | some s=>
   rw [hq] at h
   simp only at h
   split at h
   .cases h
   obtain ⟨r',hr',rfl⟩:=tzf.1 h
   obtain ⟨g1,g2,g3⟩:=zob hr'
   have hi:i<qs.length:=by
    grind
   have hp:=zxg (key:=key) (l:=succ s) (qs:=qs)
   have hpl:=hp.length_le
   refine ⟨hp.trans g1,λ_=>by have:=g2 (by omega);simp only [tzd];omega,λj s' hs' _=>?_⟩
   cases j with
   | zero=>
    have e:=zxr (hp.trans g1) hq
    simp only [Nat.add_zero] at hs'
    rw [e,tza] at hs'
    subst hs'
    refine ⟨_,rfl,zg6,λk hk=>?_,λk t hk=>?_⟩
    .exact zkw (by rw [tzr,hk];rfl)
    .obtain ⟨n,h1,h2⟩:=zg4 (ks:=qs.map key) (show ((succ s).map (Option.map key))[k]? =some (some (key t)) by rw [tzr,hk];rfl)
     rw [<-zp9,tzr] at h2
     obtain ⟨t',h3,h4⟩:=tzf.1 h2
     exact ⟨n,t',h1,zxr g1 h3,h4⟩
   | succ j=>
    grind
theorem zne {dom:S->Prop} (hd:∀ s,dom s->∀ t,some t∈succ s->dom t):∀ {F i:Nat} {qs:List S} {r:List S×List (List Int)},(∀ s∈qs,dom s)->(qs.map key).Nodup->exR key succ most F i qs=some r->(∀ s∈r.1,dom s)/\(r.1.map key).Nodup
 | 0,i,qs,r,_,_,h=>by simp [exR] at h
 | F+1,i,qs,r,h1,h2,h=>by
  simp only [exR] at h;cases hq:qs[i]? with
  | none=>
   grind
  | some s=>
   rw [hq] at h;simp only at h;split at h
   .cases h
   obtain ⟨r',hr',rfl⟩:=tzf.1 h;have:=zne hd (F:=F) (i:=i+1) (zry (key:=key) h1 (hd s (h1 s (tzg hq)))) (zhm h2) hr';exact this
end
def OR2 {α β:Type} (R:α->β->Prop):Option α->Option β->Prop
 | none,none=>True
 | some a,some b=>R a b
 | _,_=>False
section
variable {K:Type} [DecidableEq K]
end
section
variable {S S' K K':Type} [DecidableEq K] [DecidableEq K'] {key:S->K} {key':S'->K'} {R:S->S'->Prop}
end
end Go.Fsa
namespace Go.Fsa
section
variable {K:Type} [DecidableEq K]
theorem zq2 {ks:List K} {k:K} (h:k∈ks):(ks.findIdx? λy=>decide (k=y))=some (zwe ks k):=by
 unfold zwe;cases hf:ks.findIdx? λy=>decide (k=y) with
 | none=>
  grind
 | some i=>rfl
theorem zoc {ks:List K} {k:K} (h:k∉ks):(ks.findIdx? λy=>decide (k=y))=none:=by
 grind
end
section
variable {S K:Type} [DecidableEq K] {key:S->K} {succ:S->List (Option S)} {most:Nat}
theorem zrz:∀ {F i:Nat} {qs:List S} {r:List S×List (List Int)},exR key succ most F i qs=some r->∀ d,exR key succ most (F+d) i qs=some r
 | 0,i,qs,r,h,d=>by simp [exR] at h
 | F+1,i,qs,r,h,d=>by
  rw [show F+1+d=(F+d)+1 by omega];simp only [exR] at h ⊢;cases hq:qs[i]? with
  | none=>rw [hq] at h;exact h
  | some s=>
   rw [hq] at h;simp only at h ⊢;split at h
   .cases h
   rename_i hm;rw [if_neg hm];obtain ⟨r',hr',rfl⟩:=tzf.1 h;rw [zrz hr' d];rfl
end
end Go.Fsa
namespace Go.Fsa
structure Aut.fine (a:Aut):Prop where
 len:a.nxt.length=a.acc.length
 rows:∀ r∈a.nxt,zdl a.sy a.acc.length r
theorem Aut.valid.fine {a:Aut} (h:a.valid):a.fine:=⟨h.len,h.rows⟩
def Aut.accW (a:Aut):Int->List Nat->Bool
 | s,[]=>a.accB s
 | s,c::w=>a.accW (a.go s c) w
theorem Aut.accW_neg {a:Aut}:∀ {w:List Nat} {s:Int},s<0->a.accW s w=false
 | [],s,h=>by simp [Aut.accW,Aut.accB,show ¬0<=s by omega]
 | c::w,s,h=>by
  simp only [Aut.accW];rw [Aut.go_neg h];exact Aut.accW_neg (by omega)
theorem zzy {α:Type} {l:List α} {i:Nat} {x:α} (h:l[i]? =some x):i<l.length:=by
 grind
theorem Aut.go_fine {a:Aut} (hv:a.fine) {x:Int} {c:Nat}:-1<=a.go x c/\a.go x c<(a.acc.length:Nat):=by
 unfold Aut.go;split
 .exact ⟨by omega,by omega⟩
 cases h1:a.nxt[x.toNat]? with
 | none=>exact ⟨by simp,by simp;omega⟩
 | some r=>
  cases h2:r[c]? with
  | none=>simp only [tzn,h2];exact ⟨by simp,by simp;omega⟩
  | some t=>
   simp only [tzn,h2,tye];have:=(hv.rows r (tzg h1)).2 t (tzg h2);exact ⟨by omega,by omega⟩
theorem Aut.go_big {a:Aut} (hv:a.fine) {i:Nat} {c:Nat} (h:a.sy<=c):a.go i c=-1:=by
 unfold Aut.go;rw [if_neg (by omega),tym];cases h1:a.nxt[i]? with
 | none=>rfl
 | some r=>
  have:=(hv.rows r (tzg h1)).1;simp only [tzn];rw [tzt (by omega)];rfl
theorem Aut.go_row {a:Aut} {i:Nat} {r:List Int} (h:a.nxt[i]? =some r) {c:Nat} {t:Int} (ht:r[c]? =some t):a.go i c=t:=by
 unfold Aut.go;rw [if_neg (by omega),tym,h];simp [ht]
theorem Aut.live_word {a:Aut} (hv:a.fine) {i:Nat} (h:Live a.acc a.nxt i):∃ w,a.accW i w=true:=by
 induction h with
 | acc h=>exact ⟨[],by simp [Aut.accW,Aut.accB,h]⟩
 | @step s t r h1 h2 _ ih=>
  obtain ⟨w,hw⟩:=ih;obtain ⟨c,hc,he⟩:=tyn h2;refine ⟨c::w,?_⟩;simp only [Aut.accW];rw [Aut.go_row h1 (show r[c]? =some (t:Int) by rw [tzb hc,he])];exact hw
theorem Aut.word_live {a:Aut} (hv:a.fine):∀ {w:List Nat} {i:Nat},a.accW i w=true->Live a.acc a.nxt i
 | [],i,h=>by
  simp only [Aut.accW,Aut.accB,tzc,tym] at h;cases hi:a.acc[i]? with
  | none=>rw [hi] at h;simp at h
  | some b=>
   rw [hi] at h;refine .acc (hi.trans ?_);simpa using h.2
 | c::w,i,h=>by
  simp only [Aut.accW] at h;by_cases hn:a.go i c<0
  .rw [Aut.accW_neg hn] at h;cases h
  obtain ⟨t,ht⟩:∃ t:Nat,a.go i c=t:=⟨(a.go i c).toNat,by omega⟩;rw [ht] at h;have hl:=Aut.word_live hv h;unfold Aut.go at ht;rw [if_neg (by omega),tym] at ht;cases h1:a.nxt[i]? with
  | none=>rw [h1] at ht;simp at ht<;>omega
  | some r=>
   rw [h1] at ht;simp only [tzn] at ht;cases h2:r[c]? with
   | none=>rw [h2] at ht;simp at ht<;>omega
   | some x=>
    rw [h2] at ht;simp only [tye] at ht;subst ht;exact .step h1 (tzg h2) hl
theorem Aut.live_iff {a:Aut} (hv:a.fine) {i:Nat}:Live a.acc a.nxt i↔∃ w,a.accW i w=true:=⟨Aut.live_word hv,λ⟨_,h⟩=>Aut.word_live hv h⟩
def Aut.nx (a:Aut) (c:Nat->Option Nat) (i k:Nat):Option Nat:=if a.go i k<0 then none else c (a.go i k).toNat
abbrev Aut.lv (a:Aut) (i:Nat):Prop:=Live a.acc a.nxt i
structure CInv (a:Aut) (c:Nat->Option Nat):Prop where
 dead:∀ i,i<a.acc.length->(c i=none↔¬a.lv i)
 same:∀ i j,i<a.acc.length->j<a.acc.length->a.lv i->a.lv j->(∀ w,a.accW i w=a.accW j w)->c i=c j
 acc:∀ i j,i<a.acc.length->j<a.acc.length->a.lv i->a.lv j->c i=c j->a.accB i=a.accB j
structure CRound (a:Aut) (c c':Nat->Option Nat):Prop where
 dead:∀ i,i<a.acc.length->(c' i=none↔¬a.lv i)
 iff:∀ i j,i<a.acc.length->j<a.acc.length->a.lv i->a.lv j->(c' i=c' j↔c i=c j/\∀ k:Nat,(k:Int)<a.sy->a.nx c i k=a.nx c j k)
theorem CInv.nx_none {a:Aut} (hv:a.fine) {c:Nat->Option Nat} (h:CInv a c) {i k:Nat}:a.nx c i k=none↔∀ w,a.accW (a.go i k) w=false:=by
 unfold Aut.nx;split
 .rename_i hn;exact ⟨λ_ w=>Aut.accW_neg hn,λ_=>rfl⟩
 rename_i hn;have hg:=Aut.go_fine hv (x:=i) (c:=k);rw [h.dead _ (by omega),show a.lv (a.go i k).toNat↔_ from Aut.live_iff hv,show ((a.go i k).toNat:Int)=a.go i k by omega];simp
theorem CInv.nx_same {a:Aut} (hv:a.fine) {c:Nat->Option Nat} (h:CInv a c) {i j k:Nat} (hw:∀ w,a.accW (a.go i k) w=a.accW (a.go j k) w):a.nx c i k=a.nx c j k:=by
 cases hi:a.nx c i k with
 | none=>
  rw [(h.nx_none hv).1 |> λf=>(h.nx_none hv (i:=j) (k:=k)).2 λw=>by rw [<-hw];exact f hi w]
 | some x=>
  cases hj:a.nx c j k with
  | none=>
   rw [(h.nx_none hv).2 λw=>by rw [hw];exact (h.nx_none hv).1 hj w] at hi;cases hi
  | some y=>
   have gi:=Aut.go_fine hv (x:=i) (c:=k);have gj:=Aut.go_fine hv (x:=j) (c:=k);unfold Aut.nx at hi hj;split at hi
   .cases hi
   split at hj
   .cases hj
   rename_i n1 n2;have l1:a.lv (a.go i k).toNat:=txd λhn=>by rw [(h.dead _ (by omega)).2 hn] at hi;cases hi
   have l2:a.lv (a.go j k).toNat:=txd λhn=>by rw [(h.dead _ (by omega)).2 hn] at hj;cases hj
   rw [<-hi,<-hj]
   exact h.same _ _ (by omega) (by omega) l1 l2 λw=>by
    grind
theorem CInv.round {a:Aut} (hv:a.fine) {c c':Nat->Option Nat} (h:CInv a c) (r:CRound a c c'):CInv a c' where
 dead:=r.dead
 same i j hi hj li lj hw:=(r.iff i j hi hj li lj).2 ⟨h.same i j hi hj li lj hw,λk _=>h.nx_same hv λw=>hw (k::w)⟩
 acc i j hi hj li lj e:=h.acc i j hi hj li lj ((r.iff i j hi hj li lj).1 e).1
theorem CInv.stable {a:Aut} (hv:a.fine) {c c':Nat->Option Nat} (h:CInv a c) (r:CRound a c c') (st:∀ i j,i<a.acc.length->j<a.acc.length->a.lv i->a.lv j->c i=c j->c' i=c' j) :
  ∀ (w:List Nat) (i j:Nat),i<a.acc.length->j<a.acc.length->a.lv i->a.lv j->c i=c j->a.accW i w=a.accW j w
 | [],i,j,hi,hj,li,lj,e=>h.acc i j hi hj li lj e
 | k::w,i,j,hi,hj,li,lj,e=>by
  simp only [Aut.accW]
  by_cases hk:(k:Int)<a.sy
  .have hn:=((r.iff i j hi hj li lj).1 (st i j hi hj li lj e)).2 k hk
   cases h1:a.nx c i k with
   | none=>
    rw [h1] at hn
    rw [(h.nx_none hv).1 h1 w,(h.nx_none hv).1 hn.symm w]
   | some x=>
    rw [h1] at hn
    have gi:=Aut.go_fine hv (x:=i) (c:=k)
    have gj:=Aut.go_fine hv (x:=j) (c:=k)
    have hn':=hn.symm
    unfold Aut.nx at h1 hn'
    split at h1
    .cases h1
    split at hn'
    .cases hn'
    rename_i n1 n2
    have l1:a.lv (a.go i k).toNat:=txd λhn=>by rw [(h.dead _ (by omega)).2 hn] at h1;cases h1
    have l2:a.lv (a.go j k).toNat:=txd λhn=>by rw [(h.dead _ (by omega)).2 hn] at hn';cases hn'
    have:=CInv.stable hv h r st w _ _ (by omega) (by omega) l1 l2 (h1.trans hn'.symm)
    rw [show ((a.go i k).toNat:Int)=a.go i k by omega,show ((a.go j k).toNat:Int)=a.go j k by omega] at this
    exact this
  .rw [Aut.go_big hv (by omega),Aut.go_big hv (by omega)]
structure CGood (a:Aut) (c:Nat->Option Nat):Prop where
 dead:∀ i,i<a.acc.length->(c i=none↔¬a.lv i)
 iff:∀ i j,i<a.acc.length->j<a.acc.length->a.lv i->a.lv j->(c i=c j↔∀ w,a.accW i w=a.accW j w)
theorem CInv.good {a:Aut} (hv:a.fine) {c c':Nat->Option Nat} (h:CInv a c) (r:CRound a c c') (st:∀ i j,i<a.acc.length->j<a.acc.length->a.lv i->a.lv j->c i=c j->c' i=c' j):CGood a c' where
 dead:=r.dead
 iff i j hi hj li lj:=⟨λe w=>h.stable hv r st w i j hi hj li lj ((r.iff i j hi hj li lj).1 e).1,(h.round hv r).same i j hi hj li lj⟩
def cO (cl:List Int) (i:Nat):Option Nat:=(cl[i]?).bind λx=>if x<0 then none else some x.toNat
theorem yxb {a:Aut} (hv:a.fine) {i:Nat} (hi:i<a.acc.length):∃ r,a.nxt[i]? =some r/\(r.length:Int)=a.sy/\∀ k:Nat,(k:Int)<a.sy->r[k]? =some (a.go i k):=by
 obtain ⟨r,hr⟩:∃ r,a.nxt[i]? =some r:=⟨_,tzb (by rw [hv.len];exact hi)⟩;have hl:=(hv.rows r (tzg hr)).1;refine ⟨r,hr,hl,λk hk=>?_⟩;obtain ⟨t,ht⟩:∃ t,r[k]? =some t:=⟨_,tzb (by omega)⟩;rw [ht,Aut.go_row hr ht]
structure ROk (a:Aut) (cl:List Int):Prop where
 len:cl.length=a.acc.length
 lo:∀ x∈cl,-1<=x
 inv:CInv a (cO cl)
open Classical in
def Aut.lives (a:Aut):List Nat:=(List.range a.acc.length).filter λi=>decide (a.lv i)
theorem zg7 {K L:Type} [DecidableEq K] [DecidableEq L] {f:Nat->K} {g:Nat->L} {I:List Nat} (h:∀ i∈I,∀ j∈I,(f i=f j↔g i=g j)):dc (I.map f)=dc (I.map g):=
 Nat.le_antisymm (zg2 λi hi j hj e=>(h i hi j hj).2 e).1 (zg2 λi hi j hj e=>(h i hi j hj).1 e).1
end Go.Fsa
namespace Go.Fsa
section
variable {S K:Type} [DecidableEq K] {key:S->K}
theorem zr0:∀ {l m:List (Option S)} {qs:List S},addS key qs (l++m)=addS key (addS key qs l) m
 | [],m,qs=>rfl
 | none::l,m,qs=>zr0 (l:=l)
 | some s::l,m,qs=>zr0 (l:=l)
theorem zdq {l:List (Option S)} {qs:List S}:za8 key qs (l++[none])=za8 key qs l++[-1]:=by
 unfold za8;rw [txk];show (zsz _ (_++[none])).1=_;rw [zu1]
theorem zod {l:List (Option S)} {qs:List S} {s:S}:za8 key qs (l++[some s])=za8 key qs l++[(zwe ((addS key qs l).map key) (key s):Int)]:=by
 unfold za8;rw [txk];show (zsz _ (_++[some (key s)])).1=_;rw [zkx,zp9]
theorem zdr {l:List (Option S)} {qs:List S}:addS key qs (l++[none])=addS key qs l:=by rw [zr0];rfl
theorem ztc {l:List (Option S)} {qs:List S} {s:S}:addS key qs (l++[some s])=if key s∈(addS key qs l).map key then addS key qs l else addS key qs l++[s]:=by rw [zr0];rfl
end
section
variable {K:Type} [DecidableEq K]
theorem yxc {ks m:List K} {k:K} (h:k∈ks):zwe (ks++m) k=zwe ks k:=by
 induction ks with
 | nil=>cases h
 | cons x ks ih=>
  rw [txo,yxa,yxa];split
  .rfl
  simp_all
end
structure NumT (n:Nat) (num:List Int) (ks:List Int):Prop where
 len:num.length=n
 get:∀ c:Nat,c<n->num[c]? =some (if (c:Int)∈ks then (zwe ks c:Int) else -1)
theorem NumT.add {n:Nat} {num ks:List Int} (h:NumT n num ks) {c:Nat} (hc:c<n) (hn:(c:Int)∉ks):NumT n (num.set c (ks.length:Int)) (ks++[(c:Int)]):=by
 refine ⟨by rw [tz3];exact h.len,λd hd=>?_⟩;by_cases e:d=c
 .subst e;rw [tz1 (by rw [h.len];exact hc),if_pos (by simp)];congr 2;rw [zg5 (m:=ks.length)]
  .simp
  grind
 rw [tz4 (λe'=>e e'.symm),h.get d hd];congr 1;by_cases m:(d:Int)∈ks
 .rw [if_pos m,if_pos (txf _ m),yxc m]
 .grind
theorem NumT.one {n:Nat} {c:Nat} (hc:c<n):NumT n ((List.replicate n (-1)).set c 0) [(c:Int)]:=by
 have h:NumT n (List.replicate n (-1)) []:=⟨by simp,λd hd=>by rw [tyq,if_pos hd];simp⟩;exact h.add hc (by simp)
def Aut.succR (a:Aut) (cl:List Int) (s:Int):List (Option Int):=(List.range a.sy.toNat).map λk=>if xsu cl (a.go s k)<0 then none else some (a.go s k)
end Go.Fsa
namespace Go.Fsa
def Aut.cls (a:Aut):List Int:=(a.iterC (a.acc.length+1) 0 (Cl0 a)).getD []
abbrev Aut.domR (a:Aut) (u:Int):Prop:=0<=u/\u<(a.acc.length:Nat)/\0<=xsu a.cls u
def Aut.exC (a:Aut):List Int×List (List Int):=(exR (xsu a.cls) (a.succR a.cls) 20001 (a.acc.length+1) 0 [a.begin]).getD ([],[])
def Aut.can (a:Aut):Aut:=if xsu a.cls a.begin<0 then ⟨a.sy,0,[],[]⟩ else ⟨a.sy,0,a.exC.1.map a.accB,a.exC.2⟩
def Aut.canon (a:Aut):Aut×Int:=if a.valid then (a.can,0) else (⟨0,0,[],[]⟩,60)
end Go.Fsa
namespace Go.Fsa
def Aut.isCanon (a:Aut):Bool:=decide (a.canon.2=0)&&decide (a.sy=a.canon.1.sy/\a.st=a.canon.1.st/\a.acc=a.canon.1.acc/\a.nxt=a.canon.1.nxt)
end Go.Fsa
namespace Go.Fsa
def Aut.succW (a:Aut) (s:Int):List (Option Int):=(List.range a.sy.toNat).map λk=>some (a.go s k)
theorem zky {a:Aut} {s:Int}:(a.succW s).length=a.sy.toNat:=by simp [Aut.succW]
theorem yn7 {a:Aut} {s:Int} {c:Nat} {o:Option Int} (h:(a.succW s)[c]? =some o):o=some (a.go s c)/\(c:Int)<a.sy:=by
 have hc:=zzy h;rw [zky] at hc;unfold Aut.succW at h;rw [tzr,tz7 hc] at h;simp only [tz2,tza] at h;exact ⟨h.symm,by omega⟩
theorem zuf {a:Aut} (hv:a.valid):a.dom a.begin:=by
 unfold Aut.begin Aut.dom;have:=hv.st0;have:=hv.st1;have:=hv.len;split<;>omega
theorem zg8 {a:Aut} {q:List Int} (h1:∀ s∈q,a.dom s) (h2:q.Nodup):q.length<=a.nxt.length+1:=by
 have:=zp6 (n:=a.nxt.length+1) (l:=q.map (· + 1)) (List.pairwise_map.2 (h2.imp λh e=>h (by omega))) λx hx=>by
  obtain ⟨u,hu,rfl⟩:=tyg.1 hx;have:=h1 u hu;unfold Aut.dom at this;omega
 simpa using this
theorem yfb {a:Aut} (hv:a.valid):∃ r,exR id a.succW (a.acc.length+2) (a.acc.length+2) 0 [a.begin]=some r:=
 zoa (dom:=a.dom) (N:=a.nxt.length+1) (λs _ t ht=>by
  unfold Aut.succW at ht
  obtain ⟨k,_,e⟩:=tyg.1 ht
  simp only [tza] at e
  rw [<-e];exact Aut.go_dom hv) (λq h1 h2=>zg8 h1 (by simpa using h2)) (by have:=hv.len;omega) (λs hs=>by rw [tzw] at hs;rw [hs];exact zuf hv) (by simp) (by have:=hv.len;omega) (by simp)
def Aut.exW (a:Aut):List Int×List (List Int):=(exR id a.succW (a.acc.length+2) (a.acc.length+2) 0 [a.begin]).getD ([],[])
theorem yxd {a:Aut} (hv:a.valid):exR id a.succW (a.acc.length+2) (a.acc.length+2) 0 [a.begin]=some a.exW:=by
 obtain ⟨r,hr⟩:=yfb hv;have e:a.exW=r:=by unfold Aut.exW;rw [hr];rfl
 rw [e];exact hr
def Aut.wh (a:Aut):Aut:=⟨a.sy,0,a.exW.1.map a.accB,a.exW.2⟩
end Go.Fsa
namespace Go.Fsa
def Aut.keysP (m:Aut) (lv:List Bool) (cl:List Nat):List (List UInt8):=(List.range m.acc.length).map λi=>(zvs lv m.nxt cl i).map UInt8.ofNat
def Aut.begP (m:Aut) (lv:List Bool):List (Bool×Bool):=(List.range m.acc.length).map λi=>((lv[i]?).getD false,(m.acc[i]?).getD false)
def Aut.succP (m:Aut) (lv:List Bool) (cl:List Int) (c:Int):List (Option Int):=(List.range m.sy.toNat).map λx=>if 0<=m.go (zwe cl c:Nat) x/\lv[(m.go (zwe cl c:Nat) x).toNat]? =some true then some ((cl[(m.go (zwe cl c:Nat) x).toNat]?).getD 0) else none
end Go.Fsa
namespace Go.Fsa
def cP (lv:List Bool) (cl:List Nat) (i:Nat):Option Nat:=if lv[i]? =some true then cl[i]? else none
theorem zg9:∀ {l l':List Nat},(∀ x∈l,x<256)->(∀ x∈l',x<256)->l.map UInt8.ofNat=l'.map UInt8.ofNat->l=l'
 | [],[],_,_,_=>rfl
 | [],_::_,_,_,h=>by simp at h
 | _::_,[],_,_,h=>by simp at h
 | x::l,y::l',h1,h2,h=>by
  simp only [txe,tyi] at h;have e:=congrArg UInt8.toNat h.1;rw [UInt8.toNat_ofNat',UInt8.toNat_ofNat',txu (h1 x (tz0 ..)),txu (h2 y (tz0 ..))] at e;rw [e,zg9 (λz hz=>h1 z (tzq _ hz)) (λz hz=>h2 z (tzq _ hz)) h.2]
theorem zln {lv:List Bool} {rows:List (List Int)} {cl:List Nat} {i:Nat}:∀ x∈zvs lv rows cl i,x<256:=by
 intro x hx;unfold zvs at hx;split at hx
 .exact yg8 hx
 rw [tzw] at hx;omega
structure POk (m:Aut) (cl:List Nat):Prop where
 len:cl.length=m.acc.length
 hi:∀ c∈cl,c<m.acc.length
 inv:CInv m (cP m.liveL cl)
 dead:∀ i j,i<m.acc.length->j<m.acc.length->¬m.lv i->¬m.lv j->cl[i]? =cl[j]?
 apart:∀ i j,i<m.acc.length->j<m.acc.length->m.lv i->¬m.lv j->cl[i]?≠cl[j]?
theorem lvL {m:Aut} {i:Nat} (hi:i<m.acc.length):m.liveL[i]? =some true↔m.lv i:=by
 rw [Aut.liveL_get];exact ⟨λh=>h.2,λh=>⟨hi,h⟩⟩
theorem zwm {m:Aut} {cl:List Nat} {i:Nat} (hi:i<m.acc.length) (li:m.lv i):cP m.liveL cl i=cl[i]?:=by
 unfold cP;rw [if_pos ((lvL hi).2 li)]
theorem yfc {m:Aut} (hm:m.fine) {cl:List Nat} (hl:cl.length=m.acc.length) {i k:Nat}:(if 0<=m.go i k/\m.liveL[(m.go i k).toNat]? =some true then some ((cl[(m.go i k).toNat]?).getD 0) else none)=m.nx (cP m.liveL cl) i k:=by
 have hg:=Aut.go_fine hm (x:=i) (c:=k);unfold Aut.nx cP;by_cases h:m.go i k<0
 .rw [if_pos h,if_neg (by omega)]
 .grind
theorem yxe {m:Aut} (hm:m.fine) (hn:m.acc.length<=1000000) {cl:List Nat} (h:POk m cl) {i j:Nat} (hi:i<m.acc.length) (hj:j<m.acc.length) (li:m.lv i) (lj:m.lv j) :
  zvs m.liveL m.nxt cl i=zvs m.liveL m.nxt cl j↔cP m.liveL cl i=cP m.liveL cl j/\∀ k:Nat,(k:Int)<m.sy->m.nx (cP m.liveL cl) i k=m.nx (cP m.liveL cl) j k:=by
 obtain ⟨r,r1,r2,r3⟩:=yxb hm hi;obtain ⟨q,q1,q2,q3⟩:=yxb hm hj;obtain ⟨x,hx⟩:∃ x,cl[i]? =some x:=⟨_,tzb (by rw [h.len];exact hi)⟩;obtain ⟨y,hy⟩:∃ y,cl[j]? =some y:=⟨_,tzb (by rw [h.len];exact hj)⟩;have big:∀ c,c<m.acc.length->c<36 ^ 13:=λc hc=>tyf hc (tys hn (by decide));have hx':=big x (h.hi x (tzg hx));have hy':=big y (h.hi y (tzg hy))
 have hfo:∀ (l:List Int),∀ o∈l.map (λt=>if 0<=t/\m.liveL[t.toNat]? =some true then some ((cl[t.toNat]?).getD 0) else none),∀ c,o=some c->c<36 ^ 13:=by
  intro l o ho c hc;obtain ⟨t,_,rfl⟩:=tyg.1 ho;split at hc
  .simp only [tza] at hc;cases ht:cl[t.toNat]? with
   | none=>rw [ht] at hc;simp at hc;subst hc;decide
   | some z=>
    rw [ht] at hc;simp only [tye] at hc;rw [<-hc];exact big z (h.hi z (tzg ht))
  .cases hc
 unfold zvs;rw [if_pos ((lvL hi).2 li),if_pos ((lvL hj).2 lj),hx,hy,r1,q1,zwm hi li,zwm hj lj,hx,hy];simp only [tye];constructor
 .intro e;obtain ⟨e1,e2⟩:=yn5 hx' hy' (hfo r) (hfo q) e;refine ⟨by rw [e1],λk hk=>?_⟩;have e3:=congrArg (λl:List (Option Nat)=>l[k]?) e2;simp only [tzr,r3 k hk,q3 k hk,tz2,tza] at e3;rw [yfc hm h.len,yfc hm h.len] at e3;exact e3
 .rintro ⟨e1,e2⟩;simp only [tza] at e1;rw [e1];congr 1;refine ty8 λk=>?_;rw [tzr,tzr];by_cases hk:(k:Int)<m.sy
  .rw [r3 k hk,q3 k hk,tz2,tz2,yfc hm h.len,yfc hm h.len,e2 k hk]
  .grind
theorem zds {m:Aut} {lv:List Bool} {cl:List Nat} {i:Nat} (hi:i<m.acc.length):(m.keysP lv cl)[i]? =some ((zvs lv m.nxt cl i).map UInt8.ofNat):=by
 unfold Aut.keysP;rw [tzr,tz7 hi];rfl
theorem zs0 {m:Aut} {lv:List Bool} {cl:List Nat}:(m.keysP lv cl).length=m.acc.length:=by simp [Aut.keysP]
theorem zfa {K:Type} [DecidableEq K] {l:List K} {i j:Nat} (hi:i<l.length) (hj:j<l.length):(zzp [] l).1[i]? =(zzp [] l).1[j]?↔l[i]? =l[j]?:=by
 obtain ⟨a,ha⟩:∃ a,(zzp [] l).1[i]? =some a:=⟨_,tzb (by rw [zxm];exact hi)⟩;obtain ⟨b,hb⟩:∃ b,(zzp [] l).1[j]? =some b:=⟨_,tzb (by rw [zxm];exact hj)⟩;rw [ha,hb,tza];exact ytn ha hb
theorem ydu {K:Type} [DecidableEq K] {l:List K}:∀ c∈(zzp [] l).1,c<l.length:=λc hc=>by
 obtain ⟨i,hi,rfl⟩:=tyn hc;have h:=zkt (l:=l) (i:=i) (a:=(zzp [] l).1[i]) (tzb hi);rw [zsx] at h;have:=xyw l;omega
theorem POk.round {m:Aut} (hm:m.fine) (hn:m.acc.length<=1000000) {cl:List Nat} (h:POk m cl):CRound m (cP m.liveL cl) (cP m.liveL (zzp [] (m.keysP m.liveL cl)).1) /\
  ∀ i j,i<m.acc.length->j<m.acc.length->((zzp [] (m.keysP m.liveL cl)).1[i]? =(zzp [] (m.keysP m.liveL cl)).1[j]?↔zvs m.liveL m.nxt cl i=zvs m.liveL m.nxt cl j):=by
 have hk:∀ i j,i<m.acc.length->j<m.acc.length->((zzp [] (m.keysP m.liveL cl)).1[i]? =(zzp [] (m.keysP m.liveL cl)).1[j]?↔zvs m.liveL m.nxt cl i=zvs m.liveL m.nxt cl j):=(by intro i j hi hj;rw [zfa (by rw [zs0];exact hi) (by rw [zs0];exact hj),zds hi,zds hj,tza];exact ⟨zg9 zln zln,λe=>by rw [e]⟩);refine ⟨⟨λi hi=>?_,λi j hi hj li lj=>?_⟩,hk⟩
 .by_cases li:m.lv i
  .rw [zwm hi li];obtain ⟨a,ha⟩:∃ a,(zzp [] (m.keysP m.liveL cl)).1[i]? =some a:=⟨_,tzb (by rw [zxm,zs0];exact hi)⟩;rw [ha];simp [li]
  .unfold cP;rw [if_neg (λg=>li ((lvL hi).1 g))];simp [li]
 .rw [zwm hi li,zwm hj lj,hk i j hi hj,yxe hm hn h hi hj li lj]
theorem zoe {m:Aut} {cl:List Nat} {i:Nat} (hi:i<m.acc.length) (li:¬m.lv i):zvs m.liveL m.nxt cl i=[45]:=by
 unfold zvs;rw [if_neg (λg=>li ((lvL hi).1 g))]
theorem zfb {m:Aut} {cl:List Nat} {i:Nat} (hi:i<m.acc.length) (li:m.lv i):zvs m.liveL m.nxt cl i≠[45]:=by
 unfold zvs;rw [if_pos ((lvL hi).2 li)];exact yg7
theorem POk.next {m:Aut} (hm:m.fine) (hn:m.acc.length<=1000000) {cl:List Nat} (h:POk m cl):POk m (zzp [] (m.keysP m.liveL cl)).1:=by
 obtain ⟨r1,r2⟩:=h.round hm hn;refine ⟨by rw [zxm,zs0],λc hc=>?_,h.inv.round hm r1,λi j hi hj li lj=>?_,λi j hi hj li lj e=>?_⟩
 .have:=ydu c hc
  rwa [zs0] at this
 .rw [r2 i j hi hj,zoe hi li,zoe hj lj]
 rw [r2 i j hi hj,zoe hj lj] at e;exact zfb hi li e
theorem POk.fin {m:Aut} (hm:m.fine) (hn:m.acc.length<=1000000) {cl:List Nat} (h:POk m cl):∀ i∈List.range m.acc.length,∀ j∈List.range m.acc.length,zvs m.liveL m.nxt cl i=zvs m.liveL m.nxt cl j->cl[i]? =cl[j]?:=by
 intro i hi j hj e;rw [txc] at hi hj;by_cases li:m.lv i
 .by_cases lj:m.lv j
  .have:=((yxe hm hn h hi hj li lj).1 e).1
   rwa [zwm hi li,zwm hj lj] at this
  .rw [zoe hj lj] at e;exact absurd e (zfb hi li)
 .by_cases lj:m.lv j
  .rw [zoe hi li] at e;exact absurd e.symm (zfb hj lj)
  .exact h.dead i j hi hj li lj
theorem yxf {m:Aut} (hm:m.fine) (hn:m.acc.length<=1000000):∀ {F cnt:Nat} {cl:List Nat},POk m cl->cnt<=dc ((List.range m.acc.length).map λi=>cl[i]?)->m.acc.length<F+cnt->∃ cl',yn2 (m.keysP m.liveL) F cnt cl=some cl'/\POk m cl'/\CGood m (cP m.liveL cl')
 | 0,cnt,cl,h,h1,h2=>by
  have:=xyw ((List.range m.acc.length).map λi=>cl[i]?);simp only [tyk,List.length_range] at this;omega
 | F+1,cnt,cl,h,h1,h2=>by
  obtain ⟨r1,r2⟩:=h.round hm hn;have hm1:=zg2 (f:=λi=>zvs m.liveL m.nxt cl i) (g:=λi=>cl[i]?) (I:=List.range m.acc.length) (h.fin hm hn);have hc:(zzp [] (m.keysP m.liveL cl)).2.length=dc ((List.range m.acc.length).map λi=>zvs m.liveL m.nxt cl i):=(by rw [zsx];unfold Aut.keysP;exact zg7 λi hi j hj=>⟨zg9 zln zln,λe=>by rw [e]⟩);simp only [yn2];by_cases he:(zzp [] (m.keysP m.liveL cl)).2.length=cnt
  .rw [if_pos he];refine ⟨_,rfl,h.next hm hn,h.inv.good hm r1 λi j hi hj li lj e=>?_⟩;rw [zwm hi li,zwm hj lj,r2 i j hi hj];rw [zwm hi li,zwm hj lj] at e;exact hm1.2 (by omega) i (txc.2 hi) j (txc.2 hj) e
  rw [if_neg he]
  have hn':dc ((List.range m.acc.length).map λi=>(zzp [] (m.keysP m.liveL cl)).1[i]?)=dc ((List.range m.acc.length).map λi=>zvs m.liveL m.nxt cl i):=
   zg7 λi hi j hj=>r2 i j (txc.1 hi) (txc.1 hj)
  exact yxf hm hn (h.next hm hn) (by omega) (by omega)
theorem yxg {m:Aut} {lv:List Bool} {i:Nat} (hi:i<m.acc.length):(m.begP lv)[i]? =some ((lv[i]?).getD false,(m.acc[i]?).getD false):=by
 unfold Aut.begP;rw [tzr,tz7 hi];rfl
theorem ztu {m:Aut} {lv:List Bool}:(m.begP lv).length=m.acc.length:=by simp [Aut.begP]
theorem xsv {m:Aut} (hm:m.fine):POk m (zzp [] (m.begP m.liveL)).1:=by
 have same:∀ i j,i<m.acc.length->j<m.acc.length->((zzp [] (m.begP m.liveL)).1[i]? =(zzp [] (m.begP m.liveL)).1[j]?↔((m.liveL[i]?).getD false=(m.liveL[j]?).getD false/\(m.acc[i]?).getD false=(m.acc[j]?).getD false)):=(by intro i j hi hj;rw [zfa (by rw [ztu];exact hi) (by rw [ztu];exact hj),yxg hi,yxg hj,tza,tzl])
 have lvg:∀ i,i<m.acc.length->((m.liveL[i]?).getD false=true↔m.lv i):=λi hi=>by
  rw [<-lvL hi];obtain ⟨b,hb⟩:∃ b,m.liveL[i]? =some b:=⟨_,tzb (by rw [Aut.liveL_len];exact hi)⟩;rw [hb];simp
 have acg:∀ i:Nat,m.accB i=(m.acc[i]?).getD false:=λi=>by simp [Aut.accB]
 have dac:∀ i,i<m.acc.length->¬m.lv i->(m.acc[i]?).getD false=false:=λi hi li=>by
  rw [<-acg];cases h:m.accB i with
  | false=>rfl
  | true=>exact absurd (Aut.word_live hm (w:=[]) (i:=i) h) li
 refine ⟨by rw [zxm,ztu],λc hc=>?_,⟨λi hi=>?_,λi j hi hj li lj hw=>?_,λi j hi hj li lj e=>?_⟩,λi j hi hj li lj=>?_,λi j hi hj li lj e=>?_⟩
 .have:=ydu c hc
  rwa [ztu] at this
 .by_cases li:m.lv i
  .rw [zwm hi li];obtain ⟨a,ha⟩:∃ a,(zzp [] (m.begP m.liveL)).1[i]? =some a:=⟨_,tzb (by rw [zxm,ztu];exact hi)⟩;rw [ha];simp [li]
  .unfold cP;rw [if_neg (λg=>li ((lvL hi).1 g))];simp [li]
 .rw [zwm hi li,zwm hj lj,same i j hi hj,(lvg i hi).2 li,(lvg j hj).2 lj,<-acg,<-acg];exact ⟨rfl,hw []⟩
 .rw [zwm hi li,zwm hj lj,same i j hi hj] at e;rw [acg,acg];exact e.2
 .grind
 .grind
theorem xsw {m:Aut} (hm:m.fine) (hn:m.acc.length<=1000000):∃ cl,yn2 (m.keysP m.liveL) (m.acc.length+1) (zzp [] (m.begP m.liveL)).2.length (zzp [] (m.begP m.liveL)).1=some cl/\POk m cl/\CGood m (cP m.liveL cl):=by
 refine yxf hm hn (xsv hm) ?_ (by omega);have:(zzp [] (m.begP m.liveL)).2.length=dc ((List.range m.acc.length).map λi=>(zzp [] (m.begP m.liveL)).1[i]?):=(by rw [zsx];unfold Aut.begP;refine zg7 λi hi j hj=>?_;rw [txc] at hi hj;have:=zfa (l:=m.begP m.liveL) (i:=i) (j:=j) (by rw [ztu];exact hi) (by rw [ztu];exact hj);unfold Aut.begP at this;rw [this,tzr,tzr,tz7 hi,tz7 hj];simp);omega
end Go.Fsa
namespace Go.Fsa
def Aut.clsP (m:Aut):List Nat:=(yn2 (m.keysP m.liveL) (m.acc.length+1) (zzp [] (m.begP m.liveL)).2.length (zzp [] (m.begP m.liveL)).1).getD []
def Aut.clsI (m:Aut):List Int:=m.clsP.map λc:Nat=>(c:Int)
def Aut.exP (m:Aut):List Int×List (List Int):=(exR id (m.succP m.liveL m.clsI) 20001 20002 0 [((m.clsP[0]?).getD 0:Nat)]).getD ([],[])
def Aut.canP (m:Aut):Aut:=if m.liveL[0]? =some true then ⟨m.sy,0,m.exP.1.map λc=>m.accB (zwe m.clsI c:Nat),m.exP.2⟩ else ⟨m.sy,0,[],[]⟩
theorem yn8 {m:Aut} {lv:List Bool} {cl:List Int} (hl:lv.length=cl.length) {c t:Int} (h:some t∈m.succP lv cl c):t∈cl:=by
 unfold Aut.succP at h;obtain ⟨x,_,hx⟩:=tyg.1 h;split at hx
 .rename_i g;simp only [tza] at hx;have:=zzy g.2;rw [tzb (by omega),tye] at hx;rw [<-hx];exact List.getElem_mem _
 .cases hx
theorem yn9:∀ {q l:List Int},q.Nodup->(∀ x∈q,x∈l)->q.length<=l.length
 | [],l,_,_=>tz6 _
 | x::q,l,h,hs=>by
  rw [List.nodup_cons] at h;have hx:=hs x (by simp)
  have:=yn9 (q:=q) (l:=l.erase x) h.2 λy hy=>by
   have hne:y≠x:=λe=>h.1 (e▸hy);exact (List.mem_erase_of_ne hne).2 (hs y (by simp [hy]))
  rw [List.length_erase_of_mem hx] at this;have:=List.length_pos_of_mem hx;simp only [tzd];omega
theorem yma {m:Aut} (hm:m.fine) (hn:m.acc.length<=20000) (hl:0<m.acc.length) :
  yn2 (m.keysP m.liveL) (m.acc.length+1) (zzp [] (m.begP m.liveL)).2.length (zzp [] (m.begP m.liveL)).1=some m.clsP/\POk m m.clsP/\CGood m (cP m.liveL m.clsP)/\∃ c0:Nat,m.clsP[0]? =some c0/\exR id (m.succP m.liveL m.clsI) 20001 20002 0 [(c0:Int)]=some m.exP/\m.exP.1.length<=20000:=by
 obtain ⟨cl,c1,c2,c3⟩:=xsw hm (by omega);have e:m.clsP=cl:=by unfold Aut.clsP;rw [c1];rfl
 rw [e];have hlen:=c2.len;obtain ⟨c0,hc0⟩:∃ c,cl[0]? =some c:=⟨_,tzb (by omega)⟩;refine ⟨c1,c2,c3,c0,hc0,?_⟩;have hI:m.clsI.length=m.acc.length:=by unfold Aut.clsI;rw [e,tyk,hlen]
 have hmem:(c0:Int)∈m.clsI:=(by unfold Aut.clsI;rw [e];exact tyg.2 ⟨c0,tzg hc0,rfl⟩);have hd:∀ s,s∈m.clsI->∀ t,some t∈m.succP m.liveL m.clsI s->t∈m.clsI:=λs _ t ht=>yn8 (by rw [hI];simp [Aut.liveL]) ht
 have hb:∀ q:List Int,(∀ s∈q,s∈m.clsI)->(q.map id).Nodup->q.length<=20000:=λq h1 h2=>by
  have:=yn9 (by simpa using h2) h1;omega
 obtain ⟨r,hr⟩:=zoa (key:=id) (succ:=m.succP m.liveL m.clsI) (most:=20001) (dom:=λs=>s∈m.clsI) (N:=20000) hd hb (by omega) (F:=20002) (i:=0) (qs:=[(c0:Int)]) (λs hs=>by rw [tzw] at hs;rw [hs];exact hmem) (by simp) (by omega) (by simp);have e2:m.exP=r:=(by unfold Aut.exP;rw [e,hc0,tye,hr];rfl);rw [e2];refine ⟨hr,?_⟩;obtain ⟨d1,d2⟩:=zne (dom:=λs=>s∈m.clsI) hd (λs hs=>by rw [tzw] at hs;rw [hs];exact hmem) (by simp) hr;exact hb _ d1 d2
end Go.Fsa
namespace Go.Fsa
theorem yfd {a:Aut} {s:Int} {k:Nat} (h:(k:Int)<a.sy):(a.succW s)[k]? =some (some (a.go s k)):=by
 unfold Aut.succW;rw [tzr,tz7 (by omega)];rfl
theorem zfc {a:Aut} (hv:a.valid):a.exW.2.length=a.exW.1.length/\a.exW.1[0]? =some a.begin/\(∀ s∈a.exW.1,a.dom s)/\a.exW.1.Nodup /\
  ∀ (j:Nat) s,a.exW.1[j]? =some s->∃ row,a.exW.2[j]? =some row/\(row.length:Int)=a.sy/\∀ k:Nat,(k:Int)<a.sy->∃ n:Nat,row[k]? =some (n:Int)/\a.exW.1[n]? =some (a.go s k):=by
 have hx:=yxd hv;obtain ⟨h1,h2,h3⟩:=zob hx;have hlo:=hv.lo
 obtain ⟨d1,d2⟩:=zne (dom:=a.dom) (λs _ t ht=>by
  unfold Aut.succW at ht
  obtain ⟨k,_,e⟩:=tyg.1 ht
  simp only [tza] at e
  rw [<-e];exact Aut.go_dom hv) (λs hs=>by rw [tzw] at hs;rw [hs];exact zuf hv) (by simp) hx
 refine ⟨by simpa using h2 (tz6 _),zxr h1 rfl,d1,by simpa using d2,λj s hs=>?_⟩;obtain ⟨row,g1,g2,g3,g4⟩:=h3 j s (by rw [txj];exact hs) (tz6 _);rw [zky] at g2;refine ⟨row,g1,by omega,λk hk=>?_⟩;obtain ⟨n,t',e1,e2,e3⟩:=g4 k _ (yfd hk);exact ⟨n,e1,by rw [e2];exact congrArg some e3⟩
theorem zdt {a:Aut}:a.wh.acc.length=a.exW.1.length:=by simp [Aut.wh]
theorem za9 {a:Aut} (hv:a.valid):a.wh.fine:=by
 obtain ⟨h1,_,_,_,h5⟩:=zfc hv;refine ⟨by rw [zdt];exact h1,λr hr=>?_⟩;simp only [Aut.wh] at hr;obtain ⟨j,hj,rfl⟩:=tyn hr;obtain ⟨s,hs⟩:∃ s,a.exW.1[j]? =some s:=⟨_,tzb (by omega)⟩;obtain ⟨row,g1,g2,g3⟩:=h5 j s hs;rw [tzb hj,tza] at g1;rw [g1];refine ⟨g2,λt ht=>?_⟩;obtain ⟨k,hk,rfl⟩:=tyn ht;obtain ⟨n,e1,e2⟩:=g3 k (by omega);rw [tzb hk,tza] at e1;have:=zzy e2;rw [e1,zdt];exact ⟨by omega,by omega⟩
structure SimC (a m:Aut) (cl:List Nat) (s c:Int):Prop where
 dom:a.domR s
 ex:∃ i x:Nat,i<m.acc.length/\cl[i]? =some x/\c=x/\m.lv i/\∀ w,a.accW s w=m.accW i w
end Go.Fsa
namespace Go.Fsa
end Go.Fsa
namespace Go.Fsa
def Aut.succD (a b:Aut) (p:Int×Int):List (Option (Int×Int)):=(List.range a.sy.toNat).map λk=>some (a.go p.1 k,b.go p.2 k)
theorem zkz {a b:Aut} {p:Int×Int}:(a.succD b p).length=a.sy.toNat:=by simp [Aut.succD]
theorem zdu {a b:Aut} {p:Int×Int} {c:Nat} {o:Option (Int×Int)} (h:(a.succD b p)[c]? =some o):o=some (a.go p.1 c,b.go p.2 c)/\(c:Int)<a.sy:=by
 have hc:=zzy h;rw [zkz] at hc;unfold Aut.succD at h;rw [tzr,tz7 hc] at h;simp only [tz2,tza] at h;exact ⟨h.symm,by omega⟩
theorem yfe {a b:Aut} {p:Int×Int} {k:Nat} (h:(k:Int)<a.sy):(a.succD b p)[k]? =some (some (a.go p.1 k,b.go p.2 k)):=by
 unfold Aut.succD;rw [tzr,tz7 (by omega)];rfl
def yl6 (a b:Aut) (p:Int×Int):Prop:=a.dom p.1/\b.dom p.2
theorem zof {a b:Aut} (ha:a.valid) (hb:b.valid) {s:Int×Int} (_:yl6 a b s) {t:Int×Int} (ht:some t∈a.succD b s):yl6 a b t:=by
 unfold Aut.succD at ht;obtain ⟨k,_,e⟩:=tyg.1 ht;simp only [tza] at e;rw [<-e];exact ⟨Aut.go_dom ha,Aut.go_dom hb⟩
theorem yff {m x y x' y':Int} (hm:0<m) (hy:0<=y/\y<m) (hy':0<=y'/\y'<m) (h:y+x*m=y'+x'*m):x=x'/\y=y':=by
 have e1:(y+x*m) / m=x:=by rw [Int.add_mul_ediv_right _ _ (by omega),Int.ediv_eq_zero_of_lt hy.1 hy.2,Int.zero_add]
 have e2:(y'+x'*m) / m=x':=by rw [Int.add_mul_ediv_right _ _ (by omega),Int.ediv_eq_zero_of_lt hy'.1 hy'.2,Int.zero_add]
 rw [h,e2] at e1;subst e1;exact ⟨rfl,by omega⟩
theorem zfd {a b:Aut} {q:List (Int×Int)} (h1:∀ s∈q,yl6 a b s) (h2:q.Nodup):q.length<=(a.nxt.length+1)*(b.nxt.length+1):=by
 have:=zp6 (n:=(a.nxt.length+1)*(b.nxt.length+1)) (l:=q.map λp=>(p.2+1)+(p.1+1)*((b.nxt.length+1:Nat):Int)) (List.pairwise_map.2 (h2.imp_of_mem λ{s t} hs ht h e=>by
  have ds:=h1 s hs
  have dt:=h1 t ht
  unfold yl6 Aut.dom at ds dt
  obtain ⟨e1,e2⟩:=yff (m:=((b.nxt.length+1:Nat):Int)) (by omega) ⟨by omega,by omega⟩ ⟨by omega,by omega⟩ e
  exact h (Prod.ext (by omega) (by omega)))) λx hx=>by
   obtain ⟨u,hu,rfl⟩:=tyg.1 hx
   have du:=h1 u hu
   unfold yl6 Aut.dom at du
   have h0:0<=(u.1+1)*((b.nxt.length+1:Nat):Int):=Int.mul_nonneg (by omega) (by omega)
   have h3:(u.1+1)*((b.nxt.length+1:Nat):Int)<=(a.nxt.length:Int)*((b.nxt.length+1:Nat):Int):=Int.mul_le_mul_of_nonneg_right (by omega) (by omega)
   have h4:(((a.nxt.length+1)*(b.nxt.length+1):Nat):Int)=(a.nxt.length:Int)*((b.nxt.length+1:Nat):Int)+((b.nxt.length+1:Nat):Int):=by
    grind
   rw [h4]
   exact ⟨by omega,by omega⟩
 simpa using this
def ymb (a b:Aut):Nat:=(a.nxt.length+1)*(b.nxt.length+1)+1
theorem zr1 {a b:Aut} (ha:a.valid) (hb:b.valid):yl6 a b (a.begin,b.begin):=⟨zuf ha,zuf hb⟩
theorem xsx {a b:Aut} (ha:a.valid) (hb:b.valid) (hN:(a.nxt.length+1)*(b.nxt.length+1)<=100000):∃ r,exR id (a.succD b) 100000 (ymb a b) 0 [(a.begin,b.begin)]=some r:=
 zoa (dom:=yl6 a b) (N:=(a.nxt.length+1)*(b.nxt.length+1)) (λs hs t ht=>zof ha hb hs ht) (λq h1 h2=>zfd h1 (by simpa using h2)) hN (λs hs=>by rw [tzw] at hs;rw [hs];exact zr1 ha hb) (by simp) (by unfold ymb;omega) (by simp)
def Aut.exD (a b:Aut):List (Int×Int)×List (List Int):=(exR id (a.succD b) 100000 (ymb a b) 0 [(a.begin,b.begin)]).getD ([],[])
theorem zlo {a b:Aut} (ha:a.valid) (hb:b.valid) (hN:(a.nxt.length+1)*(b.nxt.length+1)<=100000):exR id (a.succD b) 100000 (ymb a b) 0 [(a.begin,b.begin)]=some (a.exD b):=by
 obtain ⟨r,hr⟩:=xsx ha hb hN;have e:a.exD b=r:=by unfold Aut.exD;rw [hr];rfl
 rw [e];exact hr
structure FirstBy (a b:Aut) (q:List (Int×Int)) (fi bs:List Int):Prop where
 lf:fi.length=q.length
 lb:bs.length=q.length
 get:∀ n,0<n->n<q.length->∃ (i c:Nat) (p:Int×Int),fi[n]? =some (i:Int)/\bs[n]? =some (c:Int)/\i<n/\(c:Int)<a.sy/\q[i]? =some p/\q[n]? =some (a.go p.1 c,b.go p.2 c)
 ord:∀ n,0<n->n<q.length->∃ (i c:Nat),fi[n]? =some (i:Int)/\bs[n]? =some (c:Int)/\∀ (i' c':Nat) (p:Int×Int),(i'<i∨i'=i/\c'<c)->(c':Int)<a.sy->q[i']? =some p->(a.go p.1 c',b.go p.2 c')∈q.take n
def zvd (fi bs:List Int):Nat->Nat->List Int
 | 0,_=>[]
 | F+1,n=>if n=0 then [] else (bs[n]?).getD 0::zvd fi bs F ((fi[n]?).getD 0).toNat
end Go.Fsa
namespace Go.Fsa
section
variable {S:Type} [DecidableEq S] {succ:S->List (Option S)} {ac:S->Bool} {most F:Nat} {s0:S} {r:List S×List (List Int)} {sy:Int}
def xlr (succ:S->List (Option S)) (ac:S->Bool):S->List Nat->Bool
 | s,[]=>ac s
 | s,c::w=>match (succ s)[c]? with
  | some (some t)=>xlr succ ac t w
  | _=>false
def zq3 (sy:Int) (ac:S->Bool) (r:List S×List (List Int)):Aut:=⟨sy,0,r.1.map ac,r.2⟩
theorem yto (hlen:∀ s,((succ s).length:Int)=sy) (hex:exR id succ most F 0 [s0]=some r):(zq3 sy ac r).fine/\0<(zq3 sy ac r).acc.length/\r.1[0]? =some s0:=by
 obtain ⟨h1,h2,h3⟩:=zob hex;have hl:r.2.length=r.1.length:=by simpa using h2 (tz6 _)
 have h0:r.1[0]? =some s0:=zxr h1 rfl;refine ⟨⟨by simpa [zq3] using hl,λrow hr=>?_⟩,by simpa [zq3] using zzy h0,h0⟩;simp only [zq3] at hr ⊢;obtain ⟨j,hj,rfl⟩:=tyn hr;obtain ⟨s,hs⟩:∃ s,r.1[j]? =some s:=⟨_,tzb (by omega)⟩;obtain ⟨row,g1,g2,g3,g4⟩:=h3 j s (by rw [txj];exact hs) (tz6 _);rw [tzb hj,tza] at g1;rw [g1];refine ⟨by rw [g2];exact hlen s,λt ht=>?_⟩;obtain ⟨k,hk,rfl⟩:=tyn ht;obtain ⟨o,ho⟩:∃ o,(succ s)[k]? =some o:=⟨_,tzb (by omega)⟩;cases o with
 | none=>
  grind
 | some u=>
  grind
theorem ymc (h1:1<=sy) (h2:sy<=400) (hlen:∀ s,((succ s).length:Int)=sy) (hex:exR id succ most F 0 [s0]=some r) (hr:r.1.length<=20000):(zq3 sy ac r).valid/\0<(zq3 sy ac r).acc.length:=by
 obtain ⟨⟨g1,g2⟩,g3,g4⟩:=yto (ac:=ac) hlen hex;have hl:(zq3 sy ac r).acc.length=r.1.length:=by simp [zq3]
 exact ⟨⟨by show ¬sy<1;omega,by show ¬400<sy;omega,by omega,g1,by show ¬(0:Int)<0;omega,by show ¬_<=(0:Int);omega,g2⟩,g3⟩
end
def ymd (f:Bool->Bool->Bool) (a b:Aut):Aut:=zq3 a.sy (λp=>f (a.accB p.1) (b.accB p.2)) (a.exD b)
theorem xy0 {a b:Aut} (ha:a.valid) (hb:b.valid) (hN:(a.nxt.length+1)*(b.nxt.length+1)<=100000):(a.exD b).1.length<=(a.nxt.length+1)*(b.nxt.length+1):=by
 obtain ⟨d1,d2⟩:=zne (dom:=yl6 a b) (λs hs t ht=>zof ha hb hs ht) (λs hs=>by rw [tzw] at hs;rw [hs];exact zr1 ha hb) (by simp) (zlo ha hb hN);exact zfd d1 (by simpa using d2)
theorem xy1 {a b:Aut} (ha:a.valid) (hb:b.valid) (hs:a.sy=b.sy) (hN:(a.nxt.length+1)*(b.nxt.length+1)<=20000) {f:Bool->Bool->Bool}:(ymd f a b).valid/\0<(ymd f a b).acc.length:=by
 have hlo:=ha.lo;have hhi:=ha.hi;have hex:=zlo ha hb (by omega);exact ymc (sy:=a.sy) (ac:=λp=>f (a.accB p.1) (b.accB p.2)) (by omega) (by omega) (λs=>by rw [zkz];omega) hex (by have:=xy0 ha hb (by omega);omega)
def zdv (a:Aut):Aut:=⟨a.sy,0,a.wh.acc.map (!·),a.wh.nxt⟩
theorem xy2 {a:Aut} (hv:a.valid) (hn:a.nxt.length<20000):(zdv a).valid/\0<(zdv a).acc.length:=by
 obtain ⟨h1,h2,h3,h4,h5⟩:=zfc hv;have hl:=zzy h2;have hle:=zg8 h3 h4;obtain ⟨f1,f2⟩:=za9 hv;have hwl:=zdt (a:=a);have hcl:(zdv a).acc.length=a.wh.acc.length:=by simp [zdv]
 have h0:0<(zdv a).acc.length:=by omega
 exact ⟨⟨hv.lo,hv.hi,by omega,by rw [hcl];exact f1,by show ¬(0:Int)<0;omega,by show ¬_<=(0:Int);omega,λr hr=>by rw [hcl];exact f2 r hr⟩,h0⟩
end Go.Fsa
namespace Go.Fsa
inductive Sw (a b:Nat) (l:List Int):List Int->Prop
 | refl:Sw a b l l
 | swap {W:List Int} {i j:Nat} {x y:Int} (h:Sw a b l W) (hi:a<=i/\i<b) (hj:a<=j/\j<b) (hx:W[i]? =some x) (hy:W[j]? =some y):Sw a b l ((W.set i y).set j x)
theorem zlp {W:List Int} {i j k:Nat} {x y:Int} (hx:W[i]? =some x) (hy:W[j]? =some y):((W.set i y).set j x)[k]? =if k=j then some x else if k=i then some y else W[k]?:=by
 grind
theorem Sw.len {a b:Nat} {l W:List Int} (h:Sw a b l W):W.length=l.length:=by
 induction h with
 | refl=>rfl
 | swap _ _ _ _ _ ih=>simpa using ih
theorem Sw.out {a b:Nat} {l W:List Int} (h:Sw a b l W) {j:Nat} (hj:j<a∨b<=j):W[j]? =l[j]?:=by
 induction h with
 | refl=>rfl
 | swap _ hi hk hx hy ih=>rw [zlp hx hy,if_neg (by omega),if_neg (by omega),ih]
theorem Sw.mem {a b:Nat} {l W:List Int} (h:Sw a b l W):∀ z,z∈W↔z∈l:=by
 induction h with
 | refl=>exact λz=>Iff.rfl
 | @swap W i j x y _ _ _ hx hy ih=>
  intro z;rw [<-ih z,List.mem_iff_getElem?,List.mem_iff_getElem?];constructor
  .grind
  rintro ⟨k,hk⟩;by_cases e:k=i
  .subst e;exact ⟨j,by rw [zlp hx hy,if_pos rfl,<-hx];exact hk⟩
  by_cases f:k=j
  .subst f
   exact ⟨i,by
    grind⟩
  exact ⟨k,by rw [zlp hx hy,if_neg f,if_neg e];exact hk⟩
theorem Sw.mono {a b a' b':Nat} {l W:List Int} (h:Sw a b l W) (ha:a'<=a) (hb:b<=b'):Sw a' b' l W:=by
 induction h with
 | refl=>exact .refl
 | swap _ hi hj hx hy ih=>exact .swap ih ⟨by omega,by omega⟩ ⟨by omega,by omega⟩ hx hy
def Srt (a b:Nat) (W:List Int):Prop:=∀ i j x y,a<=i->i<j->j<b->W[i]? =some x->W[j]? =some y->x<=y
def Ins (a j i:Nat) (W:List Int):Prop:=∀ p q x y,a<=p->p<q->q<=i->q≠j->W[p]? =some x->W[q]? =some y->x<=y
theorem Ins.start {a i:Nat} {W:List Int} (h:Srt a i W):Ins a i i W:=λp q x y h1 h2 h3 h4 hx hy=>h p q x y h1 h2 (by omega) hx hy
theorem Ins.step {a j i:Nat} {W:List Int} {u v:Int} (h:Ins a j i W) (ha:a<j) (hj:j<=i) (hu:W[j-1]? =some u) (hv:W[j]? =some v) (hlt:v<u):Ins a (j-1) i ((W.set j u).set (j-1) v):=by
 intro p q x y h1 h2 h3 h4 hx hy;rw [zlp hv hu] at hx hy;rw [if_neg h4] at hy;by_cases e:q=j
 .rw [if_pos e,tza] at hy;subst hy;by_cases f:p=j-1
  .rw [if_pos f,tza] at hx;omega
  rw [if_neg f,if_neg (by omega)] at hx;exact h p (j-1) x u h1 (by omega) (by omega) (by omega) hx hu
 rw [if_neg e] at hy;by_cases f:p=j-1
 .rw [if_pos f,tza] at hx;subst hx;exact h j q v y (by omega) (by omega) h3 e hv hy
 rw [if_neg f] at hx;by_cases g:p=j
 .rw [if_pos g,tza] at hx;subst hx;exact h (j-1) q u y (by omega) (by omega) h3 e hu hy
 .rw [if_neg g] at hx;exact h p q x y h1 h2 h3 e hx hy
theorem Ins.done {a j i:Nat} {W:List Int} (h:Ins a j i W) (hj:a<=j/\j<=i) (hs:j=a∨∀ u v,W[j-1]? =some u->W[j]? =some v->u<=v) (hl:j<W.length):Srt a (i+1) W:=by
 intro p q x y h1 h2 h3 hx hy;by_cases e:q=j
 .subst e;rcases hs with hs | hs
  .omega
  obtain ⟨u,hu⟩:∃ u,W[q-1]? =some u:=⟨_,tzb (by omega)⟩;have h4:=hs u y hu hy;by_cases f:p=q-1
  .simp_all
  have:=h p (q-1) x u h1 (by omega) (by omega) (by omega) hx hu;omega
 .exact h p q x y h1 h2 (by omega) e hx hy
structure IsSet (s l:List Int):Prop where
 up:s.Pairwise (· < ·)
 mem:∀ x,x∈s↔x∈l
theorem yxh:∀ {s t:List Int},s.Pairwise (· < ·)->t.Pairwise (· < ·)->(∀ x,x∈s↔x∈t)->s=t
 | [],[],_,_,_=>rfl
 | [],y::t,_,_,h=>absurd ((h y).2 (tz0 ..)) (txt)
 | x::s,[],_,_,h=>absurd ((h x).1 (tz0 ..)) (txt)
 | x::s,y::t,hs,ht,h=>by
  rw [List.pairwise_cons] at hs ht
  have e:x=y:=by
   rcases tzu.1 ((h x).1 (tz0 ..)) with g | g
   .exact g
   rcases tzu.1 ((h y).2 (tz0 ..)) with k | k
   .exact k.symm
   have:=ht.1 x g;have:=hs.1 y k;omega
  subst e;congr 1;refine yxh hs.2 ht.2 λz=>?_;constructor
  .grind
  grind
def zyu (n:Nat) (l:List Int):List Int:=((List.range n).map λi:Nat=>(i:Int)).filter λx=>decide (x∈l)
theorem yxi {n:Nat} {l:List Int} (h:∀ x∈l,0<=x/\x<(n:Int)):IsSet (zyu n l) l:=by
 refine ⟨?_,λx=>?_⟩
 .refine List.Pairwise.filter _ ?_;rw [List.pairwise_map];exact List.pairwise_lt_range.imp λh=>by omega
 unfold zyu;rw [List.mem_filter,tyg];simp only [decide_eq_true_eq,txc];exact ⟨λh=>h.2,λhx=>⟨⟨x.toNat,by have:=h x hx;omega,by have:=h x hx;omega⟩,hx⟩⟩
theorem IsSet.eq {n:Nat} {s l:List Int} (h:IsSet s l) (hl:∀ x∈l,0<=x/\x<(n:Int)):s=zyu n l:=
 yxh h.up (yxi hl).up λx=>(h.mem x).trans ((yxi hl).mem x).symm
structure Cmp (l W:List Int) (k m:Nat):Prop where
 len:W.length=l.length
 up:(W.take k).Pairwise (· < ·)
 mem:∀ x,x∈W.take k↔x∈l.take m
 rest:∀ j,m<=j+1->W[j]? =l[j]?
theorem yfg {l:List Int} (h:Srt 0 l.length l) {m:Nat} {y:Int} (hy:l[m]? =some y):∀ x∈l.take m,x<=y:=λx hx=>by
 obtain ⟨i,hi⟩:=List.mem_iff_getElem?.1 hx;rw [tyb] at hi;split at hi
 .rename_i him;exact h i m x y (tz6 _) him (zzy hy) hi hy
 .cases hi
theorem zv4 {l:List Int} {m:Nat} {y:Int} (hy:l[m]? =some y) (x:Int):x∈l.take (m+1)↔x∈l.take m∨x=y:=by
 rw [tz8,hy];simp
theorem zs1 {W:List Int} {k:Nat} {y:Int} (hk:k<W.length):(W.set k y).take (k+1)=W.take k++[y]:=by
 rw [tz8,txx (tzp _),tz1 hk];rfl
theorem Cmp.same {l W:List Int} {k m:Nat} (h:Cmp l W k m) (hm:1<=m) {y:Int} (h1:l[m-1]? =some y) (h2:l[m]? =some y):Cmp l W k (m+1):=
 ⟨h.len,h.up,λx=>by
  rw [h.mem,zv4 h2]
  refine ⟨.inl,?_⟩
  rintro (g | rfl)
  .exact g
  .exact List.mem_iff_getElem?.2 ⟨m-1,by rw [tyb,if_pos (by omega)];exact h1⟩,λj hj=>h.rest j (by omega)⟩
theorem Cmp.new {l W:List Int} {k m:Nat} (h:Cmp l W k m) (hs:Srt 0 l.length l) (hm:1<=m) (hk:k<m) {x y:Int} (h1:l[m-1]? =some x) (h2:l[m]? =some y) (hne:y≠x):Cmp l (W.set k y) (k+1) (m+1):=by
 have hml:=zzy h2;have hkl:k<W.length:=by rw [h.len];omega
 have hxy:x<y:=(by have:=hs (m-1) m x y (tz6 _) (by omega) hml h1 h2;omega);refine ⟨by rw [tz3];exact h.len,?_,λz=>?_,λj hj=>?_⟩
 .rw [zs1 hkl,List.pairwise_append];refine ⟨h.up,List.pairwise_singleton _ _,λz hz w hw=>?_⟩;rw [tzw] at hw;subst hw;rw [h.mem] at hz;obtain ⟨m',rfl⟩:∃ m',m=m'+1:=⟨m-1,by omega⟩;rw [Nat.add_sub_cancel] at h1;rcases (zv4 h1 z).1 hz with g | g
  .have:=yfg hs h1 z g;omega
  .omega
 .rw [zs1 hkl,zv4 h2,tyh,h.mem,tzw]
 .rw [tz4 (by omega)];exact h.rest j (by omega)
theorem Cmp.first {l:List Int} (hs:Srt 0 l.length l) {k:Nat} (hk:k<=l.length) (h:∀ j x y,j+1<k->l[j]? =some x->l[j+1]? =some y->x≠y):Cmp l l k k:=by
 refine ⟨rfl,?_,λx=>Iff.rfl,λj _=>rfl⟩;rw [List.pairwise_iff_getElem];intro i j hi hj hij;simp only [tyw] at hi hj;simp only [List.getElem_take];have h1:l[i]? =some l[i]:=tzb (by omega);have h2:l[j]? =some l[j]:=tzb (by omega);have h3:l[j-1]? =some l[j-1]:=tzb (by omega);have a1:=hs (j-1) j _ _ (tz6 _) (by omega) (by omega) h3 h2;have a2:=h (j-1) _ _ (by omega) h3 (by rw [Nat.sub_add_cancel (by omega)];exact h2);by_cases e:i=j-1
 .subst e;omega
 have:=hs i (j-1) _ _ (tz6 _) (by omega) (by omega) h1 h3;omega
end Go.Fsa
namespace Go.Fsa
def ytp (s:List Int):List Nat:=s.flatMap λx=>[x.toNat % 256,x.toNat / 256 % 256]
def zw9 (s:List Int):List UInt8:=(ytp s).map UInt8.ofNat
def stN:List UInt8->List Int
 | a::b::l=>((a.toNat+b.toNat*256:Nat):Int)::stN l
 | _=>[]
theorem zk0 {x:Int} {s:List Int}:ytp (x::s)=x.toNat % 256::x.toNat / 256 % 256::ytp s:=by simp [ytp]
theorem yxj {s t:List Int}:ytp (s++t)=ytp s++ytp t:=by simp [ytp]
theorem zlq:∀ {s:List Int},(ytp s).length=2*s.length
 | []=>rfl
 | x::s=>by rw [zk0];simp only [tzd,zlq (s:=s)];omega
theorem yxk {n:Nat} (h:n<256):(UInt8.ofNat n).toNat=n:=by rw [UInt8.toNat_ofNat',txu h]
theorem yxl:∀ {s:List Int},(∀ x∈s,0<=x/\x<65536)->stN (zw9 s)=s
 | [],_=>rfl
 | x::s,h=>by
  obtain ⟨h1,h2⟩:=h x (tz0 ..);unfold zw9;rw [zk0,txe,txe];show _::stN (zw9 s)=_;rw [yxl λy hy=>h y (tzq _ hy),yxk (by omega),yxk (by omega)];congr 1;omega
theorem yfh {s:List Int}:(zw9 s).length=2*s.length:=by unfold zw9;rw [tyk,zlq]
theorem yfi {s:List Int} (hs:∀ x∈s,0<=x/\x<65536):∀ {i:Nat} {x:Int},s[i]? =some x->∃ a b:UInt8,(zw9 s)[2*i]? =some a/\(zw9 s)[2*i+1]? =some b/\x=((a.toNat+b.toNat*256:Nat):Int):=by
 induction s with
 | nil=>intro i x h;simp at h
 | cons y s ih=>
  intro i x h;have e:zw9 (y::s)=UInt8.ofNat (y.toNat % 256)::UInt8.ofNat (y.toNat / 256 % 256)::zw9 s:=by unfold zw9;rw [zk0];rfl
  rw [e];cases i with
  | zero=>
   simp only [txp,tza] at h;subst h;obtain ⟨h1,h2⟩:=hs y (tz0 ..);refine ⟨_,_,rfl,rfl,?_⟩;rw [yxk (by omega),yxk (by omega)];omega
  | succ i=>
   rw [txr] at h;obtain ⟨a,b,h1,h2,h3⟩:=ih (λz hz=>hs z (tzq _ hz)) h;refine ⟨a,b,?_,?_,h3⟩
   .grind
   grind
def zik (a:Aut) (s:List Int) (c:Nat):List Int:=(s.map λx=>a.go x c).filter λt=>decide (0<=t)
theorem yme {a:Aut} {s:List Int} {c:Nat} {x:Int}:zik a (s++[x]) c=zik a s c++if 0<=a.go x c then [a.go x c] else []:=by
 unfold zik;rw [txk,List.filter_append];congr 1;by_cases h:0<=a.go x c<;>simp [h]
theorem zfe {a:Aut} {s:List Int} {c:Nat}:(zik a s c).length<=s.length:=by
 unfold zik;exact tys (List.length_filter_le ..) (by rw [tyk];exact tzp _)
theorem yfj {a:Aut} {s:List Int} {c:Nat} {t:Int}:t∈zik a s c↔0<=t/\∃ x∈s,a.go x c=t:=by
 unfold zik;rw [List.mem_filter,tyg,decide_eq_true_eq];exact ⟨λ⟨h1,h2⟩=>⟨h2,h1⟩,λ⟨h1,h2⟩=>⟨h2,h1⟩⟩
def inA (a:Aut) (s:List Int):Prop:=∀ x∈s,0<=x/\x<(a.nxt.length:Nat)
theorem inA.fol {a:Aut} (hv:a.valid) {s:List Int} {c:Nat}:inA a (zik a s c):=λt ht=>by
 obtain ⟨h1,x,_,rfl⟩:=yfj.1 ht;exact ⟨h1,(Aut.go_dom hv).2⟩
theorem inA.hi {a:Aut} (hv:a.valid) {s:List Int} (h:inA a s):∀ x∈s,0<=x/\x<65536:=λx hx=>by
 have:=h x hx;have:=hv.most;have:=hv.len;omega
end Go.Fsa
namespace Go.Fsa
theorem zs2 {α:Type} [DecidableEq α]:∀ {q L:List α},q.Nodup->(∀ x∈q,x∈L)->q.length<=L.length
 | [],L,_,_=>tz6 _
 | x::q,L,hn,hs=>by
  rw [List.nodup_cons] at hn;have hx:=hs x (tz0 ..)
  have h1:=zs2 (q:=q) (L:=L.erase x) hn.2 λy hy=>by
   grind
  have h2:=List.length_erase_of_mem hx;have h3:=List.length_pos_of_mem hx;simp only [tzd];omega
def yl7:Nat->List (List Int)
 | 0=>[[]]
 | n+1=>yl7 n++(yl7 n).map (·++[(n:Int)])
theorem zlr:∀ n,(yl7 n).length=2 ^ n
 | 0=>rfl
 | n+1=>by rw [yl7,tz5,tyk,zlr n,Nat.pow_succ];omega
theorem ytq {n:Nat} {l:List Int}:zyu (n+1) l=zyu n l++if (n:Int)∈l then [(n:Int)] else []:=by
 unfold zyu;rw [List.range_succ,txk,List.filter_append];congr 1;by_cases h:(n:Int)∈l<;>simp [h]
theorem ztd:∀ {n:Nat} {l:List Int},zyu n l∈yl7 n
 | 0,l=>by simp [zyu,yl7]
 | n+1,l=>by
  rw [ytq,yl7];by_cases h:(n:Int)∈l
  .rw [if_pos h];exact txg _ (tyg.2 ⟨_,ztd,rfl⟩)
  .rw [if_neg h,tyv];exact txf _ ztd
theorem ztv {n:Nat} {l:List Int}:∀ x∈zyu n l,0<=x/\x<(n:Int):=λx hx=>by
 unfold zyu at hx;rw [List.mem_filter,tyg] at hx;obtain ⟨⟨i,hi,rfl⟩,_⟩:=hx;rw [txc] at hi;exact ⟨by omega,by omega⟩
theorem zte {n:Nat} {l:List Int}:(zyu n l).length<=n:=by
 unfold zyu;exact tys (List.length_filter_le ..) (by simp)
def ymf (a b:Aut) (f:Int) (l:List Int):List Int:=if a.accB f=true/\0<b.acc.length then l++[b.st] else l
def ztf (a b:Aut) (f:Int) (l:List Int):Int×List UInt8:=(f,zw9 (zyu b.nxt.length (ymf a b f l)))
def zog (a b:Aut) (p:Int×List UInt8):List (Option (Int×List UInt8)):=(List.range a.sy.toNat).map λc=>some (ztf a b (a.go p.1 c) (zik b (stN p.2) c))
def ydv (b:Aut) (p:Int×List UInt8):Bool:=(stN p.2).any b.accB
def yl8 (a b:Aut) (p:Int×List UInt8):Prop:=a.dom p.1/\∃ l,p.2=zw9 (zyu b.nxt.length l)
theorem zoh {a b:Aut} {p:Int×List UInt8}:(zog a b p).length=a.sy.toNat:=by simp [zog]
theorem zdw {a b:Aut} {p:Int×List UInt8} {c:Nat} {o:Option (Int×List UInt8)} (h:(zog a b p)[c]? =some o):o=some (ztf a b (a.go p.1 c) (zik b (stN p.2) c))/\(c:Int)<a.sy:=by
 have hc:=zzy h;rw [zoh] at hc;unfold zog at h;rw [tzr,tz7 hc] at h;simp only [tz2,tza] at h;exact ⟨h.symm,by omega⟩
theorem zs3 {a b:Aut} {f:Int} {l:List Int} (h:a.dom f):yl8 a b (ztf a b f l):=⟨h,_,rfl⟩
theorem zoi {a b:Aut} (ha:a.valid) {s:Int×List UInt8} (_:yl8 a b s) {t:Int×List UInt8} (ht:some t∈zog a b s):yl8 a b t:=by
 unfold zog at ht;obtain ⟨k,_,e⟩:=tyg.1 ht;simp only [tza] at e;rw [<-e];exact zs3 (Aut.go_dom ha)
def xr6 (a b:Aut):List (Int×List UInt8):=((List.range (a.nxt.length+1)).map λi:Nat=>(i:Int)-1).flatMap λf=>(yl7 b.nxt.length).map λs=>(f,zw9 s)
theorem yfk {a b:Aut}:(xr6 a b).length=(a.nxt.length+1)*2 ^ b.nxt.length:=by
 unfold xr6;rw [List.length_flatMap];simp only [tyk,zlr,List.map_const',List.length_range];simp
theorem yfl {a b:Aut} {p:Int×List UInt8} (h:yl8 a b p):p∈xr6 a b:=by
 obtain ⟨⟨h1,h2⟩,l,h3⟩:=h;unfold xr6;rw [typ];refine ⟨p.1,tyg.2 ⟨(p.1+1).toNat,txc.2 (by omega),by omega⟩,tyg.2 ⟨_,ztd (l:=l),?_⟩⟩;rw [<-h3]
theorem yxm {a b:Aut} {q:List (Int×List UInt8)} (h1:∀ s∈q,yl8 a b s) (h2:q.Nodup):q.length<=(a.nxt.length+1)*2 ^ b.nxt.length:=by
 rw [<-yfk];exact zs2 h2 λx hx=>yfl (h1 x hx)
end Go.Fsa
namespace Go.Fsa
inductive Stars (L:List Nat->Prop):List Nat->Prop
 | nil:Stars L []
 | app {u v:List Nat}:L u->u≠[]->Stars L v->Stars L (u++v)
def xls (a:Aut) (w:List Nat):Prop:=a.accW a.begin w=true
def ytr (a:Aut) (l:List Int):List Int:=if l.any a.accB=true then l++[a.st] else l
def yfm (a:Aut) (l:List Int):Bool×List UInt8:=(false,zw9 (zyu a.nxt.length (ytr a l)))
def zoj (a:Aut) (p:Bool×List UInt8):List (Option (Bool×List UInt8)):=(List.range a.sy.toNat).map λc=>some (yfm a (zik a (stN p.2) c))
def zdx (a:Aut) (p:Bool×List UInt8):Bool:=p.1||(stN p.2).any a.accB
def zk1 (a:Aut):Bool×List UInt8:=(true,zw9 (zyu a.nxt.length (if 0<a.acc.length then [a.st] else [])))
def yl9 (a:Aut) (p:Bool×List UInt8):Prop:=∃ l,p.2=zw9 (zyu a.nxt.length l)
theorem zok {a:Aut} {p:Bool×List UInt8}:(zoj a p).length=a.sy.toNat:=by simp [zoj]
theorem zdy {a:Aut} {p:Bool×List UInt8} {c:Nat} {o:Option (Bool×List UInt8)} (h:(zoj a p)[c]? =some o):o=some (yfm a (zik a (stN p.2) c))/\(c:Int)<a.sy:=by
 have hc:=zzy h;rw [zok] at hc;unfold zoj at h;rw [tzr,tz7 hc] at h;simp only [tz2,tza] at h;exact ⟨h.symm,by omega⟩
theorem zol {a:Aut} {s:Bool×List UInt8} (_:yl9 a s) {t:Bool×List UInt8} (ht:some t∈zoj a s):yl9 a t:=by
 unfold zoj at ht;obtain ⟨k,_,e⟩:=tyg.1 ht;simp only [tza] at e;rw [<-e];exact ⟨_,rfl⟩
def xo7 (a:Aut):List (Bool×List UInt8):=[false,true].flatMap λf=>(yl7 a.nxt.length).map λs=>(f,zw9 s)
theorem yxn {a:Aut} {q:List (Bool×List UInt8)} (h1:∀ s∈q,yl9 a s) (h2:q.Nodup):q.length<=2*2 ^ a.nxt.length:=by
 have e:(xo7 a).length=2*2 ^ a.nxt.length:=by simp [xo7,zlr];omega
 rw [<-e];refine zs2 h2 λx hx=>?_;obtain ⟨l,h3⟩:=h1 x hx;unfold xo7;rw [typ];refine ⟨x.1,by cases x.1<;>simp,tyg.2 ⟨_,ztd (l:=l),?_⟩⟩;rw [<-h3]
theorem znf {a:Aut} (hv:a.valid) {l:List Int}:stN (zw9 (zyu a.nxt.length l))=zyu a.nxt.length l:=yxl λx hx=>by
 have:=ztv x hx;have:=hv.most;have:=hv.len;omega
def yts (a:Aut) (t:Int) (c:Nat):List Int:=((List.range a.nxt.length).map λi:Nat=>(i:Int)).filter λx=>decide (a.go x c=t)
def zom (a:Aut) (s:List Int) (c:Nat):List Int:=s.flatMap λt=>yts a t c
def ztg (a:Aut):List Int:=((List.range a.nxt.length).map λi:Nat=>(i:Int)).filter a.accB
def zng (a:Aut) (p:List UInt8):List (Option (List UInt8)):=(List.range a.sy.toNat).map λc=>some (zw9 (zyu a.nxt.length (zom a (stN p) c)))
def xy3 (a:Aut) (p:List UInt8):Bool:=decide (a.begin∈stN p)
def yfn (a:Aut) (p:List UInt8):Prop:=∃ l,p=zw9 (zyu a.nxt.length l)
theorem yxo {a:Aut} {t:Int} {c:Nat} {x:Int}:x∈yts a t c↔(0<=x/\x<(a.nxt.length:Nat))/\a.go x c=t:=by
 unfold yts;rw [List.mem_filter,tyg,decide_eq_true_eq];simp only [txc];exact ⟨λ⟨⟨i,hi,e⟩,h⟩=>⟨⟨by omega,by omega⟩,h⟩,λ⟨⟨h0,h1⟩,h⟩=>⟨⟨x.toNat,by omega,by omega⟩,h⟩⟩
theorem ymg {a:Aut} {x:Int}:x∈ztg a↔(0<=x/\x<(a.nxt.length:Nat))/\a.accB x=true:=by
 unfold ztg;rw [List.mem_filter,tyg];simp only [txc];exact ⟨λ⟨⟨i,hi,e⟩,h⟩=>⟨⟨by omega,by omega⟩,h⟩,λ⟨⟨h0,h1⟩,h⟩=>⟨⟨x.toNat,by omega,by omega⟩,h⟩⟩
theorem zk2 {a:Aut} {s:List Int} {c:Nat} {x:Int}:x∈zom a s c↔(0<=x/\x<(a.nxt.length:Nat))/\a.go x c∈s:=by
 unfold zom;rw [typ];simp only [yxo];exact ⟨λ⟨t,ht,h,e⟩=>⟨h,by rw [e];exact ht⟩,λ⟨h,hs⟩=>⟨_,hs,h,rfl⟩⟩
theorem zk3 {n:Nat}:((List.range n).map λi:Nat=>(i:Int)).Nodup:=by
 unfold List.Nodup;rw [List.pairwise_map];exact List.nodup_range.imp λh e=>h (by omega)
theorem zk4 {a:Aut} {c:Nat}:∀ {s:List Int},s.Nodup->(zom a s c).Nodup
 | [],_=>List.nodup_nil
 | t::s,h=>by
  rw [List.nodup_cons] at h;show (yts a t c++zom a s c).Nodup;rw [List.nodup_append];refine ⟨List.Pairwise.filter _ zk3,zk4 h.2,λx hx y hy e=>?_⟩;subst e;have h1:=(yxo.1 hx).2;have h2:=(zk2.1 hy).2;rw [h1] at h2;exact h.1 h2
theorem yza {n:Nat} {l:List Int}:(zyu n l).Nodup:=List.Pairwise.filter _ zk3
theorem zk5 {a:Aut} {s:List Int} {c:Nat} (h:s.Nodup):(zom a s c).length<=a.nxt.length:=by
 have:=zs2 (zk4 (a:=a) (c:=c) h) (L:=(List.range a.nxt.length).map λi:Nat=>(i:Int)) λx hx=>by
  have:=(zk2.1 hx).1;exact tyg.2 ⟨x.toNat,txc.2 (by omega),by omega⟩
 simpa using this
theorem ymh {a:Aut}:(ztg a).length<=a.nxt.length:=by
 unfold ztg;exact tys (List.length_filter_le ..) (by simp)
theorem zk6 {a:Aut} {p:List UInt8}:(zng a p).length=a.sy.toNat:=by simp [zng]
theorem ymi {a:Aut} {p:List UInt8} {c:Nat} {o:Option (List UInt8)} (h:(zng a p)[c]? =some o):o=some (zw9 (zyu a.nxt.length (zom a (stN p) c)))/\(c:Int)<a.sy:=by
 have hc:=zzy h;rw [zk6] at hc;unfold zng at h;rw [tzr,tz7 hc] at h;simp only [tz2,tza] at h;exact ⟨h.symm,by omega⟩
theorem zk7 {a:Aut} {s:List UInt8} (_:yfn a s) {t:List UInt8} (ht:some t∈zng a s):yfn a t:=by
 unfold zng at ht;obtain ⟨k,_,e⟩:=tyg.1 ht;simp only [tza] at e;rw [<-e];exact ⟨_,rfl⟩
theorem yxp {a:Aut} {q:List (List UInt8)} (h1:∀ s∈q,yfn a s) (h2:q.Nodup):q.length<=2 ^ a.nxt.length:=by
 have e:((yl7 a.nxt.length).map zw9).length=2 ^ a.nxt.length:=by rw [tyk,zlr]
 rw [<-e];refine zs2 h2 λx hx=>?_;obtain ⟨l,rfl⟩:=h1 x hx;exact tyg.2 ⟨_,ztd,rfl⟩
def goW (a:Aut) (s:Int) (w:List Nat):Int:=w.foldl (λs c=>a.go s c) s
end Go.Fsa
namespace Go.Fsa
section
variable {S:Type} [DecidableEq S]
def exN (succ:S->List (Option S)) (s0:S) (N:Nat):List S×List (List Int):=(exR id succ 100000 (N+1) 0 [s0]).getD ([],[])
def mkM (sy:Int) (succ:S->List (Option S)) (ac:S->Bool) (s0:S) (N:Nat):Aut:=zq3 sy ac (exN succ s0 N)
variable {succ:S->List (Option S)} {ac:S->Bool} {s0:S} {N:Nat} {dom:S->Prop} {sy:Int}
theorem yxq (h0:dom s0) (hd:∀ s,dom s->∀ t,some t∈succ s->dom t) (hb:∀ q:List S,(∀ s∈q,dom s)->q.Nodup->q.length<=N) (hN:N<=100000) :
  exR id succ 100000 (N+1) 0 [s0]=some (exN succ s0 N)/\(exN succ s0 N).1.length<=N:=by
 obtain ⟨r,hr⟩:=zoa (key:=id) (succ:=succ) (most:=100000) (dom:=dom) (N:=N) hd (λq h1 h2=>hb q h1 (by simpa using h2)) hN (F:=N+1) (i:=0) (qs:=[s0]) (λs hs=>by rw [tzw] at hs;rw [hs];exact h0) (by simp) (by omega) (by simp);have e:exN succ s0 N=r:=by unfold exN;rw [hr];rfl
 rw [e];refine ⟨hr,?_⟩;obtain ⟨d1,d2⟩:=zne (dom:=dom) hd (λs hs=>by rw [tzw] at hs;rw [hs];exact h0) (by simp) hr;exact hb _ d1 (by simpa using d2)
theorem xy4 (h1:1<=sy) (h2:sy<=400) (hlen:∀ s,((succ s).length:Int)=sy) (h0:dom s0) (hd:∀ s,dom s->∀ t,some t∈succ s->dom t) (hb:∀ q:List S,(∀ s∈q,dom s)->q.Nodup->q.length<=N) (hN:N<=20000):(mkM sy succ ac s0 N).valid/\0<(mkM sy succ ac s0 N).acc.length:=by
 obtain ⟨e1,e2⟩:=yxq h0 hd hb (by omega);exact ymc h1 h2 hlen e1 (by omega)
end
def zil (a b:Aut):Nat:=(a.nxt.length+1)*2 ^ b.nxt.length
def ymj (a b:Aut):Aut:=mkM a.sy (zog a b) (ydv b) (ztf a b a.begin []) (zil a b)
theorem xy5 {a b:Aut} (ha:a.valid) (hb:b.valid) (hs:a.sy=b.sy) (hN:zil a b<=20000):(ymj a b).valid/\0<(ymj a b).acc.length:=by
 have h1:=ha.lo;have h2:=ha.hi;exact xy4 (sy:=a.sy) (succ:=zog a b) (ac:=ydv b) (dom:=yl8 a b) (s0:=ztf a b a.begin []) (by omega) (by omega) (λs=>by rw [zoh];omega) (zs3 (zuf ha)) (λs hs t ht=>zoi ha hs ht) (λq h1 h2=>yxm h1 h2) hN
def zim (a:Aut):Nat:=2*2 ^ a.nxt.length
def ymk (a:Aut):Aut:=mkM a.sy (zoj a) (zdx a) (zk1 a) (zim a)
theorem xy6 {a:Aut} (ha:a.valid) (hN:zim a<=20000):(ymk a).valid/\0<(ymk a).acc.length:=by
 have h1:=ha.lo;have h2:=ha.hi;exact xy4 (sy:=a.sy) (succ:=zoj a) (ac:=zdx a) (dom:=yl9 a) (s0:=zk1 a) (by omega) (by omega) (λs=>by rw [zok];omega) ⟨_,rfl⟩ (λs hs t ht=>zol hs ht) (λq h1 h2=>yxn h1 h2) hN
def zff (a:Aut):Nat:=2 ^ a.nxt.length
def xsy (a:Aut):Aut:=mkM a.sy (zng a) (xy3 a) (zw9 (zyu a.nxt.length (ztg a))) (zff a)
theorem xsz {a:Aut} (ha:a.valid) (hN:zff a<=20000):(xsy a).valid/\0<(xsy a).acc.length:=by
 have h1:=ha.lo;have h2:=ha.hi;exact xy4 (sy:=a.sy) (succ:=zng a) (ac:=xy3 a) (dom:=yfn a) (s0:=zw9 (zyu a.nxt.length (ztg a))) (by omega) (by omega) (λs=>by rw [zk6];omega) ⟨_,rfl⟩ (λs hs t ht=>zk7 hs ht) (λq h1 h2=>yxp h1 h2) hN
end Go.Fsa
namespace Go.Fsa
def Aut.wide (T:Aut):Aut:=⟨T.sy,T.st,T.acc++[false],T.nxt++[List.replicate T.sy.toNat (-1)]⟩
def Aut.putT (T:Aut) (s c:Nat) (t:Int):Aut:=⟨T.sy,T.st,T.acc,T.nxt.set s (((T.nxt[s]?).getD []).set c t)⟩
def ysq (T:Aut) (s c:Nat):Aut×Nat:=if T.go s c<0 then (T.wide.putT s c T.acc.length,T.acc.length) else (T,(T.go s c).toNat)
def trW:Aut->Nat->List Int->Aut×Nat
 | T,s,[]=>(T,s)
 | T,s,c::w=>trW (ysq T s c.toNat).1 (ysq T s c.toNat).2 w
def zin (r:Aut×Nat):Aut:=⟨r.1.sy,r.1.st,r.1.acc.set r.2 true,r.1.nxt⟩
def zfg (sy:Int):Aut:=⟨sy,0,[false],[List.replicate sy.toNat (-1)]⟩
def trM:Aut->List (List Int)->Aut
 | T,[]=>T
 | T,w::l=>trM (zin (trW T 0 w)) l
def zm3 (sy:Int) (l:List (List Int)):Aut:=trM (zfg sy) l
structure TrOK (sy:Int) (T:Aut):Prop where
 sy:T.sy=sy
 st:T.st=0
 pos:0<T.acc.length
 fine:T.fine
theorem yxr {sy:Int} (h:1<=sy):TrOK sy (zfg sy):=⟨rfl,rfl,Nat.succ_pos _,rfl,λr hr=>by
 simp only [zfg,tzw] at hr
 subst hr
 refine ⟨?_,λt ht=>?_⟩
 .rw [tyz];show ((sy.toNat:Nat):Int)=sy;omega
 .grind⟩
theorem yml {sy:Int} {T:Aut} (h:TrOK sy T) (hs:1<=sy):TrOK sy T.wide:=by
 obtain ⟨h1,h2,h3,h4,h5⟩:=h;refine ⟨h1,h2,by simp [Aut.wide],by simp [Aut.wide,h4],λr hr=>?_⟩;simp only [Aut.wide,tyh,tzw] at hr;rcases hr with hr | rfl
 .obtain ⟨g1,g2⟩:=h5 r hr;exact ⟨g1,λt ht=>⟨(g2 t ht).1,by have:=(g2 t ht).2;simp only [Aut.wide,tz5,List.length_singleton];omega⟩⟩
 .refine ⟨?_,λt ht=>?_⟩
  .rw [tyz];show ((T.sy.toNat:Nat):Int)=T.sy;omega
  .grind
theorem ymm {sy:Int} {T:Aut} (h:TrOK sy T) {s c t:Nat} (ht:t<T.acc.length):TrOK sy (T.putT s c t):=by
 obtain ⟨h1,h2,h3,h4,h5⟩:=h;refine ⟨h1,h2,h3,by simp [Aut.putT,h4],λr hr=>?_⟩;simp only [Aut.putT] at hr ⊢;rcases List.mem_or_eq_of_mem_set hr with hr' | rfl
 .exact h5 r hr'
 by_cases hs:s<T.nxt.length
 .obtain ⟨q,hq⟩:∃ q,T.nxt[s]? =some q:=⟨_,tzb hs⟩;obtain ⟨g1,g2⟩:=h5 q (tzg hq);rw [hq,tye];refine ⟨by rw [tz3];exact g1,λx hx=>?_⟩;rcases List.mem_or_eq_of_mem_set hx with hx' | rfl
  .exact g2 x hx'
  exact ⟨by omega,by omega⟩
 .rw [List.set_eq_of_length_le (by omega)] at hr;exact h5 _ hr
theorem xy7 {sy:Int} {T:Aut} (h:TrOK sy T) (hs:1<=sy) {s c:Nat} (hsl:s<T.acc.length):TrOK sy (ysq T s c).1/\T.acc.length<=(ysq T s c).1.acc.length/\(ysq T s c).1.acc.length<=T.acc.length+1/\(ysq T s c).2<(ysq T s c).1.acc.length:=by
 unfold ysq;split
 .have hw:=yml h hs;exact ⟨ymm hw (by simp [Aut.wide]),by simp [Aut.putT,Aut.wide],by simp [Aut.putT,Aut.wide],by simp [Aut.putT,Aut.wide]⟩
 rename_i hg;refine ⟨h,tzp _,by simp,?_⟩;have h5:=h.fine.rows;have h4:=h.fine.len;simp only [Aut.go] at hg ⊢;rw [if_neg (by omega)] at hg ⊢;obtain ⟨r,hr⟩:∃ r,T.nxt[s]? =some r:=⟨_,tzb (by omega)⟩;simp only [tym,hr,tzn] at hg ⊢;cases hc:r[c]? with
 | none=>rw [hc] at hg;simp at hg
 | some t=>
  rw [hc] at hg;have:=(h5 r (tzg hr)).2 t (tzg hc);simp only [tye] at hg ⊢;omega
theorem yxs {sy:Int} (hs:1<=sy):∀ {w:List Int} {T:Aut} {s:Nat},TrOK sy T->s<T.acc.length->TrOK sy (trW T s w).1/\T.acc.length<=(trW T s w).1.acc.length/\(trW T s w).1.acc.length<=T.acc.length+w.length/\(trW T s w).2<(trW T s w).1.acc.length
 | [],T,s,h,h0=>⟨h,tzp _,tzp _,h0⟩
 | c::w,T,s,h,h0=>by
  obtain ⟨g1,g2,g3,g4⟩:=xy7 h hs (c:=c.toNat) h0;obtain ⟨k1,k2,k3,k4⟩:=yxs hs (w:=w) g1 g4;exact ⟨k1,tys g2 k2,by simp only [trW,tzd];omega,k4⟩
theorem yxt {sy:Int} {r:Aut×Nat} (h:TrOK sy r.1):TrOK sy (zin r):=by
 obtain ⟨h1,h2,h3,h4,h5⟩:=h;exact ⟨h1,h2,by simp only [zin,tz3];exact h3,by simp only [zin,tz3];exact h4,by simp only [zin,tz3];exact h5⟩
theorem zdz {r:Aut×Nat}:(zin r).acc.length=r.1.acc.length:=by simp [zin]
def zie (l:List (List Int)):Nat:=(l.map List.length).sum
theorem ydw {sy:Int} (hs:1<=sy):∀ {l:List (List Int)} {T:Aut},TrOK sy T->TrOK sy (trM T l)/\T.acc.length<=(trM T l).acc.length/\(trM T l).acc.length<=T.acc.length+zie l
 | [],T,h=>⟨h,tzp _,tzp _⟩
 | w::l,T,h=>by
  obtain ⟨g1,g2,g3,g4⟩:=yxs hs (w:=w) h h.pos;obtain ⟨k1,k2,k3⟩:=ydw hs (l:=l) (yxt g1);rw [zdz] at k2 k3;exact ⟨k1,tys g2 k2,by simp only [trM,zie,txe,List.sum_cons] at k3 ⊢;omega⟩
theorem yfo {sy:Int} {l:List (List Int)} (h1:1<=sy) (h2:sy<=400) (hN:zie l<20000):(zm3 sy l).valid/\0<(zm3 sy l).acc.length/\(zm3 sy l).st=0/\(zm3 sy l).sy=sy:=by
 obtain ⟨⟨g1,g2,g3,g4,g5⟩,k2,k3⟩:=ydw h1 (l:=l) (yxr h1);have e:(zfg sy).acc.length=1:=rfl;rw [e] at k2 k3;unfold zm3;exact ⟨⟨by omega,by omega,by omega,g4,by omega,by omega,g5⟩,g3,g2,g1⟩
def yfp (sy:Int) (w:List Int):Bool:=!(w.any λx=>decide (x<0∨sy<=x))
def zqo (sy:Int) (l:List (List Int)):Aut×Int:=if 1<=sy/\sy<=400/\l.all (yfp sy)=true then ((zm3 sy l).canP,0) else (⟨0,0,[],[]⟩,1)
end Go.Fsa
namespace Go.Fsa
def Aut.wds (a:Aut):Nat->Int->List (List Int)
 | 0,s=>if a.accB s then [[]] else []
 | k+1,s=>(List.range a.sy.toNat).flatMap λc=>if 0<=a.go s c then (a.wds k (a.go s c)).map ((c:Int)::·) else []
def Aut.wdsTo (a:Aut) (k:Nat) (s:Int) (m:Nat):List (List Int):=(List.range m).flatMap λc=>if 0<=a.go s c then (a.wds k (a.go s c)).map ((c:Int)::·) else []
theorem Aut.wdsTo_succ {a:Aut} {k m:Nat} {s:Int}:a.wdsTo k s (m+1)=a.wdsTo k s m++(if 0<=a.go s m then (a.wds k (a.go s m)).map ((m:Int)::·) else []):=by
 unfold Aut.wdsTo;rw [List.range_succ,List.flatMap_append];simp
def zq4 (n:Nat) (acc:List (List Int)) (w:List Int) (l:List (List Int)):List (List Int):=acc++(l.map (w++·)).take (n-acc.length)
theorem zls {n:Nat} {acc:List (List Int)} {w:List Int}:zq4 n acc w []=acc:=by simp [zq4]
theorem zk8 {n:Nat} {acc:List (List Int)} {w:List Int} {l:List (List Int)} (h:n<=acc.length):zq4 n acc w l=acc:=by
 unfold zq4;rw [Nat.sub_eq_zero_of_le h];simp
theorem yxu {n:Nat} {acc:List (List Int)} {w:List Int} {l m:List (List Int)}:zq4 n (zq4 n acc w l) w m=zq4 n acc w (l++m):=by
 unfold zq4;rw [tyd];congr 1;rw [txk,List.take_append];congr 2;simp only [tz5,tyw,tyk];omega
theorem zd0 {n:Nat} {acc:List (List Int)} {w:List Int} {c:Int} {l:List (List Int)}:zq4 n acc (w++[c]) l=zq4 n acc w (l.map (c::·)):=by
 unfold zq4;simp [List.map_map,Function.comp_def]
theorem yxv {n:Nat} {acc:List (List Int)} {w:List Int} {l:List (List Int)} (h:acc.length<=n):(zq4 n acc w l).length<=n:=by
 unfold zq4;simp only [tz5,tyw,tyk];omega
def Aut.fulW (a:Aut) (k:Nat) (s:Int):Bool:=!(a.wds k s).isEmpty
theorem Aut.fulW_succ {a:Aut} {k:Nat} {s:Int}:a.fulW (k+1) s=(List.range a.sy.toNat).any λc=>decide (0<=a.go s c)&&a.fulW k (a.go s c):=by
 rw [ty1];unfold Aut.fulW;simp only [Bool.not_eq_true',List.isEmpty_eq_false_iff,List.any_eq_true,tzc,decide_eq_true_eq];simp only [Aut.wds,ne_eq,List.flatMap_eq_nil_iff,Classical.not_forall];constructor
 .grind
 rintro ⟨c,hc,h0,h⟩;refine ⟨c,hc,?_⟩;rw [if_pos h0];intro e;exact h (List.map_eq_nil_iff.1 e)
def Aut.list (a:Aut) (n:Nat):Nat->List (List Int)
 | 0=>[]
 | k+1=>zq4 n (a.list n k) [] (a.wds k a.st)
end Go.Fsa
namespace Go.Fsa
def xma:List Int->List Int->Bool
 | x::u,y::v=>if x=y then xma u v else decide (x<y)
 | _,_=>false
def xlt (u v:List Int):Bool:=if u.length=v.length then xma u v else decide (u.length<v.length)
def st2 (a b:Aut) (p:Int×Int) (u:List Int):Int×Int:=u.foldl (λs c=>(a.go s.1 c.toNat,b.go s.2 c.toNat)) p
end Go.Fsa
namespace Go.Fsa
variable {a:Aut}
def Aut.foldG (a:Aut) (s:Int) (w:List Int):Int:=(w.map Int.toNat).foldl (λs c=>a.go s c) s
def Aut.allW (a:Aut) (k:Nat):List (List Int):=(List.range k).flatMap λj=>a.wds j a.st
end Go.Fsa
namespace Go.Fsa
def xjn (m:Nat) (p:Int×Int):Nat:=((p.1+1)*((m+1:Nat):Int)+p.2+1).toNat
structure NumQ (K:Int×Int->Nat) (dom:Int×Int->Prop) (M:Nat) (N:List Int) (q:List (Int×Int)):Prop where
 len:N.length=M
 yes:∀ y∈q,N[K y]? =some ((zwe q y+1:Nat):Int)
 no:∀ y,dom y->¬y∈q->N[K y]? =some 0
theorem NumQ.add {K:Int×Int->Nat} {dom:Int×Int->Prop} {M:Nat} {N:List Int} {q:List (Int×Int)} (h:NumQ K dom M N q) (hK:∀ x y,dom x->dom y->K x=K y->x=y) (hq:∀ y∈q,dom y) {y:Int×Int} (hy:dom y) (hl:K y<M) (hn:¬y∈q) :
  NumQ K dom M (N.set (K y) ((q.length+1:Nat):Int)) (q++[y]):=by
 have hlen:=h.len;refine ⟨by rw [tz3];exact hlen,λz hz=>?_,λz hd hz=>?_⟩
 .rcases tyh.1 hz with g | g
  .have e:¬K y=K z:=λe=>hn (by rw [hK y z hy (hq z g) e];exact g);rw [tz4 e,h.yes z g,yxc g]
  rw [tzw] at g;subst g;rw [tz1 (by omega),zg5 (m:=q.length)]
  .simp
  grind
 .have g:¬z∈q:=λg=>hz (txf _ g);have e:¬K y=K z:=λe=>hz (by rw [hK y z hy hd e];simp);rw [tz4 e,h.no z hd g]
theorem NumQ.one {K:Int×Int->Nat} {dom:Int×Int->Prop} {M:Nat} (hK:∀ x y,dom x->dom y->K x=K y->x=y) (hM:∀ x,dom x->K x<M) {y:Int×Int} (hy:dom y):NumQ K dom M ((List.replicate M 0).set (K y) 1) [y]:=by
 have h:NumQ K dom M (List.replicate M 0) []:=⟨by simp,λy h=>(txt h).elim,λy hy _=>by rw [tyq,if_pos (hM y hy)]⟩;exact h.add hK (λy h=>(txt h).elim) hy (hM y hy) (by simp)
end Go.Fsa
