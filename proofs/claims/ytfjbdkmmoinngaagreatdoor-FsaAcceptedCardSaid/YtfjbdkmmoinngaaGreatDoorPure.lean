/- Texts of this proof, part Pure. -/
import Derived.Test.YtfjbdkmmoinngaaGreatDoorAl
set_option linter.unusedVariables false
set_option linter.unusedSimpArgs false
set_option linter.unusedSectionVars false
noncomputable section
namespace Go.Fsa
structure Aut where
 sy:Int
 st:Int
 acc:List Bool
 nxt:List (List Int)
def zli (sy:Int) (n:Nat) (r:List Int):Prop:=(r.length:Int)=sy/\∀ t∈r,¬t < -1/\¬(n:Int)<=t
instance (sy:Int) (n:Nat) (r:List Int):Decidable (zli sy n r):=inferInstanceAs (Decidable (_/\_))
structure Aut.valid (a:Aut):Prop where
 lo:¬a.sy<1
 hi:¬400<a.sy
 most:¬20000<a.acc.length
 len:a.nxt.length=a.acc.length
 st0:¬a.st<0
 st1:¬max (a.acc.length:Int) 1<=a.st
 rows:∀ r∈a.nxt,zli a.sy a.acc.length r
theorem Aut.valid_iff (a:Aut):a.valid↔(¬a.sy<1/\¬400<a.sy/\¬20000<a.acc.length/\a.nxt.length=a.acc.length/\¬a.st<0/\¬max (a.acc.length:Int) 1<=a.st/\∀ r∈a.nxt,zli a.sy a.acc.length r):=
 ⟨λh=>⟨h.1,h.2,h.3,h.4,h.5,h.6,h.7⟩,λh=>⟨h.1,h.2.1,h.2.2.1,h.2.2.2.1,h.2.2.2.2.1,h.2.2.2.2.2.1,h.2.2.2.2.2.2⟩⟩
instance (a:Aut):Decidable a.valid:=decidable_of_iff _ a.valid_iff.symm
def Aut.check (a:Aut):Int:=if a.valid then 0 else 60
def Aut.go (a:Aut) (x:Int) (c:Nat):Int:=if x<0 then -1 else ((a.nxt[x.toNat]?).bind λr=>r[c]?).getD (-1)
def Aut.begin (a:Aut):Int:=if a.acc.length=0 then -1 else a.st
def Aut.accB (a:Aut) (x:Int):Bool:=decide (0<=x)&&(a.acc[x.toNat]?).getD false
def Aut.dom (a:Aut) (x:Int):Prop:=-1<=x/\x<(a.nxt.length:Nat)
theorem Aut.go_dom {a:Aut} (hv:a.valid) {x:Int} {c:Nat}:a.dom (a.go x c):=by
 unfold Aut.go
 split
 .exact ⟨by omega,by omega⟩
 .cases h1:a.nxt[x.toNat]? with
  | none=>exact ⟨by simp,by simp;omega⟩
  | some r=>
   cases h2:r[c]? with
   | none=>simp only [tzn,h2];exact ⟨by simp,by simp;omega⟩
   | some t=>
    simp only [tzn,h2,tye]
    have:=(hv.rows r (tzg h1)).2 t (tzg h2)
    have:=hv.len
    exact ⟨by omega,by omega⟩
def zvj (s:Int) (B:List (List Int)) (t:Int):List (List Int):=if 0<=t then B.set t.toNat ((B[t.toNat]?).getD []++[s]) else B
def zwr (s:Int) (r:List Int) (B:List (List Int)):List (List Int):=r.foldl (zvj s) B
def zx5:Nat->List (List Int)->List (List Int)->List (List Int)
 | _,[],B=>B
 | s,r::rs,B=>zx5 (s+1) rs (zwr s r B)
theorem znr {s t:Int} {B:List (List Int)}:(zvj s B t).length=B.length:=by unfold zvj;split<;>simp
theorem zpg {s:Int}:∀ {r:List Int} {B:List (List Int)},(zwr s r B).length=B.length
 | [],B=>rfl
 | t::r,B=>by
  have:=zpg (s:=s) (r:=r) (B:=zvj s B t)
  rw [znr] at this;exact this
theorem zk1:∀ {rs:List (List Int)} {s:Nat} {B:List (List Int)},(zx5 s rs B).length=B.length
 | [],s,B=>rfl
 | r::rs,s,B=>by
  show (zx5 (s+1) rs (zwr s r B)).length=_
  rw [zk1,zpg]
end Go.Fsa
namespace Go.Fsa
inductive Live (acc:List Bool) (rows:List (List Int)):Nat->Prop
 | acc {s:Nat}:acc[s]? =some true->Live acc rows s
 | step {s t:Nat} {r:List Int}:rows[s]? =some r->(t:Int)∈r->Live acc rows t->Live acc rows s
abbrev at_ (B:List (List Int)) (t:Nat):List Int:=(B[t]?).getD []
theorem yts {s u:Int} {B:List (List Int)} {t:Nat} {x:Int} (ht:t<B.length):x∈at_ (zvj s B u) t↔x∈at_ B t∨(u=t/\x=s):=by
 unfold zvj at_
 split
 .rename_i h
  rw [tya]
  split
  .rename_i e
   subst e
   simp only [ht,if_true,tye,tyh,tzw]
   have:u=((u.toNat:Nat):Int):=by omega
   constructor
   .rintro (h | h)
    .exact .inl h
    .exact .inr ⟨this,h⟩
   .rintro (h | ⟨_,h⟩)
    .exact .inl h
    .exact .inr h
  .rename_i e
   constructor
   .exact λh=>.inl h
   .rintro (h | ⟨h,_⟩)
    .exact h
    .exact absurd (by omega:u.toNat=t) e
 .rename_i h
  constructor
  .exact λh=>.inl h
  .rintro (h | ⟨h',_⟩)
   .exact h
   .omega
theorem zk2 {s:Int}:∀ {r:List Int} {B:List (List Int)} {t:Nat} {x:Int},t<B.length->(x∈at_ (zwr s r B) t↔x∈at_ B t∨((t:Int)∈r/\x=s))
 | [],B,t,x,ht=>by simp [zwr]
 | u::r,B,t,x,ht=>by
  have:=zk2 (s:=s) (r:=r) (B:=zvj s B u) (t:=t) (x:=x) (by rw [znr];exact ht)
  show x∈at_ (zwr s r (zvj s B u)) t↔_
  rw [this,yts ht,tzu]
  constructor
  .rintro ((h | ⟨h,h'⟩) | ⟨h,h'⟩)
   .exact .inl h
   .exact .inr ⟨.inl h.symm,h'⟩
   .exact .inr ⟨.inr h,h'⟩
  .rintro (h | ⟨h | h,h'⟩)
   .exact .inl (.inl h)
   .exact .inl (.inr ⟨h.symm,h'⟩)
   .exact .inr ⟨h,h'⟩
theorem zk3:∀ {rs:List (List Int)} {s0:Nat} {B:List (List Int)} {t:Nat} {x:Int},t<B.length->(x∈at_ (zx5 s0 rs B) t↔x∈at_ B t∨∃ j r,rs[j]? =some r/\(t:Int)∈r/\x=((s0+j:Nat):Int))
 | [],s0,B,t,x,ht=>by simp [zx5]
 | u::rs,s0,B,t,x,ht=>by
  show x∈at_ (zx5 (s0+1) rs (zwr s0 u B)) t↔_
  rw [zk3 (by rw [zpg];exact ht),zk2 ht]
  constructor
  .rintro ((h | ⟨h,h'⟩) | ⟨j,r,h1,h2,h3⟩)
   .exact .inl h
   .exact .inr ⟨0,u,rfl,h,by simpa using h'⟩
   .exact .inr ⟨j+1,r,h1,h2,by rw [h3];congr 1;omega⟩
  .rintro (h | ⟨j,r,h1,h2,h3⟩)
   .exact .inl (.inl h)
   .cases j with
    | zero=>
     simp only [txp,tza] at h1
     subst h1
     exact .inl (.inr ⟨h2,by simpa using h3⟩)
    | succ j=>exact .inr ⟨j,r,by simpa using h1,h2,by rw [h3];congr 1;omega⟩
theorem yxn {rows:List (List Int)} {n t:Nat} {x:Int} (ht:t<n):x∈at_ (zx5 0 rows (List.replicate n [])) t↔∃ j r,rows[j]? =some r/\(t:Int)∈r/\x=((j:Nat):Int):=by
 rw [zk3 (by simpa using ht)]
 simp [at_,tyq,ht]
theorem zd6 {s u:Int} {B:List (List Int)} {t:Nat}:(at_ (zvj s B u) t).length<=(at_ B t).length+1:=by
 unfold zvj at_
 split
 .rw [tya]
  split
  .rename_i e
   subst e
   split<;>simp
  .omega
 .omega
theorem zns {s:Int}:∀ {r:List Int} {B:List (List Int)} {t:Nat},(at_ (zwr s r B) t).length<=(at_ B t).length+r.length
 | [],B,t=>by simp [zwr]
 | u::r,B,t=>by
  have h1:=zns (s:=s) (r:=r) (B:=zvj s B u) (t:=t)
  have h2:=zd6 (s:=s) (u:=u) (B:=B) (t:=t)
  show (at_ (zwr s r (zvj s B u)) t).length<=_
  simp only [tzd];omega
theorem zh4 {sy:Nat}:∀ {rs:List (List Int)} {s:Nat} {B:List (List Int)} {t:Nat},(∀ r∈rs,r.length=sy)->(at_ (zx5 s rs B) t).length<=(at_ B t).length+rs.length*sy
 | [],s,B,t,_=>by simp [zx5]
 | u::rs,s,B,t,h=>by
  have h1:=zh4 (sy:=sy) (rs:=rs) (s:=s+1) (B:=zwr s u B) (t:=t) (λr hr=>h r (tzq _ hr))
  have h2:=zns (s:=s) (r:=u) (B:=B) (t:=t)
  have h3:=h u (tz0 ..)
  show (at_ (zx5 (s+1) rs (zwr s u B)) t).length<=_
  rw [tzd,Nat.succ_mul];omega
theorem zqb:∀ {n:Nat} {l:List Int},l.Nodup->(∀ x∈l,0<=x/\x<(n:Int))->l.length<=n
 | 0,l,_,h=>by
  cases l with
  | nil=>simp
  | cons x l=>have:=h x (tz0 ..);omega
 | n+1,l,hd,h=>by
  by_cases hn:(n:Int)∈l
  .have h1:=zqb (n:=n) (l:=l.erase n) (hd.erase _) (λx hx=>by
    rw [hd.mem_erase_iff] at hx
    have:=h x hx.2
    have:=hx.1
    omega)
   rw [List.length_erase_of_mem hn] at h1
   omega
  .have:=zqb (n:=n) (l:=l) hd (λx hx=>by
    have:=h x hx
    have:x≠n:=λe=>hn (e▸hx)
    omega)
   omega
structure LiveQ (acc:List Bool) (rows:List (List Int)) (n i:Nat) (q:List Int) (seen:List Bool):Prop where
 len:seen.length=n
 seen:∀ j,j<n->(seen[j]? =some true↔(j:Int)∈q)
 nodup:q.Nodup
 dom:∀ x∈q,0<=x/\x<(n:Int)
 live:∀ x∈q,Live acc rows x.toNat
theorem LiveQ.add {acc:List Bool} {rows:List (List Int)} {n i j:Nat} {q:List Int} {seen:List Bool} (h:LiveQ acc rows n i q seen) (hj:j<n) (hs:seen[j]?≠some true) (hl:Live acc rows j):LiveQ acc rows n i (q++[(j:Int)]) (seen.set j true):=by
 have hjq:(j:Int)∉q:=λe=>hs ((h.seen j hj).2 e)
 refine ⟨by simp [h.len],λk hk=>?_,?_,?_,?_⟩
 .rw [tya,tyh,tzw]
  by_cases e:j=k
  .subst e
   simp [h.len,hj]
  .rw [if_neg e,h.seen k hk]
   constructor
   .exact λh=>.inl h
   .rintro (h | h)
    .exact h
    .exact absurd (by omega:j=k) e
 .rw [List.nodup_append]
  exact ⟨h.nodup,by simp,λa ha b hb e=>by
   rw [tzw] at hb
   exact hjq (by rw [<-hb,<-e];exact ha)⟩
 .intro x hx
  rw [tyh,tzw] at hx
  rcases hx with hx | rfl
  .exact h.dom x hx
  .omega
 .intro x hx
  rw [tyh,tzw] at hx
  rcases hx with hx | rfl
  .exact h.live x hx
  .simpa using hl
theorem LiveQ.all {acc:List Bool} {rows:List (List Int)} {n i:Nat} {q:List Int} {seen:List Bool} (h:LiveQ acc rows n i q seen) (hlen:acc.length=n) (hrows:rows.length=n)
  (h1:∀ j:Nat,acc[j]? =some true->(j:Int)∈q) (h2:∀ x∈q,∀ p∈at_ (zx5 0 rows (List.replicate n [])) x.toNat,p∈q) (s:Nat):((s:Int)∈q↔Live acc rows s):=by
 constructor
 .intro hs
  simpa using h.live _ hs
 .intro hl
  induction hl with
  | acc hs=>exact h1 _ hs
  | @step s t r hr ht hl ih=>
   have:=(h.dom _ ih).2
   exact h2 _ ih s ((yxn (by omega)).2 ⟨s,r,hr,by simpa using ht,rfl⟩)
end Go.Fsa
namespace Go.Fsa
section
variable {K:Type} [DecidableEq K]
def zxp (ks:List K) (k:K):Nat:=(ks.findIdx? λy=>decide (k=y)).getD ks.length
def ztb (ks:List K) (k:K):List K:=if k∈ks then ks else ks++[k]
def zzn (ks:List K):List K->List Nat×List K
 | []=>([],ks)
 | k::l=>(zxp ks k::(zzn (ztb ks k) l).1,(zzn (ztb ks k) l).2)
theorem zxl:∀ {l ks:List K},(zzn ks l).1.length=l.length
 | [],ks=>rfl
 | k::l,ks=>by simp only [zzn,tzd,zxl]
theorem zol {ks:List K} {k:K} (h:k∈ks):ks[zxp ks k]? =some k:=by
 unfold zxp
 cases hf:ks.findIdx? λy=>decide (k=y) with
 | none=>
  rw [ty6] at hf
  have:=hf k h
  simp at this
 | some i=>
  obtain ⟨h1,h2,_⟩:=List.findIdx?_eq_some_iff_getElem.1 hf
  simp only [decide_eq_true_eq] at h2
  rw [tye,tzb h1,<-h2]
theorem zvk {ks:List K} {k:K} (h:k∉ks):zxp ks k=ks.length:=by
 unfold zxp
 have:(ks.findIdx? λy=>decide (k=y))=none:=by
  rw [ty6]
  intro x hx
  simp only [decide_eq_false_iff_not]
  exact λe=>h (e▸hx)
 rw [this];rfl
theorem zfn {ks:List K} {k:K}:(ztb ks k)[zxp ks k]? =some k:=by
 unfold ztb
 split
 .rename_i h;exact zol h
 .rename_i h;rw [zvk h];simp
theorem zk4 {ks:List K} {k:K}:ks <+: ztb ks k:=by
 unfold ztb
 split
 .exact List.prefix_refl _
 .exact List.prefix_append _ _
theorem zh5 {ks:List K} {k:K} (h:ks.Nodup):(ztb ks k).Nodup:=by
 unfold ztb
 split
 .exact h
 .rename_i hk
  rw [List.nodup_append]
  exact ⟨h,by simp,λa ha b hb e=>by rw [tzw] at hb;exact hk (by rw [<-hb,<-e];exact ha)⟩
theorem zfo {ks:List K} {k x:K}:x∈ztb ks k↔x∈ks∨x=k:=by
 unfold ztb
 split
 .rename_i h
  constructor
  .exact λh=>.inl h
  .rintro (h' | rfl)
   .exact h'
   .exact h
 .simp
theorem zom:∀ {l ks:List K},ks <+: (zzn ks l).2
 | [],ks=>List.prefix_refl _
 | k::l,ks=>zk4.trans zom
theorem zs7:∀ {l ks:List K},ks.Nodup->(zzn ks l).2.Nodup
 | [],ks,h=>h
 | k::l,ks,h=>by
  show (zzn (ztb ks k) l).2.Nodup
  exact zs7 (zh5 h)
theorem zqc:∀ {l ks:List K} {x:K},x∈(zzn ks l).2↔x∈ks∨x∈l
 | [],ks,x=>by simp [zzn]
 | k::l,ks,x=>by
  show x∈(zzn (ztb ks k) l).2↔_
  rw [zqc,zfo,tzu,or_assoc]
theorem zh6 {A B:List K} (h:A <+: B) {i:Nat} {x:K} (hx:A[i]? =some x):B[i]? =some x:=by
 obtain ⟨t,rfl⟩:=h
 have:i<A.length:=by
  rcases tz9 i A.length with g | g
  .exact g
  .rw [tzt g] at hx;cases hx
 rw [tzs this];exact hx
theorem zqd:∀ {l ks:List K} {i:Nat} {n:Nat},(zzn ks l).1[i]? =some n->∃ x,l[i]? =some x/\(zzn ks l).2[n]? =some x
 | [],ks,i,n,h=>by simp [zzn] at h
 | k::l,ks,0,n,h=>by
  simp only [zzn,txp,tza] at h
  subst h
  refine ⟨k,rfl,?_⟩
  show (zzn (ztb ks k) l).2[zxp ks k]? =some k
  exact zh6 zom zfn
 | k::l,ks,i+1,n,h=>by
  simp only [zzn,txr] at h
  obtain ⟨x,h1,h2⟩:=zqd h
  exact ⟨x,by simpa using h1,h2⟩
theorem zd7 {A:List K} (h:A.Nodup) {i j:Nat} {x:K} (hi:A[i]? =some x) (hj:A[j]? =some x):i=j:=by
 have li:i<A.length:=by
  rcases tz9 i A.length with g | g
  .exact g
  .rw [tzt g] at hi;cases hi
 have lj:j<A.length:=by
  rcases tz9 j A.length with g | g
  .exact g
  .rw [tzt g] at hj;cases hj
 rw [tzb li,tza] at hi
 rw [tzb lj,tza] at hj
 exact (List.getElem_inj h).1 (hi.trans hj.symm)
theorem ytt {l:List K} {i j a b:Nat} (hi:(zzn [] l).1[i]? =some a) (hj:(zzn [] l).1[j]? =some b):a=b↔l[i]? =l[j]?:=by
 obtain ⟨x,h1,h2⟩:=zqd hi
 obtain ⟨y,g1,g2⟩:=zqd hj
 constructor
 .rintro rfl
  rw [h2] at g2
  rw [h1,g1];exact g2
 .intro h
  rw [h1,g1] at h
  simp only [tza] at h
  subst h
  exact zd7 (zs7 List.nodup_nil) h2 g2
theorem zk5 {l:List K} {i a:Nat} (hi:(zzn [] l).1[i]? =some a):a<(zzn [] l).2.length:=by
 obtain ⟨x,h1,h2⟩:=zqd hi
 rcases tz9 a (zzn [] l).2.length with g | g
 .exact g
 .rw [tzt g] at h2;cases h2
def dc:List K->Nat
 | []=>0
 | x::l=>dc l+(if x∈l then 0 else 1)
theorem ygi:∀ (l:List K),dc l<=l.length
 | []=>tzp _
 | x::l=>by
  have:=ygi l
  simp only [dc,tzd]
  split<;>omega
theorem ygj:∀ {l A:List K},A.Nodup->(∀ x,x∈A↔x∈l)->A.length=dc l
 | [],A,_,h=>by
  cases A with
  | nil=>rfl
  | cons x A=>have:=(h x).1 (tz0 ..);cases this
 | x::l,A,hA,h=>by
  simp only [dc]
  by_cases hx:x∈l
  .rw [if_pos hx,Nat.add_zero]
   exact ygj hA (λy=>by
    rw [h y,tzu]
    constructor
    .rintro (rfl | h)
     .exact hx
     .exact h
    .exact λh=>.inr h)
  .rw [if_neg hx]
   have hxA:x∈A:=(h x).2 (tz0 ..)
   have:=ygj (l:=l) (A:=A.erase x) (hA.erase _) (λy=>by
    rw [hA.mem_erase_iff,h y,tzu]
    constructor
    .rintro ⟨h1,h2 | h2⟩
     .exact absurd h2 h1
     .exact h2
    .exact λh=>⟨λe=>hx (e▸h),.inr h⟩)
   rw [List.length_erase_of_mem hxA] at this
   have:=List.length_pos_of_mem hxA
   omega
theorem zs8 (l:List K):(zzn [] l).2.length=dc l:=ygj (zs7 List.nodup_nil) (λx=>by rw [zqc];simp)
end
theorem zk6 {K L:Type} [DecidableEq K] [DecidableEq L] {f:Nat->K} {g:Nat->L}:∀ {I:List Nat},(∀ i∈I,∀ j∈I,f i=f j->g i=g j)->dc (I.map g)<=dc (I.map f)/\(dc (I.map g)=dc (I.map f)->∀ i∈I,∀ j∈I,g i=g j->f i=f j)
 | [],_=>⟨tzp _,λ_ i hi=>by cases hi⟩
 | i::I,h=>by
  obtain ⟨ih1,ih2⟩:=zk6 (I:=I) (λa ha b hb=>h a (tzq _ ha) b (tzq _ hb))
  have key:f i∈I.map f->g i∈I.map g:=by
   intro hm
   obtain ⟨k,hk,e⟩:=tyg.1 hm
   exact tyg.2 ⟨k,hk,h k (tzq _ hk) i (tz0 ..) e⟩
  simp only [txe,dc]
  refine ⟨by split<;>split<;>first | omega | (rename_i a b;exact absurd (key b) a),λhe=>?_⟩
  have hinc:(g i∈I.map g->f i∈I.map f)/\dc (I.map g)=dc (I.map f):=by
   by_cases a:g i∈I.map g
   .by_cases b:f i∈I.map f
    .rw [if_pos a,if_pos b] at he;exact ⟨λ_=>b,by omega⟩
    .rw [if_pos a,if_neg b] at he;omega
   .have b:f i∉I.map f:=λb=>a (key b)
    rw [if_neg a,if_neg b] at he
    exact ⟨λh=>absurd h a,by omega⟩
  have ih:=ih2 hinc.2
  have one:∀ j∈I,g i=g j->f i=f j:=by
   intro j hj e
   obtain ⟨k,hk,e2⟩:=tyg.1 (hinc.1 (tyg.2 ⟨j,hj,e.symm⟩))
   have e3:=h k (tzq _ hk) i (tz0 ..) e2
   rw [<-e2]
   exact ih k hk j hj (e3.trans e)
  intro a ha b hb e
  rcases tzu.1 ha with e1 | ha
  .rcases tzu.1 hb with e2 | hb
   .rw [e1,e2]
   .rw [e1] at e ⊢;exact one b hb e
  .rcases tzu.1 hb with e2 | hb
   .rw [e2] at e ⊢;exact (one a ha e.symm).symm
   .exact ih a ha b hb e
end Go.Fsa
namespace Go.Fsa
def ygk {K:Type} [DecidableEq K] (keys:List Nat->List K):Nat->Nat->List Nat->Option (List Nat)
 | 0,_,_=>none
 | F+1,cnt,cl=>if (zzn [] (keys cl)).2.length=cnt then some (zzn [] (keys cl)).1 else ygk keys F (zzn [] (keys cl)).2.length (zzn [] (keys cl)).1
end Go.Fsa
namespace Go.Fsa
def dgt (d:Nat):Nat:=if d<10 then 48+d else 87+d
theorem ye6 (d:Nat):48<=dgt d:=by unfold dgt;split<;>omega
theorem yns {a b:Nat} (h:dgt a=dgt b):a=b:=by
 unfold dgt at h;split at h<;>split at h<;>omega
def dig:Nat->Nat->List Nat
 | 0,_=>[]
 | f+1,u=>if u<36 then [dgt u] else dig f (u / 36)++[dgt (u % 36)]
theorem xz4 {f u:Nat} (h:¬u<36):dig (f+1) u=dig f (u / 36)++[dgt (u % 36)]:=by rw [dig,if_neg h]
theorem ynt {f u:Nat} (h:u<36):dig (f+1) u=[dgt u]:=by rw [dig,if_pos h]
theorem zd8:∀ {f u x:Nat},x∈dig f u->48<=x
 | 0,u,x,h=>by simp [dig] at h
 | f+1,u,x,h=>by
  simp only [dig] at h
  split at h
  .rw [tzw] at h;rw [h];exact ye6 _
  .rw [tyh,tzw] at h
   rcases h with h | h
   .exact zd8 h
   .rw [h];exact ye6 _
theorem zk7:∀ {f u:Nat},(dig f u).length<=f
 | 0,u=>by simp [dig]
 | f+1,u=>by
  simp only [dig]
  split
  .simp
  .have:=zk7 (f:=f) (u:=u / 36)
   simp;omega
theorem zd9 {f u:Nat} (hf:0<f):dig f u≠[]:=by
 obtain ⟨f,rfl⟩:∃ k,f=k+1:=⟨f-1,by omega⟩
 simp only [dig]
 split<;>simp
theorem yzo:∀ {f u v:Nat},u<36 ^ f->v<36 ^ f->dig f u=dig f v->u=v
 | 0,u,v,hu,hv,_=>by simp at hu hv;omega
 | f+1,u,v,hu,hv,h=>by
  rw [Nat.pow_succ] at hu hv
  have pos:∀ w,¬w<36->w<36 ^ f*36->0<f:=λw h1 h2=>by
   cases f with
   | zero=>simp at h2;omega
   | succ f=>omega
  simp only [dig] at h
  split at h
  .split at h
   .simp only [tyi,and_true] at h;exact yns h
   .rename_i h1 h2
    have hl:=congrArg List.length h
    have:=List.length_pos_iff.2 (zd9 (u:=v / 36) (pos v h2 hv))
    simp only [tz5,tzd,tze] at hl;omega
  .split at h
   .rename_i h1 h2
    have hl:=congrArg List.length h
    have:=List.length_pos_iff.2 (zd9 (u:=u / 36) (pos u h1 hu))
    simp only [tz5,tzd,tze] at hl;omega
   .have h1:=List.append_inj' h rfl
    have h2:=yzo (f:=f) (by omega) (by omega) h1.1
    have h3:=h1.2
    simp only [tyi,and_true] at h3
    have h4:=yns h3
    omega
def zs9 (o:Option Nat):List Nat:=32::(o.map (dig 13)).getD []
def zk8 (c:Nat) (l:List (Option Nat)):List Nat:=dig 13 c++(l.map zs9).flatten
theorem zca {A A' R R':List Nat} (hA:∀ x∈A,x≠32) (hA':∀ x∈A',x≠32) (hR:∀ x t,R=x::t->x=32) (hR':∀ x t,R'=x::t->x=32) (h:A++R=A'++R'):A=A'/\R=R':=by
 induction A generalizing A' with
 | nil=>
  cases A' with
  | nil=>exact ⟨rfl,h⟩
  | cons y A'=>exact absurd (hR y _ h) (hA' y (tz0 ..))
 | cons x A ih=>
  cases A' with
  | nil=>exact absurd (hR' x _ h.symm) (hA x (tz0 ..))
  | cons y A'=>
   simp only [txo,tyi] at h
   obtain ⟨rfl,h⟩:=h
   obtain ⟨h1,h2⟩:=ih (λz hz=>hA z (tzq _ hz)) (A':=A') (λz hz=>hA' z (tzq _ hz)) h
   exact ⟨by rw [h1],h2⟩
theorem zon {l:List (Option Nat)} {x:Nat} {t:List Nat} (h:(l.map zs9).flatten=x::t):x=32:=by
 cases l with
 | nil=>simp at h
 | cons o l=>simp only [txe,List.flatten_cons,zs9,txo,tyi] at h;exact h.1.symm
theorem yxo:∀ {l l':List (Option Nat)},(∀ o∈l,∀ c,o=some c->c<36 ^ 13)->(∀ o∈l',∀ c,o=some c->c<36 ^ 13)->(l.map zs9).flatten=(l'.map zs9).flatten->l=l'
 | [],[],_,_,_=>rfl
 | [],o::l',_,_,h=>by simp [zs9] at h
 | o::l,[],_,_,h=>by simp [zs9] at h
 | o::l,o'::l',hl,hl',h=>by
  simp only [txe,List.flatten_cons,zs9,txo,tyi,true_and] at h
  have lo:∀ (o:Option Nat) x,x∈(o.map (dig 13)).getD []->x≠32:=by
   intro o x hx
   cases o with
   | none=>simp at hx
   | some c=>have:=zd8 (f:=13) (u:=c) (by simpa using hx);omega
  obtain ⟨h1,h2⟩:=zca (lo o) (lo o') (λx t=>zon) (λx t=>zon) h
  have h3:=yxo (λo ho=>hl o (tzq _ ho)) (λo ho=>hl' o (tzq _ ho)) h2
  have h4:o=o':=by
   cases o with
   | none=>
    cases o' with
    | none=>rfl
    | some c=>exact absurd h1.symm (by simpa using zd9 (f:=13) (u:=c) (by omega))
   | some c=>
    cases o' with
    | none=>exact absurd h1 (by simpa using zd9 (f:=13) (u:=c) (by omega))
    | some c'=>
     simp only [tz2,tye] at h1
     rw [yzo (hl _ (tz0 ..) c rfl) (hl' _ (tz0 ..) c' rfl) h1]
  rw [h3,h4]
theorem ynu {c c':Nat} {l l':List (Option Nat)} (hc:c<36 ^ 13) (hc':c'<36 ^ 13) (hl:∀ o∈l,∀ c,o=some c->c<36 ^ 13) (hl':∀ o∈l',∀ c,o=some c->c<36 ^ 13) (h:zk8 c l=zk8 c' l'):c=c'/\l=l':=by
 obtain ⟨h1,h2⟩:=zca (λx hx=>by have:=zd8 hx;omega) (λx hx=>by have:=zd8 hx;omega) (λx t=>zon) (λx t=>zon) h
 exact ⟨yzo hc hc' h1,yxo hl hl' h2⟩
theorem ygl {c:Nat} {l:List (Option Nat)}:zk8 c l≠[45]:=by
 intro h
 unfold zk8 at h
 cases hd:dig 13 c with
 | nil=>exact zd9 (by omega) hd
 | cons x t=>
  have h1:=zd8 (f:=13) (u:=c) (x:=x) (by rw [hd];exact tz0 ..)
  rw [hd,txo,tyi] at h
  omega
end Go.Fsa
namespace Go.Fsa
def zvl (lv:List Bool) (rows:List (List Int)) (cl:List Nat) (i:Nat):List Nat:=
 if lv[i]? =some true then zk8 ((cl[i]?).getD 0) (((rows[i]?).getD []).map λt=>if 0<=t/\lv[t.toNat]? =some true then some ((cl[t.toNat]?).getD 0) else none) else [45]
theorem ye7 {d:Nat} (h:d<36):dgt d<256:=by unfold dgt;split<;>omega
theorem ynv:∀ {f u x:Nat},x∈dig f u->x<256
 | 0,u,x,h=>by simp [dig] at h
 | f+1,u,x,h=>by
  simp only [dig] at h
  split at h
  .rw [tzw] at h;rw [h];exact ye7 ‹_›
  .rw [tyh,tzw] at h
   rcases h with h | h
   .exact ynv h
   .rw [h];exact ye7 (Nat.mod_lt _ (by omega))
theorem xz5 {o:Option Nat} {x:Nat} (h:x∈zs9 o):x<256:=by
 unfold zs9 at h
 rcases tzu.1 h with h | h
 .omega
 .cases o with
  | none=>cases h
  | some c=>exact ynv h
theorem ygm {c:Nat} {l:List (Option Nat)} {x:Nat} (h:x∈zk8 c l):x<256:=by
 unfold zk8 at h
 rcases tyh.1 h with h | h
 .exact ynv h
 .obtain ⟨p,hp,hx⟩:=List.mem_flatten.1 h
  obtain ⟨o,_,rfl⟩:=tyg.1 hp
  exact xz5 hx
theorem ygn {o:Option Nat}:(zs9 o).length<=14:=by
 unfold zs9
 cases o with
 | none=>simp
 | some c=>have:=zk7 (f:=13) (u:=c);simp;omega
theorem yxp:∀ {l:List (Option Nat)},((l.map zs9).flatten).length<=14*l.length
 | []=>by simp
 | o::l=>by
  have h1:=ygn (o:=o)
  have h2:=yxp (l:=l)
  simp only [txe,List.flatten_cons,tz5,tzd];omega
end Go.Fsa
namespace Go.Fsa
theorem Aut.go_some {a:Aut} (hv:a.valid) {s:Int} (h0:0<=s) (h1:s<(a.nxt.length:Nat)) {c:Nat} (hc:(c:Int)<a.sy):∃ r,a.nxt[s.toNat]? =some r/\r[c]? =some (a.go s c):=by
 obtain ⟨r,hr⟩:∃ r,a.nxt[s.toNat]? =some r:=⟨_,tzb (by omega)⟩
 have hl:=(hv.rows r (tzg hr)).1
 obtain ⟨x,hx⟩:∃ x,r[c]? =some x:=⟨_,tzb (by omega)⟩
 refine ⟨r,hr,?_⟩
 rw [hx]
 simp [Aut.go,show ¬s<0 by omega,hr,hx]
theorem Aut.go_neg {a:Aut} {s:Int} (h:s<0) {c:Nat}:a.go s c=-1:=by simp [Aut.go,h]
def Aut.run (a:Aut):Int->List Int->Option Int
 | s,[]=>if s<0 then none else some s
 | s,c::w=>if c<0∨a.sy<=c then none else a.run (a.go s c.toNat) w
theorem Aut.run_neg {a:Aut}:∀ {w:List Int} {s:Int},s<0->a.run s w=none
 | [],s,h=>by simp [Aut.run,h]
 | c::w,s,h=>by
  simp only [Aut.run]
  split
  .rfl
  .rw [Aut.go_neg h];exact Aut.run_neg (by omega)
def Aut.lead (a:Aut) (f:Int) (w:List Int):Option Int:=if a.check=0/\0<=f/\f<(a.nxt.length:Nat) then a.run f w else none
def Aut.accepts (a:Aut) (w:List Int):Bool:=match a.lead a.st w with
 | some s=>(a.acc[s.toNat]?).getD false
 | none=>false
theorem Aut.check_valid {a:Aut}:a.check=0↔a.valid:=by
 unfold Aut.check
 split
 .rename_i h;exact ⟨λ_=>h,λ_=>rfl⟩
 .rename_i h;exact ⟨λh=>by omega,λh'=>absurd h' h⟩
theorem Aut.run_dom {a:Aut} (hv:a.valid):∀ {w:List Int} {s t:Int},a.dom s->a.run s w=some t->0<=t/\t<(a.nxt.length:Nat)
 | [],s,t,hd,h=>by
  simp only [Aut.run] at h
  split at h
  .cases h
  .cases h;exact ⟨by omega,hd.2⟩
 | c::w,s,t,hd,h=>by
  simp only [Aut.run] at h
  split at h
  .cases h
  .exact Aut.run_dom hv (Aut.go_dom hv) h
theorem Aut.run_word {a:Aut}:∀ {w:List Int} {s:Int},(w.any λx=>decide (x<0∨a.sy<=x))=true->a.run s w=none
 | [],s,h=>by simp at h
 | c::w,s,h=>by
  rw [List.any_cons,Bool.or_eq_true,decide_eq_true_eq] at h
  simp only [Aut.run]
  split
  .rfl
  .rename_i hc
   rcases h with h | h
   .exact absurd h hc
   .exact Aut.run_word h
end Go.Fsa
namespace Go.Fsa
section
variable {K:Type} [DecidableEq K]
def zwk:List K->List (Option K)->List Int×List K
 | ks,[]=>([],ks)
 | ks,none::l=>(-1::(zwk ks l).1,(zwk ks l).2)
 | ks,some k::l=>((zxp ks k:Int)::(zwk (ztb ks k) l).1,(zwk (ztb ks k) l).2)
theorem zoo:∀ {l:List (Option K)} {ks:List K},(zwk ks l).1.length=l.length
 | [],ks=>rfl
 | none::l,ks=>by simp only [zwk,tzd,zoo]
 | some k::l,ks=>by simp only [zwk,tzd,zoo]
theorem zt7:∀ {l:List (Option K)} {ks:List K},ks <+: (zwk ks l).2
 | [],ks=>List.prefix_refl _
 | none::l,ks=>zt7 (l:=l)
 | some k::l,ks=>zk4.trans (zt7 (l:=l) (ks:=ztb ks k))
theorem ztp:∀ {l:List (Option K)} {ks:List K},ks.Nodup->(zwk ks l).2.Nodup
 | [],ks,h=>h
 | none::l,ks,h=>ztp (l:=l) h
 | some k::l,ks,h=>ztp (l:=l) (zh5 h)
theorem zfp:∀ {l:List (Option K)} {ks:List K} {x:K},x∈(zwk ks l).2↔x∈ks∨some x∈l
 | [],ks,x=>by simp [zwk]
 | none::l,ks,x=>by
  show x∈(zwk ks l).2↔_
  rw [zfp (l:=l)];simp
 | some k::l,ks,x=>by
  show x∈(zwk (ztb ks k) l).2↔_
  rw [zfp (l:=l),zfo,tzu,tza,or_assoc]
theorem zqe:∀ {l:List (Option K)} {ks:List K} {i:Nat} {k:K},l[i]? =some (some k)->∃ n:Nat,(zwk ks l).1[i]? =some (n:Int)/\(zwk ks l).2[n]? =some k
 | [],ks,i,k,h=>by simp at h
 | none::l,ks,0,k,h=>by simp at h
 | none::l,ks,i+1,k,h=>by
  simp only [txr] at h
  obtain ⟨n,h1,h2⟩:=zqe (ks:=ks) h
  exact ⟨n,by simpa [zwk] using h1,h2⟩
 | some x::l,ks,0,k,h=>by
  simp only [txp,tza] at h
  subst h
  exact ⟨zxp ks x,rfl,zh6 (zt7 (l:=l)) zfn⟩
 | some x::l,ks,i+1,k,h=>by
  simp only [txr] at h
  obtain ⟨n,h1,h2⟩:=zqe (ks:=ztb ks x) h
  exact ⟨n,by simpa [zwk] using h1,h2⟩
theorem zop:∀ {l:List (Option K)} {ks:List K} {i:Nat},l[i]? =some none->(zwk ks l).1[i]? =some (-1)
 | [],ks,i,h=>by simp at h
 | none::l,ks,0,h=>rfl
 | none::l,ks,i+1,h=>by
  simp only [txr] at h
  show (zwk ks l).1[i]? =_
  exact zop h
 | some x::l,ks,0,h=>by simp at h
 | some x::l,ks,i+1,h=>by
  simp only [txr] at h
  show (zwk (ztb ks x) l).1[i]? =_
  exact zop h
theorem ygo {l:List (Option K)} {i j:Nat} {x y:K} {a b:Int} (hx:l[i]? =some (some x)) (hy:l[j]? =some (some y)) (hi:(zwk [] l).1[i]? =some a) (hj:(zwk [] l).1[j]? =some b):a=b↔x=y:=by
 obtain ⟨n,h1,h2⟩:=zqe (ks:=[]) hx
 obtain ⟨m,g1,g2⟩:=zqe (ks:=[]) hy
 rw [h1,tza] at hi
 rw [g1,tza] at hj
 subst hi hj
 constructor
 .intro h
  have:n=m:=by omega
  subst this
  rw [h2] at g2
  exact Option.some.inj g2
 .rintro rfl
  rw [zd7 (ztp List.nodup_nil) h2 g2]
end
end Go.Fsa
namespace Go.Fsa
section
variable {K:Type} [DecidableEq K]
theorem ztc:∀ {l:List (Option K)} {ks:List K},zwk ks (l++[none])=((zwk ks l).1++[-1],(zwk ks l).2)
 | [],ks=>rfl
 | none::l,ks=>by simp only [txo,zwk,ztc (l:=l)]
 | some k::l,ks=>by simp only [txo,zwk,ztc (l:=l)]
theorem zk9:∀ {l:List (Option K)} {ks:List K} {k:K},zwk ks (l++[some k])=((zwk ks l).1++[(zxp (zwk ks l).2 k:Int)],ztb (zwk ks l).2 k)
 | [],ks,k=>rfl
 | none::l,ks,k=>by simp only [txo,zwk,zk9 (l:=l)]
 | some x::l,ks,k=>by simp only [txo,zwk,zk9 (l:=l)]
theorem yxq {x k:K} {ks:List K}:zxp (x::ks) k=if k=x then 0 else zxp ks k+1:=by
 unfold zxp
 rw [List.findIdx?_cons]
 by_cases h:k=x
 .simp [h]
 .simp only [h,decide_false,if_false]
  cases List.findIdx? (λy=>decide (k=y)) ks<;>simp
theorem yzp:∀ {ks:List K} {k:K} {m:Nat},ks[m]? =some k->(∀ j,j<m->ks[j]?≠some k)->zxp ks k=m
 | [],k,m,h,_=>by simp at h
 | x::ks,k,0,h,_=>by
  simp only [txp,tza] at h
  rw [yxq,if_pos h.symm]
 | x::ks,k,m+1,h,g=>by
  simp only [txr] at h
  have h0:=g 0 (Nat.succ_pos _)
  simp only [txp,ne_eq,tza] at h0
  rw [yxq,if_neg (λe=>h0 e.symm),yzp h λj hj=>by
   have:=g (j+1) (by omega)
   simpa using this]
theorem ztd {ks:List K} {k:K} (h:k∈ks):zxp ks k<ks.length:=by
 have:=zol h
 rcases tz9 (zxp ks k) ks.length with g | g
 .exact g
 .rw [tzt g] at this;cases this
theorem yzq:∀ {l:List (Option K)} {ks:List K},∀ x∈(zwk ks l).1,x<((zwk ks l).2.length:Nat)
 | [],ks,x,h=>by simp [zwk] at h
 | none::l,ks,x,h=>by
  simp only [zwk,tzu] at h
  rcases h with rfl | h
  .omega
  .exact yzq (l:=l) (ks:=ks) x h
 | some k::l,ks,x,h=>by
  simp only [zwk,tzu] at h
  rcases h with rfl | h
  .have h1:=ztd (ks:=ztb ks k) (k:=k) (zfo.2 (.inr rfl))
   have h2:=(zt7 (l:=l) (ks:=ztb ks k)).length_le
   have h3:zxp ks k<(ztb ks k).length:=by
    rcases tz9 (zxp ks k) (ztb ks k).length with g | g
    .exact g
    .have:=zfn (ks:=ks) (k:=k)
     rw [tzt g] at this;cases this
   simp only [zwk];omega
  .exact yzq (l:=l) (ks:=ztb ks k) x h
theorem znt:∀ {l:List (Option K)} {ks:List K},(zwk ks l).2.length<=ks.length+l.length
 | [],ks=>by simp [zwk]
 | none::l,ks=>by
  have:=znt (l:=l) (ks:=ks)
  simp only [zwk,tzd];omega
 | some k::l,ks=>by
  have:=znt (l:=l) (ks:=ztb ks k)
  have h2:(ztb ks k).length<=ks.length+1:=by unfold ztb;split<;>simp
  simp only [zwk,tzd];omega
end
end Go.Fsa
namespace Go.Fsa
open Classical in
def Aut.liveL (a:Aut):List Bool:=(List.range a.acc.length).map λi=>decide (Live a.acc a.nxt i)
theorem Aut.liveL_len {a:Aut}:a.liveL.length=a.acc.length:=by simp [Aut.liveL]
theorem Aut.liveL_get {a:Aut} {i:Nat}:a.liveL[i]? =some true↔i<a.acc.length/\Live a.acc a.nxt i:=by
 unfold Aut.liveL
 rw [tzr,tzf]
 constructor
 .rintro ⟨j,h1,h2⟩
  have hj:i<a.acc.length:=by
   rcases tz9 i a.acc.length with g | g
   .exact g
   .rw [tzt (by simpa using g)] at h1;cases h1
  rw [tz7 hj,tza] at h1
  subst h1
  exact ⟨hj,by simpa using h2⟩
 .rintro ⟨h1,h2⟩
  exact ⟨i,tz7 h1,by simpa using h2⟩
def xod (l:List Bool):Nat:=l.count false
structure LiveI (a:Aut) (is:List Bool):Prop where
 len:is.length=a.acc.length
 acc:∀ i:Nat,a.acc[i]? =some true->is[i]? =some true
 ok:∀ i:Nat,is[i]? =some true->Live a.acc a.nxt i
def xlb (a:Aut) (is:List Bool) (i k:Nat):Prop:=∀ r c t,a.nxt[i]? =some r->c<k->r[c]? =some t->0<=t->is[t.toNat]?≠some true
theorem LiveI.add {a:Aut} {is:List Bool} (h:LiveI a is) {i:Nat} (hl:Live a.acc a.nxt i):LiveI a (is.set i true):=by
 refine ⟨by rw [tz3];exact h.len,λj hj=>?_,λj hj=>?_⟩
 .rw [tya]
  have:=h.acc j hj
  split
  .rename_i e
   subst e
   rw [if_pos]
   rcases tz9 i is.length with g | g
   .exact g
   .rw [tzt g] at this;cases this
  .exact this
 .rw [tya] at hj
  split at hj
  .rename_i e;subst e;exact hl
  .exact h.ok j hj
end Go.Fsa
namespace Go.Fsa
def zvz (cl:List Int) (t:Int):Int:=if 0<=t then (cl[t.toNat]?).getD 0 else -1
def Aut.keyC (a:Aut) (cl:List Int) (i:Nat):List Int:=(cl[i]?).getD 0::((a.nxt[i]?).getD []).map (zvz cl)
def Aut.keysC (a:Aut) (cl:List Int):List (Option (List Int)):=(List.range a.acc.length).map λi=>if (cl[i]?).getD 0<0 then none else some (a.keyC cl i)
def Aut.iterC (a:Aut):Nat->Nat->List Int->Option (List Int)
 | 0,_,_=>none
 | F+1,cnt,cl=>if (zwk [] (a.keysC cl)).2.length=cnt then some (zwk [] (a.keysC cl)).1 else a.iterC F (zwk [] (a.keysC cl)).2.length (zwk [] (a.keysC cl)).1
def Cl0 (a:Aut):List Int:=(List.range a.acc.length).map λi=>if a.liveL[i]? =some true then (if a.acc[i]? =some true then 1 else 0) else -1
theorem xz6 {a:Aut}:(Cl0 a).length=a.acc.length:=by simp [Cl0]
theorem xz7 {a:Aut} {i:Nat} (h:i<a.acc.length):(Cl0 a)[i]? =some (if a.liveL[i]? =some true then (if a.acc[i]? =some true then 1 else 0) else -1):=by
 unfold Cl0
 rw [tzr,tz7 h];rfl
end Go.Fsa
namespace Go.Fsa
theorem zyc {α:Type} {A B:List α} (h:A <+: B) {i:Nat} {x:α} (hx:A[i]? =some x):B[i]? =some x:=by
 obtain ⟨t,rfl⟩:=h
 have:i<A.length:=by
  rcases tz9 i A.length with g | g
  .exact g
  .rw [tzt g] at hx;cases hx
 rw [tzs this];exact hx
inductive All2 {α β:Type} (R:α->β->Prop):List α->List β->Prop
 | nil:All2 R [] []
 | cons {a:α} {b:β} {l:List α} {m:List β}:R a b->All2 R l m->All2 R (a::l) (b::m)
theorem All2.length {α β:Type} {R:α->β->Prop}:∀ {l:List α} {m:List β},All2 R l m->l.length=m.length
 | _,_,.nil=>rfl
 | _,_,.cons _ h=>by simp [h.length]
theorem All2.append {α β:Type} {R:α->β->Prop} {l':List α} {m':List β} (h':All2 R l' m'):∀ {l:List α} {m:List β},All2 R l m->All2 R (l++l') (m++m')
 | _,_,.nil=>h'
 | _,_,.cons a h=>.cons a (All2.append h' h)
theorem All2.get {α β:Type} {R:α->β->Prop}:∀ {l:List α} {m:List β} {i:Nat} {a:α},All2 R l m->l[i]? =some a->∃ b,m[i]? =some b/\R a b
 | _,_,i,a,.nil,h=>by simp at h
 | _,_,0,a,.cons r h,e=>by
  simp only [txp,tza] at e
  subst e
  exact ⟨_,rfl,r⟩
 | _,_,i+1,a,.cons r h,e=>by
  simp only [txr] at e
  obtain ⟨b,h1,h2⟩:=h.get e
  exact ⟨b,by simpa using h1,h2⟩
theorem All2.of {α β:Type} {R:α->β->Prop}:∀ {l:List α} {m:List β},l.length=m.length->(∀ (i:Nat) a b,l[i]? =some a->m[i]? =some b->R a b)->All2 R l m
 | [],[],_,_=>.nil
 | [],_::_,h,_=>by simp at h
 | _::_,[],h,_=>by simp at h
 | a::l,b::m,h,k=>.cons (k 0 a b rfl rfl) (All2.of (by simpa using h) λi x y h1 h2=>k (i+1) x y (by simpa using h1) (by simpa using h2))
theorem All2.map_eq {α β γ:Type} {R:α->β->Prop} {f:α->γ} {g:β->γ} (hf:∀ a b,R a b->f a=g b):∀ {l:List α} {m:List β},All2 R l m->l.map f=m.map g
 | _,_,.nil=>rfl
 | _,_,.cons a h=>by rw [txe,txe,hf _ _ a,h.map_eq hf]
section
variable {S K:Type} [DecidableEq K]
def addS (key:S->K):List S->List (Option S)->List S
 | qs,[]=>qs
 | qs,none::l=>addS key qs l
 | qs,some s::l=>addS key (if key s∈qs.map key then qs else qs++[s]) l
def znu (key:S->K) (qs:List S) (l:List (Option S)):List Int:=(zwk (qs.map key) (l.map (Option.map key))).1
def exR (key:S->K) (succ:S->List (Option S)) (most:Nat):Nat->Nat->List S->Option (List S×List (List Int))
 | 0,_,_=>none
 | F+1,i,qs=>match qs[i]? with
  | none=>some (qs,[])
  | some s=>if most<(addS key qs (succ s)).length then none else
   (exR key succ most F (i+1) (addS key qs (succ s))).map λr=>(r.1,znu key qs (succ s)::r.2)
variable {key:S->K} {succ:S->List (Option S)} {most:Nat}
theorem zfq {qs:List S} {s:S}:(if key s∈qs.map key then qs else qs++[s]).map key=ztb (qs.map key) (key s):=by
 unfold ztb
 split<;>simp
theorem zoq:∀ {l:List (Option S)} {qs:List S},(addS key qs l).map key=(zwk (qs.map key) (l.map (Option.map key))).2
 | [],qs=>rfl
 | none::l,qs=>zoq (l:=l)
 | some s::l,qs=>by
  show (addS key _ l).map key=_
  rw [zoq (l:=l),zfq];rfl
theorem zz3:∀ {l:List (Option S)} {qs:List S},qs <+: addS key qs l
 | [],qs=>List.prefix_refl _
 | none::l,qs=>zz3 (l:=l)
 | some s::l,qs=>by
  refine List.IsPrefix.trans ?_ (zz3 (l:=l))
  split
  .exact List.prefix_refl _
  .exact List.prefix_append _ _
theorem zv3 {dom:S->Prop}:∀ {l:List (Option S)} {qs:List S},(∀ s∈qs,dom s)->(∀ s,some s∈l->dom s)->∀ s∈addS key qs l,dom s
 | [],qs,h,_=>h
 | none::l,qs,h,k=>zv3 (l:=l) h λs hs=>k s (tzq _ hs)
 | some t::l,qs,h,k=>by
  refine zv3 (l:=l) ?_ λs hs=>k s (tzq _ hs)
  split
  .exact h
  .intro s hs
   rcases tyh.1 hs with hs | hs
   .exact h s hs
   .rw [tzw] at hs;rw [hs];exact k t (tz0 ..)
theorem zh7 {l:List (Option S)} {qs:List S} (h:(qs.map key).Nodup):((addS key qs l).map key).Nodup:=by
 rw [zoq];exact ztp h
theorem zqf {l:List (Option S)} {qs:List S}:(znu key qs l).length=l.length:=by
 unfold znu;rw [zoo,tyk]
theorem zor {dom:S->Prop} {N:Nat} (hd:∀ s,dom s->∀ t,some t∈succ s->dom t) (hb:∀ qs:List S,(∀ s∈qs,dom s)->(qs.map key).Nodup->qs.length<=N) (hN:N<=most) :
  ∀ {F i:Nat} {qs:List S},(∀ s∈qs,dom s)->(qs.map key).Nodup->N<F+i->i<=qs.length->∃ r,exR key succ most F i qs=some r
 | 0,i,qs,h1,h2,h3,h4=>by have:=hb qs h1 h2;omega
 | F+1,i,qs,h1,h2,h3,h4=>by
  simp only [exR]
  cases hq:qs[i]? with
  | none=>exact ⟨_,rfl⟩
  | some s=>
   have hs:s∈qs:=tzg hq
   have g1:=zv3 (key:=key) h1 (hd s (h1 s hs))
   have g2:=zh7 (l:=succ s) h2
   have hl:=hb _ g1 g2
   have hi:i<qs.length:=by
    rcases tz9 i qs.length with g | g
    .exact g
    .rw [tzt g] at hq;cases hq
   have hp:=(zz3 (key:=key) (l:=succ s) (qs:=qs)).length_le
   obtain ⟨r,hr⟩:=zor hd hb hN (F:=F) (i:=i+1) g1 g2 (by omega) (by omega)
   simp only
   rw [if_neg (by omega),hr]
   exact ⟨_,rfl⟩
theorem zt8:∀ {F i:Nat} {qs:List S} {r:List S×List (List Int)},exR key succ most F i qs=some r->qs <+: r.1/\(i<=qs.length->i+r.2.length=r.1.length) /\
   ∀ (j:Nat) s,r.1[i+j]? =some s->i<=qs.length->∃ row,r.2[j]? =some row/\row.length=(succ s).length/\(∀ k:Nat,(succ s)[k]? =some none->row[k]? =some (-1))/\∀ (k:Nat) t,(succ s)[k]? =some (some t)->∃ (n:Nat) (t':S),row[k]? =some (n:Int)/\r.1[n]? =some t'/\key t'=key t
 | 0,i,qs,r,h=>by simp [exR] at h
 | F+1,i,qs,r,h=>by
  simp only [exR] at h
  cases hq:qs[i]? with
  | none=>
   rw [hq] at h
   simp only [tza] at h
   subst h
   have hi:qs.length<=i:=by
    rcases tz9 i qs.length with g | g
    .rw [tzb g] at hq;cases hq
    .exact g
   refine ⟨List.prefix_refl _,λh=>by simp;omega,λj s hs hle=>?_⟩
   rw [tzt (by simp only;omega)] at hs;cases hs
  | some s=>
   rw [hq] at h
   simp only at h
   split at h
   .cases h
   obtain ⟨r',hr',rfl⟩:=tzf.1 h
   obtain ⟨g1,g2,g3⟩:=zt8 hr'
   have hi:i<qs.length:=by
    rcases tz9 i qs.length with g | g
    .exact g
    .rw [tzt g] at hq;cases hq
   have hp:=zz3 (key:=key) (l:=succ s) (qs:=qs)
   have hpl:=hp.length_le
   refine ⟨hp.trans g1,λ_=>by have:=g2 (by omega);simp only [tzd];omega,λj s' hs' _=>?_⟩
   cases j with
   | zero=>
    have e:=zyc (hp.trans g1) hq
    simp only [Nat.add_zero] at hs'
    rw [e,tza] at hs'
    subst hs'
    refine ⟨_,rfl,zqf,λk hk=>?_,λk t hk=>?_⟩
    .exact zop (by rw [tzr,hk];rfl)
    .obtain ⟨n,h1,h2⟩:=zqe (ks:=qs.map key) (show ((succ s).map (Option.map key))[k]? =some (some (key t)) by rw [tzr,hk];rfl)
     rw [<-zoq,tzr] at h2
     obtain ⟨t',h3,h4⟩:=tzf.1 h2
     exact ⟨n,t',h1,zyc g1 h3,h4⟩
   | succ j=>
    obtain ⟨row,h1,h2⟩:=g3 j s' (by rw [<-hs',show i+1+j=i+(j+1) by omega]) (by omega)
    exact ⟨row,by simpa using h1,h2⟩
theorem znv {dom:S->Prop} (hd:∀ s,dom s->∀ t,some t∈succ s->dom t):∀ {F i:Nat} {qs:List S} {r:List S×List (List Int)},(∀ s∈qs,dom s)->(qs.map key).Nodup->exR key succ most F i qs=some r->(∀ s∈r.1,dom s)/\(r.1.map key).Nodup
 | 0,i,qs,r,_,_,h=>by simp [exR] at h
 | F+1,i,qs,r,h1,h2,h=>by
  simp only [exR] at h
  cases hq:qs[i]? with
  | none=>
   rw [hq] at h
   simp only [tza] at h
   subst h
   exact ⟨h1,h2⟩
  | some s=>
   rw [hq] at h
   simp only at h
   split at h
   .cases h
   obtain ⟨r',hr',rfl⟩:=tzf.1 h
   have:=znv hd (F:=F) (i:=i+1) (zv3 (key:=key) h1 (hd s (h1 s (tzg hq)))) (zh7 h2) hr'
   exact this
end
def OR2 {α β:Type} (R:α->β->Prop):Option α->Option β->Prop
 | none,none=>True
 | some a,some b=>R a b
 | _,_=>False
section
variable {K:Type} [DecidableEq K]
theorem ynw {x k:K} {ks:List K}:zxp (x::ks) k=if k=x then 0 else zxp ks k+1:=by
 unfold zxp
 rw [List.findIdx?_cons]
 by_cases h:k=x
 .simp [h]
 .simp only [h,decide_false,if_false]
  cases List.findIdx? (λy=>decide (k=y)) ks<;>simp
end
section
variable {S S' K K':Type} [DecidableEq K] [DecidableEq K'] {key:S->K} {key':S'->K'} {R:S->S'->Prop}
theorem yxr (hR:∀ s s' t t',R s s'->R t t'->(key s=key t↔key' s'=key' t')) {s:S} {s':S'} (h:R s s'):∀ {qs:List S} {qs':List S'},All2 R qs qs'->zxp (qs.map key) (key s)=zxp (qs'.map key') (key' s')/\(key s∈qs.map key↔key' s'∈qs'.map key')
 | _,_,.nil=>⟨rfl,by simp⟩
 | _,_,.cons (a:=x) (b:=x') r t=>by
  obtain ⟨h1,h2⟩:=yxr hR h t
  have e:=hR s s' x x' h r
  simp only [txe,ynw,tzu,h1,e,h2,and_self]
theorem zfr (hR:∀ s s' t t',R s s'->R t t'->(key s=key t↔key' s'=key' t')):∀ {l:List (Option S)} {l':List (Option S')} {qs:List S} {qs':List S'},All2 (OR2 R) l l'->All2 R qs qs' ->
   znu key qs l=znu key' qs' l'/\All2 R (addS key qs l) (addS key' qs' l')
 | _,_,qs,qs',.nil,hq=>⟨rfl,hq⟩
 | _,_,qs,qs',.cons (a:=none) (b:=none) _ t,hq=>by
  obtain ⟨h1,h2⟩:=zfr hR t hq
  exact ⟨by show _::_=_::_;exact congrArg _ h1,h2⟩
 | _,_,qs,qs',.cons (a:=some s) (b:=some s') r t,hq=>by
  obtain ⟨g1,g2⟩:=yxr hR r hq
  have hq':All2 R (if key s∈qs.map key then qs else qs++[s]) (if key' s'∈qs'.map key' then qs' else qs'++[s']):=by
   by_cases h:key s∈qs.map key
   .rw [if_pos h,if_pos (g2.1 h)];exact hq
   .rw [if_neg h,if_neg (λh'=>h (g2.2 h'))]
    exact All2.append (R:=R) (.cons r .nil) hq
  obtain ⟨h1,h2⟩:=zfr hR t hq'
  refine ⟨?_,h2⟩
  unfold znu at h1 ⊢
  rw [zfq,zfq] at h1
  show _::_=_::_
  rw [g1]
  exact congrArg _ h1
 | _,_,qs,qs',.cons (a:=none) (b:=some _) r t,hq=>r.elim
 | _,_,qs,qs',.cons (a:=some _) (b:=none) r t,hq=>r.elim
theorem ynx {succ:S->List (Option S)} {succ':S'->List (Option S')} {most:Nat} (hR:∀ s s' t t',R s s'->R t t'->(key s=key t↔key' s'=key' t')) (hS:∀ s s',R s s'->All2 (OR2 R) (succ s) (succ' s')) :
  ∀ {F i:Nat} {qs:List S} {qs':List S'} {r:List S×List (List Int)},All2 R qs qs'->exR key succ most F i qs=some r->∃ q',exR key' succ' most F i qs'=some (q',r.2)/\All2 R r.1 q'
 | 0,i,qs,qs',r,hq,h=>by simp [exR] at h
 | F+1,i,qs,qs',r,hq,h=>by
  simp only [exR] at h ⊢
  cases hqi:qs[i]? with
  | none=>
   rw [hqi] at h
   simp only [tza] at h
   subst h
   have:qs'[i]? =none:=by
    rw [List.getElem?_eq_none_iff] at hqi ⊢
    rw [<-hq.length];exact hqi
   rw [this]
   exact ⟨_,rfl,hq⟩
  | some s=>
   rw [hqi] at h
   simp only at h
   split at h
   .cases h
   rename_i hm
   obtain ⟨r',hr',rfl⟩:=tzf.1 h
   obtain ⟨s',hs',hss⟩:=hq.get hqi
   obtain ⟨g1,g2⟩:=zfr hR (hS s s' hss) hq
   obtain ⟨q',h1,h2⟩:=ynx hR hS g2 hr'
   rw [hs']
   simp only
   rw [if_neg (by rw [<-g2.length];exact hm),h1]
   exact ⟨q',by rw [tz2,g1],h2⟩
end
end Go.Fsa
namespace Go.Fsa
section
variable {K:Type} [DecidableEq K]
theorem zte {ks:List K} {k:K} (h:k∈ks):(ks.findIdx? λy=>decide (k=y))=some (zxp ks k):=by
 unfold zxp
 cases hf:ks.findIdx? λy=>decide (k=y) with
 | none=>
  rw [ty6] at hf
  have:=hf k h
  simp at this
 | some i=>rfl
theorem zu1 {ks:List K} {k:K} (h:k∉ks):(ks.findIdx? λy=>decide (k=y))=none:=by
 rw [ty6]
 intro x hx
 simp only [decide_eq_false_iff_not]
 exact λe=>h (e▸hx)
end
end Go.Fsa
namespace Go.Fsa
structure Aut.fine (a:Aut):Prop where
 len:a.nxt.length=a.acc.length
 rows:∀ r∈a.nxt,zli a.sy a.acc.length r
theorem Aut.valid.fine {a:Aut} (h:a.valid):a.fine:=⟨h.len,h.rows⟩
def Aut.accW (a:Aut):Int->List Nat->Bool
 | s,[]=>a.accB s
 | s,c::w=>a.accW (a.go s c) w
theorem Aut.accW_neg {a:Aut}:∀ {w:List Nat} {s:Int},s<0->a.accW s w=false
 | [],s,h=>by simp [Aut.accW,Aut.accB,show ¬0<=s by omega]
 | c::w,s,h=>by
  simp only [Aut.accW]
  rw [Aut.go_neg h];exact Aut.accW_neg (by omega)
theorem zzw {α:Type} {l:List α} {i:Nat} {x:α} (h:l[i]? =some x):i<l.length:=by
 rcases tz9 i l.length with g | g
 .exact g
 .rw [tzt g] at h;cases h
theorem Aut.go_fine {a:Aut} (hv:a.fine) {x:Int} {c:Nat}:-1<=a.go x c/\a.go x c<(a.acc.length:Nat):=by
 unfold Aut.go
 split
 .exact ⟨by omega,by omega⟩
 .cases h1:a.nxt[x.toNat]? with
  | none=>exact ⟨by simp,by simp;omega⟩
  | some r=>
   cases h2:r[c]? with
   | none=>simp only [tzn,h2];exact ⟨by simp,by simp;omega⟩
   | some t=>
    simp only [tzn,h2,tye]
    have:=(hv.rows r (tzg h1)).2 t (tzg h2)
    exact ⟨by omega,by omega⟩
theorem Aut.go_big {a:Aut} (hv:a.fine) {i:Nat} {c:Nat} (h:a.sy<=c):a.go i c=-1:=by
 unfold Aut.go
 rw [if_neg (by omega),tym]
 cases h1:a.nxt[i]? with
 | none=>rfl
 | some r=>
  have:=(hv.rows r (tzg h1)).1
  simp only [tzn]
  rw [tzt (by omega)];rfl
theorem Aut.go_row {a:Aut} {i:Nat} {r:List Int} (h:a.nxt[i]? =some r) {c:Nat} {t:Int} (ht:r[c]? =some t):a.go i c=t:=by
 unfold Aut.go
 rw [if_neg (by omega),tym,h]
 simp [ht]
theorem Aut.live_word {a:Aut} (hv:a.fine) {i:Nat} (h:Live a.acc a.nxt i):∃ w,a.accW i w=true:=by
 induction h with
 | acc h=>exact ⟨[],by simp [Aut.accW,Aut.accB,h]⟩
 | @step s t r h1 h2 _ ih=>
  obtain ⟨w,hw⟩:=ih
  obtain ⟨c,hc,he⟩:=tyn h2
  refine ⟨c::w,?_⟩
  simp only [Aut.accW]
  rw [Aut.go_row h1 (show r[c]? =some (t:Int) by rw [tzb hc,he])]
  exact hw
theorem Aut.word_live {a:Aut} (hv:a.fine):∀ {w:List Nat} {i:Nat},a.accW i w=true->Live a.acc a.nxt i
 | [],i,h=>by
  simp only [Aut.accW,Aut.accB,tzc,tym] at h
  cases hi:a.acc[i]? with
  | none=>rw [hi] at h;simp at h
  | some b=>
   rw [hi] at h
   refine .acc (hi.trans ?_)
   simpa using h.2
 | c::w,i,h=>by
  simp only [Aut.accW] at h
  by_cases hn:a.go i c<0
  .rw [Aut.accW_neg hn] at h;cases h
  .obtain ⟨t,ht⟩:∃ t:Nat,a.go i c=t:=⟨(a.go i c).toNat,by omega⟩
   rw [ht] at h
   have hl:=Aut.word_live hv h
   unfold Aut.go at ht
   rw [if_neg (by omega),tym] at ht
   cases h1:a.nxt[i]? with
   | none=>rw [h1] at ht;simp at ht<;>omega
   | some r=>
    rw [h1] at ht
    simp only [tzn] at ht
    cases h2:r[c]? with
    | none=>rw [h2] at ht;simp at ht<;>omega
    | some x=>
     rw [h2] at ht
     simp only [tye] at ht
     subst ht
     exact .step h1 (tzg h2) hl
theorem Aut.live_iff {a:Aut} (hv:a.fine) {i:Nat}:Live a.acc a.nxt i↔∃ w,a.accW i w=true:=⟨Aut.live_word hv,λ⟨_,h⟩=>Aut.word_live hv h⟩
def Aut.nx (a:Aut) (c:Nat->Option Nat) (i k:Nat):Option Nat:=if a.go i k<0 then none else c (a.go i k).toNat
abbrev Aut.lv (a:Aut) (i:Nat):Prop:=Live a.acc a.nxt i
structure CInv (a:Aut) (c:Nat->Option Nat):Prop where
 dead:∀ i,i<a.acc.length->(c i=none↔¬a.lv i)
 same:∀ i j,i<a.acc.length->j<a.acc.length->a.lv i->a.lv j->(∀ w,a.accW i w=a.accW j w)->c i=c j
 acc:∀ i j,i<a.acc.length->j<a.acc.length->a.lv i->a.lv j->c i=c j->a.accB i=a.accB j
structure CRound (a:Aut) (c c':Nat->Option Nat):Prop where
 dead:∀ i,i<a.acc.length->(c' i=none↔¬a.lv i)
 iff:∀ i j,i<a.acc.length->j<a.acc.length->a.lv i->a.lv j->(c' i=c' j↔c i=c j/\∀ k:Nat,(k:Int)<a.sy->a.nx c i k=a.nx c j k)
theorem CInv.nx_none {a:Aut} (hv:a.fine) {c:Nat->Option Nat} (h:CInv a c) {i k:Nat}:a.nx c i k=none↔∀ w,a.accW (a.go i k) w=false:=by
 unfold Aut.nx
 split
 .rename_i hn
  exact ⟨λ_ w=>Aut.accW_neg hn,λ_=>rfl⟩
 .rename_i hn
  have hg:=Aut.go_fine hv (x:=i) (c:=k)
  rw [h.dead _ (by omega),show a.lv (a.go i k).toNat↔_ from Aut.live_iff hv,show ((a.go i k).toNat:Int)=a.go i k by omega]
  simp
theorem CInv.nx_same {a:Aut} (hv:a.fine) {c:Nat->Option Nat} (h:CInv a c) {i j k:Nat} (hw:∀ w,a.accW (a.go i k) w=a.accW (a.go j k) w):a.nx c i k=a.nx c j k:=by
 cases hi:a.nx c i k with
 | none=>
  rw [(h.nx_none hv).1 |> λf=>(h.nx_none hv (i:=j) (k:=k)).2 λw=>by rw [<-hw];exact f hi w]
 | some x=>
  cases hj:a.nx c j k with
  | none=>
   rw [(h.nx_none hv).2 λw=>by rw [hw];exact (h.nx_none hv).1 hj w] at hi;cases hi
  | some y=>
   have gi:=Aut.go_fine hv (x:=i) (c:=k)
   have gj:=Aut.go_fine hv (x:=j) (c:=k)
   unfold Aut.nx at hi hj
   split at hi
   .cases hi
   split at hj
   .cases hj
   rename_i n1 n2
   have l1:a.lv (a.go i k).toNat:=txd λhn=>by rw [(h.dead _ (by omega)).2 hn] at hi;cases hi
   have l2:a.lv (a.go j k).toNat:=txd λhn=>by rw [(h.dead _ (by omega)).2 hn] at hj;cases hj
   rw [<-hi,<-hj]
   exact h.same _ _ (by omega) (by omega) l1 l2 λw=>by
    rw [show ((a.go i k).toNat:Int)=a.go i k by omega,show ((a.go j k).toNat:Int)=a.go j k by omega];exact hw w
theorem CInv.round {a:Aut} (hv:a.fine) {c c':Nat->Option Nat} (h:CInv a c) (r:CRound a c c'):CInv a c' where
 dead:=r.dead
 same i j hi hj li lj hw:=(r.iff i j hi hj li lj).2 ⟨h.same i j hi hj li lj hw,λk _=>h.nx_same hv λw=>hw (k::w)⟩
 acc i j hi hj li lj e:=h.acc i j hi hj li lj ((r.iff i j hi hj li lj).1 e).1
theorem CInv.stable {a:Aut} (hv:a.fine) {c c':Nat->Option Nat} (h:CInv a c) (r:CRound a c c') (st:∀ i j,i<a.acc.length->j<a.acc.length->a.lv i->a.lv j->c i=c j->c' i=c' j) :
  ∀ (w:List Nat) (i j:Nat),i<a.acc.length->j<a.acc.length->a.lv i->a.lv j->c i=c j->a.accW i w=a.accW j w
 | [],i,j,hi,hj,li,lj,e=>h.acc i j hi hj li lj e
 | k::w,i,j,hi,hj,li,lj,e=>by
  simp only [Aut.accW]
  by_cases hk:(k:Int)<a.sy
  .have hn:=((r.iff i j hi hj li lj).1 (st i j hi hj li lj e)).2 k hk
   cases h1:a.nx c i k with
   | none=>
    rw [h1] at hn
    rw [(h.nx_none hv).1 h1 w,(h.nx_none hv).1 hn.symm w]
   | some x=>
    rw [h1] at hn
    have gi:=Aut.go_fine hv (x:=i) (c:=k)
    have gj:=Aut.go_fine hv (x:=j) (c:=k)
    have hn':=hn.symm
    unfold Aut.nx at h1 hn'
    split at h1
    .cases h1
    split at hn'
    .cases hn'
    rename_i n1 n2
    have l1:a.lv (a.go i k).toNat:=txd λhn=>by rw [(h.dead _ (by omega)).2 hn] at h1;cases h1
    have l2:a.lv (a.go j k).toNat:=txd λhn=>by rw [(h.dead _ (by omega)).2 hn] at hn';cases hn'
    have:=CInv.stable hv h r st w _ _ (by omega) (by omega) l1 l2 (h1.trans hn'.symm)
    rw [show ((a.go i k).toNat:Int)=a.go i k by omega,show ((a.go j k).toNat:Int)=a.go j k by omega] at this
    exact this
  .rw [Aut.go_big hv (by omega),Aut.go_big hv (by omega)]
structure CGood (a:Aut) (c:Nat->Option Nat):Prop where
 dead:∀ i,i<a.acc.length->(c i=none↔¬a.lv i)
 iff:∀ i j,i<a.acc.length->j<a.acc.length->a.lv i->a.lv j->(c i=c j↔∀ w,a.accW i w=a.accW j w)
theorem CInv.good {a:Aut} (hv:a.fine) {c c':Nat->Option Nat} (h:CInv a c) (r:CRound a c c') (st:∀ i j,i<a.acc.length->j<a.acc.length->a.lv i->a.lv j->c i=c j->c' i=c' j):CGood a c' where
 dead:=r.dead
 iff i j hi hj li lj:=⟨λe w=>h.stable hv r st w i j hi hj li lj ((r.iff i j hi hj li lj).1 e).1,(h.round hv r).same i j hi hj li lj⟩
def cO (cl:List Int) (i:Nat):Option Nat:=(cl[i]?).bind λx=>if x<0 then none else some x.toNat
theorem zu2 {cl:List Int} {i:Nat} {x:Int} (h:cl[i]? =some x):cO cl i=if x<0 then none else some x.toNat:=by simp [cO,h]
theorem zqg {a:Aut} (hv:a.fine) {cl:List Int} (hl:cl.length=a.acc.length) (hm:∀ x∈cl,-1<=x) {i k:Nat}:-1<=zvz cl (a.go i k)/\a.nx (cO cl) i k=if zvz cl (a.go i k)<0 then none else some (zvz cl (a.go i k)).toNat:=by
 have hg:=Aut.go_fine hv (x:=i) (c:=k)
 unfold Aut.nx zvz
 by_cases h:a.go i k<0
 .rw [if_pos h,if_neg (show ¬0<=a.go i k by omega)]
  exact ⟨by omega,by simp⟩
 .rw [if_neg h,if_pos (show 0<=a.go i k by omega)]
  obtain ⟨x,hx⟩:∃ x,cl[(a.go i k).toNat]? =some x:=⟨_,tzb (by omega)⟩
  rw [zu2 hx,hx]
  exact ⟨hm x (tzg hx),rfl⟩
theorem zfs {x y:Int} (hx:-1<=x) (hy:-1<=y):((if x<0 then none else some x.toNat)=(if y<0 then none else some y.toNat))↔x=y:=by
 split<;>split<;>simp<;>omega
theorem zh8 {a:Aut} (hv:a.fine) {i:Nat} (hi:i<a.acc.length):∃ r,a.nxt[i]? =some r/\(r.length:Int)=a.sy/\∀ k:Nat,(k:Int)<a.sy->r[k]? =some (a.go i k):=by
 obtain ⟨r,hr⟩:∃ r,a.nxt[i]? =some r:=⟨_,tzb (by rw [hv.len];exact hi)⟩
 have hl:=(hv.rows r (tzg hr)).1
 refine ⟨r,hr,hl,λk hk=>?_⟩
 obtain ⟨t,ht⟩:∃ t,r[k]? =some t:=⟨_,tzb (by omega)⟩
 rw [ht,Aut.go_row hr ht]
theorem yxs {a:Aut} (hv:a.fine) {cl:List Int} (hl:cl.length=a.acc.length) (hm:∀ x∈cl,-1<=x) {i j:Nat} (hi:i<a.acc.length) (hj:j<a.acc.length) :
  a.keyC cl i=a.keyC cl j↔cO cl i=cO cl j/\∀ k:Nat,(k:Int)<a.sy->a.nx (cO cl) i k=a.nx (cO cl) j k:=by
 obtain ⟨r,r1,r2,r3⟩:=zh8 hv hi
 obtain ⟨q,q1,q2,q3⟩:=zh8 hv hj
 obtain ⟨x,hx⟩:∃ x,cl[i]? =some x:=⟨_,tzb (by omega)⟩
 obtain ⟨y,hy⟩:∃ y,cl[j]? =some y:=⟨_,tzb (by omega)⟩
 unfold Aut.keyC
 rw [hx,hy,r1,q1,zu2 hx,zu2 hy,zfs (hm x (tzg hx)) (hm y (tzg hy))]
 simp only [tye,tyi]
 refine and_congr_right' ⟨λh k hk=>?_,λh=>ty8 λk=>?_⟩
 .have e:=congrArg (λl:List Int=>l[k]?) h
  simp only [tzr,r3 k hk,q3 k hk,tz2,tza] at e
  rw [(zqg hv hl hm).2,(zqg hv hl hm).2,e]
 .rw [tzr,tzr]
  by_cases hk:(k:Int)<a.sy
  .rw [r3 k hk,q3 k hk]
   simp only [tz2]
   have e:=h k hk
   rw [(zqg hv hl hm).2,(zqg hv hl hm).2,zfs (zqg hv hl hm).1 (zqg hv hl hm).1] at e
   rw [e]
  .rw [tzt (by omega),tzt (by omega)]
theorem zos {a:Aut} {cl:List Int} {i:Nat} (hi:i<a.acc.length):(a.keysC cl)[i]? =some (if (cl[i]?).getD 0<0 then none else some (a.keyC cl i)):=by
 unfold Aut.keysC
 rw [tzr,tz7 hi];rfl
theorem zra {a:Aut} {cl:List Int}:(a.keysC cl).length=a.acc.length:=by simp [Aut.keysC]
structure ROk (a:Aut) (cl:List Int):Prop where
 len:cl.length=a.acc.length
 lo:∀ x∈cl,-1<=x
 inv:CInv a (cO cl)
theorem zft {K:Type} [DecidableEq K]:∀ {l:List (Option K)} {ks:List K},∀ x∈(zwk ks l).1,-1<=x
 | [],ks,x,h=>by simp [zwk] at h
 | none::l,ks,x,h=>by
  simp only [zwk,tzu] at h
  rcases h with rfl | h
  .omega
  .exact zft x h
 | some k::l,ks,x,h=>by
  simp only [zwk,tzu] at h
  rcases h with rfl | h
  .omega
  .exact zft x h
theorem ROk.round {a:Aut} (hv:a.fine) {cl:List Int} (h:ROk a cl):CRound a (cO cl) (cO (zwk [] (a.keysC cl)).1) /\
  ∀ i j,i<a.acc.length->j<a.acc.length->a.lv i->a.lv j->(cO (zwk [] (a.keysC cl)).1 i=cO (zwk [] (a.keysC cl)).1 j↔a.keyC cl i=a.keyC cl j):=by
 have hlive:∀ i,i<a.acc.length->a.lv i->∃ n:Nat,(zwk [] (a.keysC cl)).1[i]? =some (n:Int)/\(a.keysC cl)[i]? =some (some (a.keyC cl i)):=by
  intro i hi li
  obtain ⟨x,hx⟩:∃ x,cl[i]? =some x:=⟨_,tzb (by rw [h.len];exact hi)⟩
  have hd:¬cO cl i=none:=λe=>(h.inv.dead i hi).1 e li
  rw [zu2 hx] at hd
  have hk:=zos (a:=a) (cl:=cl) hi
  rw [hx] at hk
  have hx0:¬x<0:=λe=>hd (if_pos e)
  rw [tye,if_neg hx0] at hk
  obtain ⟨n,h1,_⟩:=zqe (ks:=[]) hk
  exact ⟨n,h1,hk⟩
 have hiff:∀ i j,i<a.acc.length->j<a.acc.length->a.lv i->a.lv j->(cO (zwk [] (a.keysC cl)).1 i=cO (zwk [] (a.keysC cl)).1 j↔a.keyC cl i=a.keyC cl j):=by
  intro i j hi hj li lj
  obtain ⟨n,n1,n2⟩:=hlive i hi li
  obtain ⟨m,m1,m2⟩:=hlive j hj lj
  rw [zu2 n1,zu2 m1,zfs (by omega) (by omega)]
  exact ygo n2 m2 n1 m1
 refine ⟨⟨λi hi=>?_,λi j hi hj li lj=>?_⟩,hiff⟩
 .by_cases li:a.lv i
  .obtain ⟨n,n1,_⟩:=hlive i hi li
   rw [zu2 n1]
   simp [li,show ¬(n:Int)<0 by omega]
  .have hd:=(h.inv.dead i hi).2 li
   obtain ⟨x,hx⟩:∃ x,cl[i]? =some x:=⟨_,tzb (by rw [h.len];exact hi)⟩
   rw [zu2 hx] at hd
   have hx0:x<0:=by
    by_cases e:x<0
    .exact e
    .rw [if_neg e] at hd;cases hd
   have hk:=zos (a:=a) (cl:=cl) hi
   rw [hx,tye,if_pos hx0] at hk
   rw [zu2 (zop hk)]
   simp [li]
 .rw [hiff i j hi hj li lj,yxs hv h.len h.lo hi hj]
theorem ROk.next {a:Aut} (hv:a.fine) {cl:List Int} (h:ROk a cl):ROk a (zwk [] (a.keysC cl)).1:=
 ⟨by rw [zoo,zra],zft,h.inv.round hv (h.round hv).1⟩
open Classical in
def Aut.lives (a:Aut):List Nat:=(List.range a.acc.length).filter λi=>decide (a.lv i)
theorem Aut.mem_lives {a:Aut} {i:Nat}:i∈a.lives↔i<a.acc.length/\a.lv i:=by simp [Aut.lives]
theorem Aut.lives_len {a:Aut}:a.lives.length<=a.acc.length:=by
 have:=List.length_filter_le (λi=>@decide (a.lv i) (Classical.propDecidable _)) (List.range a.acc.length)
 rw [List.length_range] at this;exact this
theorem ROk.count {a:Aut} {cl:List Int} (h:ROk a cl):(zwk [] (a.keysC cl)).2.length=dc (a.lives.map (a.keyC cl)):=by
 refine ygj (ztp List.nodup_nil) λx=>?_
 rw [zfp]
 simp only [txt,false_or,tyg]
 have key:∀ i,i<a.acc.length->((cl[i]?).getD 0<0↔¬a.lv i):=by
  intro i hi
  obtain ⟨y,hy⟩:∃ x,cl[i]? =some x:=⟨_,tzb (by rw [h.len];exact hi)⟩
  rw [<-h.inv.dead i hi,zu2 hy,hy]
  simp
 constructor
 .intro hm
  obtain ⟨i,hi,he⟩:=tyn hm
  rw [zra] at hi
  have hk:=zos (a:=a) (cl:=cl) hi
  rw [tzb (by rw [zra];exact hi),he,tza] at hk
  split at hk
  .cases hk
  .rename_i hc
   simp only [tza] at hk
   exact ⟨i,Aut.mem_lives.2 ⟨hi,txd λg=>hc ((key i hi).2 g)⟩,hk.symm⟩
 .rintro ⟨i,hi,rfl⟩
  obtain ⟨h1,h2⟩:=Aut.mem_lives.1 hi
  have hk:=zos (a:=a) (cl:=cl) h1
  rw [if_neg (λg=>(key i h1).1 g h2)] at hk
  exact tzg hk
theorem zl5 {K L:Type} [DecidableEq K] [DecidableEq L] {f:Nat->K} {g:Nat->L} {I:List Nat} (h:∀ i∈I,∀ j∈I,(f i=f j↔g i=g j)):dc (I.map f)=dc (I.map g):=
 Nat.le_antisymm (zk6 λi hi j hj e=>(h i hi j hj).2 e).1 (zk6 λi hi j hj e=>(h i hi j hj).1 e).1
theorem yxt {a:Aut} (hv:a.fine):∀ {F cnt:Nat} {cl:List Int},ROk a cl->cnt<=dc (a.lives.map (cO cl))->a.acc.length<F+cnt->∃ cl',a.iterC F cnt cl=some cl'/\ROk a cl'/\CGood a (cO cl')
 | 0,cnt,cl,h,h1,h2=>by
  have:=ygi (a.lives.map (cO cl))
  have:=a.lives_len
  simp only [tyk] at *
  omega
 | F+1,cnt,cl,h,h1,h2=>by
  obtain ⟨r1,r2⟩:=h.round hv
  have hc:=h.count
  have hm:=zk6 (f:=a.keyC cl) (g:=cO cl) (I:=a.lives) λi hi j hj e=>((yxs hv h.len h.lo (Aut.mem_lives.1 hi).1 (Aut.mem_lives.1 hj).1).1 e).1
  simp only [Aut.iterC]
  by_cases he:(zwk [] (a.keysC cl)).2.length=cnt
  .rw [if_pos he]
   refine ⟨_,rfl,h.next hv,h.inv.good hv r1 λi j hi hj li lj e=>?_⟩
   rw [r2 i j hi hj li lj]
   exact hm.2 (by omega) i (Aut.mem_lives.2 ⟨hi,li⟩) j (Aut.mem_lives.2 ⟨hj,lj⟩) e
  .rw [if_neg he]
   have hn:dc (a.lives.map (cO (zwk [] (a.keysC cl)).1))=dc (a.lives.map (a.keyC cl)):=zl5 λi hi j hj=>
    r2 i j (Aut.mem_lives.1 hi).1 (Aut.mem_lives.1 hj).1 (Aut.mem_lives.1 hi).2 (Aut.mem_lives.1 hj).2
   exact yxt hv (h.next hv) (by omega) (by omega)
end Go.Fsa
namespace Go.Fsa
section
variable {S K:Type} [DecidableEq K] {key:S->K}
theorem zv4:∀ {l m:List (Option S)} {qs:List S},addS key qs (l++m)=addS key (addS key qs l) m
 | [],m,qs=>rfl
 | none::l,m,qs=>zv4 (l:=l)
 | some s::l,m,qs=>zv4 (l:=l)
theorem zrb {l:List (Option S)} {qs:List S}:znu key qs (l++[none])=znu key qs l++[-1]:=by
 unfold znu;rw [txk]
 show (zwk _ (_++[none])).1=_
 rw [ztc]
theorem zwl {l:List (Option S)} {qs:List S} {s:S}:znu key qs (l++[some s])=znu key qs l++[(zxp ((addS key qs l).map key) (key s):Int)]:=by
 unfold znu;rw [txk]
 show (zwk _ (_++[some (key s)])).1=_
 rw [zk9,zoq]
theorem zrc {l:List (Option S)} {qs:List S}:addS key qs (l++[none])=addS key qs l:=by rw [zv4];rfl
theorem zy6 {l:List (Option S)} {qs:List S} {s:S}:addS key qs (l++[some s])=if key s∈(addS key qs l).map key then addS key qs l else addS key qs l++[s]:=by rw [zv4];rfl
end
section
variable {K:Type} [DecidableEq K]
theorem ygp {ks m:List K} {k:K} (h:k∈ks):zxp (ks++m) k=zxp ks k:=by
 induction ks with
 | nil=>cases h
 | cons x ks ih=>
  rw [txo,yxq,yxq]
  split
  .rfl
  .rename_i hx
   rw [ih ((tzu.1 h).resolve_left hx)]
end
structure NumT (n:Nat) (num:List Int) (ks:List Int):Prop where
 len:num.length=n
 get:∀ c:Nat,c<n->num[c]? =some (if (c:Int)∈ks then (zxp ks c:Int) else -1)
theorem NumT.add {n:Nat} {num ks:List Int} (h:NumT n num ks) {c:Nat} (hc:c<n) (hn:(c:Int)∉ks):NumT n (num.set c (ks.length:Int)) (ks++[(c:Int)]):=by
 refine ⟨by rw [tz3];exact h.len,λd hd=>?_⟩
 by_cases e:d=c
 .subst e
  rw [tz1 (by rw [h.len];exact hc),if_pos (by simp)]
  congr 2
  rw [yzp (m:=ks.length)]
  .simp
  .intro j hj
   rw [tzs hj]
   exact λg=>hn (tzg g)
 .rw [tz4 (λe'=>e e'.symm),h.get d hd]
  congr 1
  by_cases m:(d:Int)∈ks
  .rw [if_pos m,if_pos (txf _ m),ygp m]
  .rw [if_neg m,if_neg]
   intro g
   rcases tyh.1 g with g | g
   .exact m g
   .rw [tzw] at g;omega
theorem NumT.one {n:Nat} {c:Nat} (hc:c<n):NumT n ((List.replicate n (-1)).set c 0) [(c:Int)]:=by
 have h:NumT n (List.replicate n (-1)) []:=⟨by simp,λd hd=>by rw [tyq,if_pos hd];simp⟩
 exact h.add hc (by simp)
theorem zl6 {a:Aut}:∀ {F cnt:Nat} {cl c:List Int},a.iterC F cnt cl=some c->c.length=a.acc.length/\∀ x∈c,-1<=x/\x<(a.acc.length:Nat)
 | 0,cnt,cl,c,h=>by simp [Aut.iterC] at h
 | F+1,cnt,cl,c,h=>by
  simp only [Aut.iterC] at h
  split at h
  .simp only [tza] at h
   subst h
   refine ⟨by rw [zoo,zra],λx hx=>⟨zft x hx,?_⟩⟩
   have h1:=yzq x hx
   have h2:=znt (l:=a.keysC cl) (ks:=[])
   rw [zra,tze,txj] at h2
   omega
  .exact zl6 h
def Aut.succR (a:Aut) (cl:List Int) (s:Int):List (Option Int):=(List.range a.sy.toNat).map λk=>if zvz cl (a.go s k)<0 then none else some (a.go s k)
theorem zja {a:Aut} {cl:List Int} {s:Int}:(a.succR cl s).length=a.sy.toNat:=by simp [Aut.succR]
theorem zjb {a:Aut} (hv:a.fine) {cl:List Int} {t u:Int} (h:some u∈a.succR cl t):0<=u/\u<(a.acc.length:Nat)/\0<=zvz cl u:=by
 unfold Aut.succR at h
 obtain ⟨k,hk,e⟩:=tyg.1 h
 split at e
 .cases e
 .rename_i g
  simp only [tza] at e
  have hg:=Aut.go_fine hv (x:=t) (c:=k)
  rw [e] at g hg
  have:0<=u:=by
   rcases txv u 0 with h | h
   .exfalso;apply g;simp [zvz,show ¬0<=u by omega]
   .exact h
  exact ⟨this,by omega,by omega⟩
end Go.Fsa
namespace Go.Fsa
theorem xtp {a:Aut} (hv:a.fine):ROk a (Cl0 a):=by
 have key:∀ i,i<a.acc.length->cO (Cl0 a) i=if a.liveL[i]? =some true then some (if a.acc[i]? =some true then 1 else 0) else none:=by
  intro i hi
  rw [zu2 (xz7 hi)]
  split
  .split<;>simp
  .simp
 have lv:∀ i,i<a.acc.length->(a.liveL[i]? =some true↔a.lv i):=λi hi=>by rw [Aut.liveL_get];exact ⟨λh=>h.2,λh=>⟨hi,h⟩⟩
 have ac:∀ i,i<a.acc.length->(a.acc[i]? =some true↔a.accB i=true):=λi hi=>by
  obtain ⟨b,hb⟩:∃ b,a.acc[i]? =some b:=⟨_,tzb hi⟩
  simp [Aut.accB,hb]
 have val:∀ i,i<a.acc.length->a.lv i->cO (Cl0 a) i=some (if a.accB i=true then 1 else 0):=λi hi li=>by
  rw [key i hi,if_pos ((lv i hi).2 li)]
  congr 1
  by_cases h:a.accB i=true
  .rw [if_pos h,if_pos ((ac i hi).2 h)]
  .rw [if_neg h,if_neg λg=>h ((ac i hi).1 g)]
 refine ⟨xz6,λx hx=>?_,λi hi=>?_,λi j hi hj li lj hw=>?_,λi j hi hj li lj e=>?_⟩
 .unfold Cl0 at hx
  obtain ⟨i,_,rfl⟩:=tyg.1 hx
  split
  .split<;>omega
  .omega
 .rw [key i hi,<-lv i hi]
  split<;>simp_all
 .rw [val i hi li,val j hj lj]
  have:=hw []
  simp only [Aut.accW] at this
  rw [this]
 .rw [val i hi li,val j hj lj] at e
  cases h1:a.accB i<;>cases h2:a.accB j<;>simp_all
theorem xtq {a:Aut} (hv:a.fine):∃ cl,a.iterC (a.acc.length+1) 0 (Cl0 a)=some cl/\ROk a cl/\CGood a (cO cl):=yxt hv (xtp hv) (tz6 _) (by omega)
def Aut.cls (a:Aut):List Int:=(a.iterC (a.acc.length+1) 0 (Cl0 a)).getD []
theorem yny {a:Aut} (hv:a.fine):a.iterC (a.acc.length+1) 0 (Cl0 a)=some a.cls/\ROk a a.cls/\CGood a (cO a.cls):=by
 obtain ⟨cl,h1,h2⟩:=xtq hv
 have:a.cls=cl:=by unfold Aut.cls;rw [h1];rfl
 rw [this];exact ⟨h1,h2⟩
theorem xz8 {cl:List Int} {n:Nat} (hl:cl.length=n) (hr:∀ x∈cl,-1<=x/\x<(n:Int)) {u:Int} (h0:0<=u) (h1:u<n):-1<=zvz cl u/\zvz cl u<n:=by
 obtain ⟨y,hy⟩:∃ y,cl[u.toNat]? =some y:=⟨_,tzb (by omega)⟩
 have:=hr y (tzg hy)
 have e:zvz cl u=y:=by simp [zvz,h0,hy]
 rw [e];exact this
theorem zt9 {cl:List Int} {u:Int} (h:u<0):zvz cl u=-1:=by simp [zvz,show ¬0<=u by omega]
abbrev Aut.domR (a:Aut) (u:Int):Prop:=0<=u/\u<(a.acc.length:Nat)/\0<=zvz a.cls u
theorem yxu {a:Aut} (hv:a.fine) {q:List Int} (h1:∀ s∈q,a.domR s) (h2:(q.map (zvz a.cls)).Nodup):q.length<=a.acc.length:=by
 obtain ⟨e1,e2⟩:=zl6 (yny hv).1
 have:=zqb h2 (n:=a.acc.length) λx hx=>by
  obtain ⟨u,hu,rfl⟩:=tyg.1 hx
  have h3:=h1 u hu
  have:=xz8 e1 e2 h3.1 h3.2.1
  have:=h3.2.2
  omega
 simpa using this
theorem xz9 {a:Aut} (hv:a.valid) (h:0<=zvz a.cls a.begin):∃ r,exR (zvz a.cls) (a.succR a.cls) 20001 (a.acc.length+1) 0 [a.begin]=some r:=by
 have hm:=hv.most
 have hb:a.domR a.begin:=by
  refine ⟨?_,?_,h⟩
  .rcases txv a.begin 0 with g | g
   .rw [zt9 g] at h;omega
   .exact g
  .rcases txv a.begin 0 with g | g
   .omega
   .have:=hv.st1
    unfold Aut.begin at g ⊢
    split
    .omega
    .omega
 exact zor (dom:=a.domR) (N:=a.acc.length) (λs _ t ht=>zjb hv.fine ht) (λq h1 h2=>yxu hv.fine h1 h2) (by omega) (λs hs=>by rw [tzw] at hs;rw [hs];exact hb) (by simp) (by omega) (by simp)
def Aut.exC (a:Aut):List Int×List (List Int):=(exR (zvz a.cls) (a.succR a.cls) 20001 (a.acc.length+1) 0 [a.begin]).getD ([],[])
def Aut.can (a:Aut):Aut:=if zvz a.cls a.begin<0 then ⟨a.sy,0,[],[]⟩ else ⟨a.sy,0,a.exC.1.map a.accB,a.exC.2⟩
def Aut.canon (a:Aut):Aut×Int:=if a.valid then (a.can,0) else (⟨0,0,[],[]⟩,60)
end Go.Fsa
namespace Go.Fsa
theorem zfu {a:Aut} (hv:a.valid) (h:0<=zvz a.cls a.begin):exR (zvz a.cls) (a.succR a.cls) 20001 (a.acc.length+1) 0 [a.begin]=some a.exC:=by
 obtain ⟨r,hr⟩:=xz9 hv h
 have e:a.exC=r:=by unfold Aut.exC;rw [hr];rfl
 rw [e];exact hr
theorem zsa {a:Aut} (hv:a.valid):(∀ r∈a.can.nxt,(r.length:Int)=a.sy)/\a.can.nxt.length=a.can.acc.length/\a.can.acc.length<=a.acc.length:=by
 unfold Aut.can
 split
 .exact ⟨λr h=>(txt h).elim,rfl,tz6 _⟩
 .rename_i h
  have hx:=zfu hv (by omega)
  obtain ⟨h1,h2,h3⟩:=zt8 hx
  have hb:=hv.lo
  have hl:a.exC.2.length=a.exC.1.length:=by simpa using h2 (tz6 _)
  refine ⟨λr hr=>?_,by simpa using hl,?_⟩
  .simp only at hr
   obtain ⟨j,hj,rfl⟩:=tyn hr
   obtain ⟨s,hs⟩:∃ s,a.exC.1[j]? =some s:=⟨_,tzb (by omega)⟩
   obtain ⟨row,g1,g2,_⟩:=h3 j s (by rw [txj];exact hs) (tz6 _)
   rw [tzb hj,tza] at g1
   rw [g1,g2,zja];omega
  .have hd:a.domR a.begin:=by
    refine ⟨?_,?_,by omega⟩
    .rcases txv a.begin 0 with g | g
     .rw [zt9 g] at h;omega
     .exact g
    .have:=hv.st1
     unfold Aut.begin
     split<;>omega
   obtain ⟨d1,d2⟩:=znv (dom:=a.domR) (λs _ t ht=>zjb hv.fine ht) (λs hs=>by rw [tzw] at hs;rw [hs];exact hd) (by simp) hx
   simp only [tyk]
   exact yxu hv.fine d1 d2
def Aut.isCanon (a:Aut):Bool:=decide (a.canon.2=0)&&decide (a.sy=a.canon.1.sy/\a.st=a.canon.1.st/\a.acc=a.canon.1.acc/\a.nxt=a.canon.1.nxt)
end Go.Fsa
namespace Go.Fsa
def Aut.succW (a:Aut) (s:Int):List (Option Int):=(List.range a.sy.toNat).map λk=>some (a.go s k)
theorem zjc {a:Aut} {s:Int}:(a.succW s).length=a.sy.toNat:=by simp [Aut.succW]
theorem ynz {a:Aut} {s:Int} {c:Nat} {o:Option Int} (h:(a.succW s)[c]? =some o):o=some (a.go s c)/\(c:Int)<a.sy:=by
 have hc:=zzw h
 rw [zjc] at hc
 unfold Aut.succW at h
 rw [tzr,tz7 hc] at h
 simp only [tz2,tza] at h
 exact ⟨h.symm,by omega⟩
theorem zwm {a:Aut} (hv:a.valid):a.dom a.begin:=by
 unfold Aut.begin Aut.dom
 have:=hv.st0
 have:=hv.st1
 have:=hv.len
 split<;>omega
theorem yn0 {a:Aut} {q:List Int} (h1:∀ s∈q,a.dom s) (h2:q.Nodup):q.length<=a.nxt.length+1:=by
 have:=zqb (n:=a.nxt.length+1) (l:=q.map (· + 1)) (List.pairwise_map.2 (h2.imp λh e=>h (by omega))) λx hx=>by
  obtain ⟨u,hu,rfl⟩:=tyg.1 hx
  have:=h1 u hu
  unfold Aut.dom at this
  omega
 simpa using this
theorem ygq {a:Aut} (hv:a.valid):∃ r,exR id a.succW (a.acc.length+2) (a.acc.length+2) 0 [a.begin]=some r:=
 zor (dom:=a.dom) (N:=a.nxt.length+1) (λs _ t ht=>by
  unfold Aut.succW at ht
  obtain ⟨k,_,e⟩:=tyg.1 ht
  simp only [tza] at e
  rw [<-e];exact Aut.go_dom hv) (λq h1 h2=>yn0 h1 (by simpa using h2)) (by have:=hv.len;omega) (λs hs=>by rw [tzw] at hs;rw [hs];exact zwm hv) (by simp) (by have:=hv.len;omega) (by simp)
def Aut.exW (a:Aut):List Int×List (List Int):=(exR id a.succW (a.acc.length+2) (a.acc.length+2) 0 [a.begin]).getD ([],[])
theorem yxv {a:Aut} (hv:a.valid):exR id a.succW (a.acc.length+2) (a.acc.length+2) 0 [a.begin]=some a.exW:=by
 obtain ⟨r,hr⟩:=ygq hv
 have e:a.exW=r:=by unfold Aut.exW;rw [hr];rfl
 rw [e];exact hr
def Aut.wh (a:Aut):Aut:=⟨a.sy,0,a.exW.1.map a.accB,a.exW.2⟩
end Go.Fsa
namespace Go.Fsa
def Aut.keysP (m:Aut) (lv:List Bool) (cl:List Nat):List (List UInt8):=(List.range m.acc.length).map λi=>(zvl lv m.nxt cl i).map UInt8.ofNat
def Aut.begP (m:Aut) (lv:List Bool):List (Bool×Bool):=(List.range m.acc.length).map λi=>((lv[i]?).getD false,(m.acc[i]?).getD false)
def Aut.succP (m:Aut) (lv:List Bool) (cl:List Int) (c:Int):List (Option Int):=(List.range m.sy.toNat).map λx=>if 0<=m.go (zxp cl c:Nat) x/\lv[(m.go (zxp cl c:Nat) x).toNat]? =some true then some ((cl[(m.go (zxp cl c:Nat) x).toNat]?).getD 0) else none
end Go.Fsa
namespace Go.Fsa
def cP (lv:List Bool) (cl:List Nat) (i:Nat):Option Nat:=if lv[i]? =some true then cl[i]? else none
theorem zfv:∀ {l l':List Nat},(∀ x∈l,x<256)->(∀ x∈l',x<256)->l.map UInt8.ofNat=l'.map UInt8.ofNat->l=l'
 | [],[],_,_,_=>rfl
 | [],_::_,_,_,h=>by simp at h
 | _::_,[],_,_,h=>by simp at h
 | x::l,y::l',h1,h2,h=>by
  simp only [txe,tyi] at h
  have e:=congrArg UInt8.toNat h.1
  rw [UInt8.toNat_ofNat',UInt8.toNat_ofNat',txu (h1 x (tz0 ..)),txu (h2 y (tz0 ..))] at e
  rw [e,zfv (λz hz=>h1 z (tzq _ hz)) (λz hz=>h2 z (tzq _ hz)) h.2]
theorem zl7 {lv:List Bool} {rows:List (List Int)} {cl:List Nat} {i:Nat}:∀ x∈zvl lv rows cl i,x<256:=by
 intro x hx
 unfold zvl at hx
 split at hx
 .exact ygm hx
 .rw [tzw] at hx;omega
structure POk (m:Aut) (cl:List Nat):Prop where
 len:cl.length=m.acc.length
 hi:∀ c∈cl,c<m.acc.length
 inv:CInv m (cP m.liveL cl)
 dead:∀ i j,i<m.acc.length->j<m.acc.length->¬m.lv i->¬m.lv j->cl[i]? =cl[j]?
 apart:∀ i j,i<m.acc.length->j<m.acc.length->m.lv i->¬m.lv j->cl[i]?≠cl[j]?
theorem lvL {m:Aut} {i:Nat} (hi:i<m.acc.length):m.liveL[i]? =some true↔m.lv i:=by
 rw [Aut.liveL_get];exact ⟨λh=>h.2,λh=>⟨hi,h⟩⟩
theorem zxz {m:Aut} {cl:List Nat} {i:Nat} (hi:i<m.acc.length) (li:m.lv i):cP m.liveL cl i=cl[i]?:=by
 unfold cP;rw [if_pos ((lvL hi).2 li)]
theorem ygr {m:Aut} (hm:m.fine) {cl:List Nat} (hl:cl.length=m.acc.length) {i k:Nat}:(if 0<=m.go i k/\m.liveL[(m.go i k).toNat]? =some true then some ((cl[(m.go i k).toNat]?).getD 0) else none)=m.nx (cP m.liveL cl) i k:=by
 have hg:=Aut.go_fine hm (x:=i) (c:=k)
 unfold Aut.nx cP
 by_cases h:m.go i k<0
 .rw [if_pos h,if_neg (by omega)]
 .rw [if_neg h]
  obtain ⟨c,hc⟩:∃ c,cl[(m.go i k).toNat]? =some c:=⟨_,tzb (by omega)⟩
  by_cases hl2:m.liveL[(m.go i k).toNat]? =some true
  .rw [if_pos ⟨by omega,hl2⟩,if_pos hl2,hc];rfl
  .rw [if_neg (λh=>hl2 h.2),if_neg hl2]
theorem yxw {m:Aut} (hm:m.fine) (hn:m.acc.length<=1000000) {cl:List Nat} (h:POk m cl) {i j:Nat} (hi:i<m.acc.length) (hj:j<m.acc.length) (li:m.lv i) (lj:m.lv j) :
  zvl m.liveL m.nxt cl i=zvl m.liveL m.nxt cl j↔cP m.liveL cl i=cP m.liveL cl j/\∀ k:Nat,(k:Int)<m.sy->m.nx (cP m.liveL cl) i k=m.nx (cP m.liveL cl) j k:=by
 obtain ⟨r,r1,r2,r3⟩:=zh8 hm hi
 obtain ⟨q,q1,q2,q3⟩:=zh8 hm hj
 obtain ⟨x,hx⟩:∃ x,cl[i]? =some x:=⟨_,tzb (by rw [h.len];exact hi)⟩
 obtain ⟨y,hy⟩:∃ y,cl[j]? =some y:=⟨_,tzb (by rw [h.len];exact hj)⟩
 have big:∀ c,c<m.acc.length->c<36 ^ 13:=λc hc=>tyf hc (tys hn (by decide))
 have hx':=big x (h.hi x (tzg hx))
 have hy':=big y (h.hi y (tzg hy))
 have hfo:∀ (l:List Int),∀ o∈l.map (λt=>if 0<=t/\m.liveL[t.toNat]? =some true then some ((cl[t.toNat]?).getD 0) else none),∀ c,o=some c->c<36 ^ 13:=by
  intro l o ho c hc
  obtain ⟨t,_,rfl⟩:=tyg.1 ho
  split at hc
  .simp only [tza] at hc
   cases ht:cl[t.toNat]? with
   | none=>rw [ht] at hc;simp at hc;subst hc;decide
   | some z=>
    rw [ht] at hc
    simp only [tye] at hc
    rw [<-hc]
    exact big z (h.hi z (tzg ht))
  .cases hc
 unfold zvl
 rw [if_pos ((lvL hi).2 li),if_pos ((lvL hj).2 lj),hx,hy,r1,q1,zxz hi li,zxz hj lj,hx,hy]
 simp only [tye]
 constructor
 .intro e
  obtain ⟨e1,e2⟩:=ynu hx' hy' (hfo r) (hfo q) e
  refine ⟨by rw [e1],λk hk=>?_⟩
  have e3:=congrArg (λl:List (Option Nat)=>l[k]?) e2
  simp only [tzr,r3 k hk,q3 k hk,tz2,tza] at e3
  rw [ygr hm h.len,ygr hm h.len] at e3
  exact e3
 .rintro ⟨e1,e2⟩
  simp only [tza] at e1
  rw [e1]
  congr 1
  refine ty8 λk=>?_
  rw [tzr,tzr]
  by_cases hk:(k:Int)<m.sy
  .rw [r3 k hk,q3 k hk,tz2,tz2,ygr hm h.len,ygr hm h.len,e2 k hk]
  .rw [tzt (by omega),tzt (by omega)]
theorem zcb {m:Aut} {lv:List Bool} {cl:List Nat} {i:Nat} (hi:i<m.acc.length):(m.keysP lv cl)[i]? =some ((zvl lv m.nxt cl i).map UInt8.ofNat):=by
 unfold Aut.keysP
 rw [tzr,tz7 hi];rfl
theorem zrd {m:Aut} {lv:List Bool} {cl:List Nat}:(m.keysP lv cl).length=m.acc.length:=by simp [Aut.keysP]
theorem zfw {K:Type} [DecidableEq K] {l:List K} {i j:Nat} (hi:i<l.length) (hj:j<l.length):(zzn [] l).1[i]? =(zzn [] l).1[j]?↔l[i]? =l[j]?:=by
 obtain ⟨a,ha⟩:∃ a,(zzn [] l).1[i]? =some a:=⟨_,tzb (by rw [zxl];exact hi)⟩
 obtain ⟨b,hb⟩:∃ b,(zzn [] l).1[j]? =some b:=⟨_,tzb (by rw [zxl];exact hj)⟩
 rw [ha,hb,tza]
 exact ytt ha hb
theorem ye8 {K:Type} [DecidableEq K] {l:List K}:∀ c∈(zzn [] l).1,c<l.length:=λc hc=>by
 obtain ⟨i,hi,rfl⟩:=tyn hc
 have h:=zk5 (l:=l) (i:=i) (a:=(zzn [] l).1[i]) (tzb hi)
 rw [zs8] at h
 have:=ygi l
 omega
theorem POk.round {m:Aut} (hm:m.fine) (hn:m.acc.length<=1000000) {cl:List Nat} (h:POk m cl):CRound m (cP m.liveL cl) (cP m.liveL (zzn [] (m.keysP m.liveL cl)).1) /\
  ∀ i j,i<m.acc.length->j<m.acc.length->((zzn [] (m.keysP m.liveL cl)).1[i]? =(zzn [] (m.keysP m.liveL cl)).1[j]?↔zvl m.liveL m.nxt cl i=zvl m.liveL m.nxt cl j):=by
 have hk:∀ i j,i<m.acc.length->j<m.acc.length->((zzn [] (m.keysP m.liveL cl)).1[i]? =(zzn [] (m.keysP m.liveL cl)).1[j]?↔zvl m.liveL m.nxt cl i=zvl m.liveL m.nxt cl j):=by
  intro i j hi hj
  rw [zfw (by rw [zrd];exact hi) (by rw [zrd];exact hj),zcb hi,zcb hj,tza]
  exact ⟨zfv zl7 zl7,λe=>by rw [e]⟩
 refine ⟨⟨λi hi=>?_,λi j hi hj li lj=>?_⟩,hk⟩
 .by_cases li:m.lv i
  .rw [zxz hi li]
   obtain ⟨a,ha⟩:∃ a,(zzn [] (m.keysP m.liveL cl)).1[i]? =some a:=⟨_,tzb (by rw [zxl,zrd];exact hi)⟩
   rw [ha];simp [li]
  .unfold cP
   rw [if_neg (λg=>li ((lvL hi).1 g))]
   simp [li]
 .rw [zxz hi li,zxz hj lj,hk i j hi hj,yxw hm hn h hi hj li lj]
theorem zot {m:Aut} {cl:List Nat} {i:Nat} (hi:i<m.acc.length) (li:¬m.lv i):zvl m.liveL m.nxt cl i=[45]:=by
 unfold zvl
 rw [if_neg (λg=>li ((lvL hi).1 g))]
theorem zfx {m:Aut} {cl:List Nat} {i:Nat} (hi:i<m.acc.length) (li:m.lv i):zvl m.liveL m.nxt cl i≠[45]:=by
 unfold zvl
 rw [if_pos ((lvL hi).2 li)]
 exact ygl
theorem POk.next {m:Aut} (hm:m.fine) (hn:m.acc.length<=1000000) {cl:List Nat} (h:POk m cl):POk m (zzn [] (m.keysP m.liveL cl)).1:=by
 obtain ⟨r1,r2⟩:=h.round hm hn
 refine ⟨by rw [zxl,zrd],λc hc=>?_,h.inv.round hm r1,λi j hi hj li lj=>?_,λi j hi hj li lj e=>?_⟩
 .have:=ye8 c hc
  rwa [zrd] at this
 .rw [r2 i j hi hj,zot hi li,zot hj lj]
 .rw [r2 i j hi hj,zot hj lj] at e
  exact zfx hi li e
theorem POk.fin {m:Aut} (hm:m.fine) (hn:m.acc.length<=1000000) {cl:List Nat} (h:POk m cl):∀ i∈List.range m.acc.length,∀ j∈List.range m.acc.length,zvl m.liveL m.nxt cl i=zvl m.liveL m.nxt cl j->cl[i]? =cl[j]?:=by
 intro i hi j hj e
 rw [txc] at hi hj
 by_cases li:m.lv i
 .by_cases lj:m.lv j
  .have:=((yxw hm hn h hi hj li lj).1 e).1
   rwa [zxz hi li,zxz hj lj] at this
  .rw [zot hj lj] at e
   exact absurd e (zfx hi li)
 .by_cases lj:m.lv j
  .rw [zot hi li] at e
   exact absurd e.symm (zfx hj lj)
  .exact h.dead i j hi hj li lj
theorem yxx {m:Aut} (hm:m.fine) (hn:m.acc.length<=1000000):∀ {F cnt:Nat} {cl:List Nat},POk m cl->cnt<=dc ((List.range m.acc.length).map λi=>cl[i]?)->m.acc.length<F+cnt->∃ cl',ygk (m.keysP m.liveL) F cnt cl=some cl'/\POk m cl'/\CGood m (cP m.liveL cl')
 | 0,cnt,cl,h,h1,h2=>by
  have:=ygi ((List.range m.acc.length).map λi=>cl[i]?)
  simp only [tyk,List.length_range] at this
  omega
 | F+1,cnt,cl,h,h1,h2=>by
  obtain ⟨r1,r2⟩:=h.round hm hn
  have hm1:=zk6 (f:=λi=>zvl m.liveL m.nxt cl i) (g:=λi=>cl[i]?) (I:=List.range m.acc.length) (h.fin hm hn)
  have hc:(zzn [] (m.keysP m.liveL cl)).2.length=dc ((List.range m.acc.length).map λi=>zvl m.liveL m.nxt cl i):=by
   rw [zs8]
   unfold Aut.keysP
   exact zl5 λi hi j hj=>⟨zfv zl7 zl7,λe=>by rw [e]⟩
  simp only [ygk]
  by_cases he:(zzn [] (m.keysP m.liveL cl)).2.length=cnt
  .rw [if_pos he]
   refine ⟨_,rfl,h.next hm hn,h.inv.good hm r1 λi j hi hj li lj e=>?_⟩
   rw [zxz hi li,zxz hj lj,r2 i j hi hj]
   rw [zxz hi li,zxz hj lj] at e
   exact hm1.2 (by omega) i (txc.2 hi) j (txc.2 hj) e
  .rw [if_neg he]
   have hn':dc ((List.range m.acc.length).map λi=>(zzn [] (m.keysP m.liveL cl)).1[i]?)=dc ((List.range m.acc.length).map λi=>zvl m.liveL m.nxt cl i):=
    zl5 λi hi j hj=>r2 i j (txc.1 hi) (txc.1 hj)
   exact yxx hm hn (h.next hm hn) (by omega) (by omega)
theorem yxy {m:Aut} {lv:List Bool} {i:Nat} (hi:i<m.acc.length):(m.begP lv)[i]? =some ((lv[i]?).getD false,(m.acc[i]?).getD false):=by
 unfold Aut.begP
 rw [tzr,tz7 hi];rfl
theorem zsb {m:Aut} {lv:List Bool}:(m.begP lv).length=m.acc.length:=by simp [Aut.begP]
theorem xtr {m:Aut} (hm:m.fine):POk m (zzn [] (m.begP m.liveL)).1:=by
 have same:∀ i j,i<m.acc.length->j<m.acc.length->((zzn [] (m.begP m.liveL)).1[i]? =(zzn [] (m.begP m.liveL)).1[j]?↔((m.liveL[i]?).getD false=(m.liveL[j]?).getD false/\(m.acc[i]?).getD false=(m.acc[j]?).getD false)):=by
  intro i j hi hj
  rw [zfw (by rw [zsb];exact hi) (by rw [zsb];exact hj),yxy hi,yxy hj,tza,tzl]
 have lvg:∀ i,i<m.acc.length->((m.liveL[i]?).getD false=true↔m.lv i):=λi hi=>by
  rw [<-lvL hi]
  obtain ⟨b,hb⟩:∃ b,m.liveL[i]? =some b:=⟨_,tzb (by rw [Aut.liveL_len];exact hi)⟩
  rw [hb];simp
 have acg:∀ i:Nat,m.accB i=(m.acc[i]?).getD false:=λi=>by simp [Aut.accB]
 have dac:∀ i,i<m.acc.length->¬m.lv i->(m.acc[i]?).getD false=false:=λi hi li=>by
  rw [<-acg]
  cases h:m.accB i with
  | false=>rfl
  | true=>exact absurd (Aut.word_live hm (w:=[]) (i:=i) h) li
 refine ⟨by rw [zxl,zsb],λc hc=>?_,⟨λi hi=>?_,λi j hi hj li lj hw=>?_,λi j hi hj li lj e=>?_⟩,λi j hi hj li lj=>?_,λi j hi hj li lj e=>?_⟩
 .have:=ye8 c hc
  rwa [zsb] at this
 .by_cases li:m.lv i
  .rw [zxz hi li]
   obtain ⟨a,ha⟩:∃ a,(zzn [] (m.begP m.liveL)).1[i]? =some a:=⟨_,tzb (by rw [zxl,zsb];exact hi)⟩
   rw [ha];simp [li]
  .unfold cP
   rw [if_neg (λg=>li ((lvL hi).1 g))]
   simp [li]
 .rw [zxz hi li,zxz hj lj,same i j hi hj,(lvg i hi).2 li,(lvg j hj).2 lj,<-acg,<-acg]
  exact ⟨rfl,hw []⟩
 .rw [zxz hi li,zxz hj lj,same i j hi hj] at e
  rw [acg,acg];exact e.2
 .rw [same i j hi hj,dac i hi li,dac j hj lj]
  refine ⟨?_,rfl⟩
  have h1:(m.liveL[i]?).getD false=false:=by
   cases h:(m.liveL[i]?).getD false with
   | false=>rfl
   | true=>exact absurd ((lvg i hi).1 h) li
  have h2:(m.liveL[j]?).getD false=false:=by
   cases h:(m.liveL[j]?).getD false with
   | false=>rfl
   | true=>exact absurd ((lvg j hj).1 h) lj
  rw [h1,h2]
 .rw [same i j hi hj,(lvg i hi).2 li] at e
  exact lj ((lvg j hj).1 e.1.symm)
theorem xts {m:Aut} (hm:m.fine) (hn:m.acc.length<=1000000):∃ cl,ygk (m.keysP m.liveL) (m.acc.length+1) (zzn [] (m.begP m.liveL)).2.length (zzn [] (m.begP m.liveL)).1=some cl/\POk m cl/\CGood m (cP m.liveL cl):=by
 refine yxx hm hn (xtr hm) ?_ (by omega)
 have:(zzn [] (m.begP m.liveL)).2.length=dc ((List.range m.acc.length).map λi=>(zzn [] (m.begP m.liveL)).1[i]?):=by
  rw [zs8]
  unfold Aut.begP
  refine zl5 λi hi j hj=>?_
  rw [txc] at hi hj
  have:=zfw (l:=m.begP m.liveL) (i:=i) (j:=j) (by rw [zsb];exact hi) (by rw [zsb];exact hj)
  unfold Aut.begP at this
  rw [this,tzr,tzr,tz7 hi,tz7 hj]
  simp
 omega
end Go.Fsa
namespace Go.Fsa
theorem ygs {a:Aut} {s:Int} {k:Nat} (h:(k:Int)<a.sy):(a.succW s)[k]? =some (some (a.go s k)):=by
 unfold Aut.succW
 rw [tzr,tz7 (by omega)];rfl
theorem yzr {a:Aut} (hv:a.valid):a.exW.2.length=a.exW.1.length/\a.exW.1[0]? =some a.begin/\(∀ s∈a.exW.1,a.dom s)/\a.exW.1.Nodup /\
  ∀ (j:Nat) s,a.exW.1[j]? =some s->∃ row,a.exW.2[j]? =some row/\(row.length:Int)=a.sy/\∀ k:Nat,(k:Int)<a.sy->∃ n:Nat,row[k]? =some (n:Int)/\a.exW.1[n]? =some (a.go s k):=by
 have hx:=yxv hv
 obtain ⟨h1,h2,h3⟩:=zt8 hx
 have hlo:=hv.lo
 obtain ⟨d1,d2⟩:=znv (dom:=a.dom) (λs _ t ht=>by
  unfold Aut.succW at ht
  obtain ⟨k,_,e⟩:=tyg.1 ht
  simp only [tza] at e
  rw [<-e];exact Aut.go_dom hv) (λs hs=>by rw [tzw] at hs;rw [hs];exact zwm hv) (by simp) hx
 refine ⟨by simpa using h2 (tz6 _),zyc h1 rfl,d1,by simpa using d2,λj s hs=>?_⟩
 obtain ⟨row,g1,g2,g3,g4⟩:=h3 j s (by rw [txj];exact hs) (tz6 _)
 rw [zjc] at g2
 refine ⟨row,g1,by omega,λk hk=>?_⟩
 obtain ⟨n,t',e1,e2,e3⟩:=g4 k _ (ygs hk)
 exact ⟨n,e1,by rw [e2];exact congrArg some e3⟩
theorem yn1 {a:Aut}:a.wh.acc.length=a.exW.1.length:=by simp [Aut.wh]
theorem yn2 {a:Aut} (hv:a.valid):a.wh.fine:=by
 obtain ⟨h1,_,_,_,h5⟩:=yzr hv
 refine ⟨by rw [yn1];exact h1,λr hr=>?_⟩
 simp only [Aut.wh] at hr
 obtain ⟨j,hj,rfl⟩:=tyn hr
 obtain ⟨s,hs⟩:∃ s,a.exW.1[j]? =some s:=⟨_,tzb (by omega)⟩
 obtain ⟨row,g1,g2,g3⟩:=h5 j s hs
 rw [tzb hj,tza] at g1
 rw [g1]
 refine ⟨g2,λt ht=>?_⟩
 obtain ⟨k,hk,rfl⟩:=tyn ht
 obtain ⟨n,e1,e2⟩:=g3 k (by omega)
 rw [tzb hk,tza] at e1
 have:=zzw e2
 rw [e1,yn1]
 exact ⟨by omega,by omega⟩
theorem xpf {a:Aut} (hv:a.valid) {j:Nat} {s:Int} (hs:a.exW.1[j]? =some s) {k:Nat} (hk:(k:Int)<a.sy):∃ n:Nat,a.wh.go j k=n/\a.exW.1[n]? =some (a.go s k):=by
 obtain ⟨_,_,_,_,h5⟩:=yzr hv
 obtain ⟨row,g1,g2,g3⟩:=h5 j s hs
 obtain ⟨n,e1,e2⟩:=g3 k hk
 exact ⟨n,Aut.go_row (a:=a.wh) (i:=j) (r:=row) g1 e1,e2⟩
theorem zre {a:Aut} (hv:a.valid) {s:Int} {k:Nat} (h:a.sy<=k):a.go s k=-1:=by
 by_cases hs:s<0
 .exact Aut.go_neg hs
 .obtain ⟨i,rfl⟩:∃ i:Nat,s=i:=⟨s.toNat,by omega⟩
  exact Aut.go_big hv.fine h
theorem zou {a:Aut} (hv:a.valid) {s:Int} (h1:s<(a.acc.length:Nat)):0<=zvz a.cls s↔∃ w,a.accW s w=true:=by
 obtain ⟨c1,c2,c3⟩:=yny hv.fine
 obtain ⟨e1,e2⟩:=zl6 c1
 rcases txv s 0 with g | g
 .rw [zt9 g]
  constructor
  .intro h;omega
  .rintro ⟨w,hw⟩;rw [Aut.accW_neg g] at hw;cases hw
 .obtain ⟨i,rfl⟩:∃ i:Nat,s=i:=⟨s.toNat,by omega⟩
  obtain ⟨x,hx⟩:∃ x,a.cls[i]? =some x:=⟨_,tzb (by omega)⟩
  have hd:=c3.dead i (by omega)
  rw [zu2 hx,show a.lv i↔∃ w,a.accW i w=true from Aut.live_iff hv.fine] at hd
  have hcl:zvz a.cls i=x:=by simp [zvz,hx]
  rw [hcl]
  constructor
  .intro h
   refine txd λhn=>?_
   have:=hd.2 hn
   rw [if_neg (by omega)] at this;cases this
  .intro h
   refine txd λhn=>?_
   exact hd.1 (if_pos (by omega)) h
theorem yxz {a:Aut} (hv:a.valid) {s t:Int} (hs:a.domR s) (ht:a.domR t):zvz a.cls s=zvz a.cls t↔∀ w,a.accW s w=a.accW t w:=by
 obtain ⟨c1,c2,c3⟩:=yny hv.fine
 obtain ⟨e1,e2⟩:=zl6 c1
 obtain ⟨h1,h2,h3⟩:=hs
 obtain ⟨g1,g2,g3⟩:=ht
 obtain ⟨i,rfl⟩:∃ i:Nat,s=i:=⟨s.toNat,by omega⟩
 obtain ⟨j,rfl⟩:∃ i:Nat,t=i:=⟨t.toNat,by omega⟩
 obtain ⟨x,hx⟩:∃ x,a.cls[i]? =some x:=⟨_,tzb (by omega)⟩
 obtain ⟨y,hy⟩:∃ x,a.cls[j]? =some x:=⟨_,tzb (by omega)⟩
 have hxe:zvz a.cls i=x:=by simp [zvz,hx]
 have hye:zvz a.cls j=y:=by simp [zvz,hy]
 have li:=(Aut.live_iff hv.fine).2 ((zou hv h2).1 h3)
 have lj:=(Aut.live_iff hv.fine).2 ((zou hv g2).1 g3)
 rw [hxe] at h3
 rw [hye] at g3
 have:=c3.iff i j (by omega) (by omega) li lj
 rw [zu2 hx,zu2 hy,zfs (by omega) (by omega)] at this
 rw [hxe,hye];exact this
theorem yx0 {m:Aut} {cl:List Nat} (hc:CGood m (cP m.liveL cl)) {i j:Nat} (hi:i<m.acc.length) (hj:j<m.acc.length) (li:m.lv i) (lj:m.lv j):cl[i]? =cl[j]?↔∀ w,m.accW i w=m.accW j w:=by
 have:=hc.iff i j hi hj li lj
 rwa [zxz hi li,zxz hj lj] at this
structure SimC (a m:Aut) (cl:List Nat) (s c:Int):Prop where
 dom:a.domR s
 ex:∃ i x:Nat,i<m.acc.length/\cl[i]? =some x/\c=x/\m.lv i/\∀ w,a.accW s w=m.accW i w
theorem yx1 {m:Aut} {cl:List Nat} (hP:POk m cl) (hc:CGood m (cP m.liveL cl)) {i x:Nat} (hi:i<m.acc.length) (hx:cl[i]? =some x) (li:m.lv i) :
  ∃ j,zxp (cl.map λc:Nat=>(c:Int)) (x:Int)=j/\j<m.acc.length/\m.lv j/\∀ w,m.accW j w=m.accW i w:=by
 have hm:(x:Int)∈cl.map λc:Nat=>(c:Int):=tyg.2 ⟨x,tzg hx,rfl⟩
 have hj:=zol hm
 obtain ⟨j,hje⟩:∃ j,j=zxp (cl.map λc:Nat=>(c:Int)) (x:Int):=⟨_,rfl⟩
 rw [<-hje,tzr] at hj
 obtain ⟨y,hy,e⟩:=tzf.1 hj
 have:y=x:=by omega
 subst this
 have hjl:j<m.acc.length:=by have:=zzw hy;have:=hP.len;omega
 have lj:m.lv j:=txd λhn=>hP.apart i j hi hjl li hn (hx.trans hy.symm)
 exact ⟨j,hje.symm,hjl,lj,(yx0 hc hjl hi lj li).1 (hy.trans hx.symm)⟩
theorem yzs {m:Aut} (hm:m.fine) {i:Nat}:m.lv i↔∃ w,m.accW i w=true:=Aut.live_iff hm
theorem xtt {a m:Aut} (hv:a.valid) (hm:m.fine) (hsy:m.sy=a.sy) {cl:List Nat} (hP:POk m cl) (hc:CGood m (cP m.liveL cl)) :
  (∀ s c t d,SimC a m cl s c->SimC a m cl t d->(zvz a.cls s=zvz a.cls t↔id c=id d)) /\
  ∀ s c,SimC a m cl s c->All2 (OR2 (SimC a m cl)) (a.succR a.cls s) (m.succP m.liveL (cl.map λc:Nat=>(c:Int)) c):=by
 constructor
 .rintro s c t d ⟨hs,i,x,hi,hx,rfl,li,hw⟩ ⟨ht,j,y,hj,hy,rfl,lj,hz⟩
  rw [yxz hv hs ht]
  have:=yx0 hc hi hj li lj
  rw [hx,hy,tza] at this
  show _↔(x:Int)=y
  constructor
  .intro h
   have e:=this.2 λw=>by rw [<-hw,<-hz];exact h w
   omega
  .intro h w
   rw [hw,hz]
   exact this.1 (by omega) w
 .rintro s c ⟨hs,i,x,hi,hx,rfl,li,hw⟩
  obtain ⟨j,hj,hjl,lj,hjw⟩:=yx1 hP hc hi hx li
  refine All2.of (by simp [Aut.succR,Aut.succP,hsy]) λk o o' ho ho'=>?_
  have hk:=zzw ho
  rw [zja] at hk
  unfold Aut.succR at ho
  unfold Aut.succP at ho'
  rw [tzr,tz7 hk,tz2,tza] at ho
  rw [tzr,hsy,tz7 hk,tz2,tza,hj] at ho'
  have hlang:∀ w,a.accW (a.go s k) w=m.accW (m.go j k) w:=λw=>by
   have h1:=hw (k::w)
   have h2:=hjw (k::w)
   simp only [Aut.accW] at h1 h2
   rw [h1,h2]
  have hgf:=Aut.go_fine hm (x:=j) (c:=k)
  have hga:=Aut.go_fine hv.fine (x:=s) (c:=k)
  have hcl:=zou hv (s:=a.go s k) hga.2
  by_cases h:0<=zvz a.cls (a.go s k)
  .rw [if_neg (by omega)] at ho
   obtain ⟨w,hw'⟩:=hcl.1 h
   rw [hlang] at hw'
   have h0:0<=m.go j k:=by
    rcases txv (m.go j k) 0 with g | g
    .rw [Aut.accW_neg g] at hw';cases hw'
    .exact g
   obtain ⟨t,ht⟩:∃ t:Nat,m.go j k=t:=⟨(m.go j k).toNat,by omega⟩
   rw [ht] at ho' hgf hlang hw'
   have lt:m.lv t:=(yzs hm).2 ⟨w,hw'⟩
   rw [tym,if_pos ⟨by omega,(lvL (by omega)).2 lt⟩] at ho'
   obtain ⟨z,hz⟩:∃ z,cl[t]? =some z:=⟨_,tzb (by have:=hP.len;omega)⟩
   rw [tzr,hz,tz2,tye] at ho'
   rw [<-ho,<-ho']
   refine ⟨⟨?_,hga.2,h⟩,t,z,by omega,hz,rfl,lt,hlang⟩
   rcases txv (a.go s k) 0 with g | g
   .rw [zt9 g] at h;omega
   .exact g
  .rw [if_pos (by omega)] at ho
   rw [if_neg] at ho'
   .rw [<-ho,<-ho'];trivial
   .rintro ⟨g1,g2⟩
    obtain ⟨t,ht⟩:∃ t:Nat,m.go j k=t:=⟨(m.go j k).toNat,by omega⟩
    rw [ht] at g2 hlang hgf
    rw [tym] at g2
    obtain ⟨w,hw'⟩:=(yzs hm).1 ((lvL (by omega)).1 g2)
    exact h (hcl.2 ⟨w,by rw [hlang];exact hw'⟩)
theorem yx2 {a m:Aut} (hv:a.valid) (hm:m.fine) (hl:0<m.acc.length) (hL:∀ w,a.accW a.begin w=m.accW (0:Nat) w):0<=zvz a.cls a.begin↔m.liveL[0]? =some true:=by
 rw [lvL hl,yzs hm]
 have hb:a.begin<(a.acc.length:Nat):=by
  have:=(zwm hv).2
  have:=hv.len
  omega
 rw [zou hv hb]
 simp only [hL]
theorem ygt {a m:Aut} (hv:a.valid) (hm:m.fine) (hsy:m.sy=a.sy) (hl:0<m.acc.length) (hL:∀ w,a.accW a.begin w=m.accW (0:Nat) w) (h0:m.liveL[0]? =some true) {cl:List Nat} (hP:POk m cl) (hc:CGood m (cP m.liveL cl)) {c0:Nat} (hc0:cl[0]? =some c0) :
  ∃ q,exR id (m.succP m.liveL (cl.map λc:Nat=>(c:Int))) 20001 (a.acc.length+1) 0 [(c0:Int)]=some (q,a.can.nxt)/\q.length<=20000/\a.can=⟨a.sy,0,q.map λc=>m.accB (zxp (cl.map λc:Nat=>(c:Int)) c:Nat),a.can.nxt⟩:=by
 have hb:=(yx2 hv hm hl hL).2 h0
 obtain ⟨s1,s2⟩:=xtt hv hm hsy hP hc
 have hbl:a.begin<(a.acc.length:Nat):=by
  have:=(zwm hv).2
  have:=hv.len
  omega
 have hbd:a.domR a.begin:=by
  refine ⟨?_,hbl,hb⟩
  rcases txv a.begin 0 with g | g
  .rw [zt9 g] at hb;omega
  .exact g
 have hsim:SimC a m cl a.begin c0:=⟨hbd,0,c0,hl,hc0,rfl,(lvL hl).1 h0,hL⟩
 have hx:=zfu hv hb
 obtain ⟨q,hq,hall⟩:=ynx s1 s2 (All2.cons hsim .nil) hx
 have hcan:a.can=⟨a.sy,0,a.exC.1.map a.accB,a.exC.2⟩:=by unfold Aut.can;rw [if_neg (by omega)]
 have hlen:=(zsa hv).2.2
 rw [hcan] at hlen
 simp only [tyk] at hlen
 refine ⟨q,by rw [hcan];exact hq,by rw [<-hall.length];have:=hv.most;omega,?_⟩
 rw [hcan]
 congr 1
 refine All2.map_eq ?_ hall
 rintro s c ⟨hs,i,x,hi,hx',rfl,li,hw⟩
 obtain ⟨j,hj,hjl,lj,hjw⟩:=yx1 hP hc hi hx' li
 rw [hj]
 have h1:=hw []
 have h2':=hjw []
 simp only [Aut.accW] at h1 h2'
 rw [h1,h2']
end Go.Fsa
namespace Go.Fsa
section
variable {S K:Type} [DecidableEq K] {key:S->K} {succ:S->List (Option S)} {most:Nat}
end
theorem ytu {a:Aut} (hv:a.valid) (h:0<=zvz a.cls a.begin):a.domR a.begin:=by
 refine ⟨?_,?_,h⟩
 .rcases txv a.begin 0 with g | g
  .rw [zt9 g] at h;omega
  .exact g
 .have:=hv.st1
  unfold Aut.begin
  split<;>omega
theorem ygu {a:Aut} (hv:a.valid):a.begin<(a.acc.length:Nat):=by
 have:=(zwm hv).2
 have:=hv.len
 omega
theorem zfy {a:Aut} (hv:a.valid) (h:0<=zvz a.cls a.begin):a.exC.2.length=a.exC.1.length/\a.exC.1[0]? =some a.begin/\(∀ s∈a.exC.1,a.domR s) /\
  ∀ (j:Nat) s,a.exC.1[j]? =some s->∃ row,a.exC.2[j]? =some row/\(row.length:Int)=a.sy/\∀ k:Nat,(k:Int)<a.sy->(zvz a.cls (a.go s k)<0/\row[k]? =some (-1))∨(0<=zvz a.cls (a.go s k)/\∃ (n:Nat) (t:Int),row[k]? =some (n:Int)/\a.exC.1[n]? =some t/\zvz a.cls t=zvz a.cls (a.go s k)):=by
 have hx:=zfu hv h
 have hlo:=hv.lo
 obtain ⟨h1,h2,h3⟩:=zt8 hx
 obtain ⟨d1,d2⟩:=znv (dom:=a.domR) (λs _ t ht=>zjb hv.fine ht) (λs hs=>by rw [tzw] at hs;rw [hs];exact ytu hv h) (by simp) hx
 refine ⟨by simpa using h2 (tz6 _),zyc h1 rfl,d1,λj s hs=>?_⟩
 obtain ⟨row,g1,g2,g3,g4⟩:=h3 j s (by rw [txj];exact hs) (tz6 _)
 rw [zja] at g2
 refine ⟨row,g1,by omega,λk hk=>?_⟩
 have hk2:(a.succR a.cls s)[k]? =some (if zvz a.cls (a.go s k)<0 then none else some (a.go s k)):=by
  unfold Aut.succR
  rw [tzr,tz7 (by omega)];rfl
 by_cases hc:zvz a.cls (a.go s k)<0
 .rw [if_pos hc] at hk2
  exact .inl ⟨hc,g3 k hk2⟩
 .rw [if_neg hc] at hk2
  obtain ⟨n,t,e1,e2,e3⟩:=g4 k _ hk2
  exact .inr ⟨by omega,n,t,e1,e2,e3⟩
theorem zfz {a:Aut} (h:0<=zvz a.cls a.begin):a.can=⟨a.sy,0,a.exC.1.map a.accB,a.exC.2⟩:=by unfold Aut.can;rw [if_neg (by omega)]
theorem yn3 {a:Aut} (h:zvz a.cls a.begin<0):a.can=⟨a.sy,0,[],[]⟩:=by unfold Aut.can;rw [if_pos h]
theorem zh9 {a:Aut}:a.can.sy=a.sy:=by unfold Aut.can;split<;>rfl
theorem ye9 {a:Aut}:a.can.st=0:=by unfold Aut.can;split<;>rfl
theorem zcc {a:Aut} (hv:a.valid):a.can.valid:=by
 obtain ⟨r1,r2,r3⟩:=zsa hv
 refine ⟨by rw [zh9];exact hv.lo,by rw [zh9];exact hv.hi,?_,r2,by rw [ye9];omega,?_,λr hr=>?_⟩
 .have:=hv.most;omega
 .rw [ye9];omega
 .refine ⟨by rw [zh9];exact r1 r hr,λt ht=>?_⟩
  rcases txv (zvz a.cls a.begin) 0 with g | g
  .rw [yn3 g] at hr;cases hr
  .obtain ⟨e1,e2,e3,e4⟩:=zfy hv g
   rw [zfz g] at hr ⊢
   simp only [tyk] at hr ⊢
   obtain ⟨j,hj,rfl⟩:=tyn hr
   obtain ⟨s,hs⟩:∃ s,a.exC.1[j]? =some s:=⟨_,tzb (by omega)⟩
   obtain ⟨row,g1,g2,g3⟩:=e4 j s hs
   rw [tzb hj,tza] at g1
   rw [g1] at ht
   obtain ⟨k,hk,rfl⟩:=tyn ht
   rcases g3 k (by omega) with ⟨_,h1⟩ | ⟨_,n,u,h1,h2,_⟩
   .rw [tzb hk,tza] at h1
    rw [h1];omega
   .rw [tzb hk,tza] at h1
    have:=zzw h2
    rw [h1];omega
theorem yn4 {a:Aut} (hv:a.valid) {s:Int} (h1:s<(a.acc.length:Nat)) (h:zvz a.cls s<0) (w:List Nat):a.accW s w=false:=by
 cases hw:a.accW s w with
 | false=>rfl
 | true=>have:=(zou hv h1).2 ⟨w,hw⟩;omega
theorem yx3 {a:Aut} (hv:a.valid) (h:0<=zvz a.cls a.begin):∀ (w:List Nat) {j:Nat} {s:Int},a.exC.1[j]? =some s->a.can.accW j w=a.accW s w
 | [],j,s,hs=>by
  simp only [Aut.accW]
  have:a.can.acc[j]? =some (a.accB s):=by rw [zfz h];simp only;rw [tzr,hs];rfl
  simp [Aut.accB,this]
 | k::w,j,s,hs=>by
  simp only [Aut.accW]
  obtain ⟨e1,e2,e3,e4⟩:=zfy hv h
  by_cases hk:(k:Int)<a.sy
  .obtain ⟨row,g1,g2,g3⟩:=e4 j s hs
   have hrow:a.can.nxt[j]? =some row:=by rw [zfz h];exact g1
   rcases g3 k hk with ⟨hc,h1⟩ | ⟨hc,n,u,h1,h2,h3⟩
   .rw [Aut.go_row (a:=a.can) hrow h1,Aut.accW_neg (by omega),yn4 hv (Aut.go_fine hv.fine).2 hc]
   .rw [Aut.go_row (a:=a.can) hrow h1,yx3 hv h w h2]
    have hg:a.domR (a.go s k):=by
     refine ⟨?_,(Aut.go_fine hv.fine).2,hc⟩
     rcases txv (a.go s k) 0 with g | g
     .rw [zt9 g] at hc;omega
     .exact g
    exact (yxz hv (e3 u (tzg h2)) hg).1 h3 w
  .rw [zre hv (by omega),Aut.go_big (a:=a.can) (zcc hv).fine (by rw [zh9];omega),Aut.accW_neg (by omega),Aut.accW_neg (by omega)]
theorem yn5 {a:Aut} (hv:a.valid) (w:List Nat):a.can.accW a.can.begin w=a.accW a.begin w:=by
 rcases txv (zvz a.cls a.begin) 0 with g | g
 .rw [yn4 hv (ygu hv) g,yn3 g]
  exact Aut.accW_neg (by simp [Aut.begin])
 .obtain ⟨_,e2,_⟩:=zfy hv g
  have hb:a.can.begin=((0:Nat):Int):=by
   have:=zzw e2
   rw [zfz g]
   simp only [Aut.begin,tyk]
   rw [if_neg (by omega)];rfl
  rw [hb]
  exact yx3 hv g w e2
theorem yx4 {a:Aut} (hv:a.valid):∀ {w:List Int} {s:Int},(∀ x∈w,0<=x/\x<a.sy)->(match a.run s w with | some t=>(a.acc[t.toNat]?).getD false | none=>false)=a.accW s (w.map Int.toNat)
 | [],s,_=>by
  simp only [Aut.run,List.map_nil,Aut.accW,Aut.accB]
  by_cases h:s<0
  .rw [if_pos h];simp [show ¬0<=s by omega]
  .rw [if_neg h];simp [show 0<=s by omega]
 | c::w,s,h=>by
  have hc:=h c (tz0 ..)
  simp only [Aut.run,txe,Aut.accW]
  rw [if_neg (by omega)]
  exact yx4 hv λx hx=>h x (tzq _ hx)
theorem zz5 {a:Aut} (hv:a.valid) {w:List Int} (h:∀ x∈w,0<=x/\x<a.sy):a.accepts w=a.accW a.begin (w.map Int.toNat):=by
 rw [<-yx4 hv h]
 unfold Aut.accepts Aut.lead
 have h0:=hv.st0
 have h1:=hv.st1
 have hl:=hv.len
 by_cases hn:a.acc.length=0
 .rw [if_neg (by omega)]
  have:a.begin=-1:=by simp [Aut.begin,hn]
  rw [this,Aut.run_neg (by omega)]
 .rw [if_pos ⟨Aut.check_valid.2 hv,by omega,by omega⟩]
  have:a.begin=a.st:=by simp [Aut.begin,hn]
  rw [this]
  all_goals (cases a.run a.st w<;>rfl)
theorem zjd {a:Aut} {w:List Int} (h:¬∀ x∈w,0<=x/\x<a.sy):a.accepts w=false:=by
 unfold Aut.accepts Aut.lead
 split
 .rename_i t ht
  split at ht
  .rw [Aut.run_word] at ht
   .cases ht
   .rw [List.any_eq_true]
    refine txd λhn=>h λx hx=>txd λhx2=>hn ⟨x,hx,?_⟩
    simp only [decide_eq_true_eq];omega
  .cases ht
 .rfl
theorem zuh {a:Aut} (hv:a.valid) (w:List Int):a.can.accepts w=a.accepts w:=by
 by_cases h:∀ x∈w,0<=x/\x<a.sy
 .rw [zz5 hv h,zz5 (zcc hv) (by rw [zh9];exact h),yn5 hv]
 .rw [zjd h,zjd (by rw [zh9];exact h)]
end Go.Fsa
namespace Go.Fsa
def Aut.succD (a b:Aut) (p:Int×Int):List (Option (Int×Int)):=(List.range a.sy.toNat).map λk=>some (a.go p.1 k,b.go p.2 k)
theorem zov {a b:Aut} {p:Int×Int}:(a.succD b p).length=a.sy.toNat:=by simp [Aut.succD]
theorem zcd {a b:Aut} {p:Int×Int} {c:Nat} {o:Option (Int×Int)} (h:(a.succD b p)[c]? =some o):o=some (a.go p.1 c,b.go p.2 c)/\(c:Int)<a.sy:=by
 have hc:=zzw h
 rw [zov] at hc
 unfold Aut.succD at h
 rw [tzr,tz7 hc] at h
 simp only [tz2,tza] at h
 exact ⟨h.symm,by omega⟩
theorem ygv {a b:Aut} {p:Int×Int} {k:Nat} (h:(k:Int)<a.sy):(a.succD b p)[k]? =some (some (a.go p.1 k,b.go p.2 k)):=by
 unfold Aut.succD
 rw [tzr,tz7 (by omega)];rfl
def ygw (a b:Aut) (p:Int×Int):Prop:=a.dom p.1/\b.dom p.2
theorem zje {a b:Aut} (ha:a.valid) (hb:b.valid) {s:Int×Int} (_:ygw a b s) {t:Int×Int} (ht:some t∈a.succD b s):ygw a b t:=by
 unfold Aut.succD at ht
 obtain ⟨k,_,e⟩:=tyg.1 ht
 simp only [tza] at e
 rw [<-e];exact ⟨Aut.go_dom ha,Aut.go_dom hb⟩
theorem ygx {m x y x' y':Int} (hm:0<m) (hy:0<=y/\y<m) (hy':0<=y'/\y'<m) (h:y+x*m=y'+x'*m):x=x'/\y=y':=by
 have e1:(y+x*m) / m=x:=by rw [Int.add_mul_ediv_right _ _ (by omega),Int.ediv_eq_zero_of_lt hy.1 hy.2,Int.zero_add]
 have e2:(y'+x'*m) / m=x':=by rw [Int.add_mul_ediv_right _ _ (by omega),Int.ediv_eq_zero_of_lt hy'.1 hy'.2,Int.zero_add]
 rw [h,e2] at e1
 subst e1
 exact ⟨rfl,by omega⟩
theorem yx5 {a b:Aut} {q:List (Int×Int)} (h1:∀ s∈q,ygw a b s) (h2:q.Nodup):q.length<=(a.nxt.length+1)*(b.nxt.length+1):=by
 have:=zqb (n:=(a.nxt.length+1)*(b.nxt.length+1)) (l:=q.map λp=>(p.2+1)+(p.1+1)*((b.nxt.length+1:Nat):Int)) (List.pairwise_map.2 (h2.imp_of_mem λ{s t} hs ht h e=>by
  have ds:=h1 s hs
  have dt:=h1 t ht
  unfold ygw Aut.dom at ds dt
  obtain ⟨e1,e2⟩:=ygx (m:=((b.nxt.length+1:Nat):Int)) (by omega) ⟨by omega,by omega⟩ ⟨by omega,by omega⟩ e
  exact h (Prod.ext (by omega) (by omega)))) λx hx=>by
   obtain ⟨u,hu,rfl⟩:=tyg.1 hx
   have du:=h1 u hu
   unfold ygw Aut.dom at du
   have h0:0<=(u.1+1)*((b.nxt.length+1:Nat):Int):=Int.mul_nonneg (by omega) (by omega)
   have h3:(u.1+1)*((b.nxt.length+1:Nat):Int)<=(a.nxt.length:Int)*((b.nxt.length+1:Nat):Int):=Int.mul_le_mul_of_nonneg_right (by omega) (by omega)
   have h4:(((a.nxt.length+1)*(b.nxt.length+1):Nat):Int)=(a.nxt.length:Int)*((b.nxt.length+1:Nat):Int)+((b.nxt.length+1:Nat):Int):=by
    rw [Int.natCast_mul,show ((a.nxt.length+1:Nat):Int)=(a.nxt.length:Int)+1 from rfl,Int.add_mul,Int.one_mul]
   rw [h4]
   exact ⟨by omega,by omega⟩
 simpa using this
def yn6 (a b:Aut):Nat:=(a.nxt.length+1)*(b.nxt.length+1)+1
theorem znw {a b:Aut} (ha:a.valid) (hb:b.valid):ygw a b (a.begin,b.begin):=⟨zwm ha,zwm hb⟩
theorem xtu {a b:Aut} (ha:a.valid) (hb:b.valid) (hN:(a.nxt.length+1)*(b.nxt.length+1)<=100000):∃ r,exR id (a.succD b) 100000 (yn6 a b) 0 [(a.begin,b.begin)]=some r:=
 zor (dom:=ygw a b) (N:=(a.nxt.length+1)*(b.nxt.length+1)) (λs hs t ht=>zje ha hb hs ht) (λq h1 h2=>yx5 h1 (by simpa using h2)) hN (λs hs=>by rw [tzw] at hs;rw [hs];exact znw ha hb) (by simp) (by unfold yn6;omega) (by simp)
def Aut.exD (a b:Aut):List (Int×Int)×List (List Int):=(exR id (a.succD b) 100000 (yn6 a b) 0 [(a.begin,b.begin)]).getD ([],[])
theorem zf0 {a b:Aut} (ha:a.valid) (hb:b.valid) (hN:(a.nxt.length+1)*(b.nxt.length+1)<=100000):exR id (a.succD b) 100000 (yn6 a b) 0 [(a.begin,b.begin)]=some (a.exD b):=by
 obtain ⟨r,hr⟩:=xtu ha hb hN
 have e:a.exD b=r:=by unfold Aut.exD;rw [hr];rfl
 rw [e];exact hr
structure FirstBy (a b:Aut) (q:List (Int×Int)) (fi bs:List Int):Prop where
 lf:fi.length=q.length
 lb:bs.length=q.length
 get:∀ n,0<n->n<q.length->∃ (i c:Nat) (p:Int×Int),fi[n]? =some (i:Int)/\bs[n]? =some (c:Int)/\i<n/\(c:Int)<a.sy/\q[i]? =some p/\q[n]? =some (a.go p.1 c,b.go p.2 c)
def xtv (fi bs:List Int):Nat->Nat->List Int
 | 0,_=>[]
 | F+1,n=>if n=0 then [] else (bs[n]?).getD 0::xtv fi bs F ((fi[n]?).getD 0).toNat
end Go.Fsa
namespace Go.Fsa
section
variable {S:Type} [DecidableEq S] {succ:S->List (Option S)} {ac:S->Bool} {most F:Nat} {s0:S} {r:List S×List (List Int)} {sy:Int}
def zi3 (succ:S->List (Option S)) (ac:S->Bool):S->List Nat->Bool
 | s,[]=>ac s
 | s,c::w=>match (succ s)[c]? with
  | some (some t)=>zi3 succ ac t w
  | _=>false
def ztf (sy:Int) (ac:S->Bool) (r:List S×List (List Int)):Aut:=⟨sy,0,r.1.map ac,r.2⟩
theorem zqh (hlen:∀ s,((succ s).length:Int)=sy) (hex:exR id succ most F 0 [s0]=some r):(ztf sy ac r).fine/\0<(ztf sy ac r).acc.length/\r.1[0]? =some s0:=by
 obtain ⟨h1,h2,h3⟩:=zt8 hex
 have hl:r.2.length=r.1.length:=by simpa using h2 (tz6 _)
 have h0:r.1[0]? =some s0:=zyc h1 rfl
 refine ⟨⟨by simpa [ztf] using hl,λrow hr=>?_⟩,by simpa [ztf] using zzw h0,h0⟩
 simp only [ztf] at hr ⊢
 obtain ⟨j,hj,rfl⟩:=tyn hr
 obtain ⟨s,hs⟩:∃ s,r.1[j]? =some s:=⟨_,tzb (by omega)⟩
 obtain ⟨row,g1,g2,g3,g4⟩:=h3 j s (by rw [txj];exact hs) (tz6 _)
 rw [tzb hj,tza] at g1
 rw [g1]
 refine ⟨by rw [g2];exact hlen s,λt ht=>?_⟩
 obtain ⟨k,hk,rfl⟩:=tyn ht
 obtain ⟨o,ho⟩:∃ o,(succ s)[k]? =some o:=⟨_,tzb (by omega)⟩
 cases o with
 | none=>
  have:=g3 k ho
  rw [tzb hk,tza] at this
  rw [this];omega
 | some u=>
  obtain ⟨n,t',e1,e2,_⟩:=g4 k u ho
  rw [tzb hk,tza] at e1
  have:=zzw e2
  rw [e1,tyk];omega
theorem zga (hlen:∀ s,((succ s).length:Int)=sy) (hex:exR id succ most F 0 [s0]=some r):∀ (w:List Nat) {j:Nat} {s:S},r.1[j]? =some s->(ztf sy ac r).accW j w=zi3 succ ac s w
 | [],j,s,hs=>by
  simp only [Aut.accW,zi3]
  have:(ztf sy ac r).acc[j]? =some (ac s):=by simp only [ztf];rw [tzr,hs];rfl
  simp [Aut.accB,this]
 | c::w,j,s,hs=>by
  simp only [Aut.accW,zi3]
  obtain ⟨h1,h2,h3⟩:=zt8 hex
  obtain ⟨row,g1,g2,g3,g4⟩:=h3 j s (by rw [txj];exact hs) (tz6 _)
  cases ho:(succ s)[c]? with
  | none=>
   rw [Aut.go_big (zqh hlen hex).1 (by
    rw [List.getElem?_eq_none_iff] at ho
    have:=hlen s
    show sy<=_
    omega),Aut.accW_neg (by omega)]
  | some o=>
   cases o with
   | none=>rw [Aut.go_row (a:=ztf sy ac r) g1 (g3 c ho),Aut.accW_neg (by omega)]
   | some t=>
    obtain ⟨n,t',e1,e2,e3⟩:=g4 c t ho
    have e3:t'=t:=e3
    subst e3
    rw [Aut.go_row (a:=ztf sy ac r) g1 e1,zga hlen hex w e2]
theorem zjf (h1:1<=sy) (h2:sy<=400) (hlen:∀ s,((succ s).length:Int)=sy) (hex:exR id succ most F 0 [s0]=some r) (hr:r.1.length<=20000) :
  (ztf sy ac r).valid/\∀ w,(ztf sy ac r).accW (ztf sy ac r).begin w=zi3 succ ac s0 w:=by
 obtain ⟨⟨g1,g2⟩,g3,g4⟩:=zqh (ac:=ac) hlen hex
 have hl:(ztf sy ac r).acc.length=r.1.length:=by simp [ztf]
 refine ⟨⟨by show ¬sy<1;omega,by show ¬400<sy;omega,by omega,g1,by show ¬(0:Int)<0;omega,by show ¬_<=(0:Int);omega,g2⟩,λw=>?_⟩
 have hb:(ztf sy ac r).begin=((0:Nat):Int):=by unfold Aut.begin;rw [if_neg (by omega)];rfl
 rw [hb]
 exact zga hlen hex w g4
end
theorem yda {a b:Aut} (ha:a.valid) (hb:b.valid) (hs:a.sy=b.sy) {f:Bool->Bool->Bool} (hf:f false false=false):∀ (w:List Nat) (p:Int×Int),zi3 (a.succD b) (λp=>f (a.accB p.1) (b.accB p.2)) p w=f (a.accW p.1 w) (b.accW p.2 w)
 | [],p=>rfl
 | c::w,p=>by
  simp only [zi3,Aut.accW]
  by_cases hc:(c:Int)<a.sy
  .rw [ygv hc]
   exact yda ha hb hs hf w _
  .rw [tzt (by rw [zov];omega),zre ha (by omega),zre hb (by omega),Aut.accW_neg (by omega),Aut.accW_neg (by omega),hf]
def zi4 (f:Bool->Bool->Bool) (a b:Aut):Aut:=ztf a.sy (λp=>f (a.accB p.1) (b.accB p.2)) (a.exD b)
theorem xya {a b:Aut} (ha:a.valid) (hb:b.valid) (hN:(a.nxt.length+1)*(b.nxt.length+1)<=100000):(a.exD b).1.length<=(a.nxt.length+1)*(b.nxt.length+1):=by
 obtain ⟨d1,d2⟩:=znv (dom:=ygw a b) (λs hs t ht=>zje ha hb hs ht) (λs hs=>by rw [tzw] at hs;rw [hs];exact znw ha hb) (by simp) (zf0 ha hb hN)
 exact yx5 d1 (by simpa using d2)
theorem zf1 {a b:Aut} (ha:a.valid) (hb:b.valid) (hs:a.sy=b.sy) (hN:(a.nxt.length+1)*(b.nxt.length+1)<=20000) {f:Bool->Bool->Bool} (hf:f false false=false) :
  (zi4 f a b).valid/\0<(zi4 f a b).acc.length/\(∀ w,(zi4 f a b).accW (zi4 f a b).begin w=f (a.accW a.begin w) (b.accW b.begin w)):=by
 have hex:=zf0 ha hb (by omega)
 have hlen:∀ s,((a.succD b s).length:Int)=a.sy:=λs=>by rw [zov];have:=ha.lo;omega
 have hlo:=ha.lo
 have hhi:=ha.hi
 obtain ⟨h1,h2⟩:=zjf (ac:=λp=>f (a.accB p.1) (b.accB p.2)) (by omega) (by omega) hlen hex (by have:=xya ha hb (by omega);omega)
 exact ⟨h1,(zqh hlen hex).2.1,λw=>(h2 w).trans (yda ha hb hs hf w _)⟩
theorem zqi {m:Aut} (h:0<m.acc.length) (hs:m.st=0):m.begin=((0:Nat):Int):=by unfold Aut.begin;rw [if_neg (by omega),hs];rfl
def zqy (a:Aut):Aut:=⟨a.sy,0,a.wh.acc.map (!·),a.wh.nxt⟩
theorem ygy {a:Aut} {s:Int} {k:Nat}:(zqy a).go s k=a.wh.go s k:=rfl
theorem zgb {a:Aut} (hv:a.valid):∀ (w:List Nat) {j:Nat} {s:Int},a.exW.1[j]? =some s->(zqy a).accW j w=(w.all (λk=>decide ((k:Int)<a.sy))&&!a.accW s w)
 | [],j,s,hs=>by
  simp only [Aut.accW,List.all_nil,tzi]
  have:(zqy a).acc[j]? =some (!a.accB s):=by
   show (a.wh.acc.map (!·))[j]? =_
   simp only [Aut.wh,tzr,hs,tz2]
  simp [Aut.accB,this]
 | k::w,j,s,hs=>by
  simp only [Aut.accW,List.all_cons,ygy]
  by_cases hk:(k:Int)<a.sy
  .obtain ⟨n,e1,e2⟩:=xpf hv hs hk
   rw [e1,zgb hv w e2]
   simp [hk]
  .rw [Aut.go_big (a:=a.wh) (yn2 hv) (by show a.sy<=k;omega),Aut.accW_neg (by omega)]
   simp [hk]
theorem zf2 {a:Aut} (hv:a.valid) (hn:a.nxt.length<20000) :
  (zqy a).valid/\0<(zqy a).acc.length/\∀ w,(zqy a).accW (zqy a).begin w=(w.all (λk=>decide ((k:Int)<a.sy))&&!a.accW a.begin w):=by
 obtain ⟨h1,h2,h3,h4,h5⟩:=yzr hv
 have hl:=zzw h2
 have hle:=yn0 h3 h4
 obtain ⟨f1,f2⟩:=yn2 hv
 have hwl:=yn1 (a:=a)
 have hcl:(zqy a).acc.length=a.wh.acc.length:=by simp [zqy]
 have h0:0<(zqy a).acc.length:=by omega
 refine ⟨⟨hv.lo,hv.hi,by omega,by rw [hcl];exact f1,by show ¬(0:Int)<0;omega,by show ¬_<=(0:Int);omega,λr hr=>by rw [hcl];exact f2 r hr⟩,h0,λw=>?_⟩
 rw [zqi h0 rfl]
 exact zgb hv w h2
end Go.Fsa
namespace Go.Fsa
inductive Sw (a b:Nat) (l:List Int):List Int->Prop
 | refl:Sw a b l l
 | swap {W:List Int} {i j:Nat} {x y:Int} (h:Sw a b l W) (hi:a<=i/\i<b) (hj:a<=j/\j<b) (hx:W[i]? =some x) (hy:W[j]? =some y):Sw a b l ((W.set i y).set j x)
theorem zow {W:List Int} {i j k:Nat} {x y:Int} (hx:W[i]? =some x) (hy:W[j]? =some y):((W.set i y).set j x)[k]? =if k=j then some x else if k=i then some y else W[k]?:=by
 have hi:=zzw hx
 have hj:=zzw hy
 by_cases e:k=j
 .subst e
  rw [if_pos rfl,tz1 (by rw [tz3];exact hj)]
 .rw [if_neg e,tz4 (Ne.symm e)]
  by_cases f:k=i
  .subst f
   rw [if_pos rfl,tz1 hi]
  .rw [if_neg f,tz4 (Ne.symm f)]
theorem Sw.len {a b:Nat} {l W:List Int} (h:Sw a b l W):W.length=l.length:=by
 induction h with
 | refl=>rfl
 | swap _ _ _ _ _ ih=>simpa using ih
theorem Sw.mem {a b:Nat} {l W:List Int} (h:Sw a b l W):∀ z,z∈W↔z∈l:=by
 induction h with
 | refl=>exact λz=>Iff.rfl
 | @swap W i j x y _ _ _ hx hy ih=>
  intro z
  rw [<-ih z,List.mem_iff_getElem?,List.mem_iff_getElem?]
  constructor
  .rintro ⟨k,hk⟩
   rw [zow hx hy] at hk
   split at hk
   .exact ⟨i,by rw [hx];exact hk⟩
   .split at hk
    .exact ⟨j,by rw [hy];exact hk⟩
    .exact ⟨k,hk⟩
  .rintro ⟨k,hk⟩
   by_cases e:k=i
   .subst e
    exact ⟨j,by rw [zow hx hy,if_pos rfl,<-hx];exact hk⟩
   .by_cases f:k=j
    .subst f
     exact ⟨i,by
      rw [zow hx hy]
      by_cases g:i=k
      .exact absurd g.symm e
      .rw [if_neg g,if_pos rfl,<-hy];exact hk⟩
    .exact ⟨k,by rw [zow hx hy,if_neg f,if_neg e];exact hk⟩
theorem Sw.trans {a b:Nat} {l W V:List Int} (h:Sw a b l W) (k:Sw a b W V):Sw a b l V:=by
 induction k with
 | refl=>exact h
 | swap _ hi hj hx hy ih=>exact .swap ih hi hj hx hy
theorem Sw.mono {a b a' b':Nat} {l W:List Int} (h:Sw a b l W) (ha:a'<=a) (hb:b<=b'):Sw a' b' l W:=by
 induction h with
 | refl=>exact .refl
 | swap _ hi hj hx hy ih=>exact .swap ih ⟨by omega,by omega⟩ ⟨by omega,by omega⟩ hx hy
def Srt (a b:Nat) (W:List Int):Prop:=∀ i j x y,a<=i->i<j->j<b->W[i]? =some x->W[j]? =some y->x<=y
def Ins (a j i:Nat) (W:List Int):Prop:=∀ p q x y,a<=p->p<q->q<=i->q≠j->W[p]? =some x->W[q]? =some y->x<=y
theorem Ins.start {a i:Nat} {W:List Int} (h:Srt a i W):Ins a i i W:=λp q x y h1 h2 h3 h4 hx hy=>h p q x y h1 h2 (by omega) hx hy
theorem Ins.step {a j i:Nat} {W:List Int} {u v:Int} (h:Ins a j i W) (ha:a<j) (hj:j<=i) (hu:W[j-1]? =some u) (hv:W[j]? =some v) (hlt:v<u):Ins a (j-1) i ((W.set j u).set (j-1) v):=by
 intro p q x y h1 h2 h3 h4 hx hy
 rw [zow hv hu] at hx hy
 rw [if_neg h4] at hy
 by_cases e:q=j
 .rw [if_pos e,tza] at hy
  subst hy
  by_cases f:p=j-1
  .rw [if_pos f,tza] at hx
   omega
  .rw [if_neg f,if_neg (by omega)] at hx
   exact h p (j-1) x u h1 (by omega) (by omega) (by omega) hx hu
 .rw [if_neg e] at hy
  by_cases f:p=j-1
  .rw [if_pos f,tza] at hx
   subst hx
   exact h j q v y (by omega) (by omega) h3 e hv hy
  .rw [if_neg f] at hx
   by_cases g:p=j
   .rw [if_pos g,tza] at hx
    subst hx
    exact h (j-1) q u y (by omega) (by omega) h3 e hu hy
   .rw [if_neg g] at hx
    exact h p q x y h1 h2 h3 e hx hy
theorem Ins.done {a j i:Nat} {W:List Int} (h:Ins a j i W) (hj:a<=j/\j<=i) (hs:j=a∨∀ u v,W[j-1]? =some u->W[j]? =some v->u<=v) (hl:j<W.length):Srt a (i+1) W:=by
 intro p q x y h1 h2 h3 hx hy
 by_cases e:q=j
 .subst e
  rcases hs with hs | hs
  .omega
  .obtain ⟨u,hu⟩:∃ u,W[q-1]? =some u:=⟨_,tzb (by omega)⟩
   have h4:=hs u y hu hy
   by_cases f:p=q-1
   .subst f
    rw [hu,tza] at hx;omega
   .have:=h p (q-1) x u h1 (by omega) (by omega) (by omega) hx hu
    omega
 .exact h p q x y h1 h2 (by omega) e hx hy
structure IsSet (s l:List Int):Prop where
 up:s.Pairwise (· < ·)
 mem:∀ x,x∈s↔x∈l
theorem yx6:∀ {s t:List Int},s.Pairwise (· < ·)->t.Pairwise (· < ·)->(∀ x,x∈s↔x∈t)->s=t
 | [],[],_,_,_=>rfl
 | [],y::t,_,_,h=>absurd ((h y).2 (tz0 ..)) (txt)
 | x::s,[],_,_,h=>absurd ((h x).1 (tz0 ..)) (txt)
 | x::s,y::t,hs,ht,h=>by
  rw [List.pairwise_cons] at hs ht
  have e:x=y:=by
   rcases tzu.1 ((h x).1 (tz0 ..)) with g | g
   .exact g
   .rcases tzu.1 ((h y).2 (tz0 ..)) with k | k
    .exact k.symm
    .have:=ht.1 x g
     have:=hs.1 y k
     omega
  subst e
  congr 1
  refine yx6 hs.2 ht.2 λz=>?_
  constructor
  .intro hz
   have:=hs.1 z hz
   rcases tzu.1 ((h z).1 (tzq _ hz)) with g | g
   .omega
   .exact g
  .intro hz
   have:=ht.1 z hz
   rcases tzu.1 ((h z).2 (tzq _ hz)) with g | g
   .omega
   .exact g
def zya (n:Nat) (l:List Int):List Int:=((List.range n).map λi:Nat=>(i:Int)).filter λx=>decide (x∈l)
theorem yx7 {n:Nat} {l:List Int} (h:∀ x∈l,0<=x/\x<(n:Int)):IsSet (zya n l) l:=by
 refine ⟨?_,λx=>?_⟩
 .refine List.Pairwise.filter _ ?_
  rw [List.pairwise_map]
  exact List.pairwise_lt_range.imp λh=>by omega
 .unfold zya
  rw [List.mem_filter,tyg]
  simp only [decide_eq_true_eq,txc]
  exact ⟨λh=>h.2,λhx=>⟨⟨x.toNat,by have:=h x hx;omega,by have:=h x hx;omega⟩,hx⟩⟩
theorem IsSet.eq {n:Nat} {s l:List Int} (h:IsSet s l) (hl:∀ x∈l,0<=x/\x<(n:Int)):s=zya n l:=
 yx6 h.up (yx7 hl).up λx=>(h.mem x).trans ((yx7 hl).mem x).symm
structure Cmp (l W:List Int) (k m:Nat):Prop where
 len:W.length=l.length
 up:(W.take k).Pairwise (· < ·)
 mem:∀ x,x∈W.take k↔x∈l.take m
 rest:∀ j,m<=j+1->W[j]? =l[j]?
theorem ygz {l:List Int} (h:Srt 0 l.length l) {m:Nat} {y:Int} (hy:l[m]? =some y):∀ x∈l.take m,x<=y:=λx hx=>by
 obtain ⟨i,hi⟩:=List.mem_iff_getElem?.1 hx
 rw [tyb] at hi
 split at hi
 .rename_i him
  exact h i m x y (tz6 _) him (zzw hy) hi hy
 .cases hi
theorem zv5 {l:List Int} {m:Nat} {y:Int} (hy:l[m]? =some y) (x:Int):x∈l.take (m+1)↔x∈l.take m∨x=y:=by
 rw [tz8,hy];simp
theorem zrf {W:List Int} {k:Nat} {y:Int} (hk:k<W.length):(W.set k y).take (k+1)=W.take k++[y]:=by
 rw [tz8,txx (tzp _),tz1 hk];rfl
theorem Cmp.same {l W:List Int} {k m:Nat} (h:Cmp l W k m) (hm:1<=m) {y:Int} (h1:l[m-1]? =some y) (h2:l[m]? =some y):Cmp l W k (m+1):=
 ⟨h.len,h.up,λx=>by
  rw [h.mem,zv5 h2]
  refine ⟨.inl,?_⟩
  rintro (g | rfl)
  .exact g
  .exact List.mem_iff_getElem?.2 ⟨m-1,by rw [tyb,if_pos (by omega)];exact h1⟩,λj hj=>h.rest j (by omega)⟩
theorem Cmp.new {l W:List Int} {k m:Nat} (h:Cmp l W k m) (hs:Srt 0 l.length l) (hm:1<=m) (hk:k<m) {x y:Int} (h1:l[m-1]? =some x) (h2:l[m]? =some y) (hne:y≠x):Cmp l (W.set k y) (k+1) (m+1):=by
 have hml:=zzw h2
 have hkl:k<W.length:=by rw [h.len];omega
 have hxy:x<y:=by
  have:=hs (m-1) m x y (tz6 _) (by omega) hml h1 h2
  omega
 refine ⟨by rw [tz3];exact h.len,?_,λz=>?_,λj hj=>?_⟩
 .rw [zrf hkl,List.pairwise_append]
  refine ⟨h.up,List.pairwise_singleton _ _,λz hz w hw=>?_⟩
  rw [tzw] at hw
  subst hw
  rw [h.mem] at hz
  obtain ⟨m',rfl⟩:∃ m',m=m'+1:=⟨m-1,by omega⟩
  rw [Nat.add_sub_cancel] at h1
  rcases (zv5 h1 z).1 hz with g | g
  .have:=ygz hs h1 z g
   omega
  .omega
 .rw [zrf hkl,zv5 h2,tyh,h.mem,tzw]
 .rw [tz4 (by omega)]
  exact h.rest j (by omega)
theorem Cmp.first {l:List Int} (hs:Srt 0 l.length l) {k:Nat} (hk:k<=l.length) (h:∀ j x y,j+1<k->l[j]? =some x->l[j+1]? =some y->x≠y):Cmp l l k k:=by
 refine ⟨rfl,?_,λx=>Iff.rfl,λj _=>rfl⟩
 rw [List.pairwise_iff_getElem]
 intro i j hi hj hij
 simp only [tyw] at hi hj
 simp only [List.getElem_take]
 have h1:l[i]? =some l[i]:=tzb (by omega)
 have h2:l[j]? =some l[j]:=tzb (by omega)
 have h3:l[j-1]? =some l[j-1]:=tzb (by omega)
 have a1:=hs (j-1) j _ _ (tz6 _) (by omega) (by omega) h3 h2
 have a2:=h (j-1) _ _ (by omega) h3 (by rw [Nat.sub_add_cancel (by omega)];exact h2)
 by_cases e:i=j-1
 .subst e;omega
 .have:=hs i (j-1) _ _ (tz6 _) (by omega) (by omega) h1 h3
  omega
end Go.Fsa
namespace Go.Fsa
def ytv (s:List Int):List Nat:=s.flatMap λx=>[x.toNat % 256,x.toNat / 256 % 256]
def zwt (s:List Int):List UInt8:=(ytv s).map UInt8.ofNat
def stN:List UInt8->List Int
 | a::b::l=>((a.toNat+b.toNat*256:Nat):Int)::stN l
 | _=>[]
theorem zjg {x:Int} {s:List Int}:ytv (x::s)=x.toNat % 256::x.toNat / 256 % 256::ytv s:=by simp [ytv]
theorem yx8 {s t:List Int}:ytv (s++t)=ytv s++ytv t:=by simp [ytv]
theorem zl8:∀ {s:List Int},(ytv s).length=2*s.length
 | []=>rfl
 | x::s=>by rw [zjg];simp only [tzd,zl8 (s:=s)];omega
theorem yx9 {n:Nat} (h:n<256):(UInt8.ofNat n).toNat=n:=by rw [UInt8.toNat_ofNat',txu h]
theorem zf3:∀ {s:List Int},(∀ x∈s,0<=x/\x<65536)->stN (zwt s)=s
 | [],_=>rfl
 | x::s,h=>by
  obtain ⟨h1,h2⟩:=h x (tz0 ..)
  unfold zwt
  rw [zjg,txe,txe]
  show _::stN (zwt s)=_
  rw [zf3 λy hy=>h y (tzq _ hy),yx9 (by omega),yx9 (by omega)]
  congr 1
  omega
theorem yg0 {s:List Int}:(zwt s).length=2*s.length:=by unfold zwt;rw [tyk,zl8]
theorem yg1 {s:List Int} (hs:∀ x∈s,0<=x/\x<65536):∀ {i:Nat} {x:Int},s[i]? =some x->∃ a b:UInt8,(zwt s)[2*i]? =some a/\(zwt s)[2*i+1]? =some b/\x=((a.toNat+b.toNat*256:Nat):Int):=by
 induction s with
 | nil=>intro i x h;simp at h
 | cons y s ih=>
  intro i x h
  have e:zwt (y::s)=UInt8.ofNat (y.toNat % 256)::UInt8.ofNat (y.toNat / 256 % 256)::zwt s:=by unfold zwt;rw [zjg];rfl
  rw [e]
  cases i with
  | zero=>
   simp only [txp,tza] at h
   subst h
   obtain ⟨h1,h2⟩:=hs y (tz0 ..)
   refine ⟨_,_,rfl,rfl,?_⟩
   rw [yx9 (by omega),yx9 (by omega)]
   omega
  | succ i=>
   rw [txr] at h
   obtain ⟨a,b,h1,h2,h3⟩:=ih (λz hz=>hs z (tzq _ hz)) h
   refine ⟨a,b,?_,?_,h3⟩
   .rw [show 2*(i+1)=2*i+1+1 by omega,txr,txr];exact h1
   .rw [show 2*(i+1)+1=2*i+1+1+1 by omega,txr,txr];exact h2
def zmq (a:Aut) (s:List Int) (c:Nat):List Int:=(s.map λx=>a.go x c).filter λt=>decide (0<=t)
theorem yn7 {a:Aut} {s:List Int} {c:Nat} {x:Int}:zmq a (s++[x]) c=zmq a s c++if 0<=a.go x c then [a.go x c] else []:=by
 unfold zmq
 rw [txk,List.filter_append]
 congr 1
 by_cases h:0<=a.go x c<;>simp [h]
theorem zf4 {a:Aut} {s:List Int} {c:Nat}:(zmq a s c).length<=s.length:=by
 unfold zmq
 exact tys (List.length_filter_le ..) (by rw [tyk];exact tzp _)
theorem zu3 {a:Aut} {s:List Int} {c:Nat} {t:Int}:t∈zmq a s c↔0<=t/\∃ x∈s,a.go x c=t:=by
 unfold zmq
 rw [List.mem_filter,tyg,decide_eq_true_eq]
 exact ⟨λ⟨h1,h2⟩=>⟨h2,h1⟩,λ⟨h1,h2⟩=>⟨h2,h1⟩⟩
def inA (a:Aut) (s:List Int):Prop:=∀ x∈s,0<=x/\x<(a.nxt.length:Nat)
theorem inA.fol {a:Aut} (hv:a.valid) {s:List Int} {c:Nat}:inA a (zmq a s c):=λt ht=>by
 obtain ⟨h1,x,_,rfl⟩:=zu3.1 ht
 exact ⟨h1,(Aut.go_dom hv).2⟩
theorem inA.hi {a:Aut} (hv:a.valid) {s:List Int} (h:inA a s):∀ x∈s,0<=x/\x<65536:=λx hx=>by
 have:=h x hx
 have:=hv.most
 have:=hv.len
 omega
end Go.Fsa
namespace Go.Fsa
theorem zrg {α:Type} [DecidableEq α]:∀ {q L:List α},q.Nodup->(∀ x∈q,x∈L)->q.length<=L.length
 | [],L,_,_=>tz6 _
 | x::q,L,hn,hs=>by
  rw [List.nodup_cons] at hn
  have hx:=hs x (tz0 ..)
  have h1:=zrg (q:=q) (L:=L.erase x) hn.2 λy hy=>by
   have hne:y≠x:=λe=>hn.1 (by rw [<-e];exact hy)
   exact (List.mem_erase_of_ne hne).2 (hs y (tzq _ hy))
  have h2:=List.length_erase_of_mem hx
  have h3:=List.length_pos_of_mem hx
  simp only [tzd]
  omega
def yly:Nat->List (List Int)
 | 0=>[[]]
 | n+1=>yly n++(yly n).map (·++[(n:Int)])
theorem zl9:∀ n,(yly n).length=2 ^ n
 | 0=>rfl
 | n+1=>by rw [yly,tz5,tyk,zl9 n,Nat.pow_succ];omega
theorem ytw {n:Nat} {l:List Int}:zya (n+1) l=zya n l++if (n:Int)∈l then [(n:Int)] else []:=by
 unfold zya
 rw [List.range_succ,txk,List.filter_append]
 congr 1
 by_cases h:(n:Int)∈l<;>simp [h]
theorem ztq:∀ {n:Nat} {l:List Int},zya n l∈yly n
 | 0,l=>by simp [zya,yly]
 | n+1,l=>by
  rw [ytw,yly]
  by_cases h:(n:Int)∈l
  .rw [if_pos h]
   exact txg _ (tyg.2 ⟨_,ztq,rfl⟩)
  .rw [if_neg h,tyv]
   exact txf _ ztq
theorem zu4 {n:Nat} {l:List Int}:∀ x∈zya n l,0<=x/\x<(n:Int):=λx hx=>by
 unfold zya at hx
 rw [List.mem_filter,tyg] at hx
 obtain ⟨⟨i,hi,rfl⟩,_⟩:=hx
 rw [txc] at hi
 exact ⟨by omega,by omega⟩
theorem ztr {n:Nat} {l:List Int}:(zya n l).length<=n:=by
 unfold zya
 exact tys (List.length_filter_le ..) (by simp)
theorem zts {n:Nat} {l:List Int} {x:Int}:x∈zya n l↔x∈l/\0<=x/\x<(n:Int):=by
 unfold zya
 rw [List.mem_filter,tyg]
 simp only [decide_eq_true_eq,txc]
 exact ⟨λ⟨⟨i,hi,e⟩,h⟩=>⟨h,by omega,by omega⟩,λ⟨h,h0,h1⟩=>⟨⟨x.toNat,by omega,by omega⟩,h⟩⟩
theorem zox {a:Aut} {w:List Nat} {s:Int} (h:a.accW s w=true):0<=s:=by
 rcases txv s 0 with g | g
 .rw [Aut.accW_neg g] at h;cases h
 .exact g
theorem yzt {b:Aut} {M:List Int} {c:Nat} {w:List Nat}:(∃ t∈zmq b M c,b.accW t w=true)↔∃ x∈M,b.accW x (c::w)=true:=by
 constructor
 .rintro ⟨t,ht,hw⟩
  obtain ⟨_,x,hx,rfl⟩:=zu3.1 ht
  exact ⟨x,hx,hw⟩
 .rintro ⟨x,hx,hw⟩
  exact ⟨b.go x c,zu3.2 ⟨zox hw,x,hx,rfl⟩,hw⟩
def zf5 (a b:Aut) (f:Int) (l:List Int):List Int:=if a.accB f=true/\0<b.acc.length then l++[b.st] else l
def zv6 (a b:Aut) (f:Int) (l:List Int):Int×List UInt8:=(f,zwt (zya b.nxt.length (zf5 a b f l)))
def zrh (a b:Aut) (p:Int×List UInt8):List (Option (Int×List UInt8)):=(List.range a.sy.toNat).map λc=>some (zv6 a b (a.go p.1 c) (zmq b (stN p.2) c))
def ylz (b:Aut) (p:Int×List UInt8):Bool:=(stN p.2).any b.accB
def yl0 (a b:Aut) (p:Int×List UInt8):Prop:=a.dom p.1/\∃ l,p.2=zwt (zya b.nxt.length l)
theorem zri {a b:Aut} {p:Int×List UInt8}:(zrh a b p).length=a.sy.toNat:=by simp [zrh]
theorem zce {a b:Aut} {p:Int×List UInt8} {c:Nat} {o:Option (Int×List UInt8)} (h:(zrh a b p)[c]? =some o):o=some (zv6 a b (a.go p.1 c) (zmq b (stN p.2) c))/\(c:Int)<a.sy:=by
 have hc:=zzw h
 rw [zri] at hc
 unfold zrh at h
 rw [tzr,tz7 hc] at h
 simp only [tz2,tza] at h
 exact ⟨h.symm,by omega⟩
theorem yg2 {a b:Aut} {p:Int×List UInt8} {c:Nat} (h:(c:Int)<a.sy):(zrh a b p)[c]? =some (some (zv6 a b (a.go p.1 c) (zmq b (stN p.2) c))):=by
 unfold zrh
 rw [tzr,tz7 (by omega)];rfl
theorem zrj {a b:Aut} {f:Int} {l:List Int} (h:a.dom f):yl0 a b (zv6 a b f l):=⟨h,_,rfl⟩
theorem zoy {a b:Aut} (ha:a.valid) {s:Int×List UInt8} (_:yl0 a b s) {t:Int×List UInt8} (ht:some t∈zrh a b s):yl0 a b t:=by
 unfold zrh at ht
 obtain ⟨k,_,e⟩:=tyg.1 ht
 simp only [tza] at e
 rw [<-e];exact zrj (Aut.go_dom ha)
def xsy (a b:Aut):List (Int×List UInt8):=((List.range (a.nxt.length+1)).map λi:Nat=>(i:Int)-1).flatMap λf=>(yly b.nxt.length).map λs=>(f,zwt s)
theorem yg3 {a b:Aut}:(xsy a b).length=(a.nxt.length+1)*2 ^ b.nxt.length:=by
 unfold xsy
 rw [List.length_flatMap]
 simp only [tyk,zl9,List.map_const',List.length_range]
 simp
theorem yg4 {a b:Aut} {p:Int×List UInt8} (h:yl0 a b p):p∈xsy a b:=by
 obtain ⟨⟨h1,h2⟩,l,h3⟩:=h
 unfold xsy
 rw [typ]
 refine ⟨p.1,tyg.2 ⟨(p.1+1).toNat,txc.2 (by omega),by omega⟩,tyg.2 ⟨_,ztq (l:=l),?_⟩⟩
 rw [<-h3]
theorem ywa {a b:Aut} {q:List (Int×List UInt8)} (h1:∀ s∈q,yl0 a b s) (h2:q.Nodup):q.length<=(a.nxt.length+1)*2 ^ b.nxt.length:=by
 rw [<-yg3]
 exact zrg h2 λx hx=>yg4 (h1 x hx)
theorem ydb {a b:Aut} (ha:a.valid) (hb:b.valid) (hs:a.sy=b.sy):∀ (w:List Nat) {f:Int} {l:List Int},inA b l ->
  (zi3 (zrh a b) (ylz b) (zv6 a b f l) w=true↔(∃ x∈l,b.accW x w=true)∨∃ u v,w=u++v/\a.accW f u=true/\b.accW b.begin v=true)
 | w,f,l,hl=>by
  have hn:=hb.len
  have hM:∀ x,x∈zya b.nxt.length (zf5 a b f l)↔x∈l∨(a.accB f=true/\0<b.acc.length/\x=b.st):=λx=>by
   rw [zts]
   unfold zf5
   have h0:=hb.st0
   have h1:=hb.st1
   by_cases h:a.accB f=true/\0<b.acc.length
   .rw [if_pos h,tyh,tzw]
    constructor
    .rintro ⟨g | g,_⟩
     .exact .inl g
     .exact .inr ⟨h.1,h.2,g⟩
    .rintro (g | ⟨_,_,rfl⟩)
     .exact ⟨.inl g,hl x g⟩
     .exact ⟨.inr rfl,by omega,by omega⟩
   .rw [if_neg h]
    constructor
    .exact λg=>.inl g.1
    .rintro (g | ⟨g1,g2,_⟩)
     .exact ⟨g,hl x g⟩
     .exact absurd ⟨g1,g2⟩ h
  have hst:stN (zv6 a b f l).2=zya b.nxt.length (zf5 a b f l):=zf3 λx hx=>by
   have:=zu4 x hx
   have:=hb.most
   omega
  have hbeg:0<b.acc.length->b.begin=b.st:=λh=>by unfold Aut.begin;rw [if_neg (by omega)]
  have hne:∀ v,b.accW b.begin v=true->0<b.acc.length:=λv hv=>by
   rcases ty4 b.acc.length with g | g
   .have:b.begin=-1:=by unfold Aut.begin;rw [if_pos g]
    rw [this,Aut.accW_neg (by omega)] at hv;cases hv
   .exact g
  cases w with
  | nil=>
   simp only [zi3,ylz,hst,List.any_eq_true,hM,Aut.accW]
   constructor
   .rintro ⟨x,hx | ⟨h1,h2,rfl⟩,hxa⟩
    .exact .inl ⟨x,hx,hxa⟩
    .exact .inr ⟨[],[],rfl,h1,by simp only [Aut.accW];rw [hbeg h2];exact hxa⟩
   .rintro (⟨x,hx,hxa⟩ | ⟨u,v,e,h1,h2⟩)
    .exact ⟨x,.inl hx,hxa⟩
    .obtain ⟨rfl,rfl⟩:=List.append_eq_nil_iff.1 e.symm
     have h3:=hne _ h2
     simp only [Aut.accW] at h1 h2
     rw [hbeg h3] at h2
     exact ⟨b.st,.inr ⟨h1,h3,rfl⟩,h2⟩
  | cons c w=>
   simp only [zi3]
   by_cases hc:(c:Int)<a.sy
   .rw [yg2 hc]
    simp only
    rw [hst]
    have ih:=ydb ha hb hs w (f:=a.go (zv6 a b f l).1 c) (l:=zmq b (zya b.nxt.length (zf5 a b f l)) c) (inA.fol hb)
    rw [ih,yzt]
    simp only [hM]
    constructor
    .rintro (⟨x,hx | ⟨h1,h2,rfl⟩,hw⟩ | ⟨u,v,rfl,h1,h2⟩)
     .exact .inl ⟨x,hx,hw⟩
     .exact .inr ⟨[],c::w,rfl,h1,by rw [hbeg h2];exact hw⟩
     .exact .inr ⟨c::u,v,rfl,h1,h2⟩
    .rintro (⟨x,hx,hw⟩ | ⟨u,v,e,h1,h2⟩)
     .exact .inl ⟨x,.inl hx,hw⟩
     .cases u with
      | nil=>
       rw [ty2] at e
       subst e
       have h3:=hne _ h2
       rw [hbeg h3] at h2
       exact .inl ⟨b.st,.inr ⟨h1,h3,rfl⟩,h2⟩
      | cons d u=>
       rw [txo,tyi] at e
       obtain ⟨rfl,rfl⟩:=e
       exact .inr ⟨u,v,rfl,h1,h2⟩
   .rw [tzt (by rw [zri];omega)]
    have hb0:∀ x,b.accW x (c::w)=false:=λx=>by
     simp only [Aut.accW];rw [zre hb (by omega),Aut.accW_neg (by omega)]
    constructor
    .intro h;cases h
    .rintro (⟨x,_,hx⟩ | ⟨u,v,e,h1,h2⟩)
     .rw [hb0] at hx;cases hx
     .cases u with
      | nil=>
       rw [ty2] at e
       subst e
       rw [hb0] at h2;cases h2
      | cons d u=>
       rw [txo,tyi] at e
       obtain ⟨rfl,rfl⟩:=e
       simp only [Aut.accW] at h1
       rw [zre ha (by omega),Aut.accW_neg (by omega)] at h1;cases h1
end Go.Fsa
namespace Go.Fsa
inductive Stars (L:List Nat->Prop):List Nat->Prop
 | nil:Stars L []
 | app {u v:List Nat}:L u->u≠[]->Stars L v->Stars L (u++v)
theorem Stars.cons_inv {L:List Nat->Prop} {c:Nat} {w:List Nat} (h:Stars L (c::w)):∃ u v,w=u++v/\L (c::u)/\Stars L v:=by
 generalize e:c::w=x at h
 cases h with
 | nil=>cases e
 | @app u v h1 h2 h3=>
  cases u with
  | nil=>exact absurd rfl h2
  | cons d u=>
   rw [txo,tyi] at e
   obtain ⟨rfl,rfl⟩:=e
   exact ⟨u,v,rfl,h1,h3⟩
def zoz (a:Aut) (w:List Nat):Prop:=a.accW a.begin w=true
def zjh (a:Aut) (l:List Int):List Int:=if l.any a.accB=true then l++[a.st] else l
def zcf (a:Aut) (l:List Int):Bool×List UInt8:=(false,zwt (zya a.nxt.length (zjh a l)))
def zsx (a:Aut) (p:Bool×List UInt8):List (Option (Bool×List UInt8)):=(List.range a.sy.toNat).map λc=>some (zcf a (zmq a (stN p.2) c))
def zlj (a:Aut) (p:Bool×List UInt8):Bool:=p.1||(stN p.2).any a.accB
def zq5 (a:Aut):Bool×List UInt8:=(true,zwt (zya a.nxt.length (if 0<a.acc.length then [a.st] else [])))
def yl1 (a:Aut) (p:Bool×List UInt8):Prop:=∃ l,p.2=zwt (zya a.nxt.length l)
theorem ztt {a:Aut} {p:Bool×List UInt8}:(zsx a p).length=a.sy.toNat:=by simp [zsx]
theorem zcg {a:Aut} {p:Bool×List UInt8} {c:Nat} {o:Option (Bool×List UInt8)} (h:(zsx a p)[c]? =some o):o=some (zcf a (zmq a (stN p.2) c))/\(c:Int)<a.sy:=by
 have hc:=zzw h
 rw [ztt] at hc
 unfold zsx at h
 rw [tzr,tz7 hc] at h
 simp only [tz2,tza] at h
 exact ⟨h.symm,by omega⟩
theorem ywb {a:Aut} {p:Bool×List UInt8} {c:Nat} (h:(c:Int)<a.sy):(zsx a p)[c]? =some (some (zcf a (zmq a (stN p.2) c))):=by
 unfold zsx
 rw [tzr,tz7 (by omega)];rfl
theorem zo0 {a:Aut} {s:Bool×List UInt8} (_:yl1 a s) {t:Bool×List UInt8} (ht:some t∈zsx a s):yl1 a t:=by
 unfold zsx at ht
 obtain ⟨k,_,e⟩:=tyg.1 ht
 simp only [tza] at e
 rw [<-e];exact ⟨_,rfl⟩
def xpg (a:Aut):List (Bool×List UInt8):=[false,true].flatMap λf=>(yly a.nxt.length).map λs=>(f,zwt s)
theorem ywc {a:Aut} {q:List (Bool×List UInt8)} (h1:∀ s∈q,yl1 a s) (h2:q.Nodup):q.length<=2*2 ^ a.nxt.length:=by
 have e:(xpg a).length=2*2 ^ a.nxt.length:=by simp [xpg,zl9];omega
 rw [<-e]
 refine zrg h2 λx hx=>?_
 obtain ⟨l,h3⟩:=h1 x hx
 unfold xpg
 rw [typ]
 refine ⟨x.1,by cases x.1<;>simp,tyg.2 ⟨_,ztq (l:=l),?_⟩⟩
 rw [<-h3]
theorem ztg {a:Aut} (hv:a.valid) {l:List Int}:stN (zwt (zya a.nxt.length l))=zya a.nxt.length l:=zf3 λx hx=>by
 have:=zu4 x hx
 have:=hv.most
 have:=hv.len
 omega
theorem ydc {a:Aut} (ha:a.valid):∀ (w:List Nat) {l:List Int},inA a l ->
  (zi3 (zsx a) (zlj a) (zcf a l) w=true↔∃ x∈l,∃ u v,w=u++v/\a.accW x u=true/\Stars (zoz a) v)
 | w,l,hl=>by
  have hn:=ha.len
  have h0:=ha.st0
  have h1:=ha.st1
  have hany:l.any a.accB=true↔∃ x∈l,a.accB x=true:=List.any_eq_true
  have hpos:(∃ x∈l,a.accB x=true)->0<a.acc.length:=λ⟨x,hx,_⟩=>by have:=hl x hx;omega
  have hbeg:0<a.acc.length->a.begin=a.st:=λh=>by unfold Aut.begin;rw [if_neg (by omega)]
  have hM:∀ x,x∈zya a.nxt.length (zjh a l)↔x∈l∨((∃ y∈l,a.accB y=true)/\x=a.st):=λx=>by
   rw [zts]
   unfold zjh
   by_cases h:l.any a.accB=true
   .have hp:=hpos (hany.1 h)
    rw [if_pos h,tyh,tzw]
    constructor
    .rintro ⟨g | g,_⟩
     .exact .inl g
     .exact .inr ⟨hany.1 h,g⟩
    .rintro (g | ⟨_,rfl⟩)
     .exact ⟨.inl g,hl x g⟩
     .exact ⟨.inr rfl,by omega,by omega⟩
   .rw [if_neg h]
    constructor
    .exact λg=>.inl g.1
    .rintro (g | ⟨g1,_⟩)
     .exact ⟨g,hl x g⟩
     .exact absurd (hany.2 g1) h
  have hst:stN (zcf a l).2=zya a.nxt.length (zjh a l):=ztg ha
  cases w with
  | nil=>
   simp only [zi3,zlj,zcf,Bool.false_or]
   rw [show stN (zwt (zya a.nxt.length (zjh a l)))=_ from hst]
   simp only [List.any_eq_true,hM]
   constructor
   .rintro ⟨x,hx | ⟨⟨y,hy,hya⟩,rfl⟩,hxa⟩
    .exact ⟨x,hx,[],[],rfl,hxa,.nil⟩
    .exact ⟨y,hy,[],[],rfl,hya,.nil⟩
   .rintro ⟨x,hx,u,v,e,h2,_⟩
    obtain ⟨rfl,rfl⟩:=List.append_eq_nil_iff.1 e.symm
    exact ⟨x,.inl hx,h2⟩
  | cons c w=>
   simp only [zi3]
   by_cases hc:(c:Int)<a.sy
   .rw [ywb hc]
    simp only
    rw [hst]
    have ih:=ydc ha w (l:=zmq a (zya a.nxt.length (zjh a l)) c) (inA.fol ha)
    rw [ih]
    constructor
    .rintro ⟨t,ht,u,v,rfl,h2,h3⟩
     obtain ⟨_,x,hx,rfl⟩:=zu3.1 ht
     rcases (hM x).1 hx with hx | ⟨⟨y,hy,hya⟩,rfl⟩
     .exact ⟨x,hx,c::u,v,rfl,h2,h3⟩
     .refine ⟨y,hy,[],(c::u)++v,rfl,hya,.app ?_ (by simp) h3⟩
      unfold zoz
      rw [hbeg (hpos ⟨y,hy,hya⟩)]
      exact h2
    .rintro ⟨x,hx,u,v,e,h2,h3⟩
     cases u with
     | nil=>
      rw [ty2] at e
      subst e
      obtain ⟨u,v,rfl,h4,h5⟩:=h3.cons_inv
      have hp:=hpos ⟨x,hx,h2⟩
      unfold zoz at h4
      rw [hbeg hp] at h4
      exact ⟨a.go a.st c,zu3.2 ⟨zox (w:=u) h4,a.st,(hM _).2 (.inr ⟨⟨x,hx,h2⟩,rfl⟩),rfl⟩,u,v,rfl,h4,h5⟩
     | cons d u=>
      rw [txo,tyi] at e
      obtain ⟨rfl,rfl⟩:=e
      exact ⟨a.go x c,zu3.2 ⟨zox (w:=u) h2,x,(hM _).2 (.inl hx),rfl⟩,u,v,rfl,h2,h3⟩
   .rw [tzt (by rw [ztt];omega)]
    have hb0:∀ x u,a.accW x (c::u)=false:=λx u=>by
     simp only [Aut.accW];rw [zre ha (by omega),Aut.accW_neg (by omega)]
    constructor
    .intro h;cases h
    .rintro ⟨x,_,u,v,e,h2,h3⟩
     cases u with
     | nil=>
      rw [ty2] at e
      subst e
      obtain ⟨u,v,_,h4,_⟩:=h3.cons_inv
      unfold zoz at h4
      rw [hb0] at h4;cases h4
     | cons d u=>
      rw [txo,tyi] at e
      obtain ⟨rfl,rfl⟩:=e
      rw [hb0] at h2;cases h2
theorem yn8 {a:Aut} (ha:a.valid) (w:List Nat):zi3 (zsx a) (zlj a) (zq5 a) w=true↔Stars (zoz a) w:=by
 have hn:=ha.len
 have h0:=ha.st0
 have h1:=ha.st1
 have hbeg:0<a.acc.length->a.begin=a.st:=λh=>by unfold Aut.begin;rw [if_neg (by omega)]
 cases w with
 | nil=>exact ⟨λ_=>.nil,λ_=>by simp [zi3,zlj,zq5]⟩
 | cons c w=>
  simp only [zi3]
  have hst:stN (zq5 a).2=zya a.nxt.length (if 0<a.acc.length then [a.st] else []):=ztg ha
  by_cases hc:(c:Int)<a.sy
  .rw [ywb hc]
   simp only
   rw [hst,ydc ha w (inA.fol ha)]
   constructor
   .rintro ⟨t,ht,u,v,rfl,h2,h3⟩
    obtain ⟨_,x,hx,rfl⟩:=zu3.1 ht
    rw [zts] at hx
    by_cases hp:0<a.acc.length
    .rw [if_pos hp,tzw] at hx
     rw [hx.1] at h2
     refine .app (u:=c::u) ?_ (by simp) h3
     unfold zoz
     rw [hbeg hp];exact h2
    .rw [if_neg hp] at hx
     exact absurd hx.1 (txt)
   .intro h
    obtain ⟨u,v,rfl,h4,h5⟩:=h.cons_inv
    unfold zoz at h4
    have hp:0<a.acc.length:=by
     rcases ty4 a.acc.length with g | g
     .have:a.begin=-1:=by unfold Aut.begin;rw [if_pos g]
      rw [this,Aut.accW_neg (by omega)] at h4;cases h4
     .exact g
    rw [hbeg hp] at h4
    exact ⟨a.go a.st c,zu3.2 ⟨zox (w:=u) h4,a.st,by rw [zts,if_pos hp];exact ⟨tzw.2 rfl,by omega,by omega⟩,rfl⟩,u,v,rfl,h4,h5⟩
  .rw [tzt (by rw [ztt];omega)]
   constructor
   .intro h;cases h
   .intro h
    obtain ⟨u,v,_,h4,_⟩:=h.cons_inv
    unfold zoz at h4
    simp only [Aut.accW] at h4
    rw [zre ha (by omega),Aut.accW_neg (by omega)] at h4;cases h4
def ytx (a:Aut) (t:Int) (c:Nat):List Int:=((List.range a.nxt.length).map λi:Nat=>(i:Int)).filter λx=>decide (a.go x c=t)
def zph (a:Aut) (s:List Int) (c:Nat):List Int:=s.flatMap λt=>ytx a t c
def zuy (a:Aut):List Int:=((List.range a.nxt.length).map λi:Nat=>(i:Int)).filter a.accB
def zrk (a:Aut) (p:List UInt8):List (Option (List UInt8)):=(List.range a.sy.toNat).map λc=>some (zwt (zya a.nxt.length (zph a (stN p) c)))
def yl2 (a:Aut) (p:List UInt8):Bool:=decide (a.begin∈stN p)
def yg5 (a:Aut) (p:List UInt8):Prop:=∃ l,p=zwt (zya a.nxt.length l)
theorem ywd {a:Aut} {t:Int} {c:Nat} {x:Int}:x∈ytx a t c↔(0<=x/\x<(a.nxt.length:Nat))/\a.go x c=t:=by
 unfold ytx
 rw [List.mem_filter,tyg,decide_eq_true_eq]
 simp only [txc]
 exact ⟨λ⟨⟨i,hi,e⟩,h⟩=>⟨⟨by omega,by omega⟩,h⟩,λ⟨⟨h0,h1⟩,h⟩=>⟨⟨x.toNat,by omega,by omega⟩,h⟩⟩
theorem zji {a:Aut} {x:Int}:x∈zuy a↔(0<=x/\x<(a.nxt.length:Nat))/\a.accB x=true:=by
 unfold zuy
 rw [List.mem_filter,tyg]
 simp only [txc]
 exact ⟨λ⟨⟨i,hi,e⟩,h⟩=>⟨⟨by omega,by omega⟩,h⟩,λ⟨⟨h0,h1⟩,h⟩=>⟨⟨x.toNat,by omega,by omega⟩,h⟩⟩
theorem zrl {a:Aut} {s:List Int} {c:Nat} {x:Int}:x∈zph a s c↔(0<=x/\x<(a.nxt.length:Nat))/\a.go x c∈s:=by
 unfold zph
 rw [typ]
 simp only [ywd]
 exact ⟨λ⟨t,ht,h,e⟩=>⟨h,by rw [e];exact ht⟩,λ⟨h,hs⟩=>⟨_,hs,h,rfl⟩⟩
theorem zjj {n:Nat}:((List.range n).map λi:Nat=>(i:Int)).Nodup:=by
 unfold List.Nodup
 rw [List.pairwise_map]
 exact List.nodup_range.imp λh e=>h (by omega)
theorem zjk {a:Aut} {c:Nat}:∀ {s:List Int},s.Nodup->(zph a s c).Nodup
 | [],_=>List.nodup_nil
 | t::s,h=>by
  rw [List.nodup_cons] at h
  show (ytx a t c++zph a s c).Nodup
  rw [List.nodup_append]
  refine ⟨List.Pairwise.filter _ zjj,zjk h.2,λx hx y hy e=>?_⟩
  subst e
  have h1:=(ywd.1 hx).2
  have h2:=(zrl.1 hy).2
  rw [h1] at h2
  exact h.1 h2
theorem yzu {n:Nat} {l:List Int}:(zya n l).Nodup:=List.Pairwise.filter _ zjj
theorem zjl {a:Aut} {s:List Int} {c:Nat} (h:s.Nodup):(zph a s c).length<=a.nxt.length:=by
 have:=zrg (zjk (a:=a) (c:=c) h) (L:=(List.range a.nxt.length).map λi:Nat=>(i:Int)) λx hx=>by
  have:=(zrl.1 hx).1
  exact tyg.2 ⟨x.toNat,txc.2 (by omega),by omega⟩
 simpa using this
theorem yn9 {a:Aut}:(zuy a).length<=a.nxt.length:=by
 unfold zuy
 exact tys (List.length_filter_le ..) (by simp)
theorem zo1 {a:Aut} {p:List UInt8}:(zrk a p).length=a.sy.toNat:=by simp [zrk]
theorem yma {a:Aut} {p:List UInt8} {c:Nat} {o:Option (List UInt8)} (h:(zrk a p)[c]? =some o):o=some (zwt (zya a.nxt.length (zph a (stN p) c)))/\(c:Int)<a.sy:=by
 have hc:=zzw h
 rw [zo1] at hc
 unfold zrk at h
 rw [tzr,tz7 hc] at h
 simp only [tz2,tza] at h
 exact ⟨h.symm,by omega⟩
theorem yg6 {a:Aut} {p:List UInt8} {c:Nat} (h:(c:Int)<a.sy):(zrk a p)[c]? =some (some (zwt (zya a.nxt.length (zph a (stN p) c)))):=by
 unfold zrk
 rw [tzr,tz7 (by omega)];rfl
theorem zjm {a:Aut} {s:List UInt8} (_:yg5 a s) {t:List UInt8} (ht:some t∈zrk a s):yg5 a t:=by
 unfold zrk at ht
 obtain ⟨k,_,e⟩:=tyg.1 ht
 simp only [tza] at e
 rw [<-e];exact ⟨_,rfl⟩
theorem ywe {a:Aut} {q:List (List UInt8)} (h1:∀ s∈q,yg5 a s) (h2:q.Nodup):q.length<=2 ^ a.nxt.length:=by
 have e:((yly a.nxt.length).map zwt).length=2 ^ a.nxt.length:=by rw [tyk,zl9]
 rw [<-e]
 refine zrg h2 λx hx=>?_
 obtain ⟨l,rfl⟩:=h1 x hx
 exact tyg.2 ⟨_,ztq,rfl⟩
def goW (a:Aut) (s:Int) (w:List Nat):Int:=w.foldl (λs c=>a.go s c) s
theorem ydd {a:Aut} (ha:a.valid):∀ (w:List Nat) {l:List Int},inA a l->(zi3 (zrk a) (yl2 a) (zwt (zya a.nxt.length l)) w=true↔goW a a.begin w.reverse∈l)
 | [],l,hl=>by
  simp only [zi3,yl2,decide_eq_true_eq,ztg ha,zts,List.reverse_nil]
  exact ⟨λh=>h.1,λh=>⟨h,hl _ h⟩⟩
 | c::w,l,hl=>by
  have hg:goW a a.begin (c::w).reverse=a.go (goW a a.begin w.reverse) c:=by unfold goW;rw [List.reverse_cons,List.foldl_append];rfl
  rw [hg]
  simp only [zi3]
  by_cases hc:(c:Int)<a.sy
  .rw [yg6 hc]
   simp only
   rw [ztg ha,ydd ha w λx hx=>(zrl.1 hx).1,zrl,zts]
   constructor
   .exact λh=>h.2.1
   .intro h
    have h0:=hl _ h
    refine ⟨⟨?_,?_⟩,h,h0⟩
    .rcases txv (goW a a.begin w.reverse) 0 with g | g
     .rw [Aut.go_neg g] at h0;omega
     .exact g
    .rcases txv (goW a a.begin w.reverse) (a.nxt.length:Nat) with g | g
     .exact g
     .exfalso
      have:a.go (goW a a.begin w.reverse) c=-1:=by
       unfold Aut.go
       rw [if_neg (by omega),tzt (by omega)];rfl
      rw [this] at h0;omega
  .rw [tzt (by rw [zo1];omega),zre ha (by omega)]
   exact ⟨λh=>(by cases h),λh=>by have:=hl _ h;omega⟩
theorem ymb {a:Aut}:∀ {w:List Nat} {s:Int},a.accW s w=a.accB (goW a s w)
 | [],s=>rfl
 | c::w,s=>ymb (w:=w)
theorem yg7 {a:Aut} (ha:a.valid) (w:List Nat):zi3 (zrk a) (yl2 a) (zwt (zya a.nxt.length (zuy a))) w=a.accW a.begin w.reverse:=by
 have h:=ydd ha w (l:=zuy a) λx hx=>(zji.1 hx).1
 rw [ty1,h,zji,ymb]
 refine ⟨λh=>h.2,λh=>⟨?_,h⟩⟩
 have hl:=ha.len
 unfold Aut.accB at h
 rw [tzc,decide_eq_true_eq] at h
 refine ⟨h.1,?_⟩
 rcases txv (goW a a.begin w.reverse) (a.nxt.length:Nat) with g | g
 .exact g
 .rw [tzt (by omega)] at h
  simp at h
end Go.Fsa
namespace Go.Fsa
section
variable {S:Type} [DecidableEq S]
def exN (succ:S->List (Option S)) (s0:S) (N:Nat):List S×List (List Int):=(exR id succ 100000 (N+1) 0 [s0]).getD ([],[])
def mkM (sy:Int) (succ:S->List (Option S)) (ac:S->Bool) (s0:S) (N:Nat):Aut:=ztf sy ac (exN succ s0 N)
variable {succ:S->List (Option S)} {ac:S->Bool} {s0:S} {N:Nat} {dom:S->Prop} {sy:Int}
theorem ywf (h0:dom s0) (hd:∀ s,dom s->∀ t,some t∈succ s->dom t) (hb:∀ q:List S,(∀ s∈q,dom s)->q.Nodup->q.length<=N) (hN:N<=100000) :
  exR id succ 100000 (N+1) 0 [s0]=some (exN succ s0 N)/\(exN succ s0 N).1.length<=N:=by
 obtain ⟨r,hr⟩:=zor (key:=id) (succ:=succ) (most:=100000) (dom:=dom) (N:=N) hd (λq h1 h2=>hb q h1 (by simpa using h2)) hN (F:=N+1) (i:=0) (qs:=[s0]) (λs hs=>by rw [tzw] at hs;rw [hs];exact h0) (by simp) (by omega) (by simp)
 have e:exN succ s0 N=r:=by unfold exN;rw [hr];rfl
 rw [e]
 refine ⟨hr,?_⟩
 obtain ⟨d1,d2⟩:=znv (dom:=dom) hd (λs hs=>by rw [tzw] at hs;rw [hs];exact h0) (by simp) hr
 exact hb _ d1 (by simpa using d2)
theorem ymc (h1:1<=sy) (h2:sy<=400) (hlen:∀ s,((succ s).length:Int)=sy) (h0:dom s0) (hd:∀ s,dom s->∀ t,some t∈succ s->dom t) (hb:∀ q:List S,(∀ s∈q,dom s)->q.Nodup->q.length<=N) (hN:N<=20000) :
  (mkM sy succ ac s0 N).valid/\0<(mkM sy succ ac s0 N).acc.length/\∀ w,(mkM sy succ ac s0 N).accW (mkM sy succ ac s0 N).begin w=zi3 succ ac s0 w:=by
 obtain ⟨e1,e2⟩:=ywf h0 hd hb (by omega)
 obtain ⟨g1,g2⟩:=zjf (ac:=ac) h1 h2 hlen e1 (by omega)
 exact ⟨g1,(zqh hlen e1).2.1,g2⟩
end
def zlk (a b:Aut):Nat:=(a.nxt.length+1)*2 ^ b.nxt.length
def zi5 (a b:Aut):Aut:=mkM a.sy (zrh a b) (ylz b) (zv6 a b a.begin []) (zlk a b)
theorem zf6 {a b:Aut} (ha:a.valid) (hb:b.valid) (hs:a.sy=b.sy) (hN:zlk a b<=20000) :
  (zi5 a b).valid/\0<(zi5 a b).acc.length/\∀ w,(zi5 a b).accW (zi5 a b).begin w=true↔∃ u v,w=u++v/\a.accW a.begin u=true/\b.accW b.begin v=true:=by
 have h1:=ha.lo
 have h2:=ha.hi
 obtain ⟨g1,g2,g3⟩:=ymc (sy:=a.sy) (succ:=zrh a b) (ac:=ylz b) (dom:=yl0 a b) (s0:=zv6 a b a.begin []) (by omega) (by omega) (λs=>by rw [zri];omega) (zrj (zwm ha)) (λs hs t ht=>zoy ha hs ht) (λq h1 h2=>ywa h1 h2) hN
 refine ⟨g1,g2,λw=>?_⟩
 show (mkM _ _ _ _ _).accW (mkM _ _ _ _ _).begin w=true↔_
 unfold zlk
 rw [g3,ydb ha hb hs w λx hx=>(txt hx).elim]
 exact ⟨λh=>h.resolve_left λ⟨x,hx,_⟩=>txt hx,.inr⟩
def zll (a:Aut):Nat:=2*2 ^ a.nxt.length
def zi6 (a:Aut):Aut:=mkM a.sy (zsx a) (zlj a) (zq5 a) (zll a)
theorem zf7 {a:Aut} (ha:a.valid) (hN:zll a<=20000) :
  (zi6 a).valid/\0<(zi6 a).acc.length/\∀ w,(zi6 a).accW (zi6 a).begin w=true↔Stars (zoz a) w:=by
 have h1:=ha.lo
 have h2:=ha.hi
 obtain ⟨g1,g2,g3⟩:=ymc (sy:=a.sy) (succ:=zsx a) (ac:=zlj a) (dom:=yl1 a) (s0:=zq5 a) (by omega) (by omega) (λs=>by rw [ztt];omega) ⟨_,rfl⟩ (λs hs t ht=>zo0 hs ht) (λq h1 h2=>ywc h1 h2) hN
 refine ⟨g1,g2,λw=>?_⟩
 show (mkM _ _ _ _ _).accW (mkM _ _ _ _ _).begin w=true↔_
 unfold zll
 rw [g3,yn8 ha]
def zjn (a:Aut):Nat:=2 ^ a.nxt.length
def yl3 (a:Aut):Aut:=mkM a.sy (zrk a) (yl2 a) (zwt (zya a.nxt.length (zuy a))) (zjn a)
theorem yzv {a:Aut} (ha:a.valid) (hN:zjn a<=20000) :
  (yl3 a).valid/\0<(yl3 a).acc.length/\∀ w,(yl3 a).accW (yl3 a).begin w=a.accW a.begin w.reverse:=by
 have h1:=ha.lo
 have h2:=ha.hi
 obtain ⟨g1,g2,g3⟩:=ymc (sy:=a.sy) (succ:=zrk a) (ac:=yl2 a) (dom:=yg5 a) (s0:=zwt (zya a.nxt.length (zuy a))) (by omega) (by omega) (λs=>by rw [zo1];omega) ⟨_,rfl⟩ (λs hs t ht=>zjm hs ht) (λq h1 h2=>ywe h1 h2) hN
 refine ⟨g1,g2,λw=>?_⟩
 show (mkM _ _ _ _ _).accW (mkM _ _ _ _ _).begin w=_
 unfold zjn
 rw [g3,yg7 ha]
end Go.Fsa
namespace Go.Fsa
theorem Stars.snoc {L:List Nat->Prop} {u v:List Nat} (h:Stars L u) (hv:L v) (hne:v≠[]):Stars L (u++v):=by
 induction h with
 | nil=>simpa using Stars.app hv hne .nil
 | app h1 h2 _ ih=>rw [tyd];exact .app h1 h2 ih
theorem Stars.snoc_inv {L:List Nat->Prop} {w:List Nat} (h:Stars L w) (hne:w≠[]):∃ u v,w=u++v/\Stars L u/\L v/\v≠[]:=by
 induction h with
 | nil=>exact absurd rfl hne
 | @app u v h1 h2 h3 ih=>
  by_cases hv:v=[]
  .subst hv
   exact ⟨[],u,by simp,.nil,h1,h2⟩
  .obtain ⟨x,y,e,g1,g2,g3⟩:=ih hv
   exact ⟨u++x,y,by rw [e,tyd],.app h1 h2 g1,g2,g3⟩
def zjo (w:List Int):List Nat:=w.map Int.toNat
def zo2 (a:Aut) (w:List Int) (i:Nat):Prop:=Stars (zoz a) (zjo (w.take i))
theorem yty {a:Aut} {w:List Int}:zo2 a w 0:=by unfold zo2 zjo;simp;exact .nil
theorem zch {a:Aut} {w:List Int} {i:Nat} (h0:1<=i) (hi:i<=w.length):zo2 a w i↔∃ k,k<i/\zo2 a w k/\zoz a (zjo ((w.take i).drop k)):=by
 have hl:(zjo (w.take i)).length=i:=by simp [zjo];omega
 constructor
 .intro h
  obtain ⟨u,v,e,h1,h2,h3⟩:=Stars.snoc_inv h (by intro e;rw [e] at hl;simp at hl;omega)
  have hul:u.length<i:=by
   have:(u++v).length=i:=by rw [<-e];exact hl
   rw [tz5] at this
   have:=List.length_pos_iff.2 h3
   omega
  refine ⟨u.length,hul,?_,?_⟩
  .unfold zo2
   have:zjo (w.take u.length)=u:=by
    have e1:(zjo (w.take i)).take u.length=u:=by rw [e];simp
    rw [<-e1]
    unfold zjo
    rw [<-List.map_take,List.take_take,Nat.min_eq_left (Nat.le_of_lt hul)]
    simp
   rw [this];exact h1
  .have:zjo ((w.take i).drop u.length)=v:=by
    unfold zjo at e ⊢
    rw [List.map_drop,e];simp
   rw [this];exact h2
 .rintro ⟨k,hk,h1,h2⟩
  unfold zo2 at h1 ⊢
  have e:zjo (w.take i)=zjo (w.take k)++zjo ((w.take i).drop k):=by
   unfold zjo
   rw [<-txk]
   congr 1
   conv=>lhs;rw [<-List.take_append_drop k (w.take i)]
   rw [List.take_take,Nat.min_eq_left (by omega)]
  rw [e]
  refine h1.snoc h2 λe2=>?_
  have:((w.take i).drop k).length=0:=by
   have:(zjo ((w.take i).drop k)).length=0:=by rw [e2];rfl
   simpa [zjo] using this
  simp at this
  omega
theorem xyb {a:Aut} {w:List Int} (h:∀ x∈w,0<=x/\x<a.sy):(zjo w).all (λk=>decide ((k:Int)<a.sy))=true:=by
 unfold zjo
 rw [List.all_map,tzx]
 intro x hx
 have:=h x hx
 simp;omega
theorem yg8 {a b:Aut} (ha:a.valid) (hb:b.valid) (hs:a.sy=b.sy) (hN:(a.nxt.length+1)*(b.nxt.length+1)<=20000) {f:Bool->Bool->Bool} (hf:f false false=false) {w:List Int} (hw:∀ x∈w,0<=x/\x<a.sy) :
  (zi4 f a b).can.accepts w=f (a.accepts w) (b.accepts w):=by
 obtain ⟨m1,m2,m3⟩:=zf1 ha hb hs hN hf
 rw [zuh m1,zz5 m1 (by exact hw),m3,zz5 ha hw,zz5 hb (by rw [<-hs];exact hw)]
theorem yg9 {a:Aut} (ha:a.valid) (hN:a.nxt.length<20000) {w:List Int} (hw:∀ x∈w,0<=x/\x<a.sy):(zqy a).can.accepts w=!a.accepts w:=by
 obtain ⟨m1,m2,m3⟩:=zf2 ha hN
 rw [zuh m1,zz5 m1 (by exact hw),m3,zz5 ha hw]
 have:=xyb hw
 unfold zjo at this
 rw [this];rfl
theorem xyc {a:Aut} (ha:a.valid) (hN:zjn a<=20000) {w:List Int} (hw:∀ x∈w,0<=x/\x<a.sy):(yl3 a).can.accepts w.reverse=a.accepts w:=by
 obtain ⟨m1,m2,m3⟩:=yzv ha hN
 rw [zuh m1,zz5 m1 (λx hx=>hw x (List.mem_reverse.1 hx)),m3,zz5 ha hw,<-List.map_reverse,List.reverse_reverse]
theorem yfa {a:Aut} (ha:a.valid) (hN:zll a<=20000) {w:List Int} (hw:∀ x∈w,0<=x/\x<a.sy):(zi6 a).can.accepts w=true↔zo2 a w w.length:=by
 obtain ⟨m1,m2,m3⟩:=zf7 ha hN
 rw [zuh m1,zz5 m1 (by exact hw),m3]
 unfold zo2 zjo
 rw [ty0]
theorem yfb {a b:Aut} (ha:a.valid) (hb:b.valid) (hs:a.sy=b.sy) (hN:zlk a b<=20000) {w:List Int} (hw:∀ x∈w,0<=x/\x<a.sy) :
  (zi5 a b).can.accepts w=true↔∃ i,i<=w.length/\a.accepts (w.take i)=true/\b.accepts (w.drop i)=true:=by
 obtain ⟨m1,m2,m3⟩:=zf6 ha hb hs hN
 rw [zuh m1,zz5 m1 (by exact hw),m3]
 constructor
 .rintro ⟨u,v,e,h1,h2⟩
  have hl:u.length<=w.length:=by
   have:(w.map Int.toNat).length=(u++v).length:=by rw [e]
   rw [tyk,tz5] at this
   omega
  refine ⟨u.length,hl,?_,?_⟩
  .rw [zz5 ha λx hx=>hw x (ty3 hx),List.map_take,e]
   simpa using h1
  .rw [zz5 hb λx hx=>by rw [<-hs];exact hw x (List.mem_of_mem_drop hx),List.map_drop,e]
   simpa using h2
 .rintro ⟨i,hi,h1,h2⟩
  rw [zz5 ha λx hx=>hw x (ty3 hx)] at h1
  rw [zz5 hb λx hx=>by rw [<-hs];exact hw x (List.mem_of_mem_drop hx)] at h2
  exact ⟨_,_,by rw [<-txk,List.take_append_drop],h1,h2⟩
end Go.Fsa
