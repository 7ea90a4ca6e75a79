/- Texts of this proof, part DvB. -/
import Derived.Test.YtfjbdkmmoinngaaGreatDoorDvA
import Derived.Test.YtfjbdkmmoinngaaGreatDoorSimB
set_option linter.unusedVariables false
set_option linter.unusedSimpArgs false
set_option linter.unusedSectionVars false
noncomputable section
namespace Go.Dv
open Go Go.Sim
variable {W:Nat->Prop} {C C' C'':Ctx} {P:Program} {tm:Trie DV} {tmH:Trie Value} {base:Nat}
def zeo (n0:Nat) (H:Hp) (ds:List Deferred):Prop:=∃ bs:List Nat,ds=bs.map (λb=>{ target:=.collected b,args:=#[] })/\bs.Nodup/\∀ b∈bs,n0<=b/\H.get b=some (.defs (some []))
theorem zep (hr:HR C) {b:Nat} {x:Option (List Deferred)} (h:C.H.get b=some (.defs x)):(∀ o,¬Own C o b)/\¬C.S b:=by
 refine ⟨λo g=>?_,λg=>?_⟩
 .obtain ⟨y,h1,h2,rfl⟩:=g;have k:=hr.ob o y h1;cases y with
  | arr sz els=>obtain ⟨cs,e,q,_⟩:=k;rw [h] at q;simp at q
  | app e sz els=>
   have:els≠[]:=λq=>by subst q;simp [zqm] at h2
   obtain ⟨cs,c,r,q,_⟩:=k this;rw [h] at q;simp at q
  | map ks vs=>obtain ⟨es,ck,q,_⟩:=k;rw [h] at q;simp at q
  | loop=>obtain ⟨tmH,dn,q,_⟩:=k;rw [h] at q;simp at q
  | dead=>simp [zqm] at h2
  | chn=>simp [zqm] at h2
 .obtain ⟨B,c,h1,h2⟩:=hr.st b g;rw [h] at h1;simp only [tza] at h1;subst h1;simp [Hp.rowOf] at h2
theorem zeo.nx {n0:Nat} {ds:List Deferred} (h:zeo n0 C.H ds) (hr:HR C) (nx:Nx W C C'):zeo n0 C'.H ds:=by
 obtain ⟨bs,h1,h2,h3⟩:=h;refine ⟨bs,h1,h2,λb hb=>?_⟩;obtain ⟨g1,g2⟩:=h3 b hb;exact ⟨g1,by rw [nx.get b (hr.wf.dom _ _ g2) (zep hr g2).1];exact g2⟩
structure Off (C C':Ctx) (n0:Nat):Prop where
 σ:C'.σ=C.σ
 S:C'.S=C.S
 D:C'.D=C.D
 n:C'.H.n=C.H.n
 low:∀ b,b<n0->C'.H.get b=C.H.get b
 get:∀ b,(∀ x,C.H.get b≠some (.defs x))->C'.H.get b=C.H.get b
 back:∀ b c e k,C'.H.get b=some (.cells c e k)->C.H.get b=some (.cells c e k)
 stk:∀ k,C'.H.stk k=C.H.stk k
theorem Off.refl (C:Ctx) (n0:Nat):Off C C n0:=⟨rfl,rfl,rfl,rfl,λ_ _=>rfl,λ_ _=>rfl,λ_ _ _ _ h=>h,λ_=>rfl⟩
theorem Off.rows {n0:Nat} (h:Off C C' n0) (hr:HR C):∀ b,C.S b->C'.H.row b=C.H.row b:=by
 intro b hb;have:C'.H.get b=C.H.get b:=h.get b (λx hx=>(zep hr hx).2 hb);unfold Hp.row;rw [this];cases C.H.get b with
 | none=>rfl
 | some B=>
  simp only [tzn];cases B with
  | cells c e k=>cases k<;>simp [Hp.rowOf,h.stk]
  | _=>rfl
theorem Off.dr {n0:Nat} (h:Off C C' n0) (hr:HR C) {d:DV} {v:Value} (k:DR C d v):DR C' d v:=by
 have hrow:=h.rows hr;have hS:∀ b,C.S b->C'.S b:=λb hb=>by rw [h.S];exact hb
 induction k with
 | f k=>exact .f (k.mono hS hrow)
 | agg hl _ ih=>exact .agg hl ih
 | tup hl _ ih=>exact .tup hl ih
 | fn ha hb _ _ ih1 ih2=>exact .fn ha hb ih1 ih2
 | yl ho one g=>exact .yl (by rw [h.D];exact ho) one (by rw [h.D,h.σ];exact g)
 | ref ho one g=>exact .ref (by rw [h.D];exact ho) one (by rw [h.D,h.σ];exact g)
 | rfa ho one hn g=>exact .rfa (by rw [h.D];exact ho) one hn (by rw [h.D,h.σ];exact g)
 | row ho one g=>exact .row (by rw [h.D];exact ho) one (by rw [h.D,h.σ];exact g)
 | apl ho one g=>exact .apl (by rw [h.D];exact ho) one (by rw [h.D,h.σ];exact g)
 | prt ho one hn g=>exact .prt (by rw [h.D];exact ho) one hn (by rw [h.D,h.σ];exact g)
 | mp ho one g=>exact .mp (by rw [h.D];exact ho) one (by rw [h.D,h.σ];exact g)
 | em hb hc ho=>exact .em (hS _ hb) (by rw [hrow _ hb];exact hc) ho
 | lv ho hn g=>exact .lv (by rw [h.D];exact ho) hn (by rw [h.D,h.σ];exact g)
 | fp w hb hc hw hr'=>exact .fp w (hS _ hb) (by rw [hrow _ hb];exact hc) hw (λj y hj=>(hr' j y hj).mono hS hrow)
theorem Off.hr {n0:Nat} (h:Off C C' n0) (hr:HR C) (wf:Wf C'.H):HR C':=by
 have cl:∀ {sz:Nat} {els:List DV} {cs:List Value},Cl C sz els cs->Cl C' sz els cs:=λk=>⟨k.len,k.ok,λi d j x h1 h2=>by obtain ⟨w,g1,g2⟩:=k.el i d j x h1 h2;exact ⟨w,g1,h.dr hr g2⟩,k.one⟩
 have ck:∀ {o k},Cls C' o k->Cls C o k:=λg=>by
  rcases g with ⟨e,sz,els,cs,e',h1,h2,h3⟩ | ⟨e,sz,ctr,L,h1,h2⟩
  .exact .inl ⟨e,sz,els,cs,e',by rw [<-h.D];exact h1,h2,by rw [<-h.σ];exact h.back _ _ _ _ h3⟩
  .exact .inr ⟨e,sz,ctr,L,by rw [<-h.D];exact h1,by rw [<-h.σ];exact h2⟩
 have ow:∀ {o b},Own C' o b->Own C o b:=λ⟨x,h1,h2,h3⟩=>⟨x,by rw [<-h.D];exact h1,h2,by rw [<-h.σ];exact h3⟩
 have nd:∀ {b:Nat} {B:Blk},C.H.get b=some B->(∀ x,B≠.defs x)->C'.H.get b=some B:=λ{b B} hB hn=>by
  rw [h.get b (λx hx=>by rw [hB] at hx;simp only [tza] at hx;exact hn x hx)];exact hB
 exact
  {
   wf:=wf
   st:=λb hb=>by
    rw [h.S] at hb
    obtain ⟨B,c,h1,h2⟩:=hr.st b hb
    have e:=h.rows hr b hb
    refine ⟨B,c,nd h1 (λx q=>by subst q;simp [Hp.rowOf] at h2),?_⟩
    unfold Hp.row at e
    rw [nd h1 (λx q=>by subst q;simp [Hp.rowOf] at h2),h1] at e
    simp only [tzn] at e
    rw [e];exact h2
   ob:=λo x hx=>by
    rw [h.D] at hx
    have k:=hr.ob o x hx
    cases x with
    | arr sz els=>obtain ⟨cs,e,g1,g2⟩:=k;exact ⟨cs,e,by rw [h.σ];exact nd g1 (by simp),cl g2⟩
    | app e sz els=>intro hne;obtain ⟨cs,c,r,g1,g2,g3⟩:=k hne;exact ⟨cs,c,r,by rw [h.σ];exact nd g1 (by simp),by rw [h.stk,h.σ];exact g2,cl g3⟩
    | map ks vs=>obtain ⟨es,ck,g1,g2,g3,g4,g5⟩:=k;exact ⟨es,ck,by rw [h.σ];exact nd g1 (by simp),g2,g3,g4,λi e d h1 h2=>h.dr hr (g5 i e d h1 h2)⟩
    | loop=>
     obtain ⟨tmH,dn,g1,g2,g3⟩:=k
     exact ⟨tmH,dn,by rw [h.σ];exact nd g1 (by simp),λt d hd=>by obtain ⟨v,q1,q2⟩:=g2 t d hd;exact ⟨v,q1,h.dr hr q2⟩,g3⟩
    | dead=>exact trivial
    | chn=>
     obtain ⟨c,b,bs,rest,g1,g2,g3,g4,g5,g6,g7⟩:=k
     exact ⟨c,b,bs,rest,by rw [h.σ];exact g1,g2,by rw [h.stk];exact g3,g4,g5,g6,λi x b' hi hb=>by obtain ⟨cs,q1,q2⟩:=g7 i x b' hi hb;exact ⟨cs,nd q1 (by simp),cl q2⟩⟩
   nS:=λo b g hb=>by rw [h.S] at hb;exact hr.nS o b (ow g) hb
   inj:=λo o' b g g'=>hr.inj o o' b (ow g) (ow g')
   cS:=λo k b cs e g hb hg=>by rw [h.S] at hb;exact hr.cS o k b cs e (ck g) hb (h.back _ _ _ _ hg)
   cI:=λo o' k g g'=>hr.cI o o' k (ck g) (ck g') }
theorem Nx.off {n0:Nat} {C0:Ctx} (nx:Nx W C0 C) (h:Off C C' n0) (hr0:HR C0) (hn:C0.H.n<=n0):Nx W C0 C' where
 n:=by rw [h.n];exact nx.n
 S:=λb hb=>by rw [h.S];exact nx.S b hb
 len:=by rw [h.D];exact nx.len
 get:=λb hb ho=>by rw [h.low b (by omega)];exact nx.get b hb ho
 stk:=λk hk ho=>by rw [h.stk];exact nx.stk k hk ho
 evo:=λo x' ho hx=>by rw [h.D] at hx;rw [h.σ];exact nx.evo o x' ho hx
 own:=λo b ⟨x,h1,h2,h3⟩=>nx.own o b ⟨x,by rw [<-h.D];exact h1,h2,by rw [<-h.σ];exact h3⟩
 cls:=λo k g=>nx.cls o k (by
  rcases g with ⟨e,sz,els,cs,e',h1,h2,h3⟩ | ⟨e,sz,ctr,L,h1,h2⟩
  .exact .inl ⟨e,sz,els,cs,e',by rw [<-h.D];exact h1,h2,by rw [<-h.σ];exact h.back _ _ _ _ h3⟩
  .exact .inr ⟨e,sz,ctr,L,by rw [<-h.D];exact h1,by rw [<-h.σ];exact h2⟩)
 kp:=λo ho hw=>by
  obtain ⟨a,b,c⟩:=nx.kp o ho hw
  refine ⟨by rw [h.D];exact a,by rw [h.σ];exact b,λp hp=>?_⟩
  obtain ⟨c1,c2⟩:=c p hp
  have hpn:=hp.lt hr0
  refine ⟨by rw [h.low p (by omega)];exact c1,?_⟩
  rw [<-c2]
  unfold Hp.row
  rw [h.low p (by omega)]
  cases C.H.get p with
  | none=>rfl
  | some B=>
   simp only [tzn]
   cases B with
   | cells c e k=>cases k<;>simp [Hp.rowOf,h.stk]
   | _=>rfl
theorem zkd {n0:Nat}:∀ (bs:List Nat) {C:Ctx} (hr:HR C) {m:Nat},bs.Nodup->(∀ b∈bs,n0<=b/\C.H.get b=some (.defs (some [])))->bs.length<m ->
  ∃ C',zwb m (bs.map (λb=>({ target:=.collected b,args:=#[] }:Deferred))) C.H=some C'.H/\HR C'/\Off C C' n0
 | [],C,hr,m,_,_,hm=>by
  obtain ⟨m,rfl⟩:∃ k,m=k+1:=⟨m-1,by simp at hm;omega⟩
  exact ⟨C,rfl,hr,Off.refl C n0⟩
 | b::bs,C,hr,m,hd,hb,hm=>by
  obtain ⟨m,rfl⟩:∃ k,m=k+1:=⟨m-1,by simp at hm;omega⟩
  obtain ⟨h1,h2⟩:=hb b (tz0 ..)
  obtain ⟨hd1,hd2⟩:=List.nodup_cons.1 hd
  have o1:Off C ⟨C.σ,C.S,C.H.put b (.defs none),C.D⟩ n0:=
   {
    σ:=rfl,S:=rfl,D:=rfl,n:=by simp
    low:=λp hp=>by simp only [Hp.get_put];rw [if_neg (by omega)]
    get:=λp hp=>by simp only [Hp.get_put];rw [if_neg (λe=>hp _ (by rw [e];exact h2))]
    back:=λp c e k hp=>by
     simp only [Hp.get_put] at hp
     split at hp
     .simp at hp
     .exact hp
    stk:=λk=>by simp }
  have hr1:=o1.hr hr (hr.wf.putD (hr.wf.dom _ _ h2) (λc e k h=>by simp at h))
  obtain ⟨C',a1,a2,a3⟩:=zkd bs hr1 (m:=m) hd2 (λp hp=>by
   obtain ⟨g1,g2⟩:=hb p (tzq _ hp)
   refine ⟨g1,?_⟩
   simp only [Hp.get_put]
   rw [if_neg (λe=>hd1 (by rw [<-e];exact hp))]
   exact g2) (by simp at hm;omega)
  refine ⟨C',?_,a2,⟨a3.σ.trans o1.σ,a3.S.trans o1.S,a3.D.trans o1.D,a3.n.trans o1.n,λp hp=>(a3.low p hp).trans (o1.low p hp),λp hp=>?_,λp c e k hp=>o1.back _ _ _ _ (a3.back _ _ _ _ hp),λk=>(a3.stk k).trans (o1.stk k)⟩⟩
  .show (match C.H.get b with
    | some (.defs (some l))=>zwb m (l++bs.map (λb=>({ target:=.collected b,args:=#[] }:Deferred))) (C.H.put b (.defs none))
    | _=>none)=_
   rw [h2]
   exact a1
  .rw [a3.get p (λx hx=>?_),o1.get p hp]
   rw [o1.get p hp] at hx
   exact hp x hx
def Low (C:Ctx) (base:Nat):Prop:=base<=C.D.length/\∀ o x,o<base->C.D[o]? =some x->ObB base x
theorem Low.nx (h:Low C base) (nx:Nx (λo=>base<=o) C C'):Low C' base:=by
 refine ⟨tys h.1 nx.len,λo x ho hx=>?_⟩;rw [(nx.kp o (by have:=h.1;omega) (by omega)).1] at hx;exact h.2 o x ho hx
theorem ObB.mono {L L':Nat} (h:L<=L'):∀ {x:DObj},ObB L x->ObB L' x
 | .arr _ _,k=>λd hd=>(zy8 h).1 d (k d hd)
 | .app _ _ _,k=>λd hd=>(zy8 h).1 d (k d hd)
 | .map _ _,k=>λd hd=>(zy8 h).1 d (k d hd)
 | .loop ..,_=>trivial
 | .dead,_=>trivial
 | .chn ..,k=>λx hx d hd=>(zy8 h).1 d (k x hx d hd)
theorem zbr {L:Nat} {d:DV} (h:∀ x∈zzd d,below L x=true):below L d=true:=by
 cases d with
 | agg l=>
  show zzo L l=true
  have:∀ l:List DV,(∀ x∈l,below L x=true)->zzo L l=true:=by
   intro l
   induction l with
   | nil=>intro _;rfl
   | cons a l ih=>intro h;simp only [zzo,tzc];exact ⟨h a (tz0 ..),ih (λx hx=>h x (tzq _ hx))⟩
  exact this l h
 | _=>exact h _ (tzw.2 rfl)
theorem HR.low (hr:HR C):Low C C.D.length:=by
 refine ⟨tzp _,λo x _ hx=>?_⟩;have k:=hr.ob o x hx
 have cl:∀ {sz:Nat} {els:List DV} {cs:List Value},Cl C sz els cs->∀ d∈els,Dv.below C.D.length d=true:=λ{sz els cs} k d hd=>by
  obtain ⟨i,hi⟩:=List.getElem?_of_mem hd;refine zbr (λy hy=>?_);obtain ⟨j,hj⟩:=List.getElem?_of_mem hy;obtain ⟨w,_,g⟩:=k.el i d j y hi hj;exact g.lows
 cases x with
 | arr sz els=>obtain ⟨cs,e,g1,g2⟩:=k;exact cl g2
 | app e sz els=>
  intro d hd;have:els≠[]:=λq=>by subst q;cases hd
  obtain ⟨cs,c,r,g1,g2,g3⟩:=k this;exact cl g3 d hd
 | map ks vs=>
  obtain ⟨es,ck,g1,g2,g3,g4,g5⟩:=k;intro d hd;obtain ⟨i,hi⟩:=List.getElem?_of_mem hd;obtain ⟨e,he⟩:=zw1 (l:=es) (i:=i) (by have:=zyr hi;omega);exact (g5 i e d he hi).lows
 | loop=>exact trivial
 | dead=>exact trivial
 | chn e sz ctr L=>
  obtain ⟨c,b,bs,rest,g1,g2,g3,g4,g5,g6,g7⟩:=k;intro x hx d hd;obtain ⟨i,hi⟩:=List.getElem?_of_mem hx;obtain ⟨b',hb⟩:=zw1 (l:=b::bs) (i:=i) (by rw [g2];exact zyr hi);obtain ⟨cs,_,q2⟩:=g7 i x b' hi hb;exact cl q2 d hd
theorem zbs {L:Nat} {x:DObj} (h:zza L x=true):ObB L x:=by
 cases x with
 | arr sz els=>exact tzx.1 h
 | app e sz els=>exact tzx.1 h
 | map ks vs=>exact tzx.1 h
 | loop=>exact trivial
 | dead=>exact trivial
 | chn e sz ctr L=>exact λx hx=>tzx.1 (tzx.1 h x hx)
theorem zke {L:Nat} {D:DH} (h:zyg base L D=true) {o:Nat} {x:DObj} (h1:base<=o) (h2:o<L) (hx:D[o]? =some x):ObB L x:=by
 unfold zyg at h;refine zbs (tzx.1 h x ?_);have:((D.drop base).take (L-base))[o-base]? =some x:=(by grind);exact tzg this
theorem zp3 {tm:Trie DV}:∀ {keep:List Tmp} {t:Tmp} {d:DV},(canon tm keep).get t=some d->tm.get t=some d/\t∈keep
 | [],t,d,h=>by simp [canon] at h
 | k::l,t,d,h=>by
  simp only [canon] at h;split at h
  .rename_i x hx;rw [Trie.get_put] at h;split at h
   .simp_all
   obtain ⟨a,b⟩:=zp3 h;exact ⟨a,tzq _ b⟩
  .obtain ⟨a,b⟩:=zp3 h;exact ⟨a,tzq _ b⟩
theorem zkf {tm:Trie DV} {L:Nat}:∀ {keep:List Tmp},zpv tm L keep=true->∀ t∈keep,∀ d,tm.get t=some d->below L d=true
 | [],_,t,h=>by cases h
 | k::l,h,t,ht=>by
  simp only [zpv] at h;intro d hd;split at h
  .rename_i x hx;simp only [tzc] at h;rcases tzu.1 ht with rfl | ht
   .simp_all
   exact zkf h.2 t ht d hd
  .rcases tzu.1 ht with rfl | ht
   .rename_i hx;rw [hx] at hd;cases hd
   .exact zkf h t ht d hd
theorem ycu (hr:HR C) {C0:Ctx} {keep:List Tmp} {raw:Bool} {s s1:SD} (hD:C.D=s.D) (ht:TR C s.tm tmH) (hlow:Low C base) (nx:Nx (λo=>base<=o) C0 C) (h:zec keep raw base C0.D.length s=some s1) :
  ∃ C1,C1.H=C.H/\C1.D=s1.D/\HR C1/\Nx (λo=>base<=o) C0 C1/\TR C1 s1.tm tmH:=by
 unfold zec at h;split at h
 .simp only [tza] at h;subst h;exact ⟨C,rfl,hD,hr,nx,λt d hd=>ht t d (zp3 hd).1⟩
 split at h
 .rename_i hc;obtain ⟨c1,c2,c3,c4⟩:=hc;simp only [tza] at h;subst h;rw [<-hD] at c2 c3
  have hr1:=hr.take (L:=C0.D.length) c3 (λo x ho hx=>by
   rcases tz9 o base with g | g
   .exact (hlow.2 o x g hx).mono c4
   .exact zke c2 g ho hx)
  refine ⟨⟨C.σ,C.S,C.H,C.D.take C0.D.length⟩,rfl,by rw [hD],hr1,nx.take (tzp _) c3,λt d hd=>?_⟩;obtain ⟨g1,g2⟩:=zp3 hd;obtain ⟨v,q1,q2⟩:=ht t d g1;exact ⟨v,q1,q2.take (C:=C) (C':=⟨C.σ,C.S,C.H,C.D.take C0.D.length⟩) (L:=C0.D.length) ⟨rfl,rfl⟩ (λ_ _=>rfl) (λo ho=>by simp [tyb,ho]) (by simp;omega) (zkf c1 t g2 d g1)⟩
 .cases h
theorem yyp:∀ {ids:List Nat} {D:DH} {o:Nat},(∀ i∈ids,o≠i)->(zm0 D ids)[o]? =D[o]?
 | [],D,o,_=>rfl
 | i::ids,D,o,h=>by
  show (zm0 (D.set i .dead) ids)[o]? =_;rw [yyp (λj hj=>h j (tzq _ hj)),tya,if_neg (Ne.symm (h i (tz0 ..)))]
theorem zeq:∀ {ids:List Nat} {D:DH},(∀ i∈ids,base<=i)->(zm0 D ids).take base=D.take base
 | [],D,_=>rfl
 | i::ids,D,h=>by
  show (zm0 (D.set i .dead) ids).take base=_;rw [zeq (λj hj=>h j (tzq _ hj)),txx (h i (tz0 ..))]
theorem yyq:∀ {ids:List Nat} {D:DH},(zm0 D ids).length=D.length
 | [],D=>rfl
 | i::ids,D=>by show (zm0 (D.set i .dead) ids).length=_;rw [yyq];simp
end Go.Dv
namespace Go.Dv
open Go Go.Sim
variable {W:Nat->Prop} {C C' C'':Ctx} {P:Program} {tm:Trie DV} {tmH:Trie Value} {base:Nat}
def xq2 (C:Ctx) (dep:Option Nat) (fb:Option Nat):Prop:=∀ b,fb=some b->(dep=none/\C.S b)∨∃ p,dep=some p/\p<C.D.length/\Own C p b
structure RI (P:Program) (C:Ctx) (tmH:Trie Value) (op:Op) (w:Value) (dep:Option Nat):Prop where
 ex:∃ fb,xq2 C dep fb/\∀ H',(∀ b,fb=some b->H'.get b=C.H.get b/\H'.row b=C.H.row b)->zw4 op P tmH H'=some (.val w H')
theorem RI.now {op:Op} {w:Value} {dep:Option Nat} (h:RI P C tmH op w dep):zw4 op P tmH C.H=some (.val w C.H):=by
 obtain ⟨fb,_,h2⟩:=h.ex;exact h2 C.H (λ_ _=>⟨rfl,rfl⟩)
theorem RI.nx {op:Op} {w:Value} {dep:Option Nat} (h:RI P C tmH op w dep) (hr:HR C) (nx:Nx W C C') (hd:∀ p,dep=some p->¬W p):RI P C' tmH op w dep:=by
 obtain ⟨fb,h1,h2⟩:=h.ex
 have key:∀ b,fb=some b->C'.H.get b=C.H.get b/\C'.H.row b=C.H.row b:=by
  intro b hb;rcases h1 b hb with ⟨_,g⟩ | ⟨p,g1,g2,g3⟩
  .obtain ⟨B,c,q1,q2⟩:=hr.st b g;exact ⟨nx.get b (hr.wf.dom _ _ q1) (λo ho=>hr.nS o b ho g),nx.rows hr b g⟩
  .exact (nx.kp p g2 (hd p g1)).2.2 b g3
 refine ⟨fb,λb hb=>?_,λH' hH=>h2 H' (λb hb=>?_)⟩
 .rcases h1 b hb with ⟨g1,g⟩ | ⟨p,g1,g2,g3⟩
  .exact .inl ⟨g1,nx.S b g⟩
  obtain ⟨a1,a2,_⟩:=nx.kp p g2 (hd p g1);obtain ⟨x,e1,e2,e3⟩:=g3;exact .inr ⟨p,g1,tyf g2 nx.len,x,by rw [a1];exact e1,e2,by rw [a2];exact e3⟩
 .simp_all
theorem RI.none {op:Op} {w:Value} {dep:Option Nat} (h:∀ H',zw4 op P tmH H'=some (.val w H')):RI P C tmH op w dep:=⟨⟨Option.none,λb hb=>(by cases hb),λH' _=>h H'⟩⟩
theorem yr0 {H H':Hp} {t:TypeId} {b o:Nat} (h:H'.row b=H.row b):zqg P H' t b o=zqg P H t b o:=by
 unfold zqg;simp only [Hp.read,h]
theorem yr1 (hr:HR C) {n:Option Nat} {p d:DV} {vp:Value} (hp:DR C p vp) (h:zve C.D n p=some d):∃ b off,zmc vp=some (b,off)/\xq2 C (zyw (some p)) (some b):=by
 cases hp with
 | @ref o i k _ ho one g=>
  simp only [zve] at h;split at h
  .rename_i sz els hx;rw [g _ _ hx];exact ⟨_,_,rfl,λb hb=>by simp only [tza] at hb;subst hb;exact .inr ⟨o,rfl,ho,_,hx,rfl,rfl⟩⟩
  .cases h
 | @rfa o m i k _ ho one hn g=>
  simp only [zve] at h;split at h
  .rename_i e sz els hx;split at h
   .rename_i hl;rw [(g.2 _ _ _ hx).2 hl];refine ⟨_,_,rfl,λb hb=>?_⟩;simp only [tza] at hb;subst hb;refine .inr ⟨o,rfl,ho,_,hx,?_,rfl⟩;cases els with
    | nil=>simp at hl;omega
    | cons=>rfl
   .cases h
  .cases h
 | fp w hb hc hw hf=>
  refine ⟨_,_,rfl,λb' hb'=>?_⟩;simp only [tza] at hb';subst hb';exact .inl ⟨rfl,hb⟩
 | _=>simp [zve] at h
theorem yvp {x:DV} {v:Value} {els:List DV} (hx:DR C x v) (hnl:yl3 x=true) (h:zwd C.D x=some els):(∃ c,v=.slice none 0 c/\c=0)∨∃ b o n cap,v=.slice (some ⟨b,o,none⟩) n cap/\xq2 C (zyw (some x)) (some b):=by
 cases hx with
 | f hf=>
  cases hf with
  | raw u=>
   unfold zwd at h;split at h<;>first | (cases h;done) | skip
   .rename_i heq;simp at heq
   .simp_all
   all_goals (rename_i heq;simp at heq)
  | nil=>exact .inl ⟨0,rfl,rfl⟩
  | lst w hn hb hc hz hol hcap hs hw hr'=>
   refine .inr ⟨_,_,_,_,rfl,λb' hb'=>?_⟩;simp only [tza] at hb';subst hb';exact .inl ⟨rfl,hb⟩
 | @row o off len cap _ ho one g=>
  simp only [zwd] at h;split at h
  .rename_i sz els' hD;refine .inr ⟨_,_,_,_,(g _ _ hD).1,λb hb=>?_⟩;simp only [tza] at hb;subst hb;exact .inr ⟨o,rfl,ho,_,hD,rfl,rfl⟩
  .cases h
 | @apl o len _ ho one g=>
  simp only [zwd] at h;split at h
  .rename_i e sz els' hD;split at h
   .rename_i hl;have e1:=(g.2 _ _ _ hD).2 hl.1;cases len with
    | zero=>exact .inl ⟨0,e1,rfl⟩
    | succ n=>
     refine .inr ⟨_,_,_,_,e1,λb hb=>?_⟩;simp only [tza] at hb;subst hb;refine .inr ⟨o,rfl,ho,_,hD,?_,rfl⟩;cases els' with
     | nil=>simp at hl
     | cons=>rfl
   .cases h
  .cases h
 | @prt o n off len _ ho one hn g=>
  simp only [zwd] at h;split at h
  .rename_i e sz els' hD;split at h
   .rename_i hl;obtain ⟨_,c,e1⟩:=(g.2 _ _ _ hD).2 hl.1;refine .inr ⟨_,_,_,_,e1,λb hb=>?_⟩;simp only [tza] at hb;subst hb;refine .inr ⟨o,rfl,ho,_,hD,?_,rfl⟩;cases els' with
    | nil=>simp at hl;omega
    | cons=>rfl
   .cases h
  .cases h
 | em=>simp [yl3] at hnl
 | lv=>simp [yl3] at hnl
 | _=>simp [zwd] at h
theorem yr2 {H H':Hp} {s d:TypeId} {b o n cap:Nat} (h:H'.row b=H.row b):zx8 P H' s d (.slice (some ⟨b,o,none⟩) n cap)=zx8 P H s d (.slice (some ⟨b,o,none⟩) n cap):=by
 unfold zx8;cases P.underlying s with
 | none=>rfl
 | some ds=>
  cases P.underlying d with
  | none=>rfl
  | some dd=>
   simp only
   have:zje P H' (.slice (some ⟨b,o,none⟩) n cap) ds dd=zje P H (.slice (some ⟨b,o,none⟩) n cap) ds dd:=by
    unfold zje;cases ds<;>cases dd<;>(try rfl)
    simp only [Hp.readAt,Hp.read,h]
   rw [this]
theorem yr3 (hr:HR C) (ht:TR C tm tmH) {op:Op} {d:DV} {D':DH} (hc:zz7 op=.read) (h:dop P base tm C.D op=some (.val d D')):∃ w,RI P C tmH op w (zpw tm op)/\DR C d w/\D'=C.D:=by
 obtain ⟨hDD,w,hw1,hw2⟩:=zgg hr ht (.inr hc) h;refine ⟨w,?_,hw2,hDD⟩;cases op with
 | load t a=>
  simp only [dop] at h;split at h
  .rename_i n hn;obtain ⟨h1,_⟩:=zyi h;obtain ⟨p,h2,h3⟩:=tzh.1 h1;obtain ⟨vp,g1,g2⟩:=zzu (P:=P) ht h2;obtain ⟨b,off,q1,q2⟩:=yr1 hr g2 h3;have hdep:zpw tm (.load t a)=zyw (some p):=by simp only [zpw,h2]
   have ha:∀ H,zw4 (.load t a) P tmH H=zth H (zqg P H t b off):=λH=>by
    show znm P tmH H t a=_;unfold znm;rw [g1];simp only [tzn,q1]
   rw [hdep];refine ⟨some b,q2,λH' hH=>?_⟩;rw [ha] at hw1 ⊢;rw [yr0 (hH b rfl).2];cases hl:zqg P C.H t b off with
   | none=>rw [hl] at hw1;simp [zth] at hw1
   | some v=>
    rw [hl] at hw1;simp only [zth,tza,ARes.val.injEq] at hw1;rw [hw1.1];rfl
  .cases h
 | lookup t m k ok=>
  simp only [dop] at h;split at h;rotate_left
  .cases h
  rename_i dm hm;split at h;rotate_left
  .cases h
  rename_i dk hk;obtain ⟨h1,_⟩:=zyi h;obtain ⟨vm,g1,g2⟩:=zzu (P:=P) ht hm;obtain ⟨vk,g3,g4⟩:=zzu (P:=P) ht hk;have hdep:zpw tm (.lookup t m k ok)=zyw (some dm):=by simp only [zpw,hm]
  have ha:∀ H,zw4 (.lookup t m k ok) P tmH H=zth H (zug P t vm vk ok H):=λH=>by
   show zvi P tmH H t m k ok=_;unfold zvi;simp only [g1,g3]
  unfold zso at h1;split at h1
  .split at h1
   .rename_i o;split at h1
    .rename_i ks vs hD;cases g2 with
     | mp ho one g=>
      have e:=g _ _ hD;subst e;rw [hdep];refine ⟨some (C.σ o),λb hb=>?_,λH' hH=>?_⟩
      .simp only [tza] at hb;subst hb;exact .inr ⟨o,rfl,ho,_,hD,rfl,rfl⟩
      rw [ha] at hw1 ⊢;have:zug P t (.map (some (C.σ o))) vk ok H'=zug P t (.map (some (C.σ o))) vk ok C.H:=(by unfold zug;simp only [zma,(hH _ rfl).1]);rw [this];cases hl:zug P t (.map (some (C.σ o))) vk ok C.H with
      | none=>rw [hl] at hw1;simp [zth] at hw1
      | some v=>
       rw [hl] at hw1;simp only [zth,tza,ARes.val.injEq] at hw1;rw [hw1.1];rfl
    .cases h1
   .cases h1
  .cases h1
 | convert s t x=>
  obtain ⟨h1,_⟩:=zyi h;obtain ⟨p,h2,h3⟩:=tzh.1 h1;obtain ⟨vp,g1,g2⟩:=zzu (P:=P) ht h2;have hdep:zpw tm (.convert s t x)=zyw (some p):=by simp only [zpw,h2]
  have ha:∀ H,zw4 (.convert s t x) P tmH H=zth H (zx8 P H s t vp):=λH=>by
   show zjg P tmH H s t x=_;unfold zjg;rw [g1];rfl
  have fin:∀ H',zx8 P H' s t vp=zx8 P C.H s t vp->zw4 (.convert s t x) P tmH H'=some (.val w H'):=λH' e=>by
   rw [ha] at hw1 ⊢;rw [e];cases hl:zx8 P C.H s t vp with
   | none=>rw [hl] at hw1;simp [zth] at hw1
   | some v=>
    rw [hl] at hw1;simp only [zth,tza,ARes.val.injEq] at hw1;rw [hw1.1];rfl
  rw [hdep];unfold zc9 at h3;split at h3
  .split at h3
   case isFalse=>cases h3
   rename_i hnl;obtain ⟨l,e1,_⟩:=tzf.1 h3;obtain ⟨els,e2,e3⟩:=tzh.1 e1;rcases yvp g2 hnl e2 with ⟨c,rfl,rfl⟩ | ⟨b,o,n,cap,rfl,hf⟩
   .exact RI.none (λH'=>fin H' (zqy rfl H' C.H))
   exact ⟨some b,hf,λH' hH=>fin H' (yr2 (hH b rfl).2)⟩
  .split at h3
   .split at h3
    .rename_i u hu;rw [zf3 g2] at fin;exact RI.none (λH'=>fin H' (zqy hu H' C.H))
    .cases h3
   .cases h3
 | call c=>
  change zpu P tm C.D base c=some (.val d D') at h;unfold zpu at h;split at h
  .rename_i l hl;obtain ⟨vs,g1,g2⟩:=zvp (P:=P) ht hl;have ha:∀ b,c.callee=.builtin b->∀ H,zw4 (.call c) P tmH H=zyd P c.argTypes.toList vs H b:=(by intro b hb H;show ztz P tmH H c=_;unfold ztz;rw [g1,hb]);split at h
   .rename_i b hb;have ha:=ha b hb;obtain ⟨cal,ca,ct⟩:=c;simp only at hb;subst hb
    have arg0:∀ x,l=[x]->∃ y,ca.toList=[y]/\zzl tm y=some x:=by
     intro x hlx;subst hlx;cases hca:ca.toList with
     | nil=>simp only [hca,zy5,tza] at hl;cases hl
     | cons y ys=>
      simp only [hca,zy5] at hl;split at hl
      .rename_i d0 hd0;obtain ⟨l',h1,h2⟩:=tzf.1 hl;simp only [tyi] at h2;obtain ⟨rfl,rfl⟩:=h2;cases ys with
       | nil=>exact ⟨y,rfl,hd0⟩
       | cons z zs=>
        simp only [zy5] at h1;split at h1
        .simp_all
        cases h1
      .cases hl
    cases b<;>simp only [zz7,reduceCtorEq] at hc<;>simp only [zx1,reduceCtorEq] at h
    rotate_left
    .obtain ⟨h1,_⟩:=zyi h;obtain ⟨v,x,l',rfl,q1,q2⟩:=zp0 g2 h1;refine RI.none (λH'=>?_);rw [ha] at hw1 ⊢;simp only [zyd,zon,q1,zth,tza,ARes.val.injEq] at hw1 ⊢;exact ⟨hw1.1,trivial⟩
    .obtain ⟨h1,_⟩:=zyi h;obtain ⟨v,x,l',rfl,q1,q2⟩:=zp0 g2 h1;refine RI.none (λH'=>?_);rw [ha] at hw1 ⊢;simp only [zyd,zon,q1,zth,tza,ARes.val.injEq] at hw1 ⊢;exact ⟨hw1.1,trivial⟩
    split at h;rotate_left
    .cases h
    rename_i t ts hts;split at h;rotate_left
    .cases h
    rename_i x;obtain ⟨h1,_⟩:=zyi h
    obtain ⟨vx,hvx⟩:∃ vx,vs=[vx]:=by
     match vs,g2.1 with
     | [v],_=>exact ⟨v,rfl⟩
    subst hvx;obtain ⟨y,hy1,hy2⟩:=arg0 x rfl;have hx:=g2.2 0 _ _ rfl rfl;have hdep:zpw tm (.call ⟨.builtin .len,ca,ct⟩)=zyw (some x):=by simp only [zpw,hy1,hy2]
    have ha':∀ H,zw4 (.call ⟨.builtin .len,ca,ct⟩) P tmH H=zth H ((P.underlying t).bind (yms H vx)):=λH=>by
     rw [ha];simp only [hts,zyd,on1]
    have fin:∀ H',(P.underlying t).bind (yms H' vx)=(P.underlying t).bind (yms C.H vx)->zw4 (.call ⟨.builtin .len,ca,ct⟩) P tmH H'=some (.val w H'):=λH' e=>by
     rw [ha'] at hw1 ⊢;rw [e];cases hq:(P.underlying t).bind (yms C.H vx) with
     | none=>rw [hq] at hw1;simp [zth] at hw1
     | some v=>
      rw [hq] at hw1;simp only [zth,tza,ARes.val.injEq] at hw1;rw [hw1.1];rfl
    rw [hdep];unfold zf8 at h1;cases hu:P.underlying t with
    | none=>rw [hu] at h1;simp [zc4] at h1
    | some dsc=>
     rw [hu] at h1 fin;simp only [tz2] at h1;simp only [tzn] at fin;cases dsc with
     | map kt et=>
      simp only [zo3,zc4] at h1;split at h1
      .rename_i o;split at h1
       .rename_i ks vs hD;cases hx with
        | mp ho one g=>
         have e:=g _ _ hD;subst e;refine ⟨some (C.σ o),λb hb=>?_,λH' hH=>fin H' ?_⟩
         .simp only [tza] at hb;subst hb;exact .inr ⟨o,rfl,ho,_,hD,rfl,rfl⟩
         .simp only [yms,zma,(hH _ rfl).1]
       .cases h1
      .cases h1
     | _=>exact RI.none (λH'=>fin H' rfl)
   .rename_i f hf;obtain ⟨p,h2,h3⟩:=tzh.1 h;unfold zuz at h3;split at h3
    .simp at h3
    .split at h3<;>simp at h3
    .cases h3
   .cases h
  .cases h
 | _=>simp [zz7] at hc
theorem yyr {b o:Nat}:eqA (some ⟨b,o,none⟩) (some ⟨b,o,none⟩)=true:=by simp [eqA]
theorem zlg {b o:Nat}:yzc (.pointer (some ⟨b,o,none⟩)) (.pointer (some ⟨b,o,none⟩))=true:=yyr
theorem zgk {b o n c:Nat}:yzc (.slice (some ⟨b,o,none⟩) n c) (.slice (some ⟨b,o,none⟩) n c)=true:=by
 simp only [yzc];rw [show Nat.beq n n=true by simp,show Nat.beq c c=true by simp];exact yyr
def Eq1 (v:Value):Prop:=yzc v v=true/\eqV v v=true
theorem zsc {v:Value} (h:yzc v v=true) (h1:oneCell v=true):Eq1 v:=by
 refine ⟨h,?_⟩;cases v<;>first | exact h | (simp [yzc] at h;done) | (simp [oneCell] at h1)
theorem zvl {d:DV} {v:Value} (h:DR C d v) (k:zsk C.D d=true):Eq1 v:=by
 cases h with
 | ref ho one g=>
  obtain ⟨b,off,rfl⟩:=zrr (.ref ho one g) k;exact zsc zlg rfl
 | rfa ho one hn g=>
  obtain ⟨b,off,rfl⟩:=zrr (.rfa ho one hn g) k;exact zsc zlg rfl
 | row ho one g=>
  simp only [zsk] at k;split at k
  .rename_i hD;rw [(g _ _ hD).1];exact zsc zgk rfl
  .cases k
 | @apl o len _ ho one g=>
  simp only [zsk] at k;split at k
  .rename_i hD;rw [(g.2 _ _ _ hD).2 (by simpa using k)];cases len with
   | zero=>exact zsc rfl rfl
   | succ n=>exact zsc zgk rfl
  .cases k
 | mp ho one g=>
  simp only [zsk] at k;split at k
  .rename_i hD;rw [g _ _ hD];exact zsc (by simp [yzc]) rfl
  .cases k
 | _=>simp [zsk] at k
theorem ycv {d:DV} {v:Value} (h:DR C d v) (k:zn6 C.D d=true):Eq1 v:=by
 cases h with
 | f hf=>
  cases hf with
  | raw v=>
   simp only [zn6,tzc] at k;exact zsc k.1 k.2
  | nil=>exact zsc rfl rfl
  | lst=>exact zsc zgk rfl
 | fp=>exact zsc zlg rfl
 | ref ho one g=>exact zvl (.ref ho one g) k
 | rfa ho one hn g=>exact zvl (.rfa ho one hn g) k
 | row ho one g=>exact zvl (.row ho one g) k
 | apl ho one g=>exact zvl (.apl ho one g) k
 | mp ho one g=>exact zvl (.mp ho one g) k
 | _=>simp [zn6,zsk] at k
theorem zkg:∀ {ds:List DV} {vs:List Value},vs.length=ds.length->(∀ (i:Nat) (d:DV) (v:Value),ds[i]? =some d->vs[i]? =some v->DR C d v)->ds.all (zn6 C.D)=true->ym2 vs vs=true
 | _,[],_,_,_=>rfl
 | [],v::vs,h,_,_=>by simp at h
 | d::ds,v::vs,hl,hr,h=>by
  simp only [List.all_cons,tzc] at h;simp only [ym2,(ycv (hr 0 d v rfl rfl) h.1).1];exact zkg (by simpa using hl) (λi d v a b=>hr (i+1) d v a b) h.2
theorem xvc {d:DV} {v:Value} (h:DR C d v) (k:eqD C.D d=true):eqV v v=true:=by
 cases h with
 | f hf=>
  cases hf with
  | raw v=>exact k
  | nil=>rfl
  | lst=>exact (zsc zgk rfl).2
 | agg hl hr=>
  show ym2 _ _=true;exact zkg hl hr k
 | tup hl hr=>
  show ym2 _ _=true;exact zkg hl hr k
 | fn ha hb h1 h2=>
  simp only [eqD,tzc] at k;simp only [eqV];rw [show ∀ g:Nat,Nat.beq g g=true from λg=>by simp];simp only [zkg ha h1 k.1,zkg hb h2 k.2]
 | fp=>exact (zsc zlg rfl).2
 | ref ho one g=>exact (zvl (.ref ho one g) k).2
 | rfa ho one hn g=>exact (zvl (.rfa ho one hn g) k).2
 | row ho one g=>exact (zvl (.row ho one g) k).2
 | apl ho one g=>exact (zvl (.apl ho one g) k).2
 | mp ho one g=>exact (zvl (.mp ho one g) k).2
 | yl=>simp [eqD,zn6,zsk] at k
 | prt=>simp [eqD,zn6,zsk] at k
 | em=>simp [eqD,zn6,zsk] at k
 | lv=>simp [eqD,zn6,zsk] at k
theorem zgl (ht:TR C tm tmH) {all:List Oper} {g:Option (Nat×Bool)} {b:Bool} (h:zu0 all tm g=some b):zyp all tmH g=b:=by
 cases g with
 | none=>simp only [zu0,tza] at h;subst h;rfl
 | some q=>
  obtain ⟨j,w⟩:=q;simp only [zu0] at h;show zoq all tmH j w=b;unfold zoq;cases hj:all[j]? with
  | none=>rw [hj] at h;simp [gdO] at h
  | some o=>
   rw [hj] at h;obtain ⟨dst,op,ty,pos,aft,g⟩:=o;cases dst with
   | none=>simp [gdO] at h
   | some d=>
    simp only [gdO] at h;simp only;cases hd:tm.get d with
    | none=>rw [hd] at h;simp [gdV] at h
    | some x=>
     rw [hd] at h;obtain ⟨v,h1,h2⟩:=ht d x hd;unfold gdV at h;split at h
     .rename_i c heq;simp only [tza] at heq h;subst heq h;rw [h1,zf3 h2];cases c<;>cases w<;>rfl
     .rename_i c heq;simp only [tza] at heq h;subst heq h;rw [h1,zf3 h2]
     .cases h
theorem TR.put (ht:TR C tm tmH) {nt:Nat} {dst:Option Tmp} {d:DV} {v:Value} (hd:DR C d v):TR C (putD tm nt dst d) (zf5 tmH nt dst v):=by
 cases dst with
 | none=>exact ht
 | some t=>
  unfold putD zf5;by_cases h:t<nt
  .simp only [h,if_true];rw [show Nat.blt t nt=true by simpa using h];intro u e he;rw [Trie.get_put] at he;simp only [Trie.get_put];split at he
   .simp_all
   rename_i q;rw [if_neg q];exact ht u e he
  .simp only [h,if_false]
   have:Nat.blt t nt=false:=by
    cases hq:Nat.blt t nt with
    | false=>rfl
    | true=>rw [txl] at hq;exact absurd hq h
   rw [this];exact ht
theorem zo6 {nt:Nat} {dst:Option Tmp} {v:Value} {t:Tmp} (h:zc8 dst [t]=false):(zf5 tmH nt dst v).get t=tmH.get t:=by
 cases dst with
 | none=>rfl
 | some u=>
  have hne:t≠u:=λe=>by
   subst e;simp [zc8,zfh] at h
  simp only [zf5];cases Nat.blt u nt with
  | true=>simp only [Trie.get_put,if_neg hne]
  | false=>rfl
theorem zgm {dst:Option Tmp} {l:List Nat} (h:zc8 dst l=false) {t:Nat} (ht:t∈l):zc8 dst [t]=false:=by
 cases dst with
 | none=>rfl
 | some u=>
  simp only [zc8] at h ⊢
  have hne:u≠t:=λe=>by
   subst e;rw [zwr.2 ht] at h;cases h
  simp only [zfh];cases hb:Nat.beq u t with
  | true=>exact absurd (tzo hb) hne
  | false=>rfl
end Go.Dv
namespace Go.Dv
open Go Go.Sim
variable {W:Nat->Prop} {C C' C'':Ctx} {P:Program} {tm:Trie DV} {tmH:Trie Value} {base:Nat}
def zzm (Q:Par):zqi:=λfn id=>zym id (Q.ann fn).pl
def Snd (Q:Par) (tb:Sub) (f:FuncId) (args:List DV) (base:Nat) (D:DH) (r:DV×DH):Prop:=
 zbo Q.P f/\∀ (C:Ctx) (vs:List Value),C.D=D->HR C->DRs C args vs->Low C base ->
  ∃ C' v,C'.D=r.2/\HR C'/\Nx (λo=>base<=o/\(Q.ann f).raw=true) C C'/\DR C' r.1 v/\∃ N,∀ n,N<=n->evF Q.P (zzm Q) tb n f vs C.H=some (v,C'.H)
theorem zvq {base:Nat} {w:Option (Option Nat)}:∀ {cl:List (Nat×Option Nat)} {i:Nat} {dep:Option Nat},(i,dep)∈zsj base w cl->(i,dep)∈cl/\∀ p,dep=some p->(∃ q,w=some q/\q≠some p)∨p<base
 | [],i,dep,h=>by simp [zsj] at h
 | (j,none)::l,i,dep,h=>by
  simp only [zsj] at h;rcases tzu.1 h with h | h
  .simp_all
  obtain ⟨a,b⟩:=zvq h;exact ⟨tzq _ a,b⟩
 | (j,some o)::l,i,dep,h=>by
  simp only [zsj] at h;split at h
  .rcases tzu.1 h with h | h
   .simp_all
   obtain ⟨a,b⟩:=zvq h;exact ⟨tzq _ a,b⟩
  .rename_i o';split at h
   .obtain ⟨a,b⟩:=zvq h;exact ⟨tzq _ a,b⟩
   rename_i hne;rcases tzu.1 h with h | h
   .grind
   obtain ⟨a,b⟩:=zvq h;exact ⟨tzq _ a,b⟩
  .split at h
   .rename_i hlt;rcases tzu.1 h with h | h
    .simp_all
    obtain ⟨a,b⟩:=zvq h;exact ⟨tzq _ a,b⟩
   .obtain ⟨a,b⟩:=zvq h;exact ⟨tzq _ a,b⟩
theorem yys {i:Nat}:∀ {cl:List (Nat×Option Nat)},ykp i cl=true->∃ dep,(i,dep)∈cl
 | [],h=>by simp [ykp] at h
 | (j,d)::l,h=>by
  simp only [ykp] at h;split at h
  .simp_all
  obtain ⟨dep,g⟩:=yys h;exact ⟨dep,tzq _ g⟩
def zkh (P:Program) (nt:Nat) (all:List Oper) (γ:List Nat) (C:Ctx) (tmH:Trie Value) (cl:List (Nat×Option Nat)):Prop:=∀ i dep,(i,dep)∈cl->i∈γ/\∃ o w,all[i]? =some o /\
 (zcs all i (zc7 o++zv6 all o) γ=true->zc8 o.dst (zv6 all o)=false->RI P C tmH o.op w dep/\∀ d,o.dst=some d->d<nt->tmH.get d=some w)
theorem zkh.nx {nt:Nat} {all:List Oper} {γ:List Nat} {cl cl':List (Nat×Option Nat)} (k:zkh P nt all γ C tmH cl) (hr:HR C) (nx:Nx W C C') (h:∀ i dep,(i,dep)∈cl'->(i,dep)∈cl/\∀ p,dep=some p->¬W p):zkh P nt all γ C' tmH cl':=by
 intro i dep hi;obtain ⟨h1,h2⟩:=h i dep hi;obtain ⟨g1,o,w,g2,g3⟩:=k i dep h1;exact ⟨g1,o,w,g2,λa b=>⟨(g3 a b).1.nx hr nx h2,(g3 a b).2⟩⟩
theorem RI.congr {tmH':Trie Value} {op:Op} {w:Value} {dep:Option Nat} (h:RI P C tmH op w dep) (hc:∀ t,Operand.tmp t∈op.operands.toList->tmH'.get t=tmH.get t):RI P C tmH' op w dep:=by
 obtain ⟨fb,h1,h2⟩:=h.ex;exact ⟨⟨fb,h1,λH' hH=>by rw [ztp (tm':=tmH) hc];exact h2 H' hH⟩⟩
theorem zer {all:List Oper} {o:Oper} {t:Tmp} (h:Operand.tmp t∈o.op.operands.toList):t∈zv6 all o:=txg _ (zwi h)
theorem zkh.step {nt:Nat} {all:List Oper} {γ:List Nat} {cl:List (Nat×Option Nat)} {i:Nat} {o:Oper} {v:Value} (k:zkh P nt all γ C tmH cl) (hi:i∉γ) (ho:all[i]? =some o):zkh P nt all (i::γ) C (zf5 tmH nt o.dst v) cl:=by
 intro j dep hj;obtain ⟨g1,oj,w,g2,g3⟩:=k j dep hj;refine ⟨tzq _ g1,oj,w,g2,λa b=>?_⟩;simp only [zcs] at a
 have hij:Nat.beq i j=false:=by
  cases hb:Nat.beq i j with
  | false=>rfl
  | true=>exact absurd (tzo hb▸g1) hi
 rw [hij,ho] at a;simp only at a;cases hh:zc8 o.dst (zc7 oj++zv6 all oj) with
 | true=>rw [hh] at a;cases a
 | false=>
  rw [hh] at a;obtain ⟨q1,q2⟩:=g3 a b;refine ⟨q1.congr (λt ht=>zo6 (zgm hh (txg _ (zer ht)))),λd hd hdn=>?_⟩;rw [zo6 (zgm hh (txf _ (by simp [zc7,hd])))];exact q2 d hd hdn
theorem yr4 {all:List Oper} {b γ:List Nat} {i:Nat} {o:Oper} (h:zuo all b i o γ=true):i∉γ:=by
 intro hm;unfold zuo at h;rw [zwr.2 hm] at h;cases h
theorem yk1 {Q:Par} {base:Nat} {tm:Trie DV} {D D1:DH} {op:Op} {d:DV} (h:dop Q.P base tm D op=some (.val d D1)):zur Q base tm D op=base:=by
 unfold zur;split
 .rename_i f args ts;unfold xw7;split
  .rename_i g a b hf;simp only [dop,zpu] at h;split at h
   .rw [hf] at h;simp [zuz] at h
   .cases h
  .rfl
 .rfl
theorem ycw {Q:Par} {base:Nat} {tm:Trie DV} {C:Ctx} {op:Op} (h:Low C base):base<=zur Q base tm C.D op/\Low C (zur Q base tm C.D op):=by
 have same:base<=base/\Low C base:=⟨tzp _,h⟩;unfold zur;split;rotate_left
 .exact same
 unfold xw7;split;rotate_left
 .exact same
 split;rotate_left
 .exact same
 split
 .unfold xr2;split
  .split
   .rename_i hc;obtain ⟨h1,h2,h3⟩:=hc;refine ⟨h1,h2,λo x ho hx=>?_⟩;rcases tz9 o base with g | g
    .exact (h.2 o x g hx).mono h1
    .exact zke h3 g ho hx
   unfold xr1;split
   .rename_i hc;obtain ⟨h2,h3⟩:=hc;have h1:base<=base+1:=Nat.le_succ _;refine ⟨h1,h2,λo x ho hx=>?_⟩;rcases tz9 o base with g | g
    .exact (h.2 o x g hx).mono h1
    .exact zke h3 g ho hx
   .exact same
  .exact same
 .exact same
theorem yvq {Q:Par} {tb:Sub} {sub:zo1} (hsub:∀ f a b D r,sub f a b D=some r->Snd Q tb f a b D r) {all:List Oper} {b:List Nat} {nt:Nat} {tm':Trie DV} {D':DH}:∀ (pl:List PI) (γ rd stale:List Nat) (cl:List (Nat×Option Nat)) (tm:Trie DV) (tmH:Trie Value) (C:Ctx),
  chk all b pl γ rd stale=true->HR C->TR C tm tmH->Low C base->zkh Q.P nt all γ C tmH cl->zwp Q sub base nt all pl tm C.D cl=some (tm',D') ->
  ∃ C' tmH',C'.D=D'/\HR C'/\Nx (λo=>base<=o) C C'/\TR C' tm' tmH'/\∃ N,∀ n,N<=n->zpb (evF Q.P (zzm Q) tb n) Q.P all nt pl tmH C.H=some (tmH',C'.H):=by
 intro pl
 induction pl with
 | nil=>
  intro γ rd stale cl tm tmH C _ hr ht hlow hk h;simp only [zwp,tza,tzl] at h;obtain ⟨rfl,rfl⟩:=h;exact ⟨C,tmH,rfl,hr,Nx.refl hr,ht,0,λn _=>rfl⟩
 | cons x pl ih=>
  intro γ rd stale cl tm tmH C hchk hr ht hlow hk h;cases x with
  | run i=>
   simp only [zwp] at h;cases ho:all[i]? with
   | none=>rw [ho] at h;cases h
   | some o=>
    rw [ho] at h;simp only at h;simp only [chk,ho] at hchk;cases hen:zuo all b i o γ with
    | false=>rw [hen] at hchk;cases hchk
    | true=>
     rw [hen] at hchk;simp only at hchk;have hi:=yr4 hen
     -- what follows
     have go:∀ (C1:Ctx) (v:Value) (d:DV) (cl':List (Nat×Option Nat)) (rd' stale':List Nat),HR C1->Nx (λo=>base<=o) C C1->DR C1 d v->chk all b pl (i::γ) rd' stale'=true->zkh Q.P nt all (i::γ) C1 (zf5 tmH nt o.dst v) cl' ->
       zwp Q sub base nt all pl (putD tm nt o.dst d) C1.D cl'=some (tm',D')->(∃ N,∀ n,N<=n->zs9 (evF Q.P (zzm Q) tb n) Q.P all tmH nt C.H (.run i)=some (zf5 tmH nt o.dst v,C1.H)) ->
       ∃ C' tmH',C'.D=D'/\HR C'/\Nx (λo=>base<=o) C C'/\TR C' tm' tmH'/\∃ N,∀ n,N<=n->zpb (evF Q.P (zzm Q) tb n) Q.P all nt (.run i::pl) tmH C.H=some (tmH',C'.H):=by
      intro C1 v d cl' rd' stale' hr1 nx1 hd hch hk1 hdr hst
      obtain ⟨C',tmH',a1,a2,a3,a4,N,a5⟩:=ih (i::γ) rd' stale' cl' _ _ C1 hch hr1 ((ht.mono nx1 hr).put hd) (hlow.nx nx1) hk1 hdr
      obtain ⟨N',hst⟩:=hst
      refine ⟨C',tmH',a1,a2,nx1.trans a3,a4,max N N',λn hn=>?_⟩
      simp only [zpb,hst n (by omega)]
      exact a5 n (by omega)
     have hrun:∀ n,zs9 (evF Q.P (zzm Q) tb n) Q.P all tmH nt C.H (.run i)=(match zyp all tmH o.guard with
       | true=>zuw (evF Q.P (zzm Q) tb n) o.dst tmH nt C.H (zm6 C.H (zw4 o.op Q.P tmH C.H) (zz7 o.op))
       | false=>some (put tmH nt o.dst undef,C.H)):=λn=>by
      show (all[i]?).bind _=_
      rw [ho];rfl
     cases hw:zu0 all tm o.guard with
     | none=>rw [hw] at h;cases h
     | some wb=>
      rw [hw] at h;have hwH:=zgl ht hw;cases wb with
      | false=>
       simp only at h;have hk':zkh Q.P nt all (i::γ) C (zf5 tmH nt o.dst undef) cl:=hk.step hi ho;have hst:∃ N,∀ n,N<=n->zs9 (evF Q.P (zzm Q) tb n) Q.P all tmH nt C.H (.run i)=some (zf5 tmH nt o.dst undef,C.H):=⟨0,λn _=>by rw [hrun,hwH,zrh]⟩;cases hcl:zz7 o.op with
       | pure=>rw [hcl] at hchk;exact go C undef (rv undef) cl _ _ hr (Nx.refl hr) (zv0 _) hchk hk' h hst
       | read=>rw [hcl] at hchk;exact go C undef (rv undef) cl _ _ hr (Nx.refl hr) (zv0 _) hchk hk' h hst
       | fresh=>rw [hcl] at hchk;exact go C undef (rv undef) cl _ _ hr (Nx.refl hr) (zv0 _) hchk hk' h hst
       | eff=>
        rw [hcl] at hchk;simp only at hchk;split at hchk
        .split at hchk
         .exact go C undef (rv undef) cl _ _ hr (Nx.refl hr) (zv0 _) hchk hk' h hst
         .cases hchk
        .cases hchk
      | true=>
       simp only at h;cases hop:dop Q.P base tm C.D o.op with
       | none=>rw [hop] at h;simp [zw0] at h
       | some r=>
        rw [hop] at h;cases r with
        | val d D1=>
         simp only [zw0] at h;cases hcl:zz7 o.op with
         | pure=>
          rw [hcl] at hchk;obtain ⟨rfl,v,v1,v2⟩:=zgg hr ht (.inl hcl) hop;refine go C v d cl _ _ hr (Nx.refl hr) v2 hchk (hk.step hi ho) ?_ ⟨0,λn _=>?_⟩
          .simpa [zqk,hcl] using h
          rw [hrun,hwH,v1,hcl];simp only [zm6,ym3];rw [show Nat.beq C.H.n C.H.n=true by simp];simp only [zuw,zrh]
         | read=>
          rw [hcl] at hchk;obtain ⟨w,w1,w2,rfl⟩:=yr3 hr ht hcl hop;refine go C w d ((i,zpw tm o.op)::cl) _ _ hr (Nx.refl hr) w2 hchk (λj dep hj=>?_) ?_ ⟨0,λn _=>?_⟩
          .rcases tzu.1 hj with hj | hj
           .simp only [tzl] at hj;obtain ⟨rfl,rfl⟩:=hj;refine ⟨tz0 ..,o,w,ho,λ_ hh=>⟨w1.congr (λt htt=>zo6 (zgm hh (zer htt))),λd' hd' hdn=>?_⟩⟩;rw [hd'];unfold zf5;simp only;rw [show Nat.blt d' nt=true by simpa using hdn];simp [Trie.get_put]
           .exact hk.step hi ho j dep hj
          .simpa [zqk,hcl] using h
          .rw [hrun,hwH,w1.now,hcl];simp only [zm6,zuw,zrh]
         | fresh=>
          rw [hcl] at hchk;obtain ⟨C1,v,v1,v2,v3,v4,v5⟩:=(yrv Q hr ht hop).ex;subst v2;have v4':Nx (λ_=>False) C C1:=v4.weak (λp hp=>by have:=hp.2;simp [OpW,hcl] at this);refine go C1 v d cl _ _ v3 (v4'.weak (λ_ h=>h.elim)) v5 hchk ((hk.nx hr v4' (λj dep hj=>⟨hj,λ_ _ h=>h⟩)).step hi ho) ?_ ⟨0,λn _=>?_⟩
          .simpa [zqk,hcl] using h
          rw [hrun,hwH,v1,hcl];simp only [zm6,zuw,zrh]
         | eff=>
          rw [hcl] at hchk;obtain ⟨C1,v,v1,v2,v3,v4,v5⟩:=(yrv Q hr ht hop).ex;have heff:zur Q base tm C.D o.op=base:=yk1 hop;rw [heff] at h;subst v2
          have hk1:zkh Q.P nt all γ C1 tmH (zsj base (zvo Q tm o.op) cl):=hk.nx hr v4 (λj dep hj=>by
           obtain ⟨a1,a2⟩:=zvq hj
           refine ⟨a1,λp hp hW=>?_⟩
           rcases a2 p hp with ⟨q,q1,q2⟩ | hlt
           case inr=>have:=hW.1;omega
           have:=hW.2
           simp only [OpW,hcl,q1] at this
           exact q2 this)
          have hst:∃ N,∀ n,N<=n->zs9 (evF Q.P (zzm Q) tb n) Q.P all tmH nt C.H (.run i)=some (zf5 tmH nt o.dst v,C1.H):=⟨0,λn _=>by
           rw [hrun,hwH,v1,hcl]
           simp only [zm6,zuw,zrh]⟩
          have hdr:zwp Q sub base nt all pl (putD tm nt o.dst d) C1.D (zsj base (zvo Q tm o.op) cl)=some (tm',D'):=by simpa [zqk,hcl] using h
          simp only at hchk;split at hchk
          .split at hchk
           .exact go C1 v d _ _ _ v3 (v4.weak (λp hp=>hp.1)) v5 hchk (hk1.step hi ho) hdr hst
           .cases hchk
          .cases hchk
        | enter g args=>
         obtain ⟨heb,hel⟩:=ycw (Q:=Q) (tm:=tm) (op:=o.op) hlow;simp only [zw0] at h;generalize hbe:zur Q base tm C.D o.op=be at h heb hel;cases hs:sub g args be C.D with
         | none=>rw [hs] at h;cases h
         | some r=>
          obtain ⟨d,D1⟩:=r;rw [hs] at h;obtain ⟨hg,hsnd⟩:=hsub _ _ _ _ _ hs;obtain ⟨vs,e1,e2,hcl,hwr⟩:=zel (C:=C) ht hop hg;obtain ⟨C1,v,v2,v3,v4,v5,N,v6⟩:=hsnd C vs rfl hr e2 hel;simp only at v2;subst v2
          have hk1:zkh Q.P nt all γ C1 tmH (zsj be (zvo Q tm o.op) cl):=hk.nx hr v4 (λj dep hj=>by
           obtain ⟨a1,a2⟩:=zvq hj
           refine ⟨a1,λp hp hW=>?_⟩
           rcases a2 p hp with ⟨q,q1,q2⟩ | hlt
           case inr=>have:=hW.1;omega
           rw [hwr Q,hW.2] at q1
           simp at q1)
          have hst:∃ N,∀ n,N<=n->zs9 (evF Q.P (zzm Q) tb n) Q.P all tmH nt C.H (.run i)=some (zf5 tmH nt o.dst v,C1.H):=⟨N,λn hn=>by
           rw [hrun,hwH,e1,hcl]
           simp only [zm6,zuw,v6 n hn,zrh]⟩
          have hdr:zwp Q sub base nt all pl (putD tm nt o.dst d) C1.D (zsj be (zvo Q tm o.op) cl)=some (tm',D'):=by simpa [zqk,hcl] using h
          rw [hcl] at hchk;simp only at hchk;split at hchk
          .split at hchk
           .exact go C1 v d _ _ _ v3 (v4.weak (λp hp=>tys heb hp.1)) v5 hchk (hk1.step hi ho) hdr hst
           .cases hchk
          .cases hchk
        | yield l args=>simp [zw0,zbd] at h
  | again i=>
   simp only [zwp] at h;split at h;rotate_left
   .cases h
   rename_i hag;unfold zi7 at hag;cases ho:all[i]? with
   | none=>rw [ho] at hag;cases hag
   | some o=>
    rw [ho] at hag;simp only at hag;simp only [chk,ho] at hchk
    have hstep:∀ n,zno Q.P all tmH nt C.H o=true->zs9 (evF Q.P (zzm Q) tb n) Q.P all tmH nt C.H (.again i)=some (tmH,C.H):=λn hh=>by
     simp only [zs9,ho,tz2,hh]
    split at hchk;rotate_left
    .cases hchk
    rename_i hcl;cases hh:zc8 o.dst (zv6 all o) with
    | true=>rw [hh] at hchk;cases hchk
    | false=>
     rw [hh] at hchk;simp only at hchk;cases hs:zcs all i (zc7 o++zv6 all o) γ with
     | false=>rw [hs] at hchk;cases hchk
     | true=>
      rw [hs] at hchk;simp only at hchk
      have hA:zno Q.P all tmH nt C.H o=true:=by
       cases hw:zu0 all tm o.guard with
       | none=>rw [hw] at hag;cases hag
       | some wb=>
        rw [hw] at hag;have hwH:=zgl ht hw
        show (match zyp all tmH o.guard with
         | true=>yzd tmH nt o.dst (zw4 o.op Q.P tmH C.H)
         | false=>true)=true
        rw [hwH];cases wb with
        | false=>rfl
        | true=>
         simp only [tzc] at hag;obtain ⟨q1,q2⟩:=hag;obtain ⟨dep,hm⟩:=yys q1;obtain ⟨_,o',w,k1,k2⟩:=hk i dep hm;rw [ho] at k1;simp only [tza] at k1;subst k1;obtain ⟨k3,k4⟩:=k2 hs hh;simp only [k3.now];split at q2
         .rename_i d hd;simp only [tzc,decide_eq_true_eq] at q2;obtain ⟨q3,q4⟩:=q2;have hslot:=k4 d hd q3;rw [hd]
          show (match Nat.blt d nt with
           | true=>match tmH.get d with
            | some w'=>eqV w w'
            | none=>false
           | false=>false)=true
          rw [show Nat.blt d nt=true by simpa using q3,hslot];simp only;cases hx:tm.get d with
          | none=>rw [hx] at q4;cases q4
          | some dx=>
           rw [hx] at q4;obtain ⟨v,e1,e2⟩:=ht d dx hx;rw [hslot] at e1;simp only [tza] at e1;subst e1;exact xvc e2 q4
         .cases q2
      obtain ⟨C',tmH',a1,a2,a3,a4,N,a5⟩:=ih γ rd (zun i stale) cl tm tmH C hchk hr ht hlow hk h;refine ⟨C',tmH',a1,a2,a3,a4,N,λn hn=>?_⟩;simp only [zpb,hstep n hA];exact a5 n hn
end Go.Dv
namespace Go.Dv
open Go Go.Sim
variable {W:Nat->Prop} {C C' C'':Ctx} {P:Program} {tm:Trie DV} {tmH:Trie Value} {base:Nat} {Q:Par} {tb:Sub}
structure ROK (C:Ctx) (K:KD) (kh:FK):Prop where
 fn:kh.fn=K.fn
 nt:kh.nt=K.nt
 no:K.ro=none->kh.ro=none
 so:∀ l,K.ro=some l->∃ b,kh.ro=some b/\l<C.D.length/\(zl6 C.D[l]? =true->C.σ l=b)
theorem zes {o:Option DObj} (h:zl6 o=true):∃ st p K tm ps a b,o=some (.loop st p K tm ps a b):=by
 unfold zl6 at h;split at h
 .exact ⟨_,_,_,_,_,_,_,rfl⟩
 .cases h
theorem Nx.loop (nx:Nx W C C') {l:Nat} (hl:l<C.D.length) (h:zl6 C'.D[l]? =true):zl6 C.D[l]? =true/\C'.σ l=C.σ l:=by
 obtain ⟨st,p,K,tm,ps,a,b,e⟩:=zes h;obtain ⟨x,h1,h2⟩:=nx.back hl e (by simp);cases x<;>first | exact h2.elim | skip
 exact ⟨by rw [h1];rfl,h2⟩
theorem ROK.nx {K:KD} {kh:FK} (h:ROK C K kh) (nx:Nx W C C'):ROK C' K kh:=by
 refine ⟨h.fn,h.nt,h.no,λl hl=>?_⟩;obtain ⟨b,h1,h2,h3⟩:=h.so l hl;refine ⟨b,h1,tyf h2 nx.len,λhloop=>?_⟩;obtain ⟨g1,g2⟩:=nx.loop h2 hloop;rw [g2];exact h3 g1
structure Comes (Q:Par) (K:KD) (C:Ctx) (n0:Nat) (ds:List Deferred) (s':SD) (E:St->Prop):Prop where
 ex:∃ C' sH',C'.D=s'.D/\HR C'/\Nx (λo=>K.base<=o) C C'/\TR C' s'.tm sH'.tm/\sH'.H=C'.H/\zeo n0 C'.H sH'.ds/\(K.ro≠none->sH'.ds=ds)/\E sH'
structure Pre (K:KD) (C:Ctx) (s:SD) (sH:St) (n0:Nat) (kh:FK):Prop where
 D:C.D=s.D
 hr:HR C
 tr:TR C s.tm sH.tm
 H:sH.H=C.H
 low:Low C K.base
 marks:zeo n0 C.H sH.ds
 n0:n0<=C.H.n
 ro:ROK C K kh
def xxw (Q:Par) (tb:Sub) (K:KD) (c:Code) (s:SD) (x:BX) (s':SD):Prop:=∀ C sH n0 kh,Pre K C s sH n0 kh->Comes Q K C n0 sH.ds s' λsH'=>∃ N,∀ n m,N<=n->N<=m->evC Q.P (evF Q.P (zzm Q) tb n) (zzm Q) m kh c sH=some (x,sH')
def xq3 (Q:Par) (tb:Sub) (K:KD) (c:Code) (s:SD) (x:BX) (s':SD):Prop:=∀ C sH n0 kh,Pre K C s sH n0 kh->Comes Q K C n0 sH.ds s' λsH'=>∃ N,∀ n m,N<=n->N<=m ->
 evS Q.P (evF Q.P (zzm Q) tb n) (zzm Q) m (evC Q.P (evF Q.P (zzm Q) tb n) (zzm Q) m) kh c sH=some (x,sH')
def xn6 (Q:Par) (tb:Sub) (yld:zo1):Prop:=∀ l args base D r,yld l args base D=some r->∀ (C:Ctx) (vs:List Value),C.D=D->HR C->DRs C args vs->Low C base ->
 ∃ C' v,C'.D=r.2/\HR C'/\Nx (λo=>base<=o) C C'/\DR C' r.1 v/\∃ N,∀ n m,N<=n->N<=m->zt8 (evC Q.P (evF Q.P (zzm Q) tb n) (zzm Q) m) (C.σ l) vs C.H=some (v,C'.H)
theorem yr5 {sub yld:zo1} (hsub:∀ f a b D r,sub f a b D=some r->Snd Q tb f a b D r) (hy:xn6 Q tb yld) {nt:Nat} {all:List Oper} {tm':Trie DV} {D':DH}:∀ (rest:List Oper) (tm:Trie DV) (tmH:Trie Value) (C:Ctx),HR C->TR C tm tmH->Low C base ->
  zxo Q.P sub yld base nt all rest tm C.D=some (tm',D')->∃ C' tmH',C'.D=D'/\HR C'/\Nx (λo=>base<=o) C C'/\TR C' tm' tmH'/\∃ N,∀ n m,N<=n->N<=m->zj9 (evF Q.P (zzm Q) tb n) (zt8 (evC Q.P (evF Q.P (zzm Q) tb n) (zzm Q) m)) Q.P nt all rest tmH C.H=some (tmH',C'.H):=by
 intro rest
 induction rest with
 | nil=>
  intro tm tmH C hr ht hlow h;simp only [zxo,tza,tzl] at h;obtain ⟨rfl,rfl⟩:=h;exact ⟨C,tmH,rfl,hr,Nx.refl hr,ht,0,λn m _ _=>rfl⟩
 | cons o rest ih=>
  intro tm tmH C hr ht hlow h;simp only [zxo] at h
  have go:∀ (C1:Ctx) (v:Value) (d:DV),HR C1->Nx (λo=>base<=o) C C1->DR C1 d v->zxo Q.P sub yld base nt all rest (putD tm nt o.dst d) C1.D=some (tm',D') ->
    (∃ N,∀ n m,N<=n->N<=m->zyp all tmH o.guard=true/\yd4 (evF Q.P (zzm Q) tb n) (zt8 (evC Q.P (evF Q.P (zzm Q) tb n) (zzm Q) m)) C.H (zw4 o.op Q.P tmH C.H)=some (v,C1.H)) ->
    ∃ C' tmH',C'.D=D'/\HR C'/\Nx (λo=>base<=o) C C'/\TR C' tm' tmH'/\∃ N,∀ n m,N<=n->N<=m->zj9 (evF Q.P (zzm Q) tb n) (zt8 (evC Q.P (evF Q.P (zzm Q) tb n) (zzm Q) m)) Q.P nt all (o::rest) tmH C.H=some (tmH',C'.H):=by
   intro C1 v d hr1 nx1 hd hev ⟨N',hst⟩
   obtain ⟨C',tmH',a1,a2,a3,a4,N,a5⟩:=ih _ _ C1 hr1 ((ht.mono nx1 hr).put (nt:=nt) (dst:=o.dst) hd) (hlow.nx nx1) hev
   refine ⟨C',tmH',a1,a2,nx1.trans a3,a4,max N N',λn m hn hm=>?_⟩
   obtain ⟨g1,g2⟩:=hst n m (by omega) (by omega)
   simp only [zj9,g1,g2]
   exact a5 n m (by omega) (by omega)
  cases hw:zu0 all tm o.guard with
  | none=>rw [hw] at h;cases h
  | some wb=>
   rw [hw] at h;have hwH:=zgl ht hw;cases wb with
   | false=>
    simp only at h;obtain ⟨C',tmH',a1,a2,a3,a4,N,a5⟩:=ih _ _ C hr (ht.put (nt:=nt) (dst:=o.dst) (zv0 undef)) hlow h;refine ⟨C',tmH',a1,a2,a3,a4,N,λn m hn hm=>?_⟩;simp only [zj9,hwH];exact a5 n m hn hm
   | true=>
    simp only at h;cases hop:dop Q.P base tm C.D o.op with
    | none=>rw [hop] at h;simp [zw0] at h
    | some r=>
     rw [hop] at h;cases r with
     | val d D1=>
      simp only [zw0] at h;obtain ⟨C1,v,v1,v2,v3,v4,v5⟩:=(yrv Q hr ht hop).ex;subst v2;exact go C1 v d v3 (v4.weak (λp hp=>hp.1)) v5 h ⟨0,λn m _ _=>⟨hwH,by rw [v1];rfl⟩⟩
     | enter g args=>
      simp only [zw0] at h;cases hs:sub g args base C.D with
      | none=>rw [hs] at h;cases h
      | some r=>
       obtain ⟨d,D1⟩:=r;rw [hs] at h;obtain ⟨hg,hsnd⟩:=hsub _ _ _ _ _ hs;obtain ⟨vs,e1,e2,_,_⟩:=zel (C:=C) ht hop hg;obtain ⟨C1,v,v2,v3,v4,v5,N,v6⟩:=hsnd C vs rfl hr e2 hlow;simp only at v2;subst v2;exact go C1 v d v3 (v4.weak (λp hp=>hp.1)) v5 h ⟨N,λn m hn _=>⟨hwH,by rw [e1];exact v6 n hn⟩⟩
     | yield l args=>
      simp only [zw0] at h;cases hs:yld l args base C.D with
      | none=>rw [hs] at h;cases h
      | some r=>
       obtain ⟨d,D1⟩:=r;rw [hs] at h;obtain ⟨vs,e1,e2⟩:=yry (C:=C) ht hop;obtain ⟨C1,v,v2,v3,v4,v5,N,v6⟩:=hy _ _ _ _ _ hs C vs rfl hr e2 hlow;simp only at v2;subst v2;exact go C1 v d v3 v4 v5 h ⟨N,λn m hn hm=>⟨hwH,by rw [e1];exact v6 n m hn hm⟩⟩
theorem zet:∀ {l:List Gh} {s s':SD} {C:Ctx} (hr:HR C),C.D=s.D->TR C s.tm tmH->zvz base l s=some s'->∃ C',C'.H=C.H/\C'.D=s'.D/\HR C'/\Nx (λo=>base<=o) C C'/\TR C' s'.tm tmH
 | [],s,s',C,hr,hD,ht,h=>by
  simp only [zvz,tza] at h;subst h;exact ⟨C,rfl,hD,hr,Nx.refl hr,ht⟩
 | g::l,s,s',C,hr,hD,ht,h=>by
  simp only [zvz] at h;split at h
  .rename_i s1 h1;obtain ⟨C1,a1,a2,a3,a4,a5⟩:=yk0 (base:=base) hr hD ht h1;obtain ⟨C',b1,b2,b3,b4,b5⟩:=zet a3 a2 a5 h;exact ⟨C',b1.trans a1,b2,b3,a4.trans b4,b5⟩
  .cases h
theorem yr6 {K:KD} {id:Nat} {s s':SD} (hr:HR C) (hD:C.D=s.D) (ht:TR C s.tm tmH) (h:zbc K id s=some s'):∃ C',C'.H=C.H/\C'.D=s'.D/\HR C'/\Nx (λo=>K.base<=o) C C'/\TR C' s'.tm tmH:=by
 unfold zbc at h;split at h
 .exact zet hr hD ht h
 simp only [tza] at h;subst h;exact ⟨C,rfl,hD,hr,Nx.refl hr,ht⟩
theorem zlh {α:Type} {g:Nat->Option α} {r:α} (h:ye8 g=some r):∃ n,g n=some r:=by
 unfold ye8 at h;split at h
 .grind
 cases h
theorem yyt:∀ {ds:List DV} {vs:List Value} {tm:Trie DV} {tmH:Trie Value} {k:Nat},TR C tm tmH->DRs C ds vs->TR C (zo4 tm k ds) (yz1 tmH k vs)
 | [],vs,tm,tmH,k,ht,hd=>by
  have:vs=[]:=tzy hd.1;subst this;exact ht
 | d::ds,[],tm,tmH,k,ht,hd=>by have:=hd.1;simp at this
 | d::ds,v::vs,tm,tmH,k,ht,hd=>by
  refine yyt (ds:=ds) (vs:=vs) (λu e he=>?_) ⟨by have:=hd.1;simpa using this,λi a b h1 h2=>hd.2 (i+1) a b h1 h2⟩;rw [Trie.get_put] at he;simp only [Trie.get_put];split at he
  .rename_i q;simp only [tza] at he;subst he;rw [if_pos q];exact ⟨v,rfl,hd.2 0 _ _ rfl rfl⟩
  .rename_i q;rw [if_neg q];exact ht u e he
theorem yr7 {nt:Nat}:∀ {ps:List Tmp} {ds:List DV} {vs:List Value} {tm:Trie DV} {tmH:Trie Value},TR C tm tmH->DRs C ds vs->TR C (yl4 tm nt ps ds) (xxj tmH nt ps vs)
 | [],ds,vs,tm,tmH,ht,hd=>by cases ds<;>cases vs<;>exact ht
 | p::ps,[],vs,tm,tmH,ht,hd=>by
  have:vs=[]:=tzy hd.1;subst this;exact ht
 | p::ps,d::ds,[],tm,tmH,ht,hd=>by have:=hd.1;simp at this
 | p::ps,d::ds,v::vs,tm,tmH,ht,hd=>by
  exact yr7 (ps:=ps) (ds:=ds) (vs:=vs) (ht.put (hd.2 0 _ _ rfl rfl)) ⟨by have:=hd.1;simpa using this,λi a b h1 h2=>hd.2 (i+1) a b h1 h2⟩
theorem zo7 (hr:HR C) (ht:TR C tm tmH):∀ {rs:List ResultVar} {ds:List DV},zyn C.D P tm rs=some ds->∃ vs,zvm P C.H tmH rs=some vs/\DRs C ds vs
 | [],ds,h=>by
  simp only [zyn,tza] at h;subst h;exact ⟨[],rfl,rfl,λi d v h=>by simp at h⟩
 | .tmp t::l,ds,h=>by
  simp only [zyn] at h;split at h
  .rename_i d hd;obtain ⟨ds',h1,rfl⟩:=tzf.1 h;obtain ⟨v,g1,g2⟩:=ht t d hd;obtain ⟨vs,g3,g4,g5⟩:=zo7 hr ht h1;refine ⟨v::vs,by simp only [zvm,g3,g1,tye],by simp [g4],λi a b h1 h2=>?_⟩;cases i with
   | zero=>simp at h1 h2;subst h1 h2;exact g2
   | succ i=>exact g5 i a b (by simpa using h1) (by simpa using h2)
  .cases h
 | .cell a t::l,ds,h=>by
  simp only [zyn] at h;split at h
  .rename_i d hd;obtain ⟨ds',h1,rfl⟩:=tzf.1 h;obtain ⟨p,p1,p2⟩:=tzh.1 hd;obtain ⟨n,n1,n2⟩:=tzh.1 p2;obtain ⟨vp,g1,g2⟩:=ht a p p1;obtain ⟨b,off,v,q1,q2,q3⟩:=yyg hr n1 g2 n2;obtain ⟨vs,g3,g4,g5⟩:=zo7 hr ht h1;refine ⟨v::vs,by simp only [zvm,g1,tye,q1,q2,g3],by simp [g4],λi a b h1 h2=>?_⟩;cases i with
   | zero=>simp at h1 h2;subst h1 h2;exact q3
   | succ i=>exact g5 i a b (by simpa using h1) (by simpa using h2)
  .cases h
theorem xvd {ds:List DV} {vs:List Value} (h:DRs C ds vs):DR C (ysp ds) (zji vs):=by
 match ds,vs,h with
 | [],[],h=>exact .tup h.1 h.2
 | [d],[v],h=>exact h.2 0 d v rfl rfl
 | a::b::l,x::y::m,h=>exact .tup h.1 h.2
 | [],_::_,h=>exact absurd h.1 (by simp)
 | [_],[],h=>exact absurd h.1 (by simp)
 | [_],_::_::_,h=>exact absurd h.1 (by simp)
 | _::_::_,[],h=>exact absurd h.1 (by simp)
 | _::_::_,[_],h=>exact absurd h.1 (by simp)
theorem yda {d d':DV} {is:List Nat} {D:DH} (h:zmz base D d=some (d',is)):∃ x,d'=.f x:=by
 unfold zmz at h;obtain ⟨⟨x,i⟩,_,f2⟩:=tzf.1 h;simp only [tzl] at f2;exact ⟨x,f2.1.symm⟩
theorem zo8 {g:DV->Option (DV×List Nat)} {L:Nat} (hg:∀ d d' is,g d=some (d',is)->below L d'=true):∀ {l xs:List DV} {is:List Nat},zc5 g l=some (xs,is)->zzo L xs=true
 | [],xs,is,h=>by
  simp only [zc5,tza,tzl] at h;obtain ⟨rfl,_⟩:=h;rfl
 | d::l,xs,is,h=>by
  simp only [zc5] at h;split at h
  .rename_i x i hx;split at h
   .rename_i xs' is' hl;simp only [tza,tzl] at h;obtain ⟨rfl,_⟩:=h;simp only [zzo,tzc];exact ⟨hg _ _ _ hx,zo8 hg hl⟩
   .cases h
  .cases h
theorem zhg {L:Nat} {d d':DV} {is:List Nat} {D:DH} (h:zc6 base D d=some (d',is)):below L d'=true:=by
 unfold zc6 at h;split at h
 .split at h
  .obtain ⟨⟨xs,i⟩,f1,f2⟩:=tzf.1 h;simp only [tzl] at f2;obtain ⟨rfl,_⟩:=f2;exact zo8 (λd d' is h=>by obtain ⟨x,rfl⟩:=yda h;rfl) f1
  .cases h
 .simp only [tza,tzl] at h;obtain ⟨rfl,_⟩:=h;rfl
 .obtain ⟨x,rfl⟩:=yda h;rfl
theorem yvr {L:Nat} {d d':DV} {is:List Nat} {D:DH} (h:zqx base D d=some (d',is)):below L d'=true:=by
 unfold zqx at h;split at h
 .obtain ⟨⟨xs,i⟩,f1,f2⟩:=tzf.1 h;simp only [tzl] at f2;obtain ⟨rfl,_⟩:=f2;exact zo8 (λd d' is h=>zhg h) f1
 .exact zhg h
theorem yk2 {d d':DV} {is:List Nat} {D:DH} (h:zqx base D d=some (d',is)):∀ o∈is,base<=o:=by
 unfold zqx at h;split at h
 .obtain ⟨⟨xs,i⟩,f1,f2⟩:=tzf.1 h;simp only [tzl] at f2;obtain ⟨_,rfl⟩:=f2;obtain ⟨g1,g2,g3⟩:=zru f1;intro o ho;obtain ⟨e,_,x,ids,a,b⟩:=g3 o ho;exact (zlf a o b).1
 .exact λo ho=>(zlf h o ho).1
theorem zki (hN:∀ (g:FuncId) (fn:Func),Q.P.funcs[g]? =some fn->(fn.name== "runtime.NumGoroutine")=false) {ev:zn5} (hev:∀ K c s x s',ev K c s=some (x,s')->xxw Q tb K c s x s') {f:FuncId} {args:List DV} {D:DH} {r:DV×DH} (h:zsa Q ev f args base D=some r) :
  zbo Q.P f/\∀ (C:Ctx) (vs:List Value),C.D=D->HR C->DRs C args vs->Low C base ->
   ∃ C' v,C'.D=r.2/\HR C'/\Nx (λo=>base<=o/\(Q.ann f).raw=true) C C'/\DR C' r.1 v/\∃ N,∀ n m,N<=n->N<=m->zri Q.P m (evC Q.P (evF Q.P (zzm Q) tb n) (zzm Q) m) f vs C.H=some (v,C'.H):=by
 unfold zsa at h;split at h;rotate_left
 .cases h
 rename_i fn hfn;split at h;rotate_left
 .cases h
 rename_i c hc;split at h;rotate_left
 .cases h
 rename_i hlen;refine ⟨⟨fn,c,hfn,hc,hN f fn hfn⟩,λC vs hD hr hargs hlow=>?_⟩;subst hD;have hlenH:Nat.ble vs.length fn.ntmps=true:=by rw [txw,hargs.1];exact hlen
 have run:∀ (b0:Nat) (args':List DV) (x:BX) (s:SD) (l:List DV),DRs C args' vs->Low C b0->(x=.nrm∨x=.ret)->ev ⟨f,fn.ntmps,none,b0,Q.ann f⟩ c ⟨zo4 .leaf 0 args',C.D⟩=some (x,s)->zyn s.D Q.P s.tm fn.results.toList=some l ->
   ∃ C2 v,C2.D=s.D/\HR C2/\Nx (λo=>b0<=o) C C2/\DR C2 (ysp l) v/\∃ N,∀ n m,N<=n->N<=m->zri Q.P m (evC Q.P (evF Q.P (zzm Q) tb n) (zzm Q) m) f vs C.H=some (v,C2.H):=by
  intro b0 args' x s l ha hlow0 hx he hl
  have pre:Pre ⟨f,fn.ntmps,none,b0,Q.ann f⟩ C ⟨zo4 .leaf 0 args',C.D⟩ ⟨yz1 .leaf 0 vs,[],C.H⟩ C.H.n ⟨f,fn.ntmps,none⟩:=
   ⟨rfl,hr,yyt (λt d hd=>by simp at hd) ha,rfl,hlow0,⟨[],rfl,List.nodup_nil,λb hb=>(by cases hb)⟩,tzp _,⟨rfl,rfl,λ_=>rfl,λl hl=>by cases hl⟩⟩
  obtain ⟨C1,sH,b1,b2,b3,b4,b5,b6,_,N,b7⟩:=(hev _ _ _ _ _ he C _ _ _ pre).ex
  obtain ⟨bs,m1,m2,m3⟩:=b6
  obtain ⟨C2,u1,u2,u3⟩:=zkd (n0:=C.H.n) bs b2 (m:=bs.length+1) m2 m3 (by omega)
  have nx2:Nx (λo=>b0<=o) C C2:=b3.off u3 hr (tzp _)
  have tr2:TR C2 s.tm sH.tm:=λt d hd=>by
   obtain ⟨v,q1,q2⟩:=b4 t d hd
   exact ⟨v,q1,u3.dr b2 q2⟩
  have hD2:C2.D=s.D:=u3.D.trans b1
  rw [<-hD2] at hl
  obtain ⟨rs,r1,r2⟩:=zo7 u2 tr2 hl
  refine ⟨C2,zji rs,hD2,u2,nx2,xvd r2,max N (bs.length+1),λn m hn hm=>?_⟩
  unfold zri
  simp only [hfn,hc,hlenH]
  rw [b7 n m (by omega) (by omega)]
  have hun:zwb m sH.ds sH.H=some C2.H:=by
   obtain ⟨C2',v1,v2,v3⟩:=zkd (n0:=C.H.n) bs b2 (m:=m) m2 m3 (by omega)
   have mono:∀ (bs:List Nat) (k k':Nat) (H H2:Hp),k<=k'->zwb k (bs.map (λb=>({ target:=.collected b,args:=#[] }:Deferred))) H=some H2->(∀ b∈bs,H.get b=some (.defs (some [])))->bs.Nodup->zwb k' (bs.map (λb=>({ target:=.collected b,args:=#[] }:Deferred))) H=some H2:=by
    intro bs
    induction bs with
    | nil=>
     intro k k' H H2 hk hu _ _
     cases k with
     | zero=>simp [zwb] at hu
     | succ k=>
      obtain ⟨k',rfl⟩:∃ j,k'=j+1:=⟨k'-1,by omega⟩
      exact hu
    | cons b bs ih=>
     intro k k' H H2 hk hu hb hd
     obtain ⟨hd1,hd2⟩:=List.nodup_cons.1 hd
     cases k with
     | zero=>simp [zwb] at hu
     | succ k=>
      obtain ⟨k',rfl⟩:∃ j,k'=j+1:=⟨k'-1,by omega⟩
      have hb0:=hb b (tz0 ..)
      have e:∀ j,zwb (j+1) ((b::bs).map (λb=>({ target:=.collected b,args:=#[] }:Deferred))) H=zwb j (bs.map (λb=>({ target:=.collected b,args:=#[] }:Deferred))) (H.put b (.defs none)):=λj=>by
       show (match H.get b with
        | some (.defs (some l))=>zwb j (l++bs.map (λb=>({ target:=.collected b,args:=#[] }:Deferred))) (H.put b (.defs none))
        | _=>none)=_
       rw [hb0];rfl
      rw [e] at hu ⊢
      refine ih k k' _ _ (by omega) hu (λp hp=>?_) hd2
      simp only [Hp.get_put]
      rw [if_neg (λq=>hd1 (by rw [<-q];exact hp))]
      exact hb p (tzq _ hp)
   rw [m1,b5]
   exact mono bs _ m _ _ (by omega) u1 (λb hb=>(m3 b hb).2) m2
  have hend:ysg Q.P m f sH=some (zji rs,C2.H):=by
   unfold ysg
   rw [hun]
   simp only
   unfold zuh
   simp only [hfn,r1,tz2]
  rcases hx with rfl | rfl
  .exact hend
  .exact hend
 split at h
 .rename_i hraw;cases he:ev ⟨f,fn.ntmps,none,base,Q.ann f⟩ c ⟨zo4 .leaf 0 args,C.D⟩ with
  | none=>rw [he] at h;simp [zed] at h
  | some q=>
   obtain ⟨x,s⟩:=q;rw [he] at h;simp only [zed] at h
   have hx:(x=.nrm∨x=.ret)/\∃ l,zyn s.D Q.P s.tm fn.results.toList=some l/\r=(ysp l,s.D):=by
    cases x with
    | exit id=>cases h
    | nrm=>
     grind
    | ret=>
     grind
   obtain ⟨hx,l,hl,rfl⟩:=hx;obtain ⟨C2,v,a1,a2,a3,a4,a5⟩:=run base args x s l hargs hlow hx he hl;exact ⟨C2,v,a1,a2,a3.weak (λo ho=>⟨ho,hraw⟩),a4,a5⟩
 rename_i hraw;cases he:ev ⟨f,fn.ntmps,none,C.D.length,Q.ann f⟩ c ⟨zo4 .leaf 0 (args.map zva),C.D⟩ with
 | none=>rw [he] at h;simp [zed] at h
 | some q=>
  obtain ⟨x,s⟩:=q;rw [he] at h;simp only [zed] at h
  have hx:(x=.nrm∨x=.ret)/\∃ l d' is,zyn s.D Q.P s.tm fn.results.toList=some l/\zqx C.D.length s.D (ysp l)=some (d',is)/\r=(d',s.D.take C.D.length):=by
   cases x with
   | exit id=>cases h
   | nrm=>
    simp only at h;split at h
    .rename_i l hl;obtain ⟨⟨d',is⟩,f1,f2⟩:=tzf.1 h;exact ⟨.inl rfl,l,d',is,hl,f1,f2.symm⟩
    .cases h
   | ret=>
    simp only at h;split at h
    .rename_i l hl;obtain ⟨⟨d',is⟩,f1,f2⟩:=tzf.1 h;exact ⟨.inr rfl,l,d',is,hl,f1,f2.symm⟩
    .cases h
  obtain ⟨hx,l,d',is,hl,hf,rfl⟩:=hx
  have hargs':DRs C (args.map zva) vs:=⟨by rw [hargs.1];simp,λi d v h1 h2=>by
   simp only [tzr] at h1
   obtain ⟨e,he,rfl⟩:=tzf.1 h1
   exact yky (hargs.2 i e v he h2)⟩
  have hlow0:=hr.low;obtain ⟨C2,v,a1,a2,a3,a4,N,a5⟩:=run C.D.length (args.map zva) x s l hargs' hlow0 hx he hl;rw [<-a1] at hf;obtain ⟨C3,c1,c2,c3,c4,c5,c6⟩:=zgi a2 a4 hf;have nx3:=a3.trans c5;have low3:=hlow0.nx nx3;have hr4:=c4.take (L:=C.D.length) nx3.len (λo x ho hx=>low3.2 o x ho hx);have nx4:=nx3.take (tzp _) nx3.len;have hD4:C3.D.take C.D.length=s.D.take C.D.length:=(by rw [c2,zeq (yk2 hf),a1]);refine ⟨⟨C3.σ,C3.S,C3.H,C3.D.take C.D.length⟩,v,hD4,hr4,⟨nx4.n,nx4.S,nx4.len,nx4.get,nx4.stk,nx4.evo,nx4.own,nx4.cls,λo ho _=>nx4.kp o ho (by omega)⟩,?_,N,λn m hn hm=>?_⟩
  .exact c6.take (C:=C3) (C':=⟨C3.σ,C3.S,C3.H,C3.D.take C.D.length⟩) (L:=C.D.length) ⟨rfl,rfl⟩ (λ_ _=>rfl) (λo ho=>by simp [tyb,ho]) (by have:=nx3.len;simp;omega) (yvr hf)
  .rw [a5 n m hn hm,c1]
end Go.Dv
namespace Go.Dv
open Go Go.Sim
variable {W:Nat->Prop} {C C' C'':Ctx} {P:Program} {tm:Trie DV} {tmH:Trie Value} {base:Nat} {Q:Par} {tb:Sub}
theorem zvg {H:Hp} {l:Nat} {r:ALoop} (h:H.get l=some (.loop r)):zxn H l=some r:=by
 unfold zxn;rw [h]
theorem HR.putLoop (hr:HR C) {l:Nat} {st st':LoopState} {p p':Option Code} {K:KD} {tm:Trie DV} {ps:Array Tmp} {asg body:Code} (h:C.D[l]? =some (.loop st p K tm ps asg body)) :
  ∃ tmH dn C',C.H.get (C.σ l)=some (.loop ⟨st,p,K.fn,tmH,K.nt,ps,asg,body,dn⟩)/\TR C tm tmH/\C'.H=C.H.put (C.σ l) (.loop ⟨st',p',K.fn,tmH,K.nt,ps,asg,body,dn⟩)/\C'.D=C.D.set l (.loop st' p' K tm ps asg body)/\HR C'/\Nx (λq=>q=l) C C'/\C'.σ=C.σ:=by
 obtain ⟨tmH,dn,g1,g2,g3⟩:=hr.ob l _ h
 obtain ⟨C',a1,a2,a3,a4,a5,a6⟩:=hr.put (x':=.loop st' p' K tm ps asg body) (B:=.loop ⟨st',p',K.fn,tmH,K.nt,ps,asg,body,dn⟩) h (λe s l h=>by simp at h) (λe s l h=>by simp at h) rfl (λc e k h=>by simp at h)
  (λC' nx hg hσ=>⟨tmH,dn,hg,g2.mono nx hr,g3⟩)
 exact ⟨tmH,dn,C',g1,g2,a1,a2,a4,a5,a6⟩
theorem zbt {prev:zn5} (hp:∀ K c s x s',prev K c s=some (x,s')->xxw Q tb K c s x s'):xn6 Q tb (zta prev):=by
 intro l args base D r h C vs hD hr hargs hlow;subst hD;unfold zta at h;split at h;rotate_left
 .cases h
 rename_i st p K tm ps asg body hl;split at h;rotate_left
 .cases h
 rename_i hc;obtain ⟨c1,rfl,c3⟩:=hc;obtain ⟨tmH,dn,g1,g2,g3⟩:=hr.ob l _ hl;have hll:=zyr hl;split at h;rotate_left
 .cases h
 rename_i s1 hs1;split at h;rotate_left
 .cases h
 rename_i p' K' tm' ps' asg' body' hl1;split at h;rotate_left
 .cases h
 rename_i x s2 hs2;split at h;rotate_left
 .cases h
 rename_i st2 p2 K2 tm2 ps2 asg2 body2 hl2
 -- the assignment
 have pre1:Pre ⟨K.fn,K.nt,some l,K.base,K.an⟩ C ⟨yl4 tm K.nt ps.toList args,C.D⟩ ⟨xxj tmH K.nt ps.toList vs,[],C.H⟩ C.H.n ⟨K.fn,K.nt,some (C.σ l)⟩:=
  ⟨rfl,hr,yr7 g2 hargs,rfl,hlow,⟨[],rfl,List.nodup_nil,λb hb=>(by cases hb)⟩,tzp _,⟨rfl,rfl,λh=>(by cases h),λl' hl'=>by
   simp_all⟩⟩
 obtain ⟨C1,sH1,b1,b2,b3,b4,b5,b6,b7,N1,b8⟩:=(hp _ _ _ _ _ hs1 C _ _ _ pre1).ex;have hds1:sH1.ds=[]:=b7 (by simp);rw [<-b1] at hl1 hs2;have hσ1:=(b3.loop hll (by rw [hl1];rfl)).2;obtain ⟨tmH1,dn1,C1b,e1,e2,e3,e4,e5,e6,e7⟩:=b2.putLoop (st':=.busy) (p':=p') hl1;rw [hσ1] at e1 e3;have nx1b:Nx (λo=>K.base<=o) C C1b:=b3.trans (e6.weak (λq hq=>by subst hq;exact c3))
 -- the body
 have pre2:Pre ⟨K.fn,K.nt,some l,K.base,K.an⟩ C1b ⟨s1.tm,C1.D.set l (.loop .busy p' K' tm' ps' asg' body')⟩ ⟨sH1.tm,[],C1b.H⟩ C1b.H.n ⟨K.fn,K.nt,some (C.σ l)⟩:=
  ⟨e4,e5,b4.mono e6 b2,rfl,hlow.nx nx1b,⟨[],rfl,List.nodup_nil,λb hb=>(by cases hb)⟩,tzp _,⟨rfl,rfl,λh=>(by cases h),λl' hl'=>by
   grind⟩⟩
 obtain ⟨C2,sH2,d1,d2,d3,d4,d5,d6,d7,N2,d8⟩:=(hp _ _ _ _ _ hs2 C1b _ _ _ pre2).ex;rw [<-d1] at hl2 h;have nx2:Nx (λo=>K.base<=o) C C2:=nx1b.trans d3;have hσ2:=(nx2.loop hll (by rw [hl2];rfl)).2
 have fin:∀ (st':LoopState) (p':Option Code) (bv:Bool),r=(rv (.bool bv),C2.D.set l (.loop st' p' K2 tm2 ps2 asg2 body2))->(∀ H r',zxn H (C.σ l)=some r'->zw5 H (C.σ l) (ywq x)=some (.bool bv,H.put (C.σ l) (.loop ⟨st',p',r'.fn,r'.tm,r'.nt,r'.params,r'.assign,r'.body,r'.defers⟩))) ->
   ∃ C' v,C'.D=r.2/\HR C'/\Nx (λo=>K.base<=o) C C'/\DR C' r.1 v/\∃ N,∀ n m,N<=n->N<=m->zt8 (evC Q.P (evF Q.P (zzm Q) tb n) (zzm Q) m) (C.σ l) vs C.H=some (v,C'.H):=by
  intro st' p' bv hre hend
  subst hre
  obtain ⟨tmH2,dn2,C3,f1,f2,f3,f4,f5,f6,f7⟩:=d2.putLoop (st':=st') (p':=p') hl2
  rw [hσ2] at f1 f3
  refine ⟨C3,.bool bv,f4,f5,nx2.trans (f6.weak (λq hq=>by subst hq;exact c3)),zv0 _,max N1 N2,λn m hn hm=>?_⟩
  unfold zt8
  rw [zvg g1]
  simp only
  rw [show Nat.beq vs.length ps.toList.length=true by rw [hargs.1,c1];simp]
  simp only
  rw [b8 n m (by omega) (by omega)]
  simp only
  have hb:ywr sH1.H (C.σ l)=some C1b.H:=by
   unfold ywr
   rw [b5,zvg e1,e3]
  rw [hb,hds1]
  simp only
  rw [d8 n m (by omega) (by omega)]
  simp only
  rw [d5,hend _ _ (zvg f1),f3]
 have er:∀ (H:Hp) (r':ALoop),zxn H (C.σ l)=some r'->zw5 H (C.σ l) none=some (.bool true,H.put (C.σ l) (.loop ⟨.ready,none,r'.fn,r'.tm,r'.nt,r'.params,r'.assign,r'.body,r'.defers⟩)) /\
   ∀ j,zw5 H (C.σ l) (some j)=some (.bool false,H.put (C.σ l) (.loop ⟨.done,some j,r'.fn,r'.tm,r'.nt,r'.params,r'.assign,r'.body,r'.defers⟩)):=λH r' hr'=>by
  unfold zw5
  rw [hr']
  exact ⟨rfl,λj=>rfl⟩
 cases x with
 | nrm=>
  simp only [tza] at h;exact fin .ready none true h.symm (λH r' hr'=>(er H r' hr').1)
 | ret=>
  simp only [tza] at h;exact fin .done (some .ret) false h.symm (λH r' hr'=>(er H r' hr').2 _)
 | exit id=>
  simp only [tza] at h;exact fin .done (some (.exit id)) false h.symm (λH r' hr'=>(er H r' hr').2 _)
theorem HR.newDefs (hr:HR C):∃ C',C'.H=C.H.new (.defs (some []))/\C'.D=C.D/\C'.σ=C.σ/\HR C'/\Nx (λ_=>False) C C':=by
 have u:Upd C.D.length C ⟨C.σ,C.S,C.H.new (.defs (some [])),C.D⟩:=
  {
   n:=by simp
   S:=rfl
   wf:=by
    refine ⟨λi B' h=>?_,λi c e k h=>?_⟩
    .simp only [Hp.get_new,Hp.n_new] at h ⊢
     split at h
     .omega
     .have:=hr.wf.dom i B' h;omega
    .simp only [Hp.get_new,Hp.n_new] at h ⊢
     split at h
     .simp at h
     .have:=hr.wf.cls i c e k h;omega
   len:=tzp _
   D:=λ_ _=>rfl
   σ:=λ_ _=>rfl
   get:=λb hb _=>by simp only [Hp.get_new];rw [if_neg (by omega)]
   stk:=λk _ _=>by simp
   evo:=λx' h=>absurd h (tyr _)
   own:=λb g=>by
    obtain ⟨y,h1,h2,h3⟩:=g
    have:=zyr h1
    simp at this
   cls:=λk g=>by
    rcases g with ⟨e,sz,els,cs,e',h1,h2,h3⟩ | ⟨e,sz,ctr,L,h1,h2⟩
    .have:=zyr h1
     simp at this
    .have:=zyr h1
     simp at this }
 have nx0:=u.nx hr;exact ⟨⟨C.σ,C.S,C.H.new (.defs (some [])),C.D⟩,rfl,rfl,rfl,u.hr hr (λy hy=>by have:=zyr hy;simp at this),⟨nx0.n,nx0.S,nx0.len,nx0.get,nx0.stk,nx0.evo,nx0.own,nx0.cls,λo ho _=>nx0.kp o ho (by omega)⟩⟩
theorem ycx {p:Option Code} {tm:Trie DV} {D:DH} {x:BX} {s':SD} (h:zbe p ⟨tm,D⟩=some (x,s')):s'=⟨tm,D⟩/\∀ sH:St,ylq p sH=some (x,sH):=by
 unfold zbe at h;split at h
 .simp only [tza,tzl] at h;obtain ⟨rfl,rfl⟩:=h;exact ⟨rfl,λsH=>rfl⟩
 .simp only [tza,tzl] at h;obtain ⟨rfl,rfl⟩:=h;exact ⟨rfl,λsH=>rfl⟩
 .simp only [tza,tzl] at h;obtain ⟨rfl,rfl⟩:=h;exact ⟨rfl,λsH=>rfl⟩
 .cases h
theorem zbu (hN:∀ (g:FuncId) (fn:Func),Q.P.funcs[g]? =some fn->(fn.name== "runtime.NumGoroutine")=false) {prev:zn5} (hp:∀ K c s x s',prev K c s=some (x,s')->xxw Q tb K c s x s') {K:KD} {f:Operand} {ps:Array Tmp} {asg body:Code} {s s':SD} {x:BX}
  (h:zl7 Q prev K f ps asg body s=some (x,s')):xq3 Q tb K (.rangeFunc f ps asg body) s x s':=by
 intro C sH n0 kh pre;obtain ⟨hD,hr,ht,hH,hlow,hmk,hn0,hro⟩:=pre;obtain ⟨stm,sD⟩:=s;simp only at hD ht;subst hD;unfold zl7 at h;split at h;rotate_left
 .cases h
 rename_i g a b hf;obtain ⟨vf,f1,f2⟩:=zzu (P:=Q.P) ht hf;split at h;rotate_left
 .cases h
 rename_i hraw;simp only [tzc] at hraw;obtain ⟨hraw,hrok,_⟩:=hraw;cases hfr:zsa Q prev g (a++[.yl C.D.length]++b) K.base (C.D++[.loop .ready none K stm ps asg body]) with
 | none=>rw [hfr] at h;simp [zx5] at h
 | some q=>
  obtain ⟨rd,rD⟩:=q;rw [hfr] at h;obtain ⟨hgood,hfs⟩:=zki (tb:=tb) hN hp hfr;cases f2 with
  | @fn _ _ _ as bs hla hlb q1 q2=>
   -- the rest, once the mark and the record are there
   have rest:∀ (C1:Ctx) (mark:List Deferred) (dn:Nat),C1.D=C.D->HR C1->Nx (λ_=>False) C C1->zeo n0 C1.H (mark++sH.ds)->(K.ro≠none->mark=[])->n0<=C1.H.n ->
     zww kh.fn sH.tm kh.nt ps asg body kh.ro sH.H=some (mark,C1.H.new (.loop ⟨.ready,none,K.fn,sH.tm,K.nt,ps,asg,body,dn⟩)) ->
     Comes Q K C n0 sH.ds s' λsH'=>∃ N,∀ n m,N<=n->N<=m->evS Q.P (evF Q.P (zzm Q) tb n) (zzm Q) m (evC Q.P (evF Q.P (zzm Q) tb n) (zzm Q) m) kh (.rangeFunc f ps asg body) sH=some (x,sH'):=by
    intro C1 mark dn e1 e2 e3 e4 e5 e6 e7
    have ht1:=ht.mono e3 hr
    obtain ⟨C2,a1,a2,a3,a4,a5,a6⟩:=e2.new (B:=.loop ⟨.ready,none,K.fn,sH.tm,K.nt,ps,asg,body,dn⟩) (x:=.loop .ready none K stm ps asg body) (λc e k h=>by simp at h) (λe s l h=>by simp at h)
     (λC' nx hg=>⟨sH.tm,dn,hg,ht1.mono nx e2,λt d hd=>by obtain ⟨v,_,q⟩:=ht1 t d hd;exact q.lows⟩)
    rw [e1] at a2 a6
    have nx2:Nx (λ_=>False) C C2:=e3.trans a5
    have hyl:DR C2 (.yl C.D.length) (.func (.yield C1.H.n) #[] #[]):=.yl (by rw [a2];simp) rfl (λ_ _ _ _ _ _ _ _=>by rw [a6])
    have hargs:DRs C2 (a++[.yl C.D.length]++b) (as++[.func (.yield C1.H.n) #[] #[]]++bs):=
     DRs.append (DRs.append (DRs.mono nx2 hr ⟨hla,q1⟩) ⟨rfl,λi d v h1 h2=>by
      grind⟩) (DRs.mono nx2 hr ⟨hlb,q2⟩)
    obtain ⟨C3,v,b1,b2,b3,b4,N,b5⟩:=hfs C2 _ a2 a4 hargs (hlow.nx (nx2.weak (λ_ h=>h.elim)))
    simp only at b1
    subst b1
    simp only [zx5] at h
    split at h
    .rename_i st p K3 tm3 ps3 asg3 body3 hl3
     have hl2:C.D.length<C2.D.length:=by rw [a2];simp
     have hσ3:=(b3.loop hl2 (by rw [hl3];rfl)).2
     rw [a6] at hσ3
     have hst:st≠.busy:=λq=>by subst q;simp at h
     have hj:zbe p ⟨stm,C3.D.set C.D.length .dead⟩=some (x,s'):=by
      simp_all
     obtain ⟨rfl,hjB⟩:=ycx hj
     obtain ⟨tmH3,dn3,C4,d1,d2,d3,d4,d5,d6,d7⟩:=b2.putLoop (st':=.exhausted) (p':=p) hl3
     rw [hσ3] at d1 d3
     obtain ⟨C5,k1,k2,k3,k4,k5,k6⟩:=d5.drop1 C.D.length
     have hbl:K.base<=C.D.length:=hlow.1
     have nx35:Nx (λo=>K.base<=o) C3 C5:=(d6.weak (λq hq=>by subst hq;exact hbl)).trans (k5.weak (λq hq=>by subst hq;exact hbl))
     have nx5:Nx (λo=>K.base<=o) C C5:=(nx2.weak (λ_ h=>h.elim)).trans ((b3.weak (λ_ h=>h.1)).trans nx35)
     have mk5:zeo n0 C5.H (mark++sH.ds):=((e4.nx e2 a5).nx a4 b3).nx b2 nx35
     refine ⟨C5,⟨sH.tm,mark++sH.ds,C5.H⟩,?_,k4,nx5,ht.mono nx5 hr,rfl,mk5,λhro'=>by rw [e5 hro'];rfl,N,λn m hn hm=>?_⟩
     .rw [k2,d4,List.set_set]
     .show zia Q.P m _ kh f ps asg body sH=_
      unfold zia
      rw [e7]
      simp only [f1]
      have hpred:Nat.pred (C1.H.new (.loop ⟨.ready,none,K.fn,sH.tm,K.nt,ps,asg,body,dn⟩)).n=C1.H.n:=by simp
      rw [hpred]
      have hinv:zq8 Q.P [.func (.yield C1.H.n) #[] #[]] (.func (.func g) ⟨as⟩ ⟨bs⟩)=some (.enter g (as++[.func (.yield C1.H.n) #[] #[]]++bs)):=yym hgood
      rw [hinv]
      simp only
      rw [<-a1,b5 n m hn hm]
      unfold zny
      simp only
      rw [zvg d1]
      simp only
      rw [show ylq p ⟨sH.tm,mark++sH.ds,C3.H.put C1.H.n (.loop ⟨.exhausted,p,K3.fn,tmH3,K3.nt,ps3,asg3,body3,dn3⟩)⟩=some (x,⟨sH.tm,mark++sH.ds,C5.H⟩) by rw [k1,d3];exact hjB _]
      first | done | (cases st<;>first | rfl | exact absurd rfl hst)
    .cases h
   cases hKro:K.ro with
   | none=>
    obtain ⟨C1,a1,a2,a3,a4,a5⟩:=hr.newDefs;obtain ⟨bs0,m1,m2,m3⟩:=hmk;refine rest C1 [{ target:=.collected C.H.n,args:=#[] }] C.H.n a2 a4 a5 ⟨C.H.n::bs0,by rw [m1];rfl,List.nodup_cons.2 ⟨λhm=>?_,m2⟩,λp hp=>?_⟩ (λq=>absurd hKro q) (by rw [a1];simp;omega) ?_
    .have:=hr.wf.dom _ _ (m3 _ hm).2;omega
    .rcases tzu.1 hp with rfl | hp
     .exact ⟨hn0,by rw [a1];simp⟩
     .simp_all
    .unfold zww;rw [hro.no hKro,hH,a1,hro.fn,hro.nt]
   | some l=>
    obtain ⟨bl,g1,g2,g3⟩:=hro.so l hKro;have hlp:zl6 C.D[l]? =true:=(by unfold xxv at hrok;rw [hKro] at hrok;exact hrok);obtain ⟨st,p,K',tm',ps',a',b',hx⟩:=zes hlp;obtain ⟨tmH',dn',k1,_⟩:=hr.ob l _ hx;rw [g3 hlp] at k1;refine rest C [] dn' rfl hr (Nx.refl hr) hmk (λ_=>rfl) hn0 ?_;unfold zww;rw [g1];simp only;rw [hH,zvg k1,hro.fn,hro.nt]
theorem yvs {K:KD} {b:Code} {keep:List Tmp} {F:SD->Option (BX×SD)} (hF:∀ s x s',F s=some (x,s')->xq3 Q tb K b s x s') {C0:Ctx} {n0:Nat} {kh:FK} (hr0:HR C0) (hlow0:Low C0 K.base) (hn0:n0<=C0.H.n) (hro:ROK C0 K kh) :
  ∀ (k:Nat) (s:SD) (x:BX) (s':SD),lpD (zec keep K.an.long K.base C0.D.length) F k s=some (x,s')->∀ (C:Ctx) (sH:St),C.D=s.D->HR C->Nx (λo=>K.base<=o) C0 C->TR C s.tm sH.tm->sH.H=C.H->zeo n0 C.H sH.ds ->
   Comes Q K C0 n0 sH.ds s' λsH'=>∃ N,∀ n m j,N<=n->N<=m->N<=j->zmw (evS Q.P (evF Q.P (zzm Q) tb n) (zzm Q) m (evC Q.P (evF Q.P (zzm Q) tb n) (zzm Q) m) kh b) j sH=some (x,sH'):=by
 intro k
 induction k with
 | zero=>intro s x s' h;simp [lpD] at h
 | succ k ih=>
  intro s x s' h C sH hD hr nx ht hH hmk;simp only [lpD] at h;split at h;rotate_left
  .cases h
  rename_i s1 hs1;obtain ⟨C1,a1,a2,a3,a4,a5⟩:=ycu (base:=K.base) hr hD ht (hlow0.nx nx) nx hs1;have pre:Pre K C1 s1 sH n0 kh:=⟨a2,a3,a5,by rw [hH,a1],hlow0.nx a4,by rw [a1];exact hmk,by have:=a4.n;omega,hro.nx a4⟩;split at h
  .rename_i s2 hs2;obtain ⟨C2,sH2,b1,b2,b3,b4,b5,b6,b7,N1,b8⟩:=(hF _ _ _ hs2 C1 sH n0 kh pre).ex;obtain ⟨C3,sH3,c1,c2,c3,c4,c5,c6,c7,N2,c8⟩:=(ih s2 x s' h C2 sH2 b1 b2 (a4.trans b3) b4 b5 b6).ex;refine ⟨C3,sH3,c1,c2,c3,c4,c5,c6,λq=>(c7 q).trans (b7 q),max N1 N2+1,λn m j hn hm hj=>?_⟩;obtain ⟨j,rfl⟩:∃ i,j=i+1:=⟨j-1,by omega⟩
   show (match evS Q.P _ _ m _ kh b sH with
    | some (.nrm,s')=>zmw _ j s'
    | r=>r)=_
   rw [b8 n m (by omega) (by omega)];exact c8 n m j (by omega) (by omega) (by omega)
  .rename_i hne;obtain ⟨C2,sH2,b1,b2,b3,b4,b5,b6,b7,N1,b8⟩:=(hF _ _ _ h C1 sH n0 kh pre).ex;refine ⟨C2,sH2,b1,b2,a4.trans b3,b4,b5,b6,b7,N1+1,λn m j hn hm hj=>?_⟩;obtain ⟨j,rfl⟩:∃ i,j=i+1:=⟨j-1,by omega⟩
   show (match evS Q.P _ _ m _ kh b sH with
    | some (.nrm,s')=>zmw _ j s'
    | r=>r)=_
   rw [b8 n m (by omega) (by omega)];cases x with
   | nrm=>exact absurd h (hne _)
   | ret=>rfl
   | exit id=>rfl
theorem yk3 (hN:∀ (g:FuncId) (fn:Func),Q.P.funcs[g]? =some fn->(fn.name== "runtime.NumGoroutine")=false) {sub:zo1} {prev:zn5} (hsub:∀ f a b D r,sub f a b D=some r->Snd Q tb f a b D r) (hp:∀ K c s x s',prev K c s=some (x,s')->xxw Q tb K c s x s') {K:KD}
  (hpl:∀ id q,zym id K.an.pl=some q->zzm Q K.fn id=some q):∀ (c:Code) (w:Nat) (s:SD) (x:BX) (s':SD),evD Q sub prev K w c s=some (x,s')->xq3 Q tb K c s x s':=by
 have here:∀ {C sH n0 kh s} (x:BX) (c:Code),Pre K C s sH n0 kh->(∀ n m,evS Q.P (evF Q.P (zzm Q) tb n) (zzm Q) m (evC Q.P (evF Q.P (zzm Q) tb n) (zzm Q) m) kh c sH=some (x,sH))->Comes Q K C n0 sH.ds s λsH'=>∃ N,∀ n m,N<=n->N<=m->evS Q.P (evF Q.P (zzm Q) tb n) (zzm Q) m (evC Q.P (evF Q.P (zzm Q) tb n) (zzm Q) m) kh c sH=some (x,sH'):=
  λ{C sH n0 kh s} x c pre he=>⟨C,sH,pre.D,pre.hr,Nx.refl pre.hr,pre.tr,pre.H,pre.marks,λ_=>rfl,0,λn m _ _=>he n m⟩
 intro c
 induction c with
 | skip=>
  intro w s x s' h C sH n0 kh pre;simp only [evD,tza,tzl] at h;obtain ⟨rfl,rfl⟩:=h;exact here .nrm .skip pre (λ_ _=>rfl)
 | region id ops dr=>
  intro w s x s' h C sH n0 kh pre;cases dr with
  | false=>
   simp only [evD] at h;split at h
   .rename_i s1 hg;obtain ⟨C1,a1,a2,a3,a4,a5⟩:=yr6 pre.hr pre.D pre.tr hg;rw [<-a2] at h;cases ho:zxo Q.P sub (zta prev) K.base K.nt ops.toList ops.toList s1.tm C1.D with
    | none=>rw [ho] at h;simp [yvb] at h
    | some q=>
     obtain ⟨tm',D'⟩:=q;rw [ho] at h;simp only [yvb,tza,tzl] at h;obtain ⟨rfl,rfl⟩:=h;obtain ⟨C2,tmH2,b1,b2,b3,b4,N,b5⟩:=yr5 hsub (zbt hp) ops.toList s1.tm sH.tm C1 a3 a5 (pre.low.nx a4) ho;have nx:=a4.trans b3;refine ⟨C2,⟨tmH2,sH.ds,C2.H⟩,b1,b2,nx,b4,rfl,pre.marks.nx pre.hr nx,λ_=>rfl,N,λn m hn hm=>?_⟩;show ysh sH.ds (zj9 _ _ Q.P kh.nt ops.toList ops.toList sH.tm sH.H)=_;rw [pre.H,<-a1,pre.ro.nt,b5 n m hn hm];rfl
   .cases h
  | true=>
   simp only [evD] at h;split at h;rotate_left
   .cases h
   rename_i s1 hg;obtain ⟨C1,a1,a2,a3,a4,a5⟩:=yr6 pre.hr pre.D pre.tr hg;split at h
   .rename_i hro;unfold ys8 at h;split at h
    .rename_i pl b hfp;split at h
     .rename_i hgp;rw [<-a2] at h;cases ho:zwp Q sub K.base K.nt ops.toList pl s1.tm C1.D [] with
      | none=>rw [ho] at h;simp [yvb] at h
      | some q=>
       obtain ⟨tm',D'⟩:=q;rw [ho] at h;simp only [yvb,tza,tzl] at h;obtain ⟨rfl,rfl⟩:=h;obtain ⟨C2,tmH2,b1,b2,b3,b4,N,b5⟩:=yvq hsub pl [] [] [] [] s1.tm sH.tm C1 hgp a3 a5 (pre.low.nx a4) (λi dep hi=>by cases hi) ho;have nx:=a4.trans b3;refine ⟨C2,⟨tmH2,sH.ds,C2.H⟩,b1,b2,nx,b4,rfl,pre.marks.nx pre.hr nx,λ_=>rfl,N,λn m hn hm=>?_⟩
       show (match kh.ro with
        | none=>ysh sH.ds (zlb (evF Q.P (zzm Q) tb n) Q.P (zzm Q) kh.fn id ops.toList sH.tm kh.nt sH.H)
        | some _=>none)=_
       rw [pre.ro.no hro];simp only;unfold zlb;rw [pre.ro.fn,hpl id _ hfp];simp only;rw [hgp];simp only;rw [pre.H,<-a1,pre.ro.nt,b5 n hn];rfl
     .cases h
    .cases h
   .cases h
 | seq a b iha ihb=>
  intro w s x s' h C sH n0 kh pre;simp only [evD] at h;cases ha:evD Q sub prev K w a s with
  | none=>rw [ha] at h;simp [zm2] at h
  | some q=>
   obtain ⟨x1,s1⟩:=q;rw [ha] at h;obtain ⟨C1,sH1,b1,b2,b3,b4,b5,b6,b7,N1,b8⟩:=(iha w s x1 s1 ha C sH n0 kh pre).ex;have hseq:∀ n m,evS Q.P (evF Q.P (zzm Q) tb n) (zzm Q) m (evC Q.P (evF Q.P (zzm Q) tb n) (zzm Q) m) kh (.seq a b) sH=ylr (evS Q.P (evF Q.P (zzm Q) tb n) (zzm Q) m (evC Q.P (evF Q.P (zzm Q) tb n) (zzm Q) m) kh b) (evS Q.P (evF Q.P (zzm Q) tb n) (zzm Q) m (evC Q.P (evF Q.P (zzm Q) tb n) (zzm Q) m) kh a sH):=λn m=>rfl;cases x1 with
   | nrm=>
    simp only [zm2] at h;have pre1:Pre K C1 s1 sH1 n0 kh:=⟨b1,b2,b4,b5,pre.low.nx b3,b6,by have:=b3.n;have:=pre.n0;omega,pre.ro.nx b3⟩;obtain ⟨C2,sH2,c1,c2,c3,c4,c5,c6,c7,N2,c8⟩:=(ihb w s1 x s' h C1 sH1 n0 kh pre1).ex;refine ⟨C2,sH2,c1,c2,b3.trans c3,c4,c5,c6,λq=>(c7 q).trans (b7 q),max N1 N2,λn m hn hm=>?_⟩;rw [hseq,b8 n m (by omega) (by omega)];exact c8 n m (by omega) (by omega)
   | ret=>
    simp only [zm2,tza,tzl] at h;obtain ⟨rfl,rfl⟩:=h;exact ⟨C1,sH1,b1,b2,b3,b4,b5,b6,b7,N1,λn m hn hm=>by rw [hseq,b8 n m hn hm];rfl⟩
   | exit id=>
    simp only [zm2,tza,tzl] at h;obtain ⟨rfl,rfl⟩:=h;exact ⟨C1,sH1,b1,b2,b3,b4,b5,b6,b7,N1,λn m hn hm=>by rw [hseq,b8 n m hn hm];rfl⟩
 | cond y a b iha ihb=>
  intro w s x s' h C sH n0 kh pre;simp only [evD] at h;unfold zbf at h;split at h
  .rename_i hy;obtain ⟨v,v1,v2⟩:=zzu (P:=Q.P) pre.tr hy;obtain ⟨C1,sH1,b1,b2,b3,b4,b5,b6,b7,N1,b8⟩:=(iha w s x s' h C sH n0 kh pre).ex;refine ⟨C1,sH1,b1,b2,b3,b4,b5,b6,b7,N1,λn m hn hm=>?_⟩;show yws _ _ (zyk Q.P sH.tm y)=_;rw [v1,zf3 v2];exact b8 n m hn hm
  .rename_i hy;obtain ⟨v,v1,v2⟩:=zzu (P:=Q.P) pre.tr hy;obtain ⟨C1,sH1,b1,b2,b3,b4,b5,b6,b7,N1,b8⟩:=(ihb w s x s' h C sH n0 kh pre).ex;refine ⟨C1,sH1,b1,b2,b3,b4,b5,b6,b7,N1,λn m hn hm=>?_⟩;show yws _ _ (zyk Q.P sH.tm y)=_;rw [v1,zf3 v2];exact b8 n m hn hm
  .cases h
 | block id b ih=>
  intro w s x s' h C sH n0 kh pre;simp only [evD] at h;cases hb:evD Q sub prev K id b s with
  | none=>rw [hb] at h;simp [zuv] at h
  | some q=>
   obtain ⟨x1,s1⟩:=q;rw [hb] at h;obtain ⟨C1,sH1,b1,b2,b3,b4,b5,b6,b7,N1,b8⟩:=(ih id s x1 s1 hb C sH n0 kh pre).ex;have hblk:∀ n m,evS Q.P (evF Q.P (zzm Q) tb n) (zzm Q) m (evC Q.P (evF Q.P (zzm Q) tb n) (zzm Q) m) kh (.block id b) sH=znz id (evS Q.P (evF Q.P (zzm Q) tb n) (zzm Q) m (evC Q.P (evF Q.P (zzm Q) tb n) (zzm Q) m) kh b sH):=λn m=>rfl
   have key:s1=s'/\∀ t:St,znz id (some (x1,t))=some (x,t):=by
    cases x1 with
    | nrm=>
     simp only [zuv,tza,tzl] at h;obtain ⟨rfl,rfl⟩:=h;exact ⟨rfl,λ_=>rfl⟩
    | ret=>
     simp only [zuv,tza,tzl] at h;obtain ⟨rfl,rfl⟩:=h;exact ⟨rfl,λ_=>rfl⟩
    | exit j=>
     simp only [zuv] at h;split at h
     .rename_i e;subst e;simp only [tza,tzl] at h;obtain ⟨rfl,rfl⟩:=h;refine ⟨rfl,λt=>?_⟩;simp only [znz];rw [show Nat.beq id id=true by simp]
     rename_i e;simp only [tza,tzl] at h;obtain ⟨rfl,rfl⟩:=h;refine ⟨rfl,λt=>?_⟩;simp only [znz]
     have:Nat.beq id j=false:=by
      cases hq:Nat.beq id j with
      | false=>rfl
      | true=>exact absurd (tzo hq) e
     rw [this]
   obtain ⟨rfl,hk⟩:=key;exact ⟨C1,sH1,b1,b2,b3,b4,b5,b6,b7,N1,λn m hn hm=>by rw [hblk,b8 n m hn hm];exact hk _⟩
 | loop b ih=>
  intro w s x s' h C sH n0 kh pre;simp only [evD] at h;obtain ⟨k,hk⟩:=zlh h;rw [<-pre.D] at hk;obtain ⟨C1,sH1,b1,b2,b3,b4,b5,b6,b7,N1,b8⟩:=(yvs (λs x s' hs=>ih w s x s' hs) pre.hr pre.low pre.n0 pre.ro k s x s' hk C sH pre.D pre.hr (Nx.refl pre.hr) pre.tr pre.H pre.marks).ex;exact ⟨C1,sH1,b1,b2,b3,b4,b5,b6,b7,N1,λn m hn hm=>b8 n m m hn hm hm⟩
 | rangeFunc f ps asg body _ _=>
  intro w s x s' h;exact zbu hN hp h
 | exit id=>
  intro w s x s' h C sH n0 kh pre;simp only [evD,tza,tzl] at h;obtain ⟨rfl,rfl⟩:=h;exact here (.exit id) (.exit id) pre (λ_ _=>rfl)
 | label l=>
  intro w s x s' h C sH n0 kh pre;simp only [evD,tza,tzl] at h;obtain ⟨rfl,rfl⟩:=h;exact here .nrm (.label l) pre (λ_ _=>rfl)
 | ret=>
  intro w s x s' h C sH n0 kh pre;simp only [evD,tza,tzl] at h;obtain ⟨rfl,rfl⟩:=h;exact here .ret .ret pre (λ_ _=>rfl)
 | _=>intro w s x s' h;simp [evD] at h
structure QOK (Q:Par) (tb:Sub):Prop where
 names:∀ (g:FuncId) (fn:Func),Q.P.funcs[g]? =some fn->(fn.name== "runtime.NumGoroutine")=false
 told:∀ (g:FuncId) (args:List Value) (H:Hp) (fn:Func) (c:Code),Q.tv g=false->Q.P.funcs[g]? =some fn->fn.body=some c->tb g args H=none
 tv:∀ (g:FuncId),Q.tv g=true->zbo Q.P g/\∀ H,tb g [] H=some (.bool true,H)
def xji (Q:Par) (K:KD):Prop:=K.an=Q.ann K.fn
theorem xve (hQ:QOK Q tb) {ev:zn5} (hev:∀ K c s x s',ev K c s=some (x,s')->xxw Q tb K c s x s') {f:FuncId} {args:List DV} {D:DH} {r:DV×DH} (h:zsb Q ev f args base D=some r):Snd Q tb f args base D r:=by
 unfold zsb at h;cases htv:Q.tv f with
 | true=>
  rw [htv] at h;cases args with
  | cons x l=>simp [ycm] at h
  | nil=>
   simp only [ycm,tza] at h;subst h;obtain ⟨g1,g2⟩:=hQ.tv f htv;refine ⟨g1,λC vs hD hr ha hl=>⟨C,.bool true,hD,hr,Nx.refl hr,zv0 _,1,λn hn=>?_⟩⟩;have hvs:vs=[]:=tzy ha.1;subst hvs;obtain ⟨k,rfl⟩:∃ k,n=k+1:=⟨n-1,by omega⟩;rw [ywt (g2 C.H)]
 | false=>
  rw [htv] at h;obtain ⟨hg,hs⟩:=zki (tb:=tb) hQ.names hev h;refine ⟨hg,λC vs hD hr ha hl=>?_⟩;obtain ⟨C',v,a1,a2,a3,a4,N,a5⟩:=hs C vs hD hr ha hl;refine ⟨C',v,a1,a2,a3,a4,N+1,λn hn=>?_⟩;obtain ⟨k,rfl⟩:∃ k,n=k+1:=⟨n-1,by omega⟩;obtain ⟨fn,c,g1,g2,_⟩:=hg;rw [zcy (hQ.told f vs C.H fn c htv g1 g2)];exact a5 k k (by omega) (by omega)
end Go.Dv
namespace Go.Dv
open Go Go.Sim
variable {Q:Par} {tb:Sub}
theorem zp4 (hQ:QOK Q tb) {f:FuncId} {args:List DV} {base:Nat} {D:DH} {r:DV×DH} (h:RunD Q f args base D r):Snd Q tb f args base D r:=
 RunD.rec (motive_1:=λf args base D r _=>Snd Q tb f args base D r) (motive_2:=λK c s r _=>xxw Q tb K c s r.1 r.2)
  (λprev hp h ih=>xve hQ (λK c s x s' he=>ih K c s (x,s') he) h)
  (λ{K c s r} sub prev ha hs hp h ihs ihp=>by
   obtain ⟨x,s'⟩:=r
   intro C sH n0 kh pre
   obtain ⟨C1,sH1,b1,b2,b3,b4,b5,b6,b7,N,b8⟩:=(yk3 hQ.names ihs (λK c s x s' he=>ihp K c s (x,s') he) (λid q hq=>by rw [ha] at hq;exact hq) c 0 s x s' h C sH n0 kh pre).ex
   refine ⟨C1,sH1,b1,b2,b3,b4,b5,b6,b7,N+1,λn m hn hm=>?_⟩
   obtain ⟨k,rfl⟩:∃ k,m=k+1:=⟨m-1,by omega⟩
   exact b8 n k (by omega) (by omega)) h
def zbv (a b:zo1):Prop:=∀ f x n D r,a f x n D=some r->b f x n D=some r
def xxx (a b:zn5):Prop:=∀ K c s r,a K c s=some r->b K c s=some r
theorem yr8 {h:SD->Option SD} {F:SD->Option (BX×SD)}:∀ {n m:Nat} {s:SD} {r r':BX×SD},lpD h F n s=some r->lpD h F m s=some r'->r=r'
 | 0,_,s,r,r',a,_=>by simp [lpD] at a
 | _+1,0,s,r,r',_,b=>by simp [lpD] at b
 | n+1,m+1,s,r,r',a,b=>by
  simp only [lpD] at a b;cases hs:h s with
  | none=>rw [hs] at a;cases a
  | some s1=>
   rw [hs] at a b;simp only at a b;cases hF:F s1 with
   | none=>rw [hF] at a;cases a
   | some q=>
    rw [hF] at a b;obtain ⟨x,s2⟩:=q;cases x with
    | nrm=>exact yr8 a b
    | ret=>exact Option.some.inj (a.symm.trans b)
    | exit id=>exact Option.some.inj (a.symm.trans b)
theorem zeu {α:Type} {g:Nat->Option α} (hd:∀ n m r r',g n=some r->g m=some r'->r=r') {n:Nat} {r:α} (h:g n=some r):ye8 g=some r:=by
 have he:∃ n r,g n=some r:=⟨n,r,h⟩;unfold ye8;rw [dif_pos he];exact congrArg some (hd _ _ _ _ he.choose_spec.choose_spec h)
theorem yr9 {h:SD->Option SD} {F F':SD->Option (BX×SD)} (hF:∀ s r,F s=some r->F' s=some r):∀ {n:Nat} {s:SD} {r:BX×SD},lpD h F n s=some r->lpD h F' n s=some r
 | 0,s,r,a=>by simp [lpD] at a
 | n+1,s,r,a=>by
  simp only [lpD] at a ⊢;cases hs:h s with
  | none=>rw [hs] at a;cases a
  | some s1=>
   rw [hs] at a;simp only at a ⊢;cases hq:F s1 with
   | none=>rw [hq] at a;cases a
   | some q=>
    rw [hq] at a;rw [hF _ _ hq];obtain ⟨x,s2⟩:=q;cases x with
    | nrm=>exact yr9 hF a
    | ret=>exact a
    | exit id=>exact a
theorem yqa {h:SD->Option SD} {F F':SD->Option (BX×SD)} (hF:∀ s r,F s=some r->F' s=some r) {s:SD} {r:BX×SD} (a:zm1 h F s=some r):zm1 h F' s=some r:=by
 obtain ⟨n,hn⟩:=zlh a;exact zeu (λn m r r'=>yr8) (yr9 hF hn)
theorem zgn {P:Program} {sub sub' yld yld':zo1} (hs:zbv sub sub') (hy:zbv yld yld') {base nt:Nat} {all:List Oper} {r:Trie DV×DH}:∀ {rest:List Oper} {tm:Trie DV} {D:DH},zxo P sub yld base nt all rest tm D=some r->zxo P sub' yld' base nt all rest tm D=some r
 | [],tm,D,h=>h
 | o::rest,tm,D,h=>by
  simp only [zxo] at h ⊢;split at h
  .split at h
   .rename_i d D' hop
    have:zw0 sub' yld' base D (dop P base tm D o.op)=some (d,D'):=by
     cases hq:dop P base tm D o.op with
     | none=>rw [hq] at hop;simp [zw0] at hop
     | some q=>
      rw [hq] at hop;cases q with
      | val=>exact hop
      | enter g args=>exact hs _ _ _ _ _ hop
      | yield l args=>exact hy _ _ _ _ _ hop
    rw [this];exact zgn hs hy h
   .cases h
  .exact zgn hs hy h
  .cases h
theorem zp5 {sub sub':zo1} (hs:zbv sub sub') {base nt:Nat} {all:List Oper} {r:Trie DV×DH}:∀ {pl:List PI} {tm:Trie DV} {D:DH} {cl:List (Nat×Option Nat)},zwp Q sub base nt all pl tm D cl=some r->zwp Q sub' base nt all pl tm D cl=some r
 | [],tm,D,cl,h=>h
 | .run i::pl,tm,D,cl,h=>by
  simp only [zwp] at h ⊢;cases ho:all[i]? with
  | none=>rw [ho] at h;cases h
  | some o=>
   rw [ho] at h;simp only at h ⊢;cases hw:zu0 all tm o.guard with
   | none=>rw [hw] at h;cases h
   | some wb=>
    rw [hw] at h;cases wb with
    | false=>exact zp5 hs h
    | true=>
     simp only at h ⊢;cases hq:zw0 sub zbd (zur Q base tm D o.op) D (dop Q.P base tm D o.op) with
     | none=>rw [hq] at h;cases h
     | some q=>
      obtain ⟨d,D'⟩:=q;rw [hq] at h
      have:zw0 sub' zbd (zur Q base tm D o.op) D (dop Q.P base tm D o.op)=some (d,D'):=by
       cases hr:dop Q.P base tm D o.op with
       | none=>rw [hr] at hq;simp [zw0] at hq
       | some r'=>
        rw [hr] at hq;cases r' with
        | val=>exact hq
        | enter g args=>exact hs _ _ _ _ _ hq
        | yield l args=>exact hq
      rw [this];exact zp5 hs h
 | .again i::pl,tm,D,cl,h=>by
  simp only [zwp] at h ⊢;cases ha:zi7 D all tm nt i cl with
  | true=>rw [ha] at h;exact zp5 hs h
  | false=>rw [ha] at h;cases h
theorem yvt {ev ev':zn5} (he:xxx ev ev'):zbv (zta ev) (zta ev'):=by
 intro l args base D r h;unfold zta at h ⊢;cases hl:D[l]? with
 | none=>rw [hl] at h;cases h
 | some x=>
  rw [hl] at h;cases x with
  | loop st p K tm ps asg body=>
   simp only at h ⊢;split at h;rotate_left
   .cases h
   rename_i hc;rw [if_pos hc];cases h1:ev ⟨K.fn,K.nt,some l,K.base,K.an⟩ asg ⟨yl4 tm K.nt ps.toList args,D⟩ with
   | none=>rw [h1] at h;cases h
   | some q=>
    rw [h1] at h;rw [he _ _ _ _ h1];obtain ⟨x,s⟩:=q;cases x with
    | nrm=>
     simp only at h ⊢;cases hl1:s.D[l]? with
     | none=>rw [hl1] at h;cases h
     | some y=>
      rw [hl1] at h;cases y with
      | loop st1 p' K' tm' ps' asg' body'=>
       cases st1 with
       | ready=>
        simp only at h ⊢;cases h2:ev ⟨K.fn,K.nt,some l,K.base,K.an⟩ body ⟨s.tm,s.D.set l (.loop .busy p' K' tm' ps' asg' body')⟩ with
        | none=>rw [h2] at h;cases h
        | some q2=>rw [h2] at h;rw [he _ _ _ _ h2];exact h
       | _=>cases h
      | _=>cases h
    | _=>cases h
  | _=>cases h
theorem yyu {P:Program} {fn:Func} {raw:Bool} {base:Nat} {a b:Option (BX×SD)} (hab:∀ r,a=some r->b=some r) {r:DV×DH} (h:zed P fn raw base a=some r):zed P fn raw base b=some r:=by
 cases a with
 | none=>simp [zed] at h
 | some q=>rw [hab q rfl];exact h
theorem zkj {ev ev':zn5} (he:xxx ev ev') {f:FuncId} {args:List DV} {base:Nat} {D:DH} {r:DV×DH} (h:zsa Q ev f args base D=some r):zsa Q ev' f args base D=some r:=by
 unfold zsa at h ⊢;cases hfn:Q.P.funcs[f]? with
 | none=>rw [hfn] at h;cases h
 | some fn=>
  rw [hfn] at h;simp only at h ⊢;cases hc:fn.body with
  | none=>rw [hc] at h;cases h
  | some c=>
   rw [hc] at h;simp only at h ⊢;split at h
   .rename_i hl;rw [if_pos hl];cases hr:(Q.ann f).raw with
    | true=>rw [hr] at h;exact yyu (λq hq=>he _ _ _ _ hq) h
    | false=>rw [hr] at h;exact yyu (λq hq=>he _ _ _ _ hq) h
   .cases h
theorem zo9 {ev ev':zn5} (he:xxx ev ev') {f:FuncId} {args:List DV} {base:Nat} {D:DH} {r:DV×DH} (h:zsb Q ev f args base D=some r):zsb Q ev' f args base D=some r:=by
 unfold zsb at h ⊢;cases ht:Q.tv f with
 | true=>rw [ht] at h;exact h
 | false=>rw [ht] at h;exact zkj he h
theorem zkk {sub sub':zo1} {ev ev':zn5} (hs:zbv sub sub') (he:xxx ev ev') {K:KD}:∀ (c:Code) (w:Nat) (s:SD) (r:BX×SD),evD Q sub ev K w c s=some r->evD Q sub' ev' K w c s=some r:=by
 intro c
 induction c with
 | region id ops dr=>
  intro w s r h;cases dr with
  | false=>
   simp only [evD] at h ⊢;cases hg:zbc K id s with
   | none=>rw [hg] at h;cases h
   | some s1=>
    rw [hg] at h;simp only at h ⊢;cases ho:zxo Q.P sub (zta ev) K.base K.nt ops.toList ops.toList s1.tm s1.D with
    | none=>rw [ho] at h;simp [yvb] at h
    | some q=>rw [ho] at h;rw [zgn hs (yvt he) ho];exact h
  | true=>
   simp only [evD] at h ⊢;cases hg:zbc K id s with
   | none=>rw [hg] at h;cases h
   | some s1=>
    rw [hg] at h;simp only at h ⊢;cases hro:K.ro with
    | some l=>rw [hro] at h;cases h
    | none=>
     rw [hro] at h;simp only [ys8] at h ⊢;cases hfp:zym id K.an.pl with
     | none=>rw [hfp] at h;cases h
     | some q=>
      obtain ⟨pl,b⟩:=q;rw [hfp] at h;simp only at h ⊢;cases hgp:zv7 ops.toList pl b with
      | false=>rw [hgp] at h;cases h
      | true=>
       rw [hgp] at h;simp only at h ⊢;cases ho:zwp Q sub K.base K.nt ops.toList pl s1.tm s1.D [] with
       | none=>rw [ho] at h;simp [yvb] at h
       | some q=>rw [ho] at h;rw [zp5 hs ho];exact h
 | seq a b iha ihb=>
  intro w s r h;simp only [evD] at h ⊢;cases ha:evD Q sub ev K w a s with
  | none=>rw [ha] at h;simp [zm2] at h
  | some q=>
   rw [ha] at h;rw [iha w s q ha];obtain ⟨x,s1⟩:=q;cases x with
   | nrm=>exact ihb w s1 r h
   | ret=>exact h
   | exit id=>exact h
 | cond y a b iha ihb=>
  intro w s r h;simp only [evD] at h ⊢;unfold zbf at h ⊢;split at h
  .exact iha w s r h
  .exact ihb w s r h
  .cases h
 | block id b ih=>
  intro w s r h;simp only [evD] at h ⊢;cases hb:evD Q sub ev K id b s with
  | none=>rw [hb] at h;simp [zuv] at h
  | some q=>rw [hb] at h;rw [ih id s q hb];exact h
 | loop b ih=>
  intro w s r h;simp only [evD] at h ⊢;exact yqa (λs r hr=>ih w s r hr) h
 | rangeFunc f ps asg body _ _=>
  intro w s r h;simp only [evD] at h ⊢;unfold zl7 at h ⊢;split at h
  .split at h
   .rename_i g a b _ _ _;cases hf:zsa Q ev g (a++[.yl s.D.length]++b) K.base (s.D++[.loop .ready none K s.tm ps asg body]) with
    | none=>rw [hf] at h;simp [zx5] at h
    | some q=>rw [hf] at h;rw [zkj he hf];exact h
   .cases h
  .cases h
 | skip=>intro w s r h;exact h
 | exit id=>intro w s r h;exact h
 | label l=>intro w s r h;exact h
 | ret=>intro w s r h;exact h
 | _=>intro w s r h;simp [evD] at h
def yl5 (a b:zn5):zn5:=λK c s=>match a K c s with
 | some r=>some r
 | none=>b K c s
def zn8 (a b:zo1):zo1:=λf x n D=>match a f x n D with
 | some r=>some r
 | none=>b f x n D
theorem yqb {a b:zn5}:xxx a (yl5 a b):=λK c s r h=>by unfold yl5;rw [h]
theorem yqc {a b:zo1}:zbv a (zn8 a b):=λf x n D r h=>by unfold zn8;rw [h]
theorem yqd {a b:zn5} (h:∀ K c s r r',a K c s=some r->b K c s=some r'->r=r'):xxx b (yl5 a b):=λK c s r hb=>by
 unfold yl5;cases ha:a K c s with
 | none=>exact hb
 | some q=>rw [h _ _ _ _ _ ha hb]
theorem yqe {a b:zo1} (h:∀ f x n D r r',a f x n D=some r->b f x n D=some r'->r=r'):zbv b (zn8 a b):=λf x n D r hb=>by
 unfold zn8;cases ha:a f x n D with
 | none=>exact hb
 | some q=>rw [h _ _ _ _ _ _ ha hb]
theorem yqf {f:FuncId} {args:List DV} {base:Nat} {D:DH} {r:DV×DH} (h:RunD Q f args base D r):∀ r',RunD Q f args base D r'->r=r':=
 RunD.rec (motive_1:=λf args base D r _=>∀ r',RunD Q f args base D r'->r=r') (motive_2:=λK c s r _=>∀ r',EvD Q K c s r'->r=r')
  (λprev hp h ih r' h'=>by
   cases h' with
   | mk prev' hp' h''=>
    have a:=zo9 (ev':=yl5 prev prev') yqb h
    have b:=zo9 (ev':=yl5 prev prev') (yqd (λK c s r r' h1 h2=>ih K c s r h1 r' (hp' _ _ _ _ h2))) h''
    exact Option.some.inj (a.symm.trans b))
  (λ{K c s r} sub prev ha hs hp h ihs ihp r' h'=>by
   cases h' with
   | mk sub' prev' ha' hs' hp' h''=>
    have a:=zkk (sub':=zn8 sub sub') (ev':=yl5 prev prev') yqc yqb c 0 s r h
    have b:=zkk (sub':=zn8 sub sub') (ev':=yl5 prev prev') (yqe (λf x n D r r' h1 h2=>ihs f x n D r h1 r' (hs' _ _ _ _ _ h2))) (yqd (λK c s r r' h1 h2=>ihp K c s r h1 r' (hp' _ _ _ _ h2))) c 0 s r' h''
    exact Option.some.inj (a.symm.trans b)) h
theorem xvf {K:KD} {c:Code} {s:SD} {r:BX×SD} (h:EvD Q K c s r):∀ r',EvD Q K c s r'->r=r':=by
 intro r' h';cases h with
 | mk sub prev ha hs hp h1=>
  cases h' with
  | mk sub' prev' ha' hs' hp' h2=>
   have key:∀ (n:Nat),True:=λ_=>trivial
   have hpd:∀ K c s r r',EvD Q K c s r->EvD Q K c s r'->r=r':=λK c s r r' a b=>
    EvD.rec (motive_1:=λf args base D r _=>∀ r',RunD Q f args base D r'->r=r') (motive_2:=λK c s r _=>∀ r',EvD Q K c s r'->r=r')
     (λprev hp h ih r' h'=>yqf (.mk prev hp h) r' h')
     (λ{K c s r} sub prev ha hs hp h ihs ihp r' h'=>by
      cases h' with
      | mk sub' prev' ha' hs' hp' h''=>
       have a:=zkk (sub':=zn8 sub sub') (ev':=yl5 prev prev') yqc yqb c 0 s r h
       have b:=zkk (sub':=zn8 sub sub') (ev':=yl5 prev prev') (yqe (λf x n D r r' h1 h2=>ihs f x n D r h1 r' (hs' _ _ _ _ _ h2))) (yqd (λK c s r r' h1 h2=>ihp K c s r h1 r' (hp' _ _ _ _ h2))) c 0 s r' h''
       exact Option.some.inj (a.symm.trans b)) a r' b
   exact hpd K c s r r' (.mk sub prev ha hs hp h1) (.mk sub' prev' ha' hs' hp' h2)
open Classical in
def zzg (Q:Par):zo1:=λf args base D=>if h:∃ r,RunD Q f args base D r then some h.choose else none
open Classical in
def zue (Q:Par):zn5:=λK c s=>if h:∃ r,EvD Q K c s r then some h.choose else none
theorem zst {f:FuncId} {args:List DV} {base:Nat} {D:DH} {r:DV×DH}:zzg Q f args base D=some r↔RunD Q f args base D r:=by
 constructor
 .intro h;unfold zzg at h;split at h
  .grind
  cases h
 intro h;have he:∃ r,RunD Q f args base D r:=⟨r,h⟩;unfold zzg;rw [dif_pos he];exact congrArg some (yqf he.choose_spec r h)
theorem ztb {K:KD} {c:Code} {s:SD} {r:BX×SD}:zue Q K c s=some r↔EvD Q K c s r:=by
 constructor
 .intro h;unfold zue at h;split at h
  .grind
  cases h
 intro h;have he:∃ r,EvD Q K c s r:=⟨r,h⟩;unfold zue;rw [dif_pos he];exact congrArg some (xvf he.choose_spec r h)
theorem zli {K:KD} {c:Code} {s:SD} (ha:K.an=Q.ann K.fn):zue Q K c s=evD Q (zzg Q) (zue Q) K 0 c s:=by
 cases h:evD Q (zzg Q) (zue Q) K 0 c s with
 | some r=>exact ztb.2 (.mk _ _ ha (λf a b D r h=>zst.1 h) (λK c s r h=>ztb.1 h) h)
 | none=>
  cases h':zue Q K c s with
  | none=>rfl
  | some r=>
   obtain ⟨sub,prev,_,hs,hp,h2⟩:=ztb.1 h';have:=zkk (sub':=zzg Q) (ev':=zue Q) (λf a b D r h=>zst.2 (hs _ _ _ _ _ h)) (λK c s r h=>ztb.2 (hp _ _ _ _ h)) c 0 s r h2;rw [h] at this;cases this
theorem zlj {f:FuncId} {args:List DV} {base:Nat} {D:DH}:zzg Q f args base D=zsb Q (zue Q) f args base D:=by
 cases h:zsb Q (zue Q) f args base D with
 | some r=>exact zst.2 (.mk _ (λK c s r h=>ztb.1 h) h)
 | none=>
  cases h':zzg Q f args base D with
  | none=>rfl
  | some r=>
   obtain ⟨prev,hp,h2⟩:=zst.1 h';have:=zo9 (ev':=zue Q) (λK c s r h=>ztb.2 (hp _ _ _ _ h)) h2;rw [h] at this;cases this
theorem ycy {f:FuncId} {args:List DV} {base:Nat} {D:DH} (h:Q.tv f=false):zzg Q f args base D=zsa Q (zue Q) f args base D:=by
 rw [zlj];unfold zsb;rw [h]
theorem yqg {f:FuncId} {base:Nat} {D:DH} (h:Q.tv f=true):zzg Q f [] base D=some (rv (.bool true),D):=by
 rw [zlj];unfold zsb;rw [h];rfl
theorem zzb {f:FuncId} {fn:Func} {c:Code} {an:Ann} {args:List DV} {base:Nat} {D:DH} (hf:Q.P.funcs[f]? =some fn) (hb:fn.body=some c) (ha:Q.ann f=an) (hr:an.raw=false) (hl:args.length<=fn.ntmps) (htv:Q.tv f=false) :
  zzg Q f args base D=zed Q.P fn false D.length (evD Q (zzg Q) (zue Q) ⟨f,fn.ntmps,none,D.length,an⟩ 0 c ⟨zo4 .leaf 0 (args.map zva),D⟩):=by
 subst ha;rw [zlj];unfold zsb;rw [htv];unfold zsa;simp only [hf,hb,if_pos hl,hr];rw [zli rfl]
theorem zz2 {f:FuncId} {fn:Func} {c:Code} {an:Ann} {args:List DV} {base:Nat} {D:DH} (hf:Q.P.funcs[f]? =some fn) (hb:fn.body=some c) (ha:Q.ann f=an) (hr:an.raw=true) (hl:args.length<=fn.ntmps) (htv:Q.tv f=false) :
  zzg Q f args base D=zed Q.P fn true base (evD Q (zzg Q) (zue Q) ⟨f,fn.ntmps,none,base,an⟩ 0 c ⟨zo4 .leaf 0 args,D⟩):=by
 subst ha;rw [zlj];unfold zsb;rw [htv];unfold zsa;simp only [hf,hb,if_pos hl,hr];rw [zli rfl]
theorem yk4 {h:SD->Option SD} {F:SD->Option (BX×SD)} {s s1:SD} (hs:h s=some s1):zm1 h F s=match F s1 with
  | some (.nrm,s')=>zm1 h F s'
  | r=>r:=by
 have det:∀ s n m r r',lpD h F n s=some r->lpD h F m s=some r'->r=r':=λs n m r r'=>yr8;cases hF:F s1 with
 | none=>
  simp only
  unfold zm1 ye8
  rw [dif_neg]
  rintro ⟨n,r,hn⟩
  cases n with
  | zero=>simp [lpD] at hn
  | succ n=>simp [lpD,hs,hF] at hn
 | some q=>
  obtain ⟨x,s'⟩:=q
  cases x with
  | nrm=>
   simp only
   cases hr:zm1 h F s' with
   | some r=>
    obtain ⟨n,hn⟩:=zlh hr
    exact zeu (det s) (n:=n+1) (by simp [lpD,hs,hF,hn])
   | none=>
    cases hr':zm1 h F s with
    | none=>rfl
    | some r=>
     obtain ⟨n,hn⟩:=zlh hr'
     cases n with
     | zero=>simp [lpD] at hn
     | succ n=>
      simp only [lpD,hs,hF] at hn
      have:zm1 h F s'=some r:=zeu (det s') hn
      rw [hr] at this;cases this
  | ret=>exact zeu (det s) (n:=1) (by simp [lpD,hs,hF])
  | exit id=>exact zeu (det s) (n:=1) (by simp [lpD,hs,hF])
end Go.Dv
namespace Go.Dv
open Go Go.Sim
section
variable (P:Program) (sub yld:zo1) (base nt:Nat) (all rest:List Oper) (tm:Trie DV)
def opR (dst:Option Tmp):Option (DV×DH)->Option (Trie DV×DH)
 | some (d,D)=>zxo P sub yld base nt all rest (putD tm nt dst d) D
 | none=>none
def gdR (dst:Option Tmp) (op:Op) (D:DH):Option Bool->Option (Trie DV×DH)
 | some true=>opR P sub yld base nt all rest tm dst (zw0 sub yld base D (dop P base tm D op))
 | some false=>zxo P sub yld base nt all rest (putD tm nt dst (rv undef)) D
 | none=>none
variable (Q:Par) (pl:List PI) (cl:List (Nat×Option Nat)) (prev:zn5) (K:KD) (w:Nat)
def drR (dst:Option Tmp):Option (DV×DH)->Option (Trie DV×DH)
 | some (d,D)=>zwp Q sub base nt all pl (putD tm nt dst d) D cl
 | none=>none
def drG (i:Nat) (dst:Option Tmp) (op:Op) (D:DH):Option Bool->Option (Trie DV×DH)
 | some true=>drR sub base nt all tm Q pl (zqk Q (zur Q base tm D op) tm i op cl) dst (zw0 sub zbd (zur Q base tm D op) D (dop Q.P base tm D op))
 | some false=>zwp Q sub base nt all pl (putD tm nt dst (rv undef)) D cl
 | none=>none
def drO (i:Nat) (D:DH):Option Oper->Option (Trie DV×DH)
 | some o=>drG sub base nt all tm Q pl cl i o.dst o.op D (zu0 all tm o.guard)
 | none=>none
def drA (D:DH):Bool->Option (Trie DV×DH)
 | true=>zwp Q sub base nt all pl tm D cl
 | false=>none
def agO (D:DH) (i:Nat):Option Oper->Bool
 | some o=>match zu0 all tm o.guard with
  | some true=>ykp i cl&&(match o.dst with
   | some d=>decide (d<nt)&&((tm.get d).map (eqD D)).getD false
   | none=>false)
  | some false=>true
  | none=>false
 | none=>false
def ghR (ops:List Oper):Option SD->Option (BX×SD)
 | some s=>yvb (zxo Q.P sub (zta prev) K.base K.nt ops ops s.tm s.D)
 | none=>none
def ghD (ops:List Oper) (pl:Option (List PI×List Nat)):Option SD->Option (BX×SD)
 | some s=>ys8 Q sub K.base K.nt ops pl s
 | none=>none
end
variable {P:Program} {sub yld:zo1} {base nt:Nat} {all rest:List Oper} {tm:Trie DV} {Q:Par} {pl:List PI} {cl:List (Nat×Option Nat)} {prev:zn5} {K:KD} {w:Nat} {D:DH} {s:SD}
theorem xvg:zxo P sub yld base nt all [] tm D=some (tm,D):=rfl
theorem ycz {dst:Option Tmp} {op:Op} {ty:TypeId} {pos:String} {aft:Array Edge}:zxo P sub yld base nt all (⟨dst,op,ty,pos,aft,none⟩::rest) tm D=opR P sub yld base nt all rest tm dst (zw0 sub yld base D (dop P base tm D op)):=by
 show (match zw0 sub yld base D (dop P base tm D op) with
  | some (d,D')=>zxo P sub yld base nt all rest (putD tm nt dst d) D'
  | none=>none)=_
 cases zw0 sub yld base D (dop P base tm D op) with
 | none=>rfl
 | some q=>rfl
theorem yk5 {dst:Option Tmp} {op:Op} {ty:TypeId} {pos:String} {aft:Array Edge} {g:Nat×Bool}:zxo P sub yld base nt all (⟨dst,op,ty,pos,aft,some g⟩::rest) tm D=gdR P sub yld base nt all rest tm dst op D (zu0 all tm (some g)):=by
 simp only [zxo];cases zu0 all tm (some g) with
 | none=>rfl
 | some b=>
  cases b with
  | false=>rfl
  | true=>
   show (match zw0 sub yld base D (dop P base tm D op) with
    | some (d,D')=>zxo P sub yld base nt all rest (putD tm nt dst d) D'
    | none=>none)=opR P sub yld base nt all rest tm dst (zw0 sub yld base D (dop P base tm D op))
   cases zw0 sub yld base D (dop P base tm D op) with
   | none=>rfl
   | some q=>rfl
theorem yk6 {dst:Option Tmp} {d:DV} {D':DH}:opR P sub yld base nt all rest tm dst (some (d,D'))=zxo P sub yld base nt all rest (putD tm nt dst d) D':=rfl
theorem yk7 {dst:Option Tmp} {op:Op}:gdR P sub yld base nt all rest tm dst op D (some true)=opR P sub yld base nt all rest tm dst (zw0 sub yld base D (dop P base tm D op)):=rfl
theorem yqh {dst:Option Tmp} {op:Op}:gdR P sub yld base nt all rest tm dst op D (some false)=zxo P sub yld base nt all rest (putD tm nt dst (rv undef)) D:=rfl
theorem xvh:zwp Q sub base nt all [] tm D cl=some (tm,D):=rfl
theorem xvi {i:Nat}:zwp Q sub base nt all (.run i::pl) tm D cl=drO sub base nt all tm Q pl cl i D all[i]?:=by
 simp only [zwp];cases all[i]? with
 | none=>rfl
 | some o=>
  simp only [drO];cases zu0 all tm o.guard with
  | none=>rfl
  | some b=>
   cases b with
   | false=>rfl
   | true=>
    simp only [drG];cases zw0 sub zbd (zur Q base tm D o.op) D (dop Q.P base tm D o.op) with
    | none=>rfl
    | some q=>rfl
theorem yk8 {i:Nat} {o:Oper}:drO sub base nt all tm Q pl cl i D (some o)=drG sub base nt all tm Q pl cl i o.dst o.op D (zu0 all tm o.guard):=rfl
theorem yk9 {i:Nat} {dst:Option Tmp} {op:Op}:drG sub base nt all tm Q pl cl i dst op D (some true)=drR sub base nt all tm Q pl (zqk Q (zur Q base tm D op) tm i op cl) dst (zw0 sub zbd (zur Q base tm D op) D (dop Q.P base tm D op)):=rfl
theorem yqi {i:Nat} {dst:Option Tmp} {op:Op}:drG sub base nt all tm Q pl cl i dst op D (some false)=zwp Q sub base nt all pl (putD tm nt dst (rv undef)) D cl:=rfl
theorem yja {dst:Option Tmp} {d:DV} {D':DH}:drR sub base nt all tm Q pl cl dst (some (d,D'))=zwp Q sub base nt all pl (putD tm nt dst d) D' cl:=rfl
theorem yjb {i:Nat}:zwp Q sub base nt all (.again i::pl) tm D cl=drA sub base nt all tm Q pl cl D (agO nt all tm cl D i all[i]?):=by
 have he:agO nt all tm cl D i all[i]? =zi7 D all tm nt i cl:=by
  unfold zi7;cases all[i]? with
  | none=>rfl
  | some o=>
   show agO nt all tm cl D i (some o)=_;unfold agO;cases zu0 all tm o.guard with
   | none=>rfl
   | some b=>cases b<;>(cases o.dst<;>rfl)
 rw [he];simp only [zwp];cases zi7 D all tm nt i cl<;>rfl
theorem yjc:drA sub base nt all tm Q pl cl D true=zwp Q sub base nt all pl tm D cl:=rfl
theorem yc0:evD Q sub prev K w .skip s=some (.nrm,s):=rfl
theorem xvj:evD Q sub prev K w .ret s=some (.ret,s):=rfl
theorem yc1 {id:Nat}:evD Q sub prev K w (.exit id) s=some (.exit id,s):=rfl
theorem yjd {l:Nat}:evD Q sub prev K w (.label l) s=some (.nrm,s):=rfl
theorem yqj {id:Nat} {ops:Array Oper}:evD Q sub prev K w (.region id ops false) s=ghR sub Q prev K ops.toList (zbc K id s):=by
 simp only [evD];cases zbc K id s<;>rfl
theorem yje:ghR sub Q prev K all (some s)=yvb (zxo Q.P sub (zta prev) K.base K.nt all all s.tm s.D):=rfl
theorem yc2 {id:Nat} {ops:Array Oper} {f nt base:Nat} {an:Ann}:evD Q sub prev ⟨f,nt,none,base,an⟩ w (.region id ops true) s=ghD sub Q ⟨f,nt,none,base,an⟩ ops.toList (zym id an.pl) (zbc ⟨f,nt,none,base,an⟩ id s):=by
 simp only [evD];cases zbc ⟨f,nt,none,base,an⟩ id s<;>rfl
theorem yjf {pl:List PI} {b:List Nat} (hg:zv7 all pl b=true):ghD sub Q K all (some (pl,b)) (some s)=yvb (zwp Q sub K.base K.nt all pl s.tm s.D []):=by
 simp only [ghD,ys8,hg]
theorem xvk {a b:Code}:evD Q sub prev K w (.seq a b) s=zm2 (evD Q sub prev K w b) (evD Q sub prev K w a s):=rfl
theorem yc3 {x:Operand} {a b:Code}:evD Q sub prev K w (.cond x a b) s=zbf (evD Q sub prev K w a) (evD Q sub prev K w b) s (zzl s.tm x):=rfl
theorem yjg {id:Nat} {b:Code}:evD Q sub prev K w (.block id b) s=zuv id (evD Q sub prev K id b s):=rfl
theorem yjh {f:Operand} {ps:Array Tmp} {a b:Code}:evD Q sub prev K w (.rangeFunc f ps a b) s=zl7 Q prev K f ps a b s:=rfl
theorem yqk {f:SD->Option (BX×SD)}:zm2 f (some (.nrm,s))=f s:=rfl
theorem yql {f:SD->Option (BX×SD)}:zm2 f (some (.ret,s))=some (.ret,s):=rfl
theorem yvu {f:SD->Option (BX×SD)} {i:Nat}:zm2 f (some (.exit i,s))=some (.exit i,s):=rfl
theorem yvv {i:Nat}:zuv i (some (.nrm,s))=some (.nrm,s):=rfl
theorem yvw {i:Nat}:zuv i (some (.ret,s))=some (.ret,s):=rfl
theorem zbw {i:Nat}:zuv i (some (.exit i,s))=some (.nrm,s):=by simp [zuv]
theorem yqm:yvb (some (tm,D))=some (.nrm,⟨tm,D⟩):=rfl
theorem yqn {v:DV}:putD tm nt none v=tm:=rfl
theorem yc4 {d:DV} {D':DH}:zw0 sub yld base D (some (.val d D'))=some (d,D'):=rfl
theorem yqo {g:FuncId} {l:List DV}:zw0 sub yld base D (some (.enter g l))=sub g l base D:=rfl
theorem yqp {l:Nat} {as:List DV}:zw0 sub yld base D (some (.yield l as))=yld l as base D:=rfl
theorem yqq {d:DV}:zv3 D (some d)=some (.val d D):=rfl
theorem xvl (t:Nat):zzl tm (.tmp t)=tm.get t:=rfl
theorem xvm (k:IntKind) (n:Int):zzl tm (.const (.int k n))=some (rv (.int k n)):=rfl
theorem yc5 (b:Bool):zzl tm (.const (.bool b))=some (rv (.bool b)):=rfl
theorem xvn (b:ByteArray):zzl tm (.const (.string b))=some (rv (.string b)):=rfl
theorem xvo:zzl tm (.const (.slice none 0 0))=some zyf:=rfl
theorem yc6:zzl tm (.const (.pointer none))=some (rv (.pointer none)):=rfl
theorem yc7:zzl tm (.const (.map none))=some (rv (.map none)):=rfl
theorem yc8:zzl tm (.const .nilFunc)=some (rv .nilFunc):=rfl
theorem yc9 (f:Nat):zzl tm (.func f)=some (.fn f [] []):=rfl
theorem yba:zy5 tm []=some []:=rfl
theorem yji {x:Operand} {l:List Operand}:zy5 tm (x::l)=(match zzl tm x with
  | some d=>(zy5 tm l).map (d::·)
  | none=>none):=rfl
theorem yyv {A B:DH}:(A++B)[A.length]? =B[0]?:=by rw [tzv (tzp _),Nat.sub_self]
theorem zbx {A B:DH} {k:Nat}:(A++B)[A.length+k]? =B[k]?:=by rw [tzv (tyt _ _),Nat.add_sub_cancel_left]
theorem zgo {A B:DH} {x:DObj}:(A++B).set A.length x=A++B.set 0 x:=by rw [List.set_append_right _ _ (tzp _),Nat.sub_self]
theorem zby {A B:DH} {k:Nat} {x:DObj}:(A++B).set (A.length+k) x=A++B.set k x:=by rw [List.set_append_right _ _ (tyt _ _),Nat.add_sub_cancel_left]
theorem yqr {A B:DH}:(A++B).take A.length=A:=by simp
theorem yyw {A B:DH} {k:Nat}:(A++B).take (A.length+k)=A++B.take k:=by rw [List.take_append,Nat.add_sub_cancel_left,tzk (tyt _ _)]
theorem zy6 {A B:DH}:(A++B).drop A.length=B:=by simp
theorem zqz (a b:Int):ltI a b=decide (a<b):=by
 cases a with
 | ofNat m=>cases b with
  | ofNat n=>simp only [ltI,txl];rw [ty1];simp
  | negSucc n=>simp [ltI];omega
 | negSucc m=>cases b with
  | ofNat n=>simp [ltI];omega
  | negSucc n=>simp only [ltI];rw [ty1];simp;omega
theorem zgp (a b:Int):eqI a b=decide (a=b):=by
 rw [zmj];rw [ty1];simp
section
variable {t:TypeId} {x y:Operand} {a b:Int}
theorem xq4:zty P .lss t x y (.int .i64 a) (.int .i64 b)=some (.bool (decide (a<b))):=by rw [<-zqz];rfl
theorem xq5:zty P .gtr t x y (.int .i64 a) (.int .i64 b)=some (.bool (decide (b<a))):=by rw [<-zqz];rfl
theorem xq6:zty P .leq t x y (.int .i64 a) (.int .i64 b)=some (.bool (decide (a<=b))):=by
 show some (Value.bool !(ltI b a))=_;rw [zqz];congr 2;rw [<-decide_not];congr 1;simp
theorem xq7:zty P .geq t x y (.int .i64 a) (.int .i64 b)=some (.bool (decide (b<=a))):=by
 show some (Value.bool !(ltI a b))=_;rw [zqz];congr 2;rw [<-decide_not];congr 1;simp
theorem xq8:zty P .eql t x y (.int .i64 a) (.int .i64 b)=some (.bool (decide (a=b))):=by rw [<-zgp];rfl
theorem xq9:zty P .neq t x y (.int .i64 a) (.int .i64 b)=some (.bool (decide (a≠b))):=by
 show some (Value.bool !(eqI a b))=_;rw [zgp,decide_not]
theorem xpa:zty P .add t x y (.int .i64 a) (.int .i64 b)=some (.int .i64 (zvu .i64 (a+b))):=rfl
theorem xpb:zty P .sub t x y (.int .i64 a) (.int .i64 b)=some (.int .i64 (zvu .i64 (a-b))):=rfl
theorem xpc:zty P .mul t x y (.int .i64 a) (.int .i64 b)=some (.int .i64 (zvu .i64 (a*b))):=rfl
theorem xpd {c:Bool}:unA P .not (.bool c)=some (.bool !c):=rfl
theorem zy9 {n:Int} (h1:-9223372036854775808<=n) (h2:n<=9223372036854775807):zvu .i64 n=n:=by
 cases n with
 | ofNat m=>
  have h:Nat.ble m 9223372036854775807=true:=(by rw [txw];have:(m:Int)<=9223372036854775807:=h2;omega)
  show (match Nat.ble m 9223372036854775807 with
   | true=>Int.ofNat m
   | false=>IntKind.i64.wrap (Int.ofNat m))=_
  rw [h]
 | negSucc m=>
  have h:Nat.ble m 9223372036854775807=true:=(by rw [txw];have:-9223372036854775808<=Int.negSucc m:=h1;omega)
  show (match Nat.ble m 9223372036854775807 with
   | true=>Int.negSucc m
   | false=>IntKind.i64.wrap (Int.negSucc m))=_
  rw [h]
end
theorem ybb {v:Value}:toV (.f (.raw v))=some v:=rfl
theorem ybc {k:IntKind} {n:Int}:ofV (.int k n)=rv (.int k n):=rfl
theorem yjj {b:Bool}:ofV (.bool b)=rv (.bool b):=rfl
theorem ybd {b:ByteArray}:ofV (.string b)=rv (.string b):=rfl
theorem yjk {k:IntKind} {n:Nat}:zi5 (.f (.raw (.int k (n:Int))))=some n:=rfl
theorem yjl {n:Nat}:zqj (.f (.raw (.int .i64 (n:Int))))=some n:=rfl
end Go.Dv
namespace Go.Dv
open Go Go.Sim
variable {P:Program} {sub yld:zo1} {base nt:Nat} {all rest:List Oper} {tm:Trie DV} {Q:Par} {pl:List PI} {cl:List (Nat×Option Nat)} {prev:zn5} {K:KD} {w:Nat} {D:DH} {s:SD}
def zxj (h:SD->Option SD) (F:SD->Option (BX×SD)):Option SD->Option (BX×SD)
 | some s1=>match F s1 with
  | some (.nrm,s')=>zm1 h F s'
  | r=>r
 | none=>none
theorem yqs {h:SD->Option SD} {F:SD->Option (BX×SD)} {s:SD}:zm1 h F s=zxj h F (h s):=by
 cases hs:h s with
 | some s1=>exact yk4 hs
 | none=>
  show ye8 _=none;unfold ye8;rw [dif_neg];rintro ⟨n,r,hr⟩;cases n with
  | zero=>cases hr
  | succ n=>simp only [lpD,hs] at hr;cases hr
def yvx (h:SD->Option SD) (F:SD->Option (BX×SD)):Option (BX×SD)->Option (BX×SD)
 | some (.nrm,s')=>zxj h F (h s')
 | r=>r
theorem zzj {h:SD->Option SD} {F:SD->Option (BX×SD)} {s1:SD}:zxj h F (some s1)=yvx h F (F s1):=by
 show (match F s1 with
  | some (.nrm,s')=>zm1 h F s'
  | r=>r)=_
 cases F s1 with
 | none=>rfl
 | some q=>
  obtain ⟨x,s'⟩:=q;cases x with
  | nrm=>exact yqs
  | ret=>rfl
  | exit id=>rfl
theorem yqt {h:SD->Option SD} {F:SD->Option (BX×SD)} {s':SD}:yvx h F (some (.nrm,s'))=zxj h F (h s'):=rfl
theorem yqu {h:SD->Option SD} {F:SD->Option (BX×SD)} {s':SD}:yvx h F (some (.ret,s'))=some (.ret,s'):=rfl
theorem yvy {h:SD->Option SD} {F:SD->Option (BX×SD)} {s':SD} {i:Nat}:yvx h F (some (.exit i,s'))=some (.exit i,s'):=rfl
theorem yjm {b:Code}:evD Q sub prev K w (.loop b) s=zxj (zec ((zym w K.an.keep).getD []) K.an.long K.base s.D.length) (evD Q sub prev K w b) (zec ((zym w K.an.keep).getD []) K.an.long K.base s.D.length s):=yqs
def cnP (k:Nat) (o:Option DV) (t:Trie DV):Trie DV:=match o with
 | some d=>t.put k d
 | none=>t
theorem yqv:canon tm []=.leaf:=rfl
theorem yvz {k:Nat} {l:List Nat}:canon tm (k::l)=cnP k (tm.get k) (canon tm l):=rfl
theorem yjn {k:Nat} {d:DV} {t:Trie DV}:cnP k (some d) t=t.put k d:=rfl
theorem yjo {k:Nat} {t:Trie DV}:cnP k none t=t:=rfl
theorem get_leaf {k:Nat}:(Trie.leaf:Trie DV).get k=none:=rfl
def kpP (L:Nat) (o:Option DV) (b:Bool):Bool:=match o with
 | some d=>below L d&&b
 | none=>b
theorem yjp {L:Nat}:zpv tm L []=true:=rfl
theorem yqw {L k:Nat} {l:List Nat}:zpv tm L (k::l)=kpP L (tm.get k) (zpv tm L l):=rfl
theorem yjq {L:Nat} {d:DV} {b:Bool}:kpP L (some d) b=(below L d&&b):=rfl
theorem yjr {L:Nat} {b:Bool}:kpP L none b=b:=rfl
theorem ybe {keep:List Nat} {base L:Nat} {tm:Trie DV} {D:DH}:zec keep false base L ⟨tm,D⟩=if zpv tm L keep=true/\zyg base L D=true/\L<=D.length/\base<=L then some ⟨canon tm keep,D.take L⟩ else none:=rfl
theorem ybf {keep:List Nat} {base L:Nat} {tm:Trie DV} {D:DH}:zec keep true base L ⟨tm,D⟩=some ⟨canon tm keep,D⟩:=rfl
theorem xr3 {L:Nat} {x:FV}:below L (.f x)=true:=by simp [below]
theorem xpe {L:Nat} {l:List FV}:below L (.fp l)=true:=by simp [below]
theorem xvp {L:Nat} {l:List DV}:below L (.agg l)=zzo L l:=by simp [below]
theorem xvq {L:Nat} {l:List DV}:below L (.tup l)=zzo L l:=by simp [below]
theorem xpf {L:Nat} {g:FuncId} {a b:List DV}:below L (.fn g a b)=(zzo L a&&zzo L b):=by simp [below]
theorem xpg {L o:Nat}:below L (.yl o)=decide (o<L):=by simp [below]
theorem xvr {L o i k:Nat}:below L (.ref o i k)=decide (o<L):=by simp [below]
theorem xvs {L o n i k:Nat}:below L (.rfa o n i k)=decide (o<L):=by simp [below]
theorem zkl {L o a b c:Nat}:below L (.row o a b c)=decide (o<L):=by simp [below]
theorem yyx {L o n:Nat}:below L (.apl o n)=decide (o<L):=by simp [below]
theorem xph {L o:Nat}:below L (.mp o)=decide (o<L):=by simp [below]
theorem ybg {L:Nat}:zzo L []=true:=by simp [zzo]
theorem yjs {L:Nat} {d:DV} {l:List DV}:zzo L (d::l)=(below L d&&zzo L l):=by simp [zzo]
theorem zhh {L:Nat}:∀ {l:List DV},zzo L l=l.all (below L)
 | []=>by simp [zzo]
 | d::l=>by simp [zzo,zhh (l:=l)]
theorem zbz {L:Nat}:zyg L L D=true:=by simp [zyg]
theorem yv0 {X:DH} {k:Nat}:zyg D.length (D.length+k) (D++X)=(X.take k).all (zza (D.length+k)):=by simp [zyg]
theorem yqx:D.take D.length=D:=ty0
def GP (all:List Oper) (pl:List PI) (b:List Nat):Prop:=zv7 all pl b=true
theorem yqy {id:Nat} {f nt base:Nat} {ro:Option Nat} {raw:Bool} {pl:List (Nat×(List PI×List Nat))} {keep:List (Nat×List Tmp)} {long:Bool}:zbc ⟨f,nt,ro,base,⟨raw,[],pl,keep,long⟩⟩ id s=some s:=rfl
theorem yqz {d:Nat} {v:DV}:putD tm nt (some d) v=if d<nt then tm.put d v else tm:=rfl
theorem ybh {a b:SD->Option (BX×SD)} {c:Bool}:zbf a b s (some (.f (.raw (.bool c))))=if c=true then a s else b s:=by cases c<;>rfl
theorem yq0:zu0 all tm none=some true:=rfl
theorem yq1 {j:Nat} {w:Bool}:zu0 all tm (some (j,w))=gdO w tm all[j]?:=rfl
theorem yjt {w:Bool} {d:Nat} {op:Op} {ty:TypeId} {pos:String} {aft:Array Edge} {g:Option (Nat×Bool)}:gdO w tm (some ⟨some d,op,ty,pos,aft,g⟩)=gdV w (tm.get d):=rfl
theorem yju {w b:Bool}:gdV w (some (.f (.raw (.bool b))))=some (b==w):=rfl
theorem yq2 {w:Bool}:gdV w (some (.f (.raw undef)))=some false:=rfl
theorem yv1 {id:Nat} {l:List Oper}:evD Q sub prev K w (.region id l.toArray false) s=ghR sub Q prev K l (zbc K id s):=yqj
theorem yjv {id:Nat} {l:List Oper} {f nt base:Nat} {an:Ann}:evD Q sub prev ⟨f,nt,none,base,an⟩ w (.region id l.toArray true) s=ghD sub Q ⟨f,nt,none,base,an⟩ l (zym id an.pl) (zbc ⟨f,nt,none,base,an⟩ id s):=yc2
section
variable {x y a b c m k v i:Operand} {t e:TypeId} {n:Nat}
theorem xvt:dop P base tm D (.move x)=zv3 D (zzl tm x):=rfl
theorem yjw:dop P base tm D (.assign x)=zv3 D (zzl tm x):=rfl
theorem xvu:dop P base tm D (.pick c a b)=zv3 D (yva tm a b (zzl tm c)):=rfl
theorem ybi:dop P base tm D (.alloc e)=zl2 P D e:=rfl
theorem xpi:dop P base tm D (.box e x)=ye6 D (zzl tm x):=rfl
theorem ybj {ps:Array (Nat×Operand)}:dop P base tm D (.build t ps)=zv3 D (zf7 (tBd P t) (zub tm ps.toList)):=rfl
def xn7 (D:DH) (len:Nat) (ps:Option (List (Nat×DV))):Option SlT->Option DRes
 | some T=>zx4 D T len ps
 | none=>none
theorem zev {ps:Array (Nat×Operand)}:dop P base tm D (.buildSlice t n ps)=xn7 D n (zub tm ps.toList) (tSl P t):=by
 show (match tSl P t with
  | some T=>zx4 D T n (zub tm ps.toList)
  | none=>none)=_
 cases tSl P t<;>rfl
def xpj (P:Program) (D:DH) (base:Nat) (M:Option (TypeId×Option Value)):Option DV->Option DV->Option DV->Option DRes
 | some m,some k,some d=>hpD (rv undef) (zuy P D base M m (toV k) d)
 | _,_,_=>none
theorem zb0:dop P base tm D (.mapUpdate t m k v)=xpj P D base (zf2 P t) (zzl tm m) (zzl tm k) (zzl tm v):=by
 simp only [dop];cases zzl tm m<;>cases zzl tm k<;>cases zzl tm v<;>rfl
theorem yjx:dop P base tm D (.insert t m k v)=xpj P D base (zf2 P t) (zzl tm m) (zzl tm k) (zzl tm v):=by
 simp only [dop];cases zzl tm m<;>cases zzl tm k<;>cases zzl tm v<;>rfl
def ldR (D:DH) (a:Option DV):Option (Option Nat)->Option DRes
 | some n=>zv3 D (a.bind (zve D n))
 | none=>none
theorem xvv:dop P base tm D (.load t a)=ldR D (zzl tm a) (tLd P t):=by
 simp only [dop];cases tLd P t<;>rfl
theorem ybk:dop P base tm D (.store t a x)=zqw D base (zyl P t) (zzl tm a) (zzl tm x):=rfl
theorem yv2:dop P base tm D (.nilCheck x)=zv3 D ((zzl tm x).bind (zba D)):=rfl
theorem xpk {op:BinOp}:dop P base tm D (.binOp op t x y e)=zv3 D (ykn P op t x y (zzl tm x) (zzl tm y)):=rfl
theorem xm9 {op:UnOp}:dop P base tm D (.unOp op t x)=zv3 D (dUn P op (zzl tm x)):=rfl
theorem xvw:dop P base tm D (.convert t e x)=zv3 D ((zzl tm x).bind (zc9 P D t e)):=rfl
theorem xvx {fn:Fn} {a b:Array Operand}:dop P base tm D (.makeFunc fn a b)=zbb D fn (zy5 tm a.toList) (zy5 tm b.toList):=rfl
theorem yq3:dop P base tm D (.makeMap t none)=some (.val (.mp D.length) (D++[.map [] []])):=rfl
theorem zb1:dop P base tm D (.makeSlice t a b)=zea D (tSl P t) (zzl tm a) (zzl tm b):=rfl
theorem ybl {lo hi mx:Option Operand}:dop P base tm D (.slice t x lo hi mx)=zv3 D (zvy P tm D t (zzl tm x) lo hi mx):=rfl
def faR (D:DH) (a:Option DV):Option (Nat×TypeId)->Option DRes
 | some (o,_)=>zv3 D (a.bind (zsm D o))
 | none=>none
theorem zb2:dop P base tm D (.fieldAddr t x n)=faR D (zzl tm x) (zl1 P t n):=by
 simp only [dop];cases zl1 P t n with
 | none=>rfl
 | some q=>obtain ⟨o,u⟩:=q;rfl
def ybm (P:Program) (t:TypeId) (f:Nat):Option (Nat×Option Nat):=match zl1 P t f with
 | some (o,ft)=>(tLd P ft).map λa=>(o,a)
 | none=>none
def xvy:Option (Nat×Option Nat)->Option DV->Option DV
 | some (o,a),some (.agg cs)=>zsi cs o a
 | _,_=>none
theorem ybn:dop P base tm D (.field t x n)=zv3 D (xvy (ybm P t n) (zzl tm x)):=by
 have h:zn4 P t n (zzl tm x)=xvy (ybm P t n) (zzl tm x):=by
  unfold zn4 ybm;cases zzl tm x with
  | none=>
   cases zl1 P t n with
   | none=>rfl
   | some q=>
    obtain ⟨o,u⟩:=q;show none=xvy ((tLd P u).map λa=>(o,a)) none;cases tLd P u<;>rfl
  | some d=>
   cases zl1 P t n with
   | none=>cases d<;>rfl
   | some q=>
    obtain ⟨o,u⟩:=q;show _=xvy ((tLd P u).map λa=>(o,a)) (some d);cases hl:tLd P u<;>cases d<;>first | rfl | simp [xvy,hl]
 show zv3 D (zn4 P t n (zzl tm x))=_;rw [h]
theorem zb3:dop P base tm D (.indexAddr t x i)=zv3 D (xxu P D t (zzl tm x) (zzl tm i)):=rfl
theorem ybo:dop P base tm D (.index t x i)=zv3 D (zvb P t (zzl tm x) (zzl tm i)):=rfl
def lkR (P:Program) (D:DH) (M:Option (TypeId×Option Value)) (ok:Bool):Option DV->Option DV->Option DRes
 | some m,some k=>zv3 D (zso P D M m (toV k) ok)
 | _,_=>none
theorem yjy {ok:Bool}:dop P base tm D (.lookup t m k ok)=lkR P D (zf2 P t) ok (zzl tm m) (zzl tm k):=by
 simp only [dop];cases zzl tm m<;>cases zzl tm k<;>rfl
theorem yq4:dop P base tm D (.extract x n)=zv3 D ((zzl tm x).bind (zrp n)):=rfl
def blR (P:Program) (D:DH) (base:Nat) (b:Builtin) (ats:List TypeId):Option (List DV)->Option DRes
 | some l=>zx1 P D base ats l b
 | none=>none
theorem yq5 {bb:Builtin} {as:Array Operand} {ts:Array TypeId}:dop P base tm D (.call ⟨.builtin bb,as,ts⟩)=blR P D base bb ts.toList (zy5 tm as.toList):=by
 simp only [dop,zpu];cases zy5 tm as.toList<;>rfl
def ivR (D:DH):Option (List DV)->Option DV->Option DRes
 | some l,some f=>zuz D l f
 | _,_=>none
theorem xvz {as:Array Operand} {ts:Array TypeId}:dop P base tm D (.call ⟨.value x,as,ts⟩)=ivR D (zy5 tm as.toList) (zzl tm x):=by
 simp only [dop,zpu];cases zy5 tm as.toList<;>cases zzl tm x<;>rfl
end
theorem xv0 {l:List DV} {g:FuncId} {a b:List DV}:ivR D (some l) (some (.fn g a b))=some (.enter g (a++l++b)):=rfl
def edC (l:Option (List DV)):Option DV->Option (List DV)
 | some d=>l.map (d::·)
 | none=>none
theorem xpl {x:Operand} {l:List Operand}:zy5 tm (x::l)=edC (zy5 tm l) (zzl tm x):=by
 rw [yji];cases zzl tm x<;>rfl
theorem yjz {l:List DV} {d:DV}:edC (some l) (some d)=some (d::l):=rfl
def pdC (i:Nat) (l:Option (List (Nat×DV))):Option DV->Option (List (Nat×DV))
 | some d=>l.map ((i,d)::·)
 | none=>none
theorem xv1:zub tm []=some []:=rfl
theorem xla {i:Nat} {x:Operand} {l:List (Nat×Operand)}:zub tm ((i,x)::l)=pdC i (zub tm l) (zzl tm x):=by
 simp only [zub];cases zzl tm x<;>rfl
theorem yj0 {i:Nat} {l:List (Nat×DV)} {d:DV}:pdC i (some l) (some d)=some ((i,d)::l):=rfl
theorem yj1 {a:Option DV} {n:Option Nat}:ldR D a (some n)=zv3 D (a.bind (zve D n)):=rfl
theorem yj2 {a:Option DV} {o:Nat} {t:TypeId}:faR D a (some (o,t))=zv3 D (a.bind (zsm D o)):=rfl
theorem yj3 {b:Builtin} {ts:List TypeId} {l:List DV}:blR P D base b ts (some l)=zx1 P D base ts l b:=rfl
theorem yq6 {n:Nat} {ps:Option (List (Nat×DV))} {T:SlT}:xn7 D n ps (some T)=zx4 D T n ps:=rfl
theorem xv2 {a b:Operand}:yva tm a b (some (.f (.raw (.bool true))))=zzl tm a:=rfl
theorem xv3 {a b:Operand}:yva tm a b (some (.f (.raw (.bool false))))=zzl tm b:=rfl
theorem yj4 {op:BinOp} {t:TypeId} {x y:Operand} {u v:Value}:ykn P op t x y (some (.f (.raw u))) (some (.f (.raw v)))=(zty P op t x y u v).map ofV:=rfl
theorem ybp {op:UnOp} {u:Value}:dUn P op (some (.f (.raw u)))=(unA P op u).map ofV:=rfl
def lnT (t:Option Nat) (x:DV) (D:DH):Option DRes:=zv3 D (zc4 D x t)
theorem xv4 {t:TypeId} {x:DV}:zx1 P D base [t] [x] .len=zv3 D (zc4 D x (zf8 P t)):=rfl
theorem xv5 {x:DV}:zc4 D x (some 3)=(zqf D x).map λn=>rv (zlt n):=rfl
theorem ybq {b:ByteArray}:zc4 D (.f (.raw (.string b))) (some 0)=some (rv (zlt b.size)):=rfl
theorem yj5 {l:List FV}:zqf D (.f (.lst l))=some l.length:=rfl
theorem yj6:zqf D zyf=some 0:=rfl
def xjj (n:Nat):Option DObj->Option Nat
 | some (.arr _ _)=>some n
 | some (.app _ _ els)=>if els.length=n then some n else none
 | _=>none
def ixL (sz:Nat):Option FV->Option DV
 | some x=>if (zxl x).length=sz then some (.fp (zxl x)) else none
 | none=>none
def ixR (P:Program) (D:DH) (t:TypeId) (d:DV):Option Nat->Option DV
 | some n=>zyt D (tSl P t) (zmy P t) n d
 | none=>none
theorem ybr {t:TypeId} {d:DV} {v:DV}:xxu P D t (some d) (some v)=ixR P D t d (zi5 v):=by
 simp only [xxu,Option.bind];cases zi5 v<;>rfl
theorem yj7 {t:TypeId} {d:DV} {n:Nat}:ixR P D t d (some n)=zyt D (tSl P t) (zmy P t) n d:=rfl
theorem xv6 {T:SlT} {A:Option (Nat×Nat×TypeId)} {n:Nat} {l:List FV}:zyt D (some T) A n (.f (.lst l))=ixL T.sz l[n]?:=by
 simp only [zyt];cases l[n]?<;>rfl
theorem yj8 {sz:Nat} {x:FV}:ixL sz (some x)=if (zxl x).length=sz then some (.fp (zxl x)) else none:=rfl
theorem xpm {a:Option Nat} {l:List FV}:zve D a (.fp l)=zsi (l.map .f) 0 a:=rfl
def ldO (i k:Nat) (a:Option Nat):Option DObj->Option DV
 | some (.arr _ els)=>ysn els i k a
 | _=>none
theorem ydb {a:Option Nat} {o i k:Nat}:zve D a (.ref o i k)=ldO i k a D[o]?:=by
 simp only [zve];cases D[o]? with
 | none=>rfl
 | some x=>cases x<;>rfl
theorem ybs {i k sz:Nat} {a:Option Nat} {els:List DV}:ldO i k a (some (.arr sz els))=ysn els i k a:=rfl
def ldP (k:Nat) (a:Option Nat):Option DV->Option DV
 | some d=>zsi (zzd d) k a
 | none=>none
theorem xv7 {els:List DV} {i k:Nat} {a:Option Nat}:ysn els i k a=ldP k a els[i]?:=by
 simp only [ysn];cases els[i]?<;>rfl
theorem yj9 {k:Nat} {a:Option Nat} {d:DV}:ldP k a (some d)=zsi (zzd d) k a:=rfl
theorem yia {cs:List DV} {k:Nat}:zsi cs k none=cs[k]?:=rfl
theorem yq7 {cs:List DV} {k n:Nat}:zsi cs k (some n)=if 0<n/\k+n<=cs.length then some (.agg ((cs.drop k).take n)) else none:=rfl
theorem xpn {o:Nat} {l:List FV}:zsm D o (.fp l)=if o<=l.length then some (.fp (l.drop o)) else none:=rfl
def faO (o i k off:Nat):Option DObj->Option DV
 | some (.arr _ _)=>some (.ref o i (k+off))
 | _=>none
theorem xv8 {o i k off:Nat}:zsm D off (.ref o i k)=faO o i k off D[o]?:=by
 have h:zut D (.ref o i k)=(match D[o]? with
  | some (.arr _ _)=>true
  | _=>false):=rfl
 simp only [zsm];rcases hD:D[o]? with _ | x
 .rw [if_neg (by rw [h,hD];simp)];rfl
 cases x with
 | arr sz els=>rw [if_pos (by rw [h,hD])];rfl
 | _=>rw [if_neg (by rw [h,hD];simp)];rfl
theorem ybt {o i k off sz:Nat} {els:List DV}:faO o i k off (some (.arr sz els))=some (.ref o i (k+off)):=rfl
theorem yq8 {d:DV}:ye6 D (some d)=if zrn (zzd d).length d=true then some (.val (.ref D.length 0 0) (D++[.arr (zzd d).length [d]])) else none:=rfl
theorem zkm {sz:Nat} {d:DV}:zrn sz d=(Nat.beq (zzd d).length sz&&(zzd d).all zwz):=rfl
theorem xv9 {l:List DV}:zzd (.agg l)=l:=rfl
theorem xlb {x:FV}:zzd (.f x)=[.f x]:=rfl
theorem xua {l:List FV}:zxl (.agg l)=l:=rfl
theorem xub {v:Value}:zxl (.raw v)=[.raw v]:=rfl
theorem xuc {l:List FV}:zxl (.lst l)=[.lst l]:=rfl
theorem ybu {k:IntKind} {n:Int}:zwz (.f (.raw (.int k n)))=true:=rfl
theorem yib {b:Bool}:zwz (.f (.raw (.bool b)))=true:=rfl
theorem ybv {l:List FV}:zwz (.f (.lst l))=true:=rfl
theorem yq9 {k:IntKind} {n:Nat}:zi5 (.f (.raw (.int k (Int.ofNat n))))=some n:=rfl
theorem ybw {n:Nat}:zlt n=.int .i64 (n:Int):=rfl
theorem zzi {n:Nat} (h:n+1<=9223372036854775807):zvu .i64 ((n:Int)+1)=((n+1:Nat):Int):=by
 rw [zy9 (by omega) (by omega)];rfl
theorem ypa {k:IntKind} {n:Int}:zva (.f (.raw (.int k n)))=.f (.raw (.int k n)):=rfl
theorem yv3 {b:Bool}:zva (.f (.raw (.bool b)))=.f (.raw (.bool b)):=rfl
theorem ypb {b:ByteArray}:zva (.f (.raw (.string b)))=.f (.raw (.string b)):=rfl
theorem ypc {l:List FV}:zva (.f (.lst l))=.f (.lst l):=rfl
theorem yic {d:Nat}:zo4 tm d []=tm:=rfl
theorem ypd {d:Nat} {v:DV} {l:List DV}:zo4 tm d (v::l)=zo4 (tm.put d v) (d+1) l:=rfl
def rsC (l:Option (List DV)):Option DV->Option (List DV)
 | some d=>l.map (d::·)
 | none=>none
theorem xud:zyn D P tm []=some []:=rfl
theorem xue {t:Nat} {l:List ResultVar}:zyn D P tm (.tmp t::l)=rsC (zyn D P tm l) (tm.get t):=by
 simp only [zyn];cases tm.get t<;>rfl
theorem yid {l:List DV} {d:DV}:rsC (some l) (some d)=some (d::l):=rfl
def xr4 (raw:Bool) (base:Nat) (D:DH):Option (List DV)->Option (DV×DH)
 | some l=>match raw with
  | true=>some (ysp l,D)
  | false=>(zqx base D (ysp l)).map λq=>(q.1,D.take base)
 | none=>none
theorem ybx {fn:Func} {raw:Bool} {base:Nat} {tm:Trie DV} {D:DH}:zed P fn raw base (some (.ret,⟨tm,D⟩))=xr4 raw base D (zyn D P tm fn.results.toList):=by
 simp only [zed];cases zyn D P tm fn.results.toList<;>rfl
theorem yby {fn:Func} {raw:Bool} {base:Nat} {tm:Trie DV} {D:DH}:zed P fn raw base (some (.nrm,⟨tm,D⟩))=xr4 raw base D (zyn D P tm fn.results.toList):=by
 simp only [zed];cases zyn D P tm fn.results.toList<;>rfl
theorem xuf {base:Nat} {l:List DV}:xr4 true base D (some l)=some (ysp l,D):=rfl
theorem xug {base:Nat} {l:List DV}:xr4 false base D (some l)=(zqx base D (ysp l)).map λq=>(q.1,D.take base):=rfl
theorem ybz {d:DV}:ysp [d]=d:=rfl
theorem yb0 {d e:DV} {l:List DV}:ysp (d::e::l)=.tup (d::e::l):=rfl
theorem yie {b:Nat} {k:IntKind} {n:Int}:zqx b D (.f (.raw (.int k n)))=some (.f (.raw (.int k n)),[]):=rfl
theorem ype {b:Nat} {c:Bool}:zqx b D (.f (.raw (.bool c)))=some (.f (.raw (.bool c)),[]):=rfl
theorem yif {b:Nat} {l:List FV}:zqx b D (.f (.lst l))=some (.f (.lst l),[]):=rfl
def xuh (P:Program):TypeDesc->Option (List (Nat×Nat))
 | .struct fs=>zja P fs.toList
 | _=>none
def xjk (P:Program) (t:TypeId):Option (List DV×List (Nat×Nat)):=
 match zxa P t with
 | some z=>match (P.underlying t).bind (xuh P) with
  | some pl=>some ((cellsOf z).map rv,pl)
  | none=>none
 | none=>none
def yb1 (P:Program):TypeDesc->Option Nat
 | .array _ e=>zyl P e
 | _=>none
def xjl (P:Program) (t:TypeId):Option (List DV×Nat):=
 match zxa P t with
 | some z=>match (P.underlying t).bind (yb1 P) with
  | some n=>some ((cellsOf z).map rv,n)
  | none=>none
 | none=>none
end Go.Dv
namespace Go.Dv
open Go Go.Sim
variable {P:Program} {sub yld:zo1} {base nt:Nat} {all rest:List Oper} {tm:Trie DV} {Q:Par} {pl:List PI} {cl:List (Nat×Option Nat)} {prev:zn5} {K:KD} {w:Nat} {D:DH}
theorem yig {f:SD->Option (BX×SD)} {x y:Option (BX×SD)} (h:x=y):zm2 f x=zm2 f y:=by rw [h]
theorem ypf {i:Nat} {x y:Option (BX×SD)} (h:x=y):zuv i x=zuv i y:=by rw [h]
theorem yih {a b:SD->Option (BX×SD)} {s:SD} {x y:Option DV} (h:x=y):zbf a b s x=zbf a b s y:=by rw [h]
theorem xui {dst:Option Tmp} {x y:Option (DV×DH)} (h:x=y):opR P sub yld base nt all rest tm dst x=opR P sub yld base nt all rest tm dst y:=by rw [h]
theorem xuj {dst:Option Tmp} {op:Op} {x y:Option Bool} (h:x=y):gdR P sub yld base nt all rest tm dst op D x=gdR P sub yld base nt all rest tm dst op D y:=by rw [h]
theorem xuk {dst:Option Tmp} {x y:Option (DV×DH)} (h:x=y):drR sub base nt all tm Q pl cl dst x=drR sub base nt all tm Q pl cl dst y:=by rw [h]
theorem xul {i:Nat} {dst:Option Tmp} {op:Op} {x y:Option Bool} (h:x=y):drG sub base nt all tm Q pl cl i dst op D x=drG sub base nt all tm Q pl cl i dst op D y:=by rw [h]
theorem xum {i:Nat} {x y:Option Oper} (h:x=y):drO sub base nt all tm Q pl cl i D x=drO sub base nt all tm Q pl cl i D y:=by rw [h]
theorem xun {x y:Bool} (h:x=y):drA sub base nt all tm Q pl cl D x=drA sub base nt all tm Q pl cl D y:=by rw [h]
theorem xuo {ops:List Oper} {x y:Option SD} (h:x=y):ghR sub Q prev K ops x=ghR sub Q prev K ops y:=by rw [h]
theorem xup {ops:List Oper} {p q:Option (List PI×List Nat)} {x y:Option SD} (hp:p=q) (h:x=y):ghD sub Q K ops p x=ghD sub Q K ops q y:=by rw [hp,h]
theorem yii {h:SD->Option SD} {F:SD->Option (BX×SD)} {x y:Option SD} (e:x=y):zxj h F x=zxj h F y:=by rw [e]
theorem yij {h:SD->Option SD} {F:SD->Option (BX×SD)} {x y:Option (BX×SD)} (e:x=y):yvx h F x=yvx h F y:=by rw [e]
theorem yb2 {fn:Func} {raw:Bool} {x y:Option (BX×SD)} (e:x=y):zed P fn raw base x=zed P fn raw base y:=by rw [e]
theorem xpo {c:Code} {s t:SD} (e:s=t):evD Q sub prev K w c s=evD Q sub prev K w c t:=by rw [e]
theorem xpp {tm':Trie DV} {D':DH} (e:tm=tm') (h:D=D'):zxo P sub yld base nt all rest tm D=zxo P sub yld base nt all rest tm' D':=by rw [e,h]
theorem xpq {tm':Trie DV} {D':DH} (e:tm=tm') (h:D=D'):zwp Q sub base nt all pl tm D cl=zwp Q sub base nt all pl tm' D' cl:=by rw [e,h]
attribute [congr] yig ypf yih xui xuj xuk xul xum xun xuo xup yii yij yb2 xpo xpp xpq
theorem ypg {i j:Nat} {s:SD}:zuv i (some (.exit j,s))=if i=j then some (.nrm,s) else some (.exit j,s):=rfl
attribute [simp] xvg ycz yk5 yk6 yk7 yqh xvh xvi yk8 yk9 yqi yja yjb yjc yc0 xvj yc1 yjd yv1 yje yjv xvk yc3 yjg yjh yqk yql yvu yvv yvw zbw yqm yqn yc4 yqo yqp yqq xvl xvm yc5 xvn xvo yc6 yc7 yc8 yc9 yba zbx zgo zby yqr yyw zy6 xq4 xq5 xq6 xq7 xq8 xq9 xpa xpb xpc xpd ybb ybc yjj ybd yjk yjl yqt yqu yvy yjm yqv yvz yjn yjo get_leaf yjp yqw yjq yjr ybe ybf xr3 xpe xvp xvq xpf xpg xvr xvs zkl yyx xph ybg yjs zbz yv0 yqx yqy yqz ybh yq0 yq1 yjt yju yq2 xvt yjw xvu ybi xpi ybj zev zb0 yjx xvv ybk yv2 xpk xm9 xvw xvx yq3 zb1 ybl zb2 ybn zb3 ybo yjy yq4 yq5 xvz xv0 xpl yjz xv1 xla yj0 yj1 yj2 yj3 yq6 xv2 xv3 yj4 ybp xv4 xv5 ybq yj5 yj6 ybr yj7 xv6 yj8 xpm ydb ybs xv7 yj9 yia yq7 xpn xv8 ybt yq8 zkm xv9 xlb xua xub xuc ybu yib ybv yq9 ybw ypa yv3 ypb ypc yic ypd xud xue yid ybx yby xuf xug ybz yb0 yie ype yif
attribute [simp] ypg zym Trie.get_put
end Go.Dv
namespace Go.Dv
open Go Go.Sim
theorem wl {σ:Sort _} {M:SD->Prop} (st:σ->SD) (I:σ->Prop) (μ:σ->Nat) (step:∀ x,I x->(∀ y,I y->μ y<μ x->M (st y))->M (st x)) (x:σ) (hx:I x):∀ s,st x=s->M s:=by
 have key:∀ n x,I x->μ x<n->M (st x):=by
  intro n
  induction n with
  | zero=>intro x _ h;omega
  | succ n ih=>
   grind
 rintro s rfl;exact key _ x hx (tyu _)
def zew:DV->DV
 | .f x=>.f (zud x)
 | d=>d
theorem yph {l:List DV}:zva (.agg l)=.agg (l.map zew):=by
 show DV.agg _=_;congr 1
theorem ypi {k:IntKind} {n:Int}:zew (.f (.raw (.int k n)))=.f (.raw (.int k n)):=rfl
theorem yv4 {b:Bool}:zew (.f (.raw (.bool b)))=.f (.raw (.bool b)):=rfl
theorem ypj {b:ByteArray}:zew (.f (.raw (.string b)))=.f (.raw (.string b)):=rfl
theorem ypk {l:List FV}:zew (.f (.lst l))=.f (.lst l):=rfl
theorem ypl:zew zyf=.f (.lst []):=rfl
theorem ypm:zva zyf=.f (.lst []):=rfl
theorem yik {g:FuncId} {a b:List DV}:zva (.fn g a b)=.fn g a b:=rfl
theorem ypn {o i k:Nat}:zva (.ref o i k)=.ref o i k:=rfl
theorem ypo {o i k l:Nat}:zva (.row o i k l)=.row o i k l:=rfl
theorem ypp {o i:Nat}:zva (.apl o i)=.apl o i:=rfl
theorem yil {o:Nat}:zva (.mp o)=.mp o:=rfl
attribute [simp] yph ypi yv4 ypj ypk ypl ypm yik ypn ypo ypp yil
theorem xuq {i:Nat} {l:List DV}:zrp i (.tup l)=l[i]?:=rfl
attribute [simp] xuq
theorem ypq {D:DH} {g:FuncId} {l m:List DV}:zbb D (.func g) (some l) (some m)=some (.val (.fn g l m) D):=rfl
attribute [simp] ypq
def fzK:Option (DV×List Nat)->Option (List DV×List Nat)->Option (List DV×List Nat)
 | some (x,i),some (xs,is)=>some (x::xs,i++is)
 | _,_=>none
theorem xur {b:Nat} {D:DH} {l:List DV}:zqx b D (.tup l)=(zc5 (zc6 b D) l).map λq=>(.tup q.1,q.2):=rfl
theorem xlc {b:Nat} {D:DH} {x:FV}:zqx b D (.f x)=some (.f (zud x),[]):=rfl
theorem xus {b:Nat} {D:DH} {l:List DV}:zqx b D (.agg l)=zc6 b D (.agg l):=rfl
theorem ypr {b:Nat} {D:DH} {o i n c:Nat}:zqx b D (.row o i n c)=zmz b D (.row o i n c):=rfl
theorem ydc {b:Nat} {D:DH} {o n:Nat}:zqx b D (.apl o n)=zmz b D (.apl o n):=rfl
theorem xpr {b:Nat} {D:DH} {x:FV}:zc6 b D (.f x)=some (.f (zud x),[]):=rfl
theorem yb3 {b:Nat} {D:DH} {l:List DV}:zc6 b D (.agg l)=if l.all zwz=true then (zc5 (zmz b D) l).map λq=>(.agg q.1,q.2) else none:=rfl
theorem yb4 {b:Nat} {D:DH} {o i n c:Nat}:zc6 b D (.row o i n c)=zmz b D (.row o i n c):=rfl
theorem yb5 {b:Nat} {D:DH} {o n:Nat}:zc6 b D (.apl o n)=zmz b D (.apl o n):=rfl
theorem yb6 {g:DV->Option (DV×List Nat)}:zc5 g []=some ([],[]):=rfl
theorem yim {g:DV->Option (DV×List Nat)} {d:DV} {l:List DV}:zc5 g (d::l)=fzK (g d) (zc5 g l):=by
 simp only [zc5];cases g d with
 | none=>rfl
 | some q=>obtain ⟨x,i⟩:=q;cases zc5 g l with
  | none=>rfl
  | some r=>rfl
theorem yin {x:DV} {i:List Nat} {xs:List DV} {is:List Nat}:fzK (some (x,i)) (some (xs,is))=some (x::xs,i++is):=rfl
theorem xps {b:Nat} {D:DH} {x:FV}:zmz b D (.f x)=some (.f (zud x),[]):=rfl
def fzO (b:Nat) (D:DH) (k o n:Nat):Option DObj->Option (FV×List Nat)
 | some (.app _ sz els)=>if b<=o/\els.length=n/\0<sz then (zsq (frz b D k) els).map λq=>(.lst q.1,o::q.2) else none
 | _=>none
def fzR (b:Nat) (D:DH) (k o i n:Nat):Option DObj->Option (FV×List Nat)
 | some (.arr sz els)=>if b<=o/\i+n<=els.length/\0<sz then (zsq (frz b D k) ((els.drop i).take n)).map λq=>(.lst q.1,o::q.2) else none
 | _=>none
theorem yps {b:Nat} {D:DH} {o i n c:Nat}:zmz b D (.row o i n c)=(fzR b D 3 o i n D[o]?).map λ(q:FV×List Nat)=>((.f q.1:DV),q.2):=by
 show (match D[o]? with
  | some (.arr sz els)=>if b<=o/\i+n<=els.length/\0<sz then (zsq (frz b D 3) ((els.drop i).take n)).map (λ(q:List FV×List Nat)=>(FV.lst q.1,o::q.2)) else none
  | _=>(none:Option (FV×List Nat))).map _=_
 cases D[o]? with
 | none=>rfl
 | some x=>cases x<;>rfl
theorem ypt {b:Nat} {D:DH} {o n:Nat}:zmz b D (.apl o n)=(fzO b D 3 o n D[o]?).map λ(q:FV×List Nat)=>((.f q.1:DV),q.2):=by
 show (match D[o]? with
  | some (.app _ sz els)=>if b<=o/\els.length=n/\0<sz then (zsq (frz b D 3) els).map (λ(q:List FV×List Nat)=>(FV.lst q.1,o::q.2)) else none
  | _=>(none:Option (FV×List Nat))).map _=_
 cases D[o]? with
 | none=>rfl
 | some x=>cases x<;>rfl
theorem yb7 {b:Nat} {D:DH} {k o n e sz:Nat} {els:List DV}:fzO b D k o n (some (.app e sz els))=if b<=o/\els.length=n/\0<sz then (zsq (frz b D k) els).map λq=>(.lst q.1,o::q.2) else none:=rfl
theorem ypu {b:Nat} {D:DH} {k o i n sz:Nat} {els:List DV}:fzR b D k o i n (some (.arr sz els))=if b<=o/\i+n<=els.length/\0<sz then (zsq (frz b D k) ((els.drop i).take n)).map λq=>(.lst q.1,o::q.2) else none:=rfl
theorem zkn {α:Type} {g:DV->Option (FV×List Nat)} {f:α->DV} {h:α->FV} (hg:∀ x,g (f x)=some (h x,[])):∀ {l:List α},zsq g (l.map f)=some (l.map h,[])
 | []=>rfl
 | x::l=>by
  show (match g (f x) with
   | some (x,i)=>match zsq g (l.map f) with
    | some (xs,is)=>some (x::xs,i++is)
    | none=>none
   | none=>none)=_
  rw [hg x,zkn hg];rfl
theorem ypv {k:IntKind} {n:Int}:zud (.raw (.int k n))=.raw (.int k n):=rfl
theorem yv5 {b:Bool}:zud (.raw (.bool b))=.raw (.bool b):=rfl
theorem ypw {b:ByteArray}:zud (.raw (.string b))=.raw (.string b):=rfl
theorem ypx {l:List FV}:zud (.lst l)=.lst l:=rfl
theorem ypy:zud (.raw (.slice none 0 0))=.lst []:=rfl
attribute [simp] xur xlc xus ypr ydc xpr yb3 yb4 yb5 yb6 yim yin xps yps ypt yb7 ypu ypv yv5 ypw ypx ypy
def gpO (l:List Oper):Option (List PI×List Nat)->Bool
 | some (p,b)=>zv7 l p b
 | none=>true
def gpC (pl:List (Nat×(List PI×List Nat))):Code->Bool
 | .region id ops true=>gpO ops.toList (zym id pl)
 | .seq a b=>gpC pl a&&gpC pl b
 | .cond _ a b=>gpC pl a&&gpC pl b
 | .block _ b=>gpC pl b
 | .loop b=>gpC pl b
 | .rangeFunc _ _ a b=>gpC pl a&&gpC pl b
 | _=>true
def gpB (pl:List (Nat×(List PI×List Nat))):Option Code->Bool
 | some c=>gpC pl c
 | none=>true
theorem yio {pl:List (Nat×(List PI×List Nat))} {c:Code}:gpB pl (some c)=gpC pl c:=rfl
theorem yip {pl:List (Nat×(List PI×List Nat))} {id:Nat} {l:List Oper}:gpC pl (.region id l.toArray true)=gpO l (zym id pl):=rfl
theorem yb8 {pl:List (Nat×(List PI×List Nat))} {id:Nat} {l:Array Oper}:gpC pl (.region id l false)=true:=rfl
theorem yb9 {pl:List (Nat×(List PI×List Nat))} {a b:Code}:gpC pl (.seq a b)=(gpC pl a&&gpC pl b):=rfl
theorem yiq {pl:List (Nat×(List PI×List Nat))} {x:Operand} {a b:Code}:gpC pl (.cond x a b)=(gpC pl a&&gpC pl b):=rfl
theorem ypz {pl:List (Nat×(List PI×List Nat))} {id:Nat} {b:Code}:gpC pl (.block id b)=gpC pl b:=rfl
theorem yir {pl:List (Nat×(List PI×List Nat))} {b:Code}:gpC pl (.loop b)=gpC pl b:=rfl
theorem yp0 {pl:List (Nat×(List PI×List Nat))} {x:Operand} {ps:Array Tmp} {a b:Code}:gpC pl (.rangeFunc x ps a b)=(gpC pl a&&gpC pl b):=rfl
theorem yis {pl:List (Nat×(List PI×List Nat))}:gpC pl .skip=true:=rfl
theorem yaa {pl:List (Nat×(List PI×List Nat))}:gpC pl .ret=true:=rfl
theorem yit {pl:List (Nat×(List PI×List Nat))} {i:Nat}:gpC pl (.exit i)=true:=rfl
theorem yp1 {pl:List (Nat×(List PI×List Nat))} {i:Nat}:gpC pl (.label i)=true:=rfl
theorem yiu {l:List Oper} {p:List PI} {b:List Nat}:gpO l (some (p,b))=zv7 l p b:=rfl
theorem yiv {l:List Oper}:gpO l none=true:=rfl
theorem xut {sub:zo1} {Q:Par} {K:KD} {all:List Oper} {s:SD} {pl:List PI} {b:List Nat} (hg:zv7 all pl b=true):ghD sub Q K all (some (pl,b)) (some s)=yvb (zwp Q sub K.base K.nt all pl s.tm s.D []):=yjf hg
theorem yiw (x:Operand):zz7 (.move x)=.pure:=rfl
theorem yv6 (x:Operand):zz7 (.assign x)=.pure:=rfl
theorem yix (x y z:Operand):zz7 (.pick x y z)=.pure:=rfl
theorem yp2 (t:TypeId) (ps:Array (Nat×Operand)):zz7 (.build t ps)=.pure:=rfl
theorem zex (x:Operand):zz7 (.nilCheck x)=.pure:=rfl
theorem yp3 (o:BinOp) (t e:TypeId) (x y:Operand):zz7 (.binOp o t x y e)=.pure:=rfl
theorem yiy (o:UnOp) (t:TypeId) (x:Operand):zz7 (.unOp o t x)=.pure:=rfl
theorem zey (f:Fn) (a b:Array Operand):zz7 (.makeFunc f a b)=.pure:=rfl
theorem zgq (t:TypeId) (x:Operand) (n:Nat):zz7 (.fieldAddr t x n)=.pure:=rfl
theorem yp4 (t:TypeId) (x:Operand) (n:Nat):zz7 (.field t x n)=.pure:=rfl
theorem zgr (t:TypeId) (x y:Operand):zz7 (.indexAddr t x y)=.pure:=rfl
theorem yp5 (t:TypeId) (x y:Operand):zz7 (.index t x y)=.pure:=rfl
theorem zb4 (x:Operand) (n:Nat):zz7 (.extract x n)=.pure:=rfl
theorem yp6 (t:TypeId) (x:Operand) (a b c:Option Operand):zz7 (.slice t x a b c)=.pure:=rfl
theorem yiz (t:TypeId) (x:Operand):zz7 (.load t x)=.read:=rfl
theorem yv7 (t:TypeId) (x y:Operand) (b:Bool):zz7 (.lookup t x y b)=.read:=rfl
theorem zb5 (t e:TypeId) (x:Operand):zz7 (.convert t e x)=.read:=rfl
theorem yp7 (t:TypeId):zz7 (.alloc t)=.fresh:=rfl
theorem yab (t:TypeId) (x:Operand):zz7 (.box t x)=.fresh:=rfl
theorem zih (t:TypeId) (n:Nat) (ps:Array (Nat×Operand)):zz7 (.buildSlice t n ps)=.fresh:=rfl
theorem zgs (t:TypeId) (x y:Operand):zz7 (.makeSlice t x y)=.fresh:=rfl
theorem yac (a:Array Operand) (t:Array TypeId):zz7 (.call ⟨.builtin .len,a,t⟩)=.read:=rfl
theorem yad (a:Array Operand) (t:Array TypeId):zz7 (.call ⟨.builtin .max,a,t⟩)=.read:=rfl
theorem yae (a:Array Operand) (t:Array TypeId):zz7 (.call ⟨.builtin .min,a,t⟩)=.read:=rfl
theorem yv8 (a:Array Operand) (t:Array TypeId):zz7 (.call ⟨.builtin .append,a,t⟩)=.eff:=rfl
theorem yi0 (a:Array Operand) (t:Array TypeId):zz7 (.call ⟨.builtin .copy,a,t⟩)=.eff:=rfl
theorem yp8 (t:TypeId) (x y:Operand):zz7 (.store t x y)=.eff:=rfl
theorem zgt (t:TypeId) (x y z:Operand):zz7 (.mapUpdate t x y z)=.eff:=rfl
theorem yv9 (t:TypeId) (x y z:Operand):zz7 (.insert t x y z)=.eff:=rfl
theorem yi1 (f:Operand) (a:Array Operand) (t:Array TypeId):zz7 (.call ⟨.value f,a,t⟩)=.eff:=rfl
attribute [simp] yiw yv6 yix yp2 zex yp3 yiy zey zgq yp4 zgr yp5 zb4 yp6 yiz yv7 zb5 yp7 yab zih zgs yac yad yae yv8 yi0 yp8 zgt yv9 yi1
theorem yi2 {Q:Par} {base:Nat} {tm:Trie DV} {D:DH} (x:Operand):zur Q base tm D (.move x)=base:=rfl
theorem yua {Q:Par} {base:Nat} {tm:Trie DV} {D:DH} (x:Operand):zur Q base tm D (.assign x)=base:=rfl
theorem yi3 {Q:Par} {base:Nat} {tm:Trie DV} {D:DH} (x y z:Operand):zur Q base tm D (.pick x y z)=base:=rfl
theorem zez {Q:Par} {base:Nat} {tm:Trie DV} {D:DH} (x:Operand):zur Q base tm D (.nilCheck x)=base:=rfl
theorem yp9 {Q:Par} {base:Nat} {tm:Trie DV} {D:DH} (o:BinOp) (t e:TypeId) (x y:Operand):zur Q base tm D (.binOp o t x y e)=base:=rfl
theorem yi4 {Q:Par} {base:Nat} {tm:Trie DV} {D:DH} (o:UnOp) (t:TypeId) (x:Operand):zur Q base tm D (.unOp o t x)=base:=rfl
theorem ze0 {Q:Par} {base:Nat} {tm:Trie DV} {D:DH} (f:Fn) (a b:Array Operand):zur Q base tm D (.makeFunc f a b)=base:=rfl
theorem zgu {Q:Par} {base:Nat} {tm:Trie DV} {D:DH} (t:TypeId) (x:Operand) (n:Nat):zur Q base tm D (.fieldAddr t x n)=base:=rfl
theorem yoa {Q:Par} {base:Nat} {tm:Trie DV} {D:DH} (t:TypeId) (x:Operand) (n:Nat):zur Q base tm D (.field t x n)=base:=rfl
theorem zgv {Q:Par} {base:Nat} {tm:Trie DV} {D:DH} (t:TypeId) (x y:Operand):zur Q base tm D (.indexAddr t x y)=base:=rfl
theorem yob {Q:Par} {base:Nat} {tm:Trie DV} {D:DH} (t:TypeId) (x y:Operand):zur Q base tm D (.index t x y)=base:=rfl
theorem zb6 {Q:Par} {base:Nat} {tm:Trie DV} {D:DH} (x:Operand) (n:Nat):zur Q base tm D (.extract x n)=base:=rfl
theorem yoc {Q:Par} {base:Nat} {tm:Trie DV} {D:DH} (t:TypeId) (x:Operand) (a b c:Option Operand):zur Q base tm D (.slice t x a b c)=base:=rfl
theorem yi5 {Q:Par} {base:Nat} {tm:Trie DV} {D:DH} (t:TypeId) (x:Operand):zur Q base tm D (.load t x)=base:=rfl
theorem yub {Q:Par} {base:Nat} {tm:Trie DV} {D:DH} (t:TypeId) (x y:Operand) (b:Bool):zur Q base tm D (.lookup t x y b)=base:=rfl
theorem zb7 {Q:Par} {base:Nat} {tm:Trie DV} {D:DH} (t e:TypeId) (x:Operand):zur Q base tm D (.convert t e x)=base:=rfl
theorem yod {Q:Par} {base:Nat} {tm:Trie DV} {D:DH} (t:TypeId):zur Q base tm D (.alloc t)=base:=rfl
theorem yaf {Q:Par} {base:Nat} {tm:Trie DV} {D:DH} (t:TypeId) (x:Operand):zur Q base tm D (.box t x)=base:=rfl
theorem zgw {Q:Par} {base:Nat} {tm:Trie DV} {D:DH} (t:TypeId) (x y:Operand):zur Q base tm D (.makeSlice t x y)=base:=rfl
theorem yag {Q:Par} {base:Nat} {tm:Trie DV} {D:DH} (a:Array Operand) (t:Array TypeId):zur Q base tm D (.call ⟨.builtin .len,a,t⟩)=base:=rfl
theorem yah {Q:Par} {base:Nat} {tm:Trie DV} {D:DH} (a:Array Operand) (t:Array TypeId):zur Q base tm D (.call ⟨.builtin .max,a,t⟩)=base:=rfl
theorem yai {Q:Par} {base:Nat} {tm:Trie DV} {D:DH} (a:Array Operand) (t:Array TypeId):zur Q base tm D (.call ⟨.builtin .min,a,t⟩)=base:=rfl
theorem yuc {Q:Par} {base:Nat} {tm:Trie DV} {D:DH} (a:Array Operand) (t:Array TypeId):zur Q base tm D (.call ⟨.builtin .append,a,t⟩)=base:=rfl
theorem yi6 {Q:Par} {base:Nat} {tm:Trie DV} {D:DH} (a:Array Operand) (t:Array TypeId):zur Q base tm D (.call ⟨.builtin .copy,a,t⟩)=base:=rfl
theorem yoe {Q:Par} {base:Nat} {tm:Trie DV} {D:DH} (t:TypeId) (x y:Operand):zur Q base tm D (.store t x y)=base:=rfl
theorem zgx {Q:Par} {base:Nat} {tm:Trie DV} {D:DH} (t:TypeId) (x y z:Operand):zur Q base tm D (.mapUpdate t x y z)=base:=rfl
theorem yud {Q:Par} {base:Nat} {tm:Trie DV} {D:DH} (t:TypeId) (x y z:Operand):zur Q base tm D (.insert t x y z)=base:=rfl
theorem yi7 {Q:Par} {base:Nat} {tm:Trie DV} {D:DH} (f:Operand) (a:Array Operand) (t:Array TypeId):zur Q base tm D (.call ⟨.value f,a,t⟩)=xw7 Q base D (zy5 tm a.toList) (zzl tm f):=rfl
def efF (base:Nat) (D:DH) (l:Option (List DV)):Bool->Nat
 | true=>xr2 base D l
 | false=>base
def efR (base:Nat) (D:DH) (l:Option (List DV)) (fr:Bool):Bool->Nat
 | true=>efF base D l fr
 | false=>base
theorem xpt {Q:Par} {base:Nat} {D:DH} {l:Option (List DV)} {g:FuncId} {a b:List DV}:xw7 Q base D l (some (.fn g a b))=efR base D l (Q.fr g) (Q.ann g).raw:=by
 show (match (Q.ann g).raw with
  | true=>(match Q.fr g with
   | true=>xr2 base D l
   | false=>base)
  | false=>base)=_
 generalize (Q.ann g).raw=r;generalize Q.fr g=q;cases r<;>cases q<;>rfl
theorem yof {Q:Par} {base:Nat} {tm:Trie DV} {D:DH} (t:TypeId) (ps:Array (Nat×Operand)):zur Q base tm D (.build t ps)=base:=rfl
theorem zii {Q:Par} {base:Nat} {tm:Trie DV} {D:DH} (t:TypeId) (n:Nat) (ps:Array (Nat×Operand)):zur Q base tm D (.buildSlice t n ps)=base:=rfl
attribute [simp] yof zii
theorem xpu {base:Nat} {D:DH} {l:Option (List DV)} {fr:Bool}:efR base D l fr false=base:=rfl
theorem xpv {base:Nat} {D:DH} {l:Option (List DV)} {fr:Bool}:efR base D l fr true=efF base D l fr:=rfl
theorem xpw {base:Nat} {D:DH} {l:Option (List DV)}:efF base D l false=base:=rfl
theorem xpx {base:Nat} {D:DH} {l:List DV}:efF base D (some l) true=if base<=zql D.length l/\zql D.length l<=D.length/\zyg base (zql D.length l) D=true then zql D.length l else xr1 base D:=rfl
theorem xld {base:Nat} {D:DH}:xr1 base D=if base+1<=D.length/\zyg base (base+1) D=true then base+1 else base:=rfl
theorem xuu {L:Nat}:zql L []=L:=rfl
theorem xuv {L o n:Nat} {l:List DV}:zql L (.apl o n::l)=min o (zql L l):=rfl
theorem xuw {L o a b c:Nat} {l:List DV}:zql L (.row o a b c::l)=min o (zql L l):=rfl
theorem xle {L:Nat} {x:FV} {l:List DV}:zql L (.f x::l)=zql L l:=rfl
theorem xux {L o i k:Nat} {l:List DV}:zql L (.ref o i k::l)=zql L l:=rfl
theorem xuy {L:Nat} {x l:List DV}:zql L (.agg x::l)=zql L l:=rfl
theorem xpy {L:Nat} {g:FuncId} {a b l:List DV}:zql L (.fn g a b::l)=zql L l:=rfl
attribute [simp] yi2 yua yi3 zez yp9 yi4 ze0 zgu yoa zgv yob zb6 yoc yi5 yub zb7 yod yaf zgw yag yah yai yuc yi6 yoe zgx yud yi7 xld xpt xpu xpv xpw xpx xuu xuv xuw xle xux xuy xpy
def clB (Q:Par) (base:Nat) (tm:Trie DV) (i:Nat) (op:Op) (cl:List (Nat×Option Nat)):Go.Sim.Cls->List (Nat×Option Nat)
 | .pure=>cl
 | .fresh=>cl
 | .read=>(i,zpw tm op)::cl
 | .eff=>zsj base (zvo Q tm op) cl
theorem xuz {Q:Par} {base:Nat} {tm:Trie DV} {i:Nat} {op:Op} {cl:List (Nat×Option Nat)}:zqk Q base tm i op cl=clB Q base tm i op cl (zz7 op):=by
 unfold zqk;cases zz7 op<;>rfl
theorem yi8 {Q:Par} {base:Nat} {tm:Trie DV} {i:Nat} {op:Op} {cl:List (Nat×Option Nat)}:clB Q base tm i op cl .pure=cl:=rfl
theorem yog {Q:Par} {base:Nat} {tm:Trie DV} {i:Nat} {op:Op} {cl:List (Nat×Option Nat)}:clB Q base tm i op cl .fresh=cl:=rfl
theorem yi9 {Q:Par} {base:Nat} {tm:Trie DV} {i:Nat} {op:Op} {cl:List (Nat×Option Nat)}:clB Q base tm i op cl .read=(i,zpw tm op)::cl:=rfl
theorem yaj {Q:Par} {base:Nat} {tm:Trie DV} {i:Nat} {op:Op} {cl:List (Nat×Option Nat)}:clB Q base tm i op cl .eff=zsj base (zvo Q tm op) cl:=rfl
attribute [simp] xut xuz yi8 yog yi9 yaj
def zf4 (n:Int):FV:=.raw (.int .i64 n)
def zx2 (l:List Int):FV:=.lst (l.map zf4)
def zyq (l:List Int):DV:=.f (zx2 l)
def zzr (b:Bool):DV:=.f (.raw (.bool b))
def zze (n:Int):DV:=.f (.raw (.int .i64 n))
attribute [simp] txp txr zf4 zx2 zyq zzr zze ykp zpw zsj zvo yyv putAt
attribute [local simp] zza zyw
attribute [simp] yio yip yb8 yb9 yiq ypz yir yp0 yis yaa yit yp1 yiu yiv
end Go.Dv
namespace Go.Dv
attribute [local simp] zza zyw
open Go Go.Sim
variable {P:Program} {sub yld:zo1} {base nt:Nat} {D:DH}
theorem yak {T:SlT} {len:Nat} {ps:List (Nat×DV)}:zx4 D T len (some ps)=if len*T.sz<=16777216/\len<=16777216/\0<T.sz then (zpt T.sz (List.replicate len T.z) ps).map λels=>DRes.val (.row D.length 0 len len) (D++[.arr T.sz els]) else none:=rfl
theorem xu0 {sz:Nat} {els:List DV}:zpt sz els []=some els:=rfl
theorem yal {sz:Nat} {els:List DV} {i:Nat} {d:DV} {l:List (Nat×DV)}:zpt sz els ((i,d)::l)=if i<els.length/\zrn sz d=true then zpt sz (els.set i d) l else none:=rfl
def apR (D:DH) (base:Nat) (s:DV):Option SlT->Bool->Option (List DV)->Option DRes
 | some T,true,some new=>if new.all (zrn T.sz)=true then zf9 (zwk D base T s new) else none
 | _,_,_=>none
theorem yoh {st tx:TypeId} {s x:DV}:zx1 P D base [st,tx] [s,x] .append=apR D base s (tSl P st) (zvt P tx) (zwd D x):=by
 simp only [zx1];cases zvt P tx<;>cases tSl P st<;>cases zwd D x<;>rfl
theorem zlk {s:DV} {T:SlT} {new:List DV}:apR D base s (some T) true (some new)=if new.all (zrn T.sz)=true then zf9 (zwk D base T s new) else none:=rfl
theorem yue {d:DV} {D':DH}:zf9 (some (d,D'))=some (.val d D'):=rfl
theorem yam {l:List FV}:zwd D (.f (.lst l))=some (l.map elD):=rfl
theorem yan:zwd D zyf=some []:=rfl
def elR (off len:Nat):Option DObj->Option (List DV)
 | some (.arr sz els)=>if 0<sz/\off+len<=els.length then some ((els.drop off).take len) else none
 | _=>none
def elA (len:Nat):Option DObj->Option (List DV)
 | some (.app _ sz els)=>if els.length=len/\0<sz then some els else none
 | _=>none
theorem yao {o off len cap:Nat}:zwd D (.row o off len cap)=elR off len D[o]?:=by
 simp only [zwd];cases D[o]? with
 | none=>rfl
 | some x=>cases x<;>rfl
theorem yap {o len:Nat}:zwd D (.apl o len)=elA len D[o]?:=by
 simp only [zwd];cases D[o]? with
 | none=>rfl
 | some x=>cases x<;>rfl
theorem yaq {off len sz:Nat} {els:List DV}:elR off len (some (.arr sz els))=if 0<sz/\off+len<=els.length then some ((els.drop off).take len) else none:=rfl
theorem yar {len e sz:Nat} {els:List DV}:elA len (some (.app e sz els))=if els.length=len/\0<sz then some els else none:=rfl
theorem yas {v:Value}:elD (.raw v)=.f (.raw v):=rfl
theorem yat {l:List FV}:elD (.lst l)=.f (.lst l):=rfl
theorem yau {l:List FV}:elD (.agg l)=.agg (l.map .f):=rfl
theorem ydd {T:SlT} {new:List DV}:zwk D base T zyf new=if bnd new.length T.by_ then some (.apl D.length new.length,D++[.app T.e T.sz new]) else none:=rfl
def apA (D:DH) (base:Nat) (T:SlT) (o len:Nat) (new:List DV):Option DObj->Option (DV×DH)
 | some (.app e sz els)=>if e=T.e/\sz=T.sz/\els.length=len/\base<=o/\bnd (len+new.length) T.by_ then some (.apl o (len+new.length),D.set o (.app e sz (els++new))) else none
 | _=>none
def apW (D:DH) (base:Nat) (T:SlT) (o off len cap:Nat) (new:List DV):Option DObj->Option (DV×DH)
 | some (.arr sz els)=>if sz=T.sz/\bnd (len+new.length) T.by_/\off+len<=els.length then
    (if len+new.length<=cap then (if base<=o then some (.row o off (len+new.length) cap,D.set o (.arr sz (putAt els (off+len) new))) else none)
    else if base<=o/\off=0/\len=els.length then some (.apl o (len+new.length),D.set o (.app T.e T.sz (els++new)))
    else some (.apl D.length (len+new.length),D++[.app T.e T.sz ((els.drop off).take len++new)])) else none
 | _=>none
theorem yde {T:SlT} {o len:Nat} {new:List DV}:zwk D base T (.apl o len) new=apA D base T o len new D[o]?:=by
 simp only [zwk];cases D[o]? with
 | none=>rfl
 | some x=>cases x<;>rfl
theorem ydf {T:SlT} {o off len cap:Nat} {new:List DV}:zwk D base T (.row o off len cap) new=apW D base T o off len cap new D[o]?:=by
 simp only [zwk];cases D[o]? with
 | none=>rfl
 | some x=>cases x<;>rfl
theorem yav {T:SlT} {o len e sz:Nat} {els new:List DV}:apA D base T o len new (some (.app e sz els))=if e=T.e/\sz=T.sz/\els.length=len/\base<=o/\bnd (len+new.length) T.by_ then some (.apl o (len+new.length),D.set o (.app e sz (els++new))) else none:=rfl
theorem yaw {T:SlT} {o off len cap sz:Nat} {els new:List DV}:apW D base T o off len cap new (some (.arr sz els))=if sz=T.sz/\bnd (len+new.length) T.by_/\off+len<=els.length then
    (if len+new.length<=cap then (if base<=o then some (.row o off (len+new.length) cap,D.set o (.arr sz (putAt els (off+len) new))) else none)
    else if base<=o/\off=0/\len=els.length then some (.apl o (len+new.length),D.set o (.app T.e T.sz (els++new)))
    else some (.apl D.length (len+new.length),D++[.app T.e T.sz ((els.drop off).take len++new)])) else none:=rfl
theorem ydg {n b:Nat}:bnd n b=(n*b<=1099511627776/\n<=1099511627776):=rfl
theorem yax {n:Nat} {a d:DV}:zqw D base (some n) (some a) (some d)=hpD (rv undef) (zl3 D base n d a):=rfl
theorem yha {d:DV} {D':DH}:hpD d (some D')=some (.val d D'):=rfl
def stO (D:DH) (base n:Nat) (d:DV) (o i k:Nat):Option DObj->Option DH
 | some (.arr sz els)=>if base<=o/\(zzd d).length=n then (yso sz els i k d).map λels'=>D.set o (.arr sz els') else none
 | _=>none
def stA (D:DH) (base n:Nat) (d:DV) (o m i k:Nat):Option DObj->Option DH
 | some (.app e sz els)=>if base<=o/\(zzd d).length=n/\els.length=m then (yso sz els i k d).map λels'=>D.set o (.app e sz els') else none
 | _=>none
theorem xu1 {n o i k:Nat} {d:DV}:zl3 D base n d (.ref o i k)=stO D base n d o i k D[o]?:=by
 simp only [zl3];cases D[o]? with
 | none=>rfl
 | some x=>cases x<;>rfl
theorem xu2 {n o m i k:Nat} {d:DV}:zl3 D base n d (.rfa o m i k)=stA D base n d o m i k D[o]?:=by
 simp only [zl3];cases D[o]? with
 | none=>rfl
 | some x=>cases x<;>rfl
theorem yay {n o i k sz:Nat} {d:DV} {els:List DV}:stO D base n d o i k (some (.arr sz els))=if base<=o/\(zzd d).length=n then (yso sz els i k d).map λels'=>D.set o (.arr sz els') else none:=rfl
theorem yaz {n o m i k e sz:Nat} {d:DV} {els:List DV}:stA D base n d o m i k (some (.app e sz els))=if base<=o/\(zzd d).length=n/\els.length=m then (yso sz els i k d).map λels'=>D.set o (.app e sz els') else none:=rfl
def stP (sz:Nat) (els:List DV) (i k:Nat) (d:DV):Option DV->Option (List DV)
 | some x=>if (zzd d).all zwz=true/\k+(zzd d).length<=sz then some (els.set i (if (zzd d).length=sz then d else .agg (putAt (zzd x) k (zzd d)))) else none
 | none=>none
theorem xu3 {sz i k:Nat} {els:List DV} {d:DV}:yso sz els i k d=stP sz els i k d els[i]?:=by
 simp only [yso];cases els[i]?<;>rfl
theorem yhb {sz i k:Nat} {els:List DV} {d x:DV}:stP sz els i k d (some x)=if (zzd d).all zwz=true/\k+(zzd d).length<=sz then some (els.set i (if (zzd d).length=sz then d else .agg (putAt (zzd x) k (zzd d)))) else none:=rfl
def mkR (D:DH) (T:SlT):Option Nat->Option Nat->Option DRes
 | some n,some m=>zro D T n m
 | _,_=>none
theorem ya0 {T:SlT} {a b:DV}:zea D (some T) (some a) (some b)=mkR D T (zqj a) (zqj b):=by
 simp only [zea,Option.bind];cases zqj a<;>cases zqj b<;>rfl
theorem yhc {T:SlT} {n m:Nat}:mkR D T (some n) (some m)=if n<=m/\m*T.by_<=140737488355328/\m<9223372036854775808/\0<T.sz then some (.val (.row D.length 0 n m) (D++[.arr T.sz (List.replicate m T.z)])) else none:=rfl
def ixW (T:SlT) (o off len n:Nat):Option DObj->Option DV
 | some (.arr sz els)=>if sz=T.sz/\n<len then some (.ref o (off+n) 0) else none
 | _=>none
def ixA (T:SlT) (o len n:Nat):Option DObj->Option DV
 | some (.app _ sz els)=>if sz=T.sz/\els.length=len/\n<len then some (.rfa o len n 0) else none
 | _=>none
theorem ydh {T:SlT} {A:Option (Nat×Nat×TypeId)} {n o off len cap:Nat}:zyt D (some T) A n (.row o off len cap)=ixW T o off len n D[o]?:=by
 simp only [zyt];cases D[o]? with
 | none=>rfl
 | some x=>cases x<;>rfl
theorem ydi {T:SlT} {A:Option (Nat×Nat×TypeId)} {n o len:Nat}:zyt D (some T) A n (.apl o len)=ixA T o len n D[o]?:=by
 simp only [zyt];cases D[o]? with
 | none=>rfl
 | some x=>cases x<;>rfl
theorem ya1 {T:SlT} {o off len n sz:Nat} {els:List DV}:ixW T o off len n (some (.arr sz els))=if sz=T.sz/\n<len then some (.ref o (off+n) 0) else none:=rfl
theorem ya2 {T:SlT} {o len n e sz:Nat} {els:List DV}:ixA T o len n (some (.app e sz els))=if sz=T.sz/\els.length=len/\n<len then some (.rfa o len n 0) else none:=rfl
def ldA (n i k:Nat) (a:Option Nat):Option DObj->Option DV
 | some (.app _ _ els)=>if els.length=n then ysn els i k a else none
 | _=>none
theorem ydj {a:Option Nat} {o n i k:Nat}:zve D a (.rfa o n i k)=ldA n i k a D[o]?:=by
 simp only [zve];cases D[o]? with
 | none=>rfl
 | some x=>cases x<;>rfl
theorem yoi {n i k e sz:Nat} {a:Option Nat} {els:List DV}:ldA n i k a (some (.app e sz els))=if els.length=n then ysn els i k a else none:=rfl
def lnA (len:Nat):Option DObj->Option Nat
 | some (.app _ _ els)=>if els.length=len then some len else none
 | _=>none
def lnW (len:Nat):Option DObj->Option Nat
 | some (.arr _ _)=>some len
 | _=>none
theorem ydk {o len:Nat}:zqf D (.apl o len)=lnA len D[o]?:=by
 simp only [zqf];cases D[o]? with
 | none=>rfl
 | some x=>cases x<;>rfl
theorem ydl {o off len cap:Nat}:zqf D (.row o off len cap)=lnW len D[o]?:=by
 simp only [zqf];cases D[o]? with
 | none=>rfl
 | some x=>cases x<;>rfl
theorem yoj {len e sz:Nat} {els:List DV}:lnA len (some (.app e sz els))=if els.length=len then some len else none:=rfl
theorem yok {len sz:Nat} {els:List DV}:lnW len (some (.arr sz els))=some len:=rfl
theorem ya3 {z:List DV} {pl:Nat->Option (Nat×Nat)} {l:List (Nat×DV)}:zf7 (some (z,pl)) (some l)=(zl4 pl z l).map .agg:=rfl
theorem xu4 {pl:Nat->Option (Nat×Nat)} {cs:List DV}:zl4 pl cs []=some cs:=rfl
def flP (pl:Nat->Option (Nat×Nat)) (cs:List DV) (d:DV) (l:List (Nat×DV)):Option (Nat×Nat)->Option (List DV)
 | some (o,n)=>if zrn n d=true/\o+n<=cs.length then zl4 pl (putAt cs o (zzd d)) l else none
 | none=>none
theorem ya4 {pl:Nat->Option (Nat×Nat)} {cs:List DV} {i:Nat} {d:DV} {l:List (Nat×DV)}:zl4 pl cs ((i,d)::l)=flP pl cs d l (pl i):=by
 simp only [zl4];cases pl i with
 | none=>rfl
 | some q=>rfl
theorem yhd {pl:Nat->Option (Nat×Nat)} {cs:List DV} {d:DV} {l:List (Nat×DV)} {o n:Nat}:flP pl cs d l (some (o,n))=if zrn n d=true/\o+n<=cs.length then zl4 pl (putAt cs o (zzd d)) l else none:=rfl
theorem yhe {o a b c:Nat}:zwz (.row o a b c)=true:=rfl
theorem yhf {o n:Nat}:zwz (.apl o n)=true:=rfl
theorem yhg {o a b:Nat}:zwz (.ref o a b)=true:=rfl
theorem yhh {b:ByteArray}:zwz (.f (.raw (.string b)))=true:=rfl
theorem yhi:zwz zyf=true:=rfl
theorem ydm {o a b c:Nat}:zzd (.row o a b c)=[.row o a b c]:=rfl
theorem xu5 {o n:Nat}:zzd (.apl o n)=[.apl o n]:=rfl
theorem xu6 {o a b:Nat}:zzd (.ref o a b)=[.ref o a b]:=rfl
theorem zb8 {α β:Type} {f:α->β} {l:List α} {i:Nat} {x:α}:(l.map f).set i (f x)=(l.set i x).map f:=by
 simp_all
theorem ya5 {g:DV->Option (FV×List Nat)}:zsq g []=some ([],[]):=rfl
theorem yol:zvu .i64 (-1)=-1:=zy9 (by omega) (by omega)
theorem yhj {all:List Oper} {tm:Trie DV} {cl:List (Nat×Option Nat)} {i d:Nat} {op:Op} {ty:TypeId} {pos:String} {aft:Array Edge}:agO nt all tm cl D i (some ⟨some d,op,ty,pos,aft,none⟩)=(ykp i cl&&(decide (d<nt)&&((tm.get d).map (eqD D)).getD false)):=rfl
theorem ya6 {l:List FV}:eqD D (.f (.lst l))=true:=rfl
theorem ya7:eqD D zyf=true:=rfl
theorem xu7 {l:List FV}:eqD D (.fp l)=true:=rfl
theorem ya8 {o n:Nat}:eqD D (.apl o n)=zsk D (.apl o n):=rfl
theorem ya9 {o a b c:Nat}:eqD D (.row o a b c)=zsk D (.row o a b c):=rfl
theorem xza {k:IntKind} {n:Int}:eqD D (.f (.raw (.int k n)))=true:=by
 show (match eqK k k with
  | true=>eqI n n
  | false=>false)=true
 rw [show eqK k k=true by cases k<;>rfl];rw [zmj];simp
theorem yhk {b:Bool}:eqD D (.f (.raw (.bool b)))=true:=by cases b<;>rfl
def lvA (n:Nat):Option DObj->Bool
 | some (.app _ _ els)=>decide (els.length=n)
 | _=>false
def lvW:Option DObj->Bool
 | some (.arr _ _)=>true
 | _=>false
theorem yyy {o n:Nat}:zsk D (.apl o n)=lvA n D[o]?:=by
 simp only [zsk];cases D[o]? with
 | none=>rfl
 | some x=>cases x<;>rfl
theorem yyz {o a b c:Nat}:zsk D (.row o a b c)=lvW D[o]?:=by
 simp only [zsk];cases D[o]? with
 | none=>rfl
 | some x=>cases x<;>rfl
theorem yom {n e sz:Nat} {els:List DV}:lvA n (some (.app e sz els))=decide (els.length=n):=rfl
theorem xzb {sz:Nat} {els:List DV}:lvW (some (.arr sz els))=true:=rfl
attribute [simp] yhj ya6 ya7 xu7 ya8 ya9 xza yhk yyy yyz yom xzb
section
variable {tm:Trie DV} {t k:Tmp} {e sz:Nat} {s:SD}
def ghF (base:Nat) (s:SD):Option (List Gh)->Option SD
 | some l=>zvz base l s
 | none=>some s
theorem xu8 {id:Nat} {f nt base:Nat} {ro:Option Nat} {raw:Bool} {gh:List (Nat×List Gh)} {pl:List (Nat×(List PI×List Nat))} {keep:List (Nat×List Tmp)} {long:Bool}:zbc ⟨f,nt,ro,base,⟨raw,gh,pl,keep,long⟩⟩ id s=ghF base s (zym id gh):=by
 simp only [zbc];cases zym id gh<;>rfl
theorem yhl:ghF base s none=some s:=rfl
theorem yhm {l:List Gh}:ghF base s (some l)=zvz base l s:=rfl
def ghK (base:Nat) (l:List Gh):Option SD->Option SD
 | some s=>zvz base l s
 | none=>none
theorem xu9:zvz base [] s=some s:=rfl
theorem xzc {g:Gh} {l:List Gh}:zvz base (g::l) s=ghK base l (zxh base s g):=by
 simp only [zvz];cases zxh base s g<;>rfl
theorem yhn {l:List Gh}:ghK base l (some s)=zvz base l s:=rfl
def gfS (tm:Trie DV) (t:Tmp) (D:DH):Option (DV×List Nat)->Option SD
 | some (d',is)=>some ⟨tm.put t d',zm0 D is⟩
 | none=>none
def gfR (base:Nat) (tm:Trie DV) (t:Tmp) (D:DH):Option DV->Option SD
 | some d=>gfS tm t D (zqx base D d)
 | none=>none
theorem xpz:zxh base ⟨tm,D⟩ (.frz t)=gfR base tm t D (tm.get t):=by
 simp only [zxh];cases tm.get t with
 | none=>rfl
 | some d=>
  simp only [gfR];cases zqx base D d with
  | none=>rfl
  | some q=>rfl
theorem yho {d:DV}:gfR base tm t D (some d)=gfS tm t D (zqx base D d):=rfl
theorem yhp {d':DV} {is:List Nat}:gfS tm t D (some (d',is))=some ⟨tm.put t d',zm0 D is⟩:=rfl
theorem yy0:zm0 D []=D:=rfl
theorem ze1 {o:Nat} {l:List Nat}:zm0 D (o::l)=zm0 (D.set o .dead) l:=rfl
def goR (tm:Trie DV) (t e sz:Nat) (D:DH):Option DV->Option SD
 | some (.f (.raw (.slice none 0 0)))=>some ⟨tm.put t (.apl D.length 0),D++[.app e sz []]⟩
 | _=>none
theorem xp0:zxh base ⟨tm,D⟩ (.own t e sz)=goR tm t e sz D (tm.get t):=rfl
theorem xzd:goR tm t e sz D (some zyf)=some ⟨tm.put t (.apl D.length 0),D++[.app e sz []]⟩:=rfl
def gcC (base:Nat) (tm:Trie DV) (D:DH) (e sz o i c s':Nat) (els cs:List DV):Option DV->Option SD
 | some (.f (.raw (.slice none 0 0)))=>if base<=o then some ⟨tm,D.set o (.arr s' (els.set i (.agg (cs.set c (.apl D.length 0)))))++[.app e sz []]⟩ else none
 | _=>none
def gcE (base:Nat) (tm:Trie DV) (D:DH) (e sz o i c s':Nat) (els:List DV):Option DV->Option SD
 | some (.agg cs)=>gcC base tm D e sz o i c s' els cs cs[c]?
 | _=>none
def gcO (base:Nat) (tm:Trie DV) (D:DH) (e sz o i c:Nat):Option DObj->Option SD
 | some (.arr s' els)=>gcE base tm D e sz o i c s' els els[i]?
 | _=>none
def gcR (base:Nat) (tm:Trie DV) (D:DH) (k e sz:Nat):Option DV->Option SD
 | some (.ref o i j)=>gcO base tm D e sz o i (j+k) D[o]?
 | _=>none
theorem xta {k:Nat}:zxh base ⟨tm,D⟩ (.ownC t k e sz)=gcR base tm D k e sz (tm.get t):=by
 simp only [zxh];cases tm.get t with
 | none=>rfl
 | some d=>cases d<;>rfl
theorem xze {o i j k:Nat}:gcR base tm D k e sz (some (.ref o i j))=gcO base tm D e sz o i (j+k) D[o]?:=rfl
theorem xzf {o i c s':Nat} {els:List DV}:gcO base tm D e sz o i c (some (.arr s' els))=gcE base tm D e sz o i c s' els els[i]?:=rfl
theorem xzg {o i c s':Nat} {els cs:List DV}:gcE base tm D e sz o i c s' els (some (.agg cs))=gcC base tm D e sz o i c s' els cs cs[c]?:=rfl
theorem xzh {o i c s':Nat} {els cs:List DV}:gcC base tm D e sz o i c s' els cs (some zyf)=if base<=o then some ⟨tm,D.set o (.arr s' (els.set i (.agg (cs.set c (.apl D.length 0)))))++[.app e sz []]⟩ else none:=rfl
def giK (base:Nat) (tm:Trie DV) (o p:Nat) (y:FV) (D':DH):Option DObj->Option SD
 | some (.arr sz' els')=>if base<=o/\zrm y=true/\sz'=1 then some ⟨tm,D'.set o (.arr sz' (els'.set p (.f y)))⟩ else none
 | _=>none
def giF (base:Nat) (tm:Trie DV) (D:DH) (o p:Nat):Option (DV×List Nat)->Option SD
 | some (.f y,is)=>giK base tm o p y (zm0 D is) (zm0 D is)[o]?
 | _=>none
def giX (base:Nat) (tm:Trie DV) (D:DH) (o p:Nat):List DV->Option SD
 | [x]=>giF base tm D o p (zqx base D x)
 | _=>none
def giE (base:Nat) (tm:Trie DV) (D:DH) (o p:Nat):Option DV->Option SD
 | some d=>giX base tm D o p (zzd d)
 | none=>none
def giO (base:Nat) (tm:Trie DV) (D:DH) (o p:Nat):Option DObj->Option SD
 | some (.arr sz els)=>giE base tm D o p els[p]?
 | _=>none
def giN (base:Nat) (tm:Trie DV) (D:DH) (o off:Nat):Option Nat->Option SD
 | some i=>giO base tm D o (off+i) D[o]?
 | none=>none
def giR (base:Nat) (tm:Trie DV) (D:DH) (k:Option DV):Option DV->Option SD
 | some (.row o off _ _)=>giN base tm D o off (k.bind zi5)
 | _=>none
theorem xtb:zxh base ⟨tm,D⟩ (.frzI t k)=giR base tm D (tm.get k) (tm.get t):=by
 simp only [zxh];cases tm.get t with
 | none=>rfl
 | some d=>cases d<;>rfl
theorem xzi {o off a b:Nat} {kv:DV}:giR base tm D (some kv) (some (.row o off a b))=giN base tm D o off (zi5 kv):=rfl
theorem yhq {o off i:Nat}:giN base tm D o off (some i)=giO base tm D o (off+i) D[o]?:=rfl
theorem xzj {o p sz:Nat} {els:List DV}:giO base tm D o p (some (.arr sz els))=giE base tm D o p els[p]?:=rfl
theorem yhr {o p:Nat} {d:DV}:giE base tm D o p (some d)=giX base tm D o p (zzd d):=rfl
theorem xzk {o p:Nat} {x:DV}:giX base tm D o p [x]=giF base tm D o p (zqx base D x):=rfl
theorem yhs {o p:Nat} {y:FV} {is:List Nat}:giF base tm D o p (some (.f y,is))=giK base tm o p y (zm0 D is) (zm0 D is)[o]?:=rfl
theorem xzl {o p sz':Nat} {y:FV} {D':DH} {els':List DV}:giK base tm o p y D' (some (.arr sz' els'))=if base<=o/\zrm y=true/\sz'=1 then some ⟨tm,D'.set o (.arr sz' (els'.set p (.f y)))⟩ else none:=rfl
end
attribute [simp] xu8 yhl yhm xu9 xzc yhn xpz yho yhp yy0 ze1 xp0 xzd xta xze xzf xzg xzh xtb xzi yhq xzj yhr xzk yhs xzl
attribute [simp] ya5 yol yak xu0 yal yoh zlk yue yam yan yao yap yaq yar yas yat yau ydd yde ydf yav yaw ydg yax yha xu1 xu2 yay yaz xu3 yhb ya0 yhc ydh ydi ya1 ya2 ydj yoi ydk ydl yoj yok ya3 xu4 ya4 yhd yhe yhf yhg yhh yhi ydm xu5 xu6 zgo zby
end Go.Dv
namespace Go.Dv
attribute [local simp] zza zyw
open Go Go.Sim
theorem yht {l:List FV}:zrm (.lst l)=true:=rfl
theorem yhu {k:IntKind} {n:Int}:zrm (.raw (.int k n))=true:=rfl
theorem yon {b:Bool}:zrm (.raw (.bool b))=true:=rfl
attribute [simp] yht yhu yon
end Go.Dv
namespace Go.Dv
attribute [local simp] zza zyw
open Go Go.Sim
def qV (o n:Nat):DV:=if n=1 then .row o 0 1 1 else .apl o n
def qR (o n i:Nat):DV:=if n=1 then .ref o i 0 else .rfa o n i 0
def qO (e sz:Nat) (els:List DV):DObj:=if els.length=1 then .arr sz els else .app e sz els
variable {D:DH} {base:Nat}
def lnQ (n:Nat) (x:Option DObj):Option Nat:=if n=1 then lnW 1 x else lnA n x
theorem xlf {o n:Nat}:zqf D (qV o n)=lnQ n D[o]?:=by
 unfold qV lnQ;split
 .rename_i h;rw [ydl]
 .rw [ydk]
theorem xp1 {n e sz:Nat} {els:List DV} (h:els.length=n):lnQ n (some (qO e sz els))=some n:=by
 unfold lnQ qO;subst h;split
 .rename_i g;rw [yok,g]
 rename_i g;rw [yoj,if_pos rfl]
def ixQ (T:SlT) (o n i:Nat) (x:Option DObj):Option DV:=if n=1 then ixW T o 0 1 i x else ixA T o n i x
theorem xlg {T:SlT} {A:Option (Nat×Nat×TypeId)} {o n i:Nat}:zyt D (some T) A i (qV o n)=ixQ T o n i D[o]?:=by
 unfold qV ixQ;split
 .rw [ydh]
 rw [ydi]
theorem xp2 {T:SlT} {o n i e sz:Nat} {els:List DV} (h:els.length=n) (hs:sz=T.sz) (hi:i<n):ixQ T o n i (some (qO e sz els))=some (qR o n i):=by
 unfold ixQ qO qR;subst h;split
 .simp_all
 simp_all
def ldQ (n i:Nat) (a:Option Nat) (x:Option DObj):Option DV:=if n=1 then ldO i 0 a x else ldA n i 0 a x
theorem xlh {a:Option Nat} {o n i:Nat}:zve D a (qR o n i)=ldQ n i a D[o]?:=by
 unfold qR ldQ;split
 .rw [ydb]
 rw [ydj]
theorem xp3 {a:Option Nat} {n i e sz:Nat} {els:List DV} (h:els.length=n):ldQ n i a (some (qO e sz els))=ysn els i 0 a:=by
 unfold ldQ qO;subst h;split
 .rfl
 rw [yoi,if_pos rfl]
def apQ (D:DH) (base:Nat) (T:SlT) (o n:Nat) (new:List DV) (x:Option DObj):Option (DV×DH):=if n=1 then apW D base T o 0 1 1 new x else apA D base T o n new x
theorem xli {T:SlT} {o n:Nat} {new:List DV}:zwk D base T (qV o n) new=apQ D base T o n new D[o]?:=by
 unfold qV apQ;split
 .rw [ydf]
 rw [yde]
theorem xp4 {T:SlT} {o n e sz:Nat} {els:List DV} {x:DV} (h:els.length=n) (hn:1<=n) (he:e=T.e) (hs:sz=T.sz) (hb:base<=o) (h1:(n+1)*T.by_<=1099511627776) (h2:n+1<=1099511627776) :
  apQ D base T o n [x] (some (qO e sz els))=some (qV o (n+1),D.set o (qO e sz (els++[x]))):=by
 unfold apQ qO qV;subst h he hs;rw [if_neg (show ¬els.length+1=1 by omega),if_neg (show ¬(els++[x]).length=1 by rw [tz5];show ¬els.length+1=1;omega)];split
 .simp_all
 simp_all
theorem xlj {L o n:Nat}:below L (qV o n)=decide (o<L):=by
 unfold qV;split
 .exact zkl
 exact yyx
theorem xp5 {L e sz:Nat} {els:List DV}:zza L (qO e sz els)=els.all (below L):=by
 unfold qO;split<;>rfl
theorem xtc {o n:Nat}:zwz (qV o n)=true:=by unfold qV;split<;>rfl
theorem xlk {o n:Nat}:zzd (qV o n)=[qV o n]:=by unfold qV;split<;>rfl
theorem xzm {o n:Nat}:zva (qV o n)=qV o n:=by unfold qV;split<;>rfl
theorem xzn {o n:Nat}:zew (qV o n)=qV o n:=by unfold qV;split<;>rfl
def lvQ (n:Nat) (x:Option DObj):Bool:=if n=1 then lvW x else lvA n x
theorem ydn {o n:Nat}:zsk D (qV o n)=lvQ n D[o]?:=by
 unfold qV lvQ;split
 .exact yyz
 exact yyy
theorem xp6 {o n:Nat}:eqD D (qV o n)=lvQ n D[o]?:=by
 rw [<-ydn];unfold qV;split<;>rfl
theorem xp7 {n e sz:Nat} {els:List DV} (h:els.length=n):lvQ n (some (qO e sz els))=true:=by
 unfold lvQ qO;subst h;split
 .rfl
 rw [yom];exact decide_eq_true rfl
theorem xp8 {o n:Nat}:zyw (some (qV o n))=some o:=by unfold qV;split<;>rfl
theorem xtd {o n i:Nat}:zyw (some (qR o n i))=some o:=by unfold qR;split<;>rfl
def fzQ (b:Nat) (D:DH) (o n:Nat) (x:Option DObj):Option (FV×List Nat):=if n=1 then fzR b D 3 o 0 1 x else fzO b D 3 o n x
theorem xp9 {b:Nat} {o n:Nat}:zmz b D (qV o n)=(fzQ b D o n D[o]?).map λ(q:FV×List Nat)=>((.f q.1:DV),q.2):=by
 unfold qV fzQ;split
 .rw [yps]
 rw [ypt]
theorem xoa {b:Nat} {o n:Nat}:zc6 b D (qV o n)=zmz b D (qV o n):=by unfold qV;split<;>rfl
theorem xob {b:Nat} {o n:Nat}:zqx b D (qV o n)=zmz b D (qV o n):=by unfold qV;split<;>rfl
theorem xoc {b:Nat} {o n e sz:Nat} {els:List DV} (h:els.length=n) (hb:b<=o) (hs:0<sz):fzQ b D o n (some (qO e sz els))=(zsq (frz b D 3) els).map λq=>(.lst q.1,o::q.2):=by
 unfold fzQ qO;subst h;split
 .rename_i g;rw [ypu,if_pos ⟨hb,by omega,hs⟩,List.drop_zero,tzk (by omega)]
 .simp_all
attribute [simp] xlf xp1 xlg xp2 xlh xp3 xli xp4 xlj xp5 xtc xlk xzm xzn ydn xp6 xp7 xp8 xtd xp9 xoa xob xoc
end Go.Dv
namespace Go.Dv
attribute [local simp] zza zyw
open Go Go.Sim
def alR (D:DH):Option Value->Option DRes
 | some z=>if zrn (zzd (ofV z)).length (ofV z)=true then some (.val (.ref D.length 0 0) (D++[.arr (zzd (ofV z)).length [ofV z]])) else none
 | none=>none
theorem xll {P:Program} {D:DH} {e:TypeId}:zl2 P D e=alR D (zxa P e):=by
 unfold zl2 alR;cases zxa P e<;>rfl
theorem yy1 {D:DH} {z:Value}:alR D (some z)=if zrn (zzd (ofV z)).length (ofV z)=true then some (.val (.ref D.length 0 0) (D++[.arr (zzd (ofV z)).length [ofV z]])) else none:=rfl
theorem yoo {l:List Value}:ofV (.agg l.toArray)=.agg (l.map rv):=by simp [ofV]
theorem yhv:ofV (.slice none 0 0)=zyf:=rfl
theorem yhw:ofV (.map none)=rv (.map none):=rfl
theorem yhx {b:Nat} {D:DH}:zqx b D zyf=some (.f (.lst []),[]):=rfl
attribute [simp] xll yy1 yoo yhv yhw yhx
end Go.Dv
namespace Go.Dv
attribute [local simp] zza zyw
open Go Go.Sim
def rsO (l:Option (List DV)) (D:DH) (t:Option DV):Option (Option Nat)->Option (List DV)
 | some a=>rsC l (t.bind (zve D a))
 | none=>none
theorem xzo {D:DH} {P:Program} {tm:Trie DV} {t ty:Nat} {l:List ResultVar}:zyn D P tm (.cell t ty::l)=rsO (zyn D P tm l) D (tm.get t) (tLd P ty):=by
 simp only [zyn];cases tLd P ty with
 | none=>
  cases tm.get t<;>rfl
 | some a=>
  cases tm.get t with
  | none=>rfl
  | some d=>
   show (match zve D a d with
    | some d=>(zyn D P tm l).map (d::·)
    | none=>none)=rsC (zyn D P tm l) (zve D a d)
   cases zve D a d<;>rfl
theorem yhy {D:DH} {l:Option (List DV)} {t:Option DV} {a:Option Nat}:rsO l D t (some a)=rsC l (t.bind (zve D a)):=rfl
attribute [simp] xzo yhy
end Go.Dv
namespace Go.Dv
attribute [local simp] zza zyw
open Go Go.Sim
theorem zys {L sz:Nat} {els:List DV}:zza L (.arr sz els)=els.all (below L):=rfl
theorem zvc {L e sz:Nat} {els:List DV}:zza L (.app e sz els)=els.all (below L):=rfl
theorem yop {L:Nat} {ks:List Value} {vs:List DV}:zza L (.map ks vs)=vs.all (below L):=rfl
theorem xzp {L:Nat}:zza L .dead=true:=rfl
attribute [simp] zys zvc yop xzp
end Go.Dv
namespace Go.Dv
attribute [local simp] zza zyw
open Go Go.Sim
variable {P:Program} {D:DH} {base:Nat}
theorem xzq {o i k:Nat}:zba D (.ref o i k)=faO o i k 0 D[o]?:=by
 simp only [zba];rcases hD:D[o]? with _ | x
 .simp [zut,hD,faO]
 cases x<;>simp [zut,hD,faO]
theorem xte {l:List FV}:zba D (.fp l)=some (.fp l):=rfl
theorem xtf {g:FuncId} {a b:List DV}:zba D (.fn g a b)=some (.fn g a b):=rfl
def nlA (o n i k:Nat):Option DObj->Option DV
 | some (.app _ _ els)=>if els.length=n then some (.rfa o n i k) else none
 | _=>none
theorem xzr {o n i k:Nat}:zba D (.rfa o n i k)=nlA o n i k D[o]?:=by
 simp only [zba];rcases hD:D[o]? with _ | x
 .simp [zut,hD,nlA]
 cases x<;>simp [zut,hD,nlA]
theorem xzs {o n i k e sz:Nat} {els:List DV}:nlA o n i k (some (.app e sz els))=if els.length=n then some (.rfa o n i k) else none:=rfl
theorem yhz {M:Option (TypeId×Option Value)} {ok:Bool} {m k:DV}:lkR P D M ok (some m) (some k)=zv3 D (zso P D M m (toV k) ok):=rfl
def lkF (z:Option Value) (ok:Bool) (vs:List DV):Option (Option Nat)->Option DV
 | some (some i)=>(vs[i]?).map (zsn ok true)
 | some none=>z.map λz=>zsn ok false (ofV z)
 | none=>none
def lkO (P:Program) (kt:TypeId) (z:Option Value) (k:Value) (ok:Bool):Option DObj->Option DV
 | some (.map ks vs)=>lkF z ok vs (zx0 P kt k (zwl ks))
 | _=>none
theorem xod {kt:TypeId} {z:Option Value} {o:Nat} {k:Value} {ok:Bool}:zso P D (some (kt,z)) (.mp o) (some k) ok=lkO P kt z k ok D[o]?:=by
 simp only [zso];rcases hD:D[o]? with _ | x
 .rfl
 cases x with
 | map ks vs=>
  show (match zx0 P kt k (zwl ks) with
   | some (some i)=>(vs[i]?).map (zsn ok true)
   | some none=>z.map λz=>zsn ok false (ofV z)
   | none=>none)=lkF z ok vs (zx0 P kt k (zwl ks))
  rcases zx0 P kt k (zwl ks) with _ | _ | i<;>rfl
 | _=>rfl
theorem xzt {kt:TypeId} {z:Option Value} {k:Value} {ok:Bool} {ks:List Value} {vs:List DV}:lkO P kt z k ok (some (.map ks vs))=lkF z ok vs (zx0 P kt k (zwl ks)):=rfl
theorem yh0 {z:Option Value} {ok:Bool} {vs:List DV} {i:Nat}:lkF z ok vs (some (some i))=(vs[i]?).map (zsn ok true):=rfl
theorem yh1 {z:Value} {ok:Bool} {vs:List DV}:lkF (some z) ok vs (some none)=some (zsn ok false (ofV z)):=rfl
theorem xzu {b:Bool} {d:DV}:zsn true b d=.tup [d,rv (.bool b)]:=rfl
theorem xzv {b:Bool} {d:DV}:zsn false b d=d:=rfl
theorem yoq {M:Option (TypeId×Option Value)} {m k d:DV}:xpj P D base M (some m) (some k) (some d)=hpD (rv undef) (zuy P D base M m (toV k) d):=rfl
def upF (D:DH) (base o:Nat) (ks:List Value) (vs:List DV) (k:Value) (d:DV):Option (Option Nat)->Option DH
 | some (some i)=>match ks[i]? with
  | some k'=>if (zyj k'&&Instr.sameBits 10000 k' k)=true then some (D.set o (.map (ks.set i k) (vs.set i d))) else none
  | none=>none
 | some none=>some (D.set o (.map (ks++[k]) (vs++[d])))
 | none=>none
def upO (P:Program) (D:DH) (base:Nat) (kt:TypeId) (k:Value) (d:DV) (o:Nat):Option DObj->Option DH
 | some (.map ks vs)=>if base<=o then upF D base o ks vs k d (zx0 P kt k (zwl ks)) else none
 | _=>none
theorem xoe {kt:TypeId} {z:Option Value} {o:Nat} {k:Value} {d:DV}:zuy P D base (some (kt,z)) (.mp o) (some k) d=upO P D base kt k d o D[o]?:=by
 simp only [zuy];rcases hD:D[o]? with _ | x
 .rfl
 cases x with
 | map ks vs=>
  show (if base<=o then (match zx0 P kt k (zwl ks) with
   | some (some i)=>match ks[i]? with
    | some k'=>if (zyj k'&&Instr.sameBits 10000 k' k)=true then some (D.set o (.map (ks.set i k) (vs.set i d))) else none
    | none=>none
   | some none=>some (D.set o (.map (ks++[k]) (vs++[d])))
   | none=>none) else none)=if base<=o then upF D base o ks vs k d (zx0 P kt k (zwl ks)) else none
  split
  .rcases zx0 P kt k (zwl ks) with _ | _ | i
   .rfl
   .rfl
   rfl
  .rfl
 | _=>rfl
theorem xzw {kt:TypeId} {k:Value} {d:DV} {o:Nat} {ks:List Value} {vs:List DV}:upO P D base kt k d o (some (.map ks vs))=if base<=o then upF D base o ks vs k d (zx0 P kt k (zwl ks)) else none:=rfl
theorem yh2 {o:Nat} {ks:List Value} {vs:List DV} {k:Value} {d:DV}:upF D base o ks vs k d (some none)=some (D.set o (.map (ks++[k]) (vs++[d]))):=rfl
attribute [simp] xzq xte xtf xzr xzs yhz xod xzt yh0 yh1 xzu xzv yoq xoe xzw yh2
def zwo (x:Int):Value:=.int .i64 x
structure KeyD (P:Program) (kt:TypeId) {K:Type} [DecidableEq K] (enc:K->Value):Prop where
 find:∀ (ks:List K) (k:K),zx0 P kt (enc k) (zwl (ks.map enc))=some (ks.findIdx? λy=>decide (k=y))
theorem ze2 {x:Int}:∀ {q:List Int} {s:Nat},zni .i64 x (zwl (q.map zwo)) s=some ((q.findIdx? λy=>decide (x=y)).map (· + s))
 | [],s=>rfl
 | y::q,s=>by
  show zni .i64 x (⟨zwo y,undef,0⟩::zwl (q.map zwo)) s=_;simp only [zni,zwo];rw [show eqK .i64 .i64=true from rfl,zgp,List.findIdx?_cons];have ih:=ze2 (x:=x) (q:=q) (s:=s+1);by_cases hx:x=y
  .simp [hx]
  simp only [hx,decide_false,Bool.false_eq_true,if_false];show zni .i64 x (zwl (q.map zwo)) (s+1)=_;rw [ih];cases List.findIdx? (λy=>decide (x=y)) q with
  | none=>rfl
  | some i=>simp;omega
theorem xlm {kt:TypeId} (hk:P.underlying kt=some (.int .i64)):KeyD P kt zwo:=by
 refine ⟨λks x=>?_⟩;unfold zx0;rw [hk];show zni .i64 x (zwl (ks.map zwo)) 0=_;rw [ze2];cases List.findIdx? (λy=>decide (x=y)) ks<;>rfl
theorem zgy:∀ (a b:List UInt8),eqB a b=decide (a=b)
 | [],[]=>rfl
 | [],_::_=>rfl
 | _::_,[]=>rfl
 | a::l,b::m=>by
  simp only [eqB];have ih:=zgy l m;cases h:Nat.beq a.toNat b.toNat with
  | true=>
   have:=tzo h;have:a=b:=UInt8.toNat_inj.1 this;subst this;simp only [ih,tyi,true_and]
  | false=>
   have hne:a≠b:=λe=>by subst e;rw [show Nat.beq a.toNat a.toNat=true by simp] at h;cases h
   simp [hne]
theorem ze3 {x:List UInt8}:∀ {q:List (List UInt8)} {s:Nat},znj ⟨x.toArray⟩ (zwl (q.map zxf)) s=some ((q.findIdx? λy=>decide (x=y)).map (· + s))
 | [],s=>rfl
 | y::q,s=>by
  show znj ⟨x.toArray⟩ (⟨zxf y,undef,0⟩::zwl (q.map zxf)) s=_;simp only [znj,zxf];rw [zgy,List.findIdx?_cons];have ih:=ze3 (x:=x) (q:=q) (s:=s+1);by_cases hx:x=y
  .simp [hx]
  simp only [hx,decide_false,Bool.false_eq_true,if_false];show znj ⟨x.toArray⟩ (zwl (q.map zxf)) (s+1)=_;rw [ih];cases List.findIdx? (λy=>decide (x=y)) q with
  | none=>rfl
  | some i=>simp;omega
theorem xxy {kt:TypeId} (hk:P.underlying kt=some .string):KeyD P kt zxf:=by
 refine ⟨λks x=>?_⟩;unfold zx0;rw [hk];show znj ⟨x.toArray⟩ (zwl (ks.map zxf)) 0=_;rw [ze3];cases List.findIdx? (λy=>decide (x=y)) ks<;>rfl
theorem zsu {K:Type} [DecidableEq K] {enc:K->Value} {kt:TypeId} (hs:∀ k,zyj (enc k)=true) (he:∀ k y,ziq P kt (enc k) (enc y)=some (decide (k=y))) {x:K}:∀ {q:List K} {s:Nat},zti P kt (enc x) (zwl (q.map enc)) s=some ((q.findIdx? λy=>decide (x=y)).map (· + s))
 | [],s=>rfl
 | y::q,s=>by
  show zti P kt (enc x) (⟨enc y,undef,0⟩::zwl (q.map enc)) s=_;simp only [zti,hs,he];rw [List.findIdx?_cons];have ih:=zsu hs he (x:=x) (q:=q) (s:=s+1);by_cases hx:x=y
  .simp [hx]
  simp only [hx,decide_false,Bool.false_eq_true,if_false];rw [ih];cases List.findIdx? (λy=>decide (x=y)) q with
  | none=>rfl
  | some i=>simp;omega
end Go.Dv
namespace Go.Dv
attribute [local simp] zza zyw
open Go Go.Sim
theorem zyo {L L':Nat} (h:L<=L') (x:DObj) (hx:zza L x=true):zza L' x=true:=by
 cases x with
 | arr sz els=>simp only [zza,tzx] at hx ⊢;exact λd hd=>(zy8 h).1 d (hx d hd)
 | app e sz els=>simp only [zza,tzx] at hx ⊢;exact λd hd=>(zy8 h).1 d (hx d hd)
 | map ks vs=>simp only [zza,tzx] at hx ⊢;exact λd hd=>(zy8 h).1 d (hx d hd)
 | loop=>rfl
 | dead=>rfl
 | chn=>simp only [zza,tzx] at hx ⊢;exact λq hq d hd=>(zy8 h).1 d (hx q hq d hd)
theorem zwv {base:Nat} {D X:DH} {k:Nat} (hb:base<=D.length) (h:(D.drop base).all (zza D.length)=true):zyg base (D.length+k) (D++X)=(X.take k).all (zza (D.length+k)):=by
 have h2:(D.drop base).all (zza (D.length+k))=true:=(by rw [tzx] at h ⊢;intro x hx;exact zyo (by omega) x (h x hx));unfold zyg;rw [List.drop_append_of_le_length hb,List.take_append,tzk (by rw [tyx];omega),List.all_append,h2,tzi];congr 2;rw [tyx];omega
end Go.Dv
namespace Go.Dv
attribute [local simp] zza zyw
open Go Go.Sim
theorem xtg {o i k:Nat}:zyw (some (.ref o i k))=some o:=rfl
theorem xth {o n i k:Nat}:zyw (some (.rfa o n i k))=some o:=rfl
theorem xti {o a b c:Nat}:zyw (some (.row o a b c))=some o:=rfl
theorem xtj {o n:Nat}:zyw (some (.apl o n))=some o:=rfl
theorem xof {o:Nat}:zyw (some (.mp o))=some o:=rfl
theorem xog {l:List FV}:zyw (some (.fp l))=none:=rfl
theorem xln {x:FV}:zyw (some (.f x))=none:=rfl
theorem xtk {l:List DV}:zyw (some (.agg l))=none:=rfl
theorem xtl {l:List DV}:zyw (some (.tup l))=none:=rfl
theorem xoh {g:FuncId} {a b:List DV}:zyw (some (.fn g a b))=none:=rfl
theorem xzx:zyw none=none:=rfl
attribute [simp] xtg xth xti xtj xof xog xln xtk xtl xoh xzx
end Go.Dv
namespace Go.Dv
attribute [local simp] zza zyw
open Go Go.Sim
variable {P:Program} {D:DH} {base:Nat} {tm:Trie DV}
def hiB (tm:Trie DV):Option Operand->Option (Option Nat)
 | none=>some none
 | some x=>((zzl tm x).bind zi5).map some
def slK (P:Program) (D:DH) (t:TypeId) (d:DV):Option Nat->Option (Option Nat)->Option DV
 | some l,some h=>zvx P D t l h d
 | _,_=>none
def ydo:DV->Bool
 | .f (.raw (.string _))=>false
 | _=>true
theorem xtm {t:TypeId} {d:DV} {lo hi:Option Operand} (hd:ydo d=true):zvy P tm D t (some d) lo hi none=slK P D t d (bdD tm 0 lo) (hiB tm hi):=by
 unfold zvy;split
 .rename_i s heq;simp only [tza] at heq;subst heq;simp [ydo] at hd
 .rename_i d0 _ heq;simp only [tza] at heq;subst heq;simp only;cases bdD tm 0 lo with
  | none=>rfl
  | some l=>
   cases hi with
   | none=>rfl
   | some x=>
    simp only [hiB];cases (zzl tm x).bind zi5<;>rfl
 .rename_i heq;cases heq
theorem xtn {t:TypeId} {l:List FV} {lo hi:Option Operand}:zvy P tm D t (some (.f (.lst l))) lo hi none=slK P D t (.f (.lst l)) (bdD tm 0 lo) (hiB tm hi):=xtm rfl
theorem xto {t:TypeId} {lo hi:Option Operand}:zvy P tm D t (some zyf) lo hi none=slK P D t zyf (bdD tm 0 lo) (hiB tm hi):=xtm rfl
theorem xtp {t:TypeId} {o a b c:Nat} {lo hi:Option Operand}:zvy P tm D t (some (.row o a b c)) lo hi none=slK P D t (.row o a b c) (bdD tm 0 lo) (hiB tm hi):=xtm rfl
theorem xoi {t:TypeId} {l:List FV} {lo hi:Option Operand}:zvy P tm D t (some (.fp l)) lo hi none=slK P D t (.fp l) (bdD tm 0 lo) (hiB tm hi):=xtm rfl
theorem xzy {n:Nat}:bdD tm n none=some n:=rfl
theorem xoj {n:Nat} {x:Operand}:bdD tm n (some x)=(zzl tm x).bind zi5:=rfl
theorem xzz:hiB tm none=some none:=rfl
theorem xok {x:Operand}:hiB tm (some x)=((zzl tm x).bind zi5).map some:=rfl
theorem yh3 {t:TypeId} {d:DV} {l:Nat} {h:Option Nat}:slK P D t d (some l) (some h)=zvx P D t l h d:=rfl
theorem xol {t:TypeId} {l:Nat} {h:Option Nat} {cs:List FV}:zvx P D t l h (.fp cs)=zh9 l h cs (zmy P t):=rfl
theorem xtq {t:TypeId} {l:Nat} {h:Option Nat} {cs:List FV}:zvx P D t l h (.f (.lst cs))=zwu D (tSl P t) l h (.f (.lst cs)):=rfl
theorem xtr {t:TypeId} {l:Nat} {h:Option Nat}:zvx P D t l h zyf=zwu D (tSl P t) l h zyf:=rfl
theorem xts {t:TypeId} {l:Nat} {h:Option Nat} {o a b c:Nat}:zvx P D t l h (.row o a b c)=zwu D (tSl P t) l h (.row o a b c):=rfl
theorem xtt {l:Nat} {h:Option Nat} {cs:List FV} {m e:Nat}:zh9 l h cs (some (m,1,e))=if l<h.getD m/\h.getD m<=m/\m<=cs.length/\m<=1000000000/\cs.all zrm=true then some (.f (.lst ((cs.take (h.getD m)).drop l))) else none:=rfl
theorem xtu {T:SlT} {l:Nat} {h:Option Nat} {x:List FV}:zwu D (some T) l h (.f (.lst x))=if l<=h.getD x.length/\h.getD x.length<=x.length/\(x.all λy=>Nat.beq (zxl y).length T.sz)=true then some (.f (.lst ((x.take (h.getD x.length)).drop l))) else none:=rfl
theorem xtv {T:SlT} {l:Nat} {h:Option Nat}:zwu D (some T) l h zyf=if l=0/\h.getD 0=0 then some zyf else none:=rfl
def dsW (T:SlT) (l:Nat) (h:Option Nat) (o off len cap:Nat):Option DObj->Option DV
 | some (.arr sz _)=>if sz=T.sz/\l<=h.getD len/\h.getD len<=cap then some (if l=0 then .row o off (h.getD len) cap else if l=cap then .row o off 0 0 else .row o (off+l) (h.getD len-l) (cap-l)) else none
 | _=>none
theorem xtw {T:SlT} {l:Nat} {h:Option Nat} {o a b c:Nat}:zwu D (some T) l h (.row o a b c)=dsW T l h o a b c D[o]?:=by
 simp only [zwu];cases D[o]? with
 | none=>rfl
 | some x=>cases x<;>rfl
theorem xz0 {T:SlT} {l:Nat} {h:Option Nat} {o off len cap sz:Nat} {els:List DV}:dsW T l h o off len cap (some (.arr sz els))=if sz=T.sz/\l<=h.getD len/\h.getD len<=cap then some (if l=0 then .row o off (h.getD len) cap else if l=cap then .row o off 0 0 else .row o (off+l) (h.getD len-l) (cap-l)) else none:=rfl
attribute [simp] xtn xto xtp xoi xzy xoj xzz xok yh3 xol xtq xtr xts xtt xtu xtv xtw xz0
def gpF (base:Nat) (tm:Trie DV) (t o:Nat) (D:DH):Option (List FV)->Option SD
 | some ys=>if base<=o/\0<ys.length then some ⟨tm.put t (.fp ys),D.set o .dead⟩ else none
 | none=>none
def xr5 (base:Nat) (tm:Trie DV) (t o:Nat) (D:DH):Option DObj->Option SD
 | some (.arr sz [d])=>gpF base tm t o D (ysm (zzd d))
 | _=>none
def gpR (base:Nat) (tm:Trie DV) (t:Nat) (D:DH):Option DV->Option SD
 | some (.ref o 0 0)=>xr5 base tm t o D D[o]?
 | _=>none
theorem xtx {t:Nat}:zxh base ⟨tm,D⟩ (.frzP t)=gpR base tm t D (tm.get t):=by
 simp only [zxh];rcases tm.get t with _ | d
 .rfl
 cases d with
 | ref o i k=>
  cases i with
  | succ i=>rfl
  | zero=>
   cases k with
   | succ k=>rfl
   | zero=>
    simp only [gpR];rcases D[o]? with _ | x
    .rfl
    cases x with
    | arr sz els=>
     cases els with
     | nil=>rfl
     | cons d l=>
      cases l with
      | nil=>
       simp only [xr5];cases ysm (zzd d)<;>rfl
      | cons=>rfl
    | _=>rfl
 | _=>rfl
theorem xz1 {t o:Nat}:gpR base tm t D (some (.ref o 0 0))=xr5 base tm t o D D[o]?:=rfl
theorem yh4 {t o sz:Nat} {d:DV}:xr5 base tm t o D (some (.arr sz [d]))=gpF base tm t o D (ysm (zzd d)):=rfl
theorem yh5 {t o:Nat} {ys:List FV}:gpF base tm t o D (some ys)=if base<=o/\0<ys.length then some ⟨tm.put t (.fp ys),D.set o .dead⟩ else none:=rfl
attribute [simp] xtx xz1 yh4 yh5
theorem yy2 {α:Type} {f:α->DV} {g:α->FV} (h:∀ x,f x=.f (g x)):∀ {l:List α},ysm (l.map f)=some (l.map g)
 | []=>rfl
 | x::l=>by
  simp only [txe,h x,ysm,yy2 h (l:=l)];rfl
def gaO (base:Nat) (tm:Trie DV) (e sz o:Nat) (D:DH):Option DObj->Option SD
 | some (.arr 1 els)=>if base<=o/\els.all zeb=true then some ⟨tm,D.set o (.arr 1 ((List.range els.length).map λi=>.apl (D.length+i) 0))++List.replicate els.length (.app e sz [])⟩ else none
 | _=>none
def gaR (base:Nat) (tm:Trie DV) (e sz:Nat) (D:DH):Option DV->Option SD
 | some (.row o _ _ _)=>gaO base tm e sz o D D[o]?
 | _=>none
theorem yh6 {t e sz:Nat}:zxh base ⟨tm,D⟩ (.ownAll t e sz)=gaR base tm e sz D (tm.get t):=by
 simp only [zxh];rcases tm.get t with _ | d
 .rfl
 cases d with
 | row o a b c=>
  simp only [gaR];rcases D[o]? with _ | x
  .rfl
  cases x<;>rfl
 | _=>rfl
theorem xz2 {o a b c e sz:Nat}:gaR base tm e sz D (some (.row o a b c))=gaO base tm e sz o D D[o]?:=rfl
theorem xz3 {o e sz:Nat} {els:List DV}:gaO base tm e sz o D (some (.arr 1 els))=if base<=o/\els.all zeb=true then some ⟨tm,D.set o (.arr 1 ((List.range els.length).map λi=>.apl (D.length+i) 0))++List.replicate els.length (.app e sz [])⟩ else none:=rfl
theorem yor:zeb zyf=true:=rfl
attribute [simp] yh6 xz2 xz3 yor
section
variable {t:TypeId} {x y:Operand} {a b:Int}
theorem xom:zty P .lss t x y (.int .u64 a) (.int .u64 b)=some (.bool (decide (a<b))):=by rw [<-zqz];rfl
theorem xon:zty P .geq t x y (.int .u64 a) (.int .u64 b)=some (.bool (decide (b<=a))):=by
 show some (Value.bool !(ltI a b))=_;rw [zqz];congr 2;rw [<-decide_not];congr 1;simp
theorem xoo {a b:Nat} (hb:0<b) (ha:a<18446744073709551616):zty P .quo t x y (.int .u64 (a:Nat)) (.int .u64 (b:Nat))=some (.int .u64 ((a / b:Nat):Int)):=by
 obtain ⟨b,rfl⟩:∃ k,b=k+1:=⟨b-1,by omega⟩;show some (Value.int .u64 (zvu .u64 (Int.tdiv (Int.ofNat a) (Int.ofNat (b+1)))))=_;show some (Value.int .u64 (Int.ofNat ((a / (b+1)) % 18446744073709551616)))=_;rw [txu (tyo (Nat.div_le_self ..) ha)];rfl
theorem xop {a b:Nat} (h:a*b<18446744073709551616):zty P .mul t x y (.int .u64 (a:Nat)) (.int .u64 (b:Nat))=some (.int .u64 ((a*b:Nat):Int)):=by
 show some (Value.int .u64 (Int.ofNat ((a*b) % 18446744073709551616)))=_;rw [txu h];rfl
theorem xoq {a b:Nat} (h:b<=a) (ha:a<18446744073709551616):zty P .sub t x y (.int .u64 (a:Nat)) (.int .u64 (b:Nat))=some (.int .u64 ((a-b:Nat):Int)):=by
 show some (Value.int .u64 (zvu .u64 ((a:Int)-(b:Int))))=_;have:(a:Int)-(b:Int)=Int.ofNat (a-b):=by show _=((a-b:Nat):Int);omega
 rw [this];show some (Value.int .u64 (Int.ofNat ((a-b) % 18446744073709551616)))=_;rw [txu (by omega)];rfl
theorem zhi {H:Hp} {s d:TypeId} {j k:IntKind} {n:Int} (hs:P.underlying s=some (.int j)) (hd:P.underlying d=some (.int k)):zx8 P H s d (.int j n)=some (.int k (zvu k n)):=by
 unfold zx8;rw [hs,hd];rfl
attribute [simp] xom xon
end
def cvR (P:Program) (s d:TypeId) (x:DV) (D:DH):Bool->Option DV
 | true=>if yl3 x=true then ((zwd D x).bind zuc).map λl=>rv (zxf l) else none
 | false=>match x with
  | .f (.raw v)=>if zl5 v=true then (zx8 P xw6 s d v).map rv else none
  | _=>none
theorem xlo {s d:TypeId} {x:DV}:zc9 P D s d x=cvR P s d x D (yw9 P s d):=by
 unfold zc9;cases yw9 P s d<;>rfl
theorem xz4 {s d:TypeId} {x:DV}:cvR P s d x D true=if yl3 x=true then ((zwd D x).bind zuc).map λl=>rv (zxf l) else none:=rfl
theorem xlp {x:FV}:yl3 (.f x)=true:=rfl
theorem xty {o n:Nat}:yl3 (.apl o n)=true:=rfl
theorem xtz {o i n c:Nat}:yl3 (.row o i n c)=true:=rfl
theorem xt0 {o m i n:Nat}:yl3 (.prt o m i n)=true:=rfl
theorem xz5 {s d:TypeId} {k:IntKind} {n:Int}:cvR P s d (.f (.raw (.int k n))) D false=(zx8 P xw6 s d (.int k n)).map rv:=rfl
attribute [simp] xlo xz4 xz5 xlp xty xtz xt0
end Go.Dv
namespace Go.Dv
attribute [local simp] zza zyw
open Go Go.Sim
def ixM (o i k n m s:Nat):Option DObj->Option DV
 | some (.arr _ _)=>if n<m then some (.ref o i (k+n*s)) else none
 | _=>none
theorem xt1 {D:DH} {T:Option SlT} {m s:Nat} {e:TypeId} {o i k n:Nat}:zyt D T (some (m,s,e)) n (.ref o i k)=ixM o i k n m s D[o]?:=by
 simp only [zyt];cases D[o]? with
 | none=>rfl
 | some x=>cases x<;>rfl
theorem xz6 {o i k n m s sz:Nat} {els:List DV}:ixM o i k n m s (some (.arr sz els))=if n<m then some (.ref o i (k+n*s)) else none:=rfl
attribute [simp] xt1 xz6
end Go.Dv
namespace Go.Dv
attribute [local simp] zza zyw
open Go Go.Sim
def lnM:Option DObj->Option DV
 | some (.map ks _)=>some (rv (zlt ks.length))
 | _=>none
theorem xt2 {D:DH} {o:Nat}:zc4 D (.mp o) (some 1)=lnM D[o]?:=by
 simp only [zc4];cases D[o]? with
 | none=>rfl
 | some x=>cases x<;>rfl
theorem yos {ks:List Value} {vs:List DV}:lnM (some (.map ks vs))=some (rv (zlt ks.length)):=rfl
theorem yh7 {u v:Value}:toV (.agg [.f (.raw u),.f (.raw v)])=some (.agg #[u,v]):=rfl
attribute [simp] xt2 yos yh7
def yy3 (n:Nat):List Int:=(List.range n).map λi:Nat=>(i:Int)
theorem yy4 {n i:Nat} (h:i<n):(yy3 n)[i]? =some (i:Int):=by unfold yy3;rw [tzr,tz7 h];rfl
theorem ze4 {n:Nat}:yy3 (n+1)=yy3 n++[(n:Int)]:=by unfold yy3;rw [List.range_succ,txk];rfl
theorem yh8 {α:Type} {l:List α} {i:Nat} {x:α} (h:l[i]? =some x):l.set i x=l:=by
 refine ty8 λj=>?_;rw [tya];split
 .grind
 .rfl
end Go.Dv
namespace Go.Dv
attribute [local simp] zza zyw
open Go Go.Sim
def ylR (l:Nat) (args:List DV):Option DObj->Option DRes
 | some (.loop ..)=>some (.yield l args)
 | _=>none
theorem xt3 {D:DH} {args:List DV} {l:Nat}:zuz D args (.yl l)=ylR l args D[l]?:=by
 simp only [zuz];cases D[l]? with
 | none=>rfl
 | some x=>cases x<;>rfl
theorem yh9 {l:Nat} {args:List DV} {st:LoopState} {p:Option Code} {K:KD} {tm:Trie DV} {ps:Array Tmp} {asg body:Code}:ylR l args (some (.loop st p K tm ps asg body))=some (.yield l args):=rfl
theorem xt4 {D:DH} {args:List DV} {l:Nat}:ivR D (some args) (some (.yl l))=ylR l args D[l]?:=xt3
attribute [simp] xt3 yh9 xt4
variable {Q:Par}
def rdE (l:Nat) (x:BX) (D:DH):Option DObj->Option (DV×DH)
 | some (.loop _ _ K2 tm2 ps2 asg2 body2)=>match x with
  | .nrm=>some (rv (.bool true),D.set l (.loop .ready none K2 tm2 ps2 asg2 body2))
  | .ret=>some (rv (.bool false),D.set l (.loop .done (some .ret) K2 tm2 ps2 asg2 body2))
  | .exit id=>some (rv (.bool false),D.set l (.loop .done (some (.exit id)) K2 tm2 ps2 asg2 body2))
 | _=>none
def rdC (l:Nat):Option (BX×SD)->Option (DV×DH)
 | some (x,s)=>rdE l x s.D s.D[l]?
 | none=>none
def rdL (Q:Par) (l:Nat) (K:KD) (body:Code) (s:SD):Option DObj->Option (DV×DH)
 | some (.loop .ready p' K' tm' ps' asg' body')=>rdC l (evD Q (zzg Q) (zue Q) K 0 body ⟨s.tm,s.D.set l (.loop .busy p' K' tm' ps' asg' body')⟩)
 | _=>none
def rdA (Q:Par) (l:Nat) (K:KD) (body:Code):Option (BX×SD)->Option (DV×DH)
 | some (.nrm,s)=>rdL Q l K body s s.D[l]?
 | _=>none
theorem yga {l base:Nat} {args:List DV} {D:DH} {st:LoopState} {p:Option Code} {K:KD} {tm:Trie DV} {ps:Array Tmp} {asg body:Code} (h:D[l]? =some (.loop st p K tm ps asg body)) (ha:K.an=Q.ann K.fn) (h1:args.length=ps.toList.length) (h2:base=K.base) (h3:base<=l) :
  zta (zue Q) l args base D=rdA Q l ⟨K.fn,K.nt,some l,K.base,K.an⟩ body (evD Q (zzg Q) (zue Q) ⟨K.fn,K.nt,some l,K.base,K.an⟩ 0 asg ⟨yl4 tm K.nt ps.toList args,D⟩):=by
 unfold zta;rw [h];simp only;rw [if_pos ⟨h1,h2,h3⟩,zli (K:=⟨K.fn,K.nt,some l,K.base,K.an⟩) ha];rcases evD Q (zzg Q) (zue Q) ⟨K.fn,K.nt,some l,K.base,K.an⟩ 0 asg ⟨yl4 tm K.nt ps.toList args,D⟩ with _ | ⟨x,s⟩
 .rfl
 cases x with
 | nrm=>
  simp only [rdA];rcases s.D[l]? with _ | y
  .rfl
  cases y with
  | loop st' p' K' tm' ps' asg' body'=>
   cases st' with
   | ready=>
    simp only [rdL];rw [zli (K:=⟨K.fn,K.nt,some l,K.base,K.an⟩) ha];rcases evD Q (zzg Q) (zue Q) ⟨K.fn,K.nt,some l,K.base,K.an⟩ 0 body ⟨s.tm,s.D.set l (.loop .busy p' K' tm' ps' asg' body')⟩ with _ | ⟨x,s2⟩
    .rfl
    simp only [rdC];rcases s2.D[l]? with _ | z
    .rfl
    cases z<;>first | rfl | (cases x<;>rfl)
   | _=>rfl
  | _=>rfl
 | _=>rfl
theorem xz7 {l:Nat} {K:KD} {body:Code} {s:SD}:rdA Q l K body (some (.nrm,s))=rdL Q l K body s s.D[l]?:=rfl
theorem ygb {l:Nat} {K:KD} {body:Code} {s:SD} {p':Option Code} {K':KD} {tm':Trie DV} {ps':Array Tmp} {asg' body':Code}:rdL Q l K body s (some (.loop .ready p' K' tm' ps' asg' body'))=rdC l (evD Q (zzg Q) (zue Q) K 0 body ⟨s.tm,s.D.set l (.loop .busy p' K' tm' ps' asg' body')⟩):=rfl
theorem ygc {l:Nat} {x:BX} {s:SD}:rdC l (some (x,s))=rdE l x s.D s.D[l]?:=rfl
theorem xz8 {l:Nat} {D:DH} {st:LoopState} {p:Option Code} {K2:KD} {tm2:Trie DV} {ps2:Array Tmp} {asg2 body2:Code}:rdE l .nrm D (some (.loop st p K2 tm2 ps2 asg2 body2))=some (rv (.bool true),D.set l (.loop .ready none K2 tm2 ps2 asg2 body2)):=rfl
attribute [simp] xz7 ygb ygc xz8
def rgF (Q:Par) (K:KD) (ps:Array Tmp) (asg body:Code) (s:SD):Option DV->Option (BX×SD)
 | some (.fn g a b)=>match (Q.ann g).raw&&(xxv K s.D&&!Q.tv g) with
  | true=>zx5 s.tm s.D.length (zzg Q g (a++[.yl s.D.length]++b) K.base (s.D++[.loop .ready none K s.tm ps asg body]))
  | false=>none
 | _=>none
theorem xz9 {K:KD} {f:Operand} {ps:Array Tmp} {asg body:Code} {s:SD}:zl7 Q (zue Q) K f ps asg body s=rgF Q K ps asg body s (zzl s.tm f):=by
 unfold zl7 rgF;rcases zzl s.tm f with _ | d
 .rfl
 cases d with
 | fn g a b=>
  simp only;cases ht:Q.tv g with
  | true=>simp
  | false=>
   rw [ycy ht];cases (Q.ann g).raw&&(xxv K s.D&&!false)<;>rfl
 | _=>rfl
theorem ydp {K:KD} {ps:Array Tmp} {asg body:Code} {s:SD} {g:FuncId} {a b:List DV} (h:(Q.ann g).raw=true) (hr:K.ro=none) (ht:Q.tv g=false):rgF Q K ps asg body s (some (.fn g a b))=zx5 s.tm s.D.length (zzg Q g (a++[.yl s.D.length]++b) K.base (s.D++[.loop .ready none K s.tm ps asg body])):=by
 have:xxv K s.D=true:=by unfold xxv;rw [hr]
 simp only [rgF,h,this,ht,Bool.and_self,Bool.not_false]
def reL (tm:Trie DV) (l:Nat) (D:DH):Option DObj->Option (BX×SD)
 | some (.loop st p _ _ _ _ _)=>match st with
  | .busy=>none
  | _=>zbe p ⟨tm,D.set l .dead⟩
 | _=>none
theorem xya {tm:Trie DV} {l:Nat} {d:DV} {D:DH}:zx5 tm l (some (d,D))=reL tm l D D[l]?:=by
 simp only [zx5];cases D[l]? with
 | none=>rfl
 | some x=>cases x<;>rfl
theorem yot {tm:Trie DV} {l:Nat} {D:DH} {p:Option Code} {K2:KD} {tm2:Trie DV} {ps2:Array Tmp} {asg2 body2:Code}:reL tm l D (some (.loop .ready p K2 tm2 ps2 asg2 body2))=zbe p ⟨tm,D.set l .dead⟩:=rfl
theorem you {s:SD}:zbe none s=some (.nrm,s):=rfl
attribute [simp] xz9 xya yot you
end Go.Dv
namespace Go.Dv
attribute [local simp] zza zyw
open Go Go.Sim
theorem xor {o:Nat}:zzd (.mp o)=[.mp o]:=rfl
theorem xos {g:FuncId} {a b:List DV}:zzd (.fn g a b)=[.fn g a b]:=rfl
theorem xt5 {o n i k:Nat}:zzd (.rfa o n i k)=[.rfa o n i k]:=rfl
theorem xot {l:List FV}:zzd (.fp l)=[.fp l]:=rfl
theorem xyb {o:Nat}:zwz (.mp o)=true:=rfl
theorem xyc {g:FuncId} {a b:List DV}:zwz (.fn g a b)=true:=rfl
theorem ygd {o n i k:Nat}:zwz (.rfa o n i k)=true:=rfl
theorem xyd {l:List FV}:zwz (.fp l)=true:=rfl
theorem yge:zwz (rv (.map none))=true:=rfl
attribute [simp] xor xos xt5 xot xyb xyc ygd xyd yge
end Go.Dv
namespace Go.Dv
attribute [local simp] zza zyw
open Go Go.Sim
theorem xt6 {k:IntKind}:zi5 (.f (.raw (.int k 0)))=some 0:=rfl
theorem xt7 {k:IntKind}:zi5 (.f (.raw (.int k 1)))=some 1:=rfl
theorem xt8:zqj (.f (.raw (.int .i64 0)))=some 0:=rfl
attribute [simp] xt6 xt7 xt8
end Go.Dv
namespace Go.Dv
attribute [local simp] zza zyw
open Go Go.Sim Go.RowKit
variable {P:Program} {W W':World} {ρ ρ' ρ'':Ren} {H H' H'':Hp}
def yuf (s:FuncId):Sub:=λf args H=>match args with
 | []=>match Nat.beq f s with
  | true=>some (.bool true,H)
  | false=>none
 | _=>none
theorem yov (R:Rep P ρ H W) (hb:Below W.heap.size W W'):Rep P ρ H W':=
 ⟨λi B p h1 h2 h3=>(R.blk i B p h1 h2 h3).mono (.refl ρ) h3 (hb.block _ (R.low i p h3)),R.sep,R.new,R.dom,λi p h=>tyf (R.low i p h) hb.size,R.glob,R.mem,R.len,R.gl⟩
theorem ygf (hb:Below W.heap.size W W'):Fr ρ ρ H H W W':=
 ⟨.refl ρ,hb.os,hb.tape,hb.output,hb.size,λb h _=>hb.block b h,λi B p h1 h2 h3=>.inr ⟨i,B,p,h1,h2,h3,rfl⟩,tzp _,λ_ _ h=>⟨h,rfl⟩⟩
theorem ygg {s:FuncId} (h:∀ w,Calls P s #[] w λe w'=>e=.returned (.bool true)/\Below w.heap.size w w'):zsl P (yuf s):=by
 intro f args H v H' hr ρ W xs hx R;cases args with
 | cons=>simp [yuf] at hr
 | nil=>
  simp only [yuf] at hr;split at hr
  .rename_i hf;have hf:=tzo hf;subst hf;simp only [tza,tzl] at hr;obtain ⟨rfl,rfl⟩:=hr;cases hx;refine Calls.mono (h W) λe w' he=>?_;obtain ⟨he,hb⟩:=he;exact ⟨ρ,_,he,.bool true,yov R hb,ygf hb⟩
  .cases hr
theorem QOK.of {Q:Par} {s:FuncId} (names:∀ (g:FuncId) (fn:Func),Q.P.funcs[g]? =some fn->(fn.name== "runtime.NumGoroutine")=false) (htv:∀ g,Q.tv g=Nat.beq g s) (hg:zbo Q.P s):QOK Q (yuf s):=by
 refine ⟨names,λg args H fn c h _ _=>?_,λg h=>?_⟩
 .rw [htv] at h;cases args with
  | cons=>rfl
  | nil=>simp only [yuf];rw [h]
 rw [htv] at h;have e:=tzo h;subst e;exact ⟨hg,λH=>by simp only [yuf];rw [h]⟩
inductive FW (W:World):FV->Value->Prop
 | bool (b:Bool):FW W (.raw (.bool b)) (.bool b)
 | int (k:IntKind) (n:Int):FW W (.raw (.int k n)) (.int k n)
 | nil:FW W (.lst []) (.slice none 0 0)
 | empty (x:Addr):FW W (.lst []) (.slice (some x) 0 0)
 | lst {l:List FV} {x:Addr} {n cap:Nat} (ws:Nat->Value) (hn:n=l.length) (hc:n<=cap) (hU:cap<U) (h0:∃ u,W.cell? x=some u) (h:∀ (i:Nat) (y:FV),l[i]? =some y->W.cell? (x.add i)=some (ws i)) (hr:∀ (i:Nat) (y:FV),l[i]? =some y->FW W y (ws i)):FW W (.lst l) (.slice (some x) n cap)
inductive DW (W:World):DV->Value->Prop
 | f {x:FV} {v:Value} (h:FW W x v):DW W (.f x) v
 | agg {xs:List FV} {vs:List Value} (hl:vs.length=xs.length) (h:∀ (i:Nat) (x:FV) (v:Value),xs[i]? =some x->vs[i]? =some v->FW W x v):DW W (.agg (xs.map .f)) (.agg ⟨vs⟩)
def SH (H:Hp) (b:Nat):Prop:=∃ c,H.row b=some c
structure Lay (P:Program) (W:World) (ρ:Ren) (H:Hp):Prop where
 form:∃ l n,H=zvw l n
 rep:Rep P ρ H W
structure Grw (ρ:Ren) (H:Hp) (ρ':Ren) (H':Hp):Prop where
 ext:ρ.Ext ρ'
 row:∀ b c,H.row b=some c->H'.row b=some c
theorem Grw.refl:Grw ρ H ρ H:=⟨.refl ρ,λ_ _ h=>h⟩
theorem Grw.trans (h:Grw ρ H ρ' H') (k:Grw ρ' H' ρ'' H''):Grw ρ H ρ'' H'':=⟨h.ext.trans k.ext,λb c g=>k.row b c (h.row b c g)⟩
theorem FR.grw (g:Grw ρ H ρ' H') {x:FV} {v:Value} (h:FR (SH H) H x v):FR (SH H') H' x v:=
 h.mono (λb hb=>let ⟨c,hc⟩:=hb;⟨c,g.row b c hc⟩) (λb hb=>by obtain ⟨c,hc⟩:=hb;rw [g.row b c hc,hc])
theorem zll {l:ztq} {n m j:Nat} {vs:List Value}:(zvw ((n,vs)::l) m).get j=if j=n then some (.ro vs) else (zvw l n).get j:=by
 show ((zpm l .leaf).put n (.ro vs)).get j=_;rw [Trie.get_put];rfl
theorem yow {l:ztq} {n j:Nat} {B:Blk} (h:(zvw l n).get j=some B):¬B.mut:=by
 obtain ⟨c,_,rfl⟩:=zwy h;exact λh=>h
theorem yox (L:Lay P W ρ H) (vs:List Value) (p:Option (Nat×Nat)) (hp:∀ q,p=some q->∃ C e fz,W.heap[q.1]? =some (.cells C e fz)/\∀ (j:Nat) (v:Value),vs[j]? =some v->∃ x,C[q.2+j]? =some x/\VR ρ v x) :
  ∃ (ρ':Ren) (H':Hp),Grw ρ H ρ' H'/\Lay P W ρ' H'/\H'.row H.n=some vs/\ρ'.blk H.n=p:=by
 obtain ⟨⟨l,n,rfl⟩,R⟩:=L;have hnew:ρ.blk n=none:=R.new n (tzp _)
 have hlt:∀ q,p=some q->q.1<W.heap.size:=λq hq=>by
  grind
 obtain ⟨ρ',hext,hoth,hn⟩:∃ ρ':Ren,ρ.Ext ρ'/\(∀ j,j≠n->ρ'.blk j=ρ.blk j)/\ρ'.blk n=p:=by
  cases p with
  | none=>exact ⟨ρ,.refl ρ,λ_ _=>rfl,hnew⟩
  | some q=>exact ⟨ρ.add n q 0,Ren.ext_add hnew q 0,λj hj=>Ren.add_other ρ hj q 0,Ren.add_same ..⟩
 have hgl:znh P<=n:=R.gl;refine ⟨ρ',zvw ((n,vs)::l) (n+1),⟨hext,λb c hb=>?_⟩,⟨⟨_,_,rfl⟩,λi B q hB hl hq=>?_,λi j B C q q' hB _ _ _ hm=>(yow hB hm).elim,λi hi=>?_,λi B hB=>?_,λi q hq=>?_,λg hg=>?_,λk j hj=>?_,λk=>?_,?_⟩,?_,hn⟩
 .have hne:b≠n:=(by intro e;subst e;obtain ⟨B,hB,_⟩:=zpq.1 hb;exact tyr _ (R.dom _ _ hB));obtain ⟨B,hB,hc⟩:=zpq.1 hb;obtain ⟨c',_,rfl⟩:=zwy hB;rw [zpq];exact ⟨.ro c',by rw [zll,if_neg hne];exact hB,hc⟩
 .rw [zll] at hB;by_cases e:i=n
  .subst e;rw [if_pos rfl] at hB;simp only [tza] at hB;subst hB;rw [hn] at hq;obtain ⟨C,e,fz,h1,h2⟩:=hp q hq;exact ⟨C,e,fz,h1,λj v hj=>let ⟨x,g1,g2⟩:=h2 j v hj;⟨x,g1,g2.mono hext⟩⟩
  .rw [if_neg e] at hB;rw [hoth i e] at hq;obtain ⟨c',_,rfl⟩:=zwy hB;exact (R.blk i _ q hB trivial hq).mono hext hq rfl
 .have hi:n+1<=i:=hi;rw [hoth i (by omega)];exact R.new i (show n<=i by omega)
 .rw [zll] at hB;show i<n+1;by_cases e:i=n
  .omega
  rw [if_neg e] at hB;have:i<n:=R.dom i B hB;omega
 .by_cases e:i=n
  .subst e;rw [hn] at hq;exact hlt q hq
  rw [hoth i e] at hq;exact R.low i q hq
 .rw [hoth g (by omega)];exact R.glob g hg
 .rw [zr9] at hj;cases hj
 .rw [zr9];trivial
 .show znh P<=n+1;omega
 .show (zvw ((n,vs)::l) (n+1)).row n=some vs;rw [zpq];exact ⟨.ro vs,by rw [zll,if_pos rfl],rfl⟩
def xn8 (P:Program) (W:World) (y:FV) (w:Value):Prop:=∀ ρ H,Lay P W ρ H->∃ (ρ':Ren) (H':Hp) (v:Value),Grw ρ H ρ' H'/\Lay P W ρ' H'/\FR (SH H') H' y v/\VR ρ' v w/\oneCell v=true/\zrm y=true/\zxl y=[y]
theorem zgz {l:List FV} {ws:Nat->Value} (h:∀ (i:Nat) (y:FV),l[i]? =some y->xn8 P W y (ws i)) (L:Lay P W ρ H):∀ k,k<=l.length->∃ (ρ':Ren) (H':Hp) (vs:List Value),vs.length=k/\Grw ρ H ρ' H'/\Lay P W ρ' H' /\
  ∀ (i:Nat) (y:FV) (v:Value),vs[i]? =some v->l[i]? =some y->FR (SH H') H' y v/\VR ρ' v (ws i)/\oneCell v=true/\zrm y=true/\zxl y=[y]
 | 0,_=>⟨ρ,H,[],rfl,.refl,L,λi y v hv=>by simp at hv⟩
 | k+1,hk=>by
  obtain ⟨ρ1,H1,vs,hl,g1,L1,h1⟩:=zgz h L k (by omega)
  obtain ⟨ρ2,H2,v,g2,L2,a1,a2,a3,a4,a5⟩:=h k _ (tzb (show k<l.length by omega)) ρ1 H1 L1
  refine ⟨ρ2,H2,vs++[v],by simp [hl],g1.trans g2,L2,λi y u hu hy=>?_⟩
  by_cases e:i<k
  .rw [tzs (by omega)] at hu
   obtain ⟨b1,b2,b3,b4,b5⟩:=h1 i y u hu hy
   exact ⟨b1.grw g2,b2.mono g2.ext,b3,b4,b5⟩
  .grind
theorem yoy (x:Addr) (n:Nat):(x.add n).block=x.block/\(x.add n).off=x.off+n:=by
 unfold Addr.add;split
 .rename_i h;subst h;exact ⟨rfl,rfl⟩
 .exact ⟨rfl,rfl⟩
theorem ydq {y:FV} {w:Value} (h:FW W y w):xn8 P W y w:=by
 induction h with
 | bool b=>exact λρ H L=>⟨ρ,H,_,.refl,L,.raw _,.bool b,rfl,rfl,rfl⟩
 | int k n=>exact λρ H L=>⟨ρ,H,_,.refl,L,.raw _,.int k n,rfl,rfl,rfl⟩
 | nil=>exact λρ H L=>⟨ρ,H,_,.refl,L,.nil,.nilSlice,rfl,rfl,rfl⟩
 | empty x=>
  intro ρ H L;obtain ⟨ρ',H',g,L',hr,_⟩:=yox L [] none (λq hq=>by cases hq);exact ⟨ρ',H',.slice (some ⟨H.n,0,none⟩) 0 0,g,L',.lst (sz:=1) (λ_ _=>undef) rfl ⟨_,hr⟩ hr (by omega) (by simp) (λ_=>tzp _) (λi x h=>by simp at h) (λi x j y h=>by simp at h) (λi x j y h=>by simp at h),.slice00 _ _,rfl,rfl,rfl⟩
 | lst ws hn hc hU h0 h hr ih=>
  rename_i l x n cap;intro ρ H L;obtain ⟨ρ1,H1,vs,hl,g1,L1,h1⟩:=zgz ih L l.length (tzp _);obtain ⟨u,hu⟩:=h0
  have hx:∃ C e fz,W.heap[x.block]? =some (.cells C e fz)/\x.spot=none:=by
   unfold World.cell? at hu;split at hu
   .simp_all
   cases hu
  obtain ⟨C,e,fz,hC,hsp⟩:=hx
  obtain ⟨ρ2,H2,g2,L2,hrow,hblk⟩:=yox L1 vs (some (x.block,x.off)) (λq hq=>by
   simp only [tza] at hq;subst hq
   refine ⟨C,e,fz,hC,λj v hj=>?_⟩
   have hj':j<l.length:=by rw [<-hl];exact zyr hj
   have hy:=tzb hj'
   refine ⟨ws j,?_,(h1 j _ v hj hy).2.1⟩
   have hcell:=h j _ hy
   unfold World.cell? at hcell
   obtain ⟨e1,e2⟩:=yoy x j
   rw [e1,hC] at hcell
   simp only [e2] at hcell
   split at hcell
   .cases hcell
   .exact hcell)
  refine ⟨ρ2,H2,.slice (some ⟨H1.n,0,none⟩) n cap,g1.trans g2,L2,?_,?_,rfl,rfl,rfl⟩
  .refine .lst (sz:=1) (λi _=>vs.getD i undef) hn ⟨_,hrow⟩ hrow (by omega) (by rw [hl];omega) (λ_=>hc) (λi y hy=>?_) (λi y j z hy hz=>?_) (λi y j z hy hz=>?_)
   .grind
   .grind
   have hi:i<vs.length:=by rw [hl];exact zyr hy
   obtain ⟨b1,b2,b3,b4,b5⟩:=h1 i y _ (tzb hi) hy;rw [b5] at hz;obtain ⟨rfl,rfl⟩:j=0/\z=y:=(by grind);have hg:vs.getD i undef=vs[i]:=by simp [List.getD,hi]
   rw [hg];exact b1.grw g2
  .refine .slice ⟨rfl,_,hblk,?_⟩ ⟨hc,λ_=>rfl,λi hi=>by omega⟩;obtain ⟨b,o,s⟩:=x;simp only at hsp;subst hsp;rfl
inductive FRD (H:Hp):DV->Value->Prop
 | f {x:FV} {v:Value} (h:FR (SH H) H x v):FRD H (.f x) v
 | agg {xs:List FV} {vs:List Value} (hl:vs.length=xs.length) (h:∀ (i:Nat) (x:FV) (v:Value),xs[i]? =some x->vs[i]? =some v->FR (SH H) H x v):FRD H (.agg (xs.map .f)) (.agg ⟨vs⟩)
theorem FRD.grw (g:Grw ρ H ρ' H') {d:DV} {v:Value} (h:FRD H d v):FRD H' d v:=by
 cases h with
 | f h=>exact .f (h.grw g)
 | agg hl h=>exact .agg hl λi x v h1 h2=>(h i x v h1 h2).grw g
theorem FRD.dr {D:DH} {σ:Nat->Nat} {d:DV} {v:Value} (h:FRD H d v):DR ⟨σ,SH H,H,D⟩ d v:=by
 cases h with
 | f h=>exact .f h
 | agg hl h=>
  refine .agg (by simp [hl]) λi d v h1 h2=>?_;rw [tzr] at h1;obtain ⟨x,hx,rfl⟩:=tzf.1 h1;exact .f (h i x v hx h2)
theorem VRs.of_pt {vs:List Value} {ws:List Value} (hl:vs.length=ws.length) (h:∀ (i:Nat) (v w:Value),vs[i]? =some v->ws[i]? =some w->VR ρ v w):VRs ρ vs ws:=by
 refine .of_get hl.symm λi v hv=>?_;have hi:i<ws.length:=by rw [<-hl];exact zyr hv
 exact ⟨ws[i],tzb hi,h i v _ hv (tzb hi)⟩
theorem xt9 {d:DV} {w:Value} (h:DW W d w) (L:Lay P W ρ H):∃ (ρ':Ren) (H':Hp) (v:Value),Grw ρ H ρ' H'/\Lay P W ρ' H'/\FRD H' d v/\VR ρ' v w:=by
 cases h with
 | f h=>
  obtain ⟨ρ',H',v,a1,a2,a3,a4,_⟩:=ydq h ρ H L;exact ⟨ρ',H',v,a1,a2,.f a3,a4⟩
 | agg hl h=>
  rename_i xs ws
  obtain ⟨ρ',H',vs,b1,b2,b3,b4⟩:=zgz (l:=xs) (ws:=λi=>ws.getD i undef) (λi y hy=>ydq (h i y _ hy (by
   grind))) L xs.length (tzp _)
  refine ⟨ρ',H',.agg ⟨vs⟩,b2,b3,.agg b1 λi x v hx hv=>(b4 i x v hv hx).1,.agg (VRs.of_pt (by rw [b1,hl]) λi v w hv hw=>?_)⟩;have hi:i<xs.length:=by rw [<-b1];exact zyr hv
  have:=(b4 i _ v hv (tzb hi)).2.1;simpa [List.getD,hw] using this
theorem yy5:∀ {ds:List DV} {ws:List Value},L2 (DW W) ds ws->∀ {ρ:Ren} {H:Hp},Lay P W ρ H->∃ (ρ':Ren) (H':Hp) (vs:List Value),Grw ρ H ρ' H'/\Lay P W ρ' H'/\vs.length=ds.length/\(∀ (i:Nat) (d:DV) (v:Value),ds[i]? =some d->vs[i]? =some v->FRD H' d v)/\VRs ρ' vs ws
 | _,_,.nil,ρ,H,L=>⟨ρ,H,[],.refl,L,rfl,λi d v h=>by simp at h,.nil⟩
 | _,_,.cons h hs,ρ,H,L=>by
  obtain ⟨ρ1,H1,v,a1,a2,a3,a4⟩:=xt9 h L;obtain ⟨ρ2,H2,vs,b1,b2,b3,b4,b5⟩:=yy5 hs a2;refine ⟨ρ2,H2,v::vs,a1.trans b1,b2,by simp [b3],λi d u h1 h2=>?_,.cons (a4.mono b1.ext) b5⟩;cases i with
  | zero=>simp at h1 h2;subst h1 h2;exact a3.grw b1
  | succ i=>simp at h1 h2;exact b4 i d u h1 h2
theorem xsa {σ:Nat->Nat} (L:Lay P W ρ H):HR ⟨σ,SH H,H,[]⟩:=by
 obtain ⟨⟨l,n,rfl⟩,R⟩:=L;refine ⟨⟨R.dom,λi c e k h=>?_⟩,λb hb=>?_,λo x h=>by simp at h,λo b h=>?_,λo o' b h=>?_,λo k b cs e h=>?_,λo o' k h=>?_⟩
 .obtain ⟨c',_,h2⟩:=zwy h;cases h2
 .obtain ⟨c,hc⟩:=hb;obtain ⟨B,h1,h2⟩:=zpq.1 hc;exact ⟨B,c,h1,h2⟩
 .obtain ⟨x,h1,_⟩:=h;simp at h1
 .obtain ⟨x,h1,_⟩:=h;simp at h1
 .rcases h with ⟨_,_,_,_,_,h1,_⟩ | ⟨_,_,_,_,h1,_⟩<;>simp at h1
 .rcases h with ⟨_,_,_,_,_,h1,_⟩ | ⟨_,_,_,_,h1,_⟩<;>simp at h1
theorem yug {Q:Par} {tb:Sub} (hQ:QOK Q tb) (hm:Q.P.follows .mixedOrders=true) (htb:zsl Q.P tb) {f:FuncId} {ds:List DV} {D:DH} (h:zzg Q f ds 0 []=some (.f (.raw (.bool true)),D)) {ws:List Value} (hw:L2 (DW W) ds ws) (hg:znh Q.P<=W.heap.size) :
  Calls Q.P f ⟨ws⟩ W λe w'=>e=.returned (.bool true)/\Below W.heap.size W w':=by
 obtain ⟨ρ,H,vs,_,L,a3,a4,a5⟩:=yy5 (P:=Q.P) hw (ρ:=xx2 Q.P) (H:=zvw [] (znh Q.P)) ⟨⟨_,_,rfl⟩,xmd (n:=znh Q.P) (tzp _) hg⟩;obtain ⟨_,hs⟩:=zp4 hQ (zst.1 h);obtain ⟨C',v,c1,c2,c3,c4,N,c5⟩:=hs ⟨λ_=>0,SH H,H,[]⟩ vs rfl (xsa L) ⟨a3,λi d v h1 h2=>(a4 i d v h1 h2).dr⟩ ⟨tzp _,λo x ho=>by omega⟩
 have hv:v=.bool true:=by
  cases c4 with
  | f h=>cases h;rfl
 subst hv;refine Calls.mono (yd7 hm (zzm Q) htb N f vs H _ _ (c5 N (tzp _)) ρ W ws a5 L.rep) λe w' he=>?_;obtain ⟨ρ',x,rfl,hx,_,hF⟩:=he;obtain ⟨⟨l,n,rfl⟩,_⟩:=L;refine ⟨by cases hx;rfl,hF.os,hF.tape,hF.output,hF.size,λk hk=>hF.same k hk λi B p h1 h2=>(yow h1 h2).elim⟩
end Go.Dv
namespace Go.Dv
attribute [local simp] zza zyw
open Go Go.Sim
variable {P:Program} {D:DH} {base:Nat} {tm:Trie DV}
theorem xsb {L o n a b:Nat}:below L (.prt o n a b)=decide (o<L):=by simp [below]
theorem ygh {o n a b:Nat}:zwz (.prt o n a b)=true:=rfl
theorem xsc {o n a b:Nat}:zzd (.prt o n a b)=[.prt o n a b]:=rfl
theorem xsd {o n a b:Nat}:zyw (some (.prt o n a b))=some o:=rfl
theorem yoz {o n a b:Nat}:zva (.prt o n a b)=.prt o n a b:=rfl
def elP (n off len:Nat):Option DObj->Option (List DV)
 | some (.app _ sz els)=>if els.length=n/\0<sz then some ((els.drop off).take len) else none
 | _=>none
theorem xye {o n off len:Nat}:zwd D (.prt o n off len)=elP n off len D[o]?:=by
 simp only [zwd];cases D[o]? with
 | none=>rfl
 | some x=>cases x<;>rfl
theorem xyf {n off len e sz:Nat} {els:List DV}:elP n off len (some (.app e sz els))=if els.length=n/\0<sz then some ((els.drop off).take len) else none:=rfl
def ixP (T:SlT) (o m off len n:Nat):Option DObj->Option DV
 | some (.app _ sz els)=>if sz=T.sz/\els.length=m/\n<len then some (.rfa o m (off+n) 0) else none
 | _=>none
theorem xse {T:SlT} {A:Option (Nat×Nat×TypeId)} {n o m off len:Nat}:zyt D (some T) A n (.prt o m off len)=ixP T o m off len n D[o]?:=by
 simp only [zyt];cases D[o]? with
 | none=>rfl
 | some x=>cases x<;>rfl
theorem xyg {T:SlT} {o m off len n e sz:Nat} {els:List DV}:ixP T o m off len n (some (.app e sz els))=if sz=T.sz/\els.length=m/\n<len then some (.rfa o m (off+n) 0) else none:=rfl
def lnP (n len:Nat):Option DObj->Option Nat
 | some (.app _ _ els)=>if els.length=n then some len else none
 | _=>none
theorem xsf {o n off len:Nat}:zqf D (.prt o n off len)=lnP n len D[o]?:=by
 simp only [zqf];cases D[o]? with
 | none=>rfl
 | some x=>cases x<;>rfl
theorem xyh {n len e sz:Nat} {els:List DV}:lnP n len (some (.app e sz els))=if els.length=n then some len else none:=rfl
theorem xsg {t:TypeId} {o n:Nat} {lo hi:Option Operand}:zvy P tm D t (some (.apl o n)) lo hi none=slK P D t (.apl o n) (bdD tm 0 lo) (hiB tm hi):=xtm rfl
theorem xsh {t:TypeId} {l:Nat} {h:Option Nat} {o n:Nat}:zvx P D t l h (.apl o n)=zwu D (tSl P t) l h (.apl o n):=rfl
def dsA (T:SlT) (l:Nat) (h:Option Nat) (o len:Nat):Option DObj->Option DV
 | some (.app _ sz els)=>if sz=T.sz/\els.length=len/\0<len/\l<=h.getD len/\h.getD len<=len then some (.prt o len l (h.getD len-l)) else none
 | _=>none
theorem xsi {T:SlT} {l:Nat} {h:Option Nat} {o n:Nat}:zwu D (some T) l h (.apl o n)=dsA T l h o n D[o]?:=by
 simp only [zwu];cases D[o]? with
 | none=>rfl
 | some x=>cases x<;>rfl
theorem xyi {T:SlT} {l:Nat} {h:Option Nat} {o len e sz:Nat} {els:List DV}:dsA T l h o len (some (.app e sz els))=if sz=T.sz/\els.length=len/\0<len/\l<=h.getD len/\h.getD len<=len then some (.prt o len l (h.getD len-l)) else none:=rfl
def clO (base o n off len:Nat) (T:SlT) (D:DH):Option DObj->Option DRes
 | some (.app e sz els)=>if sz=1/\T.sz=1/\base<=o/\els.length=n/\off+len<=n then some (.val (.tup []) (D.set o (.app e sz (putAt els off (List.replicate len T.z))))) else none
 | _=>none
theorem ygi {t:TypeId} {o n off len:Nat} {T:SlT} (hT:tSl P t=some T):zx1 P D base [t] [.prt o n off len] .clear=clO base o n off len T D D[o]?:=by
 simp only [zx1,zi6,hT];cases D[o]? with
 | none=>rfl
 | some x=>cases x<;>rfl
theorem xyj {base o n off len e sz:Nat} {T:SlT} {els:List DV}:clO base o n off len T D (some (.app e sz els))=if sz=1/\T.sz=1/\base<=o/\els.length=n/\off+len<=n then some (.val (.tup []) (D.set o (.app e sz (putAt els off (List.replicate len T.z))))) else none:=rfl
attribute [simp] yoz xsb ygh xsc xsd xye xyf xse xyg xsf xyh xsg xsh xsi xyi ygi xyj
end Go.Dv
namespace Go.Dv
attribute [local simp] zza zyw
open Go Go.Sim
variable {P:Program} {D:DH} {base:Nat} {tm:Trie DV}
theorem xou {L:Nat}:below L .em=true:=by simp [below]
theorem xov {L o v n:Nat}:below L (.lv o v n)=decide (o<L):=by simp [below]
theorem xyk:zwz .em=true:=rfl
theorem xyl {o v n:Nat}:zwz (.lv o v n)=true:=rfl
theorem xow:zzd .em=[.em]:=rfl
theorem xox {o v n:Nat}:zzd (.lv o v n)=[.lv o v n]:=rfl
theorem xoy:zyw (some .em)=none:=rfl
theorem xoz {o v n:Nat}:zyw (some (.lv o v n))=some o:=rfl
theorem ygj:zva .em=.em:=rfl
theorem ygk {o v n:Nat}:zva (.lv o v n)=.lv o v n:=rfl
theorem xo0:zqf D .em=some 0:=rfl
theorem xo1 {o v n:Nat}:zqf D (.lv o v n)=some n:=rfl
theorem xsj:zwd D .em=some []:=rfl
def elN (ver len:Nat):Option DObj->Option (List DV)
 | some (.chn _ sz _ L)=>match zo2 (zpr ver L) with
  | some els=>if els.length=len/\0<sz then some els else none
  | none=>none
 | _=>none
theorem xsk {o v n:Nat}:zwd D (.lv o v n)=elN v n D[o]?:=by
 simp only [zwd];cases D[o]? with
 | none=>rfl
 | some x=>cases x<;>rfl
theorem xym {v n e sz ctr:Nat} {L:List (Nat×List DV)} {els:List DV} (h:zo2 (zpr v L)=some els):elN v n (some (.chn e sz ctr L))=if els.length=n/\0<sz then some els else none:=by
 simp only [elN,h]
theorem xo2 {T:SlT} {new:List DV}:zwk D base T .em new=if bnd new.length T.by_/\0<new.length then some (.lv D.length 0 new.length,D++[.chn T.e T.sz 1 [(0,new)]]) else none:=rfl
def apN (D:DH) (base:Nat) (T:SlT) (o ver len:Nat) (new:List DV):Option DObj->Option (DV×DH)
 | some (.chn e sz ctr L)=>match zo2 (zpr ver L) with
  | some els=>if e=T.e/\sz=T.sz/\els.length=len/\base<=o/\bnd (len+new.length) T.by_/\0<new.length/\L.length<99 then some (.lv o ctr (len+new.length),D.set o (.chn e sz (ctr+1) ((ctr,els++new)::zpr ver L))) else none
  | none=>none
 | _=>none
theorem xo3 {T:SlT} {o v n:Nat} {new:List DV}:zwk D base T (.lv o v n) new=apN D base T o v n new D[o]?:=by
 simp only [zwk];cases D[o]? with
 | none=>rfl
 | some x=>cases x<;>rfl
theorem xyn {T:SlT} {o v n e sz ctr:Nat} {L:List (Nat×List DV)} {els new:List DV} (h:zo2 (zpr v L)=some els):apN D base T o v n new (some (.chn e sz ctr L))=if e=T.e/\sz=T.sz/\els.length=n/\base<=o/\bnd (n+new.length) T.by_/\0<new.length/\L.length<99 then some (.lv o ctr (n+new.length),D.set o (.chn e sz (ctr+1) ((ctr,els++new)::zpr v L))) else none:=by
 simp only [apN,h]
theorem xo4 {op:BinOp} {t:TypeId} {x y:Operand} {b:Option DV}:ykn P op t x y (some .em) b=zsp (tSl P t) op b:=rfl
theorem xo5 {op:BinOp} {t:TypeId} {x y:Operand} {o v n:Nat} {b:Option DV}:ykn P op t x y (some (.lv o v n)) b=zsp (tSl P t) op b:=rfl
theorem xsl {T:SlT}:zsp (some T) .eql (some zyf)=some (rv (.bool false)):=rfl
theorem ydr {L e sz ctr:Nat} {l:List (Nat×List DV)}:zza L (.chn e sz ctr l)=l.all λq=>q.2.all (below L):=rfl
theorem xsm {L:Nat} {l:List DV}:zql L (.em::l)=zql L l:=rfl
theorem xsn {L o v n:Nat} {l:List DV}:zql L (.lv o v n::l)=min o (zql L l):=rfl
def geO (base:Nat) (tm:Trie DV) (t:Nat) (D:DH) (o:Nat):Option DObj->Option SD
 | some (.arr sz _)=>if base<=o/\0<sz then some ⟨tm.put t .em,D.set o .dead⟩ else none
 | _=>none
def geR (base:Nat) (tm:Trie DV) (t:Nat) (D:DH):Option DV->Option SD
 | some (.row o _ 0 0)=>geO base tm t D o D[o]?
 | some .em=>some ⟨tm,D⟩
 | some (.lv ..)=>some ⟨tm,D⟩
 | _=>none
theorem ze5 {t:Nat}:zxh base ⟨tm,D⟩ (.emp t)=geR base tm t D (tm.get t):=by
 simp only [zxh];cases tm.get t with
 | none=>rfl
 | some d=>
  cases d with
  | row o off n c=>
   cases n with
   | zero=>
    cases c with
    | zero=>
     show (match D[o]? with
      | some (.arr sz _)=>if base<=o/\0<sz then some ⟨tm.put t .em,D.set o .dead⟩ else none
      | _=>none)=geO base tm t D o D[o]?
     cases D[o]? with
     | none=>rfl
     | some x=>cases x<;>rfl
    | succ c=>rfl
   | succ n=>rfl
  | _=>rfl
theorem xyo {t o i:Nat}:geR base tm t D (some (.row o i 0 0))=geO base tm t D o D[o]?:=rfl
theorem xso {t:Nat}:geR base tm t D (some .em)=some ⟨tm,D⟩:=rfl
theorem xsp {t o v n:Nat}:geR base tm t D (some (.lv o v n))=some ⟨tm,D⟩:=rfl
theorem xyp {t o sz:Nat} {els:List DV}:geO base tm t D o (some (.arr sz els))=if base<=o/\0<sz then some ⟨tm.put t .em,D.set o .dead⟩ else none:=rfl
attribute [simp] ze5 xyo xso xsp xyp
attribute [simp] xou xov xyk xyl xow xox xoy xoz ygj ygk xo0 xo1 xsj xsk xo2 xo3 xo4 xo5 xsl ydr xsm xsn
end Go.Dv
namespace Go.Dv
attribute [local simp] zza zyw
open Go Go.Sim
variable {P:Program} {D:DH} {base:Nat} {tm:Trie DV}
def gfF (tm:Trie DV):Option DH->Option SD
 | some D=>some ⟨tm,D⟩
 | none=>none
def gfA (base:Nat) (tm:Trie DV) (D:DH):Option DV->Option SD
 | some (.apl p n)=>gfF tm (frzE base p n D)
 | _=>none
def gfE (base:Nat) (tm:Trie DV) (D:DH) (c:Nat):Option DV->Option SD
 | some d=>gfA base tm D (zzd d)[c]?
 | none=>none
def gfO (base:Nat) (tm:Trie DV) (D:DH) (i c:Nat):Option DObj->Option SD
 | some (.arr _ els)=>gfE base tm D c els[i]?
 | _=>none
def gfP (base:Nat) (tm:Trie DV) (D:DH) (k:Nat):Option DV->Option SD
 | some (.ref o i j)=>gfO base tm D i (j+k) D[o]?
 | _=>none
theorem xsq {t k:Nat}:zxh base ⟨tm,D⟩ (.frzE t k)=gfP base tm D k (tm.get t):=by
 simp only [zxh];cases tm.get t with
 | none=>rfl
 | some d=>
  cases d with
  | ref o i j=>
   simp only [gfP];cases D[o]? with
   | none=>rfl
   | some x=>
    cases x with
    | arr sz els=>
     simp only [gfO];cases els[i]? with
     | none=>rfl
     | some d=>
      simp only [gfE];cases (zzd d)[j+k]? with
      | none=>rfl
      | some d=>
       cases d with
       | apl p n=>
        simp only [gfA];cases frzE base p n D<;>rfl
       | _=>rfl
    | _=>rfl
  | _=>rfl
theorem xyq {o i j k:Nat}:gfP base tm D k (some (.ref o i j))=gfO base tm D i (j+k) D[o]?:=rfl
theorem xyr {i c sz:Nat} {els:List DV}:gfO base tm D i c (some (.arr sz els))=gfE base tm D c els[i]?:=rfl
theorem ygl {c:Nat} {d:DV}:gfE base tm D c (some d)=gfA base tm D (zzd d)[c]?:=rfl
theorem xys {p n:Nat}:gfA base tm D (some (.apl p n))=gfF tm (frzE base p n D):=rfl
theorem ygm:gfF tm (some D)=some ⟨tm,D⟩:=rfl
attribute [simp] xsq xyq xyr ygl xys ygm
end Go.Dv
