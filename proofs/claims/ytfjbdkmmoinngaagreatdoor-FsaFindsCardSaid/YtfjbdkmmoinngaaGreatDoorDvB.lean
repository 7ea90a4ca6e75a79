/- Texts of this proof, part DvB. -/
import Derived.Test.YtfjbdkmmoinngaaGreatDoorDvA
import Derived.Test.YtfjbdkmmoinngaaGreatDoorSimB
noncomputable section
set_option linter.unusedVariables false
set_option linter.unusedSimpArgs false
set_option linter.unusedSectionVars false
namespace Go.Dv
open Go Go.Sim
variable {W:Nat→Prop} {C C' C'':Ctx} {P:Program} {tm:Trie DV} {tmH:Trie Value} {base:Nat}
/-! ### marks -/
def Marks (n0:Nat) (H:Hp) (ds:List Deferred):Prop:=∃ bs:List Nat,ds=bs.map (fun b=>{ target:=.collected b,args:=#[] })∧bs.Nodup∧∀ b∈bs,n0≤b∧H.get b=some (.defs (some []))
theorem defs_free (hr:HR C) {b:Nat} {x:Option (List Deferred)} (h:C.H.get b=some (.defs x)):(∀ o,¬Own C o b)∧¬C.S b:=by
 refine ⟨fun o g=>?_,fun g=>?_⟩
 ·obtain ⟨y,h1,h2,rfl⟩:=g
  have k:=hr.ob o y h1
  cases y with
  | arr sz els=>obtain ⟨cs,e,q,_⟩:=k;rw [h] at q;simp at q
  | app e sz els=>
   have:els≠[]:=fun q=>by subst q;simp [owns] at h2
   obtain ⟨cs,c,r,q,_⟩:=k this;rw [h] at q;simp at q
  | map ks vs=>obtain ⟨es,ck,q,_⟩:=k;rw [h] at q;simp at q
  | loop=>obtain ⟨tmH,dn,q,_⟩:=k;rw [h] at q;simp at q
  | dead=>simp [owns] at h2
  | chn=>simp [owns] at h2
 ·obtain ⟨B,c,h1,h2⟩:=hr.st b g
  rw [h] at h1
  simp only [Option.some.injEq] at h1
  subst h1
  simp [Hp.rowOf] at h2
theorem Marks.nx {n0:Nat} {ds:List Deferred} (h:Marks n0 C.H ds) (hr:HR C) (nx:Nx W C C'):Marks n0 C'.H ds:=by
 obtain ⟨bs,h1,h2,h3⟩:=h
 refine ⟨bs,h1,h2,fun b hb=>?_⟩
 obtain ⟨g1,g2⟩:=h3 b hb
 exact ⟨g1,by rw [nx.get b (hr.wf.dom _ _ g2) (defs_free hr g2).1];exact g2⟩
structure Off (C C':Ctx) (n0:Nat):Prop where
 σ:C'.σ=C.σ
 S:C'.S=C.S
 D:C'.D=C.D
 n:C'.H.n=C.H.n
 low:∀ b,b<n0→C'.H.get b=C.H.get b
 get:∀ b,(∀ x,C.H.get b≠some (.defs x))→C'.H.get b=C.H.get b
 back:∀ b c e k,C'.H.get b=some (.cells c e k)→C.H.get b=some (.cells c e k)
 stk:∀ k,C'.H.stk k=C.H.stk k
theorem Off.refl (C:Ctx) (n0:Nat):Off C C n0:=⟨rfl,rfl,rfl,rfl,fun _ _=>rfl,fun _ _=>rfl,fun _ _ _ _ h=>h,fun _=>rfl⟩
theorem Off.rows {n0:Nat} (h:Off C C' n0) (hr:HR C):∀ b,C.S b→C'.H.row b=C.H.row b:=by
 intro b hb
 have:C'.H.get b=C.H.get b:=h.get b (fun x hx=>(defs_free hr hx).2 hb)
 unfold Hp.row
 rw [this]
 cases C.H.get b with
 | none=>rfl
 | some B=>
  simp only [Option.bind_some]
  cases B with
  | cells c e k=>cases k<;>simp [Hp.rowOf,h.stk]
  | _=>rfl
theorem Off.dr {n0:Nat} (h:Off C C' n0) (hr:HR C) {d:DV} {v:Value} (k:DR C d v):DR C' d v:=by
 have hrow:=h.rows hr
 have hS:∀ b,C.S b→C'.S b:=fun b hb=>by rw [h.S];exact hb
 induction k with
 | f k=>exact .f (k.mono hS hrow)
 | agg hl _ ih=>exact .agg hl ih
 | tup hl _ ih=>exact .tup hl ih
 | fn ha hb _ _ ih1 ih2=>exact .fn ha hb ih1 ih2
 | yl ho one g=>exact .yl (by rw [h.D];exact ho) one (by rw [h.D,h.σ];exact g)
 | ref ho one g=>exact .ref (by rw [h.D];exact ho) one (by rw [h.D,h.σ];exact g)
 | rfa ho one hn g=>exact .rfa (by rw [h.D];exact ho) one hn (by rw [h.D,h.σ];exact g)
 | row ho one g=>exact .row (by rw [h.D];exact ho) one (by rw [h.D,h.σ];exact g)
 | apl ho one g=>exact .apl (by rw [h.D];exact ho) one (by rw [h.D,h.σ];exact g)
 | prt ho one hn g=>exact .prt (by rw [h.D];exact ho) one hn (by rw [h.D,h.σ];exact g)
 | mp ho one g=>exact .mp (by rw [h.D];exact ho) one (by rw [h.D,h.σ];exact g)
 | em hb hc ho=>exact .em (hS _ hb) (by rw [hrow _ hb];exact hc) ho
 | lv ho hn g=>exact .lv (by rw [h.D];exact ho) hn (by rw [h.D,h.σ];exact g)
 | fp w hb hc hw hr'=>exact .fp w (hS _ hb) (by rw [hrow _ hb];exact hc) hw (fun j y hj=>(hr' j y hj).mono hS hrow)
theorem Off.hr {n0:Nat} (h:Off C C' n0) (hr:HR C) (wf:Wf C'.H):HR C':=by
 have cl:∀ {sz:Nat} {els:List DV} {cs:List Value},Cl C sz els cs→Cl C' sz els cs:=fun k=>⟨k.len,k.ok,fun i d j x h1 h2=>by obtain ⟨w,g1,g2⟩:=k.el i d j x h1 h2;exact ⟨w,g1,h.dr hr g2⟩,k.one⟩
 have ck:∀ {o k},Cls C' o k→Cls C o k:=fun g=>by
  rcases g with ⟨e,sz,els,cs,e',h1,h2,h3⟩ | ⟨e,sz,ctr,L,h1,h2⟩
  ·exact .inl ⟨e,sz,els,cs,e',by rw [← h.D];exact h1,h2,by rw [← h.σ];exact h.back _ _ _ _ h3⟩
  ·exact .inr ⟨e,sz,ctr,L,by rw [← h.D];exact h1,by rw [← h.σ];exact h2⟩
 have ow:∀ {o b},Own C' o b→Own C o b:=fun ⟨x,h1,h2,h3⟩=>⟨x,by rw [← h.D];exact h1,h2,by rw [← h.σ];exact h3⟩
 have nd:∀ {b:Nat} {B:Blk},C.H.get b=some B→(∀ x,B≠.defs x)→C'.H.get b=some B:=fun {b B} hB hn=>by
  rw [h.get b (fun x hx=>by rw [hB] at hx;simp only [Option.some.injEq] at hx;exact hn x hx)];exact hB
 exact
  {
   wf:=wf
   st:=fun b hb=>by
    rw [h.S] at hb
    obtain ⟨B,c,h1,h2⟩:=hr.st b hb
    have e:=h.rows hr b hb
    refine ⟨B,c,nd h1 (fun x q=>by subst q;simp [Hp.rowOf] at h2),?_⟩
    unfold Hp.row at e
    rw [nd h1 (fun x q=>by subst q;simp [Hp.rowOf] at h2),h1] at e
    simp only [Option.bind_some] at e
    rw [e];exact h2
   ob:=fun o x hx=>by
    rw [h.D] at hx
    have k:=hr.ob o x hx
    cases x with
    | arr sz els=>obtain ⟨cs,e,g1,g2⟩:=k;exact ⟨cs,e,by rw [h.σ];exact nd g1 (by simp),cl g2⟩
    | app e sz els=>intro hne;obtain ⟨cs,c,r,g1,g2,g3⟩:=k hne;exact ⟨cs,c,r,by rw [h.σ];exact nd g1 (by simp),by rw [h.stk,h.σ];exact g2,cl g3⟩
    | map ks vs=>obtain ⟨es,ck,g1,g2,g3,g4,g5⟩:=k;exact ⟨es,ck,by rw [h.σ];exact nd g1 (by simp),g2,g3,g4,fun i e d h1 h2=>h.dr hr (g5 i e d h1 h2)⟩
    | loop=>
     obtain ⟨tmH,dn,g1,g2,g3⟩:=k
     exact ⟨tmH,dn,by rw [h.σ];exact nd g1 (by simp),fun t d hd=>by obtain ⟨v,q1,q2⟩:=g2 t d hd;exact ⟨v,q1,h.dr hr q2⟩,g3⟩
    | dead=>exact trivial
    | chn=>
     obtain ⟨c,b,bs,rest,g1,g2,g3,g4,g5,g6,g7⟩:=k
     exact ⟨c,b,bs,rest,by rw [h.σ];exact g1,g2,by rw [h.stk];exact g3,g4,g5,g6,fun i x b' hi hb=>by obtain ⟨cs,q1,q2⟩:=g7 i x b' hi hb;exact ⟨cs,nd q1 (by simp),cl q2⟩⟩
   nS:=fun o b g hb=>by rw [h.S] at hb;exact hr.nS o b (ow g) hb
   inj:=fun o o' b g g'=>hr.inj o o' b (ow g) (ow g')
   cS:=fun o k b cs e g hb hg=>by rw [h.S] at hb;exact hr.cS o k b cs e (ck g) hb (h.back _ _ _ _ hg)
   cI:=fun o o' k g g'=>hr.cI o o' k (ck g) (ck g') }
theorem Nx.off {n0:Nat} {C0:Ctx} (nx:Nx W C0 C) (h:Off C C' n0) (hr0:HR C0) (hn:C0.H.n≤n0):Nx W C0 C' where
 n:=by rw [h.n];exact nx.n
 S:=fun b hb=>by rw [h.S];exact nx.S b hb
 len:=by rw [h.D];exact nx.len
 get:=fun b hb ho=>by rw [h.low b (by omega)];exact nx.get b hb ho
 stk:=fun k hk ho=>by rw [h.stk];exact nx.stk k hk ho
 evo:=fun o x' ho hx=>by rw [h.D] at hx;rw [h.σ];exact nx.evo o x' ho hx
 own:=fun o b ⟨x,h1,h2,h3⟩=>nx.own o b ⟨x,by rw [← h.D];exact h1,h2,by rw [← h.σ];exact h3⟩
 cls:=fun o k g=>nx.cls o k (by
  rcases g with ⟨e,sz,els,cs,e',h1,h2,h3⟩ | ⟨e,sz,ctr,L,h1,h2⟩
  ·exact .inl ⟨e,sz,els,cs,e',by rw [← h.D];exact h1,h2,by rw [← h.σ];exact h.back _ _ _ _ h3⟩
  ·exact .inr ⟨e,sz,ctr,L,by rw [← h.D];exact h1,by rw [← h.σ];exact h2⟩)
 kp:=fun o ho hw=>by
  obtain ⟨a,b,c⟩:=nx.kp o ho hw
  refine ⟨by rw [h.D];exact a,by rw [h.σ];exact b,fun p hp=>?_⟩
  obtain ⟨c1,c2⟩:=c p hp
  have hpn:=hp.lt hr0
  refine ⟨by rw [h.low p (by omega)];exact c1,?_⟩
  rw [← c2]
  unfold Hp.row
  rw [h.low p (by omega)]
  cases C.H.get p with
  | none=>rfl
  | some B=>
   simp only [Option.bind_some]
   cases B with
   | cells c e k=>cases k<;>simp [Hp.rowOf,h.stk]
   | _=>rfl
theorem unwind_ok {n0:Nat}:∀ (bs:List Nat) {C:Ctx} (hr:HR C) {m:Nat},bs.Nodup→(∀ b∈bs,n0≤b∧C.H.get b=some (.defs (some [])))→bs.length<m →
  ∃ C',unwindB m (bs.map (fun b=>({ target:=.collected b,args:=#[] }:Deferred))) C.H=some C'.H∧HR C'∧Off C C' n0
 | [],C,hr,m,_,_,hm=>by
  obtain ⟨m,rfl⟩:∃ k,m=k+1:=⟨m-1,by simp at hm;omega⟩
  exact ⟨C,rfl,hr,Off.refl C n0⟩
 | b::bs,C,hr,m,hd,hb,hm=>by
  obtain ⟨m,rfl⟩:∃ k,m=k+1:=⟨m-1,by simp at hm;omega⟩
  obtain ⟨h1,h2⟩:=hb b (List.mem_cons_self ..)
  obtain ⟨hd1,hd2⟩:=List.nodup_cons.1 hd
  have o1:Off C ⟨C.σ,C.S,C.H.put b (.defs none),C.D⟩ n0:=
   {
    σ:=rfl,S:=rfl,D:=rfl,n:=by simp
    low:=fun p hp=>by simp only [Hp.get_put];rw [if_neg (by omega)]
    get:=fun p hp=>by simp only [Hp.get_put];rw [if_neg (fun e=>hp _ (by rw [e];exact h2))]
    back:=fun p c e k hp=>by
     simp only [Hp.get_put] at hp
     split at hp
     ·simp at hp
     ·exact hp
    stk:=fun k=>by simp }
  have hr1:=o1.hr hr (hr.wf.putD (hr.wf.dom _ _ h2) (fun c e k h=>by simp at h))
  obtain ⟨C',a1,a2,a3⟩:=unwind_ok bs hr1 (m:=m) hd2 (fun p hp=>by
   obtain ⟨g1,g2⟩:=hb p (List.mem_cons_of_mem _ hp)
   refine ⟨g1,?_⟩
   simp only [Hp.get_put]
   rw [if_neg (fun e=>hd1 (by rw [← e];exact hp))]
   exact g2) (by simp at hm;omega)
  refine ⟨C',?_,a2,⟨a3.σ.trans o1.σ,a3.S.trans o1.S,a3.D.trans o1.D,a3.n.trans o1.n,fun p hp=>(a3.low p hp).trans (o1.low p hp),fun p hp=>?_,fun p c e k hp=>o1.back _ _ _ _ (a3.back _ _ _ _ hp),fun k=>(a3.stk k).trans (o1.stk k)⟩⟩
  ·show (match C.H.get b with
    | some (.defs (some l))=>unwindB m (l++bs.map (fun b=>({ target:=.collected b,args:=#[] }:Deferred))) (C.H.put b (.defs none))
    | _=>none)=_
   rw [h2]
   exact a1
  ·rw [a3.get p (fun x hx=>?_),o1.get p hp]
   rw [o1.get p hp] at hx
   exact hp x hx
/-! ### what is let go at a loop's head, or at a frame's end -/
def Low (C:Ctx) (base:Nat):Prop:=base≤C.D.length∧∀ o x,o<base→C.D[o]? =some x→ObB base x
theorem Low.nx (h:Low C base) (nx:Nx (fun o=>base≤o) C C'):Low C' base:=by
 refine ⟨Nat.le_trans h.1 nx.len,fun o x ho hx=>?_⟩
 rw [(nx.kp o (by have:=h.1;omega) (by omega)).1] at hx
 exact h.2 o x ho hx
theorem ObB.mono {L L':Nat} (h:L≤L'):∀ {x:DObj},ObB L x→ObB L' x
 | .arr _ _,k=>fun d hd=>(below_le h).1 d (k d hd)
 | .app _ _ _,k=>fun d hd=>(below_le h).1 d (k d hd)
 | .map _ _,k=>fun d hd=>(below_le h).1 d (k d hd)
 | .loop ..,_=>trivial
 | .dead,_=>trivial
 | .chn ..,k=>fun x hx d hd=>(below_le h).1 d (k x hx d hd)
theorem below_cells {L:Nat} {d:DV} (h:∀ x∈cellsD d,below L x=true):below L d=true:=by
 cases d with
 | agg l=>
  show belows L l=true
  have:∀ l:List DV,(∀ x∈l,below L x=true)→belows L l=true:=by
   intro l
   induction l with
   | nil=>intro _;rfl
   | cons a l ih=>intro h;simp only [belows,Bool.and_eq_true];exact ⟨h a (List.mem_cons_self ..),ih (fun x hx=>h x (List.mem_cons_of_mem _ hx))⟩
  exact this l h
 | _=>exact h _ (List.mem_singleton.2 rfl)
theorem HR.low (hr:HR C):Low C C.D.length:=by
 refine ⟨Nat.le_refl _,fun o x _ hx=>?_⟩
 have k:=hr.ob o x hx
 have cl:∀ {sz:Nat} {els:List DV} {cs:List Value},Cl C sz els cs→∀ d∈els,Dv.below C.D.length d=true:=fun {sz els cs} k d hd=>by
  obtain ⟨i,hi⟩:=List.getElem?_of_mem hd
  refine below_cells (fun y hy=>?_)
  obtain ⟨j,hj⟩:=List.getElem?_of_mem hy
  obtain ⟨w,_,g⟩:=k.el i d j y hi hj
  exact g.lows
 cases x with
 | arr sz els=>obtain ⟨cs,e,g1,g2⟩:=k;exact cl g2
 | app e sz els=>
  intro d hd
  have:els≠[]:=fun q=>by subst q;cases hd
  obtain ⟨cs,c,r,g1,g2,g3⟩:=k this
  exact cl g3 d hd
 | map ks vs=>
  obtain ⟨es,ck,g1,g2,g3,g4,g5⟩:=k
  intro d hd
  obtain ⟨i,hi⟩:=List.getElem?_of_mem hd
  obtain ⟨e,he⟩:=getOf (l:=es) (i:=i) (by have:=ltOf hi;omega)
  exact (g5 i e d he hi).lows
 | loop=>exact trivial
 | dead=>exact trivial
 | chn e sz ctr L=>
  obtain ⟨c,b,bs,rest,g1,g2,g3,g4,g5,g6,g7⟩:=k
  intro x hx d hd
  obtain ⟨i,hi⟩:=List.getElem?_of_mem hx
  obtain ⟨b',hb⟩:=getOf (l:=b::bs) (i:=i) (by rw [g2];exact ltOf hi)
  obtain ⟨cs,_,q2⟩:=g7 i x b' hi hb
  exact cl q2 d hd
theorem objBelow_ok {L:Nat} {x:DObj} (h:objBelow L x=true):ObB L x:=by
 cases x with
 | arr sz els=>exact List.all_eq_true.1 h
 | app e sz els=>exact List.all_eq_true.1 h
 | map ks vs=>exact List.all_eq_true.1 h
 | loop=>exact trivial
 | dead=>exact trivial
 | chn e sz ctr L=>exact fun x hx=>List.all_eq_true.1 (List.all_eq_true.1 h x hx)
theorem objsOK_ok {L:Nat} {D:DH} (h:objsOK base L D=true) {o:Nat} {x:DObj} (h1:base≤o) (h2:o<L) (hx:D[o]? =some x):ObB L x:=by
 unfold objsOK at h
 refine objBelow_ok (List.all_eq_true.1 h x ?_)
 have:((D.drop base).take (L-base))[o-base]? =some x:=by
  rw [List.getElem?_take,if_pos (by omega),List.getElem?_drop,show base+(o-base)=o by omega]
  exact hx
 exact List.mem_of_getElem? this
theorem canon_get {tm:Trie DV}:∀ {keep:List Tmp} {t:Tmp} {d:DV},(canon tm keep).get t=some d→tm.get t=some d∧t∈keep
 | [],t,d,h=>by simp [canon] at h
 | k::l,t,d,h=>by
  simp only [canon] at h
  split at h
  ·rename_i x hx
   rw [Trie.get_put] at h
   split at h
   ·rename_i e
    subst e
    simp only [Option.some.injEq] at h
    subst h
    exact ⟨hx,List.mem_cons_self ..⟩
   ·obtain ⟨a,b⟩:=canon_get h
    exact ⟨a,List.mem_cons_of_mem _ b⟩
  ·obtain ⟨a,b⟩:=canon_get h
   exact ⟨a,List.mem_cons_of_mem _ b⟩
theorem keepOK_ok {tm:Trie DV} {L:Nat}:∀ {keep:List Tmp},keepOK tm L keep=true→∀ t∈keep,∀ d,tm.get t=some d→below L d=true
 | [],_,t,h=>by cases h
 | k::l,h,t,ht=>by
  simp only [keepOK] at h
  intro d hd
  split at h
  ·rename_i x hx
   simp only [Bool.and_eq_true] at h
   rcases List.mem_cons.1 ht with rfl | ht
   ·rw [hx] at hd;simp only [Option.some.injEq] at hd;subst hd;exact h.1
   ·exact keepOK_ok h.2 t ht d hd
  ·rcases List.mem_cons.1 ht with rfl | ht
   ·rename_i hx;rw [hx] at hd;cases hd
   ·exact keepOK_ok h t ht d hd
theorem head_ok (hr:HR C) {C0:Ctx} {keep:List Tmp} {raw:Bool} {s s1:SD} (hD:C.D=s.D) (ht:TR C s.tm tmH) (hlow:Low C base) (nx:Nx (fun o=>base≤o) C0 C) (h:headD keep raw base C0.D.length s=some s1) :
  ∃ C1,C1.H=C.H∧C1.D=s1.D∧HR C1∧Nx (fun o=>base≤o) C0 C1∧TR C1 s1.tm tmH:=by
 unfold headD at h
 split at h
 ·simp only [Option.some.injEq] at h
  subst h
  exact ⟨C,rfl,hD,hr,nx,fun t d hd=>ht t d (canon_get hd).1⟩
 ·split at h
  ·rename_i hc
   obtain ⟨c1,c2,c3,c4⟩:=hc
   simp only [Option.some.injEq] at h
   subst h
   rw [← hD] at c2 c3
   have hr1:=hr.take (L:=C0.D.length) c3 (fun o x ho hx=>by
    rcases Nat.lt_or_ge o base with g | g
    ·exact (hlow.2 o x g hx).mono c4
    ·exact objsOK_ok c2 g ho hx)
   refine ⟨⟨C.σ,C.S,C.H,C.D.take C0.D.length⟩,rfl,by rw [hD],hr1,nx.take (Nat.le_refl _) c3,fun t d hd=>?_⟩
   obtain ⟨g1,g2⟩:=canon_get hd
   obtain ⟨v,q1,q2⟩:=ht t d g1
   exact ⟨v,q1,q2.take (C:=C) (C':=⟨C.σ,C.S,C.H,C.D.take C0.D.length⟩) (L:=C0.D.length) ⟨rfl,rfl⟩ (fun _ _=>rfl) (fun o ho=>by simp [List.getElem?_take,ho]) (by simp;omega) (keepOK_ok c1 t g2 d g1)⟩
  ·cases h
theorem kill_take:∀ {ids:List Nat} {D:DH},(∀ i∈ids,base≤i)→(kill D ids).take base=D.take base
 | [],D,_=>rfl
 | i::ids,D,h=>by
  show (kill (D.set i .dead) ids).take base=_
  rw [kill_take (fun j hj=>h j (List.mem_cons_of_mem _ hj)),List.take_set_of_le (h i (List.mem_cons_self ..))]
end Go.Dv
namespace Go.Dv
open Go Go.Sim
variable {W:Nat→Prop} {C C' C'':Ctx} {P:Program} {tm:Trie DV} {tmH:Trie Value} {base:Nat}
def Foot (C:Ctx) (dep:Option Nat) (fb:Option Nat):Prop:=∀ b,fb=some b→(dep=none∧C.S b)∨∃ p,dep=some p∧p<C.D.length∧Own C p b
structure RI (P:Program) (C:Ctx) (tmH:Trie Value) (op:Op) (w:Value) (dep:Option Nat):Prop where
 ex:∃ fb,Foot C dep fb∧∀ H',(∀ b,fb=some b→H'.get b=C.H.get b∧H'.row b=C.H.row b)→aopT op P tmH H'=some (.val w H')
theorem RI.now {op:Op} {w:Value} {dep:Option Nat} (h:RI P C tmH op w dep):aopT op P tmH C.H=some (.val w C.H):=by
 obtain ⟨fb,_,h2⟩:=h.ex
 exact h2 C.H (fun _ _=>⟨rfl,rfl⟩)
theorem RI.nx {op:Op} {w:Value} {dep:Option Nat} (h:RI P C tmH op w dep) (hr:HR C) (nx:Nx W C C') (hd:∀ p,dep=some p→¬W p):RI P C' tmH op w dep:=by
 obtain ⟨fb,h1,h2⟩:=h.ex
 have key:∀ b,fb=some b→C'.H.get b=C.H.get b∧C'.H.row b=C.H.row b:=by
  intro b hb
  rcases h1 b hb with ⟨_,g⟩ | ⟨p,g1,g2,g3⟩
  ·obtain ⟨B,c,q1,q2⟩:=hr.st b g
   exact ⟨nx.get b (hr.wf.dom _ _ q1) (fun o ho=>hr.nS o b ho g),nx.rows hr b g⟩
  ·exact (nx.kp p g2 (hd p g1)).2.2 b g3
 refine ⟨fb,fun b hb=>?_,fun H' hH=>h2 H' (fun b hb=>?_)⟩
 ·rcases h1 b hb with ⟨g1,g⟩ | ⟨p,g1,g2,g3⟩
  ·exact .inl ⟨g1,nx.S b g⟩
  ·obtain ⟨a1,a2,_⟩:=nx.kp p g2 (hd p g1)
   obtain ⟨x,e1,e2,e3⟩:=g3
   exact .inr ⟨p,g1,Nat.lt_of_lt_of_le g2 nx.len,x,by rw [a1];exact e1,e2,by rw [a2];exact e3⟩
 ·obtain ⟨q1,q2⟩:=hH b hb
  obtain ⟨k1,k2⟩:=key b hb
  exact ⟨q1.trans k1,q2.trans k2⟩
theorem RI.none {op:Op} {w:Value} {dep:Option Nat} (h:∀ H',aopT op P tmH H'=some (.val w H')):RI P C tmH op w dep:=⟨⟨Option.none,fun b hb=>(by cases hb),fun H' _=>h H'⟩⟩
theorem loadA_row {H H':Hp} {t:TypeId} {b o:Nat} (h:H'.row b=H.row b):loadA P H' t b o=loadA P H t b o:=by
 unfold loadA
 simp only [Hp.read,h]
theorem addr_foot (hr:HR C) {n:Option Nat} {p d:DV} {vp:Value} (hp:DR C p vp) (h:dLoad C.D n p=some d):∃ b off,addrOf vp=some (b,off)∧Foot C (depV (some p)) (some b):=by
 cases hp with
 | @ref o i k _ ho one g=>
  simp only [dLoad] at h
  split at h
  ·rename_i sz els hx
   rw [g _ _ hx]
   exact ⟨_,_,rfl,fun b hb=>by simp only [Option.some.injEq] at hb;subst hb;exact .inr ⟨o,rfl,ho,_,hx,rfl,rfl⟩⟩
  ·cases h
 | @rfa o m i k _ ho one hn g=>
  simp only [dLoad] at h
  split at h
  ·rename_i e sz els hx
   split at h
   ·rename_i hl
    rw [(g.2 _ _ _ hx).2 hl]
    refine ⟨_,_,rfl,fun b hb=>?_⟩
    simp only [Option.some.injEq] at hb
    subst hb
    refine .inr ⟨o,rfl,ho,_,hx,?_,rfl⟩
    cases els with
    | nil=>simp at hl;omega
    | cons=>rfl
   ·cases h
  ·cases h
 | fp w hb hc hw hf=>
  refine ⟨_,_,rfl,fun b' hb'=>?_⟩
  simp only [Option.some.injEq] at hb'
  subst hb'
  exact .inl ⟨rfl,hb⟩
 | _=>simp [dLoad] at h
theorem elsOf_foot {x:DV} {v:Value} {els:List DV} (hx:DR C x v) (hnl:noLv x=true) (h:elsOf C.D x=some els):(∃ c,v=.slice none 0 c∧c=0)∨∃ b o n cap,v=.slice (some ⟨b,o,none⟩) n cap∧Foot C (depV (some x)) (some b):=by
 cases hx with
 | f hf=>
  cases hf with
  | raw u=>
   unfold elsOf at h
   split at h<;>first | (cases h;done) | skip
   ·rename_i heq;simp at heq
   ·rename_i heq
    simp only [DV.f.injEq,FV.raw.injEq] at heq
    subst heq
    exact .inl ⟨0,rfl,rfl⟩
   all_goals (rename_i heq;simp at heq)
  | nil=>exact .inl ⟨0,rfl,rfl⟩
  | lst w hn hb hc hz hol hcap hs hw hr'=>
   refine .inr ⟨_,_,_,_,rfl,fun b' hb'=>?_⟩
   simp only [Option.some.injEq] at hb'
   subst hb'
   exact .inl ⟨rfl,hb⟩
 | @row o off len cap _ ho one g=>
  simp only [elsOf] at h
  split at h
  ·rename_i sz els' hD
   refine .inr ⟨_,_,_,_,(g _ _ hD).1,fun b hb=>?_⟩
   simp only [Option.some.injEq] at hb
   subst hb
   exact .inr ⟨o,rfl,ho,_,hD,rfl,rfl⟩
  ·cases h
 | @apl o len _ ho one g=>
  simp only [elsOf] at h
  split at h
  ·rename_i e sz els' hD
   split at h
   ·rename_i hl
    have e1:=(g.2 _ _ _ hD).2 hl.1
    cases len with
    | zero=>exact .inl ⟨0,e1,rfl⟩
    | succ n=>
     refine .inr ⟨_,_,_,_,e1,fun b hb=>?_⟩
     simp only [Option.some.injEq] at hb
     subst hb
     refine .inr ⟨o,rfl,ho,_,hD,?_,rfl⟩
     cases els' with
     | nil=>simp at hl
     | cons=>rfl
   ·cases h
  ·cases h
 | @prt o n off len _ ho one hn g=>
  simp only [elsOf] at h
  split at h
  ·rename_i e sz els' hD
   split at h
   ·rename_i hl
    obtain ⟨_,c,e1⟩:=(g.2 _ _ _ hD).2 hl.1
    refine .inr ⟨_,_,_,_,e1,fun b hb=>?_⟩
    simp only [Option.some.injEq] at hb
    subst hb
    refine .inr ⟨o,rfl,ho,_,hD,?_,rfl⟩
    cases els' with
    | nil=>simp at hl;omega
    | cons=>rfl
   ·cases h
  ·cases h
 | em=>simp [noLv] at hnl
 | lv=>simp [noLv] at hnl
 | _=>simp [elsOf] at h
theorem convA_row {H H':Hp} {s d:TypeId} {b o n cap:Nat} (h:H'.row b=H.row b):convA P H' s d (.slice (some ⟨b,o,none⟩) n cap)=convA P H s d (.slice (some ⟨b,o,none⟩) n cap):=by
 unfold convA
 cases P.underlying s with
 | none=>rfl
 | some ds=>
  cases P.underlying d with
  | none=>rfl
  | some dd=>
   simp only
   have:convD P H' (.slice (some ⟨b,o,none⟩) n cap) ds dd=convD P H (.slice (some ⟨b,o,none⟩) n cap) ds dd:=by
    unfold convD
    cases ds<;>cases dd<;>(try rfl)
    simp only [Hp.readAt,Hp.read,h]
   rw [this]
theorem read_foot (hr:HR C) (ht:TR C tm tmH) {op:Op} {d:DV} {D':DH} (hc:clsOf op=.read) (h:dop P base tm C.D op=some (.val d D')):∃ w,RI P C tmH op w (depOf tm op)∧DR C d w∧D'=C.D:=by
 obtain ⟨hDD,w,hw1,hw2⟩:=dop_same hr ht (.inr hc) h
 refine ⟨w,?_,hw2,hDD⟩
 cases op with
 | load t a=>
  simp only [dop] at h
  split at h
  ·rename_i n hn
   obtain ⟨h1,_⟩:=valD_inv h
   obtain ⟨p,h2,h3⟩:=Option.bind_eq_some_iff.1 h1
   obtain ⟨vp,g1,g2⟩:=evalD_ok (P:=P) ht h2
   obtain ⟨b,off,q1,q2⟩:=addr_foot hr g2 h3
   have hdep:depOf tm (.load t a)=depV (some p):=by simp only [depOf,h2]
   have ha:∀ H,aopT (.load t a) P tmH H=valH H (loadA P H t b off):=fun H=>by
    show oLoad P tmH H t a=_
    unfold oLoad
    rw [g1]
    simp only [Option.bind_some,q1]
   rw [hdep]
   refine ⟨some b,q2,fun H' hH=>?_⟩
   rw [ha] at hw1 ⊢
   rw [loadA_row (hH b rfl).2]
   cases hl:loadA P C.H t b off with
   | none=>rw [hl] at hw1;simp [valH] at hw1
   | some v=>
    rw [hl] at hw1
    simp only [valH,Option.some.injEq,ARes.val.injEq] at hw1
    rw [hw1.1];rfl
  ·cases h
 | lookup t m k ok=>
  simp only [dop] at h
  split at h
  ·rename_i dm hm
   split at h
   ·rename_i dk hk
    obtain ⟨h1,_⟩:=valD_inv h
    obtain ⟨vm,g1,g2⟩:=evalD_ok (P:=P) ht hm
    obtain ⟨vk,g3,g4⟩:=evalD_ok (P:=P) ht hk
    have hdep:depOf tm (.lookup t m k ok)=depV (some dm):=by simp only [depOf,hm]
    have ha:∀ H,aopT (.lookup t m k ok) P tmH H=valH H (lookupA P t vm vk ok H):=fun H=>by
     show oLookup P tmH H t m k ok=_
     unfold oLookup
     simp only [g1,g3]
    unfold dLookup at h1
    split at h1
    ·split at h1
     ·rename_i o
      split at h1
      ·rename_i ks vs hD
       cases g2 with
       | mp ho one g=>
        have e:=g _ _ hD
        subst e
        rw [hdep]
        refine ⟨some (C.σ o),fun b hb=>?_,fun H' hH=>?_⟩
        ·simp only [Option.some.injEq] at hb
         subst hb
         exact .inr ⟨o,rfl,ho,_,hD,rfl,rfl⟩
        ·rw [ha] at hw1 ⊢
         have:lookupA P t (.map (some (C.σ o))) vk ok H'=lookupA P t (.map (some (C.σ o))) vk ok C.H:=by
          unfold lookupA
          simp only [mapGet,(hH _ rfl).1]
         rw [this]
         cases hl:lookupA P t (.map (some (C.σ o))) vk ok C.H with
         | none=>rw [hl] at hw1;simp [valH] at hw1
         | some v=>
          rw [hl] at hw1
          simp only [valH,Option.some.injEq,ARes.val.injEq] at hw1
          rw [hw1.1];rfl
      ·cases h1
     ·cases h1
    ·cases h1
   ·cases h
  ·cases h
 | convert s t x=>
  obtain ⟨h1,_⟩:=valD_inv h
  obtain ⟨p,h2,h3⟩:=Option.bind_eq_some_iff.1 h1
  obtain ⟨vp,g1,g2⟩:=evalD_ok (P:=P) ht h2
  have hdep:depOf tm (.convert s t x)=depV (some p):=by simp only [depOf,h2]
  have ha:∀ H,aopT (.convert s t x) P tmH H=valH H (convA P H s t vp):=fun H=>by
   show oConv P tmH H s t x=_
   unfold oConv
   rw [g1];rfl
  have fin:∀ H',convA P H' s t vp=convA P C.H s t vp→aopT (.convert s t x) P tmH H'=some (.val w H'):=fun H' e=>by
   rw [ha] at hw1 ⊢
   rw [e]
   cases hl:convA P C.H s t vp with
   | none=>rw [hl] at hw1;simp [valH] at hw1
   | some v=>
    rw [hl] at hw1
    simp only [valH,Option.some.injEq,ARes.val.injEq] at hw1
    rw [hw1.1];rfl
  rw [hdep]
  unfold dConv at h3
  split at h3
  ·split at h3
   case isFalse=>cases h3
   rename_i hnl
   obtain ⟨l,e1,_⟩:=Option.map_eq_some_iff.1 h3
   obtain ⟨els,e2,e3⟩:=Option.bind_eq_some_iff.1 e1
   rcases elsOf_foot g2 hnl e2 with ⟨c,rfl,rfl⟩ | ⟨b,o,n,cap,rfl,hf⟩
   ·exact RI.none (fun H'=>fin H' (convA_indep rfl H' C.H))
   ·exact ⟨some b,hf,fun H' hH=>fin H' (convA_row (hH b rfl).2)⟩
  ·split at h3
   ·split at h3
    ·rename_i u hu
     rw [rawR g2] at fin
     exact RI.none (fun H'=>fin H' (convA_indep hu H' C.H))
    ·cases h3
   ·cases h3
 | call c=>
  change dCall P tm C.D base c=some (.val d D') at h
  unfold dCall at h
  split at h
  ·rename_i l hl
   obtain ⟨vs,g1,g2⟩:=evalsD_ok (P:=P) ht hl
   have ha:∀ b,c.callee=.builtin b→∀ H,aopT (.call c) P tmH H=builtinA P c.argTypes.toList vs H b:=by
    intro b hb H
    show oCall P tmH H c=_
    unfold oCall
    rw [g1,hb]
   split at h
   ·rename_i b hb
    have ha:=ha b hb
    obtain ⟨cal,ca,ct⟩:=c
    simp only at hb
    subst hb
    have arg0:∀ x,l=[x]→∃ y,ca.toList=[y]∧evalD tm y=some x:=by
     intro x hlx
     subst hlx
     cases hca:ca.toList with
     | nil=>simp only [hca,evalsD,Option.some.injEq] at hl;cases hl
     | cons y ys=>
      simp only [hca,evalsD] at hl
      split at hl
      ·rename_i d0 hd0
       obtain ⟨l',h1,h2⟩:=Option.map_eq_some_iff.1 hl
       simp only [List.cons.injEq] at h2
       obtain ⟨rfl,rfl⟩:=h2
       cases ys with
       | nil=>exact ⟨y,rfl,hd0⟩
       | cons z zs=>
        simp only [evalsD] at h1
        split at h1
        ·obtain ⟨_,_,q⟩:=Option.map_eq_some_iff.1 h1;cases q
        ·cases h1
      ·cases hl
    cases b<;>simp only [clsOf,reduceCtorEq] at hc<;>simp only [dBuiltin,reduceCtorEq] at h
    ·split at h
     ·rename_i t ts hts
      split at h
      ·rename_i x
       obtain ⟨h1,_⟩:=valD_inv h
       obtain ⟨vx,hvx⟩:∃ vx,vs=[vx]:=by
        match vs,g2.1 with
        | [v],_=>exact ⟨v,rfl⟩
       subst hvx
       obtain ⟨y,hy1,hy2⟩:=arg0 x rfl
       have hx:=g2.2 0 _ _ rfl rfl
       have hdep:depOf tm (.call ⟨.builtin .len,ca,ct⟩)=depV (some x):=by simp only [depOf,hy1,hy2]
       have ha':∀ H,aopT (.call ⟨.builtin .len,ca,ct⟩) P tmH H=valH H ((P.underlying t).bind (lenD H vx)):=fun H=>by
        rw [ha]
        simp only [hts,builtinA,on1]
       have fin:∀ H',(P.underlying t).bind (lenD H' vx)=(P.underlying t).bind (lenD C.H vx)→aopT (.call ⟨.builtin .len,ca,ct⟩) P tmH H'=some (.val w H'):=fun H' e=>by
        rw [ha'] at hw1 ⊢
        rw [e]
        cases hq:(P.underlying t).bind (lenD C.H vx) with
        | none=>rw [hq] at hw1;simp [valH] at hw1
        | some v=>
         rw [hq] at hw1
         simp only [valH,Option.some.injEq,ARes.val.injEq] at hw1
         rw [hw1.1];rfl
       rw [hdep]
       unfold tLen at h1
       cases hu:P.underlying t with
       | none=>rw [hu] at h1;simp [dLen] at h1
       | some dsc=>
        rw [hu] at h1 fin
        simp only [Option.map_some] at h1
        simp only [Option.bind_some] at fin
        cases dsc with
        | map kt et=>
         simp only [kindLen,dLen] at h1
         split at h1
         ·rename_i o
          split at h1
          ·rename_i ks vs hD
           cases hx with
           | mp ho one g=>
            have e:=g _ _ hD
            subst e
            refine ⟨some (C.σ o),fun b hb=>?_,fun H' hH=>fin H' ?_⟩
            ·simp only [Option.some.injEq] at hb
             subst hb
             exact .inr ⟨o,rfl,ho,_,hD,rfl,rfl⟩
            ·simp only [lenD,mapGet,(hH _ rfl).1]
          ·cases h1
         ·cases h1
        | _=>exact RI.none (fun H'=>fin H' rfl)
      ·cases h
     ·cases h
    ·obtain ⟨h1,_⟩:=valD_inv h
     obtain ⟨v,x,l',rfl,q1,q2⟩:=minmax_ok g2 h1
     refine RI.none (fun H'=>?_)
     rw [ha] at hw1 ⊢
     simp only [builtinA,onCons,q1,valH,Option.some.injEq,ARes.val.injEq] at hw1 ⊢
     exact ⟨hw1.1,trivial⟩
    ·obtain ⟨h1,_⟩:=valD_inv h
     obtain ⟨v,x,l',rfl,q1,q2⟩:=minmax_ok g2 h1
     refine RI.none (fun H'=>?_)
     rw [ha] at hw1 ⊢
     simp only [builtinA,onCons,q1,valH,Option.some.injEq,ARes.val.injEq] at hw1 ⊢
     exact ⟨hw1.1,trivial⟩
   ·rename_i f hf
    obtain ⟨p,h2,h3⟩:=Option.bind_eq_some_iff.1 h
    unfold dInvoke at h3
    split at h3
    ·simp at h3
    ·split at h3<;>simp at h3
    ·cases h3
   ·cases h
  ·cases h
 | _=>simp [clsOf] at hc
theorem eqA_self {b o:Nat}:eqA (some ⟨b,o,none⟩) (some ⟨b,o,none⟩)=true:=by simp [eqA]
theorem eqV1_ptr {b o:Nat}:eqV1 (.pointer (some ⟨b,o,none⟩)) (.pointer (some ⟨b,o,none⟩))=true:=eqA_self
theorem eqV1_sl {b o n c:Nat}:eqV1 (.slice (some ⟨b,o,none⟩) n c) (.slice (some ⟨b,o,none⟩) n c)=true:=by
 simp only [eqV1]
 rw [show Nat.beq n n=true by simp,show Nat.beq c c=true by simp]
 exact eqA_self
def Eq1 (v:Value):Prop:=eqV1 v v=true∧eqV v v=true
theorem eq1_of {v:Value} (h:eqV1 v v=true) (h1:oneCell v=true):Eq1 v:=by
 refine ⟨h,?_⟩
 cases v<;>first | exact h | (simp [eqV1] at h;done) | (simp [oneCell] at h1)
theorem liveD_ok {d:DV} {v:Value} (h:DR C d v) (k:liveD C.D d=true):Eq1 v:=by
 cases h with
 | ref ho one g=>
  obtain ⟨b,off,rfl⟩:=isRef_ok (.ref ho one g) k
  exact eq1_of eqV1_ptr rfl
 | rfa ho one hn g=>
  obtain ⟨b,off,rfl⟩:=isRef_ok (.rfa ho one hn g) k
  exact eq1_of eqV1_ptr rfl
 | row ho one g=>
  simp only [liveD] at k
  split at k
  ·rename_i hD
   rw [(g _ _ hD).1]
   exact eq1_of eqV1_sl rfl
  ·cases k
 | @apl o len _ ho one g=>
  simp only [liveD] at k
  split at k
  ·rename_i hD
   rw [(g.2 _ _ _ hD).2 (by simpa using k)]
   cases len with
   | zero=>exact eq1_of rfl rfl
   | succ n=>exact eq1_of eqV1_sl rfl
  ·cases k
 | mp ho one g=>
  simp only [liveD] at k
  split at k
  ·rename_i hD
   rw [g _ _ hD]
   exact eq1_of (by simp [eqV1]) rfl
  ·cases k
 | _=>simp [liveD] at k
theorem eq1D_ok {d:DV} {v:Value} (h:DR C d v) (k:eq1D C.D d=true):Eq1 v:=by
 cases h with
 | f hf=>
  cases hf with
  | raw v=>
   simp only [eq1D,Bool.and_eq_true] at k
   exact eq1_of k.1 k.2
  | nil=>exact eq1_of rfl rfl
  | lst=>exact eq1_of eqV1_sl rfl
 | fp=>exact eq1_of eqV1_ptr rfl
 | ref ho one g=>exact liveD_ok (.ref ho one g) k
 | rfa ho one hn g=>exact liveD_ok (.rfa ho one hn g) k
 | row ho one g=>exact liveD_ok (.row ho one g) k
 | apl ho one g=>exact liveD_ok (.apl ho one g) k
 | mp ho one g=>exact liveD_ok (.mp ho one g) k
 | _=>simp [eq1D,liveD] at k
theorem eqVs_ok:∀ {ds:List DV} {vs:List Value},vs.length=ds.length→(∀ (i:Nat) (d:DV) (v:Value),ds[i]? =some d→vs[i]? =some v→DR C d v)→ds.all (eq1D C.D)=true→eqVs vs vs=true
 | _,[],_,_,_=>rfl
 | [],v::vs,h,_,_=>by simp at h
 | d::ds,v::vs,hl,hr,h=>by
  simp only [List.all_cons,Bool.and_eq_true] at h
  simp only [eqVs,(eq1D_ok (hr 0 d v rfl rfl) h.1).1]
  exact eqVs_ok (by simpa using hl) (fun i d v a b=>hr (i+1) d v a b) h.2
theorem eqD_ok {d:DV} {v:Value} (h:DR C d v) (k:eqD C.D d=true):eqV v v=true:=by
 cases h with
 | f hf=>
  cases hf with
  | raw v=>exact k
  | nil=>rfl
  | lst=>exact (eq1_of eqV1_sl rfl).2
 | agg hl hr=>
  show eqVs _ _=true
  exact eqVs_ok hl hr k
 | tup hl hr=>
  show eqVs _ _=true
  exact eqVs_ok hl hr k
 | fn ha hb h1 h2=>
  simp only [eqD,Bool.and_eq_true] at k
  simp only [eqV]
  rw [show ∀ g:Nat,Nat.beq g g=true from fun g=>by simp]
  simp only [eqVs_ok ha h1 k.1,eqVs_ok hb h2 k.2]
 | fp=>exact (eq1_of eqV1_ptr rfl).2
 | ref ho one g=>exact (liveD_ok (.ref ho one g) k).2
 | rfa ho one hn g=>exact (liveD_ok (.rfa ho one hn g) k).2
 | row ho one g=>exact (liveD_ok (.row ho one g) k).2
 | apl ho one g=>exact (liveD_ok (.apl ho one g) k).2
 | mp ho one g=>exact (liveD_ok (.mp ho one g) k).2
 | yl=>simp [eqD,eq1D,liveD] at k
 | prt=>simp [eqD,eq1D,liveD] at k
 | em=>simp [eqD,eq1D,liveD] at k
 | lv=>simp [eqD,eq1D,liveD] at k
/-! ### guards and slots -/
theorem wantD_ok (ht:TR C tm tmH) {all:List Oper} {g:Option (Nat×Bool)} {b:Bool} (h:wantD all tm g=some b):wantedA all tmH g=b:=by
 cases g with
 | none=>simp only [wantD,Option.some.injEq] at h;subst h;rfl
 | some q=>
  obtain ⟨j,w⟩:=q
  simp only [wantD] at h
  show yieldedA all tmH j w=b
  unfold yieldedA
  cases hj:all[j]? with
  | none=>rw [hj] at h;simp [gdO] at h
  | some o=>
   rw [hj] at h
   obtain ⟨dst,op,ty,pos,aft,g⟩:=o
   cases dst with
   | none=>simp [gdO] at h
   | some d=>
    simp only [gdO] at h
    simp only
    cases hd:tm.get d with
    | none=>rw [hd] at h;simp [gdV] at h
    | some x=>
     rw [hd] at h
     obtain ⟨v,h1,h2⟩:=ht d x hd
     unfold gdV at h
     split at h
     ·rename_i c heq
      simp only [Option.some.injEq] at heq h
      subst heq h
      rw [h1,rawR h2]
      cases c<;>cases w<;>rfl
     ·rename_i c heq
      simp only [Option.some.injEq] at heq h
      subst heq h
      rw [h1,rawR h2]
     ·cases h
theorem TR.put (ht:TR C tm tmH) {nt:Nat} {dst:Option Tmp} {d:DV} {v:Value} (hd:DR C d v):TR C (putD tm nt dst d) (putU tmH nt dst v):=by
 cases dst with
 | none=>exact ht
 | some t=>
  unfold putD putU
  by_cases h:t<nt
  ·simp only [h,if_true]
   rw [show Nat.blt t nt=true by simpa using h]
   intro u e he
   rw [Trie.get_put] at he
   simp only [Trie.get_put]
   split at he
   ·rename_i q;simp only [Option.some.injEq] at he;subst he;rw [if_pos q];exact ⟨v,rfl,hd⟩
   ·rename_i q;rw [if_neg q];exact ht u e he
  ·simp only [h,if_false]
   have:Nat.blt t nt=false:=by
    cases hq:Nat.blt t nt with
    | false=>rfl
    | true=>rw [Nat.blt_eq] at hq;exact absurd hq h
   rw [this]
   exact ht
theorem putU_other {nt:Nat} {dst:Option Tmp} {v:Value} {t:Tmp} (h:hits dst [t]=false):(putU tmH nt dst v).get t=tmH.get t:=by
 cases dst with
 | none=>rfl
 | some u=>
  have hne:t≠u:=fun e=>by
   subst e
   simp [hits,memN] at h
  simp only [putU]
  cases Nat.blt u nt with
  | true=>simp only [Trie.get_put,if_neg hne]
  | false=>rfl
theorem hits_mem {dst:Option Tmp} {l:List Nat} (h:hits dst l=false) {t:Nat} (ht:t∈l):hits dst [t]=false:=by
 cases dst with
 | none=>rfl
 | some u=>
  simp only [hits] at h ⊢
  have hne:u≠t:=fun e=>by
   subst e
   rw [memN_iff.2 ht] at h;cases h
  simp only [memN]
  cases hb:Nat.beq u t with
  | true=>exact absurd (Nat.eq_of_beq_eq_true hb) hne
  | false=>rfl
end Go.Dv
namespace Go.Dv
open Go Go.Sim
variable {W:Nat→Prop} {C C' C'':Ctx} {P:Program} {tm:Trie DV} {tmH:Trie Value} {base:Nat}
def plansOf (Q:Par):Plans:=fun fn id=>findN id (Q.ann fn).pl
def Snd (Q:Par) (tb:Sub) (f:FuncId) (args:List DV) (base:Nat) (D:DH) (r:DV×DH):Prop:=
 GoodF Q.P f∧∀ (C:Ctx) (vs:List Value),C.D=D→HR C→DRs C args vs→Low C base →
  ∃ C' v,C'.D=r.2∧HR C'∧Nx (fun o=>base≤o∧(Q.ann f).raw=true) C C'∧DR C' r.1 v∧∃ N,∀ n,N≤n→evF Q.P (plansOf Q) tb n f vs C.H=some (v,C'.H)
theorem stayD_mem {base:Nat} {w:Option (Option Nat)}:∀ {cl:List (Nat×Option Nat)} {i:Nat} {dep:Option Nat},(i,dep)∈stayD base w cl→(i,dep)∈cl∧∀ p,dep=some p→(∃ q,w=some q∧q≠some p)∨p<base
 | [],i,dep,h=>by simp [stayD] at h
 | (j,none)::l,i,dep,h=>by
  simp only [stayD] at h
  rcases List.mem_cons.1 h with h | h
  ·simp only [Prod.mk.injEq] at h
   obtain ⟨rfl,rfl⟩:=h
   exact ⟨List.mem_cons_self ..,fun p hp=>by cases hp⟩
  ·obtain ⟨a,b⟩:=stayD_mem h
   exact ⟨List.mem_cons_of_mem _ a,b⟩
 | (j,some o)::l,i,dep,h=>by
  simp only [stayD] at h
  split at h
  ·rcases List.mem_cons.1 h with h | h
   ·simp only [Prod.mk.injEq] at h
    obtain ⟨rfl,rfl⟩:=h
    exact ⟨List.mem_cons_self ..,fun p hp=>.inl ⟨none,rfl,by simp⟩⟩
   ·obtain ⟨a,b⟩:=stayD_mem h
    exact ⟨List.mem_cons_of_mem _ a,b⟩
  ·rename_i o'
   split at h
   ·obtain ⟨a,b⟩:=stayD_mem h
    exact ⟨List.mem_cons_of_mem _ a,b⟩
   ·rename_i hne
    rcases List.mem_cons.1 h with h | h
    ·simp only [Prod.mk.injEq] at h
     obtain ⟨rfl,rfl⟩:=h
     refine ⟨List.mem_cons_self ..,fun p hp=>.inl ⟨some o',rfl,fun e=>hne ?_⟩⟩
     simp only [Option.some.injEq] at hp e
     rw [hp,e]
    ·obtain ⟨a,b⟩:=stayD_mem h
     exact ⟨List.mem_cons_of_mem _ a,b⟩
  ·split at h
   ·rename_i hlt
    rcases List.mem_cons.1 h with h | h
    ·simp only [Prod.mk.injEq] at h
     obtain ⟨rfl,rfl⟩:=h
     exact ⟨List.mem_cons_self ..,fun p hp=>.inr (by simp only [Option.some.injEq] at hp;omega)⟩
    ·obtain ⟨a,b⟩:=stayD_mem h
     exact ⟨List.mem_cons_of_mem _ a,b⟩
   ·obtain ⟨a,b⟩:=stayD_mem h
    exact ⟨List.mem_cons_of_mem _ a,b⟩
theorem hasD_mem {i:Nat}:∀ {cl:List (Nat×Option Nat)},hasD i cl=true→∃ dep,(i,dep)∈cl
 | [],h=>by simp [hasD] at h
 | (j,d)::l,h=>by
  simp only [hasD] at h
  split at h
  ·rename_i e;subst e;exact ⟨d,List.mem_cons_self ..⟩
  ·obtain ⟨dep,g⟩:=hasD_mem h
   exact ⟨dep,List.mem_cons_of_mem _ g⟩
def Known (P:Program) (nt:Nat) (all:List Oper) (γ:List Nat) (C:Ctx) (tmH:Trie Value) (cl:List (Nat×Option Nat)):Prop:=∀ i dep,(i,dep)∈cl→i∈γ∧∃ o w,all[i]? =some o ∧
 (stays all i (dstL o++looks all o) γ=true→hits o.dst (looks all o)=false→RI P C tmH o.op w dep∧∀ d,o.dst=some d→d<nt→tmH.get d=some w)
theorem Known.nx {nt:Nat} {all:List Oper} {γ:List Nat} {cl cl':List (Nat×Option Nat)} (k:Known P nt all γ C tmH cl) (hr:HR C) (nx:Nx W C C') (h:∀ i dep,(i,dep)∈cl'→(i,dep)∈cl∧∀ p,dep=some p→¬W p):Known P nt all γ C' tmH cl':=by
 intro i dep hi
 obtain ⟨h1,h2⟩:=h i dep hi
 obtain ⟨g1,o,w,g2,g3⟩:=k i dep h1
 exact ⟨g1,o,w,g2,fun a b=>⟨(g3 a b).1.nx hr nx h2,(g3 a b).2⟩⟩
theorem RI.congr {tmH':Trie Value} {op:Op} {w:Value} {dep:Option Nat} (h:RI P C tmH op w dep) (hc:∀ t,Operand.tmp t∈op.operands.toList→tmH'.get t=tmH.get t):RI P C tmH' op w dep:=by
 obtain ⟨fb,h1,h2⟩:=h.ex
 exact ⟨⟨fb,h1,fun H' hH=>by rw [aop_congr (tm':=tmH) hc];exact h2 H' hH⟩⟩
theorem looks_tmp {all:List Oper} {o:Oper} {t:Tmp} (h:Operand.tmp t∈o.op.operands.toList):t∈looks all o:=List.mem_append_right _ (mem_tmpsOf h)
theorem Known.step {nt:Nat} {all:List Oper} {γ:List Nat} {cl:List (Nat×Option Nat)} {i:Nat} {o:Oper} {v:Value} (k:Known P nt all γ C tmH cl) (hi:i∉γ) (ho:all[i]? =some o):Known P nt all (i::γ) C (putU tmH nt o.dst v) cl:=by
 intro j dep hj
 obtain ⟨g1,oj,w,g2,g3⟩:=k j dep hj
 refine ⟨List.mem_cons_of_mem _ g1,oj,w,g2,fun a b=>?_⟩
 simp only [stays] at a
 have hij:Nat.beq i j=false:=by
  cases hb:Nat.beq i j with
  | false=>rfl
  | true=>exact absurd (Nat.eq_of_beq_eq_true hb▸g1) hi
 rw [hij,ho] at a
 simp only at a
 cases hh:hits o.dst (dstL oj++looks all oj) with
 | true=>rw [hh] at a;cases a
 | false=>
  rw [hh] at a
  obtain ⟨q1,q2⟩:=g3 a b
  refine ⟨q1.congr (fun t ht=>putU_other (hits_mem hh (List.mem_append_right _ (looks_tmp ht)))),fun d hd hdn=>?_⟩
  rw [putU_other (hits_mem hh (List.mem_append_left _ (by simp [dstL,hd])))]
  exact q2 d hd hdn
theorem entry_new {all:List Oper} {b γ:List Nat} {i:Nat} {o:Oper} (h:entryOK all b i o γ=true):i∉γ:=by
 intro hm
 unfold entryOK at h
 rw [memN_iff.2 hm] at h
 cases h
theorem effB_val {Q:Par} {base:Nat} {tm:Trie DV} {D D1:DH} {op:Op} {d:DV} (h:dop Q.P base tm D op=some (.val d D1)):effB Q base tm D op=base:=by
 unfold effB
 split
 ·rename_i f args ts
  unfold effF
  split
  ·rename_i g a b hf
   simp only [dop,dCall] at h
   split at h
   ·rw [hf] at h
    simp [dInvoke] at h
   ·cases h
  ·rfl
 ·rfl
theorem effB_ok {Q:Par} {base:Nat} {tm:Trie DV} {C:Ctx} {op:Op} (h:Low C base):base≤effB Q base tm C.D op∧Low C (effB Q base tm C.D op):=by
 have same:base≤base∧Low C base:=⟨Nat.le_refl _,h⟩
 unfold effB
 split
 ·unfold effF
  split
  ·split
   ·split
    ·unfold effG
     split
     ·split
      ·rename_i hc
       obtain ⟨h1,h2,h3⟩:=hc
       refine ⟨h1,h2,fun o x ho hx=>?_⟩
       rcases Nat.lt_or_ge o base with g | g
       ·exact (h.2 o x g hx).mono h1
       ·exact objsOK_ok h3 g ho hx
      ·unfold effO
       split
       ·rename_i hc
        obtain ⟨h2,h3⟩:=hc
        have h1:base≤base+1:=Nat.le_succ _
        refine ⟨h1,h2,fun o x ho hx=>?_⟩
        rcases Nat.lt_or_ge o base with g | g
        ·exact (h.2 o x g hx).mono h1
        ·exact objsOK_ok h3 g ho hx
       ·exact same
     ·exact same
    ·exact same
   ·exact same
  ·exact same
 ·exact same
theorem draw_sound {Q:Par} {tb:Sub} {sub:SubD} (hsub:∀ f a b D r,sub f a b D=some r→Snd Q tb f a b D r) {all:List Oper} {b:List Nat} {nt:Nat} {tm':Trie DV} {D':DH}:∀ (pl:List PI) (γ rd stale:List Nat) (cl:List (Nat×Option Nat)) (tm:Trie DV) (tmH:Trie Value) (C:Ctx),
  chk all b pl γ rd stale=true→HR C→TR C tm tmH→Low C base→Known Q.P nt all γ C tmH cl→drawD Q sub base nt all pl tm C.D cl=some (tm',D') →
  ∃ C' tmH',C'.D=D'∧HR C'∧Nx (fun o=>base≤o) C C'∧TR C' tm' tmH'∧∃ N,∀ n,N≤n→drawA (evF Q.P (plansOf Q) tb n) Q.P all nt pl tmH C.H=some (tmH',C'.H):=by
 intro pl
 induction pl with
 | nil=>
  intro γ rd stale cl tm tmH C _ hr ht hlow hk h
  simp only [drawD,Option.some.injEq,Prod.mk.injEq] at h
  obtain ⟨rfl,rfl⟩:=h
  exact ⟨C,tmH,rfl,hr,Nx.refl hr,ht,0,fun n _=>rfl⟩
 | cons x pl ih=>
  intro γ rd stale cl tm tmH C hchk hr ht hlow hk h
  cases x with
  | run i=>
   simp only [drawD] at h
   cases ho:all[i]? with
   | none=>rw [ho] at h;cases h
   | some o=>
    rw [ho] at h
    simp only at h
    simp only [chk,ho] at hchk
    cases hen:entryOK all b i o γ with
    | false=>rw [hen] at hchk;cases hchk
    | true=>
     rw [hen] at hchk
     simp only at hchk
     have hi:=entry_new hen
     -- what follows
     have go:∀ (C1:Ctx) (v:Value) (d:DV) (cl':List (Nat×Option Nat)) (rd' stale':List Nat),HR C1→Nx (fun o=>base≤o) C C1→DR C1 d v→chk all b pl (i::γ) rd' stale'=true→Known Q.P nt all (i::γ) C1 (putU tmH nt o.dst v) cl' →
       drawD Q sub base nt all pl (putD tm nt o.dst d) C1.D cl'=some (tm',D')→(∃ N,∀ n,N≤n→stepPI (evF Q.P (plansOf Q) tb n) Q.P all tmH nt C.H (.run i)=some (putU tmH nt o.dst v,C1.H)) →
       ∃ C' tmH',C'.D=D'∧HR C'∧Nx (fun o=>base≤o) C C'∧TR C' tm' tmH'∧∃ N,∀ n,N≤n→drawA (evF Q.P (plansOf Q) tb n) Q.P all nt (.run i::pl) tmH C.H=some (tmH',C'.H):=by
      intro C1 v d cl' rd' stale' hr1 nx1 hd hch hk1 hdr hst
      obtain ⟨C',tmH',a1,a2,a3,a4,N,a5⟩:=ih (i::γ) rd' stale' cl' _ _ C1 hch hr1 ((ht.mono nx1 hr).put hd) (hlow.nx nx1) hk1 hdr
      obtain ⟨N',hst⟩:=hst
      refine ⟨C',tmH',a1,a2,nx1.trans a3,a4,max N N',fun n hn=>?_⟩
      simp only [drawA,hst n (by omega)]
      exact a5 n (by omega)
     have hrun:∀ n,stepPI (evF Q.P (plansOf Q) tb n) Q.P all tmH nt C.H (.run i)=(match wantedA all tmH o.guard with
       | true=>drawOp (evF Q.P (plansOf Q) tb n) o.dst tmH nt C.H (keepN C.H (aopT o.op Q.P tmH C.H) (clsOf o.op))
       | false=>some (put tmH nt o.dst undef,C.H)):=fun n=>by
      show (all[i]?).bind _=_
      rw [ho];rfl
     cases hw:wantD all tm o.guard with
     | none=>rw [hw] at h;cases h
     | some wb=>
      rw [hw] at h
      have hwH:=wantD_ok ht hw
      cases wb with
      | false=>
       simp only at h
       have hk':Known Q.P nt all (i::γ) C (putU tmH nt o.dst undef) cl:=hk.step hi ho
       have hst:∃ N,∀ n,N≤n→stepPI (evF Q.P (plansOf Q) tb n) Q.P all tmH nt C.H (.run i)=some (putU tmH nt o.dst undef,C.H):=⟨0,fun n _=>by rw [hrun,hwH,put_eq]⟩
       cases hcl:clsOf o.op with
       | pure=>rw [hcl] at hchk;exact go C undef (rv undef) cl _ _ hr (Nx.refl hr) (rv_ok _) hchk hk' h hst
       | read=>rw [hcl] at hchk;exact go C undef (rv undef) cl _ _ hr (Nx.refl hr) (rv_ok _) hchk hk' h hst
       | fresh=>rw [hcl] at hchk;exact go C undef (rv undef) cl _ _ hr (Nx.refl hr) (rv_ok _) hchk hk' h hst
       | eff=>
        rw [hcl] at hchk
        simp only at hchk
        split at hchk
        ·split at hchk
         ·exact go C undef (rv undef) cl _ _ hr (Nx.refl hr) (rv_ok _) hchk hk' h hst
         ·cases hchk
        ·cases hchk
      | true=>
       simp only at h
       cases hop:dop Q.P base tm C.D o.op with
       | none=>rw [hop] at h;simp [evOpD] at h
       | some r=>
        rw [hop] at h
        cases r with
        | val d D1=>
         simp only [evOpD] at h
         cases hcl:clsOf o.op with
         | pure=>
          rw [hcl] at hchk
          obtain ⟨rfl,v,v1,v2⟩:=dop_same hr ht (.inl hcl) hop
          refine go C v d cl _ _ hr (Nx.refl hr) v2 hchk (hk.step hi ho) ?_ ⟨0,fun n _=>?_⟩
          ·simpa [clNext,hcl] using h
          ·rw [hrun,hwH,v1,hcl]
           simp only [keepN,sameN]
           rw [show Nat.beq C.H.n C.H.n=true by simp]
           simp only [drawOp,put_eq]
         | read=>
          rw [hcl] at hchk
          obtain ⟨w,w1,w2,rfl⟩:=read_foot hr ht hcl hop
          refine go C w d ((i,depOf tm o.op)::cl) _ _ hr (Nx.refl hr) w2 hchk (fun j dep hj=>?_) ?_ ⟨0,fun n _=>?_⟩
          ·rcases List.mem_cons.1 hj with hj | hj
           ·simp only [Prod.mk.injEq] at hj
            obtain ⟨rfl,rfl⟩:=hj
            refine ⟨List.mem_cons_self ..,o,w,ho,fun _ hh=>⟨w1.congr (fun t htt=>putU_other (hits_mem hh (looks_tmp htt))),fun d' hd' hdn=>?_⟩⟩
            rw [hd']
            unfold putU
            simp only
            rw [show Nat.blt d' nt=true by simpa using hdn]
            simp [Trie.get_put]
           ·exact hk.step hi ho j dep hj
          ·simpa [clNext,hcl] using h
          ·rw [hrun,hwH,w1.now,hcl]
           simp only [keepN,drawOp,put_eq]
         | fresh=>
          rw [hcl] at hchk
          obtain ⟨C1,v,v1,v2,v3,v4,v5⟩:=(dop_ok Q hr ht hop).ex
          subst v2
          have v4':Nx (fun _=>False) C C1:=v4.weak (fun p hp=>by have:=hp.2;simp [OpW,hcl] at this)
          refine go C1 v d cl _ _ v3 (v4'.weak (fun _ h=>h.elim)) v5 hchk ((hk.nx hr v4' (fun j dep hj=>⟨hj,fun _ _ h=>h⟩)).step hi ho) ?_ ⟨0,fun n _=>?_⟩
          ·simpa [clNext,hcl] using h
          ·rw [hrun,hwH,v1,hcl]
           simp only [keepN,drawOp,put_eq]
         | eff=>
          rw [hcl] at hchk
          obtain ⟨C1,v,v1,v2,v3,v4,v5⟩:=(dop_ok Q hr ht hop).ex
          have heff:effB Q base tm C.D o.op=base:=effB_val hop
          rw [heff] at h
          subst v2
          have hk1:Known Q.P nt all γ C1 tmH (stayD base (writes Q tm o.op) cl):=hk.nx hr v4 (fun j dep hj=>by
           obtain ⟨a1,a2⟩:=stayD_mem hj
           refine ⟨a1,fun p hp hW=>?_⟩
           rcases a2 p hp with ⟨q,q1,q2⟩ | hlt
           case inr=>have:=hW.1;omega
           have:=hW.2
           simp only [OpW,hcl,q1] at this
           exact q2 this)
          have hst:∃ N,∀ n,N≤n→stepPI (evF Q.P (plansOf Q) tb n) Q.P all tmH nt C.H (.run i)=some (putU tmH nt o.dst v,C1.H):=⟨0,fun n _=>by
           rw [hrun,hwH,v1,hcl]
           simp only [keepN,drawOp,put_eq]⟩
          have hdr:drawD Q sub base nt all pl (putD tm nt o.dst d) C1.D (stayD base (writes Q tm o.op) cl)=some (tm',D'):=by simpa [clNext,hcl] using h
          simp only at hchk
          split at hchk
          ·split at hchk
           ·exact go C1 v d _ _ _ v3 (v4.weak (fun p hp=>hp.1)) v5 hchk (hk1.step hi ho) hdr hst
           ·cases hchk
          ·cases hchk
        | enter g args=>
         obtain ⟨heb,hel⟩:=effB_ok (Q:=Q) (tm:=tm) (op:=o.op) hlow
         simp only [evOpD] at h
         generalize hbe:effB Q base tm C.D o.op=be at h heb hel
         cases hs:sub g args be C.D with
         | none=>rw [hs] at h;cases h
         | some r=>
          obtain ⟨d,D1⟩:=r
          rw [hs] at h
          obtain ⟨hg,hsnd⟩:=hsub _ _ _ _ _ hs
          obtain ⟨vs,e1,e2,hcl,hwr⟩:=dop_enter (C:=C) ht hop hg
          obtain ⟨C1,v,v2,v3,v4,v5,N,v6⟩:=hsnd C vs rfl hr e2 hel
          simp only at v2
          subst v2
          have hk1:Known Q.P nt all γ C1 tmH (stayD be (writes Q tm o.op) cl):=hk.nx hr v4 (fun j dep hj=>by
           obtain ⟨a1,a2⟩:=stayD_mem hj
           refine ⟨a1,fun p hp hW=>?_⟩
           rcases a2 p hp with ⟨q,q1,q2⟩ | hlt
           case inr=>have:=hW.1;omega
           rw [hwr Q,hW.2] at q1
           simp at q1)
          have hst:∃ N,∀ n,N≤n→stepPI (evF Q.P (plansOf Q) tb n) Q.P all tmH nt C.H (.run i)=some (putU tmH nt o.dst v,C1.H):=⟨N,fun n hn=>by
           rw [hrun,hwH,e1,hcl]
           simp only [keepN,drawOp,v6 n hn,put_eq]⟩
          have hdr:drawD Q sub base nt all pl (putD tm nt o.dst d) C1.D (stayD be (writes Q tm o.op) cl)=some (tm',D'):=by simpa [clNext,hcl] using h
          rw [hcl] at hchk
          simp only at hchk
          split at hchk
          ·split at hchk
           ·exact go C1 v d _ _ _ v3 (v4.weak (fun p hp=>Nat.le_trans heb hp.1)) v5 hchk (hk1.step hi ho) hdr hst
           ·cases hchk
          ·cases hchk
        | yield l args=>simp [evOpD,noYld] at h
  | again i=>
   simp only [drawD] at h
   split at h
   ·rename_i hag
    unfold againD at hag
    cases ho:all[i]? with
    | none=>rw [ho] at hag;cases hag
    | some o=>
     rw [ho] at hag
     simp only at hag
     simp only [chk,ho] at hchk
     have hstep:∀ n,againPI Q.P all tmH nt C.H o=true→stepPI (evF Q.P (plansOf Q) tb n) Q.P all tmH nt C.H (.again i)=some (tmH,C.H):=fun n hh=>by
      simp only [stepPI,ho,Option.map_some,hh]
     split at hchk
     ·rename_i hcl
      cases hh:hits o.dst (looks all o) with
      | true=>rw [hh] at hchk;cases hchk
      | false=>
       rw [hh] at hchk
       simp only at hchk
       cases hs:stays all i (dstL o++looks all o) γ with
       | false=>rw [hs] at hchk;cases hchk
       | true=>
        rw [hs] at hchk
        simp only at hchk
        have hA:againPI Q.P all tmH nt C.H o=true:=by
         cases hw:wantD all tm o.guard with
         | none=>rw [hw] at hag;cases hag
         | some wb=>
          rw [hw] at hag
          have hwH:=wantD_ok ht hw
          show (match wantedA all tmH o.guard with
           | true=>sameRes tmH nt o.dst (aopT o.op Q.P tmH C.H)
           | false=>true)=true
          rw [hwH]
          cases wb with
          | false=>rfl
          | true=>
           simp only [Bool.and_eq_true] at hag
           obtain ⟨q1,q2⟩:=hag
           obtain ⟨dep,hm⟩:=hasD_mem q1
           obtain ⟨_,o',w,k1,k2⟩:=hk i dep hm
           rw [ho] at k1
           simp only [Option.some.injEq] at k1
           subst k1
           obtain ⟨k3,k4⟩:=k2 hs hh
           simp only [k3.now]
           split at q2
           ·rename_i d hd
            simp only [Bool.and_eq_true,decide_eq_true_eq] at q2
            obtain ⟨q3,q4⟩:=q2
            have hslot:=k4 d hd q3
            rw [hd]
            show (match Nat.blt d nt with
             | true=>match tmH.get d with
              | some w'=>eqV w w'
              | none=>false
             | false=>false)=true
            rw [show Nat.blt d nt=true by simpa using q3,hslot]
            simp only
            cases hx:tm.get d with
            | none=>rw [hx] at q4;cases q4
            | some dx=>
             rw [hx] at q4
             obtain ⟨v,e1,e2⟩:=ht d dx hx
             rw [hslot] at e1
             simp only [Option.some.injEq] at e1
             subst e1
             exact eqD_ok e2 q4
           ·cases q2
        obtain ⟨C',tmH',a1,a2,a3,a4,N,a5⟩:=ih γ rd (without i stale) cl tm tmH C hchk hr ht hlow hk h
        refine ⟨C',tmH',a1,a2,a3,a4,N,fun n hn=>?_⟩
        simp only [drawA,hstep n hA]
        exact a5 n hn
     ·cases hchk
   ·cases h
end Go.Dv
namespace Go.Dv
open Go Go.Sim
variable {W:Nat→Prop} {C C' C'':Ctx} {P:Program} {tm:Trie DV} {tmH:Trie Value} {base:Nat} {Q:Par} {tb:Sub}
structure ROK (C:Ctx) (K:KD) (kh:FK):Prop where
 fn:kh.fn=K.fn
 nt:kh.nt=K.nt
 no:K.ro=none→kh.ro=none
 so:∀ l,K.ro=some l→∃ b,kh.ro=some b∧l<C.D.length∧(isLoop C.D[l]? =true→C.σ l=b)
theorem isLoop_ex {o:Option DObj} (h:isLoop o=true):∃ st p K tm ps a b,o=some (.loop st p K tm ps a b):=by
 unfold isLoop at h
 split at h
 ·exact ⟨_,_,_,_,_,_,_,rfl⟩
 ·cases h
theorem Nx.loop (nx:Nx W C C') {l:Nat} (hl:l<C.D.length) (h:isLoop C'.D[l]? =true):isLoop C.D[l]? =true∧C'.σ l=C.σ l:=by
 obtain ⟨st,p,K,tm,ps,a,b,e⟩:=isLoop_ex h
 obtain ⟨x,h1,h2⟩:=nx.back hl e (by simp)
 cases x<;>first | exact h2.elim | skip
 exact ⟨by rw [h1];rfl,h2⟩
theorem ROK.nx {K:KD} {kh:FK} (h:ROK C K kh) (nx:Nx W C C'):ROK C' K kh:=by
 refine ⟨h.fn,h.nt,h.no,fun l hl=>?_⟩
 obtain ⟨b,h1,h2,h3⟩:=h.so l hl
 refine ⟨b,h1,Nat.lt_of_lt_of_le h2 nx.len,fun hloop=>?_⟩
 obtain ⟨g1,g2⟩:=nx.loop h2 hloop
 rw [g2];exact h3 g1
structure Comes (Q:Par) (K:KD) (C:Ctx) (n0:Nat) (ds:List Deferred) (s':SD) (E:St→Prop):Prop where
 ex:∃ C' sH',C'.D=s'.D∧HR C'∧Nx (fun o=>K.base≤o) C C'∧TR C' s'.tm sH'.tm∧sH'.H=C'.H∧Marks n0 C'.H sH'.ds∧(K.ro≠none→sH'.ds=ds)∧E sH'
structure Pre (K:KD) (C:Ctx) (s:SD) (sH:St) (n0:Nat) (kh:FK):Prop where
 D:C.D=s.D
 hr:HR C
 tr:TR C s.tm sH.tm
 H:sH.H=C.H
 low:Low C K.base
 marks:Marks n0 C.H sH.ds
 n0:n0≤C.H.n
 ro:ROK C K kh
def CSnd (Q:Par) (tb:Sub) (K:KD) (c:Code) (s:SD) (x:BX) (s':SD):Prop:=∀ C sH n0 kh,Pre K C s sH n0 kh→Comes Q K C n0 sH.ds s' fun sH'=>∃ N,∀ n m,N≤n→N≤m→evC Q.P (evF Q.P (plansOf Q) tb n) (plansOf Q) m kh c sH=some (x,sH')
def SSnd (Q:Par) (tb:Sub) (K:KD) (c:Code) (s:SD) (x:BX) (s':SD):Prop:=∀ C sH n0 kh,Pre K C s sH n0 kh→Comes Q K C n0 sH.ds s' fun sH'=>∃ N,∀ n m,N≤n→N≤m →
 evS Q.P (evF Q.P (plansOf Q) tb n) (plansOf Q) m (evC Q.P (evF Q.P (plansOf Q) tb n) (plansOf Q) m) kh c sH=some (x,sH')
def YSnd (Q:Par) (tb:Sub) (yld:SubD):Prop:=∀ l args base D r,yld l args base D=some r→∀ (C:Ctx) (vs:List Value),C.D=D→HR C→DRs C args vs→Low C base →
 ∃ C' v,C'.D=r.2∧HR C'∧Nx (fun o=>base≤o) C C'∧DR C' r.1 v∧∃ N,∀ n m,N≤n→N≤m→evRound (evC Q.P (evF Q.P (plansOf Q) tb n) (plansOf Q) m) (C.σ l) vs C.H=some (v,C'.H)
theorem ops_sound {sub yld:SubD} (hsub:∀ f a b D r,sub f a b D=some r→Snd Q tb f a b D r) (hy:YSnd Q tb yld) {nt:Nat} {all:List Oper} {tm':Trie DV} {D':DH}:∀ (rest:List Oper) (tm:Trie DV) (tmH:Trie Value) (C:Ctx),HR C→TR C tm tmH→Low C base →
  evOpsD Q.P sub yld base nt all rest tm C.D=some (tm',D')→∃ C' tmH',C'.D=D'∧HR C'∧Nx (fun o=>base≤o) C C'∧TR C' tm' tmH'∧∃ N,∀ n m,N≤n→N≤m→evOps (evF Q.P (plansOf Q) tb n) (evRound (evC Q.P (evF Q.P (plansOf Q) tb n) (plansOf Q) m)) Q.P nt all rest tmH C.H=some (tmH',C'.H):=by
 intro rest
 induction rest with
 | nil=>
  intro tm tmH C hr ht hlow h
  simp only [evOpsD,Option.some.injEq,Prod.mk.injEq] at h
  obtain ⟨rfl,rfl⟩:=h
  exact ⟨C,tmH,rfl,hr,Nx.refl hr,ht,0,fun n m _ _=>rfl⟩
 | cons o rest ih=>
  intro tm tmH C hr ht hlow h
  simp only [evOpsD] at h
  have go:∀ (C1:Ctx) (v:Value) (d:DV),HR C1→Nx (fun o=>base≤o) C C1→DR C1 d v→evOpsD Q.P sub yld base nt all rest (putD tm nt o.dst d) C1.D=some (tm',D') →
    (∃ N,∀ n m,N≤n→N≤m→wantedA all tmH o.guard=true∧evOp (evF Q.P (plansOf Q) tb n) (evRound (evC Q.P (evF Q.P (plansOf Q) tb n) (plansOf Q) m)) C.H (aopT o.op Q.P tmH C.H)=some (v,C1.H)) →
    ∃ C' tmH',C'.D=D'∧HR C'∧Nx (fun o=>base≤o) C C'∧TR C' tm' tmH'∧∃ N,∀ n m,N≤n→N≤m→evOps (evF Q.P (plansOf Q) tb n) (evRound (evC Q.P (evF Q.P (plansOf Q) tb n) (plansOf Q) m)) Q.P nt all (o::rest) tmH C.H=some (tmH',C'.H):=by
   intro C1 v d hr1 nx1 hd hev ⟨N',hst⟩
   obtain ⟨C',tmH',a1,a2,a3,a4,N,a5⟩:=ih _ _ C1 hr1 ((ht.mono nx1 hr).put (nt:=nt) (dst:=o.dst) hd) (hlow.nx nx1) hev
   refine ⟨C',tmH',a1,a2,nx1.trans a3,a4,max N N',fun n m hn hm=>?_⟩
   obtain ⟨g1,g2⟩:=hst n m (by omega) (by omega)
   simp only [evOps,g1,g2]
   exact a5 n m (by omega) (by omega)
  cases hw:wantD all tm o.guard with
  | none=>rw [hw] at h;cases h
  | some wb=>
   rw [hw] at h
   have hwH:=wantD_ok ht hw
   cases wb with
   | false=>
    simp only at h
    obtain ⟨C',tmH',a1,a2,a3,a4,N,a5⟩:=ih _ _ C hr (ht.put (nt:=nt) (dst:=o.dst) (rv_ok undef)) hlow h
    refine ⟨C',tmH',a1,a2,a3,a4,N,fun n m hn hm=>?_⟩
    simp only [evOps,hwH]
    exact a5 n m hn hm
   | true=>
    simp only at h
    cases hop:dop Q.P base tm C.D o.op with
    | none=>rw [hop] at h;simp [evOpD] at h
    | some r=>
     rw [hop] at h
     cases r with
     | val d D1=>
      simp only [evOpD] at h
      obtain ⟨C1,v,v1,v2,v3,v4,v5⟩:=(dop_ok Q hr ht hop).ex
      subst v2
      exact go C1 v d v3 (v4.weak (fun p hp=>hp.1)) v5 h ⟨0,fun n m _ _=>⟨hwH,by rw [v1];rfl⟩⟩
     | enter g args=>
      simp only [evOpD] at h
      cases hs:sub g args base C.D with
      | none=>rw [hs] at h;cases h
      | some r=>
       obtain ⟨d,D1⟩:=r
       rw [hs] at h
       obtain ⟨hg,hsnd⟩:=hsub _ _ _ _ _ hs
       obtain ⟨vs,e1,e2,_,_⟩:=dop_enter (C:=C) ht hop hg
       obtain ⟨C1,v,v2,v3,v4,v5,N,v6⟩:=hsnd C vs rfl hr e2 hlow
       simp only at v2
       subst v2
       exact go C1 v d v3 (v4.weak (fun p hp=>hp.1)) v5 h ⟨N,fun n m hn _=>⟨hwH,by rw [e1];exact v6 n hn⟩⟩
     | yield l args=>
      simp only [evOpD] at h
      cases hs:yld l args base C.D with
      | none=>rw [hs] at h;cases h
      | some r=>
       obtain ⟨d,D1⟩:=r
       rw [hs] at h
       obtain ⟨vs,e1,e2⟩:=dop_yield (C:=C) ht hop
       obtain ⟨C1,v,v2,v3,v4,v5,N,v6⟩:=hy _ _ _ _ _ hs C vs rfl hr e2 hlow
       simp only at v2
       subst v2
       exact go C1 v d v3 v4 v5 h ⟨N,fun n m hn hm=>⟨hwH,by rw [e1];exact v6 n m hn hm⟩⟩
theorem ghosts_ok:∀ {l:List Gh} {s s':SD} {C:Ctx} (hr:HR C),C.D=s.D→TR C s.tm tmH→ghostsD base l s=some s'→∃ C',C'.H=C.H∧C'.D=s'.D∧HR C'∧Nx (fun o=>base≤o) C C'∧TR C' s'.tm tmH
 | [],s,s',C,hr,hD,ht,h=>by
  simp only [ghostsD,Option.some.injEq] at h
  subst h
  exact ⟨C,rfl,hD,hr,Nx.refl hr,ht⟩
 | g::l,s,s',C,hr,hD,ht,h=>by
  simp only [ghostsD] at h
  split at h
  ·rename_i s1 h1
   obtain ⟨C1,a1,a2,a3,a4,a5⟩:=ghost_ok (base:=base) hr hD ht h1
   obtain ⟨C',b1,b2,b3,b4,b5⟩:=ghosts_ok a3 a2 a5 h
   exact ⟨C',b1.trans a1,b2,b3,a4.trans b4,b5⟩
  ·cases h
theorem ghAt_ok {K:KD} {id:Nat} {s s':SD} (hr:HR C) (hD:C.D=s.D) (ht:TR C s.tm tmH) (h:ghAt K id s=some s'):∃ C',C'.H=C.H∧C'.D=s'.D∧HR C'∧Nx (fun o=>K.base≤o) C C'∧TR C' s'.tm tmH:=by
 unfold ghAt at h
 split at h
 ·exact ghosts_ok hr hD ht h
 ·simp only [Option.some.injEq] at h
  subst h
  exact ⟨C,rfl,hD,hr,Nx.refl hr,ht⟩
theorem lim_some {α:Type} {g:Nat→Option α} {r:α} (h:limD g=some r):∃ n,g n=some r:=by
 unfold limD at h
 split at h
 ·rename_i hx
  simp only [Option.some.injEq] at h
  exact ⟨hx.choose,by rw [← h];exact hx.choose_spec.choose_spec⟩
 ·cases h
/-! ### frames -/
theorem putLD_ok:∀ {ds:List DV} {vs:List Value} {tm:Trie DV} {tmH:Trie Value} {k:Nat},TR C tm tmH→DRs C ds vs→TR C (putLD tm k ds) (putLU tmH k vs)
 | [],vs,tm,tmH,k,ht,hd=>by
  have:vs=[]:=List.eq_nil_of_length_eq_zero hd.1
  subst this;exact ht
 | d::ds,[],tm,tmH,k,ht,hd=>by have:=hd.1;simp at this
 | d::ds,v::vs,tm,tmH,k,ht,hd=>by
  refine putLD_ok (ds:=ds) (vs:=vs) (fun u e he=>?_) ⟨by have:=hd.1;simpa using this,fun i a b h1 h2=>hd.2 (i+1) a b h1 h2⟩
  rw [Trie.get_put] at he
  simp only [Trie.get_put]
  split at he
  ·rename_i q;simp only [Option.some.injEq] at he;subst he;rw [if_pos q];exact ⟨v,rfl,hd.2 0 _ _ rfl rfl⟩
  ·rename_i q;rw [if_neg q];exact ht u e he
theorem zipD_ok {nt:Nat}:∀ {ps:List Tmp} {ds:List DV} {vs:List Value} {tm:Trie DV} {tmH:Trie Value},TR C tm tmH→DRs C ds vs→TR C (zipD tm nt ps ds) (zipU tmH nt ps vs)
 | [],ds,vs,tm,tmH,ht,hd=>by cases ds<;>cases vs<;>exact ht
 | p::ps,[],vs,tm,tmH,ht,hd=>by
  have:vs=[]:=List.eq_nil_of_length_eq_zero hd.1
  subst this;exact ht
 | p::ps,d::ds,[],tm,tmH,ht,hd=>by have:=hd.1;simp at this
 | p::ps,d::ds,v::vs,tm,tmH,ht,hd=>by
  exact zipD_ok (ps:=ps) (ds:=ds) (vs:=vs) (ht.put (hd.2 0 _ _ rfl rfl)) ⟨by have:=hd.1;simpa using this,fun i a b h1 h2=>hd.2 (i+1) a b h1 h2⟩
theorem results_ok (hr:HR C) (ht:TR C tm tmH):∀ {rs:List ResultVar} {ds:List DV},resultsD C.D P tm rs=some ds→∃ vs,resultsA P C.H tmH rs=some vs∧DRs C ds vs
 | [],ds,h=>by
  simp only [resultsD,Option.some.injEq] at h
  subst h
  exact ⟨[],rfl,rfl,fun i d v h=>by simp at h⟩
 | .tmp t::l,ds,h=>by
  simp only [resultsD] at h
  split at h
  ·rename_i d hd
   obtain ⟨ds',h1,rfl⟩:=Option.map_eq_some_iff.1 h
   obtain ⟨v,g1,g2⟩:=ht t d hd
   obtain ⟨vs,g3,g4,g5⟩:=results_ok hr ht h1
   refine ⟨v::vs,by simp only [resultsA,g3,g1,Option.getD_some],by simp [g4],fun i a b h1 h2=>?_⟩
   cases i with
   | zero=>simp at h1 h2;subst h1 h2;exact g2
   | succ i=>exact g5 i a b (by simpa using h1) (by simpa using h2)
  ·cases h
 | .cell a t::l,ds,h=>by
  simp only [resultsD] at h
  split at h
  ·rename_i d hd
   obtain ⟨ds',h1,rfl⟩:=Option.map_eq_some_iff.1 h
   obtain ⟨p,p1,p2⟩:=Option.bind_eq_some_iff.1 hd
   obtain ⟨n,n1,n2⟩:=Option.bind_eq_some_iff.1 p2
   obtain ⟨vp,g1,g2⟩:=ht a p p1
   obtain ⟨b,off,v,q1,q2,q3⟩:=dLoad_ok hr n1 g2 n2
   obtain ⟨vs,g3,g4,g5⟩:=results_ok hr ht h1
   refine ⟨v::vs,by simp only [resultsA,g1,Option.getD_some,q1,q2,g3],by simp [g4],fun i a b h1 h2=>?_⟩
   cases i with
   | zero=>simp at h1 h2;subst h1 h2;exact q3
   | succ i=>exact g5 i a b (by simpa using h1) (by simpa using h2)
  ·cases h
theorem tup_ok {ds:List DV} {vs:List Value} (h:DRs C ds vs):DR C (tupD ds) (tupleOf vs):=by
 match ds,vs,h with
 | [],[],h=>exact .tup h.1 h.2
 | [d],[v],h=>exact h.2 0 d v rfl rfl
 | a::b::l,x::y::m,h=>exact .tup h.1 h.2
 | [],_::_,h=>exact absurd h.1 (by simp)
 | [_],[],h=>exact absurd h.1 (by simp)
 | [_],_::_::_,h=>exact absurd h.1 (by simp)
 | _::_::_,[],h=>exact absurd h.1 (by simp)
 | _::_::_,[_],h=>exact absurd h.1 (by simp)
theorem frz1_f {d d':DV} {is:List Nat} {D:DH} (h:frz1 base D d=some (d',is)):∃ x,d'=.f x:=by
 unfold frz1 at h
 obtain ⟨⟨x,i⟩,_,f2⟩:=Option.map_eq_some_iff.1 h
 simp only [Prod.mk.injEq] at f2
 exact ⟨x,f2.1.symm⟩
theorem frzC_below {g:DV→Option (DV×List Nat)} {L:Nat} (hg:∀ d d' is,g d=some (d',is)→below L d'=true):∀ {l xs:List DV} {is:List Nat},frzC g l=some (xs,is)→belows L xs=true
 | [],xs,is,h=>by
  simp only [frzC,Option.some.injEq,Prod.mk.injEq] at h
  obtain ⟨rfl,_⟩:=h;rfl
 | d::l,xs,is,h=>by
  simp only [frzC] at h
  split at h
  ·rename_i x i hx
   split at h
   ·rename_i xs' is' hl
    simp only [Option.some.injEq,Prod.mk.injEq] at h
    obtain ⟨rfl,_⟩:=h
    simp only [belows,Bool.and_eq_true]
    exact ⟨hg _ _ _ hx,frzC_below hg hl⟩
   ·cases h
  ·cases h
theorem frzV_below {L:Nat} {d d':DV} {is:List Nat} {D:DH} (h:frzV base D d=some (d',is)):below L d'=true:=by
 unfold frzV at h
 split at h
 ·split at h
  ·obtain ⟨⟨xs,i⟩,f1,f2⟩:=Option.map_eq_some_iff.1 h
   simp only [Prod.mk.injEq] at f2
   obtain ⟨rfl,_⟩:=f2
   exact frzC_below (fun d d' is h=>by obtain ⟨x,rfl⟩:=frz1_f h;rfl) f1
  ·cases h
 ·simp only [Option.some.injEq,Prod.mk.injEq] at h
  obtain ⟨rfl,_⟩:=h;rfl
 ·obtain ⟨x,rfl⟩:=frz1_f h;rfl
theorem frzT_below {L:Nat} {d d':DV} {is:List Nat} {D:DH} (h:frzT base D d=some (d',is)):below L d'=true:=by
 unfold frzT at h
 split at h
 ·obtain ⟨⟨xs,i⟩,f1,f2⟩:=Option.map_eq_some_iff.1 h
  simp only [Prod.mk.injEq] at f2
  obtain ⟨rfl,_⟩:=f2
  exact frzC_below (fun d d' is h=>frzV_below h) f1
 ·exact frzV_below h
theorem frzT_ids {d d':DV} {is:List Nat} {D:DH} (h:frzT base D d=some (d',is)):∀ o∈is,base≤o:=by
 unfold frzT at h
 split at h
 ·obtain ⟨⟨xs,i⟩,f1,f2⟩:=Option.map_eq_some_iff.1 h
  simp only [Prod.mk.injEq] at f2
  obtain ⟨_,rfl⟩:=f2
  obtain ⟨g1,g2,g3⟩:=frzC_get f1
  intro o ho
  obtain ⟨e,_,x,ids,a,b⟩:=g3 o ho
  exact (frzV_ids a o b).1
 ·exact fun o ho=>(frzV_ids h o ho).1
theorem frame_sound (hN:∀ (g:FuncId) (fn:Func),Q.P.funcs[g]? =some fn→(fn.name== "runtime.NumGoroutine")=false) {ev:EvTD} (hev:∀ K c s x s',ev K c s=some (x,s')→CSnd Q tb K c s x s') {f:FuncId} {args:List DV} {D:DH} {r:DV×DH} (h:frameB Q ev f args base D=some r) :
  GoodF Q.P f∧∀ (C:Ctx) (vs:List Value),C.D=D→HR C→DRs C args vs→Low C base →
   ∃ C' v,C'.D=r.2∧HR C'∧Nx (fun o=>base≤o∧(Q.ann f).raw=true) C C'∧DR C' r.1 v∧∃ N,∀ n m,N≤n→N≤m→evFrame Q.P m (evC Q.P (evF Q.P (plansOf Q) tb n) (plansOf Q) m) f vs C.H=some (v,C'.H):=by
 unfold frameB at h
 split at h
 ·rename_i fn hfn
  split at h
  ·rename_i c hc
   split at h
   ·rename_i hlen
    refine ⟨⟨fn,c,hfn,hc,hN f fn hfn⟩,fun C vs hD hr hargs hlow=>?_⟩
    subst hD
    have hlenH:Nat.ble vs.length fn.ntmps=true:=by rw [Nat.ble_eq,hargs.1];exact hlen
    have run:∀ (b0:Nat) (args':List DV) (x:BX) (s:SD) (l:List DV),DRs C args' vs→Low C b0→(x=.nrm∨x=.ret)→ev ⟨f,fn.ntmps,none,b0,Q.ann f⟩ c ⟨putLD .leaf 0 args',C.D⟩=some (x,s)→resultsD s.D Q.P s.tm fn.results.toList=some l →
      ∃ C2 v,C2.D=s.D∧HR C2∧Nx (fun o=>b0≤o) C C2∧DR C2 (tupD l) v∧∃ N,∀ n m,N≤n→N≤m→evFrame Q.P m (evC Q.P (evF Q.P (plansOf Q) tb n) (plansOf Q) m) f vs C.H=some (v,C2.H):=by
     intro b0 args' x s l ha hlow0 hx he hl
     have pre:Pre ⟨f,fn.ntmps,none,b0,Q.ann f⟩ C ⟨putLD .leaf 0 args',C.D⟩ ⟨putLU .leaf 0 vs,[],C.H⟩ C.H.n ⟨f,fn.ntmps,none⟩:=
      ⟨rfl,hr,putLD_ok (fun t d hd=>by simp at hd) ha,rfl,hlow0,⟨[],rfl,List.nodup_nil,fun b hb=>(by cases hb)⟩,Nat.le_refl _,⟨rfl,rfl,fun _=>rfl,fun l hl=>by cases hl⟩⟩
     obtain ⟨C1,sH,b1,b2,b3,b4,b5,b6,_,N,b7⟩:=(hev _ _ _ _ _ he C _ _ _ pre).ex
     obtain ⟨bs,m1,m2,m3⟩:=b6
     obtain ⟨C2,u1,u2,u3⟩:=unwind_ok (n0:=C.H.n) bs b2 (m:=bs.length+1) m2 m3 (by omega)
     have nx2:Nx (fun o=>b0≤o) C C2:=b3.off u3 hr (Nat.le_refl _)
     have tr2:TR C2 s.tm sH.tm:=fun t d hd=>by
      obtain ⟨v,q1,q2⟩:=b4 t d hd
      exact ⟨v,q1,u3.dr b2 q2⟩
     have hD2:C2.D=s.D:=u3.D.trans b1
     rw [← hD2] at hl
     obtain ⟨rs,r1,r2⟩:=results_ok u2 tr2 hl
     refine ⟨C2,tupleOf rs,hD2,u2,nx2,tup_ok r2,max N (bs.length+1),fun n m hn hm=>?_⟩
     unfold evFrame
     simp only [hfn,hc,hlenH]
     rw [b7 n m (by omega) (by omega)]
     have hun:unwindB m sH.ds sH.H=some C2.H:=by
      obtain ⟨C2',v1,v2,v3⟩:=unwind_ok (n0:=C.H.n) bs b2 (m:=m) m2 m3 (by omega)
      have mono:∀ (bs:List Nat) (k k':Nat) (H H2:Hp),k≤k'→unwindB k (bs.map (fun b=>({ target:=.collected b,args:=#[] }:Deferred))) H=some H2→(∀ b∈bs,H.get b=some (.defs (some [])))→bs.Nodup→unwindB k' (bs.map (fun b=>({ target:=.collected b,args:=#[] }:Deferred))) H=some H2:=by
       intro bs
       induction bs with
       | nil=>
        intro k k' H H2 hk hu _ _
        cases k with
        | zero=>simp [unwindB] at hu
        | succ k=>
         obtain ⟨k',rfl⟩:∃ j,k'=j+1:=⟨k'-1,by omega⟩
         exact hu
       | cons b bs ih=>
        intro k k' H H2 hk hu hb hd
        obtain ⟨hd1,hd2⟩:=List.nodup_cons.1 hd
        cases k with
        | zero=>simp [unwindB] at hu
        | succ k=>
         obtain ⟨k',rfl⟩:∃ j,k'=j+1:=⟨k'-1,by omega⟩
         have hb0:=hb b (List.mem_cons_self ..)
         have e:∀ j,unwindB (j+1) ((b::bs).map (fun b=>({ target:=.collected b,args:=#[] }:Deferred))) H=unwindB j (bs.map (fun b=>({ target:=.collected b,args:=#[] }:Deferred))) (H.put b (.defs none)):=fun j=>by
          show (match H.get b with
           | some (.defs (some l))=>unwindB j (l++bs.map (fun b=>({ target:=.collected b,args:=#[] }:Deferred))) (H.put b (.defs none))
           | _=>none)=_
          rw [hb0];rfl
         rw [e] at hu ⊢
         refine ih k k' _ _ (by omega) hu (fun p hp=>?_) hd2
         simp only [Hp.get_put]
         rw [if_neg (fun q=>hd1 (by rw [← q];exact hp))]
         exact hb p (List.mem_cons_of_mem _ hp)
      rw [m1,b5]
      exact mono bs _ m _ _ (by omega) u1 (fun b hb=>(m3 b hb).2) m2
     have hend:evEnd Q.P m f sH=some (tupleOf rs,C2.H):=by
      unfold evEnd
      rw [hun]
      simp only
      unfold resultA
      simp only [hfn,r1,Option.map_some]
     rcases hx with rfl | rfl
     ·exact hend
     ·exact hend
    split at h
    ·rename_i hraw
     cases he:ev ⟨f,fn.ntmps,none,base,Q.ann f⟩ c ⟨putLD .leaf 0 args,C.D⟩ with
     | none=>rw [he] at h;simp [endD] at h
     | some q=>
      obtain ⟨x,s⟩:=q
      rw [he] at h
      simp only [endD] at h
      have hx:(x=.nrm∨x=.ret)∧∃ l,resultsD s.D Q.P s.tm fn.results.toList=some l∧r=(tupD l,s.D):=by
       cases x with
       | exit id=>cases h
       | nrm=>
        simp only at h
        split at h
        ·rename_i l hl
         simp only [Option.some.injEq] at h
         exact ⟨.inl rfl,l,hl,h.symm⟩
        ·cases h
       | ret=>
        simp only at h
        split at h
        ·rename_i l hl
         simp only [Option.some.injEq] at h
         exact ⟨.inr rfl,l,hl,h.symm⟩
        ·cases h
      obtain ⟨hx,l,hl,rfl⟩:=hx
      obtain ⟨C2,v,a1,a2,a3,a4,a5⟩:=run base args x s l hargs hlow hx he hl
      exact ⟨C2,v,a1,a2,a3.weak (fun o ho=>⟨ho,hraw⟩),a4,a5⟩
    ·rename_i hraw
     cases he:ev ⟨f,fn.ntmps,none,C.D.length,Q.ann f⟩ c ⟨putLD .leaf 0 (args.map normA),C.D⟩ with
     | none=>rw [he] at h;simp [endD] at h
     | some q=>
      obtain ⟨x,s⟩:=q
      rw [he] at h
      simp only [endD] at h
      have hx:(x=.nrm∨x=.ret)∧∃ l d' is,resultsD s.D Q.P s.tm fn.results.toList=some l∧frzT C.D.length s.D (tupD l)=some (d',is)∧r=(d',s.D.take C.D.length):=by
       cases x with
       | exit id=>cases h
       | nrm=>
        simp only at h
        split at h
        ·rename_i l hl
         obtain ⟨⟨d',is⟩,f1,f2⟩:=Option.map_eq_some_iff.1 h
         exact ⟨.inl rfl,l,d',is,hl,f1,f2.symm⟩
        ·cases h
       | ret=>
        simp only at h
        split at h
        ·rename_i l hl
         obtain ⟨⟨d',is⟩,f1,f2⟩:=Option.map_eq_some_iff.1 h
         exact ⟨.inr rfl,l,d',is,hl,f1,f2.symm⟩
        ·cases h
      obtain ⟨hx,l,d',is,hl,hf,rfl⟩:=hx
      have hargs':DRs C (args.map normA) vs:=⟨by rw [hargs.1];simp,fun i d v h1 h2=>by
       simp only [List.getElem?_map] at h1
       obtain ⟨e,he,rfl⟩:=Option.map_eq_some_iff.1 h1
       exact normA_ok (hargs.2 i e v he h2)⟩
      have hlow0:=hr.low
      obtain ⟨C2,v,a1,a2,a3,a4,N,a5⟩:=run C.D.length (args.map normA) x s l hargs' hlow0 hx he hl
      rw [← a1] at hf
      obtain ⟨C3,c1,c2,c3,c4,c5,c6⟩:=frzT_ok a2 a4 hf
      have nx3:=a3.trans c5
      have low3:=hlow0.nx nx3
      have hr4:=c4.take (L:=C.D.length) nx3.len (fun o x ho hx=>low3.2 o x ho hx)
      have nx4:=nx3.take (Nat.le_refl _) nx3.len
      have hD4:C3.D.take C.D.length=s.D.take C.D.length:=by
       rw [c2,kill_take (frzT_ids hf),a1]
      refine ⟨⟨C3.σ,C3.S,C3.H,C3.D.take C.D.length⟩,v,hD4,hr4,⟨nx4.n,nx4.S,nx4.len,nx4.get,nx4.stk,nx4.evo,nx4.own,nx4.cls,fun o ho _=>nx4.kp o ho (by omega)⟩,?_,N,fun n m hn hm=>?_⟩
      ·exact c6.take (C:=C3) (C':=⟨C3.σ,C3.S,C3.H,C3.D.take C.D.length⟩) (L:=C.D.length) ⟨rfl,rfl⟩ (fun _ _=>rfl) (fun o ho=>by simp [List.getElem?_take,ho]) (by have:=nx3.len;simp;omega) (frzT_below hf)
      ·rw [a5 n m hn hm,c1]
   ·cases h
  ·cases h
 ·cases h
end Go.Dv
namespace Go.Dv
open Go Go.Sim
variable {W:Nat→Prop} {C C' C'':Ctx} {P:Program} {tm:Trie DV} {tmH:Trie Value} {base:Nat} {Q:Par} {tb:Sub}
theorem loopOf_get {H:Hp} {l:Nat} {r:ALoop} (h:H.get l=some (.loop r)):loopOf H l=some r:=by
 unfold loopOf;rw [h]
theorem HR.putLoop (hr:HR C) {l:Nat} {st st':LoopState} {p p':Option Code} {K:KD} {tm:Trie DV} {ps:Array Tmp} {asg body:Code} (h:C.D[l]? =some (.loop st p K tm ps asg body)) :
  ∃ tmH dn C',C.H.get (C.σ l)=some (.loop ⟨st,p,K.fn,tmH,K.nt,ps,asg,body,dn⟩)∧TR C tm tmH∧C'.H=C.H.put (C.σ l) (.loop ⟨st',p',K.fn,tmH,K.nt,ps,asg,body,dn⟩)∧C'.D=C.D.set l (.loop st' p' K tm ps asg body)∧HR C'∧Nx (fun q=>q=l) C C'∧C'.σ=C.σ:=by
 obtain ⟨tmH,dn,g1,g2,g3⟩:=hr.ob l _ h
 obtain ⟨C',a1,a2,a3,a4,a5,a6⟩:=hr.put (x':=.loop st' p' K tm ps asg body) (B:=.loop ⟨st',p',K.fn,tmH,K.nt,ps,asg,body,dn⟩) h (fun e s l h=>by simp at h) (fun e s l h=>by simp at h) rfl (fun c e k h=>by simp at h)
  (fun C' nx hg hσ=>⟨tmH,dn,hg,g2.mono nx hr,g3⟩)
 exact ⟨tmH,dn,C',g1,g2,a1,a2,a4,a5,a6⟩
theorem round_sound {prev:EvTD} (hp:∀ K c s x s',prev K c s=some (x,s')→CSnd Q tb K c s x s'):YSnd Q tb (roundD prev):=by
 intro l args base D r h C vs hD hr hargs hlow
 subst hD
 unfold roundD at h
 split at h
 ·rename_i st p K tm ps asg body hl
  split at h
  ·rename_i hc
   obtain ⟨c1,rfl,c3⟩:=hc
   obtain ⟨tmH,dn,g1,g2,g3⟩:=hr.ob l _ hl
   have hll:=ltOf hl
   split at h
   ·rename_i s1 hs1
    split at h
    ·rename_i p' K' tm' ps' asg' body' hl1
     split at h
     ·rename_i x s2 hs2
      split at h
      ·rename_i st2 p2 K2 tm2 ps2 asg2 body2 hl2
       -- the assignment
       have pre1:Pre ⟨K.fn,K.nt,some l,K.base,K.an⟩ C ⟨zipD tm K.nt ps.toList args,C.D⟩ ⟨zipU tmH K.nt ps.toList vs,[],C.H⟩ C.H.n ⟨K.fn,K.nt,some (C.σ l)⟩:=
        ⟨rfl,hr,zipD_ok g2 hargs,rfl,hlow,⟨[],rfl,List.nodup_nil,fun b hb=>(by cases hb)⟩,Nat.le_refl _,⟨rfl,rfl,fun h=>(by cases h),fun l' hl'=>by
         simp only [Option.some.injEq] at hl'
         subst hl'
         exact ⟨_,rfl,hll,fun _=>rfl⟩⟩⟩
       obtain ⟨C1,sH1,b1,b2,b3,b4,b5,b6,b7,N1,b8⟩:=(hp _ _ _ _ _ hs1 C _ _ _ pre1).ex
       have hds1:sH1.ds=[]:=b7 (by simp)
       rw [← b1] at hl1 hs2
       have hσ1:=(b3.loop hll (by rw [hl1];rfl)).2
       obtain ⟨tmH1,dn1,C1b,e1,e2,e3,e4,e5,e6,e7⟩:=b2.putLoop (st':=.busy) (p':=p') hl1
       rw [hσ1] at e1 e3
       have nx1b:Nx (fun o=>K.base≤o) C C1b:=b3.trans (e6.weak (fun q hq=>by subst hq;exact c3))
       -- the body
       have pre2:Pre ⟨K.fn,K.nt,some l,K.base,K.an⟩ C1b ⟨s1.tm,C1.D.set l (.loop .busy p' K' tm' ps' asg' body')⟩ ⟨sH1.tm,[],C1b.H⟩ C1b.H.n ⟨K.fn,K.nt,some (C.σ l)⟩:=
        ⟨e4,e5,b4.mono e6 b2,rfl,hlow.nx nx1b,⟨[],rfl,List.nodup_nil,fun b hb=>(by cases hb)⟩,Nat.le_refl _,⟨rfl,rfl,fun h=>(by cases h),fun l' hl'=>by
         simp only [Option.some.injEq] at hl'
         subst hl'
         exact ⟨_,rfl,Nat.lt_of_lt_of_le hll nx1b.len,fun _=>by rw [e7,hσ1]⟩⟩⟩
       obtain ⟨C2,sH2,d1,d2,d3,d4,d5,d6,d7,N2,d8⟩:=(hp _ _ _ _ _ hs2 C1b _ _ _ pre2).ex
       rw [← d1] at hl2 h
       have nx2:Nx (fun o=>K.base≤o) C C2:=nx1b.trans d3
       have hσ2:=(nx2.loop hll (by rw [hl2];rfl)).2
       have fin:∀ (st':LoopState) (p':Option Code) (bv:Bool),r=(rv (.bool bv),C2.D.set l (.loop st' p' K2 tm2 ps2 asg2 body2))→(∀ H r',loopOf H (C.σ l)=some r'→endRoundA H (C.σ l) (jumpOf x)=some (.bool bv,H.put (C.σ l) (.loop ⟨st',p',r'.fn,r'.tm,r'.nt,r'.params,r'.assign,r'.body,r'.defers⟩))) →
         ∃ C' v,C'.D=r.2∧HR C'∧Nx (fun o=>K.base≤o) C C'∧DR C' r.1 v∧∃ N,∀ n m,N≤n→N≤m→evRound (evC Q.P (evF Q.P (plansOf Q) tb n) (plansOf Q) m) (C.σ l) vs C.H=some (v,C'.H):=by
        intro st' p' bv hre hend
        subst hre
        obtain ⟨tmH2,dn2,C3,f1,f2,f3,f4,f5,f6,f7⟩:=d2.putLoop (st':=st') (p':=p') hl2
        rw [hσ2] at f1 f3
        refine ⟨C3,.bool bv,f4,f5,nx2.trans (f6.weak (fun q hq=>by subst hq;exact c3)),rv_ok _,max N1 N2,fun n m hn hm=>?_⟩
        unfold evRound
        rw [loopOf_get g1]
        simp only
        rw [show Nat.beq vs.length ps.toList.length=true by rw [hargs.1,c1];simp]
        simp only
        rw [b8 n m (by omega) (by omega)]
        simp only
        have hb:busyOf sH1.H (C.σ l)=some C1b.H:=by
         unfold busyOf
         rw [b5,loopOf_get e1,e3]
        rw [hb,hds1]
        simp only
        rw [d8 n m (by omega) (by omega)]
        simp only
        rw [d5,hend _ _ (loopOf_get f1),f3]
       have er:∀ (H:Hp) (r':ALoop),loopOf H (C.σ l)=some r'→endRoundA H (C.σ l) none=some (.bool true,H.put (C.σ l) (.loop ⟨.ready,none,r'.fn,r'.tm,r'.nt,r'.params,r'.assign,r'.body,r'.defers⟩)) ∧
         ∀ j,endRoundA H (C.σ l) (some j)=some (.bool false,H.put (C.σ l) (.loop ⟨.done,some j,r'.fn,r'.tm,r'.nt,r'.params,r'.assign,r'.body,r'.defers⟩)):=fun H r' hr'=>by
        unfold endRoundA
        rw [hr']
        exact ⟨rfl,fun j=>rfl⟩
       cases x with
       | nrm=>
        simp only [Option.some.injEq] at h
        exact fin .ready none true h.symm (fun H r' hr'=>(er H r' hr').1)
       | ret=>
        simp only [Option.some.injEq] at h
        exact fin .done (some .ret) false h.symm (fun H r' hr'=>(er H r' hr').2 _)
       | exit id=>
        simp only [Option.some.injEq] at h
        exact fin .done (some (.exit id)) false h.symm (fun H r' hr'=>(er H r' hr').2 _)
      ·cases h
     ·cases h
    ·cases h
   ·cases h
  ·cases h
 ·cases h
theorem HR.newDefs (hr:HR C):∃ C',C'.H=C.H.new (.defs (some []))∧C'.D=C.D∧C'.σ=C.σ∧HR C'∧Nx (fun _=>False) C C':=by
 have u:Upd C.D.length C ⟨C.σ,C.S,C.H.new (.defs (some [])),C.D⟩:=
  {
   n:=by simp
   S:=rfl
   wf:=by
    refine ⟨fun i B' h=>?_,fun i c e k h=>?_⟩
    ·simp only [Hp.get_new,Hp.n_new] at h ⊢
     split at h
     ·omega
     ·have:=hr.wf.dom i B' h;omega
    ·simp only [Hp.get_new,Hp.n_new] at h ⊢
     split at h
     ·simp at h
     ·have:=hr.wf.cls i c e k h;omega
   len:=Nat.le_refl _
   D:=fun _ _=>rfl
   σ:=fun _ _=>rfl
   get:=fun b hb _=>by simp only [Hp.get_new];rw [if_neg (by omega)]
   stk:=fun k _ _=>by simp
   evo:=fun x' h=>absurd h (Nat.lt_irrefl _)
   own:=fun b g=>by
    obtain ⟨y,h1,h2,h3⟩:=g
    have:=ltOf h1
    simp at this
   cls:=fun k g=>by
    rcases g with ⟨e,sz,els,cs,e',h1,h2,h3⟩ | ⟨e,sz,ctr,L,h1,h2⟩
    ·have:=ltOf h1
     simp at this
    ·have:=ltOf h1
     simp at this }
 have nx0:=u.nx hr
 exact ⟨⟨C.σ,C.S,C.H.new (.defs (some [])),C.D⟩,rfl,rfl,rfl,u.hr hr (fun y hy=>by have:=ltOf hy;simp at this),⟨nx0.n,nx0.S,nx0.len,nx0.get,nx0.stk,nx0.evo,nx0.own,nx0.cls,fun o ho _=>nx0.kp o ho (by omega)⟩⟩
theorem jump_eq {p:Option Code} {tm:Trie DV} {D:DH} {x:BX} {s':SD} (h:jumpD p ⟨tm,D⟩=some (x,s')):s'=⟨tm,D⟩∧∀ sH:St,jumpB p sH=some (x,sH):=by
 unfold jumpD at h
 split at h
 ·simp only [Option.some.injEq,Prod.mk.injEq] at h
  obtain ⟨rfl,rfl⟩:=h
  exact ⟨rfl,fun sH=>rfl⟩
 ·simp only [Option.some.injEq,Prod.mk.injEq] at h
  obtain ⟨rfl,rfl⟩:=h
  exact ⟨rfl,fun sH=>rfl⟩
 ·simp only [Option.some.injEq,Prod.mk.injEq] at h
  obtain ⟨rfl,rfl⟩:=h
  exact ⟨rfl,fun sH=>rfl⟩
 ·cases h
theorem range_sound (hN:∀ (g:FuncId) (fn:Func),Q.P.funcs[g]? =some fn→(fn.name== "runtime.NumGoroutine")=false) {prev:EvTD} (hp:∀ K c s x s',prev K c s=some (x,s')→CSnd Q tb K c s x s') {K:KD} {f:Operand} {ps:Array Tmp} {asg body:Code} {s s':SD} {x:BX}
  (h:rangeD Q prev K f ps asg body s=some (x,s')):SSnd Q tb K (.rangeFunc f ps asg body) s x s':=by
 intro C sH n0 kh pre
 obtain ⟨hD,hr,ht,hH,hlow,hmk,hn0,hro⟩:=pre
 obtain ⟨stm,sD⟩:=s
 simp only at hD ht
 subst hD
 unfold rangeD at h
 split at h
 ·rename_i g a b hf
  obtain ⟨vf,f1,f2⟩:=evalD_ok (P:=Q.P) ht hf
  split at h
  ·rename_i hraw
   simp only [Bool.and_eq_true] at hraw
   obtain ⟨hraw,hrok,_⟩:=hraw
   cases hfr:frameB Q prev g (a++[.yl C.D.length]++b) K.base (C.D++[.loop .ready none K stm ps asg body]) with
   | none=>rw [hfr] at h;simp [rangeEndD] at h
   | some q=>
    obtain ⟨rd,rD⟩:=q
    rw [hfr] at h
    obtain ⟨hgood,hfs⟩:=frame_sound (tb:=tb) hN hp hfr
    cases f2 with
    | @fn _ _ _ as bs hla hlb q1 q2=>
     -- the rest, once the mark and the record are there
     have rest:∀ (C1:Ctx) (mark:List Deferred) (dn:Nat),C1.D=C.D→HR C1→Nx (fun _=>False) C C1→Marks n0 C1.H (mark++sH.ds)→(K.ro≠none→mark=[])→n0≤C1.H.n →
       enterLoopA kh.fn sH.tm kh.nt ps asg body kh.ro sH.H=some (mark,C1.H.new (.loop ⟨.ready,none,K.fn,sH.tm,K.nt,ps,asg,body,dn⟩)) →
       Comes Q K C n0 sH.ds s' fun sH'=>∃ N,∀ n m,N≤n→N≤m→evS Q.P (evF Q.P (plansOf Q) tb n) (plansOf Q) m (evC Q.P (evF Q.P (plansOf Q) tb n) (plansOf Q) m) kh (.rangeFunc f ps asg body) sH=some (x,sH'):=by
      intro C1 mark dn e1 e2 e3 e4 e5 e6 e7
      have ht1:=ht.mono e3 hr
      obtain ⟨C2,a1,a2,a3,a4,a5,a6⟩:=e2.new (B:=.loop ⟨.ready,none,K.fn,sH.tm,K.nt,ps,asg,body,dn⟩) (x:=.loop .ready none K stm ps asg body) (fun c e k h=>by simp at h) (fun e s l h=>by simp at h)
       (fun C' nx hg=>⟨sH.tm,dn,hg,ht1.mono nx e2,fun t d hd=>by obtain ⟨v,_,q⟩:=ht1 t d hd;exact q.lows⟩)
      rw [e1] at a2 a6
      have nx2:Nx (fun _=>False) C C2:=e3.trans a5
      have hyl:DR C2 (.yl C.D.length) (.func (.yield C1.H.n) #[] #[]):=.yl (by rw [a2];simp) rfl (fun _ _ _ _ _ _ _ _=>by rw [a6])
      have hargs:DRs C2 (a++[.yl C.D.length]++b) (as++[.func (.yield C1.H.n) #[] #[]]++bs):=
       DRs.append (DRs.append (DRs.mono nx2 hr ⟨hla,q1⟩) ⟨rfl,fun i d v h1 h2=>by
        cases i with
        | zero=>simp at h1 h2;subst h1 h2;exact hyl
        | succ i=>simp at h1⟩) (DRs.mono nx2 hr ⟨hlb,q2⟩)
      obtain ⟨C3,v,b1,b2,b3,b4,N,b5⟩:=hfs C2 _ a2 a4 hargs (hlow.nx (nx2.weak (fun _ h=>h.elim)))
      simp only at b1
      subst b1
      simp only [rangeEndD] at h
      split at h
      ·rename_i st p K3 tm3 ps3 asg3 body3 hl3
       have hl2:C.D.length<C2.D.length:=by rw [a2];simp
       have hσ3:=(b3.loop hl2 (by rw [hl3];rfl)).2
       rw [a6] at hσ3
       have hst:st≠.busy:=fun q=>by subst q;simp at h
       have hj:jumpD p ⟨stm,C3.D.set C.D.length .dead⟩=some (x,s'):=by
        cases st<;>first | exact h | exact absurd rfl hst
       obtain ⟨rfl,hjB⟩:=jump_eq hj
       obtain ⟨tmH3,dn3,C4,d1,d2,d3,d4,d5,d6,d7⟩:=b2.putLoop (st':=.exhausted) (p':=p) hl3
       rw [hσ3] at d1 d3
       obtain ⟨C5,k1,k2,k3,k4,k5,k6⟩:=d5.drop1 C.D.length
       have hbl:K.base≤C.D.length:=hlow.1
       have nx35:Nx (fun o=>K.base≤o) C3 C5:=(d6.weak (fun q hq=>by subst hq;exact hbl)).trans (k5.weak (fun q hq=>by subst hq;exact hbl))
       have nx5:Nx (fun o=>K.base≤o) C C5:=(nx2.weak (fun _ h=>h.elim)).trans ((b3.weak (fun _ h=>h.1)).trans nx35)
       have mk5:Marks n0 C5.H (mark++sH.ds):=((e4.nx e2 a5).nx a4 b3).nx b2 nx35
       refine ⟨C5,⟨sH.tm,mark++sH.ds,C5.H⟩,?_,k4,nx5,ht.mono nx5 hr,rfl,mk5,fun hro'=>by rw [e5 hro'];rfl,N,fun n m hn hm=>?_⟩
       ·rw [k2,d4,List.set_set]
       ·show evRange Q.P m _ kh f ps asg body sH=_
        unfold evRange
        rw [e7]
        simp only [f1]
        have hpred:Nat.pred (C1.H.new (.loop ⟨.ready,none,K.fn,sH.tm,K.nt,ps,asg,body,dn⟩)).n=C1.H.n:=by simp
        rw [hpred]
        have hinv:invokeA Q.P [.func (.yield C1.H.n) #[] #[]] (.func (.func g) ⟨as⟩ ⟨bs⟩)=some (.enter g (as++[.func (.yield C1.H.n) #[] #[]]++bs)):=callA_ok hgood
        rw [hinv]
        simp only
        rw [← a1,b5 n m hn hm]
        unfold evRangeEnd
        simp only
        rw [loopOf_get d1]
        simp only
        rw [show jumpB p ⟨sH.tm,mark++sH.ds,C3.H.put C1.H.n (.loop ⟨.exhausted,p,K3.fn,tmH3,K3.nt,ps3,asg3,body3,dn3⟩)⟩=some (x,⟨sH.tm,mark++sH.ds,C5.H⟩) by rw [k1,d3];exact hjB _]
        first | done | (cases st<;>first | rfl | exact absurd rfl hst)
      ·cases h
     cases hKro:K.ro with
     | none=>
      obtain ⟨C1,a1,a2,a3,a4,a5⟩:=hr.newDefs
      obtain ⟨bs0,m1,m2,m3⟩:=hmk
      refine rest C1 [{ target:=.collected C.H.n,args:=#[] }] C.H.n a2 a4 a5 ⟨C.H.n::bs0,by rw [m1];rfl,List.nodup_cons.2 ⟨fun hm=>?_,m2⟩,fun p hp=>?_⟩ (fun q=>absurd hKro q) (by rw [a1];simp;omega) ?_
      ·have:=hr.wf.dom _ _ (m3 _ hm).2;omega
      ·rcases List.mem_cons.1 hp with rfl | hp
       ·exact ⟨hn0,by rw [a1];simp⟩
       ·obtain ⟨g1,g2⟩:=m3 p hp
        exact ⟨g1,by rw [a5.get p (hr.wf.dom _ _ g2) (defs_free hr g2).1];exact g2⟩
      ·unfold enterLoopA
       rw [hro.no hKro,hH,a1,hro.fn,hro.nt]
     | some l=>
      obtain ⟨bl,g1,g2,g3⟩:=hro.so l hKro
      have hlp:isLoop C.D[l]? =true:=by
       unfold roOK at hrok
       rw [hKro] at hrok
       exact hrok
      obtain ⟨st,p,K',tm',ps',a',b',hx⟩:=isLoop_ex hlp
      obtain ⟨tmH',dn',k1,_⟩:=hr.ob l _ hx
      rw [g3 hlp] at k1
      refine rest C [] dn' rfl hr (Nx.refl hr) hmk (fun _=>rfl) hn0 ?_
      unfold enterLoopA
      rw [g1]
      simp only
      rw [hH,loopOf_get k1,hro.fn,hro.nt]
  ·cases h
 ·cases h
/-! ### code -/
theorem loop_sound {K:KD} {b:Code} {keep:List Tmp} {F:SD→Option (BX×SD)} (hF:∀ s x s',F s=some (x,s')→SSnd Q tb K b s x s') {C0:Ctx} {n0:Nat} {kh:FK} (hr0:HR C0) (hlow0:Low C0 K.base) (hn0:n0≤C0.H.n) (hro:ROK C0 K kh) :
  ∀ (k:Nat) (s:SD) (x:BX) (s':SD),lpD (headD keep K.an.long K.base C0.D.length) F k s=some (x,s')→∀ (C:Ctx) (sH:St),C.D=s.D→HR C→Nx (fun o=>K.base≤o) C0 C→TR C s.tm sH.tm→sH.H=C.H→Marks n0 C.H sH.ds →
   Comes Q K C0 n0 sH.ds s' fun sH'=>∃ N,∀ n m j,N≤n→N≤m→N≤j→evLoop (evS Q.P (evF Q.P (plansOf Q) tb n) (plansOf Q) m (evC Q.P (evF Q.P (plansOf Q) tb n) (plansOf Q) m) kh b) j sH=some (x,sH'):=by
 intro k
 induction k with
 | zero=>intro s x s' h;simp [lpD] at h
 | succ k ih=>
  intro s x s' h C sH hD hr nx ht hH hmk
  simp only [lpD] at h
  split at h
  ·rename_i s1 hs1
   obtain ⟨C1,a1,a2,a3,a4,a5⟩:=head_ok (base:=K.base) hr hD ht (hlow0.nx nx) nx hs1
   have pre:Pre K C1 s1 sH n0 kh:=⟨a2,a3,a5,by rw [hH,a1],hlow0.nx a4,by rw [a1];exact hmk,by have:=a4.n;omega,hro.nx a4⟩
   split at h
   ·rename_i s2 hs2
    obtain ⟨C2,sH2,b1,b2,b3,b4,b5,b6,b7,N1,b8⟩:=(hF _ _ _ hs2 C1 sH n0 kh pre).ex
    obtain ⟨C3,sH3,c1,c2,c3,c4,c5,c6,c7,N2,c8⟩:=(ih s2 x s' h C2 sH2 b1 b2 (a4.trans b3) b4 b5 b6).ex
    refine ⟨C3,sH3,c1,c2,c3,c4,c5,c6,fun q=>(c7 q).trans (b7 q),max N1 N2+1,fun n m j hn hm hj=>?_⟩
    obtain ⟨j,rfl⟩:∃ i,j=i+1:=⟨j-1,by omega⟩
    show (match evS Q.P _ _ m _ kh b sH with
     | some (.nrm,s')=>evLoop _ j s'
     | r=>r)=_
    rw [b8 n m (by omega) (by omega)]
    exact c8 n m j (by omega) (by omega) (by omega)
   ·rename_i hne
    obtain ⟨C2,sH2,b1,b2,b3,b4,b5,b6,b7,N1,b8⟩:=(hF _ _ _ h C1 sH n0 kh pre).ex
    refine ⟨C2,sH2,b1,b2,a4.trans b3,b4,b5,b6,b7,N1+1,fun n m j hn hm hj=>?_⟩
    obtain ⟨j,rfl⟩:∃ i,j=i+1:=⟨j-1,by omega⟩
    show (match evS Q.P _ _ m _ kh b sH with
     | some (.nrm,s')=>evLoop _ j s'
     | r=>r)=_
    rw [b8 n m (by omega) (by omega)]
    cases x with
    | nrm=>exact absurd h (hne _)
    | ret=>rfl
    | exit id=>rfl
  ·cases h
theorem ev_sound (hN:∀ (g:FuncId) (fn:Func),Q.P.funcs[g]? =some fn→(fn.name== "runtime.NumGoroutine")=false) {sub:SubD} {prev:EvTD} (hsub:∀ f a b D r,sub f a b D=some r→Snd Q tb f a b D r) (hp:∀ K c s x s',prev K c s=some (x,s')→CSnd Q tb K c s x s') {K:KD}
  (hpl:∀ id q,findN id K.an.pl=some q→plansOf Q K.fn id=some q):∀ (c:Code) (w:Nat) (s:SD) (x:BX) (s':SD),evD Q sub prev K w c s=some (x,s')→SSnd Q tb K c s x s':=by
 have here:∀ {C sH n0 kh s} (x:BX) (c:Code),Pre K C s sH n0 kh→(∀ n m,evS Q.P (evF Q.P (plansOf Q) tb n) (plansOf Q) m (evC Q.P (evF Q.P (plansOf Q) tb n) (plansOf Q) m) kh c sH=some (x,sH))→Comes Q K C n0 sH.ds s fun sH'=>∃ N,∀ n m,N≤n→N≤m→evS Q.P (evF Q.P (plansOf Q) tb n) (plansOf Q) m (evC Q.P (evF Q.P (plansOf Q) tb n) (plansOf Q) m) kh c sH=some (x,sH'):=
  fun {C sH n0 kh s} x c pre he=>⟨C,sH,pre.D,pre.hr,Nx.refl pre.hr,pre.tr,pre.H,pre.marks,fun _=>rfl,0,fun n m _ _=>he n m⟩
 intro c
 induction c with
 | skip=>
  intro w s x s' h C sH n0 kh pre
  simp only [evD,Option.some.injEq,Prod.mk.injEq] at h
  obtain ⟨rfl,rfl⟩:=h
  exact here .nrm .skip pre (fun _ _=>rfl)
 | region id ops dr=>
  intro w s x s' h C sH n0 kh pre
  cases dr with
  | false=>
   simp only [evD] at h
   split at h
   ·rename_i s1 hg
    obtain ⟨C1,a1,a2,a3,a4,a5⟩:=ghAt_ok pre.hr pre.D pre.tr hg
    rw [← a2] at h
    cases ho:evOpsD Q.P sub (roundD prev) K.base K.nt ops.toList ops.toList s1.tm C1.D with
    | none=>rw [ho] at h;simp [outD] at h
    | some q=>
     obtain ⟨tm',D'⟩:=q
     rw [ho] at h
     simp only [outD,Option.some.injEq,Prod.mk.injEq] at h
     obtain ⟨rfl,rfl⟩:=h
     obtain ⟨C2,tmH2,b1,b2,b3,b4,N,b5⟩:=ops_sound hsub (round_sound hp) ops.toList s1.tm sH.tm C1 a3 a5 (pre.low.nx a4) ho
     have nx:=a4.trans b3
     refine ⟨C2,⟨tmH2,sH.ds,C2.H⟩,b1,b2,nx,b4,rfl,pre.marks.nx pre.hr nx,fun _=>rfl,N,fun n m hn hm=>?_⟩
     show evOut sH.ds (evOps _ _ Q.P kh.nt ops.toList ops.toList sH.tm sH.H)=_
     rw [pre.H,← a1,pre.ro.nt,b5 n m hn hm];rfl
   ·cases h
  | true=>
   simp only [evD] at h
   split at h
   ·rename_i s1 hg
    obtain ⟨C1,a1,a2,a3,a4,a5⟩:=ghAt_ok pre.hr pre.D pre.tr hg
    split at h
    ·rename_i hro
     unfold drawR at h
     split at h
     ·rename_i pl b hfp
      split at h
      ·rename_i hgp
       rw [← a2] at h
       cases ho:drawD Q sub K.base K.nt ops.toList pl s1.tm C1.D [] with
       | none=>rw [ho] at h;simp [outD] at h
       | some q=>
        obtain ⟨tm',D'⟩:=q
        rw [ho] at h
        simp only [outD,Option.some.injEq,Prod.mk.injEq] at h
        obtain ⟨rfl,rfl⟩:=h
        obtain ⟨C2,tmH2,b1,b2,b3,b4,N,b5⟩:=draw_sound hsub pl [] [] [] [] s1.tm sH.tm C1 hgp a3 a5 (pre.low.nx a4) (fun i dep hi=>by cases hi) ho
        have nx:=a4.trans b3
        refine ⟨C2,⟨tmH2,sH.ds,C2.H⟩,b1,b2,nx,b4,rfl,pre.marks.nx pre.hr nx,fun _=>rfl,N,fun n m hn hm=>?_⟩
        show (match kh.ro with
         | none=>evOut sH.ds (drawP (evF Q.P (plansOf Q) tb n) Q.P (plansOf Q) kh.fn id ops.toList sH.tm kh.nt sH.H)
         | some _=>none)=_
        rw [pre.ro.no hro]
        simp only
        unfold drawP
        rw [pre.ro.fn,hpl id _ hfp]
        simp only
        rw [hgp]
        simp only
        rw [pre.H,← a1,pre.ro.nt,b5 n hn];rfl
      ·cases h
     ·cases h
    ·cases h
   ·cases h
 | seq a b iha ihb=>
  intro w s x s' h C sH n0 kh pre
  simp only [evD] at h
  cases ha:evD Q sub prev K w a s with
  | none=>rw [ha] at h;simp [thenD] at h
  | some q=>
   obtain ⟨x1,s1⟩:=q
   rw [ha] at h
   obtain ⟨C1,sH1,b1,b2,b3,b4,b5,b6,b7,N1,b8⟩:=(iha w s x1 s1 ha C sH n0 kh pre).ex
   have hseq:∀ n m,evS Q.P (evF Q.P (plansOf Q) tb n) (plansOf Q) m (evC Q.P (evF Q.P (plansOf Q) tb n) (plansOf Q) m) kh (.seq a b) sH=evThen (evS Q.P (evF Q.P (plansOf Q) tb n) (plansOf Q) m (evC Q.P (evF Q.P (plansOf Q) tb n) (plansOf Q) m) kh b) (evS Q.P (evF Q.P (plansOf Q) tb n) (plansOf Q) m (evC Q.P (evF Q.P (plansOf Q) tb n) (plansOf Q) m) kh a sH):=fun n m=>rfl
   cases x1 with
   | nrm=>
    simp only [thenD] at h
    have pre1:Pre K C1 s1 sH1 n0 kh:=⟨b1,b2,b4,b5,pre.low.nx b3,b6,by have:=b3.n;have:=pre.n0;omega,pre.ro.nx b3⟩
    obtain ⟨C2,sH2,c1,c2,c3,c4,c5,c6,c7,N2,c8⟩:=(ihb w s1 x s' h C1 sH1 n0 kh pre1).ex
    refine ⟨C2,sH2,c1,c2,b3.trans c3,c4,c5,c6,fun q=>(c7 q).trans (b7 q),max N1 N2,fun n m hn hm=>?_⟩
    rw [hseq,b8 n m (by omega) (by omega)]
    exact c8 n m (by omega) (by omega)
   | ret=>
    simp only [thenD,Option.some.injEq,Prod.mk.injEq] at h
    obtain ⟨rfl,rfl⟩:=h
    exact ⟨C1,sH1,b1,b2,b3,b4,b5,b6,b7,N1,fun n m hn hm=>by rw [hseq,b8 n m hn hm];rfl⟩
   | exit id=>
    simp only [thenD,Option.some.injEq,Prod.mk.injEq] at h
    obtain ⟨rfl,rfl⟩:=h
    exact ⟨C1,sH1,b1,b2,b3,b4,b5,b6,b7,N1,fun n m hn hm=>by rw [hseq,b8 n m hn hm];rfl⟩
 | cond y a b iha ihb=>
  intro w s x s' h C sH n0 kh pre
  simp only [evD] at h
  unfold condD at h
  split at h
  ·rename_i hy
   obtain ⟨v,v1,v2⟩:=evalD_ok (P:=Q.P) pre.tr hy
   obtain ⟨C1,sH1,b1,b2,b3,b4,b5,b6,b7,N1,b8⟩:=(iha w s x s' h C sH n0 kh pre).ex
   refine ⟨C1,sH1,b1,b2,b3,b4,b5,b6,b7,N1,fun n m hn hm=>?_⟩
   show evCond _ _ (evalO Q.P sH.tm y)=_
   rw [v1,rawR v2]
   exact b8 n m hn hm
  ·rename_i hy
   obtain ⟨v,v1,v2⟩:=evalD_ok (P:=Q.P) pre.tr hy
   obtain ⟨C1,sH1,b1,b2,b3,b4,b5,b6,b7,N1,b8⟩:=(ihb w s x s' h C sH n0 kh pre).ex
   refine ⟨C1,sH1,b1,b2,b3,b4,b5,b6,b7,N1,fun n m hn hm=>?_⟩
   show evCond _ _ (evalO Q.P sH.tm y)=_
   rw [v1,rawR v2]
   exact b8 n m hn hm
  ·cases h
 | block id b ih=>
  intro w s x s' h C sH n0 kh pre
  simp only [evD] at h
  cases hb:evD Q sub prev K id b s with
  | none=>rw [hb] at h;simp [blockD] at h
  | some q=>
   obtain ⟨x1,s1⟩:=q
   rw [hb] at h
   obtain ⟨C1,sH1,b1,b2,b3,b4,b5,b6,b7,N1,b8⟩:=(ih id s x1 s1 hb C sH n0 kh pre).ex
   have hblk:∀ n m,evS Q.P (evF Q.P (plansOf Q) tb n) (plansOf Q) m (evC Q.P (evF Q.P (plansOf Q) tb n) (plansOf Q) m) kh (.block id b) sH=evBlock id (evS Q.P (evF Q.P (plansOf Q) tb n) (plansOf Q) m (evC Q.P (evF Q.P (plansOf Q) tb n) (plansOf Q) m) kh b sH):=fun n m=>rfl
   have key:s1=s'∧∀ t:St,evBlock id (some (x1,t))=some (x,t):=by
    cases x1 with
    | nrm=>
     simp only [blockD,Option.some.injEq,Prod.mk.injEq] at h
     obtain ⟨rfl,rfl⟩:=h
     exact ⟨rfl,fun _=>rfl⟩
    | ret=>
     simp only [blockD,Option.some.injEq,Prod.mk.injEq] at h
     obtain ⟨rfl,rfl⟩:=h
     exact ⟨rfl,fun _=>rfl⟩
    | exit j=>
     simp only [blockD] at h
     split at h
     ·rename_i e
      subst e
      simp only [Option.some.injEq,Prod.mk.injEq] at h
      obtain ⟨rfl,rfl⟩:=h
      refine ⟨rfl,fun t=>?_⟩
      simp only [evBlock]
      rw [show Nat.beq id id=true by simp]
     ·rename_i e
      simp only [Option.some.injEq,Prod.mk.injEq] at h
      obtain ⟨rfl,rfl⟩:=h
      refine ⟨rfl,fun t=>?_⟩
      simp only [evBlock]
      have:Nat.beq id j=false:=by
       cases hq:Nat.beq id j with
       | false=>rfl
       | true=>exact absurd (Nat.eq_of_beq_eq_true hq) e
      rw [this]
   obtain ⟨rfl,hk⟩:=key
   exact ⟨C1,sH1,b1,b2,b3,b4,b5,b6,b7,N1,fun n m hn hm=>by rw [hblk,b8 n m hn hm];exact hk _⟩
 | loop b ih=>
  intro w s x s' h C sH n0 kh pre
  simp only [evD] at h
  obtain ⟨k,hk⟩:=lim_some h
  rw [← pre.D] at hk
  obtain ⟨C1,sH1,b1,b2,b3,b4,b5,b6,b7,N1,b8⟩:=(loop_sound (fun s x s' hs=>ih w s x s' hs) pre.hr pre.low pre.n0 pre.ro k s x s' hk C sH pre.D pre.hr (Nx.refl pre.hr) pre.tr pre.H pre.marks).ex
  exact ⟨C1,sH1,b1,b2,b3,b4,b5,b6,b7,N1,fun n m hn hm=>b8 n m m hn hm hm⟩
 | rangeFunc f ps asg body _ _=>
  intro w s x s' h
  exact range_sound hN hp h
 | exit id=>
  intro w s x s' h C sH n0 kh pre
  simp only [evD,Option.some.injEq,Prod.mk.injEq] at h
  obtain ⟨rfl,rfl⟩:=h
  exact here (.exit id) (.exit id) pre (fun _ _=>rfl)
 | label l=>
  intro w s x s' h C sH n0 kh pre
  simp only [evD,Option.some.injEq,Prod.mk.injEq] at h
  obtain ⟨rfl,rfl⟩:=h
  exact here .nrm (.label l) pre (fun _ _=>rfl)
 | ret=>
  intro w s x s' h C sH n0 kh pre
  simp only [evD,Option.some.injEq,Prod.mk.injEq] at h
  obtain ⟨rfl,rfl⟩:=h
  exact here .ret .ret pre (fun _ _=>rfl)
 | _=>intro w s x s' h;simp [evD] at h
structure QOK (Q:Par) (tb:Sub):Prop where
 names:∀ (g:FuncId) (fn:Func),Q.P.funcs[g]? =some fn→(fn.name== "runtime.NumGoroutine")=false
 told:∀ (g:FuncId) (args:List Value) (H:Hp) (fn:Func) (c:Code),Q.tv g=false→Q.P.funcs[g]? =some fn→fn.body=some c→tb g args H=none
 tv:∀ (g:FuncId),Q.tv g=true→GoodF Q.P g∧∀ H,tb g [] H=some (.bool true,H)
def AnOK (Q:Par) (K:KD):Prop:=K.an=Q.ann K.fn
theorem snd_of (hQ:QOK Q tb) {ev:EvTD} (hev:∀ K c s x s',ev K c s=some (x,s')→CSnd Q tb K c s x s') {f:FuncId} {args:List DV} {D:DH} {r:DV×DH} (h:frameD Q ev f args base D=some r):Snd Q tb f args base D r:=by
 unfold frameD at h
 cases htv:Q.tv f with
 | true=>
  rw [htv] at h
  cases args with
  | cons x l=>simp [toldD] at h
  | nil=>
   simp only [toldD,Option.some.injEq] at h
   subst h
   obtain ⟨g1,g2⟩:=hQ.tv f htv
   refine ⟨g1,fun C vs hD hr ha hl=>⟨C,.bool true,hD,hr,Nx.refl hr,rv_ok _,1,fun n hn=>?_⟩⟩
   have hvs:vs=[]:=List.eq_nil_of_length_eq_zero ha.1
   subst hvs
   obtain ⟨k,rfl⟩:∃ k,n=k+1:=⟨n-1,by omega⟩
   rw [evF_base (g2 C.H)]
 | false=>
  rw [htv] at h
  obtain ⟨hg,hs⟩:=frame_sound (tb:=tb) hQ.names hev h
  refine ⟨hg,fun C vs hD hr ha hl=>?_⟩
  obtain ⟨C',v,a1,a2,a3,a4,N,a5⟩:=hs C vs hD hr ha hl
  refine ⟨C',v,a1,a2,a3,a4,N+1,fun n hn=>?_⟩
  obtain ⟨k,rfl⟩:∃ k,n=k+1:=⟨n-1,by omega⟩
  obtain ⟨fn,c,g1,g2,_⟩:=hg
  rw [evF_frame (hQ.told f vs C.H fn c htv g1 g2)]
  exact a5 k k (by omega) (by omega)
end Go.Dv
namespace Go.Dv
open Go Go.Sim
variable {Q:Par} {tb:Sub}
theorem run_sound (hQ:QOK Q tb) {f:FuncId} {args:List DV} {base:Nat} {D:DH} {r:DV×DH} (h:RunD Q f args base D r):Snd Q tb f args base D r:=
 RunD.rec (motive_1:=fun f args base D r _=>Snd Q tb f args base D r) (motive_2:=fun K c s r _=>CSnd Q tb K c s r.1 r.2)
  (fun prev hp h ih=>snd_of hQ (fun K c s x s' he=>ih K c s (x,s') he) h)
  (fun {K c s r} sub prev ha hs hp h ihs ihp=>by
   obtain ⟨x,s'⟩:=r
   intro C sH n0 kh pre
   obtain ⟨C1,sH1,b1,b2,b3,b4,b5,b6,b7,N,b8⟩:=(ev_sound hQ.names ihs (fun K c s x s' he=>ihp K c s (x,s') he) (fun id q hq=>by rw [ha] at hq;exact hq) c 0 s x s' h C sH n0 kh pre).ex
   refine ⟨C1,sH1,b1,b2,b3,b4,b5,b6,b7,N+1,fun n m hn hm=>?_⟩
   obtain ⟨k,rfl⟩:∃ k,m=k+1:=⟨m-1,by omega⟩
   exact b8 n k (by omega) (by omega)) h
/-! ### one result -/
def SubLe (a b:SubD):Prop:=∀ f x n D r,a f x n D=some r→b f x n D=some r
def EvLe (a b:EvTD):Prop:=∀ K c s r,a K c s=some r→b K c s=some r
theorem lp_det {h:SD→Option SD} {F:SD→Option (BX×SD)}:∀ {n m:Nat} {s:SD} {r r':BX×SD},lpD h F n s=some r→lpD h F m s=some r'→r=r'
 | 0,_,s,r,r',a,_=>by simp [lpD] at a
 | _+1,0,s,r,r',_,b=>by simp [lpD] at b
 | n+1,m+1,s,r,r',a,b=>by
  simp only [lpD] at a b
  cases hs:h s with
  | none=>rw [hs] at a;cases a
  | some s1=>
   rw [hs] at a b
   simp only at a b
   cases hF:F s1 with
   | none=>rw [hF] at a;cases a
   | some q=>
    rw [hF] at a b
    obtain ⟨x,s2⟩:=q
    cases x with
    | nrm=>exact lp_det a b
    | ret=>exact Option.some.inj (a.symm.trans b)
    | exit id=>exact Option.some.inj (a.symm.trans b)
theorem lim_of {α:Type} {g:Nat→Option α} (hd:∀ n m r r',g n=some r→g m=some r'→r=r') {n:Nat} {r:α} (h:g n=some r):limD g=some r:=by
 have he:∃ n r,g n=some r:=⟨n,r,h⟩
 unfold limD
 rw [dif_pos he]
 exact congrArg some (hd _ _ _ _ he.choose_spec.choose_spec h)
theorem lp_mono {h:SD→Option SD} {F F':SD→Option (BX×SD)} (hF:∀ s r,F s=some r→F' s=some r):∀ {n:Nat} {s:SD} {r:BX×SD},lpD h F n s=some r→lpD h F' n s=some r
 | 0,s,r,a=>by simp [lpD] at a
 | n+1,s,r,a=>by
  simp only [lpD] at a ⊢
  cases hs:h s with
  | none=>rw [hs] at a;cases a
  | some s1=>
   rw [hs] at a
   simp only at a ⊢
   cases hq:F s1 with
   | none=>rw [hq] at a;cases a
   | some q=>
    rw [hq] at a
    rw [hF _ _ hq]
    obtain ⟨x,s2⟩:=q
    cases x with
    | nrm=>exact lp_mono hF a
    | ret=>exact a
    | exit id=>exact a
theorem loop_mono {h:SD→Option SD} {F F':SD→Option (BX×SD)} (hF:∀ s r,F s=some r→F' s=some r) {s:SD} {r:BX×SD} (a:loopD h F s=some r):loopD h F' s=some r:=by
 obtain ⟨n,hn⟩:=lim_some a
 exact lim_of (fun n m r r'=>lp_det) (lp_mono hF hn)
theorem ops_mono {P:Program} {sub sub' yld yld':SubD} (hs:SubLe sub sub') (hy:SubLe yld yld') {base nt:Nat} {all:List Oper} {r:Trie DV×DH}:∀ {rest:List Oper} {tm:Trie DV} {D:DH},evOpsD P sub yld base nt all rest tm D=some r→evOpsD P sub' yld' base nt all rest tm D=some r
 | [],tm,D,h=>h
 | o::rest,tm,D,h=>by
  simp only [evOpsD] at h ⊢
  split at h
  ·split at h
   ·rename_i d D' hop
    have:evOpD sub' yld' base D (dop P base tm D o.op)=some (d,D'):=by
     cases hq:dop P base tm D o.op with
     | none=>rw [hq] at hop;simp [evOpD] at hop
     | some q=>
      rw [hq] at hop
      cases q with
      | val=>exact hop
      | enter g args=>exact hs _ _ _ _ _ hop
      | yield l args=>exact hy _ _ _ _ _ hop
    rw [this]
    exact ops_mono hs hy h
   ·cases h
  ·exact ops_mono hs hy h
  ·cases h
theorem draw_mono {sub sub':SubD} (hs:SubLe sub sub') {base nt:Nat} {all:List Oper} {r:Trie DV×DH}:∀ {pl:List PI} {tm:Trie DV} {D:DH} {cl:List (Nat×Option Nat)},drawD Q sub base nt all pl tm D cl=some r→drawD Q sub' base nt all pl tm D cl=some r
 | [],tm,D,cl,h=>h
 | .run i::pl,tm,D,cl,h=>by
  simp only [drawD] at h ⊢
  cases ho:all[i]? with
  | none=>rw [ho] at h;cases h
  | some o=>
   rw [ho] at h
   simp only at h ⊢
   cases hw:wantD all tm o.guard with
   | none=>rw [hw] at h;cases h
   | some wb=>
    rw [hw] at h
    cases wb with
    | false=>exact draw_mono hs h
    | true=>
     simp only at h ⊢
     cases hq:evOpD sub noYld (effB Q base tm D o.op) D (dop Q.P base tm D o.op) with
     | none=>rw [hq] at h;cases h
     | some q=>
      obtain ⟨d,D'⟩:=q
      rw [hq] at h
      have:evOpD sub' noYld (effB Q base tm D o.op) D (dop Q.P base tm D o.op)=some (d,D'):=by
       cases hr:dop Q.P base tm D o.op with
       | none=>rw [hr] at hq;simp [evOpD] at hq
       | some r'=>
        rw [hr] at hq
        cases r' with
        | val=>exact hq
        | enter g args=>exact hs _ _ _ _ _ hq
        | yield l args=>exact hq
      rw [this]
      exact draw_mono hs h
 | .again i::pl,tm,D,cl,h=>by
  simp only [drawD] at h ⊢
  cases ha:againD D all tm nt i cl with
  | true=>rw [ha] at h;exact draw_mono hs h
  | false=>rw [ha] at h;cases h
theorem round_mono {ev ev':EvTD} (he:EvLe ev ev'):SubLe (roundD ev) (roundD ev'):=by
 intro l args base D r h
 unfold roundD at h ⊢
 cases hl:D[l]? with
 | none=>rw [hl] at h;cases h
 | some x=>
  rw [hl] at h
  cases x with
  | loop st p K tm ps asg body=>
   simp only at h ⊢
   split at h
   ·rename_i hc
    rw [if_pos hc]
    cases h1:ev ⟨K.fn,K.nt,some l,K.base,K.an⟩ asg ⟨zipD tm K.nt ps.toList args,D⟩ with
    | none=>rw [h1] at h;cases h
    | some q=>
     rw [h1] at h
     rw [he _ _ _ _ h1]
     obtain ⟨x,s⟩:=q
     cases x with
     | nrm=>
      simp only at h ⊢
      cases hl1:s.D[l]? with
      | none=>rw [hl1] at h;cases h
      | some y=>
       rw [hl1] at h
       cases y with
       | loop st1 p' K' tm' ps' asg' body'=>
        cases st1 with
        | ready=>
         simp only at h ⊢
         cases h2:ev ⟨K.fn,K.nt,some l,K.base,K.an⟩ body ⟨s.tm,s.D.set l (.loop .busy p' K' tm' ps' asg' body')⟩ with
         | none=>rw [h2] at h;cases h
         | some q2=>rw [h2] at h;rw [he _ _ _ _ h2];exact h
        | _=>cases h
       | _=>cases h
     | _=>cases h
   ·cases h
  | _=>cases h
theorem end_mono {P:Program} {fn:Func} {raw:Bool} {base:Nat} {a b:Option (BX×SD)} (hab:∀ r,a=some r→b=some r) {r:DV×DH} (h:endD P fn raw base a=some r):endD P fn raw base b=some r:=by
 cases a with
 | none=>simp [endD] at h
 | some q=>rw [hab q rfl];exact h
theorem frameB_mono {ev ev':EvTD} (he:EvLe ev ev') {f:FuncId} {args:List DV} {base:Nat} {D:DH} {r:DV×DH} (h:frameB Q ev f args base D=some r):frameB Q ev' f args base D=some r:=by
 unfold frameB at h ⊢
 cases hfn:Q.P.funcs[f]? with
 | none=>rw [hfn] at h;cases h
 | some fn=>
  rw [hfn] at h
  simp only at h ⊢
  cases hc:fn.body with
  | none=>rw [hc] at h;cases h
  | some c=>
   rw [hc] at h
   simp only at h ⊢
   split at h
   ·rename_i hl
    rw [if_pos hl]
    cases hr:(Q.ann f).raw with
    | true=>rw [hr] at h;exact end_mono (fun q hq=>he _ _ _ _ hq) h
    | false=>rw [hr] at h;exact end_mono (fun q hq=>he _ _ _ _ hq) h
   ·cases h
theorem frame_mono {ev ev':EvTD} (he:EvLe ev ev') {f:FuncId} {args:List DV} {base:Nat} {D:DH} {r:DV×DH} (h:frameD Q ev f args base D=some r):frameD Q ev' f args base D=some r:=by
 unfold frameD at h ⊢
 cases ht:Q.tv f with
 | true=>rw [ht] at h;exact h
 | false=>rw [ht] at h;exact frameB_mono he h
theorem ev_mono {sub sub':SubD} {ev ev':EvTD} (hs:SubLe sub sub') (he:EvLe ev ev') {K:KD}:∀ (c:Code) (w:Nat) (s:SD) (r:BX×SD),evD Q sub ev K w c s=some r→evD Q sub' ev' K w c s=some r:=by
 intro c
 induction c with
 | region id ops dr=>
  intro w s r h
  cases dr with
  | false=>
   simp only [evD] at h ⊢
   cases hg:ghAt K id s with
   | none=>rw [hg] at h;cases h
   | some s1=>
    rw [hg] at h
    simp only at h ⊢
    cases ho:evOpsD Q.P sub (roundD ev) K.base K.nt ops.toList ops.toList s1.tm s1.D with
    | none=>rw [ho] at h;simp [outD] at h
    | some q=>rw [ho] at h;rw [ops_mono hs (round_mono he) ho];exact h
  | true=>
   simp only [evD] at h ⊢
   cases hg:ghAt K id s with
   | none=>rw [hg] at h;cases h
   | some s1=>
    rw [hg] at h
    simp only at h ⊢
    cases hro:K.ro with
    | some l=>rw [hro] at h;cases h
    | none=>
     rw [hro] at h
     simp only [drawR] at h ⊢
     cases hfp:findN id K.an.pl with
     | none=>rw [hfp] at h;cases h
     | some q=>
      obtain ⟨pl,b⟩:=q
      rw [hfp] at h
      simp only at h ⊢
      cases hgp:goodPlan ops.toList pl b with
      | false=>rw [hgp] at h;cases h
      | true=>
       rw [hgp] at h
       simp only at h ⊢
       cases ho:drawD Q sub K.base K.nt ops.toList pl s1.tm s1.D [] with
       | none=>rw [ho] at h;simp [outD] at h
       | some q=>rw [ho] at h;rw [draw_mono hs ho];exact h
 | seq a b iha ihb=>
  intro w s r h
  simp only [evD] at h ⊢
  cases ha:evD Q sub ev K w a s with
  | none=>rw [ha] at h;simp [thenD] at h
  | some q=>
   rw [ha] at h
   rw [iha w s q ha]
   obtain ⟨x,s1⟩:=q
   cases x with
   | nrm=>exact ihb w s1 r h
   | ret=>exact h
   | exit id=>exact h
 | cond y a b iha ihb=>
  intro w s r h
  simp only [evD] at h ⊢
  unfold condD at h ⊢
  split at h
  ·exact iha w s r h
  ·exact ihb w s r h
  ·cases h
 | block id b ih=>
  intro w s r h
  simp only [evD] at h ⊢
  cases hb:evD Q sub ev K id b s with
  | none=>rw [hb] at h;simp [blockD] at h
  | some q=>rw [hb] at h;rw [ih id s q hb];exact h
 | loop b ih=>
  intro w s r h
  simp only [evD] at h ⊢
  exact loop_mono (fun s r hr=>ih w s r hr) h
 | rangeFunc f ps asg body _ _=>
  intro w s r h
  simp only [evD] at h ⊢
  unfold rangeD at h ⊢
  split at h
  ·split at h
   ·rename_i g a b _ _ _
    cases hf:frameB Q ev g (a++[.yl s.D.length]++b) K.base (s.D++[.loop .ready none K s.tm ps asg body]) with
    | none=>rw [hf] at h;simp [rangeEndD] at h
    | some q=>rw [hf] at h;rw [frameB_mono he hf];exact h
   ·cases h
  ·cases h
 | skip=>intro w s r h;exact h
 | exit id=>intro w s r h;exact h
 | label l=>intro w s r h;exact h
 | ret=>intro w s r h;exact h
 | _=>intro w s r h;simp [evD] at h
def orEv (a b:EvTD):EvTD:=fun K c s=>match a K c s with
 | some r=>some r
 | none=>b K c s
def orSubD (a b:SubD):SubD:=fun f x n D=>match a f x n D with
 | some r=>some r
 | none=>b f x n D
theorem orEv_l {a b:EvTD}:EvLe a (orEv a b):=fun K c s r h=>by unfold orEv;rw [h]
theorem orSub_l {a b:SubD}:SubLe a (orSubD a b):=fun f x n D r h=>by unfold orSubD;rw [h]
theorem orEv_r {a b:EvTD} (h:∀ K c s r r',a K c s=some r→b K c s=some r'→r=r'):EvLe b (orEv a b):=fun K c s r hb=>by
 unfold orEv
 cases ha:a K c s with
 | none=>exact hb
 | some q=>rw [h _ _ _ _ _ ha hb]
theorem orSub_r {a b:SubD} (h:∀ f x n D r r',a f x n D=some r→b f x n D=some r'→r=r'):SubLe b (orSubD a b):=fun f x n D r hb=>by
 unfold orSubD
 cases ha:a f x n D with
 | none=>exact hb
 | some q=>rw [h _ _ _ _ _ _ ha hb]
theorem run_det {f:FuncId} {args:List DV} {base:Nat} {D:DH} {r:DV×DH} (h:RunD Q f args base D r):∀ r',RunD Q f args base D r'→r=r':=
 RunD.rec (motive_1:=fun f args base D r _=>∀ r',RunD Q f args base D r'→r=r') (motive_2:=fun K c s r _=>∀ r',EvD Q K c s r'→r=r')
  (fun prev hp h ih r' h'=>by
   cases h' with
   | mk prev' hp' h''=>
    have a:=frame_mono (ev':=orEv prev prev') orEv_l h
    have b:=frame_mono (ev':=orEv prev prev') (orEv_r (fun K c s r r' h1 h2=>ih K c s r h1 r' (hp' _ _ _ _ h2))) h''
    exact Option.some.inj (a.symm.trans b))
  (fun {K c s r} sub prev ha hs hp h ihs ihp r' h'=>by
   cases h' with
   | mk sub' prev' ha' hs' hp' h''=>
    have a:=ev_mono (sub':=orSubD sub sub') (ev':=orEv prev prev') orSub_l orEv_l c 0 s r h
    have b:=ev_mono (sub':=orSubD sub sub') (ev':=orEv prev prev') (orSub_r (fun f x n D r r' h1 h2=>ihs f x n D r h1 r' (hs' _ _ _ _ _ h2))) (orEv_r (fun K c s r r' h1 h2=>ihp K c s r h1 r' (hp' _ _ _ _ h2))) c 0 s r' h''
    exact Option.some.inj (a.symm.trans b)) h
theorem ev_det {K:KD} {c:Code} {s:SD} {r:BX×SD} (h:EvD Q K c s r):∀ r',EvD Q K c s r'→r=r':=by
 intro r' h'
 cases h with
 | mk sub prev ha hs hp h1=>
  cases h' with
  | mk sub' prev' ha' hs' hp' h2=>
   have key:∀ (n:Nat),True:=fun _=>trivial
   have hpd:∀ K c s r r',EvD Q K c s r→EvD Q K c s r'→r=r':=fun K c s r r' a b=>
    EvD.rec (motive_1:=fun f args base D r _=>∀ r',RunD Q f args base D r'→r=r') (motive_2:=fun K c s r _=>∀ r',EvD Q K c s r'→r=r')
     (fun prev hp h ih r' h'=>run_det (.mk prev hp h) r' h')
     (fun {K c s r} sub prev ha hs hp h ihs ihp r' h'=>by
      cases h' with
      | mk sub' prev' ha' hs' hp' h''=>
       have a:=ev_mono (sub':=orSubD sub sub') (ev':=orEv prev prev') orSub_l orEv_l c 0 s r h
       have b:=ev_mono (sub':=orSubD sub sub') (ev':=orEv prev prev') (orSub_r (fun f x n D r r' h1 h2=>ihs f x n D r h1 r' (hs' _ _ _ _ _ h2))) (orEv_r (fun K c s r r' h1 h2=>ihp K c s r h1 r' (hp' _ _ _ _ h2))) c 0 s r' h''
       exact Option.some.inj (a.symm.trans b)) a r' b
   exact hpd K c s r r' (.mk sub prev ha hs hp h1) (.mk sub' prev' ha' hs' hp' h2)
open Classical in
def callD (Q:Par):SubD:=fun f args base D=>if h:∃ r,RunD Q f args base D r then some h.choose else none
open Classical in
def evalC (Q:Par):EvTD:=fun K c s=>if h:∃ r,EvD Q K c s r then some h.choose else none
theorem callD_run {f:FuncId} {args:List DV} {base:Nat} {D:DH} {r:DV×DH}:callD Q f args base D=some r↔RunD Q f args base D r:=by
 constructor
 ·intro h
  unfold callD at h
  split at h
  ·rename_i he
   simp only [Option.some.injEq] at h
   rw [← h];exact he.choose_spec
  ·cases h
 ·intro h
  have he:∃ r,RunD Q f args base D r:=⟨r,h⟩
  unfold callD
  rw [dif_pos he]
  exact congrArg some (run_det he.choose_spec r h)
theorem evalC_run {K:KD} {c:Code} {s:SD} {r:BX×SD}:evalC Q K c s=some r↔EvD Q K c s r:=by
 constructor
 ·intro h
  unfold evalC at h
  split at h
  ·rename_i he
   simp only [Option.some.injEq] at h
   rw [← h];exact he.choose_spec
  ·cases h
 ·intro h
  have he:∃ r,EvD Q K c s r:=⟨r,h⟩
  unfold evalC
  rw [dif_pos he]
  exact congrArg some (ev_det he.choose_spec r h)
theorem evalC_eq {K:KD} {c:Code} {s:SD} (ha:K.an=Q.ann K.fn):evalC Q K c s=evD Q (callD Q) (evalC Q) K 0 c s:=by
 cases h:evD Q (callD Q) (evalC Q) K 0 c s with
 | some r=>exact evalC_run.2 (.mk _ _ ha (fun f a b D r h=>callD_run.1 h) (fun K c s r h=>evalC_run.1 h) h)
 | none=>
  cases h':evalC Q K c s with
  | none=>rfl
  | some r=>
   obtain ⟨sub,prev,_,hs,hp,h2⟩:=evalC_run.1 h'
   have:=ev_mono (sub':=callD Q) (ev':=evalC Q) (fun f a b D r h=>callD_run.2 (hs _ _ _ _ _ h)) (fun K c s r h=>evalC_run.2 (hp _ _ _ _ h)) c 0 s r h2
   rw [h] at this;cases this
theorem callD_eq {f:FuncId} {args:List DV} {base:Nat} {D:DH}:callD Q f args base D=frameD Q (evalC Q) f args base D:=by
 cases h:frameD Q (evalC Q) f args base D with
 | some r=>exact callD_run.2 (.mk _ (fun K c s r h=>evalC_run.1 h) h)
 | none=>
  cases h':callD Q f args base D with
  | none=>rfl
  | some r=>
   obtain ⟨prev,hp,h2⟩:=callD_run.1 h'
   have:=frame_mono (ev':=evalC Q) (fun K c s r h=>evalC_run.2 (hp _ _ _ _ h)) h2
   rw [h] at this;cases this
theorem callD_B {f:FuncId} {args:List DV} {base:Nat} {D:DH} (h:Q.tv f=false):callD Q f args base D=frameB Q (evalC Q) f args base D:=by
 rw [callD_eq]
 unfold frameD
 rw [h]
theorem call_told {f:FuncId} {base:Nat} {D:DH} (h:Q.tv f=true):callD Q f [] base D=some (rv (.bool true),D):=by
 rw [callD_eq]
 unfold frameD
 rw [h];rfl
theorem call_pure {f:FuncId} {fn:Func} {c:Code} {an:Ann} {args:List DV} {base:Nat} {D:DH} (hf:Q.P.funcs[f]? =some fn) (hb:fn.body=some c) (ha:Q.ann f=an) (hr:an.raw=false) (hl:args.length≤fn.ntmps) (htv:Q.tv f=false) :
  callD Q f args base D=endD Q.P fn false D.length (evD Q (callD Q) (evalC Q) ⟨f,fn.ntmps,none,D.length,an⟩ 0 c ⟨putLD .leaf 0 (args.map normA),D⟩):=by
 subst ha
 rw [callD_eq]
 unfold frameD
 rw [htv]
 unfold frameB
 simp only [hf,hb,if_pos hl,hr]
 rw [evalC_eq rfl]
theorem call_raw {f:FuncId} {fn:Func} {c:Code} {an:Ann} {args:List DV} {base:Nat} {D:DH} (hf:Q.P.funcs[f]? =some fn) (hb:fn.body=some c) (ha:Q.ann f=an) (hr:an.raw=true) (hl:args.length≤fn.ntmps) (htv:Q.tv f=false) :
  callD Q f args base D=endD Q.P fn true base (evD Q (callD Q) (evalC Q) ⟨f,fn.ntmps,none,base,an⟩ 0 c ⟨putLD .leaf 0 args,D⟩):=by
 subst ha
 rw [callD_eq]
 unfold frameD
 rw [htv]
 unfold frameB
 simp only [hf,hb,if_pos hl,hr]
 rw [evalC_eq rfl]
/-! ### loops -/
theorem loopD_eq {h:SD→Option SD} {F:SD→Option (BX×SD)} {s s1:SD} (hs:h s=some s1):loopD h F s=match F s1 with
  | some (.nrm,s')=>loopD h F s'
  | r=>r:=by
 have det:∀ s n m r r',lpD h F n s=some r→lpD h F m s=some r'→r=r':=fun s n m r r'=>lp_det
 cases hF:F s1 with
 | none=>
  simp only
  unfold loopD limD
  rw [dif_neg]
  rintro ⟨n,r,hn⟩
  cases n with
  | zero=>simp [lpD] at hn
  | succ n=>simp [lpD,hs,hF] at hn
 | some q=>
  obtain ⟨x,s'⟩:=q
  cases x with
  | nrm=>
   simp only
   cases hr:loopD h F s' with
   | some r=>
    obtain ⟨n,hn⟩:=lim_some hr
    exact lim_of (det s) (n:=n+1) (by simp [lpD,hs,hF,hn])
   | none=>
    cases hr':loopD h F s with
    | none=>rfl
    | some r=>
     obtain ⟨n,hn⟩:=lim_some hr'
     cases n with
     | zero=>simp [lpD] at hn
     | succ n=>
      simp only [lpD,hs,hF] at hn
      have:loopD h F s'=some r:=lim_of (det s') hn
      rw [hr] at this;cases this
  | ret=>exact lim_of (det s) (n:=1) (by simp [lpD,hs,hF])
  | exit id=>exact lim_of (det s) (n:=1) (by simp [lpD,hs,hF])
end Go.Dv
namespace Go.Dv
open Go Go.Sim
section
variable (P:Program) (sub yld:SubD) (base nt:Nat) (all rest:List Oper) (tm:Trie DV)
def opR (dst:Option Tmp):Option (DV×DH)→Option (Trie DV×DH)
 | some (d,D)=>evOpsD P sub yld base nt all rest (putD tm nt dst d) D
 | none=>none
def gdR (dst:Option Tmp) (op:Op) (D:DH):Option Bool→Option (Trie DV×DH)
 | some true=>opR P sub yld base nt all rest tm dst (evOpD sub yld base D (dop P base tm D op))
 | some false=>evOpsD P sub yld base nt all rest (putD tm nt dst (rv undef)) D
 | none=>none
variable (Q:Par) (pl:List PI) (cl:List (Nat×Option Nat)) (prev:EvTD) (K:KD) (w:Nat)
def drR (dst:Option Tmp):Option (DV×DH)→Option (Trie DV×DH)
 | some (d,D)=>drawD Q sub base nt all pl (putD tm nt dst d) D cl
 | none=>none
def drG (i:Nat) (dst:Option Tmp) (op:Op) (D:DH):Option Bool→Option (Trie DV×DH)
 | some true=>drR sub base nt all tm Q pl (clNext Q (effB Q base tm D op) tm i op cl) dst (evOpD sub noYld (effB Q base tm D op) D (dop Q.P base tm D op))
 | some false=>drawD Q sub base nt all pl (putD tm nt dst (rv undef)) D cl
 | none=>none
def drO (i:Nat) (D:DH):Option Oper→Option (Trie DV×DH)
 | some o=>drG sub base nt all tm Q pl cl i o.dst o.op D (wantD all tm o.guard)
 | none=>none
def drA (D:DH):Bool→Option (Trie DV×DH)
 | true=>drawD Q sub base nt all pl tm D cl
 | false=>none
def agO (D:DH) (i:Nat):Option Oper→Bool
 | some o=>match wantD all tm o.guard with
  | some true=>hasD i cl&&(match o.dst with
   | some d=>decide (d<nt)&&((tm.get d).map (eqD D)).getD false
   | none=>false)
  | some false=>true
  | none=>false
 | none=>false
def ghR (ops:List Oper):Option SD→Option (BX×SD)
 | some s=>outD (evOpsD Q.P sub (roundD prev) K.base K.nt ops ops s.tm s.D)
 | none=>none
def ghD (ops:List Oper) (pl:Option (List PI×List Nat)):Option SD→Option (BX×SD)
 | some s=>drawR Q sub K.base K.nt ops pl s
 | none=>none
end
variable {P:Program} {sub yld:SubD} {base nt:Nat} {all rest:List Oper} {tm:Trie DV} {Q:Par} {pl:List PI} {cl:List (Nat×Option Nat)} {prev:EvTD} {K:KD} {w:Nat} {D:DH} {s:SD}
theorem eo_nil:evOpsD P sub yld base nt all [] tm D=some (tm,D):=rfl
theorem eo_cons {dst:Option Tmp} {op:Op} {ty:TypeId} {pos:String} {aft:Array Edge}:evOpsD P sub yld base nt all (⟨dst,op,ty,pos,aft,none⟩::rest) tm D=opR P sub yld base nt all rest tm dst (evOpD sub yld base D (dop P base tm D op)):=by
 show (match evOpD sub yld base D (dop P base tm D op) with
  | some (d,D')=>evOpsD P sub yld base nt all rest (putD tm nt dst d) D'
  | none=>none)=_
 cases evOpD sub yld base D (dop P base tm D op) with
 | none=>rfl
 | some q=>rfl
theorem eo_guard {dst:Option Tmp} {op:Op} {ty:TypeId} {pos:String} {aft:Array Edge} {g:Nat×Bool}:evOpsD P sub yld base nt all (⟨dst,op,ty,pos,aft,some g⟩::rest) tm D=gdR P sub yld base nt all rest tm dst op D (wantD all tm (some g)):=by
 simp only [evOpsD]
 cases wantD all tm (some g) with
 | none=>rfl
 | some b=>
  cases b with
  | false=>rfl
  | true=>
   show (match evOpD sub yld base D (dop P base tm D op) with
    | some (d,D')=>evOpsD P sub yld base nt all rest (putD tm nt dst d) D'
    | none=>none)=opR P sub yld base nt all rest tm dst (evOpD sub yld base D (dop P base tm D op))
   cases evOpD sub yld base D (dop P base tm D op) with
   | none=>rfl
   | some q=>rfl
theorem opR_some {dst:Option Tmp} {d:DV} {D':DH}:opR P sub yld base nt all rest tm dst (some (d,D'))=evOpsD P sub yld base nt all rest (putD tm nt dst d) D':=rfl
theorem gdR_true {dst:Option Tmp} {op:Op}:gdR P sub yld base nt all rest tm dst op D (some true)=opR P sub yld base nt all rest tm dst (evOpD sub yld base D (dop P base tm D op)):=rfl
theorem gdR_false {dst:Option Tmp} {op:Op}:gdR P sub yld base nt all rest tm dst op D (some false)=evOpsD P sub yld base nt all rest (putD tm nt dst (rv undef)) D:=rfl
theorem dr_nil:drawD Q sub base nt all [] tm D cl=some (tm,D):=rfl
theorem dr_run {i:Nat}:drawD Q sub base nt all (.run i::pl) tm D cl=drO sub base nt all tm Q pl cl i D all[i]?:=by
 simp only [drawD]
 cases all[i]? with
 | none=>rfl
 | some o=>
  simp only [drO]
  cases wantD all tm o.guard with
  | none=>rfl
  | some b=>
   cases b with
   | false=>rfl
   | true=>
    simp only [drG]
    cases evOpD sub noYld (effB Q base tm D o.op) D (dop Q.P base tm D o.op) with
    | none=>rfl
    | some q=>rfl
theorem drO_some {i:Nat} {o:Oper}:drO sub base nt all tm Q pl cl i D (some o)=drG sub base nt all tm Q pl cl i o.dst o.op D (wantD all tm o.guard):=rfl
theorem drG_true {i:Nat} {dst:Option Tmp} {op:Op}:drG sub base nt all tm Q pl cl i dst op D (some true)=drR sub base nt all tm Q pl (clNext Q (effB Q base tm D op) tm i op cl) dst (evOpD sub noYld (effB Q base tm D op) D (dop Q.P base tm D op)):=rfl
theorem drG_false {i:Nat} {dst:Option Tmp} {op:Op}:drG sub base nt all tm Q pl cl i dst op D (some false)=drawD Q sub base nt all pl (putD tm nt dst (rv undef)) D cl:=rfl
theorem drR_some {dst:Option Tmp} {d:DV} {D':DH}:drR sub base nt all tm Q pl cl dst (some (d,D'))=drawD Q sub base nt all pl (putD tm nt dst d) D' cl:=rfl
theorem dr_again {i:Nat}:drawD Q sub base nt all (.again i::pl) tm D cl=drA sub base nt all tm Q pl cl D (agO nt all tm cl D i all[i]?):=by
 have he:agO nt all tm cl D i all[i]? =againD D all tm nt i cl:=by
  unfold againD
  cases all[i]? with
  | none=>rfl
  | some o=>
   show agO nt all tm cl D i (some o)=_
   unfold agO
   cases wantD all tm o.guard with
   | none=>rfl
   | some b=>cases b<;>(cases o.dst<;>rfl)
 rw [he]
 simp only [drawD]
 cases againD D all tm nt i cl<;>rfl
theorem drA_true:drA sub base nt all tm Q pl cl D true=drawD Q sub base nt all pl tm D cl:=rfl
theorem ev_skip:evD Q sub prev K w .skip s=some (.nrm,s):=rfl
theorem ev_ret:evD Q sub prev K w .ret s=some (.ret,s):=rfl
theorem ev_exit {id:Nat}:evD Q sub prev K w (.exit id) s=some (.exit id,s):=rfl
theorem ev_label {l:Nat}:evD Q sub prev K w (.label l) s=some (.nrm,s):=rfl
theorem ev_region {id:Nat} {ops:Array Oper}:evD Q sub prev K w (.region id ops false) s=ghR sub Q prev K ops.toList (ghAt K id s):=by
 simp only [evD]
 cases ghAt K id s<;>rfl
theorem ghR_some:ghR sub Q prev K all (some s)=outD (evOpsD Q.P sub (roundD prev) K.base K.nt all all s.tm s.D):=rfl
theorem ev_draw {id:Nat} {ops:Array Oper} {f nt base:Nat} {an:Ann}:evD Q sub prev ⟨f,nt,none,base,an⟩ w (.region id ops true) s=ghD sub Q ⟨f,nt,none,base,an⟩ ops.toList (findN id an.pl) (ghAt ⟨f,nt,none,base,an⟩ id s):=by
 simp only [evD]
 cases ghAt ⟨f,nt,none,base,an⟩ id s<;>rfl
theorem ghD_some {pl:List PI} {b:List Nat} (hg:goodPlan all pl b=true):ghD sub Q K all (some (pl,b)) (some s)=outD (drawD Q sub K.base K.nt all pl s.tm s.D []):=by
 simp only [ghD,drawR,hg]
theorem ev_seq {a b:Code}:evD Q sub prev K w (.seq a b) s=thenD (evD Q sub prev K w b) (evD Q sub prev K w a s):=rfl
theorem ev_cond {x:Operand} {a b:Code}:evD Q sub prev K w (.cond x a b) s=condD (evD Q sub prev K w a) (evD Q sub prev K w b) s (evalD s.tm x):=rfl
theorem ev_block {id:Nat} {b:Code}:evD Q sub prev K w (.block id b) s=blockD id (evD Q sub prev K id b s):=rfl
theorem ev_range {f:Operand} {ps:Array Tmp} {a b:Code}:evD Q sub prev K w (.rangeFunc f ps a b) s=rangeD Q prev K f ps a b s:=rfl
theorem thenD_nrm {f:SD→Option (BX×SD)}:thenD f (some (.nrm,s))=f s:=rfl
theorem thenD_ret {f:SD→Option (BX×SD)}:thenD f (some (.ret,s))=some (.ret,s):=rfl
theorem thenD_exit {f:SD→Option (BX×SD)} {i:Nat}:thenD f (some (.exit i,s))=some (.exit i,s):=rfl
theorem blockD_nrm {i:Nat}:blockD i (some (.nrm,s))=some (.nrm,s):=rfl
theorem blockD_ret {i:Nat}:blockD i (some (.ret,s))=some (.ret,s):=rfl
theorem blockD_exit {i:Nat}:blockD i (some (.exit i,s))=some (.nrm,s):=by simp [blockD]
theorem outD_some:outD (some (tm,D))=some (.nrm,⟨tm,D⟩):=rfl
theorem putD_none {v:DV}:putD tm nt none v=tm:=rfl
theorem eop_val {d:DV} {D':DH}:evOpD sub yld base D (some (.val d D'))=some (d,D'):=rfl
theorem eop_enter {g:FuncId} {l:List DV}:evOpD sub yld base D (some (.enter g l))=sub g l base D:=rfl
theorem eop_yield {l:Nat} {as:List DV}:evOpD sub yld base D (some (.yield l as))=yld l as base D:=rfl
theorem valD_some {d:DV}:valD D (some d)=some (.val d D):=rfl
theorem ed_tmp (t:Nat):evalD tm (.tmp t)=tm.get t:=rfl
theorem ed_int (k:IntKind) (n:Int):evalD tm (.const (.int k n))=some (rv (.int k n)):=rfl
theorem ed_bool (b:Bool):evalD tm (.const (.bool b))=some (rv (.bool b)):=rfl
theorem ed_str (b:ByteArray):evalD tm (.const (.string b))=some (rv (.string b)):=rfl
theorem ed_nil:evalD tm (.const (.slice none 0 0))=some nilS:=rfl
theorem ed_nilP:evalD tm (.const (.pointer none))=some (rv (.pointer none)):=rfl
theorem ed_nilM:evalD tm (.const (.map none))=some (rv (.map none)):=rfl
theorem ed_nilF:evalD tm (.const .nilFunc)=some (rv .nilFunc):=rfl
theorem ed_func (f:Nat):evalD tm (.func f)=some (.fn f [] []):=rfl
theorem eds_nil:evalsD tm []=some []:=rfl
theorem eds_cons {x:Operand} {l:List Operand}:evalsD tm (x::l)=(match evalD tm x with
  | some d=>(evalsD tm l).map (d::·)
  | none=>none):=rfl
/-! ### lists of objects -/
theorem app_get0 {A B:DH}:(A++B)[A.length]? =B[0]?:=by rw [List.getElem?_append_right (Nat.le_refl _),Nat.sub_self]
theorem app_get {A B:DH} {k:Nat}:(A++B)[A.length+k]? =B[k]?:=by rw [List.getElem?_append_right (Nat.le_add_right _ _),Nat.add_sub_cancel_left]
theorem app_set0 {A B:DH} {x:DObj}:(A++B).set A.length x=A++B.set 0 x:=by rw [List.set_append_right _ _ (Nat.le_refl _),Nat.sub_self]
theorem app_set {A B:DH} {k:Nat} {x:DObj}:(A++B).set (A.length+k) x=A++B.set k x:=by rw [List.set_append_right _ _ (Nat.le_add_right _ _),Nat.add_sub_cancel_left]
theorem app_take0 {A B:DH}:(A++B).take A.length=A:=by simp
theorem app_take {A B:DH} {k:Nat}:(A++B).take (A.length+k)=A++B.take k:=by rw [List.take_append,Nat.add_sub_cancel_left,List.take_of_length_le (Nat.le_add_right _ _)]
theorem app_drop0 {A B:DH}:(A++B).drop A.length=B:=by simp
/-! ### numbers -/
theorem ltI_dec (a b:Int):ltI a b=decide (a<b):=by
 cases a with
 | ofNat m=>cases b with
  | ofNat n=>simp only [ltI,Nat.blt_eq];rw [Bool.eq_iff_iff];simp
  | negSucc n=>simp [ltI];omega
 | negSucc m=>cases b with
  | ofNat n=>simp [ltI];omega
  | negSucc n=>simp only [ltI];rw [Bool.eq_iff_iff];simp;omega
theorem eqI_dec (a b:Int):eqI a b=decide (a=b):=by
 rw [eqI_eq];rw [Bool.eq_iff_iff];simp
section
variable {t:TypeId} {x y:Operand} {a b:Int}
theorem b_lss:binA P .lss t x y (.int .i64 a) (.int .i64 b)=some (.bool (decide (a<b))):=by rw [← ltI_dec];rfl
theorem b_gtr:binA P .gtr t x y (.int .i64 a) (.int .i64 b)=some (.bool (decide (b<a))):=by rw [← ltI_dec];rfl
theorem b_leq:binA P .leq t x y (.int .i64 a) (.int .i64 b)=some (.bool (decide (a≤b))):=by
 show some (Value.bool !(ltI b a))=_
 rw [ltI_dec];congr 2;rw [← decide_not];congr 1;simp
theorem b_geq:binA P .geq t x y (.int .i64 a) (.int .i64 b)=some (.bool (decide (b≤a))):=by
 show some (Value.bool !(ltI a b))=_
 rw [ltI_dec];congr 2;rw [← decide_not];congr 1;simp
theorem b_eql:binA P .eql t x y (.int .i64 a) (.int .i64 b)=some (.bool (decide (a=b))):=by rw [← eqI_dec];rfl
theorem b_neq:binA P .neq t x y (.int .i64 a) (.int .i64 b)=some (.bool (decide (a≠b))):=by
 show some (Value.bool !(eqI a b))=_
 rw [eqI_dec,decide_not]
theorem b_add:binA P .add t x y (.int .i64 a) (.int .i64 b)=some (.int .i64 (wrapF .i64 (a+b))):=rfl
theorem b_sub:binA P .sub t x y (.int .i64 a) (.int .i64 b)=some (.int .i64 (wrapF .i64 (a-b))):=rfl
theorem b_mul:binA P .mul t x y (.int .i64 a) (.int .i64 b)=some (.int .i64 (wrapF .i64 (a*b))):=rfl
theorem u_not {c:Bool}:unA P .not (.bool c)=some (.bool !c):=rfl
theorem wrap_in {n:Int} (h1:-9223372036854775808≤n) (h2:n≤9223372036854775807):wrapF .i64 n=n:=by
 cases n with
 | ofNat m=>
  have h:Nat.ble m 9223372036854775807=true:=by
   rw [Nat.ble_eq]
   have:(m:Int)≤9223372036854775807:=h2
   omega
  show (match Nat.ble m 9223372036854775807 with
   | true=>Int.ofNat m
   | false=>IntKind.i64.wrap (Int.ofNat m))=_
  rw [h]
 | negSucc m=>
  have h:Nat.ble m 9223372036854775807=true:=by
   rw [Nat.ble_eq]
   have:-9223372036854775808≤Int.negSucc m:=h1
   omega
  show (match Nat.ble m 9223372036854775807 with
   | true=>Int.negSucc m
   | false=>IntKind.i64.wrap (Int.negSucc m))=_
  rw [h]
end
theorem toV_raw {v:Value}:toV (.f (.raw v))=some v:=rfl
theorem ofV_int {k:IntKind} {n:Int}:ofV (.int k n)=rv (.int k n):=rfl
theorem ofV_bool {b:Bool}:ofV (.bool b)=rv (.bool b):=rfl
theorem ofV_str {b:ByteArray}:ofV (.string b)=rv (.string b):=rfl
theorem natR_nat {k:IntKind} {n:Nat}:natR (.f (.raw (.int k (n:Int))))=some n:=rfl
theorem natI_nat {n:Nat}:natI64 (.f (.raw (.int .i64 (n:Int))))=some n:=rfl
end Go.Dv
namespace Go.Dv
open Go Go.Sim
variable {P:Program} {sub yld:SubD} {base nt:Nat} {all rest:List Oper} {tm:Trie DV} {Q:Par} {pl:List PI} {cl:List (Nat×Option Nat)} {prev:EvTD} {K:KD} {w:Nat} {D:DH} {s:SD}
/-! ### loops -/
def loopG (h:SD→Option SD) (F:SD→Option (BX×SD)):Option SD→Option (BX×SD)
 | some s1=>match F s1 with
  | some (.nrm,s')=>loopD h F s'
  | r=>r
 | none=>none
theorem loopD_G {h:SD→Option SD} {F:SD→Option (BX×SD)} {s:SD}:loopD h F s=loopG h F (h s):=by
 cases hs:h s with
 | some s1=>exact loopD_eq hs
 | none=>
  show limD _=none
  unfold limD
  rw [dif_neg]
  rintro ⟨n,r,hr⟩
  cases n with
  | zero=>cases hr
  | succ n=>simp only [lpD,hs] at hr;cases hr
def loopN (h:SD→Option SD) (F:SD→Option (BX×SD)):Option (BX×SD)→Option (BX×SD)
 | some (.nrm,s')=>loopG h F (h s')
 | r=>r
theorem loopG_eq {h:SD→Option SD} {F:SD→Option (BX×SD)} {s1:SD}:loopG h F (some s1)=loopN h F (F s1):=by
 show (match F s1 with
  | some (.nrm,s')=>loopD h F s'
  | r=>r)=_
 cases F s1 with
 | none=>rfl
 | some q=>
  obtain ⟨x,s'⟩:=q
  cases x with
  | nrm=>exact loopD_G
  | ret=>rfl
  | exit id=>rfl
theorem loopN_nrm {h:SD→Option SD} {F:SD→Option (BX×SD)} {s':SD}:loopN h F (some (.nrm,s'))=loopG h F (h s'):=rfl
theorem loopN_ret {h:SD→Option SD} {F:SD→Option (BX×SD)} {s':SD}:loopN h F (some (.ret,s'))=some (.ret,s'):=rfl
theorem loopN_exit {h:SD→Option SD} {F:SD→Option (BX×SD)} {s':SD} {i:Nat}:loopN h F (some (.exit i,s'))=some (.exit i,s'):=rfl
theorem ev_loopG {b:Code}:evD Q sub prev K w (.loop b) s=loopG (headD ((findN w K.an.keep).getD []) K.an.long K.base s.D.length) (evD Q sub prev K w b) (headD ((findN w K.an.keep).getD []) K.an.long K.base s.D.length s):=loopD_G
def cnP (k:Nat) (o:Option DV) (t:Trie DV):Trie DV:=match o with
 | some d=>t.put k d
 | none=>t
theorem canon_nil:canon tm []=.leaf:=rfl
theorem canon_cons {k:Nat} {l:List Nat}:canon tm (k::l)=cnP k (tm.get k) (canon tm l):=rfl
theorem cnP_some {k:Nat} {d:DV} {t:Trie DV}:cnP k (some d) t=t.put k d:=rfl
theorem cnP_none {k:Nat} {t:Trie DV}:cnP k none t=t:=rfl
theorem get_leaf {k:Nat}:(Trie.leaf:Trie DV).get k=none:=rfl
def kpP (L:Nat) (o:Option DV) (b:Bool):Bool:=match o with
 | some d=>below L d&&b
 | none=>b
theorem keep_nil {L:Nat}:keepOK tm L []=true:=rfl
theorem keep_cons {L k:Nat} {l:List Nat}:keepOK tm L (k::l)=kpP L (tm.get k) (keepOK tm L l):=rfl
theorem kpP_some {L:Nat} {d:DV} {b:Bool}:kpP L (some d) b=(below L d&&b):=rfl
theorem kpP_none {L:Nat} {b:Bool}:kpP L none b=b:=rfl
theorem headD_f {keep:List Nat} {base L:Nat} {tm:Trie DV} {D:DH}:headD keep false base L ⟨tm,D⟩=if keepOK tm L keep=true∧objsOK base L D=true∧L≤D.length∧base≤L then some ⟨canon tm keep,D.take L⟩ else none:=rfl
theorem headD_t {keep:List Nat} {base L:Nat} {tm:Trie DV} {D:DH}:headD keep true base L ⟨tm,D⟩=some ⟨canon tm keep,D⟩:=rfl
theorem bl_f {L:Nat} {x:FV}:below L (.f x)=true:=by simp [below]
theorem bl_fp {L:Nat} {l:List FV}:below L (.fp l)=true:=by simp [below]
theorem bl_agg {L:Nat} {l:List DV}:below L (.agg l)=belows L l:=by simp [below]
theorem bl_tup {L:Nat} {l:List DV}:below L (.tup l)=belows L l:=by simp [below]
theorem bl_fn {L:Nat} {g:FuncId} {a b:List DV}:below L (.fn g a b)=(belows L a&&belows L b):=by simp [below]
theorem bl_yl {L o:Nat}:below L (.yl o)=decide (o<L):=by simp [below]
theorem bl_ref {L o i k:Nat}:below L (.ref o i k)=decide (o<L):=by simp [below]
theorem bl_rfa {L o n i k:Nat}:below L (.rfa o n i k)=decide (o<L):=by simp [below]
theorem bl_row {L o a b c:Nat}:below L (.row o a b c)=decide (o<L):=by simp [below]
theorem bl_apl {L o n:Nat}:below L (.apl o n)=decide (o<L):=by simp [below]
theorem bl_mp {L o:Nat}:below L (.mp o)=decide (o<L):=by simp [below]
theorem bls_nil {L:Nat}:belows L []=true:=by simp [belows]
theorem bls_cons {L:Nat} {d:DV} {l:List DV}:belows L (d::l)=(below L d&&belows L l):=by simp [belows]
theorem objsOK_self {L:Nat}:objsOK L L D=true:=by simp [objsOK]
theorem objsOK_app {X:DH} {k:Nat}:objsOK D.length (D.length+k) (D++X)=(X.take k).all (objBelow (D.length+k)):=by simp [objsOK]
theorem take_self:D.take D.length=D:=List.take_length
/-! ### regions that draw their order -/
def GP (all:List Oper) (pl:List PI) (b:List Nat):Prop:=goodPlan all pl b=true
theorem ghAt_none {id:Nat} {f nt base:Nat} {ro:Option Nat} {raw:Bool} {pl:List (Nat×(List PI×List Nat))} {keep:List (Nat×List Tmp)} {long:Bool}:ghAt ⟨f,nt,ro,base,⟨raw,[],pl,keep,long⟩⟩ id s=some s:=rfl
theorem putD_some {d:Nat} {v:DV}:putD tm nt (some d) v=if d<nt then tm.put d v else tm:=rfl
theorem cond_if {a b:SD→Option (BX×SD)} {c:Bool}:condD a b s (some (.f (.raw (.bool c))))=if c=true then a s else b s:=by cases c<;>rfl
theorem want_none:wantD all tm none=some true:=rfl
theorem want_some {j:Nat} {w:Bool}:wantD all tm (some (j,w))=gdO w tm all[j]?:=rfl
theorem gdO_some {w:Bool} {d:Nat} {op:Op} {ty:TypeId} {pos:String} {aft:Array Edge} {g:Option (Nat×Bool)}:gdO w tm (some ⟨some d,op,ty,pos,aft,g⟩)=gdV w (tm.get d):=rfl
theorem gdV_bool {w b:Bool}:gdV w (some (.f (.raw (.bool b))))=some (b==w):=rfl
theorem gdV_undef {w:Bool}:gdV w (some (.f (.raw undef)))=some false:=rfl
theorem ev_regionA {id:Nat} {l:List Oper}:evD Q sub prev K w (.region id l.toArray false) s=ghR sub Q prev K l (ghAt K id s):=ev_region
theorem ev_drawA {id:Nat} {l:List Oper} {f nt base:Nat} {an:Ann}:evD Q sub prev ⟨f,nt,none,base,an⟩ w (.region id l.toArray true) s=ghD sub Q ⟨f,nt,none,base,an⟩ l (findN id an.pl) (ghAt ⟨f,nt,none,base,an⟩ id s):=ev_draw
/-! ### operations -/
section
variable {x y a b c m k v i:Operand} {t e:TypeId} {n:Nat}
theorem o_move:dop P base tm D (.move x)=valD D (evalD tm x):=rfl
theorem o_assign:dop P base tm D (.assign x)=valD D (evalD tm x):=rfl
theorem o_pick:dop P base tm D (.pick c a b)=valD D (dPick tm a b (evalD tm c)):=rfl
theorem o_alloc:dop P base tm D (.alloc e)=dAlloc P D e:=rfl
theorem o_box:dop P base tm D (.box e x)=dBox D (evalD tm x):=rfl
theorem o_build {ps:Array (Nat×Operand)}:dop P base tm D (.build t ps)=valD D (dBuild (tBd P t) (partsD tm ps.toList)):=rfl
def bslR (D:DH) (len:Nat) (ps:Option (List (Nat×DV))):Option SlT→Option DRes
 | some T=>dBuildSlice D T len ps
 | none=>none
theorem o_buildSlice {ps:Array (Nat×Operand)}:dop P base tm D (.buildSlice t n ps)=bslR D n (partsD tm ps.toList) (tSl P t):=by
 show (match tSl P t with
  | some T=>dBuildSlice D T n (partsD tm ps.toList)
  | none=>none)=_
 cases tSl P t<;>rfl
def updR (P:Program) (D:DH) (base:Nat) (M:Option (TypeId×Option Value)):Option DV→Option DV→Option DV→Option DRes
 | some m,some k,some d=>hpD (rv undef) (dUpdate P D base M m (toV k) d)
 | _,_,_=>none
theorem o_mapUpdate:dop P base tm D (.mapUpdate t m k v)=updR P D base (tMap P t) (evalD tm m) (evalD tm k) (evalD tm v):=by
 simp only [dop]
 cases evalD tm m<;>cases evalD tm k<;>cases evalD tm v<;>rfl
theorem o_insert:dop P base tm D (.insert t m k v)=updR P D base (tMap P t) (evalD tm m) (evalD tm k) (evalD tm v):=by
 simp only [dop]
 cases evalD tm m<;>cases evalD tm k<;>cases evalD tm v<;>rfl
def ldR (D:DH) (a:Option DV):Option (Option Nat)→Option DRes
 | some n=>valD D (a.bind (dLoad D n))
 | none=>none
theorem o_load:dop P base tm D (.load t a)=ldR D (evalD tm a) (tLd P t):=by
 simp only [dop]
 cases tLd P t<;>rfl
theorem o_store:dop P base tm D (.store t a x)=dStoreO D base (sizeT P t) (evalD tm a) (evalD tm x):=rfl
theorem o_nilCheck:dop P base tm D (.nilCheck x)=valD D ((evalD tm x).bind (dNil D)):=rfl
theorem o_bin {op:BinOp}:dop P base tm D (.binOp op t x y e)=valD D (dBin P op t x y (evalD tm x) (evalD tm y)):=rfl
theorem o_un {op:UnOp}:dop P base tm D (.unOp op t x)=valD D (dUn P op (evalD tm x)):=rfl
theorem o_conv:dop P base tm D (.convert t e x)=valD D ((evalD tm x).bind (dConv P D t e)):=rfl
theorem o_func {fn:Fn} {a b:Array Operand}:dop P base tm D (.makeFunc fn a b)=dFunc D fn (evalsD tm a.toList) (evalsD tm b.toList):=rfl
theorem o_makeMap:dop P base tm D (.makeMap t none)=some (.val (.mp D.length) (D++[.map [] []])):=rfl
theorem o_makeSlice:dop P base tm D (.makeSlice t a b)=dMkSl D (tSl P t) (evalD tm a) (evalD tm b):=rfl
theorem o_slice {lo hi mx:Option Operand}:dop P base tm D (.slice t x lo hi mx)=valD D (dSliceO P tm D t (evalD tm x) lo hi mx):=rfl
def faR (D:DH) (a:Option DV):Option (Nat×TypeId)→Option DRes
 | some (o,_)=>valD D (a.bind (dFieldA D o))
 | none=>none
theorem o_fieldAddr:dop P base tm D (.fieldAddr t x n)=faR D (evalD tm x) (tFld P t n):=by
 simp only [dop]
 cases tFld P t n with
 | none=>rfl
 | some q=>obtain ⟨o,u⟩:=q;rfl
def fldLd (P:Program) (t:TypeId) (f:Nat):Option (Nat×Option Nat):=match tFld P t f with
 | some (o,ft)=>(tLd P ft).map fun a=>(o,a)
 | none=>none
def fldR:Option (Nat×Option Nat)→Option DV→Option DV
 | some (o,a),some (.agg cs)=>partD cs o a
 | _,_=>none
theorem o_field:dop P base tm D (.field t x n)=valD D (fldR (fldLd P t n) (evalD tm x)):=by
 have h:dField P t n (evalD tm x)=fldR (fldLd P t n) (evalD tm x):=by
  unfold dField fldLd
  cases evalD tm x with
  | none=>
   cases tFld P t n with
   | none=>rfl
   | some q=>
    obtain ⟨o,u⟩:=q
    show none=fldR ((tLd P u).map fun a=>(o,a)) none
    cases tLd P u<;>rfl
  | some d=>
   cases tFld P t n with
   | none=>cases d<;>rfl
   | some q=>
    obtain ⟨o,u⟩:=q
    show _=fldR ((tLd P u).map fun a=>(o,a)) (some d)
    cases hl:tLd P u<;>cases d<;>first | rfl | simp [fldR,hl]
 show valD D (dField P t n (evalD tm x))=_
 rw [h]
theorem o_indexAddr:dop P base tm D (.indexAddr t x i)=valD D (dIxA P D t (evalD tm x) (evalD tm i)):=rfl
theorem o_index:dop P base tm D (.index t x i)=valD D (dIndex P t (evalD tm x) (evalD tm i)):=rfl
def lkR (P:Program) (D:DH) (M:Option (TypeId×Option Value)) (ok:Bool):Option DV→Option DV→Option DRes
 | some m,some k=>valD D (dLookup P D M m (toV k) ok)
 | _,_=>none
theorem o_lookup {ok:Bool}:dop P base tm D (.lookup t m k ok)=lkR P D (tMap P t) ok (evalD tm m) (evalD tm k):=by
 simp only [dop]
 cases evalD tm m<;>cases evalD tm k<;>rfl
theorem o_extract:dop P base tm D (.extract x n)=valD D ((evalD tm x).bind (dExtract n)):=rfl
def blR (P:Program) (D:DH) (base:Nat) (b:Builtin) (ats:List TypeId):Option (List DV)→Option DRes
 | some l=>dBuiltin P D base ats l b
 | none=>none
theorem o_builtin {bb:Builtin} {as:Array Operand} {ts:Array TypeId}:dop P base tm D (.call ⟨.builtin bb,as,ts⟩)=blR P D base bb ts.toList (evalsD tm as.toList):=by
 simp only [dop,dCall]
 cases evalsD tm as.toList<;>rfl
def ivR (D:DH):Option (List DV)→Option DV→Option DRes
 | some l,some f=>dInvoke D l f
 | _,_=>none
theorem o_call {as:Array Operand} {ts:Array TypeId}:dop P base tm D (.call ⟨.value x,as,ts⟩)=ivR D (evalsD tm as.toList) (evalD tm x):=by
 simp only [dop,dCall]
 cases evalsD tm as.toList<;>cases evalD tm x<;>rfl
end
theorem ivR_fn {l:List DV} {g:FuncId} {a b:List DV}:ivR D (some l) (some (.fn g a b))=some (.enter g (a++l++b)):=rfl
def edC (l:Option (List DV)):Option DV→Option (List DV)
 | some d=>l.map (d::·)
 | none=>none
theorem eds_c {x:Operand} {l:List Operand}:evalsD tm (x::l)=edC (evalsD tm l) (evalD tm x):=by
 rw [eds_cons];cases evalD tm x<;>rfl
theorem edC_some {l:List DV} {d:DV}:edC (some l) (some d)=some (d::l):=rfl
def pdC (i:Nat) (l:Option (List (Nat×DV))):Option DV→Option (List (Nat×DV))
 | some d=>l.map ((i,d)::·)
 | none=>none
theorem pd_nil:partsD tm []=some []:=rfl
theorem pd_c {i:Nat} {x:Operand} {l:List (Nat×Operand)}:partsD tm ((i,x)::l)=pdC i (partsD tm l) (evalD tm x):=by
 simp only [partsD];cases evalD tm x<;>rfl
theorem pdC_some {i:Nat} {l:List (Nat×DV)} {d:DV}:pdC i (some l) (some d)=some ((i,d)::l):=rfl
theorem ldR_some {a:Option DV} {n:Option Nat}:ldR D a (some n)=valD D (a.bind (dLoad D n)):=rfl
theorem faR_some {a:Option DV} {o:Nat} {t:TypeId}:faR D a (some (o,t))=valD D (a.bind (dFieldA D o)):=rfl
theorem blR_some {b:Builtin} {ts:List TypeId} {l:List DV}:blR P D base b ts (some l)=dBuiltin P D base ts l b:=rfl
theorem bslR_some {n:Nat} {ps:Option (List (Nat×DV))} {T:SlT}:bslR D n ps (some T)=dBuildSlice D T n ps:=rfl
theorem pick_t {a b:Operand}:dPick tm a b (some (.f (.raw (.bool true))))=evalD tm a:=rfl
theorem pick_f {a b:Operand}:dPick tm a b (some (.f (.raw (.bool false))))=evalD tm b:=rfl
theorem dBin_raw {op:BinOp} {t:TypeId} {x y:Operand} {u v:Value}:dBin P op t x y (some (.f (.raw u))) (some (.f (.raw v)))=(binA P op t x y u v).map ofV:=rfl
theorem dUn_raw {op:UnOp} {u:Value}:dUn P op (some (.f (.raw u)))=(unA P op u).map ofV:=rfl
def lnT (t:Option Nat) (x:DV) (D:DH):Option DRes:=valD D (dLen D x t)
theorem bl_len {t:TypeId} {x:DV}:dBuiltin P D base [t] [x] .len=valD D (dLen D x (tLen P t)):=rfl
theorem len_sl {x:DV}:dLen D x (some 3)=(lenV D x).map fun n=>rv (natV n):=rfl
theorem len_str {b:ByteArray}:dLen D (.f (.raw (.string b))) (some 0)=some (rv (natV b.size)):=rfl
theorem lenV_lst {l:List FV}:lenV D (.f (.lst l))=some l.length:=rfl
theorem lenV_nil:lenV D nilS=some 0:=rfl
def lenO (n:Nat):Option DObj→Option Nat
 | some (.arr _ _)=>some n
 | some (.app _ _ els)=>if els.length=n then some n else none
 | _=>none
def ixL (sz:Nat):Option FV→Option DV
 | some x=>if (cellsF x).length=sz then some (.fp (cellsF x)) else none
 | none=>none
def ixR (P:Program) (D:DH) (t:TypeId) (d:DV):Option Nat→Option DV
 | some n=>dIndexA D (tSl P t) (tArr P t) n d
 | none=>none
theorem ix_some {t:TypeId} {d:DV} {v:DV}:dIxA P D t (some d) (some v)=ixR P D t d (natR v):=by
 simp only [dIxA,Option.bind]
 cases natR v<;>rfl
theorem ixR_some {t:TypeId} {d:DV} {n:Nat}:ixR P D t d (some n)=dIndexA D (tSl P t) (tArr P t) n d:=rfl
theorem ia_lst {T:SlT} {A:Option (Nat×Nat×TypeId)} {n:Nat} {l:List FV}:dIndexA D (some T) A n (.f (.lst l))=ixL T.sz l[n]?:=by
 simp only [dIndexA]
 cases l[n]?<;>rfl
theorem ixL_some {sz:Nat} {x:FV}:ixL sz (some x)=if (cellsF x).length=sz then some (.fp (cellsF x)) else none:=rfl
theorem ld_fp {a:Option Nat} {l:List FV}:dLoad D a (.fp l)=partD (l.map .f) 0 a:=rfl
def ldO (i k:Nat) (a:Option Nat):Option DObj→Option DV
 | some (.arr _ els)=>ldEl els i k a
 | _=>none
theorem ld_ref {a:Option Nat} {o i k:Nat}:dLoad D a (.ref o i k)=ldO i k a D[o]?:=by
 simp only [dLoad]
 cases D[o]? with
 | none=>rfl
 | some x=>cases x<;>rfl
theorem ldO_arr {i k sz:Nat} {a:Option Nat} {els:List DV}:ldO i k a (some (.arr sz els))=ldEl els i k a:=rfl
def ldP (k:Nat) (a:Option Nat):Option DV→Option DV
 | some d=>partD (cellsD d) k a
 | none=>none
theorem ldEl_p {els:List DV} {i k:Nat} {a:Option Nat}:ldEl els i k a=ldP k a els[i]?:=by
 simp only [ldEl];cases els[i]?<;>rfl
theorem ldP_some {k:Nat} {a:Option Nat} {d:DV}:ldP k a (some d)=partD (cellsD d) k a:=rfl
theorem part_one {cs:List DV} {k:Nat}:partD cs k none=cs[k]?:=rfl
theorem part_many {cs:List DV} {k n:Nat}:partD cs k (some n)=if 0<n∧k+n≤cs.length then some (.agg ((cs.drop k).take n)) else none:=rfl
theorem fa_fp {o:Nat} {l:List FV}:dFieldA D o (.fp l)=if o≤l.length then some (.fp (l.drop o)) else none:=rfl
def faO (o i k off:Nat):Option DObj→Option DV
 | some (.arr _ _)=>some (.ref o i (k+off))
 | _=>none
theorem fa_ref {o i k off:Nat}:dFieldA D off (.ref o i k)=faO o i k off D[o]?:=by
 have h:isRef D (.ref o i k)=(match D[o]? with
  | some (.arr _ _)=>true
  | _=>false):=rfl
 simp only [dFieldA]
 rcases hD:D[o]? with _ | x
 ·rw [if_neg (by rw [h,hD];simp)];rfl
 ·cases x with
  | arr sz els=>rw [if_pos (by rw [h,hD])];rfl
  | _=>rw [if_neg (by rw [h,hD];simp)];rfl
theorem faO_arr {o i k off sz:Nat} {els:List DV}:faO o i k off (some (.arr sz els))=some (.ref o i (k+off)):=rfl
theorem dBox_some {d:DV}:dBox D (some d)=if okEl (cellsD d).length d=true then some (.val (.ref D.length 0 0) (D++[.arr (cellsD d).length [d]])) else none:=rfl
theorem okEl_eq {sz:Nat} {d:DV}:okEl sz d=(Nat.beq (cellsD d).length sz&&(cellsD d).all oneD):=rfl
theorem cD_agg {l:List DV}:cellsD (.agg l)=l:=rfl
theorem cD_f {x:FV}:cellsD (.f x)=[.f x]:=rfl
theorem cF_agg {l:List FV}:cellsF (.agg l)=l:=rfl
theorem cF_raw {v:Value}:cellsF (.raw v)=[.raw v]:=rfl
theorem cF_lst {l:List FV}:cellsF (.lst l)=[.lst l]:=rfl
theorem one_int {k:IntKind} {n:Int}:oneD (.f (.raw (.int k n)))=true:=rfl
theorem one_bool {b:Bool}:oneD (.f (.raw (.bool b)))=true:=rfl
theorem one_lst {l:List FV}:oneD (.f (.lst l))=true:=rfl
theorem natR_cast {k:IntKind} {n:Nat}:natR (.f (.raw (.int k (Int.ofNat n))))=some n:=rfl
theorem natV_eq {n:Nat}:natV n=.int .i64 (n:Int):=rfl
theorem wrap_succ {n:Nat} (h:n+1≤9223372036854775807):wrapF .i64 ((n:Int)+1)=((n+1:Nat):Int):=by
 rw [wrap_in (by omega) (by omega)];rfl
/-! ### calls -/
theorem normA_int {k:IntKind} {n:Int}:normA (.f (.raw (.int k n)))=.f (.raw (.int k n)):=rfl
theorem normA_bool {b:Bool}:normA (.f (.raw (.bool b)))=.f (.raw (.bool b)):=rfl
theorem normA_str {b:ByteArray}:normA (.f (.raw (.string b)))=.f (.raw (.string b)):=rfl
theorem normA_lst {l:List FV}:normA (.f (.lst l))=.f (.lst l):=rfl
theorem putL_nil {d:Nat}:putLD tm d []=tm:=rfl
theorem putL_cons {d:Nat} {v:DV} {l:List DV}:putLD tm d (v::l)=putLD (tm.put d v) (d+1) l:=rfl
def rsC (l:Option (List DV)):Option DV→Option (List DV)
 | some d=>l.map (d::·)
 | none=>none
theorem rs_nil:resultsD D P tm []=some []:=rfl
theorem rs_tmp {t:Nat} {l:List ResultVar}:resultsD D P tm (.tmp t::l)=rsC (resultsD D P tm l) (tm.get t):=by
 simp only [resultsD];cases tm.get t<;>rfl
theorem rsC_some {l:List DV} {d:DV}:rsC (some l) (some d)=some (d::l):=rfl
def endR (raw:Bool) (base:Nat) (D:DH):Option (List DV)→Option (DV×DH)
 | some l=>match raw with
  | true=>some (tupD l,D)
  | false=>(frzT base D (tupD l)).map fun q=>(q.1,D.take base)
 | none=>none
theorem end_ret {fn:Func} {raw:Bool} {base:Nat} {tm:Trie DV} {D:DH}:endD P fn raw base (some (.ret,⟨tm,D⟩))=endR raw base D (resultsD D P tm fn.results.toList):=by
 simp only [endD];cases resultsD D P tm fn.results.toList<;>rfl
theorem end_nrm {fn:Func} {raw:Bool} {base:Nat} {tm:Trie DV} {D:DH}:endD P fn raw base (some (.nrm,⟨tm,D⟩))=endR raw base D (resultsD D P tm fn.results.toList):=by
 simp only [endD];cases resultsD D P tm fn.results.toList<;>rfl
theorem endR_t {base:Nat} {l:List DV}:endR true base D (some l)=some (tupD l,D):=rfl
theorem endR_f {base:Nat} {l:List DV}:endR false base D (some l)=(frzT base D (tupD l)).map fun q=>(q.1,D.take base):=rfl
theorem tup_one {d:DV}:tupD [d]=d:=rfl
theorem tup_two {d e:DV} {l:List DV}:tupD (d::e::l)=.tup (d::e::l):=rfl
theorem frzT_int {b:Nat} {k:IntKind} {n:Int}:frzT b D (.f (.raw (.int k n)))=some (.f (.raw (.int k n)),[]):=rfl
theorem frzT_bool {b:Nat} {c:Bool}:frzT b D (.f (.raw (.bool c)))=some (.f (.raw (.bool c)),[]):=rfl
theorem frzT_lst {b:Nat} {l:List FV}:frzT b D (.f (.lst l))=some (.f (.lst l),[]):=rfl
def placeL (P:Program):TypeDesc→Option (List (Nat×Nat))
 | .struct fs=>places P fs.toList
 | _=>none
def tBdL (P:Program) (t:TypeId):Option (List DV×List (Nat×Nat)):=
 match zeroT P t with
 | some z=>match (P.underlying t).bind (placeL P) with
  | some pl=>some ((cellsOf z).map rv,pl)
  | none=>none
 | none=>none
def sizeArr (P:Program):TypeDesc→Option Nat
 | .array _ e=>sizeT P e
 | _=>none
def tBdS (P:Program) (t:TypeId):Option (List DV×Nat):=
 match zeroT P t with
 | some z=>match (P.underlying t).bind (sizeArr P) with
  | some n=>some ((cellsOf z).map rv,n)
  | none=>none
 | none=>none
end Go.Dv
namespace Go.Dv
open Go Go.Sim
variable {P:Program} {sub yld:SubD} {base nt:Nat} {all rest:List Oper} {tm:Trie DV} {Q:Par} {pl:List PI} {cl:List (Nat×Option Nat)} {prev:EvTD} {K:KD} {w:Nat} {D:DH}
theorem cg_thenD {f:SD→Option (BX×SD)} {x y:Option (BX×SD)} (h:x=y):thenD f x=thenD f y:=by rw [h]
theorem cg_blockD {i:Nat} {x y:Option (BX×SD)} (h:x=y):blockD i x=blockD i y:=by rw [h]
theorem cg_condD {a b:SD→Option (BX×SD)} {s:SD} {x y:Option DV} (h:x=y):condD a b s x=condD a b s y:=by rw [h]
theorem cg_opR {dst:Option Tmp} {x y:Option (DV×DH)} (h:x=y):opR P sub yld base nt all rest tm dst x=opR P sub yld base nt all rest tm dst y:=by rw [h]
theorem cg_gdR {dst:Option Tmp} {op:Op} {x y:Option Bool} (h:x=y):gdR P sub yld base nt all rest tm dst op D x=gdR P sub yld base nt all rest tm dst op D y:=by rw [h]
theorem cg_drR {dst:Option Tmp} {x y:Option (DV×DH)} (h:x=y):drR sub base nt all tm Q pl cl dst x=drR sub base nt all tm Q pl cl dst y:=by rw [h]
theorem cg_drG {i:Nat} {dst:Option Tmp} {op:Op} {x y:Option Bool} (h:x=y):drG sub base nt all tm Q pl cl i dst op D x=drG sub base nt all tm Q pl cl i dst op D y:=by rw [h]
theorem cg_drO {i:Nat} {x y:Option Oper} (h:x=y):drO sub base nt all tm Q pl cl i D x=drO sub base nt all tm Q pl cl i D y:=by rw [h]
theorem cg_drA {x y:Bool} (h:x=y):drA sub base nt all tm Q pl cl D x=drA sub base nt all tm Q pl cl D y:=by rw [h]
theorem cg_ghR {ops:List Oper} {x y:Option SD} (h:x=y):ghR sub Q prev K ops x=ghR sub Q prev K ops y:=by rw [h]
theorem cg_ghD {ops:List Oper} {p q:Option (List PI×List Nat)} {x y:Option SD} (hp:p=q) (h:x=y):ghD sub Q K ops p x=ghD sub Q K ops q y:=by rw [hp,h]
theorem cg_loopG {h:SD→Option SD} {F:SD→Option (BX×SD)} {x y:Option SD} (e:x=y):loopG h F x=loopG h F y:=by rw [e]
theorem cg_loopN {h:SD→Option SD} {F:SD→Option (BX×SD)} {x y:Option (BX×SD)} (e:x=y):loopN h F x=loopN h F y:=by rw [e]
theorem cg_endD {fn:Func} {raw:Bool} {x y:Option (BX×SD)} (e:x=y):endD P fn raw base x=endD P fn raw base y:=by rw [e]
theorem cg_ev {c:Code} {s t:SD} (e:s=t):evD Q sub prev K w c s=evD Q sub prev K w c t:=by rw [e]
theorem cg_eo {tm':Trie DV} {D':DH} (e:tm=tm') (h:D=D'):evOpsD P sub yld base nt all rest tm D=evOpsD P sub yld base nt all rest tm' D':=by rw [e,h]
theorem cg_dr {tm':Trie DV} {D':DH} (e:tm=tm') (h:D=D'):drawD Q sub base nt all pl tm D cl=drawD Q sub base nt all pl tm' D' cl:=by rw [e,h]
attribute [congr] cg_thenD cg_blockD cg_condD cg_opR cg_gdR cg_drR cg_drG cg_drO cg_drA cg_ghR cg_ghD cg_loopG cg_loopN cg_endD cg_ev cg_eo cg_dr
theorem blockD_if {i j:Nat} {s:SD}:blockD i (some (.exit j,s))=if i=j then some (.nrm,s) else some (.exit j,s):=rfl
attribute [simp] eo_nil eo_cons eo_guard opR_some gdR_true gdR_false dr_nil dr_run drO_some drG_true drG_false drR_some dr_again drA_true ev_skip ev_ret ev_exit ev_label ev_regionA ghR_some ev_drawA ev_seq ev_cond ev_block ev_range thenD_nrm thenD_ret thenD_exit blockD_nrm blockD_ret blockD_exit outD_some putD_none eop_val eop_enter eop_yield valD_some ed_tmp ed_int ed_bool ed_str ed_nil ed_nilP ed_nilM ed_nilF ed_func eds_nil app_get app_set0 app_set app_take0 app_take app_drop0 b_lss b_gtr b_leq b_geq b_eql b_neq b_add b_sub b_mul u_not toV_raw ofV_int ofV_bool ofV_str natR_nat natI_nat loopN_nrm loopN_ret loopN_exit ev_loopG canon_nil canon_cons cnP_some cnP_none get_leaf keep_nil keep_cons kpP_some kpP_none headD_f headD_t bl_f bl_fp bl_agg bl_tup bl_fn bl_yl bl_ref bl_rfa bl_row bl_apl bl_mp bls_nil bls_cons objsOK_self objsOK_app take_self ghAt_none putD_some cond_if want_none want_some gdO_some gdV_bool gdV_undef o_move o_assign o_pick o_alloc o_box o_build o_buildSlice o_mapUpdate o_insert o_load o_store o_nilCheck o_bin o_un o_conv o_func o_makeMap o_makeSlice o_slice o_fieldAddr o_field o_indexAddr o_index o_lookup o_extract o_builtin o_call ivR_fn eds_c edC_some pd_nil pd_c pdC_some ldR_some faR_some blR_some bslR_some pick_t pick_f dBin_raw dUn_raw bl_len len_sl len_str lenV_lst lenV_nil ix_some ixR_some ia_lst ixL_some ld_fp ld_ref ldO_arr ldEl_p ldP_some part_one part_many fa_fp fa_ref faO_arr dBox_some okEl_eq cD_agg cD_f cF_agg cF_raw cF_lst one_int one_bool one_lst natR_cast natV_eq normA_int normA_bool normA_str normA_lst putL_nil putL_cons rs_nil rs_tmp rsC_some end_ret end_nrm endR_t endR_f tup_one tup_two frzT_int frzT_bool frzT_lst
attribute [simp] blockD_if findN Trie.get_put
end Go.Dv
namespace Go.Dv
open Go Go.Sim
theorem wl {σ:Sort _} {M:SD→Prop} (st:σ→SD) (I:σ→Prop) (μ:σ→Nat) (step:∀ x,I x→(∀ y,I y→μ y<μ x→M (st y))→M (st x)) (x:σ) (hx:I x):∀ s,st x=s→M s:=by
 have key:∀ n x,I x→μ x<n→M (st x):=by
  intro n
  induction n with
  | zero=>intro x _ h;omega
  | succ n ih=>
   intro x hx hn
   exact step x hx fun y hy hlt=>ih y hy (by omega)
 rintro s rfl
 exact key _ x hx (Nat.lt_succ_self _)
def normE:DV→DV
 | .f x=>.f (normF x)
 | d=>d
theorem normA_agg {l:List DV}:normA (.agg l)=.agg (l.map normE):=by
 show DV.agg _=_
 congr 1
theorem normE_int {k:IntKind} {n:Int}:normE (.f (.raw (.int k n)))=.f (.raw (.int k n)):=rfl
theorem normE_bool {b:Bool}:normE (.f (.raw (.bool b)))=.f (.raw (.bool b)):=rfl
theorem normE_str {b:ByteArray}:normE (.f (.raw (.string b)))=.f (.raw (.string b)):=rfl
theorem normE_lst {l:List FV}:normE (.f (.lst l))=.f (.lst l):=rfl
theorem normE_nil:normE nilS=.f (.lst []):=rfl
theorem normA_nil:normA nilS=.f (.lst []):=rfl
theorem normA_fn {g:FuncId} {a b:List DV}:normA (.fn g a b)=.fn g a b:=rfl
theorem normA_ref {o i k:Nat}:normA (.ref o i k)=.ref o i k:=rfl
theorem normA_row {o i k l:Nat}:normA (.row o i k l)=.row o i k l:=rfl
theorem normA_apl {o i:Nat}:normA (.apl o i)=.apl o i:=rfl
theorem normA_mp {o:Nat}:normA (.mp o)=.mp o:=rfl
attribute [simp] normA_agg normE_int normE_bool normE_str normE_lst normE_nil normA_nil normA_fn normA_ref normA_row normA_apl normA_mp
theorem ex_tup {i:Nat} {l:List DV}:dExtract i (.tup l)=l[i]?:=rfl
attribute [simp] ex_tup
theorem func_some {D:DH} {g:FuncId} {l m:List DV}:dFunc D (.func g) (some l) (some m)=some (.val (.fn g l m) D):=rfl
attribute [simp] func_some
def fzK:Option (DV×List Nat)→Option (List DV×List Nat)→Option (List DV×List Nat)
 | some (x,i),some (xs,is)=>some (x::xs,i++is)
 | _,_=>none
theorem fz_tup {b:Nat} {D:DH} {l:List DV}:frzT b D (.tup l)=(frzC (frzV b D) l).map fun q=>(.tup q.1,q.2):=rfl
theorem fz_f {b:Nat} {D:DH} {x:FV}:frzT b D (.f x)=some (.f (normF x),[]):=rfl
theorem fz_agg {b:Nat} {D:DH} {l:List DV}:frzT b D (.agg l)=frzV b D (.agg l):=rfl
theorem fz_row {b:Nat} {D:DH} {o i n c:Nat}:frzT b D (.row o i n c)=frz1 b D (.row o i n c):=rfl
theorem fz_apl {b:Nat} {D:DH} {o n:Nat}:frzT b D (.apl o n)=frz1 b D (.apl o n):=rfl
theorem fzV_f {b:Nat} {D:DH} {x:FV}:frzV b D (.f x)=some (.f (normF x),[]):=rfl
theorem fzV_agg {b:Nat} {D:DH} {l:List DV}:frzV b D (.agg l)=if l.all oneD=true then (frzC (frz1 b D) l).map fun q=>(.agg q.1,q.2) else none:=rfl
theorem fzV_row {b:Nat} {D:DH} {o i n c:Nat}:frzV b D (.row o i n c)=frz1 b D (.row o i n c):=rfl
theorem fzV_apl {b:Nat} {D:DH} {o n:Nat}:frzV b D (.apl o n)=frz1 b D (.apl o n):=rfl
theorem fzC_nil {g:DV→Option (DV×List Nat)}:frzC g []=some ([],[]):=rfl
theorem fzC_cons {g:DV→Option (DV×List Nat)} {d:DV} {l:List DV}:frzC g (d::l)=fzK (g d) (frzC g l):=by
 simp only [frzC]
 cases g d with
 | none=>rfl
 | some q=>obtain ⟨x,i⟩:=q;cases frzC g l with
  | none=>rfl
  | some r=>rfl
theorem fzK_some {x:DV} {i:List Nat} {xs:List DV} {is:List Nat}:fzK (some (x,i)) (some (xs,is))=some (x::xs,i++is):=rfl
theorem fz1_f {b:Nat} {D:DH} {x:FV}:frz1 b D (.f x)=some (.f (normF x),[]):=rfl
def fzO (b:Nat) (D:DH) (k o n:Nat):Option DObj→Option (FV×List Nat)
 | some (.app _ sz els)=>if b≤o∧els.length=n∧0<sz then (frzL (frz b D k) els).map fun q=>(.lst q.1,o::q.2) else none
 | _=>none
def fzR (b:Nat) (D:DH) (k o i n:Nat):Option DObj→Option (FV×List Nat)
 | some (.arr sz els)=>if b≤o∧i+n≤els.length∧0<sz then (frzL (frz b D k) ((els.drop i).take n)).map fun q=>(.lst q.1,o::q.2) else none
 | _=>none
theorem fz1_row {b:Nat} {D:DH} {o i n c:Nat}:frz1 b D (.row o i n c)=(fzR b D 3 o i n D[o]?).map fun (q:FV×List Nat)=>((.f q.1:DV),q.2):=by
 show (match D[o]? with
  | some (.arr sz els)=>if b≤o∧i+n≤els.length∧0<sz then (frzL (frz b D 3) ((els.drop i).take n)).map (fun (q:List FV×List Nat)=>(FV.lst q.1,o::q.2)) else none
  | _=>(none:Option (FV×List Nat))).map _=_
 cases D[o]? with
 | none=>rfl
 | some x=>cases x<;>rfl
theorem fz1_apl {b:Nat} {D:DH} {o n:Nat}:frz1 b D (.apl o n)=(fzO b D 3 o n D[o]?).map fun (q:FV×List Nat)=>((.f q.1:DV),q.2):=by
 show (match D[o]? with
  | some (.app _ sz els)=>if b≤o∧els.length=n∧0<sz then (frzL (frz b D 3) els).map (fun (q:List FV×List Nat)=>(FV.lst q.1,o::q.2)) else none
  | _=>(none:Option (FV×List Nat))).map _=_
 cases D[o]? with
 | none=>rfl
 | some x=>cases x<;>rfl
theorem fzO_app {b:Nat} {D:DH} {k o n e sz:Nat} {els:List DV}:fzO b D k o n (some (.app e sz els))=if b≤o∧els.length=n∧0<sz then (frzL (frz b D k) els).map fun q=>(.lst q.1,o::q.2) else none:=rfl
theorem fzR_arr {b:Nat} {D:DH} {k o i n sz:Nat} {els:List DV}:fzR b D k o i n (some (.arr sz els))=if b≤o∧i+n≤els.length∧0<sz then (frzL (frz b D k) ((els.drop i).take n)).map fun q=>(.lst q.1,o::q.2) else none:=rfl
theorem fzL_map {α:Type} {g:DV→Option (FV×List Nat)} {f:α→DV} {h:α→FV} (hg:∀ x,g (f x)=some (h x,[])):∀ {l:List α},frzL g (l.map f)=some (l.map h,[])
 | []=>rfl
 | x::l=>by
  show (match g (f x) with
   | some (x,i)=>match frzL g (l.map f) with
    | some (xs,is)=>some (x::xs,i++is)
    | none=>none
   | none=>none)=_
  rw [hg x,fzL_map hg];rfl
theorem normF_int {k:IntKind} {n:Int}:normF (.raw (.int k n))=.raw (.int k n):=rfl
theorem normF_bool {b:Bool}:normF (.raw (.bool b))=.raw (.bool b):=rfl
theorem normF_str {b:ByteArray}:normF (.raw (.string b))=.raw (.string b):=rfl
theorem normF_lst {l:List FV}:normF (.lst l)=.lst l:=rfl
theorem normF_nil:normF (.raw (.slice none 0 0))=.lst []:=rfl
attribute [simp] fz_tup fz_f fz_agg fz_row fz_apl fzV_f fzV_agg fzV_row fzV_apl fzC_nil fzC_cons fzK_some fz1_f fz1_row fz1_apl fzO_app fzR_arr normF_int normF_bool normF_str normF_lst normF_nil
def gpO (l:List Oper):Option (List PI×List Nat)→Bool
 | some (p,b)=>goodPlan l p b
 | none=>true
def gpC (pl:List (Nat×(List PI×List Nat))):Code→Bool
 | .region id ops true=>gpO ops.toList (findN id pl)
 | .seq a b=>gpC pl a&&gpC pl b
 | .cond _ a b=>gpC pl a&&gpC pl b
 | .block _ b=>gpC pl b
 | .loop b=>gpC pl b
 | .rangeFunc _ _ a b=>gpC pl a&&gpC pl b
 | _=>true
def gpB (pl:List (Nat×(List PI×List Nat))):Option Code→Bool
 | some c=>gpC pl c
 | none=>true
theorem gpB_some {pl:List (Nat×(List PI×List Nat))} {c:Code}:gpB pl (some c)=gpC pl c:=rfl
theorem gpC_draw {pl:List (Nat×(List PI×List Nat))} {id:Nat} {l:List Oper}:gpC pl (.region id l.toArray true)=gpO l (findN id pl):=rfl
theorem gpC_reg {pl:List (Nat×(List PI×List Nat))} {id:Nat} {l:Array Oper}:gpC pl (.region id l false)=true:=rfl
theorem gpC_seq {pl:List (Nat×(List PI×List Nat))} {a b:Code}:gpC pl (.seq a b)=(gpC pl a&&gpC pl b):=rfl
theorem gpC_cond {pl:List (Nat×(List PI×List Nat))} {x:Operand} {a b:Code}:gpC pl (.cond x a b)=(gpC pl a&&gpC pl b):=rfl
theorem gpC_block {pl:List (Nat×(List PI×List Nat))} {id:Nat} {b:Code}:gpC pl (.block id b)=gpC pl b:=rfl
theorem gpC_loop {pl:List (Nat×(List PI×List Nat))} {b:Code}:gpC pl (.loop b)=gpC pl b:=rfl
theorem gpC_range {pl:List (Nat×(List PI×List Nat))} {x:Operand} {ps:Array Tmp} {a b:Code}:gpC pl (.rangeFunc x ps a b)=(gpC pl a&&gpC pl b):=rfl
theorem gpC_skip {pl:List (Nat×(List PI×List Nat))}:gpC pl .skip=true:=rfl
theorem gpC_ret {pl:List (Nat×(List PI×List Nat))}:gpC pl .ret=true:=rfl
theorem gpC_exit {pl:List (Nat×(List PI×List Nat))} {i:Nat}:gpC pl (.exit i)=true:=rfl
theorem gpC_label {pl:List (Nat×(List PI×List Nat))} {i:Nat}:gpC pl (.label i)=true:=rfl
theorem gpO_some {l:List Oper} {p:List PI} {b:List Nat}:gpO l (some (p,b))=goodPlan l p b:=rfl
theorem gpO_none {l:List Oper}:gpO l none=true:=rfl
theorem ghD_gd {sub:SubD} {Q:Par} {K:KD} {all:List Oper} {s:SD} {pl:List PI} {b:List Nat} (hg:goodPlan all pl b=true):ghD sub Q K all (some (pl,b)) (some s)=outD (drawD Q sub K.base K.nt all pl s.tm s.D []):=ghD_some hg
theorem cls_move (x:Operand):clsOf (.move x)=.pure:=rfl
theorem cls_assign (x:Operand):clsOf (.assign x)=.pure:=rfl
theorem cls_pick (x y z:Operand):clsOf (.pick x y z)=.pure:=rfl
theorem cls_build (t:TypeId) (ps:Array (Nat×Operand)):clsOf (.build t ps)=.pure:=rfl
theorem cls_nilCheck (x:Operand):clsOf (.nilCheck x)=.pure:=rfl
theorem cls_binOp (o:BinOp) (t e:TypeId) (x y:Operand):clsOf (.binOp o t x y e)=.pure:=rfl
theorem cls_unOp (o:UnOp) (t:TypeId) (x:Operand):clsOf (.unOp o t x)=.pure:=rfl
theorem cls_makeFunc (f:Fn) (a b:Array Operand):clsOf (.makeFunc f a b)=.pure:=rfl
theorem cls_fieldAddr (t:TypeId) (x:Operand) (n:Nat):clsOf (.fieldAddr t x n)=.pure:=rfl
theorem cls_field (t:TypeId) (x:Operand) (n:Nat):clsOf (.field t x n)=.pure:=rfl
theorem cls_indexAddr (t:TypeId) (x y:Operand):clsOf (.indexAddr t x y)=.pure:=rfl
theorem cls_index (t:TypeId) (x y:Operand):clsOf (.index t x y)=.pure:=rfl
theorem cls_extract (x:Operand) (n:Nat):clsOf (.extract x n)=.pure:=rfl
theorem cls_slice (t:TypeId) (x:Operand) (a b c:Option Operand):clsOf (.slice t x a b c)=.pure:=rfl
theorem cls_load (t:TypeId) (x:Operand):clsOf (.load t x)=.read:=rfl
theorem cls_lookup (t:TypeId) (x y:Operand) (b:Bool):clsOf (.lookup t x y b)=.read:=rfl
theorem cls_convert (t e:TypeId) (x:Operand):clsOf (.convert t e x)=.read:=rfl
theorem cls_alloc (t:TypeId):clsOf (.alloc t)=.fresh:=rfl
theorem cls_box (t:TypeId) (x:Operand):clsOf (.box t x)=.fresh:=rfl
theorem cls_buildSlice (t:TypeId) (n:Nat) (ps:Array (Nat×Operand)):clsOf (.buildSlice t n ps)=.fresh:=rfl
theorem cls_makeSlice (t:TypeId) (x y:Operand):clsOf (.makeSlice t x y)=.fresh:=rfl
theorem cls_len (a:Array Operand) (t:Array TypeId):clsOf (.call ⟨.builtin .len,a,t⟩)=.read:=rfl
theorem cls_max (a:Array Operand) (t:Array TypeId):clsOf (.call ⟨.builtin .max,a,t⟩)=.read:=rfl
theorem cls_min (a:Array Operand) (t:Array TypeId):clsOf (.call ⟨.builtin .min,a,t⟩)=.read:=rfl
theorem cls_append (a:Array Operand) (t:Array TypeId):clsOf (.call ⟨.builtin .append,a,t⟩)=.eff:=rfl
theorem cls_copy (a:Array Operand) (t:Array TypeId):clsOf (.call ⟨.builtin .copy,a,t⟩)=.eff:=rfl
theorem cls_store (t:TypeId) (x y:Operand):clsOf (.store t x y)=.eff:=rfl
theorem cls_mapUpdate (t:TypeId) (x y z:Operand):clsOf (.mapUpdate t x y z)=.eff:=rfl
theorem cls_insert (t:TypeId) (x y z:Operand):clsOf (.insert t x y z)=.eff:=rfl
theorem cls_call (f:Operand) (a:Array Operand) (t:Array TypeId):clsOf (.call ⟨.value f,a,t⟩)=.eff:=rfl
attribute [simp] cls_move cls_assign cls_pick cls_build cls_nilCheck cls_binOp cls_unOp cls_makeFunc cls_fieldAddr cls_field cls_indexAddr cls_index cls_extract cls_slice cls_load cls_lookup cls_convert cls_alloc cls_box cls_buildSlice cls_makeSlice cls_len cls_max cls_min cls_append cls_copy cls_store cls_mapUpdate cls_insert cls_call
theorem eff_move {Q:Par} {base:Nat} {tm:Trie DV} {D:DH} (x:Operand):effB Q base tm D (.move x)=base:=rfl
theorem eff_assign {Q:Par} {base:Nat} {tm:Trie DV} {D:DH} (x:Operand):effB Q base tm D (.assign x)=base:=rfl
theorem eff_pick {Q:Par} {base:Nat} {tm:Trie DV} {D:DH} (x y z:Operand):effB Q base tm D (.pick x y z)=base:=rfl
theorem eff_nilCheck {Q:Par} {base:Nat} {tm:Trie DV} {D:DH} (x:Operand):effB Q base tm D (.nilCheck x)=base:=rfl
theorem eff_binOp {Q:Par} {base:Nat} {tm:Trie DV} {D:DH} (o:BinOp) (t e:TypeId) (x y:Operand):effB Q base tm D (.binOp o t x y e)=base:=rfl
theorem eff_unOp {Q:Par} {base:Nat} {tm:Trie DV} {D:DH} (o:UnOp) (t:TypeId) (x:Operand):effB Q base tm D (.unOp o t x)=base:=rfl
theorem eff_makeFunc {Q:Par} {base:Nat} {tm:Trie DV} {D:DH} (f:Fn) (a b:Array Operand):effB Q base tm D (.makeFunc f a b)=base:=rfl
theorem eff_fieldAddr {Q:Par} {base:Nat} {tm:Trie DV} {D:DH} (t:TypeId) (x:Operand) (n:Nat):effB Q base tm D (.fieldAddr t x n)=base:=rfl
theorem eff_field {Q:Par} {base:Nat} {tm:Trie DV} {D:DH} (t:TypeId) (x:Operand) (n:Nat):effB Q base tm D (.field t x n)=base:=rfl
theorem eff_indexAddr {Q:Par} {base:Nat} {tm:Trie DV} {D:DH} (t:TypeId) (x y:Operand):effB Q base tm D (.indexAddr t x y)=base:=rfl
theorem eff_index {Q:Par} {base:Nat} {tm:Trie DV} {D:DH} (t:TypeId) (x y:Operand):effB Q base tm D (.index t x y)=base:=rfl
theorem eff_extract {Q:Par} {base:Nat} {tm:Trie DV} {D:DH} (x:Operand) (n:Nat):effB Q base tm D (.extract x n)=base:=rfl
theorem eff_slice {Q:Par} {base:Nat} {tm:Trie DV} {D:DH} (t:TypeId) (x:Operand) (a b c:Option Operand):effB Q base tm D (.slice t x a b c)=base:=rfl
theorem eff_load {Q:Par} {base:Nat} {tm:Trie DV} {D:DH} (t:TypeId) (x:Operand):effB Q base tm D (.load t x)=base:=rfl
theorem eff_lookup {Q:Par} {base:Nat} {tm:Trie DV} {D:DH} (t:TypeId) (x y:Operand) (b:Bool):effB Q base tm D (.lookup t x y b)=base:=rfl
theorem eff_convert {Q:Par} {base:Nat} {tm:Trie DV} {D:DH} (t e:TypeId) (x:Operand):effB Q base tm D (.convert t e x)=base:=rfl
theorem eff_alloc {Q:Par} {base:Nat} {tm:Trie DV} {D:DH} (t:TypeId):effB Q base tm D (.alloc t)=base:=rfl
theorem eff_box {Q:Par} {base:Nat} {tm:Trie DV} {D:DH} (t:TypeId) (x:Operand):effB Q base tm D (.box t x)=base:=rfl
theorem eff_makeSlice {Q:Par} {base:Nat} {tm:Trie DV} {D:DH} (t:TypeId) (x y:Operand):effB Q base tm D (.makeSlice t x y)=base:=rfl
theorem eff_len {Q:Par} {base:Nat} {tm:Trie DV} {D:DH} (a:Array Operand) (t:Array TypeId):effB Q base tm D (.call ⟨.builtin .len,a,t⟩)=base:=rfl
theorem eff_max {Q:Par} {base:Nat} {tm:Trie DV} {D:DH} (a:Array Operand) (t:Array TypeId):effB Q base tm D (.call ⟨.builtin .max,a,t⟩)=base:=rfl
theorem eff_min {Q:Par} {base:Nat} {tm:Trie DV} {D:DH} (a:Array Operand) (t:Array TypeId):effB Q base tm D (.call ⟨.builtin .min,a,t⟩)=base:=rfl
theorem eff_append {Q:Par} {base:Nat} {tm:Trie DV} {D:DH} (a:Array Operand) (t:Array TypeId):effB Q base tm D (.call ⟨.builtin .append,a,t⟩)=base:=rfl
theorem eff_copy {Q:Par} {base:Nat} {tm:Trie DV} {D:DH} (a:Array Operand) (t:Array TypeId):effB Q base tm D (.call ⟨.builtin .copy,a,t⟩)=base:=rfl
theorem eff_store {Q:Par} {base:Nat} {tm:Trie DV} {D:DH} (t:TypeId) (x y:Operand):effB Q base tm D (.store t x y)=base:=rfl
theorem eff_mapUpdate {Q:Par} {base:Nat} {tm:Trie DV} {D:DH} (t:TypeId) (x y z:Operand):effB Q base tm D (.mapUpdate t x y z)=base:=rfl
theorem eff_insert {Q:Par} {base:Nat} {tm:Trie DV} {D:DH} (t:TypeId) (x y z:Operand):effB Q base tm D (.insert t x y z)=base:=rfl
theorem eff_call {Q:Par} {base:Nat} {tm:Trie DV} {D:DH} (f:Operand) (a:Array Operand) (t:Array TypeId):effB Q base tm D (.call ⟨.value f,a,t⟩)=effF Q base D (evalsD tm a.toList) (evalD tm f):=rfl
def efF (base:Nat) (D:DH) (l:Option (List DV)):Bool→Nat
 | true=>effG base D l
 | false=>base
def efR (base:Nat) (D:DH) (l:Option (List DV)) (fr:Bool):Bool→Nat
 | true=>efF base D l fr
 | false=>base
theorem ef_fn {Q:Par} {base:Nat} {D:DH} {l:Option (List DV)} {g:FuncId} {a b:List DV}:effF Q base D l (some (.fn g a b))=efR base D l (Q.fr g) (Q.ann g).raw:=by
 show (match (Q.ann g).raw with
  | true=>(match Q.fr g with
   | true=>effG base D l
   | false=>base)
  | false=>base)=_
 generalize (Q.ann g).raw=r
 generalize Q.fr g=q
 cases r<;>cases q<;>rfl
theorem eff_build {Q:Par} {base:Nat} {tm:Trie DV} {D:DH} (t:TypeId) (ps:Array (Nat×Operand)):effB Q base tm D (.build t ps)=base:=rfl
theorem eff_buildSlice {Q:Par} {base:Nat} {tm:Trie DV} {D:DH} (t:TypeId) (n:Nat) (ps:Array (Nat×Operand)):effB Q base tm D (.buildSlice t n ps)=base:=rfl
attribute [simp] eff_build eff_buildSlice
theorem efR_f {base:Nat} {D:DH} {l:Option (List DV)} {fr:Bool}:efR base D l fr false=base:=rfl
theorem efR_t {base:Nat} {D:DH} {l:Option (List DV)} {fr:Bool}:efR base D l fr true=efF base D l fr:=rfl
theorem efF_f {base:Nat} {D:DH} {l:Option (List DV)}:efF base D l false=base:=rfl
theorem efF_t {base:Nat} {D:DH} {l:List DV}:efF base D (some l) true=if base≤ownA D.length l∧ownA D.length l≤D.length∧objsOK base (ownA D.length l) D=true then ownA D.length l else effO base D:=rfl
theorem ef_o {base:Nat} {D:DH}:effO base D=if base+1≤D.length∧objsOK base (base+1) D=true then base+1 else base:=rfl
theorem ow_nil {L:Nat}:ownA L []=L:=rfl
theorem ow_apl {L o n:Nat} {l:List DV}:ownA L (.apl o n::l)=min o (ownA L l):=rfl
theorem ow_row {L o a b c:Nat} {l:List DV}:ownA L (.row o a b c::l)=min o (ownA L l):=rfl
theorem ow_f {L:Nat} {x:FV} {l:List DV}:ownA L (.f x::l)=ownA L l:=rfl
theorem ow_ref {L o i k:Nat} {l:List DV}:ownA L (.ref o i k::l)=ownA L l:=rfl
theorem ow_agg {L:Nat} {x l:List DV}:ownA L (.agg x::l)=ownA L l:=rfl
theorem ow_fn {L:Nat} {g:FuncId} {a b l:List DV}:ownA L (.fn g a b::l)=ownA L l:=rfl
attribute [simp] eff_move eff_assign eff_pick eff_nilCheck eff_binOp eff_unOp eff_makeFunc eff_fieldAddr eff_field eff_indexAddr eff_index eff_extract eff_slice eff_load eff_lookup eff_convert eff_alloc eff_box eff_makeSlice eff_len eff_max eff_min eff_append eff_copy eff_store eff_mapUpdate eff_insert eff_call ef_o ef_fn efR_f efR_t efF_f efF_t ow_nil ow_apl ow_row ow_f ow_ref ow_agg ow_fn
def clB (Q:Par) (base:Nat) (tm:Trie DV) (i:Nat) (op:Op) (cl:List (Nat×Option Nat)):Go.Sim.Cls→List (Nat×Option Nat)
 | .pure=>cl
 | .fresh=>cl
 | .read=>(i,depOf tm op)::cl
 | .eff=>stayD base (writes Q tm op) cl
theorem clB_eq {Q:Par} {base:Nat} {tm:Trie DV} {i:Nat} {op:Op} {cl:List (Nat×Option Nat)}:clNext Q base tm i op cl=clB Q base tm i op cl (clsOf op):=by
 unfold clNext
 cases clsOf op<;>rfl
theorem clB_pure {Q:Par} {base:Nat} {tm:Trie DV} {i:Nat} {op:Op} {cl:List (Nat×Option Nat)}:clB Q base tm i op cl .pure=cl:=rfl
theorem clB_fresh {Q:Par} {base:Nat} {tm:Trie DV} {i:Nat} {op:Op} {cl:List (Nat×Option Nat)}:clB Q base tm i op cl .fresh=cl:=rfl
theorem clB_read {Q:Par} {base:Nat} {tm:Trie DV} {i:Nat} {op:Op} {cl:List (Nat×Option Nat)}:clB Q base tm i op cl .read=(i,depOf tm op)::cl:=rfl
theorem clB_eff {Q:Par} {base:Nat} {tm:Trie DV} {i:Nat} {op:Op} {cl:List (Nat×Option Nat)}:clB Q base tm i op cl .eff=stayD base (writes Q tm op) cl:=rfl
attribute [simp] ghD_gd clB_eq clB_pure clB_fresh clB_read clB_eff
def intF (n:Int):FV:=.raw (.int .i64 n)
def rowF (l:List Int):FV:=.lst (l.map intF)
def rowD (l:List Int):DV:=.f (rowF l)
def boolD (b:Bool):DV:=.f (.raw (.bool b))
def intD (n:Int):DV:=.f (.raw (.int .i64 n))
attribute [simp] List.getElem?_cons_zero List.getElem?_cons_succ intF rowF rowD boolD intD hasD depOf depV stayD writes objBelow app_get0 putAt
end Go.Dv
namespace Go.Dv
open Go Go.Sim
variable {P:Program} {sub yld:SubD} {base nt:Nat} {D:DH}
theorem bs_some {T:SlT} {len:Nat} {ps:List (Nat×DV)}:dBuildSlice D T len (some ps)=if len*T.sz≤16777216∧len≤16777216∧0<T.sz then (setEls T.sz (List.replicate len T.z) ps).map fun els=>DRes.val (.row D.length 0 len len) (D++[.arr T.sz els]) else none:=rfl
theorem se_nil {sz:Nat} {els:List DV}:setEls sz els []=some els:=rfl
theorem se_cons {sz:Nat} {els:List DV} {i:Nat} {d:DV} {l:List (Nat×DV)}:setEls sz els ((i,d)::l)=if i<els.length∧okEl sz d=true then setEls sz (els.set i d) l else none:=rfl
def apR (D:DH) (base:Nat) (s:DV):Option SlT→Bool→Option (List DV)→Option DRes
 | some T,true,some new=>if new.all (okEl T.sz)=true then valDs (dAppend D base T s new) else none
 | _,_,_=>none
theorem bl_append {st tx:TypeId} {s x:DV}:dBuiltin P D base [st,tx] [s,x] .append=apR D base s (tSl P st) (isSrcT P tx) (elsOf D x):=by
 simp only [dBuiltin]
 cases isSrcT P tx<;>cases tSl P st<;>cases elsOf D x<;>rfl
theorem apR_some {s:DV} {T:SlT} {new:List DV}:apR D base s (some T) true (some new)=if new.all (okEl T.sz)=true then valDs (dAppend D base T s new) else none:=rfl
theorem valDs_some {d:DV} {D':DH}:valDs (some (d,D'))=some (.val d D'):=rfl
theorem els_lst {l:List FV}:elsOf D (.f (.lst l))=some (l.map elD):=rfl
theorem els_nil:elsOf D nilS=some []:=rfl
def elR (off len:Nat):Option DObj→Option (List DV)
 | some (.arr sz els)=>if 0<sz∧off+len≤els.length then some ((els.drop off).take len) else none
 | _=>none
def elA (len:Nat):Option DObj→Option (List DV)
 | some (.app _ sz els)=>if els.length=len∧0<sz then some els else none
 | _=>none
theorem els_row {o off len cap:Nat}:elsOf D (.row o off len cap)=elR off len D[o]?:=by
 simp only [elsOf]
 cases D[o]? with
 | none=>rfl
 | some x=>cases x<;>rfl
theorem els_apl {o len:Nat}:elsOf D (.apl o len)=elA len D[o]?:=by
 simp only [elsOf]
 cases D[o]? with
 | none=>rfl
 | some x=>cases x<;>rfl
theorem elR_arr {off len sz:Nat} {els:List DV}:elR off len (some (.arr sz els))=if 0<sz∧off+len≤els.length then some ((els.drop off).take len) else none:=rfl
theorem elA_app {len e sz:Nat} {els:List DV}:elA len (some (.app e sz els))=if els.length=len∧0<sz then some els else none:=rfl
theorem elD_raw {v:Value}:elD (.raw v)=.f (.raw v):=rfl
theorem elD_lst {l:List FV}:elD (.lst l)=.f (.lst l):=rfl
theorem elD_agg {l:List FV}:elD (.agg l)=.agg (l.map .f):=rfl
theorem ap_nil {T:SlT} {new:List DV}:dAppend D base T nilS new=if bnd new.length T.by_ then some (.apl D.length new.length,D++[.app T.e T.sz new]) else none:=rfl
def apA (D:DH) (base:Nat) (T:SlT) (o len:Nat) (new:List DV):Option DObj→Option (DV×DH)
 | some (.app e sz els)=>if e=T.e∧sz=T.sz∧els.length=len∧base≤o∧bnd (len+new.length) T.by_ then some (.apl o (len+new.length),D.set o (.app e sz (els++new))) else none
 | _=>none
def apW (D:DH) (base:Nat) (T:SlT) (o off len cap:Nat) (new:List DV):Option DObj→Option (DV×DH)
 | some (.arr sz els)=>if sz=T.sz∧bnd (len+new.length) T.by_∧off+len≤els.length then
    (if len+new.length≤cap then (if base≤o then some (.row o off (len+new.length) cap,D.set o (.arr sz (putAt els (off+len) new))) else none)
    else if base≤o∧off=0∧len=els.length then some (.apl o (len+new.length),D.set o (.app T.e T.sz (els++new)))
    else some (.apl D.length (len+new.length),D++[.app T.e T.sz ((els.drop off).take len++new)])) else none
 | _=>none
theorem ap_apl {T:SlT} {o len:Nat} {new:List DV}:dAppend D base T (.apl o len) new=apA D base T o len new D[o]?:=by
 simp only [dAppend]
 cases D[o]? with
 | none=>rfl
 | some x=>cases x<;>rfl
theorem ap_row {T:SlT} {o off len cap:Nat} {new:List DV}:dAppend D base T (.row o off len cap) new=apW D base T o off len cap new D[o]?:=by
 simp only [dAppend]
 cases D[o]? with
 | none=>rfl
 | some x=>cases x<;>rfl
theorem apA_app {T:SlT} {o len e sz:Nat} {els new:List DV}:apA D base T o len new (some (.app e sz els))=if e=T.e∧sz=T.sz∧els.length=len∧base≤o∧bnd (len+new.length) T.by_ then some (.apl o (len+new.length),D.set o (.app e sz (els++new))) else none:=rfl
theorem apW_arr {T:SlT} {o off len cap sz:Nat} {els new:List DV}:apW D base T o off len cap new (some (.arr sz els))=if sz=T.sz∧bnd (len+new.length) T.by_∧off+len≤els.length then
    (if len+new.length≤cap then (if base≤o then some (.row o off (len+new.length) cap,D.set o (.arr sz (putAt els (off+len) new))) else none)
    else if base≤o∧off=0∧len=els.length then some (.apl o (len+new.length),D.set o (.app T.e T.sz (els++new)))
    else some (.apl D.length (len+new.length),D++[.app T.e T.sz ((els.drop off).take len++new)])) else none:=rfl
theorem bnd_eq {n b:Nat}:bnd n b=(n*b≤1099511627776∧n≤1099511627776):=rfl
theorem st_some {n:Nat} {a d:DV}:dStoreO D base (some n) (some a) (some d)=hpD (rv undef) (dStore D base n d a):=rfl
theorem hpD_some {d:DV} {D':DH}:hpD d (some D')=some (.val d D'):=rfl
def stO (D:DH) (base n:Nat) (d:DV) (o i k:Nat):Option DObj→Option DH
 | some (.arr sz els)=>if base≤o∧(cellsD d).length=n then (stEl sz els i k d).map fun els'=>D.set o (.arr sz els') else none
 | _=>none
def stA (D:DH) (base n:Nat) (d:DV) (o m i k:Nat):Option DObj→Option DH
 | some (.app e sz els)=>if base≤o∧(cellsD d).length=n∧els.length=m then (stEl sz els i k d).map fun els'=>D.set o (.app e sz els') else none
 | _=>none
theorem st_ref {n o i k:Nat} {d:DV}:dStore D base n d (.ref o i k)=stO D base n d o i k D[o]?:=by
 simp only [dStore]
 cases D[o]? with
 | none=>rfl
 | some x=>cases x<;>rfl
theorem st_rfa {n o m i k:Nat} {d:DV}:dStore D base n d (.rfa o m i k)=stA D base n d o m i k D[o]?:=by
 simp only [dStore]
 cases D[o]? with
 | none=>rfl
 | some x=>cases x<;>rfl
theorem stO_arr {n o i k sz:Nat} {d:DV} {els:List DV}:stO D base n d o i k (some (.arr sz els))=if base≤o∧(cellsD d).length=n then (stEl sz els i k d).map fun els'=>D.set o (.arr sz els') else none:=rfl
theorem stA_app {n o m i k e sz:Nat} {d:DV} {els:List DV}:stA D base n d o m i k (some (.app e sz els))=if base≤o∧(cellsD d).length=n∧els.length=m then (stEl sz els i k d).map fun els'=>D.set o (.app e sz els') else none:=rfl
def stP (sz:Nat) (els:List DV) (i k:Nat) (d:DV):Option DV→Option (List DV)
 | some x=>if (cellsD d).all oneD=true∧k+(cellsD d).length≤sz then some (els.set i (if (cellsD d).length=sz then d else .agg (putAt (cellsD x) k (cellsD d)))) else none
 | none=>none
theorem stEl_p {sz i k:Nat} {els:List DV} {d:DV}:stEl sz els i k d=stP sz els i k d els[i]?:=by
 simp only [stEl]
 cases els[i]?<;>rfl
theorem stP_some {sz i k:Nat} {els:List DV} {d x:DV}:stP sz els i k d (some x)=if (cellsD d).all oneD=true∧k+(cellsD d).length≤sz then some (els.set i (if (cellsD d).length=sz then d else .agg (putAt (cellsD x) k (cellsD d)))) else none:=rfl
def mkR (D:DH) (T:SlT):Option Nat→Option Nat→Option DRes
 | some n,some m=>dMakeSlice D T n m
 | _,_=>none
theorem mk_some {T:SlT} {a b:DV}:dMkSl D (some T) (some a) (some b)=mkR D T (natI64 a) (natI64 b):=by
 simp only [dMkSl,Option.bind]
 cases natI64 a<;>cases natI64 b<;>rfl
theorem mkR_some {T:SlT} {n m:Nat}:mkR D T (some n) (some m)=if n≤m∧m*T.by_≤140737488355328∧m<9223372036854775808∧0<T.sz then some (.val (.row D.length 0 n m) (D++[.arr T.sz (List.replicate m T.z)])) else none:=rfl
def ixW (T:SlT) (o off len n:Nat):Option DObj→Option DV
 | some (.arr sz els)=>if sz=T.sz∧n<len then some (.ref o (off+n) 0) else none
 | _=>none
def ixA (T:SlT) (o len n:Nat):Option DObj→Option DV
 | some (.app _ sz els)=>if sz=T.sz∧els.length=len∧n<len then some (.rfa o len n 0) else none
 | _=>none
theorem ia_row {T:SlT} {A:Option (Nat×Nat×TypeId)} {n o off len cap:Nat}:dIndexA D (some T) A n (.row o off len cap)=ixW T o off len n D[o]?:=by
 simp only [dIndexA]
 cases D[o]? with
 | none=>rfl
 | some x=>cases x<;>rfl
theorem ia_apl {T:SlT} {A:Option (Nat×Nat×TypeId)} {n o len:Nat}:dIndexA D (some T) A n (.apl o len)=ixA T o len n D[o]?:=by
 simp only [dIndexA]
 cases D[o]? with
 | none=>rfl
 | some x=>cases x<;>rfl
theorem ixW_arr {T:SlT} {o off len n sz:Nat} {els:List DV}:ixW T o off len n (some (.arr sz els))=if sz=T.sz∧n<len then some (.ref o (off+n) 0) else none:=rfl
theorem ixA_app {T:SlT} {o len n e sz:Nat} {els:List DV}:ixA T o len n (some (.app e sz els))=if sz=T.sz∧els.length=len∧n<len then some (.rfa o len n 0) else none:=rfl
def ldA (n i k:Nat) (a:Option Nat):Option DObj→Option DV
 | some (.app _ _ els)=>if els.length=n then ldEl els i k a else none
 | _=>none
theorem ld_rfa {a:Option Nat} {o n i k:Nat}:dLoad D a (.rfa o n i k)=ldA n i k a D[o]?:=by
 simp only [dLoad]
 cases D[o]? with
 | none=>rfl
 | some x=>cases x<;>rfl
theorem ldA_app {n i k e sz:Nat} {a:Option Nat} {els:List DV}:ldA n i k a (some (.app e sz els))=if els.length=n then ldEl els i k a else none:=rfl
def lnA (len:Nat):Option DObj→Option Nat
 | some (.app _ _ els)=>if els.length=len then some len else none
 | _=>none
def lnW (len:Nat):Option DObj→Option Nat
 | some (.arr _ _)=>some len
 | _=>none
theorem ln_apl {o len:Nat}:lenV D (.apl o len)=lnA len D[o]?:=by
 simp only [lenV]
 cases D[o]? with
 | none=>rfl
 | some x=>cases x<;>rfl
theorem ln_row {o off len cap:Nat}:lenV D (.row o off len cap)=lnW len D[o]?:=by
 simp only [lenV]
 cases D[o]? with
 | none=>rfl
 | some x=>cases x<;>rfl
theorem lnA_app {len e sz:Nat} {els:List DV}:lnA len (some (.app e sz els))=if els.length=len then some len else none:=rfl
theorem lnW_arr {len sz:Nat} {els:List DV}:lnW len (some (.arr sz els))=some len:=rfl
theorem bd_some {z:List DV} {pl:Nat→Option (Nat×Nat)} {l:List (Nat×DV)}:dBuild (some (z,pl)) (some l)=(fillD pl z l).map .agg:=rfl
theorem fl_nil {pl:Nat→Option (Nat×Nat)} {cs:List DV}:fillD pl cs []=some cs:=rfl
def flP (pl:Nat→Option (Nat×Nat)) (cs:List DV) (d:DV) (l:List (Nat×DV)):Option (Nat×Nat)→Option (List DV)
 | some (o,n)=>if okEl n d=true∧o+n≤cs.length then fillD pl (putAt cs o (cellsD d)) l else none
 | none=>none
theorem fl_cons {pl:Nat→Option (Nat×Nat)} {cs:List DV} {i:Nat} {d:DV} {l:List (Nat×DV)}:fillD pl cs ((i,d)::l)=flP pl cs d l (pl i):=by
 simp only [fillD]
 cases pl i with
 | none=>rfl
 | some q=>rfl
theorem flP_some {pl:Nat→Option (Nat×Nat)} {cs:List DV} {d:DV} {l:List (Nat×DV)} {o n:Nat}:flP pl cs d l (some (o,n))=if okEl n d=true∧o+n≤cs.length then fillD pl (putAt cs o (cellsD d)) l else none:=rfl
theorem oneD_row {o a b c:Nat}:oneD (.row o a b c)=true:=rfl
theorem oneD_apl {o n:Nat}:oneD (.apl o n)=true:=rfl
theorem oneD_ref {o a b:Nat}:oneD (.ref o a b)=true:=rfl
theorem oneD_str {b:ByteArray}:oneD (.f (.raw (.string b)))=true:=rfl
theorem oneD_nil:oneD nilS=true:=rfl
theorem cD_row {o a b c:Nat}:cellsD (.row o a b c)=[.row o a b c]:=rfl
theorem cD_apl {o n:Nat}:cellsD (.apl o n)=[.apl o n]:=rfl
theorem cD_ref {o a b:Nat}:cellsD (.ref o a b)=[.ref o a b]:=rfl
theorem wrap_pred {n:Nat} (h:n≤9223372036854775807):wrapF .i64 ((n:Int)-1)=(n:Int)-1:=wrap_in (by omega) (by omega)
theorem set_map {α β:Type} {f:α→β} {l:List α} {i:Nat} {x:α}:(l.map f).set i (f x)=(l.set i x).map f:=by
 refine List.ext_getElem? fun j=>?_
 simp only [List.getElem?_set,List.getElem?_map,List.length_map]
 split
 ·split<;>rfl
 ·rfl
theorem fzL_nil {g:DV→Option (FV×List Nat)}:frzL g []=some ([],[]):=rfl
theorem wrap_m1:wrapF .i64 (-1)=-1:=wrap_in (by omega) (by omega)
/-! ### reads again -/
theorem agO_none {all:List Oper} {tm:Trie DV} {cl:List (Nat×Option Nat)} {i d:Nat} {op:Op} {ty:TypeId} {pos:String} {aft:Array Edge}:agO nt all tm cl D i (some ⟨some d,op,ty,pos,aft,none⟩)=(hasD i cl&&(decide (d<nt)&&((tm.get d).map (eqD D)).getD false)):=rfl
theorem eqD_lst {l:List FV}:eqD D (.f (.lst l))=true:=rfl
theorem eqD_nil:eqD D nilS=true:=rfl
theorem eqD_fp {l:List FV}:eqD D (.fp l)=true:=rfl
theorem eqD_apl {o n:Nat}:eqD D (.apl o n)=liveD D (.apl o n):=rfl
theorem eqD_row {o a b c:Nat}:eqD D (.row o a b c)=liveD D (.row o a b c):=rfl
theorem eqD_int {k:IntKind} {n:Int}:eqD D (.f (.raw (.int k n)))=true:=by
 show (match eqK k k with
  | true=>eqI n n
  | false=>false)=true
 rw [show eqK k k=true by cases k<;>rfl]
 rw [eqI_eq];simp
theorem eqD_bool {b:Bool}:eqD D (.f (.raw (.bool b)))=true:=by cases b<;>rfl
def lvA (n:Nat):Option DObj→Bool
 | some (.app _ _ els)=>decide (els.length=n)
 | _=>false
def lvW:Option DObj→Bool
 | some (.arr _ _)=>true
 | _=>false
theorem live_apl {o n:Nat}:liveD D (.apl o n)=lvA n D[o]?:=by
 simp only [liveD]
 cases D[o]? with
 | none=>rfl
 | some x=>cases x<;>rfl
theorem live_row {o a b c:Nat}:liveD D (.row o a b c)=lvW D[o]?:=by
 simp only [liveD]
 cases D[o]? with
 | none=>rfl
 | some x=>cases x<;>rfl
theorem lvA_app {n e sz:Nat} {els:List DV}:lvA n (some (.app e sz els))=decide (els.length=n):=rfl
theorem lvW_arr {sz:Nat} {els:List DV}:lvW (some (.arr sz els))=true:=rfl
attribute [simp] agO_none eqD_lst eqD_nil eqD_fp eqD_apl eqD_row eqD_int eqD_bool live_apl live_row lvA_app lvW_arr
/-! ### ghosts -/
section
variable {tm:Trie DV} {t k:Tmp} {e sz:Nat} {s:SD}
def ghF (base:Nat) (s:SD):Option (List Gh)→Option SD
 | some l=>ghostsD base l s
 | none=>some s
theorem ghAt_F {id:Nat} {f nt base:Nat} {ro:Option Nat} {raw:Bool} {gh:List (Nat×List Gh)} {pl:List (Nat×(List PI×List Nat))} {keep:List (Nat×List Tmp)} {long:Bool}:ghAt ⟨f,nt,ro,base,⟨raw,gh,pl,keep,long⟩⟩ id s=ghF base s (findN id gh):=by
 simp only [ghAt]
 cases findN id gh<;>rfl
theorem ghF_none:ghF base s none=some s:=rfl
theorem ghF_some {l:List Gh}:ghF base s (some l)=ghostsD base l s:=rfl
def ghK (base:Nat) (l:List Gh):Option SD→Option SD
 | some s=>ghostsD base l s
 | none=>none
theorem gh_nil:ghostsD base [] s=some s:=rfl
theorem gh_cons {g:Gh} {l:List Gh}:ghostsD base (g::l) s=ghK base l (ghostD base s g):=by
 simp only [ghostsD]
 cases ghostD base s g<;>rfl
theorem ghK_some {l:List Gh}:ghK base l (some s)=ghostsD base l s:=rfl
def gfS (tm:Trie DV) (t:Tmp) (D:DH):Option (DV×List Nat)→Option SD
 | some (d',is)=>some ⟨tm.put t d',kill D is⟩
 | none=>none
def gfR (base:Nat) (tm:Trie DV) (t:Tmp) (D:DH):Option DV→Option SD
 | some d=>gfS tm t D (frzT base D d)
 | none=>none
theorem g_frz:ghostD base ⟨tm,D⟩ (.frz t)=gfR base tm t D (tm.get t):=by
 simp only [ghostD]
 cases tm.get t with
 | none=>rfl
 | some d=>
  simp only [gfR]
  cases frzT base D d with
  | none=>rfl
  | some q=>rfl
theorem gfR_some {d:DV}:gfR base tm t D (some d)=gfS tm t D (frzT base D d):=rfl
theorem gfS_some {d':DV} {is:List Nat}:gfS tm t D (some (d',is))=some ⟨tm.put t d',kill D is⟩:=rfl
theorem kill_nil:kill D []=D:=rfl
theorem kill_cons {o:Nat} {l:List Nat}:kill D (o::l)=kill (D.set o .dead) l:=rfl
def goR (tm:Trie DV) (t e sz:Nat) (D:DH):Option DV→Option SD
 | some (.f (.raw (.slice none 0 0)))=>some ⟨tm.put t (.apl D.length 0),D++[.app e sz []]⟩
 | _=>none
theorem g_own:ghostD base ⟨tm,D⟩ (.own t e sz)=goR tm t e sz D (tm.get t):=rfl
theorem goR_nil:goR tm t e sz D (some nilS)=some ⟨tm.put t (.apl D.length 0),D++[.app e sz []]⟩:=rfl
def gcC (base:Nat) (tm:Trie DV) (D:DH) (e sz o i c s':Nat) (els cs:List DV):Option DV→Option SD
 | some (.f (.raw (.slice none 0 0)))=>if base≤o then some ⟨tm,D.set o (.arr s' (els.set i (.agg (cs.set c (.apl D.length 0)))))++[.app e sz []]⟩ else none
 | _=>none
def gcE (base:Nat) (tm:Trie DV) (D:DH) (e sz o i c s':Nat) (els:List DV):Option DV→Option SD
 | some (.agg cs)=>gcC base tm D e sz o i c s' els cs cs[c]?
 | _=>none
def gcO (base:Nat) (tm:Trie DV) (D:DH) (e sz o i c:Nat):Option DObj→Option SD
 | some (.arr s' els)=>gcE base tm D e sz o i c s' els els[i]?
 | _=>none
def gcR (base:Nat) (tm:Trie DV) (D:DH) (k e sz:Nat):Option DV→Option SD
 | some (.ref o i j)=>gcO base tm D e sz o i (j+k) D[o]?
 | _=>none
theorem g_ownC {k:Nat}:ghostD base ⟨tm,D⟩ (.ownC t k e sz)=gcR base tm D k e sz (tm.get t):=by
 simp only [ghostD]
 cases tm.get t with
 | none=>rfl
 | some d=>cases d<;>rfl
theorem gcR_ref {o i j k:Nat}:gcR base tm D k e sz (some (.ref o i j))=gcO base tm D e sz o i (j+k) D[o]?:=rfl
theorem gcO_arr {o i c s':Nat} {els:List DV}:gcO base tm D e sz o i c (some (.arr s' els))=gcE base tm D e sz o i c s' els els[i]?:=rfl
theorem gcE_agg {o i c s':Nat} {els cs:List DV}:gcE base tm D e sz o i c s' els (some (.agg cs))=gcC base tm D e sz o i c s' els cs cs[c]?:=rfl
theorem gcC_nil {o i c s':Nat} {els cs:List DV}:gcC base tm D e sz o i c s' els cs (some nilS)=if base≤o then some ⟨tm,D.set o (.arr s' (els.set i (.agg (cs.set c (.apl D.length 0)))))++[.app e sz []]⟩ else none:=rfl
def giK (base:Nat) (tm:Trie DV) (o p:Nat) (y:FV) (D':DH):Option DObj→Option SD
 | some (.arr sz' els')=>if base≤o∧oneF y=true∧sz'=1 then some ⟨tm,D'.set o (.arr sz' (els'.set p (.f y)))⟩ else none
 | _=>none
def giF (base:Nat) (tm:Trie DV) (D:DH) (o p:Nat):Option (DV×List Nat)→Option SD
 | some (.f y,is)=>giK base tm o p y (kill D is) (kill D is)[o]?
 | _=>none
def giX (base:Nat) (tm:Trie DV) (D:DH) (o p:Nat):List DV→Option SD
 | [x]=>giF base tm D o p (frzT base D x)
 | _=>none
def giE (base:Nat) (tm:Trie DV) (D:DH) (o p:Nat):Option DV→Option SD
 | some d=>giX base tm D o p (cellsD d)
 | none=>none
def giO (base:Nat) (tm:Trie DV) (D:DH) (o p:Nat):Option DObj→Option SD
 | some (.arr sz els)=>giE base tm D o p els[p]?
 | _=>none
def giN (base:Nat) (tm:Trie DV) (D:DH) (o off:Nat):Option Nat→Option SD
 | some i=>giO base tm D o (off+i) D[o]?
 | none=>none
def giR (base:Nat) (tm:Trie DV) (D:DH) (k:Option DV):Option DV→Option SD
 | some (.row o off _ _)=>giN base tm D o off (k.bind natR)
 | _=>none
theorem g_frzI:ghostD base ⟨tm,D⟩ (.frzI t k)=giR base tm D (tm.get k) (tm.get t):=by
 simp only [ghostD]
 cases tm.get t with
 | none=>rfl
 | some d=>cases d<;>rfl
theorem giR_row {o off a b:Nat} {kv:DV}:giR base tm D (some kv) (some (.row o off a b))=giN base tm D o off (natR kv):=rfl
theorem giN_some {o off i:Nat}:giN base tm D o off (some i)=giO base tm D o (off+i) D[o]?:=rfl
theorem giO_arr {o p sz:Nat} {els:List DV}:giO base tm D o p (some (.arr sz els))=giE base tm D o p els[p]?:=rfl
theorem giE_some {o p:Nat} {d:DV}:giE base tm D o p (some d)=giX base tm D o p (cellsD d):=rfl
theorem giX_one {o p:Nat} {x:DV}:giX base tm D o p [x]=giF base tm D o p (frzT base D x):=rfl
theorem giF_some {o p:Nat} {y:FV} {is:List Nat}:giF base tm D o p (some (.f y,is))=giK base tm o p y (kill D is) (kill D is)[o]?:=rfl
theorem giK_arr {o p sz':Nat} {y:FV} {D':DH} {els':List DV}:giK base tm o p y D' (some (.arr sz' els'))=if base≤o∧oneF y=true∧sz'=1 then some ⟨tm,D'.set o (.arr sz' (els'.set p (.f y)))⟩ else none:=rfl
end
attribute [simp] ghAt_F ghF_none ghF_some gh_nil gh_cons ghK_some g_frz gfR_some gfS_some kill_nil kill_cons g_own goR_nil g_ownC gcR_ref gcO_arr gcE_agg gcC_nil g_frzI giR_row giN_some giO_arr giE_some giX_one giF_some giK_arr
attribute [simp] fzL_nil wrap_m1 bs_some se_nil se_cons bl_append apR_some valDs_some els_lst els_nil els_row els_apl elR_arr elA_app elD_raw elD_lst elD_agg ap_nil ap_apl ap_row apA_app apW_arr bnd_eq st_some hpD_some st_ref st_rfa stO_arr stA_app stEl_p stP_some mk_some mkR_some ia_row ia_apl ixW_arr ixA_app ld_rfa ldA_app ln_apl ln_row lnA_app lnW_arr bd_some fl_nil fl_cons flP_some oneD_row oneD_apl oneD_ref oneD_str oneD_nil cD_row cD_apl cD_ref app_set0 app_set
end Go.Dv
namespace Go.Dv
open Go Go.Sim
theorem oneF_lst {l:List FV}:oneF (.lst l)=true:=rfl
theorem oneF_int {k:IntKind} {n:Int}:oneF (.raw (.int k n))=true:=rfl
theorem oneF_bool {b:Bool}:oneF (.raw (.bool b))=true:=rfl
attribute [simp] oneF_lst oneF_int oneF_bool
end Go.Dv
/-! ### a list that began as a row of one, and to which append was made -/
namespace Go.Dv
open Go Go.Sim
def qV (o n:Nat):DV:=if n=1 then .row o 0 1 1 else .apl o n
def qR (o n i:Nat):DV:=if n=1 then .ref o i 0 else .rfa o n i 0
def qO (e sz:Nat) (els:List DV):DObj:=if els.length=1 then .arr sz els else .app e sz els
variable {D:DH} {base:Nat}
def lnQ (n:Nat) (x:Option DObj):Option Nat:=if n=1 then lnW 1 x else lnA n x
theorem ln_q {o n:Nat}:lenV D (qV o n)=lnQ n D[o]?:=by
 unfold qV lnQ
 split
 ·rename_i h;rw [ln_row]
 ·rw [ln_apl]
theorem lnQ_q {n e sz:Nat} {els:List DV} (h:els.length=n):lnQ n (some (qO e sz els))=some n:=by
 unfold lnQ qO
 subst h
 split
 ·rename_i g;rw [lnW_arr,g]
 ·rename_i g;rw [lnA_app,if_pos rfl]
def ixQ (T:SlT) (o n i:Nat) (x:Option DObj):Option DV:=if n=1 then ixW T o 0 1 i x else ixA T o n i x
theorem ia_q {T:SlT} {A:Option (Nat×Nat×TypeId)} {o n i:Nat}:dIndexA D (some T) A i (qV o n)=ixQ T o n i D[o]?:=by
 unfold qV ixQ
 split
 ·rw [ia_row]
 ·rw [ia_apl]
theorem ixQ_q {T:SlT} {o n i e sz:Nat} {els:List DV} (h:els.length=n) (hs:sz=T.sz) (hi:i<n):ixQ T o n i (some (qO e sz els))=some (qR o n i):=by
 unfold ixQ qO qR
 subst h
 split
 ·rename_i g;rw [ixW_arr,if_pos ⟨hs,by omega⟩,Nat.zero_add]
 ·rename_i g;rw [ixA_app,if_pos ⟨hs,rfl,hi⟩]
def ldQ (n i:Nat) (a:Option Nat) (x:Option DObj):Option DV:=if n=1 then ldO i 0 a x else ldA n i 0 a x
theorem ld_q {a:Option Nat} {o n i:Nat}:dLoad D a (qR o n i)=ldQ n i a D[o]?:=by
 unfold qR ldQ
 split
 ·rw [ld_ref]
 ·rw [ld_rfa]
theorem ldQ_q {a:Option Nat} {n i e sz:Nat} {els:List DV} (h:els.length=n):ldQ n i a (some (qO e sz els))=ldEl els i 0 a:=by
 unfold ldQ qO
 subst h
 split
 ·rfl
 ·rw [ldA_app,if_pos rfl]
def apQ (D:DH) (base:Nat) (T:SlT) (o n:Nat) (new:List DV) (x:Option DObj):Option (DV×DH):=if n=1 then apW D base T o 0 1 1 new x else apA D base T o n new x
theorem ap_q {T:SlT} {o n:Nat} {new:List DV}:dAppend D base T (qV o n) new=apQ D base T o n new D[o]?:=by
 unfold qV apQ
 split
 ·rw [ap_row]
 ·rw [ap_apl]
theorem apQ_q {T:SlT} {o n e sz:Nat} {els:List DV} {x:DV} (h:els.length=n) (hn:1≤n) (he:e=T.e) (hs:sz=T.sz) (hb:base≤o) (h1:(n+1)*T.by_≤1099511627776) (h2:n+1≤1099511627776) :
  apQ D base T o n [x] (some (qO e sz els))=some (qV o (n+1),D.set o (qO e sz (els++[x]))):=by
 unfold apQ qO qV
 subst h he hs
 rw [if_neg (show ¬els.length+1=1 by omega),if_neg (show ¬(els++[x]).length=1 by rw [List.length_append];show ¬els.length+1=1;omega)]
 split
 ·rename_i g
  have g1:bnd (1 + [x].length) T.by_:=by rw [g] at h1;exact ⟨h1,by simp⟩
  have g2:0+1≤els.length:=by omega
  rw [apW_arr,if_pos ⟨rfl,g1,g2⟩,if_neg (by simp),if_pos ⟨hb,rfl,g.symm⟩,g]
  rfl
 ·rename_i g
  rw [apA_app,if_pos ⟨rfl,rfl,rfl,hb,⟨h1,h2⟩⟩]
  rfl
theorem bl_q {L o n:Nat}:below L (qV o n)=decide (o<L):=by
 unfold qV
 split
 ·exact bl_row
 ·exact bl_apl
theorem obl_q {L e sz:Nat} {els:List DV}:objBelow L (qO e sz els)=els.all (below L):=by
 unfold qO
 split<;>rfl
theorem oneD_q {o n:Nat}:oneD (qV o n)=true:=by unfold qV;split<;>rfl
theorem cD_q {o n:Nat}:cellsD (qV o n)=[qV o n]:=by unfold qV;split<;>rfl
theorem normA_q {o n:Nat}:normA (qV o n)=qV o n:=by unfold qV;split<;>rfl
theorem normE_q {o n:Nat}:normE (qV o n)=qV o n:=by unfold qV;split<;>rfl
def lvQ (n:Nat) (x:Option DObj):Bool:=if n=1 then lvW x else lvA n x
theorem live_q {o n:Nat}:liveD D (qV o n)=lvQ n D[o]?:=by
 unfold qV lvQ
 split
 ·exact live_row
 ·exact live_apl
theorem eqD_q {o n:Nat}:eqD D (qV o n)=lvQ n D[o]?:=by
 rw [← live_q];unfold qV;split<;>rfl
theorem lvQ_q {n e sz:Nat} {els:List DV} (h:els.length=n):lvQ n (some (qO e sz els))=true:=by
 unfold lvQ qO
 subst h
 split
 ·rfl
 ·rw [lvA_app];exact decide_eq_true rfl
theorem dep_q {o n:Nat}:depV (some (qV o n))=some o:=by unfold qV;split<;>rfl
theorem depR_q {o n i:Nat}:depV (some (qR o n i))=some o:=by unfold qR;split<;>rfl
def fzQ (b:Nat) (D:DH) (o n:Nat) (x:Option DObj):Option (FV×List Nat):=if n=1 then fzR b D 3 o 0 1 x else fzO b D 3 o n x
theorem fz1_q {b:Nat} {o n:Nat}:frz1 b D (qV o n)=(fzQ b D o n D[o]?).map fun (q:FV×List Nat)=>((.f q.1:DV),q.2):=by
 unfold qV fzQ
 split
 ·rw [fz1_row]
 ·rw [fz1_apl]
theorem fzV_q {b:Nat} {o n:Nat}:frzV b D (qV o n)=frz1 b D (qV o n):=by unfold qV;split<;>rfl
theorem fzT_q {b:Nat} {o n:Nat}:frzT b D (qV o n)=frz1 b D (qV o n):=by unfold qV;split<;>rfl
theorem fzQ_q {b:Nat} {o n e sz:Nat} {els:List DV} (h:els.length=n) (hb:b≤o) (hs:0<sz):fzQ b D o n (some (qO e sz els))=(frzL (frz b D 3) els).map fun q=>(.lst q.1,o::q.2):=by
 unfold fzQ qO
 subst h
 split
 ·rename_i g;rw [fzR_arr,if_pos ⟨hb,by omega,hs⟩,List.drop_zero,List.take_of_length_le (by omega)]
 ·rename_i g;rw [fzO_app,if_pos ⟨hb,rfl,hs⟩]
attribute [simp] ln_q lnQ_q ia_q ixQ_q ld_q ldQ_q ap_q apQ_q bl_q obl_q oneD_q cD_q normA_q normE_q live_q eqD_q lvQ_q dep_q depR_q fz1_q fzV_q fzT_q fzQ_q
end Go.Dv
namespace Go.Dv
open Go Go.Sim
def alR (D:DH):Option Value→Option DRes
 | some z=>if okEl (cellsD (ofV z)).length (ofV z)=true then some (.val (.ref D.length 0 0) (D++[.arr (cellsD (ofV z)).length [ofV z]])) else none
 | none=>none
theorem al_R {P:Program} {D:DH} {e:TypeId}:dAlloc P D e=alR D (zeroT P e):=by
 unfold dAlloc alR
 cases zeroT P e<;>rfl
theorem alR_some {D:DH} {z:Value}:alR D (some z)=if okEl (cellsD (ofV z)).length (ofV z)=true then some (.val (.ref D.length 0 0) (D++[.arr (cellsD (ofV z)).length [ofV z]])) else none:=rfl
theorem ofV_agg {l:List Value}:ofV (.agg l.toArray)=.agg (l.map rv):=by simp [ofV]
theorem ofV_nilS:ofV (.slice none 0 0)=nilS:=rfl
theorem ofV_nilM:ofV (.map none)=rv (.map none):=rfl
theorem frzT_nil {b:Nat} {D:DH}:frzT b D nilS=some (.f (.lst []),[]):=rfl
attribute [simp] al_R alR_some ofV_agg ofV_nilS ofV_nilM frzT_nil
end Go.Dv
namespace Go.Dv
open Go Go.Sim
def rsO (l:Option (List DV)) (D:DH) (t:Option DV):Option (Option Nat)→Option (List DV)
 | some a=>rsC l (t.bind (dLoad D a))
 | none=>none
theorem rs_cell {D:DH} {P:Program} {tm:Trie DV} {t ty:Nat} {l:List ResultVar}:resultsD D P tm (.cell t ty::l)=rsO (resultsD D P tm l) D (tm.get t) (tLd P ty):=by
 simp only [resultsD]
 cases tLd P ty with
 | none=>
  cases tm.get t<;>rfl
 | some a=>
  cases tm.get t with
  | none=>rfl
  | some d=>
   show (match dLoad D a d with
    | some d=>(resultsD D P tm l).map (d::·)
    | none=>none)=rsC (resultsD D P tm l) (dLoad D a d)
   cases dLoad D a d<;>rfl
theorem rsO_some {D:DH} {l:Option (List DV)} {t:Option DV} {a:Option Nat}:rsO l D t (some a)=rsC l (t.bind (dLoad D a)):=rfl
attribute [simp] rs_cell rsO_some
end Go.Dv
namespace Go.Dv
open Go Go.Sim
theorem ob_arr {L sz:Nat} {els:List DV}:objBelow L (.arr sz els)=els.all (below L):=rfl
theorem ob_app {L e sz:Nat} {els:List DV}:objBelow L (.app e sz els)=els.all (below L):=rfl
theorem ob_map {L:Nat} {ks:List Value} {vs:List DV}:objBelow L (.map ks vs)=vs.all (below L):=rfl
theorem ob_dead {L:Nat}:objBelow L .dead=true:=rfl
attribute [simp] ob_arr ob_app ob_map ob_dead
end Go.Dv
namespace Go.Dv
open Go Go.Sim
variable {P:Program} {D:DH} {base:Nat}
theorem nil_ref {o i k:Nat}:dNil D (.ref o i k)=faO o i k 0 D[o]?:=by
 simp only [dNil]
 rcases hD:D[o]? with _ | x
 ·simp [isRef,hD,faO]
 ·cases x<;>simp [isRef,hD,faO]
theorem nil_fp {l:List FV}:dNil D (.fp l)=some (.fp l):=rfl
theorem nil_fn {g:FuncId} {a b:List DV}:dNil D (.fn g a b)=some (.fn g a b):=rfl
def nlA (o n i k:Nat):Option DObj→Option DV
 | some (.app _ _ els)=>if els.length=n then some (.rfa o n i k) else none
 | _=>none
theorem nil_rfa {o n i k:Nat}:dNil D (.rfa o n i k)=nlA o n i k D[o]?:=by
 simp only [dNil]
 rcases hD:D[o]? with _ | x
 ·simp [isRef,hD,nlA]
 ·cases x<;>simp [isRef,hD,nlA]
theorem nlA_app {o n i k e sz:Nat} {els:List DV}:nlA o n i k (some (.app e sz els))=if els.length=n then some (.rfa o n i k) else none:=rfl
theorem lkR_some {M:Option (TypeId×Option Value)} {ok:Bool} {m k:DV}:lkR P D M ok (some m) (some k)=valD D (dLookup P D M m (toV k) ok):=rfl
def lkF (z:Option Value) (ok:Bool) (vs:List DV):Option (Option Nat)→Option DV
 | some (some i)=>(vs[i]?).map (foundD ok true)
 | some none=>z.map fun z=>foundD ok false (ofV z)
 | none=>none
def lkO (P:Program) (kt:TypeId) (z:Option Value) (k:Value) (ok:Bool):Option DObj→Option DV
 | some (.map ks vs)=>lkF z ok vs (findT P kt k (keyEs ks))
 | _=>none
theorem lk_mp {kt:TypeId} {z:Option Value} {o:Nat} {k:Value} {ok:Bool}:dLookup P D (some (kt,z)) (.mp o) (some k) ok=lkO P kt z k ok D[o]?:=by
 simp only [dLookup]
 rcases hD:D[o]? with _ | x
 ·rfl
 ·cases x with
  | map ks vs=>
   show (match findT P kt k (keyEs ks) with
    | some (some i)=>(vs[i]?).map (foundD ok true)
    | some none=>z.map fun z=>foundD ok false (ofV z)
    | none=>none)=lkF z ok vs (findT P kt k (keyEs ks))
   rcases findT P kt k (keyEs ks) with _ | _ | i<;>rfl
  | _=>rfl
theorem lkO_map {kt:TypeId} {z:Option Value} {k:Value} {ok:Bool} {ks:List Value} {vs:List DV}:lkO P kt z k ok (some (.map ks vs))=lkF z ok vs (findT P kt k (keyEs ks)):=rfl
theorem lkF_some {z:Option Value} {ok:Bool} {vs:List DV} {i:Nat}:lkF z ok vs (some (some i))=(vs[i]?).map (foundD ok true):=rfl
theorem lkF_none {z:Value} {ok:Bool} {vs:List DV}:lkF (some z) ok vs (some none)=some (foundD ok false (ofV z)):=rfl
theorem found_t {b:Bool} {d:DV}:foundD true b d=.tup [d,rv (.bool b)]:=rfl
theorem found_f {b:Bool} {d:DV}:foundD false b d=d:=rfl
theorem updR_some {M:Option (TypeId×Option Value)} {m k d:DV}:updR P D base M (some m) (some k) (some d)=hpD (rv undef) (dUpdate P D base M m (toV k) d):=rfl
def upF (D:DH) (base o:Nat) (ks:List Value) (vs:List DV) (k:Value) (d:DV):Option (Option Nat)→Option DH
 | some (some i)=>match ks[i]? with
  | some k'=>if (simple k'&&Instr.sameBits 10000 k' k)=true then some (D.set o (.map (ks.set i k) (vs.set i d))) else none
  | none=>none
 | some none=>some (D.set o (.map (ks++[k]) (vs++[d])))
 | none=>none
def upO (P:Program) (D:DH) (base:Nat) (kt:TypeId) (k:Value) (d:DV) (o:Nat):Option DObj→Option DH
 | some (.map ks vs)=>if base≤o then upF D base o ks vs k d (findT P kt k (keyEs ks)) else none
 | _=>none
theorem up_mp {kt:TypeId} {z:Option Value} {o:Nat} {k:Value} {d:DV}:dUpdate P D base (some (kt,z)) (.mp o) (some k) d=upO P D base kt k d o D[o]?:=by
 simp only [dUpdate]
 rcases hD:D[o]? with _ | x
 ·rfl
 ·cases x with
  | map ks vs=>
   show (if base≤o then (match findT P kt k (keyEs ks) with
    | some (some i)=>match ks[i]? with
     | some k'=>if (simple k'&&Instr.sameBits 10000 k' k)=true then some (D.set o (.map (ks.set i k) (vs.set i d))) else none
     | none=>none
    | some none=>some (D.set o (.map (ks++[k]) (vs++[d])))
    | none=>none) else none)=if base≤o then upF D base o ks vs k d (findT P kt k (keyEs ks)) else none
   split
   ·rcases findT P kt k (keyEs ks) with _ | _ | i
    ·rfl
    ·rfl
    ·rfl
   ·rfl
  | _=>rfl
theorem upO_map {kt:TypeId} {k:Value} {d:DV} {o:Nat} {ks:List Value} {vs:List DV}:upO P D base kt k d o (some (.map ks vs))=if base≤o then upF D base o ks vs k d (findT P kt k (keyEs ks)) else none:=rfl
theorem upF_none {o:Nat} {ks:List Value} {vs:List DV} {k:Value} {d:DV}:upF D base o ks vs k d (some none)=some (D.set o (.map (ks++[k]) (vs++[d]))):=rfl
attribute [simp] nil_ref nil_fp nil_fn nil_rfa nlA_app lkR_some lk_mp lkO_map lkF_some lkF_none found_t found_f updR_some up_mp upO_map upF_none
/-! ### keys -/
def encI (x:Int):Value:=.int .i64 x
structure KeyD (P:Program) (kt:TypeId) {K:Type} [DecidableEq K] (enc:K→Value):Prop where
 find:∀ (ks:List K) (k:K),findT P kt (enc k) (keyEs (ks.map enc))=some (ks.findIdx? fun y=>decide (k=y))
theorem findA_map {K:Type} [DecidableEq K] {enc:K→Value} {kt:TypeId} (hs:∀ k,simple (enc k)=true) (he:∀ k y,keyEq P kt (enc k) (enc y)=some (decide (k=y))) {x:K}:∀ {q:List K} {s:Nat},findA P kt (enc x) (keyEs (q.map enc)) s=some ((q.findIdx? fun y=>decide (x=y)).map (· + s))
 | [],s=>rfl
 | y::q,s=>by
  show findA P kt (enc x) (⟨enc y,undef,0⟩::keyEs (q.map enc)) s=_
  simp only [findA,hs,he]
  rw [List.findIdx?_cons]
  have ih:=findA_map hs he (x:=x) (q:=q) (s:=s+1)
  by_cases hx:x=y
  ·simp [hx]
  ·simp only [hx,decide_false,Bool.false_eq_true,if_false]
   rw [ih]
   cases List.findIdx? (fun y=>decide (x=y)) q with
   | none=>rfl
   | some i=>simp;omega
end Go.Dv
namespace Go.Dv
open Go Go.Sim
theorem objBelow_le {L L':Nat} (h:L≤L') (x:DObj) (hx:objBelow L x=true):objBelow L' x=true:=by
 cases x with
 | arr sz els=>simp only [objBelow,List.all_eq_true] at hx ⊢;exact fun d hd=>(below_le h).1 d (hx d hd)
 | app e sz els=>simp only [objBelow,List.all_eq_true] at hx ⊢;exact fun d hd=>(below_le h).1 d (hx d hd)
 | map ks vs=>simp only [objBelow,List.all_eq_true] at hx ⊢;exact fun d hd=>(below_le h).1 d (hx d hd)
 | loop=>rfl
 | dead=>rfl
 | chn=>simp only [objBelow,List.all_eq_true] at hx ⊢;exact fun q hq d hd=>(below_le h).1 d (hx q hq d hd)
theorem objsOK_raw {base:Nat} {D X:DH} {k:Nat} (hb:base≤D.length) (h:(D.drop base).all (objBelow D.length)=true):objsOK base (D.length+k) (D++X)=(X.take k).all (objBelow (D.length+k)):=by
 have h2:(D.drop base).all (objBelow (D.length+k))=true:=by
  rw [List.all_eq_true] at h ⊢
  intro x hx
  exact objBelow_le (by omega) x (h x hx)
 unfold objsOK
 rw [List.drop_append_of_le_length hb,List.take_append,List.take_of_length_le (by rw [List.length_drop];omega),List.all_append,h2,Bool.true_and]
 congr 2
 rw [List.length_drop];omega
end Go.Dv
namespace Go.Dv
open Go Go.Sim
theorem dp_ref {o i k:Nat}:depV (some (.ref o i k))=some o:=rfl
theorem dp_rfa {o n i k:Nat}:depV (some (.rfa o n i k))=some o:=rfl
theorem dp_row {o a b c:Nat}:depV (some (.row o a b c))=some o:=rfl
theorem dp_apl {o n:Nat}:depV (some (.apl o n))=some o:=rfl
theorem dp_mp {o:Nat}:depV (some (.mp o))=some o:=rfl
theorem dp_fp {l:List FV}:depV (some (.fp l))=none:=rfl
theorem dp_f {x:FV}:depV (some (.f x))=none:=rfl
theorem dp_agg {l:List DV}:depV (some (.agg l))=none:=rfl
theorem dp_tup {l:List DV}:depV (some (.tup l))=none:=rfl
theorem dp_fn {g:FuncId} {a b:List DV}:depV (some (.fn g a b))=none:=rfl
theorem dp_none:depV none=none:=rfl
attribute [simp] dp_ref dp_rfa dp_row dp_apl dp_mp dp_fp dp_f dp_agg dp_tup dp_fn dp_none
end Go.Dv
namespace Go.Dv
open Go Go.Sim
variable {P:Program} {D:DH} {base:Nat} {tm:Trie DV}
def hiB (tm:Trie DV):Option Operand→Option (Option Nat)
 | none=>some none
 | some x=>((evalD tm x).bind natR).map some
def slK (P:Program) (D:DH) (t:TypeId) (d:DV):Option Nat→Option (Option Nat)→Option DV
 | some l,some h=>dSlice2 P D t l h d
 | _,_=>none
def notStr:DV→Bool
 | .f (.raw (.string _))=>false
 | _=>true
theorem sl_K {t:TypeId} {d:DV} {lo hi:Option Operand} (hd:notStr d=true):dSliceO P tm D t (some d) lo hi none=slK P D t d (bdD tm 0 lo) (hiB tm hi):=by
 unfold dSliceO
 split
 ·rename_i s heq
  simp only [Option.some.injEq] at heq
  subst heq
  simp [notStr] at hd
 ·rename_i d0 _ heq
  simp only [Option.some.injEq] at heq
  subst heq
  simp only
  cases bdD tm 0 lo with
  | none=>rfl
  | some l=>
   cases hi with
   | none=>rfl
   | some x=>
    simp only [hiB]
    cases (evalD tm x).bind natR<;>rfl
 ·rename_i heq;cases heq
theorem sl_lst {t:TypeId} {l:List FV} {lo hi:Option Operand}:dSliceO P tm D t (some (.f (.lst l))) lo hi none=slK P D t (.f (.lst l)) (bdD tm 0 lo) (hiB tm hi):=sl_K rfl
theorem sl_nil {t:TypeId} {lo hi:Option Operand}:dSliceO P tm D t (some nilS) lo hi none=slK P D t nilS (bdD tm 0 lo) (hiB tm hi):=sl_K rfl
theorem sl_row {t:TypeId} {o a b c:Nat} {lo hi:Option Operand}:dSliceO P tm D t (some (.row o a b c)) lo hi none=slK P D t (.row o a b c) (bdD tm 0 lo) (hiB tm hi):=sl_K rfl
theorem sl_fp {t:TypeId} {l:List FV} {lo hi:Option Operand}:dSliceO P tm D t (some (.fp l)) lo hi none=slK P D t (.fp l) (bdD tm 0 lo) (hiB tm hi):=sl_K rfl
theorem bd_none {n:Nat}:bdD tm n none=some n:=rfl
theorem bd_op {n:Nat} {x:Operand}:bdD tm n (some x)=(evalD tm x).bind natR:=rfl
theorem hi_none:hiB tm none=some none:=rfl
theorem hi_op {x:Operand}:hiB tm (some x)=((evalD tm x).bind natR).map some:=rfl
theorem slK_some {t:TypeId} {d:DV} {l:Nat} {h:Option Nat}:slK P D t d (some l) (some h)=dSlice2 P D t l h d:=rfl
theorem s2_fp {t:TypeId} {l:Nat} {h:Option Nat} {cs:List FV}:dSlice2 P D t l h (.fp cs)=dSliceF l h cs (tArr P t):=rfl
theorem s2_lst {t:TypeId} {l:Nat} {h:Option Nat} {cs:List FV}:dSlice2 P D t l h (.f (.lst cs))=dSlice D (tSl P t) l h (.f (.lst cs)):=rfl
theorem s2_nil {t:TypeId} {l:Nat} {h:Option Nat}:dSlice2 P D t l h nilS=dSlice D (tSl P t) l h nilS:=rfl
theorem s2_row {t:TypeId} {l:Nat} {h:Option Nat} {o a b c:Nat}:dSlice2 P D t l h (.row o a b c)=dSlice D (tSl P t) l h (.row o a b c):=rfl
theorem sF_arr {l:Nat} {h:Option Nat} {cs:List FV} {m e:Nat}:dSliceF l h cs (some (m,1,e))=if l<h.getD m∧h.getD m≤m∧m≤cs.length∧m≤1000000000∧cs.all oneF=true then some (.f (.lst ((cs.take (h.getD m)).drop l))) else none:=rfl
theorem dS_lst {T:SlT} {l:Nat} {h:Option Nat} {x:List FV}:dSlice D (some T) l h (.f (.lst x))=if l≤h.getD x.length∧h.getD x.length≤x.length∧(x.all fun y=>Nat.beq (cellsF y).length T.sz)=true then some (.f (.lst ((x.take (h.getD x.length)).drop l))) else none:=rfl
theorem dS_nil {T:SlT} {l:Nat} {h:Option Nat}:dSlice D (some T) l h nilS=if l=0∧h.getD 0=0 then some nilS else none:=rfl
def dsW (T:SlT) (l:Nat) (h:Option Nat) (o off len cap:Nat):Option DObj→Option DV
 | some (.arr sz _)=>if sz=T.sz∧l≤h.getD len∧h.getD len≤cap then some (if l=0 then .row o off (h.getD len) cap else if l=cap then .row o off 0 0 else .row o (off+l) (h.getD len-l) (cap-l)) else none
 | _=>none
theorem dS_row {T:SlT} {l:Nat} {h:Option Nat} {o a b c:Nat}:dSlice D (some T) l h (.row o a b c)=dsW T l h o a b c D[o]?:=by
 simp only [dSlice]
 cases D[o]? with
 | none=>rfl
 | some x=>cases x<;>rfl
theorem dsW_arr {T:SlT} {l:Nat} {h:Option Nat} {o off len cap sz:Nat} {els:List DV}:dsW T l h o off len cap (some (.arr sz els))=if sz=T.sz∧l≤h.getD len∧h.getD len≤cap then some (if l=0 then .row o off (h.getD len) cap else if l=cap then .row o off 0 0 else .row o (off+l) (h.getD len-l) (cap-l)) else none:=rfl
attribute [simp] sl_lst sl_nil sl_row sl_fp bd_none bd_op hi_none hi_op slK_some s2_fp s2_lst s2_nil s2_row sF_arr dS_lst dS_nil dS_row dsW_arr
/-! ### what a pointer leads to -/
def gpF (base:Nat) (tm:Trie DV) (t o:Nat) (D:DH):Option (List FV)→Option SD
 | some ys=>if base≤o∧0<ys.length then some ⟨tm.put t (.fp ys),D.set o .dead⟩ else none
 | none=>none
def gpO1 (base:Nat) (tm:Trie DV) (t o:Nat) (D:DH):Option DObj→Option SD
 | some (.arr sz [d])=>gpF base tm t o D (toFs (cellsD d))
 | _=>none
def gpR (base:Nat) (tm:Trie DV) (t:Nat) (D:DH):Option DV→Option SD
 | some (.ref o 0 0)=>gpO1 base tm t o D D[o]?
 | _=>none
theorem g_frzP {t:Nat}:ghostD base ⟨tm,D⟩ (.frzP t)=gpR base tm t D (tm.get t):=by
 simp only [ghostD]
 rcases tm.get t with _ | d
 ·rfl
 ·cases d with
  | ref o i k=>
   cases i with
   | succ i=>rfl
   | zero=>
    cases k with
    | succ k=>rfl
    | zero=>
     simp only [gpR]
     rcases D[o]? with _ | x
     ·rfl
     ·cases x with
      | arr sz els=>
       cases els with
       | nil=>rfl
       | cons d l=>
        cases l with
        | nil=>
         simp only [gpO1]
         cases toFs (cellsD d)<;>rfl
        | cons=>rfl
      | _=>rfl
  | _=>rfl
theorem gpR_ref {t o:Nat}:gpR base tm t D (some (.ref o 0 0))=gpO1 base tm t o D D[o]?:=rfl
theorem gpO1_arr {t o sz:Nat} {d:DV}:gpO1 base tm t o D (some (.arr sz [d]))=gpF base tm t o D (toFs (cellsD d)):=rfl
theorem gpF_some {t o:Nat} {ys:List FV}:gpF base tm t o D (some ys)=if base≤o∧0<ys.length then some ⟨tm.put t (.fp ys),D.set o .dead⟩ else none:=rfl
attribute [simp] g_frzP gpR_ref gpO1_arr gpF_some
/-! ### rows of empty slices that append will make -/
def gaO (base:Nat) (tm:Trie DV) (e sz o:Nat) (D:DH):Option DObj→Option SD
 | some (.arr 1 els)=>if base≤o∧els.all isNilD=true then some ⟨tm,D.set o (.arr 1 ((List.range els.length).map fun i=>.apl (D.length+i) 0))++List.replicate els.length (.app e sz [])⟩ else none
 | _=>none
def gaR (base:Nat) (tm:Trie DV) (e sz:Nat) (D:DH):Option DV→Option SD
 | some (.row o _ _ _)=>gaO base tm e sz o D D[o]?
 | _=>none
theorem g_ownAll {t e sz:Nat}:ghostD base ⟨tm,D⟩ (.ownAll t e sz)=gaR base tm e sz D (tm.get t):=by
 simp only [ghostD]
 rcases tm.get t with _ | d
 ·rfl
 ·cases d with
  | row o a b c=>
   simp only [gaR]
   rcases D[o]? with _ | x
   ·rfl
   ·cases x<;>rfl
  | _=>rfl
theorem gaR_row {o a b c e sz:Nat}:gaR base tm e sz D (some (.row o a b c))=gaO base tm e sz o D D[o]?:=rfl
theorem gaO_arr {o e sz:Nat} {els:List DV}:gaO base tm e sz o D (some (.arr 1 els))=if base≤o∧els.all isNilD=true then some ⟨tm,D.set o (.arr 1 ((List.range els.length).map fun i=>.apl (D.length+i) 0))++List.replicate els.length (.app e sz [])⟩ else none:=rfl
theorem isNil_nil:isNilD nilS=true:=rfl
attribute [simp] g_ownAll gaR_row gaO_arr isNil_nil
/-! ### numbers without sign -/
section
variable {t:TypeId} {x y:Operand} {a b:Int}
theorem u_lss:binA P .lss t x y (.int .u64 a) (.int .u64 b)=some (.bool (decide (a<b))):=by rw [← ltI_dec];rfl
theorem u_geq:binA P .geq t x y (.int .u64 a) (.int .u64 b)=some (.bool (decide (b≤a))):=by
 show some (Value.bool !(ltI a b))=_
 rw [ltI_dec];congr 2;rw [← decide_not];congr 1;simp
attribute [simp] u_lss u_geq
end
/-! ### conversions -/
def cvR (P:Program) (s d:TypeId) (x:DV) (D:DH):Bool→Option DV
 | true=>if noLv x=true then ((elsOf D x).bind bytesD).map fun l=>rv (strL l) else none
 | false=>match x with
  | .f (.raw v)=>if noAddr v=true then (convA P hp00 s d v).map rv else none
  | _=>none
theorem cv_R {s d:TypeId} {x:DV}:dConv P D s d x=cvR P s d x D (tStr P s d):=by
 unfold dConv
 cases tStr P s d<;>rfl
theorem cvR_str {s d:TypeId} {x:DV}:cvR P s d x D true=if noLv x=true then ((elsOf D x).bind bytesD).map fun l=>rv (strL l) else none:=rfl
theorem nl_f {x:FV}:noLv (.f x)=true:=rfl
theorem nl_apl {o n:Nat}:noLv (.apl o n)=true:=rfl
theorem nl_row {o i n c:Nat}:noLv (.row o i n c)=true:=rfl
theorem nl_prt {o m i n:Nat}:noLv (.prt o m i n)=true:=rfl
theorem cvR_raw {s d:TypeId} {k:IntKind} {n:Int}:cvR P s d (.f (.raw (.int k n))) D false=(convA P hp00 s d (.int k n)).map rv:=rfl
attribute [simp] cv_R cvR_str cvR_raw nl_f nl_apl nl_row nl_prt
end Go.Dv
namespace Go.Dv
open Go Go.Sim
def ixM (o i k n m s:Nat):Option DObj→Option DV
 | some (.arr _ _)=>if n<m then some (.ref o i (k+n*s)) else none
 | _=>none
theorem ia_ref {D:DH} {T:Option SlT} {m s:Nat} {e:TypeId} {o i k n:Nat}:dIndexA D T (some (m,s,e)) n (.ref o i k)=ixM o i k n m s D[o]?:=by
 simp only [dIndexA]
 cases D[o]? with
 | none=>rfl
 | some x=>cases x<;>rfl
theorem ixM_arr {o i k n m s sz:Nat} {els:List DV}:ixM o i k n m s (some (.arr sz els))=if n<m then some (.ref o i (k+n*s)) else none:=rfl
attribute [simp] ia_ref ixM_arr
end Go.Dv
namespace Go.Dv
open Go Go.Sim
def lnM:Option DObj→Option DV
 | some (.map ks _)=>some (rv (natV ks.length))
 | _=>none
theorem len_mp {D:DH} {o:Nat}:dLen D (.mp o) (some 1)=lnM D[o]?:=by
 simp only [dLen]
 cases D[o]? with
 | none=>rfl
 | some x=>cases x<;>rfl
theorem lnM_map {ks:List Value} {vs:List DV}:lnM (some (.map ks vs))=some (rv (natV ks.length)):=rfl
theorem toV_agg2 {u v:Value}:toV (.agg [.f (.raw u),.f (.raw v)])=some (.agg #[u,v]):=rfl
attribute [simp] len_mp lnM_map toV_agg2
def idxL (n:Nat):List Int:=(List.range n).map fun i:Nat=>(i:Int)
end Go.Dv
/-! ### ranges over functions -/
namespace Go.Dv
open Go Go.Sim
def ylR (l:Nat) (args:List DV):Option DObj→Option DRes
 | some (.loop ..)=>some (.yield l args)
 | _=>none
theorem iv_yl {D:DH} {args:List DV} {l:Nat}:dInvoke D args (.yl l)=ylR l args D[l]?:=by
 simp only [dInvoke]
 cases D[l]? with
 | none=>rfl
 | some x=>cases x<;>rfl
theorem ylR_loop {l:Nat} {args:List DV} {st:LoopState} {p:Option Code} {K:KD} {tm:Trie DV} {ps:Array Tmp} {asg body:Code}:ylR l args (some (.loop st p K tm ps asg body))=some (.yield l args):=rfl
theorem ivR_yl {D:DH} {args:List DV} {l:Nat}:ivR D (some args) (some (.yl l))=ylR l args D[l]?:=iv_yl
attribute [simp] iv_yl ylR_loop ivR_yl
variable {Q:Par}
def rdE (l:Nat) (x:BX) (D:DH):Option DObj→Option (DV×DH)
 | some (.loop _ _ K2 tm2 ps2 asg2 body2)=>match x with
  | .nrm=>some (rv (.bool true),D.set l (.loop .ready none K2 tm2 ps2 asg2 body2))
  | .ret=>some (rv (.bool false),D.set l (.loop .done (some .ret) K2 tm2 ps2 asg2 body2))
  | .exit id=>some (rv (.bool false),D.set l (.loop .done (some (.exit id)) K2 tm2 ps2 asg2 body2))
 | _=>none
def rdC (l:Nat):Option (BX×SD)→Option (DV×DH)
 | some (x,s)=>rdE l x s.D s.D[l]?
 | none=>none
def rdL (Q:Par) (l:Nat) (K:KD) (body:Code) (s:SD):Option DObj→Option (DV×DH)
 | some (.loop .ready p' K' tm' ps' asg' body')=>rdC l (evD Q (callD Q) (evalC Q) K 0 body ⟨s.tm,s.D.set l (.loop .busy p' K' tm' ps' asg' body')⟩)
 | _=>none
def rdA (Q:Par) (l:Nat) (K:KD) (body:Code):Option (BX×SD)→Option (DV×DH)
 | some (.nrm,s)=>rdL Q l K body s s.D[l]?
 | _=>none
theorem rdA_nrm {l:Nat} {K:KD} {body:Code} {s:SD}:rdA Q l K body (some (.nrm,s))=rdL Q l K body s s.D[l]?:=rfl
theorem rdL_loop {l:Nat} {K:KD} {body:Code} {s:SD} {p':Option Code} {K':KD} {tm':Trie DV} {ps':Array Tmp} {asg' body':Code}:rdL Q l K body s (some (.loop .ready p' K' tm' ps' asg' body'))=rdC l (evD Q (callD Q) (evalC Q) K 0 body ⟨s.tm,s.D.set l (.loop .busy p' K' tm' ps' asg' body')⟩):=rfl
theorem rdC_some {l:Nat} {x:BX} {s:SD}:rdC l (some (x,s))=rdE l x s.D s.D[l]?:=rfl
theorem rdE_nrm {l:Nat} {D:DH} {st:LoopState} {p:Option Code} {K2:KD} {tm2:Trie DV} {ps2:Array Tmp} {asg2 body2:Code}:rdE l .nrm D (some (.loop st p K2 tm2 ps2 asg2 body2))=some (rv (.bool true),D.set l (.loop .ready none K2 tm2 ps2 asg2 body2)):=rfl
attribute [simp] rdA_nrm rdL_loop rdC_some rdE_nrm
def rgF (Q:Par) (K:KD) (ps:Array Tmp) (asg body:Code) (s:SD):Option DV→Option (BX×SD)
 | some (.fn g a b)=>match (Q.ann g).raw&&(roOK K s.D&&!Q.tv g) with
  | true=>rangeEndD s.tm s.D.length (callD Q g (a++[.yl s.D.length]++b) K.base (s.D++[.loop .ready none K s.tm ps asg body]))
  | false=>none
 | _=>none
theorem range_F {K:KD} {f:Operand} {ps:Array Tmp} {asg body:Code} {s:SD}:rangeD Q (evalC Q) K f ps asg body s=rgF Q K ps asg body s (evalD s.tm f):=by
 unfold rangeD rgF
 rcases evalD s.tm f with _ | d
 ·rfl
 ·cases d with
  | fn g a b=>
   simp only
   cases ht:Q.tv g with
   | true=>simp
   | false=>
    rw [callD_B ht]
    cases (Q.ann g).raw&&(roOK K s.D&&!false)<;>rfl
  | _=>rfl
def reL (tm:Trie DV) (l:Nat) (D:DH):Option DObj→Option (BX×SD)
 | some (.loop st p _ _ _ _ _)=>match st with
  | .busy=>none
  | _=>jumpD p ⟨tm,D.set l .dead⟩
 | _=>none
theorem re_some {tm:Trie DV} {l:Nat} {d:DV} {D:DH}:rangeEndD tm l (some (d,D))=reL tm l D D[l]?:=by
 simp only [rangeEndD]
 cases D[l]? with
 | none=>rfl
 | some x=>cases x<;>rfl
theorem reL_ready {tm:Trie DV} {l:Nat} {D:DH} {p:Option Code} {K2:KD} {tm2:Trie DV} {ps2:Array Tmp} {asg2 body2:Code}:reL tm l D (some (.loop .ready p K2 tm2 ps2 asg2 body2))=jumpD p ⟨tm,D.set l .dead⟩:=rfl
theorem jump_none {s:SD}:jumpD none s=some (.nrm,s):=rfl
attribute [simp] range_F re_some reL_ready jump_none
end Go.Dv
namespace Go.Dv
open Go Go.Sim
theorem cD_mp {o:Nat}:cellsD (.mp o)=[.mp o]:=rfl
theorem cD_fn {g:FuncId} {a b:List DV}:cellsD (.fn g a b)=[.fn g a b]:=rfl
theorem cD_rfa {o n i k:Nat}:cellsD (.rfa o n i k)=[.rfa o n i k]:=rfl
theorem cD_fp {l:List FV}:cellsD (.fp l)=[.fp l]:=rfl
theorem oneD_mp {o:Nat}:oneD (.mp o)=true:=rfl
theorem oneD_fn {g:FuncId} {a b:List DV}:oneD (.fn g a b)=true:=rfl
theorem oneD_rfa {o n i k:Nat}:oneD (.rfa o n i k)=true:=rfl
theorem oneD_fp {l:List FV}:oneD (.fp l)=true:=rfl
theorem oneD_rvm:oneD (rv (.map none))=true:=rfl
attribute [simp] cD_mp cD_fn cD_rfa cD_fp oneD_mp oneD_fn oneD_rfa oneD_fp oneD_rvm
end Go.Dv
namespace Go.Dv
open Go Go.Sim
theorem natR_0 {k:IntKind}:natR (.f (.raw (.int k 0)))=some 0:=rfl
theorem natR_1 {k:IntKind}:natR (.f (.raw (.int k 1)))=some 1:=rfl
theorem natI_0:natI64 (.f (.raw (.int .i64 0)))=some 0:=rfl
attribute [simp] natR_0 natR_1 natI_0
end Go.Dv
namespace Go.Dv
open Go Go.Sim Go.RowKit
variable {P:Program} {W W':World} {ρ ρ' ρ'':Ren} {H H' H'':Hp}
/-! ### what is told -/
def tellS (s:FuncId):Sub:=fun f args H=>match args with
 | []=>match Nat.beq f s with
  | true=>some (.bool true,H)
  | false=>none
 | _=>none
theorem rep_below (R:Rep P ρ H W) (hb:Below W.heap.size W W'):Rep P ρ H W':=
 ⟨fun i B p h1 h2 h3=>(R.blk i B p h1 h2 h3).mono (.refl ρ) h3 (hb.block _ (R.low i p h3)),R.sep,R.new,R.dom,fun i p h=>Nat.lt_of_lt_of_le (R.low i p h) hb.size,R.glob,R.mem,R.len,R.gl⟩
theorem fr_below (hb:Below W.heap.size W W'):Fr ρ ρ H H W W':=
 ⟨.refl ρ,hb.os,hb.tape,hb.output,hb.size,fun b h _=>hb.block b h,fun i B p h1 h2 h3=>.inr ⟨i,B,p,h1,h2,h3,rfl⟩,Nat.le_refl _,fun _ _ h=>⟨h,rfl⟩⟩
theorem tellS_ok {s:FuncId} (h:∀ w,Calls P s #[] w fun e w'=>e=.returned (.bool true)∧Below w.heap.size w w'):SubOK P (tellS s):=by
 intro f args H v H' hr ρ W xs hx R
 cases args with
 | cons=>simp [tellS] at hr
 | nil=>
  simp only [tellS] at hr
  split at hr
  ·rename_i hf
   have hf:=Nat.eq_of_beq_eq_true hf
   subst hf
   simp only [Option.some.injEq,Prod.mk.injEq] at hr
   obtain ⟨rfl,rfl⟩:=hr
   cases hx
   refine Calls.mono (h W) fun e w' he=>?_
   obtain ⟨he,hb⟩:=he
   exact ⟨ρ,_,he,.bool true,rep_below R hb,fr_below hb⟩
  ·cases hr
theorem QOK.of {Q:Par} {s:FuncId} (names:∀ (g:FuncId) (fn:Func),Q.P.funcs[g]? =some fn→(fn.name== "runtime.NumGoroutine")=false) (htv:∀ g,Q.tv g=Nat.beq g s) (hg:GoodF Q.P s):QOK Q (tellS s):=by
 refine ⟨names,fun g args H fn c h _ _=>?_,fun g h=>?_⟩
 ·rw [htv] at h
  cases args with
  | cons=>rfl
  | nil=>simp only [tellS];rw [h]
 ·rw [htv] at h
  have e:=Nat.eq_of_beq_eq_true h
  subst e
  exact ⟨hg,fun H=>by simp only [tellS];rw [h]⟩
/-! ### rows that are only read -/
inductive FW (W:World):FV→Value→Prop
 | bool (b:Bool):FW W (.raw (.bool b)) (.bool b)
 | int (k:IntKind) (n:Int):FW W (.raw (.int k n)) (.int k n)
 | nil:FW W (.lst []) (.slice none 0 0)
 | empty (x:Addr):FW W (.lst []) (.slice (some x) 0 0)
 | lst {l:List FV} {x:Addr} {n cap:Nat} (ws:Nat→Value) (hn:n=l.length) (hc:n≤cap) (hU:cap<U) (h0:∃ u,W.cell? x=some u) (h:∀ (i:Nat) (y:FV),l[i]? =some y→W.cell? (x.add i)=some (ws i)) (hr:∀ (i:Nat) (y:FV),l[i]? =some y→FW W y (ws i)):FW W (.lst l) (.slice (some x) n cap)
inductive DW (W:World):DV→Value→Prop
 | f {x:FV} {v:Value} (h:FW W x v):DW W (.f x) v
 | agg {xs:List FV} {vs:List Value} (hl:vs.length=xs.length) (h:∀ (i:Nat) (x:FV) (v:Value),xs[i]? =some x→vs[i]? =some v→FW W x v):DW W (.agg (xs.map .f)) (.agg ⟨vs⟩)
def SH (H:Hp) (b:Nat):Prop:=∃ c,H.row b=some c
structure Lay (P:Program) (W:World) (ρ:Ren) (H:Hp):Prop where
 form:∃ l n,H=rowsHp l n
 rep:Rep P ρ H W
structure Grw (ρ:Ren) (H:Hp) (ρ':Ren) (H':Hp):Prop where
 ext:ρ.Ext ρ'
 row:∀ b c,H.row b=some c→H'.row b=some c
theorem Grw.refl:Grw ρ H ρ H:=⟨.refl ρ,fun _ _ h=>h⟩
theorem Grw.trans (h:Grw ρ H ρ' H') (k:Grw ρ' H' ρ'' H''):Grw ρ H ρ'' H'':=⟨h.ext.trans k.ext,fun b c g=>k.row b c (h.row b c g)⟩
theorem FR.grw (g:Grw ρ H ρ' H') {x:FV} {v:Value} (h:FR (SH H) H x v):FR (SH H') H' x v:=
 h.mono (fun b hb=>let ⟨c,hc⟩:=hb;⟨c,g.row b c hc⟩) (fun b hb=>by obtain ⟨c,hc⟩:=hb;rw [g.row b c hc,hc])
theorem rows_get {l:Rows'} {n m j:Nat} {vs:List Value}:(rowsHp ((n,vs)::l) m).get j=if j=n then some (.ro vs) else (rowsHp l n).get j:=by
 show ((putRows l .leaf).put n (.ro vs)).get j=_
 rw [Trie.get_put]
 rfl
theorem rows_ro {l:Rows'} {n j:Nat} {B:Blk} (h:(rowsHp l n).get j=some B):¬B.mut:=by
 obtain ⟨c,_,rfl⟩:=rowsHp_get h;exact fun h=>h
theorem lay_add (L:Lay P W ρ H) (vs:List Value) (p:Option (Nat×Nat)) (hp:∀ q,p=some q→∃ C e fz,W.heap[q.1]? =some (.cells C e fz)∧∀ (j:Nat) (v:Value),vs[j]? =some v→∃ x,C[q.2+j]? =some x∧VR ρ v x) :
  ∃ (ρ':Ren) (H':Hp),Grw ρ H ρ' H'∧Lay P W ρ' H'∧H'.row H.n=some vs∧ρ'.blk H.n=p:=by
 obtain ⟨⟨l,n,rfl⟩,R⟩:=L
 have hnew:ρ.blk n=none:=R.new n (Nat.le_refl _)
 have hlt:∀ q,p=some q→q.1<W.heap.size:=fun q hq=>by
  obtain ⟨C,e,fz,h1,_⟩:=hp q hq
  rcases Nat.lt_or_ge q.1 W.heap.size with g | g
  ·exact g
  ·rw [Array.getElem?_eq_none g] at h1;cases h1
 obtain ⟨ρ',hext,hoth,hn⟩:∃ ρ':Ren,ρ.Ext ρ'∧(∀ j,j≠n→ρ'.blk j=ρ.blk j)∧ρ'.blk n=p:=by
  cases p with
  | none=>exact ⟨ρ,.refl ρ,fun _ _=>rfl,hnew⟩
  | some q=>exact ⟨ρ.add n q 0,Ren.ext_add hnew q 0,fun j hj=>Ren.add_other ρ hj q 0,Ren.add_same ..⟩
 have hgl:gsize P≤n:=R.gl
 refine ⟨ρ',rowsHp ((n,vs)::l) (n+1),⟨hext,fun b c hb=>?_⟩,⟨⟨_,_,rfl⟩,fun i B q hB hl hq=>?_,fun i j B C q q' hB _ _ _ hm=>(rows_ro hB hm).elim,fun i hi=>?_,fun i B hB=>?_,fun i q hq=>?_,fun g hg=>?_,fun k j hj=>?_,fun k=>?_,?_⟩,?_,hn⟩
 ·have hne:b≠n:=by
   intro e;subst e
   obtain ⟨B,hB,_⟩:=row_iff.1 hb
   exact Nat.lt_irrefl _ (R.dom _ _ hB)
  obtain ⟨B,hB,hc⟩:=row_iff.1 hb
  obtain ⟨c',_,rfl⟩:=rowsHp_get hB
  rw [row_iff]
  exact ⟨.ro c',by rw [rows_get,if_neg hne];exact hB,hc⟩
 ·rw [rows_get] at hB
  by_cases e:i=n
  ·subst e
   rw [if_pos rfl] at hB
   simp only [Option.some.injEq] at hB
   subst hB
   rw [hn] at hq
   obtain ⟨C,e,fz,h1,h2⟩:=hp q hq
   exact ⟨C,e,fz,h1,fun j v hj=>let ⟨x,g1,g2⟩:=h2 j v hj;⟨x,g1,g2.mono hext⟩⟩
  ·rw [if_neg e] at hB
   rw [hoth i e] at hq
   obtain ⟨c',_,rfl⟩:=rowsHp_get hB
   exact (R.blk i _ q hB trivial hq).mono hext hq rfl
 ·have hi:n+1≤i:=hi
  rw [hoth i (by omega)];exact R.new i (show n≤i by omega)
 ·rw [rows_get] at hB
  show i<n+1
  by_cases e:i=n
  ·omega
  ·rw [if_neg e] at hB
   have:i<n:=R.dom i B hB
   omega
 ·by_cases e:i=n
  ·subst e;rw [hn] at hq;exact hlt q hq
  ·rw [hoth i e] at hq;exact R.low i q hq
 ·rw [hoth g (by omega)];exact R.glob g hg
 ·rw [rowsHp_stk] at hj;cases hj
 ·rw [rowsHp_stk];trivial
 ·show gsize P≤n+1
  omega
 ·show (rowsHp ((n,vs)::l) (n+1)).row n=some vs
  rw [row_iff]
  exact ⟨.ro vs,by rw [rows_get,if_pos rfl],rfl⟩
def Laid (P:Program) (W:World) (y:FV) (w:Value):Prop:=∀ ρ H,Lay P W ρ H→∃ (ρ':Ren) (H':Hp) (v:Value),Grw ρ H ρ' H'∧Lay P W ρ' H'∧FR (SH H') H' y v∧VR ρ' v w∧oneCell v=true∧oneF y=true∧cellsF y=[y]
theorem lay_many {l:List FV} {ws:Nat→Value} (h:∀ (i:Nat) (y:FV),l[i]? =some y→Laid P W y (ws i)) (L:Lay P W ρ H):∀ k,k≤l.length→∃ (ρ':Ren) (H':Hp) (vs:List Value),vs.length=k∧Grw ρ H ρ' H'∧Lay P W ρ' H' ∧
  ∀ (i:Nat) (y:FV) (v:Value),vs[i]? =some v→l[i]? =some y→FR (SH H') H' y v∧VR ρ' v (ws i)∧oneCell v=true∧oneF y=true∧cellsF y=[y]
 | 0,_=>⟨ρ,H,[],rfl,.refl,L,fun i y v hv=>by simp at hv⟩
 | k+1,hk=>by
  obtain ⟨ρ1,H1,vs,hl,g1,L1,h1⟩:=lay_many h L k (by omega)
  obtain ⟨ρ2,H2,v,g2,L2,a1,a2,a3,a4,a5⟩:=h k _ (List.getElem?_eq_getElem (show k<l.length by omega)) ρ1 H1 L1
  refine ⟨ρ2,H2,vs++[v],by simp [hl],g1.trans g2,L2,fun i y u hu hy=>?_⟩
  by_cases e:i<k
  ·rw [List.getElem?_append_left (by omega)] at hu
   obtain ⟨b1,b2,b3,b4,b5⟩:=h1 i y u hu hy
   exact ⟨b1.grw g2,b2.mono g2.ext,b3,b4,b5⟩
  ·rw [List.getElem?_append_right (by omega)] at hu
   have e2:i=k:=by
    have:=ltOf hu
    simp at this;omega
   subst e2
   rw [hl,Nat.sub_self] at hu
   simp at hu;subst hu
   rw [List.getElem?_eq_getElem (show i<l.length by omega)] at hy
   simp only [Option.some.injEq] at hy;subst hy
   exact ⟨a1,a2,a3,a4,a5⟩
theorem add_block (x:Addr) (n:Nat):(x.add n).block=x.block∧(x.add n).off=x.off+n:=by
 unfold Addr.add;split
 ·rename_i h;subst h;exact ⟨rfl,rfl⟩
 ·exact ⟨rfl,rfl⟩
theorem lay_fw {y:FV} {w:Value} (h:FW W y w):Laid P W y w:=by
 induction h with
 | bool b=>exact fun ρ H L=>⟨ρ,H,_,.refl,L,.raw _,.bool b,rfl,rfl,rfl⟩
 | int k n=>exact fun ρ H L=>⟨ρ,H,_,.refl,L,.raw _,.int k n,rfl,rfl,rfl⟩
 | nil=>exact fun ρ H L=>⟨ρ,H,_,.refl,L,.nil,.nilSlice,rfl,rfl,rfl⟩
 | empty x=>
  intro ρ H L
  obtain ⟨ρ',H',g,L',hr,_⟩:=lay_add L [] none (fun q hq=>by cases hq)
  exact ⟨ρ',H',.slice (some ⟨H.n,0,none⟩) 0 0,g,L',.lst (sz:=1) (fun _ _=>undef) rfl ⟨_,hr⟩ hr (by omega) (by simp) (fun _=>Nat.le_refl _) (fun i x h=>by simp at h) (fun i x j y h=>by simp at h) (fun i x j y h=>by simp at h),.slice00 _ _,rfl,rfl,rfl⟩
 | lst ws hn hc hU h0 h hr ih=>
  rename_i l x n cap
  intro ρ H L
  obtain ⟨ρ1,H1,vs,hl,g1,L1,h1⟩:=lay_many ih L l.length (Nat.le_refl _)
  obtain ⟨u,hu⟩:=h0
  have hx:∃ C e fz,W.heap[x.block]? =some (.cells C e fz)∧x.spot=none:=by
   unfold World.cell? at hu
   split at hu
   ·rename_i C e fz hC
    split at hu
    ·cases hu
    ·rename_i hs
     exact ⟨C,e,fz,hC,by cases hq:x.spot<;>simp_all⟩
   ·cases hu
  obtain ⟨C,e,fz,hC,hsp⟩:=hx
  obtain ⟨ρ2,H2,g2,L2,hrow,hblk⟩:=lay_add L1 vs (some (x.block,x.off)) (fun q hq=>by
   simp only [Option.some.injEq] at hq;subst hq
   refine ⟨C,e,fz,hC,fun j v hj=>?_⟩
   have hj':j<l.length:=by rw [← hl];exact ltOf hj
   have hy:=List.getElem?_eq_getElem hj'
   refine ⟨ws j,?_,(h1 j _ v hj hy).2.1⟩
   have hcell:=h j _ hy
   unfold World.cell? at hcell
   obtain ⟨e1,e2⟩:=add_block x j
   rw [e1,hC] at hcell
   simp only [e2] at hcell
   split at hcell
   ·cases hcell
   ·exact hcell)
  refine ⟨ρ2,H2,.slice (some ⟨H1.n,0,none⟩) n cap,g1.trans g2,L2,?_,?_,rfl,rfl,rfl⟩
  ·refine .lst (sz:=1) (fun i _=>vs.getD i undef) hn ⟨_,hrow⟩ hrow (by omega) (by rw [hl];omega) (fun _=>hc) (fun i y hy=>?_) (fun i y j z hy hz=>?_) (fun i y j z hy hz=>?_)
   ·have hi:i<vs.length:=by rw [hl];exact ltOf hy
    rw [(h1 i y _ (List.getElem?_eq_getElem hi) hy).2.2.2.2];rfl
   ·have hi:i<vs.length:=by rw [hl];exact ltOf hy
    obtain ⟨b1,b2,b3,b4,b5⟩:=h1 i y _ (List.getElem?_eq_getElem hi) hy
    rw [b5] at hz
    obtain ⟨rfl,rfl⟩:j=0∧z=y:=by
     cases j with
     | zero=>simp at hz;exact ⟨rfl,hz.symm⟩
     | succ j=>simp at hz
    have hg:vs.getD i undef=vs[i]:=by simp [List.getD,hi]
    refine ⟨?_,?_,b4⟩
    ·rw [show 0+i*1+0=i by omega,List.getElem?_eq_getElem hi,hg]
    ·rw [hg];exact b3
   ·have hi:i<vs.length:=by rw [hl];exact ltOf hy
    obtain ⟨b1,b2,b3,b4,b5⟩:=h1 i y _ (List.getElem?_eq_getElem hi) hy
    rw [b5] at hz
    obtain ⟨rfl,rfl⟩:j=0∧z=y:=by
     cases j with
     | zero=>simp at hz;exact ⟨rfl,hz.symm⟩
     | succ j=>simp at hz
    have hg:vs.getD i undef=vs[i]:=by simp [List.getD,hi]
    rw [hg];exact b1.grw g2
  ·refine .slice ⟨rfl,_,hblk,?_⟩ ⟨hc,fun _=>rfl,fun i hi=>by omega⟩
   obtain ⟨b,o,s⟩:=x
   simp only at hsp;subst hsp;rfl
inductive FRD (H:Hp):DV→Value→Prop
 | f {x:FV} {v:Value} (h:FR (SH H) H x v):FRD H (.f x) v
 | agg {xs:List FV} {vs:List Value} (hl:vs.length=xs.length) (h:∀ (i:Nat) (x:FV) (v:Value),xs[i]? =some x→vs[i]? =some v→FR (SH H) H x v):FRD H (.agg (xs.map .f)) (.agg ⟨vs⟩)
theorem FRD.grw (g:Grw ρ H ρ' H') {d:DV} {v:Value} (h:FRD H d v):FRD H' d v:=by
 cases h with
 | f h=>exact .f (h.grw g)
 | agg hl h=>exact .agg hl fun i x v h1 h2=>(h i x v h1 h2).grw g
theorem FRD.dr {D:DH} {σ:Nat→Nat} {d:DV} {v:Value} (h:FRD H d v):DR ⟨σ,SH H,H,D⟩ d v:=by
 cases h with
 | f h=>exact .f h
 | agg hl h=>
  refine .agg (by simp [hl]) fun i d v h1 h2=>?_
  rw [List.getElem?_map] at h1
  obtain ⟨x,hx,rfl⟩:=Option.map_eq_some_iff.1 h1
  exact .f (h i x v hx h2)
theorem VRs.of_pt {vs:List Value} {ws:List Value} (hl:vs.length=ws.length) (h:∀ (i:Nat) (v w:Value),vs[i]? =some v→ws[i]? =some w→VR ρ v w):VRs ρ vs ws:=by
 refine .of_get hl.symm fun i v hv=>?_
 have hi:i<ws.length:=by rw [← hl];exact ltOf hv
 exact ⟨ws[i],List.getElem?_eq_getElem hi,h i v _ hv (List.getElem?_eq_getElem hi)⟩
theorem lay_dw {d:DV} {w:Value} (h:DW W d w) (L:Lay P W ρ H):∃ (ρ':Ren) (H':Hp) (v:Value),Grw ρ H ρ' H'∧Lay P W ρ' H'∧FRD H' d v∧VR ρ' v w:=by
 cases h with
 | f h=>
  obtain ⟨ρ',H',v,a1,a2,a3,a4,_⟩:=lay_fw h ρ H L
  exact ⟨ρ',H',v,a1,a2,.f a3,a4⟩
 | agg hl h=>
  rename_i xs ws
  obtain ⟨ρ',H',vs,b1,b2,b3,b4⟩:=lay_many (l:=xs) (ws:=fun i=>ws.getD i undef) (fun i y hy=>lay_fw (h i y _ hy (by
   have hi:i<ws.length:=by rw [hl];exact ltOf hy
   simp [List.getD,hi]))) L xs.length (Nat.le_refl _)
  refine ⟨ρ',H',.agg ⟨vs⟩,b2,b3,.agg b1 fun i x v hx hv=>(b4 i x v hv hx).1,.agg (VRs.of_pt (by rw [b1,hl]) fun i v w hv hw=>?_)⟩
  have hi:i<xs.length:=by rw [← b1];exact ltOf hv
  have:=(b4 i _ v hv (List.getElem?_eq_getElem hi)).2.1
  simpa [List.getD,hw] using this
theorem lay_args:∀ {ds:List DV} {ws:List Value},L2 (DW W) ds ws→∀ {ρ:Ren} {H:Hp},Lay P W ρ H→∃ (ρ':Ren) (H':Hp) (vs:List Value),Grw ρ H ρ' H'∧Lay P W ρ' H'∧vs.length=ds.length∧(∀ (i:Nat) (d:DV) (v:Value),ds[i]? =some d→vs[i]? =some v→FRD H' d v)∧VRs ρ' vs ws
 | _,_,.nil,ρ,H,L=>⟨ρ,H,[],.refl,L,rfl,fun i d v h=>by simp at h,.nil⟩
 | _,_,.cons h hs,ρ,H,L=>by
  obtain ⟨ρ1,H1,v,a1,a2,a3,a4⟩:=lay_dw h L
  obtain ⟨ρ2,H2,vs,b1,b2,b3,b4,b5⟩:=lay_args hs a2
  refine ⟨ρ2,H2,v::vs,a1.trans b1,b2,by simp [b3],fun i d u h1 h2=>?_,.cons (a4.mono b1.ext) b5⟩
  cases i with
  | zero=>simp at h1 h2;subst h1 h2;exact a3.grw b1
  | succ i=>simp at h1 h2;exact b4 i d u h1 h2
theorem lay_hr {σ:Nat→Nat} (L:Lay P W ρ H):HR ⟨σ,SH H,H,[]⟩:=by
 obtain ⟨⟨l,n,rfl⟩,R⟩:=L
 refine ⟨⟨R.dom,fun i c e k h=>?_⟩,fun b hb=>?_,fun o x h=>by simp at h,fun o b h=>?_,fun o o' b h=>?_,fun o k b cs e h=>?_,fun o o' k h=>?_⟩
 ·obtain ⟨c',_,h2⟩:=rowsHp_get h;cases h2
 ·obtain ⟨c,hc⟩:=hb
  obtain ⟨B,h1,h2⟩:=row_iff.1 hc
  exact ⟨B,c,h1,h2⟩
 ·obtain ⟨x,h1,_⟩:=h;simp at h1
 ·obtain ⟨x,h1,_⟩:=h;simp at h1
 ·rcases h with ⟨_,_,_,_,_,h1,_⟩ | ⟨_,_,_,_,h1,_⟩<;>simp at h1
 ·rcases h with ⟨_,_,_,_,_,h1,_⟩ | ⟨_,_,_,_,h1,_⟩<;>simp at h1
theorem calls_deep {Q:Par} {tb:Sub} (hQ:QOK Q tb) (hm:Q.P.follows .mixedOrders=true) (htb:SubOK Q.P tb) {f:FuncId} {ds:List DV} {D:DH} (h:callD Q f ds 0 []=some (.f (.raw (.bool true)),D)) {ws:List Value} (hw:L2 (DW W) ds ws) (hg:gsize Q.P≤W.heap.size) :
  Calls Q.P f ⟨ws⟩ W fun e w'=>e=.returned (.bool true)∧Below W.heap.size W w':=by
 obtain ⟨ρ,H,vs,_,L,a3,a4,a5⟩:=lay_args (P:=Q.P) hw (ρ:=ren0 Q.P) (H:=rowsHp [] (gsize Q.P)) ⟨⟨_,_,rfl⟩,rep0 (n:=gsize Q.P) (Nat.le_refl _) hg⟩
 obtain ⟨_,hs⟩:=run_sound hQ (callD_run.1 h)
 obtain ⟨C',v,c1,c2,c3,c4,N,c5⟩:=hs ⟨fun _=>0,SH H,H,[]⟩ vs rfl (lay_hr L) ⟨a3,fun i d v h1 h2=>(a4 i d v h1 h2).dr⟩ ⟨Nat.le_refl _,fun o x ho=>by omega⟩
 have hv:v=.bool true:=by
  cases c4 with
  | f h=>cases h;rfl
 subst hv
 refine Calls.mono (evF_ok hm (plansOf Q) htb N f vs H _ _ (c5 N (Nat.le_refl _)) ρ W ws a5 L.rep) fun e w' he=>?_
 obtain ⟨ρ',x,rfl,hx,_,hF⟩:=he
 obtain ⟨⟨l,n,rfl⟩,_⟩:=L
 refine ⟨by cases hx;rfl,hF.os,hF.tape,hF.output,hF.size,fun k hk=>hF.same k hk fun i B p h1 h2=>(rows_ro h1 h2).elim⟩
end Go.Dv
namespace Go.Dv
open Go Go.Sim
variable {P:Program} {D:DH} {base:Nat} {tm:Trie DV}
theorem bl_prt {L o n a b:Nat}:below L (.prt o n a b)=decide (o<L):=by simp [below]
theorem oneD_prt {o n a b:Nat}:oneD (.prt o n a b)=true:=rfl
theorem cD_prt {o n a b:Nat}:cellsD (.prt o n a b)=[.prt o n a b]:=rfl
theorem dp_prt {o n a b:Nat}:depV (some (.prt o n a b))=some o:=rfl
theorem normA_prt {o n a b:Nat}:normA (.prt o n a b)=.prt o n a b:=rfl
def elP (n off len:Nat):Option DObj→Option (List DV)
 | some (.app _ sz els)=>if els.length=n∧0<sz then some ((els.drop off).take len) else none
 | _=>none
theorem els_prt {o n off len:Nat}:elsOf D (.prt o n off len)=elP n off len D[o]?:=by
 simp only [elsOf]
 cases D[o]? with
 | none=>rfl
 | some x=>cases x<;>rfl
theorem elP_app {n off len e sz:Nat} {els:List DV}:elP n off len (some (.app e sz els))=if els.length=n∧0<sz then some ((els.drop off).take len) else none:=rfl
def ixP (T:SlT) (o m off len n:Nat):Option DObj→Option DV
 | some (.app _ sz els)=>if sz=T.sz∧els.length=m∧n<len then some (.rfa o m (off+n) 0) else none
 | _=>none
theorem ia_prt {T:SlT} {A:Option (Nat×Nat×TypeId)} {n o m off len:Nat}:dIndexA D (some T) A n (.prt o m off len)=ixP T o m off len n D[o]?:=by
 simp only [dIndexA]
 cases D[o]? with
 | none=>rfl
 | some x=>cases x<;>rfl
theorem ixP_app {T:SlT} {o m off len n e sz:Nat} {els:List DV}:ixP T o m off len n (some (.app e sz els))=if sz=T.sz∧els.length=m∧n<len then some (.rfa o m (off+n) 0) else none:=rfl
def lnP (n len:Nat):Option DObj→Option Nat
 | some (.app _ _ els)=>if els.length=n then some len else none
 | _=>none
theorem ln_prt {o n off len:Nat}:lenV D (.prt o n off len)=lnP n len D[o]?:=by
 simp only [lenV]
 cases D[o]? with
 | none=>rfl
 | some x=>cases x<;>rfl
theorem lnP_app {n len e sz:Nat} {els:List DV}:lnP n len (some (.app e sz els))=if els.length=n then some len else none:=rfl
theorem sl_apl {t:TypeId} {o n:Nat} {lo hi:Option Operand}:dSliceO P tm D t (some (.apl o n)) lo hi none=slK P D t (.apl o n) (bdD tm 0 lo) (hiB tm hi):=sl_K rfl
theorem s2_apl {t:TypeId} {l:Nat} {h:Option Nat} {o n:Nat}:dSlice2 P D t l h (.apl o n)=dSlice D (tSl P t) l h (.apl o n):=rfl
def dsA (T:SlT) (l:Nat) (h:Option Nat) (o len:Nat):Option DObj→Option DV
 | some (.app _ sz els)=>if sz=T.sz∧els.length=len∧0<len∧l≤h.getD len∧h.getD len≤len then some (.prt o len l (h.getD len-l)) else none
 | _=>none
theorem dS_apl {T:SlT} {l:Nat} {h:Option Nat} {o n:Nat}:dSlice D (some T) l h (.apl o n)=dsA T l h o n D[o]?:=by
 simp only [dSlice]
 cases D[o]? with
 | none=>rfl
 | some x=>cases x<;>rfl
theorem dsA_app {T:SlT} {l:Nat} {h:Option Nat} {o len e sz:Nat} {els:List DV}:dsA T l h o len (some (.app e sz els))=if sz=T.sz∧els.length=len∧0<len∧l≤h.getD len∧h.getD len≤len then some (.prt o len l (h.getD len-l)) else none:=rfl
def clO (base o n off len:Nat) (T:SlT) (D:DH):Option DObj→Option DRes
 | some (.app e sz els)=>if sz=1∧T.sz=1∧base≤o∧els.length=n∧off+len≤n then some (.val (.tup []) (D.set o (.app e sz (putAt els off (List.replicate len T.z))))) else none
 | _=>none
theorem bl_clear {t:TypeId} {o n off len:Nat} {T:SlT} (hT:tSl P t=some T):dBuiltin P D base [t] [.prt o n off len] .clear=clO base o n off len T D D[o]?:=by
 simp only [dBuiltin,dClear,hT]
 cases D[o]? with
 | none=>rfl
 | some x=>cases x<;>rfl
theorem clO_app {base o n off len e sz:Nat} {T:SlT} {els:List DV}:clO base o n off len T D (some (.app e sz els))=if sz=1∧T.sz=1∧base≤o∧els.length=n∧off+len≤n then some (.val (.tup []) (D.set o (.app e sz (putAt els off (List.replicate len T.z))))) else none:=rfl
attribute [simp] normA_prt bl_prt oneD_prt cD_prt dp_prt els_prt elP_app ia_prt ixP_app ln_prt lnP_app sl_apl s2_apl dS_apl dsA_app bl_clear clO_app
end Go.Dv
namespace Go.Dv
open Go Go.Sim
variable {P:Program} {D:DH} {base:Nat} {tm:Trie DV}
theorem bl_em {L:Nat}:below L .em=true:=by simp [below]
theorem bl_lv {L o v n:Nat}:below L (.lv o v n)=decide (o<L):=by simp [below]
theorem oneD_em:oneD .em=true:=rfl
theorem oneD_lv {o v n:Nat}:oneD (.lv o v n)=true:=rfl
theorem cD_em:cellsD .em=[.em]:=rfl
theorem cD_lv {o v n:Nat}:cellsD (.lv o v n)=[.lv o v n]:=rfl
theorem dp_em:depV (some .em)=none:=rfl
theorem dp_lv {o v n:Nat}:depV (some (.lv o v n))=some o:=rfl
theorem normA_em:normA .em=.em:=rfl
theorem normA_lv {o v n:Nat}:normA (.lv o v n)=.lv o v n:=rfl
theorem ln_em:lenV D .em=some 0:=rfl
theorem ln_lv {o v n:Nat}:lenV D (.lv o v n)=some n:=rfl
theorem els_em:elsOf D .em=some []:=rfl
def elN (ver len:Nat):Option DObj→Option (List DV)
 | some (.chn _ sz _ L)=>match headL (cutL ver L) with
  | some els=>if els.length=len∧0<sz then some els else none
  | none=>none
 | _=>none
theorem els_lv {o v n:Nat}:elsOf D (.lv o v n)=elN v n D[o]?:=by
 simp only [elsOf]
 cases D[o]? with
 | none=>rfl
 | some x=>cases x<;>rfl
theorem elN_chn {v n e sz ctr:Nat} {L:List (Nat×List DV)} {els:List DV} (h:headL (cutL v L)=some els):elN v n (some (.chn e sz ctr L))=if els.length=n∧0<sz then some els else none:=by
 simp only [elN,h]
theorem ap_em {T:SlT} {new:List DV}:dAppend D base T .em new=if bnd new.length T.by_∧0<new.length then some (.lv D.length 0 new.length,D++[.chn T.e T.sz 1 [(0,new)]]) else none:=rfl
def apN (D:DH) (base:Nat) (T:SlT) (o ver len:Nat) (new:List DV):Option DObj→Option (DV×DH)
 | some (.chn e sz ctr L)=>match headL (cutL ver L) with
  | some els=>if e=T.e∧sz=T.sz∧els.length=len∧base≤o∧bnd (len+new.length) T.by_∧0<new.length∧L.length<99 then some (.lv o ctr (len+new.length),D.set o (.chn e sz (ctr+1) ((ctr,els++new)::cutL ver L))) else none
  | none=>none
 | _=>none
theorem ap_lv {T:SlT} {o v n:Nat} {new:List DV}:dAppend D base T (.lv o v n) new=apN D base T o v n new D[o]?:=by
 simp only [dAppend]
 cases D[o]? with
 | none=>rfl
 | some x=>cases x<;>rfl
theorem apN_chn {T:SlT} {o v n e sz ctr:Nat} {L:List (Nat×List DV)} {els new:List DV} (h:headL (cutL v L)=some els):apN D base T o v n new (some (.chn e sz ctr L))=if e=T.e∧sz=T.sz∧els.length=n∧base≤o∧bnd (n+new.length) T.by_∧0<new.length∧L.length<99 then some (.lv o ctr (n+new.length),D.set o (.chn e sz (ctr+1) ((ctr,els++new)::cutL v L))) else none:=by
 simp only [apN,h]
theorem bn_em {op:BinOp} {t:TypeId} {x y:Operand} {b:Option DV}:dBin P op t x y (some .em) b=dNilCmp (tSl P t) op b:=rfl
theorem bn_lv {op:BinOp} {t:TypeId} {x y:Operand} {o v n:Nat} {b:Option DV}:dBin P op t x y (some (.lv o v n)) b=dNilCmp (tSl P t) op b:=rfl
theorem nc_eql {T:SlT}:dNilCmp (some T) .eql (some nilS)=some (rv (.bool false)):=rfl
theorem ob_chn {L e sz ctr:Nat} {l:List (Nat×List DV)}:objBelow L (.chn e sz ctr l)=l.all fun q=>q.2.all (below L):=rfl
theorem own_em {L:Nat} {l:List DV}:ownA L (.em::l)=ownA L l:=rfl
theorem own_lv {L o v n:Nat} {l:List DV}:ownA L (.lv o v n::l)=min o (ownA L l):=rfl
def geO (base:Nat) (tm:Trie DV) (t:Nat) (D:DH) (o:Nat):Option DObj→Option SD
 | some (.arr sz _)=>if base≤o∧0<sz then some ⟨tm.put t .em,D.set o .dead⟩ else none
 | _=>none
def geR (base:Nat) (tm:Trie DV) (t:Nat) (D:DH):Option DV→Option SD
 | some (.row o _ 0 0)=>geO base tm t D o D[o]?
 | some .em=>some ⟨tm,D⟩
 | some (.lv ..)=>some ⟨tm,D⟩
 | _=>none
theorem g_emp {t:Nat}:ghostD base ⟨tm,D⟩ (.emp t)=geR base tm t D (tm.get t):=by
 simp only [ghostD]
 cases tm.get t with
 | none=>rfl
 | some d=>
  cases d with
  | row o off n c=>
   cases n with
   | zero=>
    cases c with
    | zero=>
     show (match D[o]? with
      | some (.arr sz _)=>if base≤o∧0<sz then some ⟨tm.put t .em,D.set o .dead⟩ else none
      | _=>none)=geO base tm t D o D[o]?
     cases D[o]? with
     | none=>rfl
     | some x=>cases x<;>rfl
    | succ c=>rfl
   | succ n=>rfl
  | _=>rfl
theorem geR_row {t o i:Nat}:geR base tm t D (some (.row o i 0 0))=geO base tm t D o D[o]?:=rfl
theorem geR_em {t:Nat}:geR base tm t D (some .em)=some ⟨tm,D⟩:=rfl
theorem geR_lv {t o v n:Nat}:geR base tm t D (some (.lv o v n))=some ⟨tm,D⟩:=rfl
theorem geO_arr {t o sz:Nat} {els:List DV}:geO base tm t D o (some (.arr sz els))=if base≤o∧0<sz then some ⟨tm.put t .em,D.set o .dead⟩ else none:=rfl
attribute [simp] g_emp geR_row geR_em geR_lv geO_arr
attribute [simp] bl_em bl_lv oneD_em oneD_lv cD_em cD_lv dp_em dp_lv normA_em normA_lv ln_em ln_lv els_em els_lv ap_em ap_lv bn_em bn_lv nc_eql ob_chn own_em own_lv
end Go.Dv
