/- Texts of this proof, part SimB. -/
import Derived.Test.YtfjbdkmmoinngaaGreatDoorSimA
import Derived.Calls
import Derived.Orders
import Derived.Below
set_option linter.unusedVariables false
set_option linter.unusedSimpArgs false
set_option linter.unusedSectionVars false
noncomputable section
namespace Go.Sim
open Go Go.IntWalk
variable {P:Program} {ρ:Ren} {H:Hp} {W:World}
section apply
variable {fr:Frame} {cs:List Frame} {s:Sem Next} {W':World} {ops:Array Oper} {l:List Nat} {k:List Item}
 (hg:stepG P true { frame:=fr,callers:=cs,status:=.running,dying:=none } W=stepG.apply P true fr cs none s W) (ht:fr.todo=.inRegion ops l::k)
include hg
theorem zjx {x:Value} (hr:s.run P W=.ok (.value x) W'):step P (lone fr cs W)=.next (lone (fr.finish x) cs W'):=
 step_lone_go (by rw [hg];simp [stepG.apply,hr])
theorem zhy (hr:s.run P W=.ok .skip W'):step P (lone fr cs W)=.next (lone (fr.finish undef) cs W'):=
 step_lone_go (by rw [hg];simp [stepG.apply,hr])
theorem yzv {d:Deferred} (hr:s.run P W=.ok (.defer d) W'):step P (lone fr cs W)=.next (lone (({ fr with defers:=d::fr.defers }:Frame).finish undef) cs W'):=
 step_lone_go (by rw [hg];simp [stepG.apply,hr])
theorem yzw {v:Value} (hr:s.run P W=.halt (.panic v) W'):step P (lone fr cs W)=.next (lone (fr.raise [{ v,recovered:=false }]) cs W'):=
 step_lone_go (by rw [hg];simp [stepG.apply,hr])
theorem zft (hro:fr.roundOf=none) (hr:s.run P W=.ok .recover W'):step P (lone fr cs W)=match tryRecover fr cs with
  | some (v,cs')=>.next (lone (fr.finish v) cs' W')
  | none=>.next (lone (fr.finish .nilIface) cs W'):=by
 cases h:tryRecover fr cs with
 | none=>exact step_lone_go (by rw [hg];simp [stepG.apply,hr,hro,h])
 | some p=>obtain ⟨v,cs'⟩:=p;exact step_lone_go (by rw [hg];simp [stepG.apply,hr,hro,h])
include ht
theorem zjy {f:FuncId} {args:Array Value} (hr:s.run P W=.ok (.enter f args) W'):step P (lone fr cs W)=.next (lone (Frame.enter P f args .normal) (fr::cs) W'):=
 step_lone_go (by rw [hg];simp [stepG.apply,hr,ht])
theorem yzx {r:Nat} {f:FuncId} {tmps:Array Value} {asg body:Code} (hr:s.run P W=.ok (.round r f tmps asg body) W') :
  step P (lone fr cs W)=.next (lone (Frame.round r f tmps asg body .normal) (fr::cs) W'):=
 step_lone_go (by rw [hg];simp [stepG.apply,hr,ht])
end apply
theorem zla {fr c:Frame} {cs:List Frame} {W':World} (hk:fr.kind=.deferred):(match tryRecover fr (c::cs) with
  | some (v,cs')=>Stepped.next (lone (fr.finish v) cs' W')
  | none=>.next (lone (fr.finish .nilIface) (c::cs) W'))=.next (lone (fr.finish (zvn c.mode).1) ({ c with mode:=(zvn c.mode).2 }::cs) W'):=by
 obtain ⟨cfn,ctm,ctd,cds,cmd,ckd,cro⟩:=c
 unfold tryRecover
 rw [hk]
 rcases cmd with _ | _ | ch
 .rfl
 .rfl
 .rcases ch with _ | ⟨⟨v,rr,gg⟩,older⟩
  .rfl
  .cases rr<;>cases gg<;>rfl
theorem ziv {m m':FrameMode} (h:MR ρ m m'):VR ρ (zvn m).1 (zvn m').1/\MR ρ (zvn m).2 (zvn m').2:=by
 cases h with
 | run=>exact ⟨.nilIface,.run⟩
 | returning=>exact ⟨.nilIface,.returning⟩
 | panicking hc=>
  cases hc with
  | nil=>exact ⟨.nilIface,.panicking .nil⟩
  | cons he hs=>
   rename_i e e' l l';obtain ⟨v,r,g⟩:=e;obtain ⟨v',r',g'⟩:=e';obtain ⟨h1,h2,h3⟩:=he;simp only at h1 h2 h3;subst h2 h3;cases r' with
   | true=>exact ⟨.nilIface,.panicking (.cons ⟨h1,rfl,rfl⟩ hs)⟩
   | false=>
    cases g' with
    | true=>exact ⟨.nilIface,.panicking (.cons ⟨h1,rfl,rfl⟩ hs)⟩
    | false=>exact ⟨h1,.panicking (.cons ⟨h1,rfl,rfl⟩ hs)⟩
theorem zjz {f:AFrame} {fr:Frame} (F:FR ρ f fr) {ch ch':List PanicEntry} (h:L2 (PR ρ) ch ch'):FR ρ ⟨f.tm,f.todo,f.k.withMode (ymy ch f.k.mode)⟩ (fr.raise ch'):=by
 obtain ⟨tm,todo,K⟩:=f;obtain ⟨fn,nt,ds,md,kd,ro⟩:=K;obtain ⟨F1,F2,F3,F4,F5,F6,F7⟩:=F;simp only at F1 F2 F3 F4 F5 F6 F7;unfold Frame.raise;generalize hm:fr.mode=md' at F5;cases F5 with
 | run=>exact ⟨F1,F2,F3,F4,.panicking h,F6,F7⟩
 | returning=>exact ⟨F1,F2,F3,F4,.panicking h,F6,F7⟩
 | panicking hc=>exact ⟨F1,F2,F3,F4,.panicking (h.append hc),F6,F7⟩
theorem zwh {cs:List AFrame} {H:Hp} {o:Option AFrame} {c':Cfg} (h:znn cs H o=some c'):∃ f,o=some f/\c'=⟨f.tm,f.todo,f.k,cs,H⟩:=by
 unfold znn at h;split at h
 .simp at h;exact ⟨_,rfl,h.symm⟩
 .simp at h
theorem zj0 (R:Rep P ρ H W) {f:AFrame} {fr:Frame} {cs:List AFrame} {cs':List Frame} (F:FR ρ f fr) (hmode:f.k.mode=.run) (Cs:L2 (FR ρ) cs cs') {s:Sem Next} {r:ARes} {c':Cfg} (h:zjk P f cs H r=some c')
  (hg:∀ below,stepG P true { frame:=fr,callers:=cs'++below,status:=.running,dying:=none } W=stepG.apply P true fr (cs'++below) none s W)
  {ops:Array Oper} {l:List Nat} {k:List Item} (ht:fr.todo=.inRegion ops l::k) (hr:zxy P ρ H W (s.run P W) r):zus P ρ H W fr cs' c':=by
 cases r with
 | val v H'=>
  obtain ⟨g,hg',rfl⟩:=zwh h;obtain ⟨ρ',x,W',hres,hv,hR,hF⟩:=hr;have F':=zxp hg' (F.mono hF.ext) hv;rcases hres with e | ⟨e,rfl⟩
  .exact zus.one (λbelow=>zjx (hg below) e) ⟨F',Cs.mono λ_ _=>FR.mono hF.ext,hR⟩ hF
  .exact zus.one (λbelow=>zhy (hg below) e) ⟨F',Cs.mono λ_ _=>FR.mono hF.ext,hR⟩ hF
 | enter g args=>
  obtain ⟨e,he,rfl⟩:=zwh h;obtain ⟨xs,hres,hx⟩:=hr;exact zus.one (cs':=fr::cs') (λbelow=>zjy (hg below) ht hres) ⟨zt4 he hx,.cons F Cs,R⟩ (.refl ρ H W)
 | yield y args=>
  obtain ⟨e,he,rfl⟩:=zwh h;obtain ⟨p,xs,hp,hres,hx⟩:=hr;obtain ⟨g,tmps,asg,body,g1,g2⟩:=yzu R he hp hx;exact zus.one (cs':=fr::cs') (λbelow=>yzx (hg below) ht (hres.trans g1)) ⟨g2,.cons F Cs,R⟩ (.refl ρ H W)
 | defer d=>
  obtain ⟨tm,todo,K⟩:=f;simp only [zjk] at h;split at h
  .rename_i hro;obtain ⟨e,he,rfl⟩:=zwh h;obtain ⟨d',hres,hd⟩:=hr;obtain ⟨fn,nt,ds,md,kd,ro⟩:=K;obtain ⟨F1,F2,F3,F4,F5,F6,F7⟩:=F;have F':=zxp (fr:={ fr with defers:=d'::fr.defers }) he ⟨F1,F2,F3,.cons hd F4,F5,F6,F7⟩ (VR.undef (ρ:=ρ));exact zus.one (λbelow=>yzv (hg below) hres) ⟨F',Cs,R⟩ (.refl ρ H W)
  .simp at h
 | recover=>
  obtain ⟨tm,todo,K⟩:=f;simp only [zjk] at h;split at h
  .rename_i hro;have hro':fr.roundOf=none:=(by have:=F.round;rw [hro] at this;generalize fr.roundOf=q at this;cases this;rfl);split at h
   .rename_i v cs2 hrec;obtain ⟨e,he,rfl⟩:=zwh h;unfold yx9 at hrec;split at hrec
    .rename_i hk;split at hrec
     .rename_i tm2 todo2 K2 rest;simp only [tza,tzl] at hrec;obtain ⟨rfl,rfl⟩:=hrec;obtain ⟨c,cs2',rfl,hc,hcs⟩:=Cs.cons_inv;have hkind:fr.kind=.deferred:=F.kind.trans hk;obtain ⟨m1,m2⟩:=ziv hc.mode;have hstep:=λbelow=>zft (hg below) hro' hr;have F':=zxp he F m1;obtain ⟨fn2,nt2,ds2,md2,kd2,ro2⟩:=K2;obtain ⟨C1,C2,C3,C4,C5,C6,C7⟩:=hc;refine zus.one (fr':=fr.finish (zvn c.mode).1) (cs':={ c with mode:=(zvn c.mode).2 }::cs2') (W':=W) (λbelow=>?_) ⟨F',.cons ⟨C1,C2,C3,C4,m2,C6,C7⟩ hcs,R⟩ (.refl ρ H W);rw [hstep below];exact zla hkind
     .simp at hrec
    .simp at hrec
   .simp at h
  .simp at h
 | panic v=>
  obtain ⟨x,hres,hv⟩:=hr;simp only [zjk,tza] at h;subst h;exact zus.one (λbelow=>yzw (hg below) hres) ⟨zjz F (.cons ⟨hv,rfl,rfl⟩ .nil),Cs,R⟩ (.refl ρ H W)
end Go.Sim
namespace Go.Sim
open Go Go.IntWalk
variable {P:Program} {ρ:Ren} {H:Hp} {W:World}
theorem zj1 {fr:Frame} (hm:fr.mode=.run):fr=fr.atR ⟨fr.tmps,fr.defers⟩ fr.todo:=by
 cases fr;simp at hm;subst hm;rfl
theorem zus.head {fr fr1:Frame} {cs cs1:List Frame} {W1:World} {ρ1:Ren} {H1:Hp} {c':Cfg} (h:∀ below,step P (lone fr (cs++below) W)=.next (lone fr1 (cs1++below) W1)) (hf:Fr ρ ρ1 H H1 W W1)
  (g:zus P ρ1 H1 W1 fr1 cs1 c'):zus P ρ H W fr cs c':=λbelow=>
 let ⟨ρ',fr',cs',W',s,c,f⟩:=g below
 ⟨ρ',fr',cs',W',.head (h below) s,c,hf.trans f⟩
theorem zr6 {f:AFrame} {fr:Frame} (F:FR ρ f fr) (h:f.k.mode=.run):fr.mode=.run:=by
 have:=F.mode;rw [h] at this;generalize fr.mode=m at this;cases this;rfl
theorem zrc {ops:Array Oper} {all:List Oper} (ha:ops.toList=all) {tm:Trie Value} {nt:Nat} {tmps:Array Value} (ht:TR ρ tm nt tmps) (o:Oper):Region.wanted o (yielded ops tmps)=zyp all tm o.guard:=by
 unfold Region.wanted zyp;cases o.guard with
 | none=>rfl
 | some g=>
  obtain ⟨j,want⟩:=g;simp only;unfold yielded zoq;have e:all[j]? =ops[j]?:=by rw [<-ha,txy]
  rw [e];cases hj:ops[j]? with
  | none=>simp
  | some oj=>
   simp only [tzn];cases hd:oj.dst with
   | none=>simp
   | some d=>
    simp only [tzn];have h2:=ht.2 d;rw [tyc] at h2;cases hg:tm.get d with
    | none=>
     rw [hg] at h2;simp only [Option.getD_none] at h2;have:∀ b,tmps[d]?≠some (.bool b):=λb hb=>by rw [hb] at h2;simp only [tye] at h2;unfold undef at h2;cases h2
     simp only;rfl
    | some v=>
     rw [hg] at h2;simp only [tye] at h2;cases v with
     | bool b=>
      cases hx:tmps[d]? with
      | none=>rw [hx] at h2;simp only [Option.getD_none] at h2;unfold undef at h2;cases h2
      | some x=>
       rw [hx] at h2;simp only [tye] at h2;rw [h2.bool_eq];cases b<;>cases want<;>rfl
     | _=>
      have:∀ b,tmps[d]?≠some (.bool b):=λb hb=>by rw [hb] at h2;simp only [tye] at h2;cases h2
      simp only;rfl
def zsl (P:Program) (sub:Sub):Prop:=∀ (f:FuncId) (args:List Value) (H:Hp) (v:Value) (H':Hp),sub f args H=some (v,H')->∀ (ρ:Ren) (W:World) (xs:List Value),VRs ρ args xs->Rep P ρ H W ->
 Calls P f ⟨xs⟩ W λe w'=>∃ ρ' x,e=.returned x/\VR ρ' v x/\Rep P ρ' H' w'/\Fr ρ ρ' H H' W w'
theorem zvv {sum:Sub} (hsum:zsl P sum) {all:List Oper} {k:List AItem} {K:AK} {cs:List AFrame} (hmode:K.mode=.run) {c':Cfg}:∀ (rest:List Oper) (i:Nat) (tm:Trie Value) (H:Hp) (ρ:Ren) (W:World) (fr:Frame) (cs':List Frame),
  FR ρ ⟨tm,.ops all i rest::k,K⟩ fr->L2 (FR ρ) cs cs'->Rep P ρ H W->zsh P sum all k K cs rest i tm H=some c'->zus P ρ H W fr cs' c'
 | [],i,tm,H,ρ,W,fr,cs',F,Cs,R,h=>by
  have h:some (⟨tm,k,K,cs,H⟩:Cfg)=some c':=h
  simp at h;subst h
  have hm:=zr6 F hmode
  obtain ⟨b,k',e,hb,hk⟩:=F.todo.cons_inv
  cases hb with
  | ops ha hr=>
   rename_i ops
   refine zus.one (fr':={ fr with todo:=k' }) (cs':=cs') (W':=W) (ρ':=ρ) (λbelow=>?_) ⟨⟨F.fn,F.tm,hk,F.defers,F.mode,F.kind,F.round⟩,Cs,R⟩ (.refl ρ H W)
   rw [zj1 hm,e]
   exact stepR_region_end
 | o::rest,i,tm,H,ρ,W,fr,cs',F,Cs,R,h=>by
  have h:(match zyp all tm o.guard with
   | true=>yft P sum tm o (zsh P sum all k K cs rest) all i rest k K cs H (zw4 o.op P tm H)
   | false=>zsh P sum all k K cs rest (Nat.succ i) (put tm K.nt o.dst undef) H)=some c':=h
  have hm:=zr6 F hmode
  obtain ⟨b,k',e,hb,hk⟩:=F.todo.cons_inv
  cases hb with
  | ops ha hr=>
   rename_i ops
   have ho:ops[i]? =some o:=by
    rw [<-txy,ha]
    have:(all.drop i)[0]? =some o:=by rw [<-hr];rfl
    simpa using this
   rw [tzd,zjw] at e
   have hfin:zv1 undef ⟨tm,.ops all i (o::rest)::k,K⟩=some ⟨put tm K.nt o.dst undef,.ops all (i+1) rest::k,K⟩:=rfl
   have hw:=zrc ha F.tm o
   split at h
   .rename_i hwt
    rw [hwt] at hw
    have hsem:∀ r,zw4 o.op P tm H=some r->(fr.roundOf=none∨∀ d,r≠.defer d)->Oper.semAt fr.roundOf (⟨fr.tmps,fr.defers⟩:Act).eval o=execOp (⟨fr.tmps,fr.defers⟩:Act).eval o:=by
     intro r hr2 hor
     cases hro:fr.roundOf with
     | none=>rfl
     | some l=>
      refine Oper.semAt_eq _ _ _ λc hc=>?_
      rw [hro] at hor
      rcases hor with g | g
      .cases g
      .have h2:zop P tm c=some r:=by rw [hc] at hr2;exact hr2
       unfold zop at h2
       split at h2
       .grind
       .simp at h2
    have hg:∀ r,zw4 o.op P tm H=some r->(fr.roundOf=none∨∀ d,r≠.defer d)->∀ below,stepG P true { frame:=fr,callers:=cs'++below,status:=.running,dying:=none } W=stepG.apply P true fr (cs'++below) none (execOp (⟨fr.tmps,fr.defers⟩:Act).eval o) W:=by
     intro r hr2 hor below
     have:=stepGR_op (P:=P) (b:=fr) (a:=⟨fr.tmps,fr.defers⟩) (k:=k') (cs:=cs'++below) (w:=W) (ops:=ops) (i:=i) (rest:=List.range' (i+1) rest.length) ho hw
     rw [hsem r hr2 hor,<-e,<-zj1 hm] at this
     exact this
    unfold yft at h
    split at h
    .rename_i v H' hop
     have hres:=zto (a:=⟨fr.tmps,fr.defers⟩) R F.tm hop
     have hg':=hg _ hop (.inr λd hd=>by cases hd)
     obtain ⟨ρ',x,W',hres,hv,hR,hF⟩:=hres
     have F':=zxp (f':=⟨put tm K.nt o.dst v,.ops all (i+1) rest::k,K⟩) rfl (F.mono hF.ext) hv
     refine zus.head (fr1:=fr.finish x) (cs1:=cs') (W1:=W') (λbelow=>?_) hF (zvv hsum hmode rest (i+1) _ H' ρ' W' (fr.finish x) cs' F' (Cs.mono λ_ _=>FR.mono hF.ext) hR h)
     rcases hres with e' | ⟨e',rfl⟩
     .exact zjx (hg' below) e'
     .exact zhy (hg' below) e'
    .rename_i f args hop
     have hres:=zto (a:=⟨fr.tmps,fr.defers⟩) R F.tm hop
     have hg':=hg _ hop (.inr λd hd=>by cases hd)
     unfold ym0 at h
     split at h
     .rename_i v H' hs
      obtain ⟨xs,hres,hx⟩:=hres
      intro below
      obtain ⟨ee,w',fr2,⟨ρ',x,rfl,hv,hR,hF⟩,hcomes,hfn,hleave⟩:=hsum f args H v H' hs ρ W xs hx R (fr::(cs'++below))
      have F':=zxp (f':=⟨put tm K.nt o.dst v,.ops all (i+1) rest::k,K⟩) rfl (F.mono hF.ext) hv
      obtain ⟨ρ2,fr3,cs3,W3,s3,c3,f3⟩:=zvv hsum hmode rest (i+1) _ H' ρ' w' (fr.finish x) cs' F' (Cs.mono λ_ _=>FR.mono hF.ext) hR h below
      exact ⟨ρ2,fr3,cs3,W3,(Steps.head (zjy (hg' below) e hres) hcomes).trans (.head (step_leave_returned hleave) s3),c3,hF.trans f3⟩
     .exact zj0 R (f:=⟨tm,.ops all i (o::rest)::k,K⟩) F hmode Cs h hg' e hres
    .rename_i r _ _ hop
     have hres:=zto (a:=⟨fr.tmps,fr.defers⟩) R F.tm hop
     refine zj0 R (f:=⟨tm,.ops all i (o::rest)::k,K⟩) F hmode Cs h (hg r hop ?_) e hres
     cases r with
     | defer d=>
      left
      simp only [zjk] at h
      split at h
      .rename_i hro
       have:=F.round
       rw [hro] at this
       generalize fr.roundOf=q at this
       cases this;rfl
      .simp at h
     | _=>exact .inr λd hd=>by cases hd
    .simp at h
   .rename_i hwt
    rw [hwt] at hw
    have F':=zxp hfin F (VR.undef (ρ:=ρ))
    refine zus.head (fr1:=fr.finish undef) (cs1:=cs') (W1:=W) (λbelow=>?_) (.refl ρ H W) (zvv hsum hmode rest (i+1) _ H ρ W (fr.finish undef) cs' F' Cs R h)
    have:=stepR_op_skip (P:=P) (b:=fr) (a:=⟨fr.tmps,fr.defers⟩) (k:=k') (cs:=cs'++below) (w:=W) (ops:=ops) (i:=i) (rest:=List.range' (i+1) rest.length) (by rw [ho];simp [hw])
    rw [<-Frame.finish_atR,<-e,<-zj1 hm] at this
    exact this
theorem ziw (R:Rep P ρ H W) {l:Nat} {jump:Option Code} {v:Value} {H':Hp} (h:zw5 H l jump=some (v,H')) {p:Nat×Nat} (hp:ρ.blk l=some p) :
  VR ρ v v/\∃ W',(Instr.endRound p.1 jump).run P W=.ok v W'/\Rep P ρ H' W'/\Fr ρ ρ H H' W W':=by
 unfold zw5 at h;split at h
 .rename_i st pend fn tm nt ps asg body ds hr;obtain ⟨l',h1,h2⟩:=R.loopBlk hr hp;obtain ⟨a1,a2,a3,a4,a5,a6,a7,a8⟩:=h2;split at h
  .simp at h;obtain ⟨rfl,rfl⟩:=h;obtain ⟨g1,g2⟩:=R.putLoop hr hp (r2:=⟨.ready,none,fn,tm,nt,ps,asg,body,ds⟩) (l2:={ l' with state:=.ready,pending:=none }) ⟨rfl,rfl,a3,a4,a5,a6,a7,a8⟩;refine ⟨.bool _,_,?_,g1,g2⟩;unfold Instr.endRound;simp only [tzz,zvj h1,tzm,zt5 _ h1];rfl
  rename_i j;simp at h;obtain ⟨rfl,rfl⟩:=h;obtain ⟨g1,g2⟩:=R.putLoop hr hp (r2:=⟨.done,some j,fn,tm,nt,ps,asg,body,ds⟩) (l2:={ l' with state:=.done,pending:=some j }) ⟨rfl,rfl,a3,a4,a5,a6,a7,a8⟩;refine ⟨.bool _,_,?_,g1,g2⟩;unfold Instr.endRound;simp only [tzz,zvj h1,tzm,zt5 _ h1];rfl
 .simp at h
theorem yzy (R:Rep P ρ H W) {l:Nat} {tm:Trie Value} {k:List AItem} {K:AK} {cs:List AFrame} {c':Cfg} (h:(zxn H l).bind (zd3 tm k K cs H l)=some c') {p:Nat×Nat} (hp:ρ.blk l=some p) :
  ∃ H' W',c'=⟨tm,k,K,cs,H'⟩/\(Instr.beginRound p.1).run P W=.ok () W'/\Rep P ρ H' W'/\Fr ρ ρ H H' W W':=by
 obtain ⟨r,hr,h⟩:=tzh.1 h;obtain ⟨l',h1,h2⟩:=R.loopBlk hr hp;unfold zd3 at h;split at h;rename_i st pend fn tm' nt ps asg body ds;obtain ⟨a1,a2,a3,a4,a5,a6,a7,a8⟩:=h2;split at h
 .simp at h;subst h;obtain ⟨g1,g2⟩:=R.putLoop hr hp (r2:=⟨.busy,pend,fn,tm',nt,ps,asg,body,ds⟩) (l2:={ l' with state:=.busy }) ⟨rfl,a2,a3,a4,a5,a6,a7,a8⟩;refine ⟨_,_,rfl,?_,g1,g2⟩;unfold Instr.beginRound;simp only [tzz,zvj h1,tzm,zt5 _ h1];simp only at a1;rw [a1];rfl
 .simp at h
theorem ylg (R:Rep P ρ H W) {l:Nat} {tm:Trie Value} {k:List AItem} {K:AK} {cs:List AFrame} {c':Cfg} (h:(zxn H l).bind (xx0 tm k K cs H l)=some c') {p:Nat×Nat} (hp:ρ.blk l=some p) :
  ∃ H' W' jump,c'=⟨tm,(match jump with | some j=>.code j::k | none=>k),K,cs,H'⟩/\(Instr.endLoop p.1).run P W=.ok jump W'/\Rep P ρ H' W'/\Fr ρ ρ H H' W W':=by
 obtain ⟨r,hr,h⟩:=tzh.1 h;obtain ⟨l',h1,h2⟩:=R.loopBlk hr hp;unfold xx0 at h;split at h;rename_i st pend fn tm' nt ps asg body ds;obtain ⟨a1,a2,a3,a4,a5,a6,a7,a8⟩:=h2;split at h
 .simp at h
 rename_i hst;simp at h;subst h;obtain ⟨g1,g2⟩:=R.putLoop hr hp (r2:=⟨.exhausted,pend,fn,tm',nt,ps,asg,body,ds⟩) (l2:={ l' with state:=.exhausted }) ⟨rfl,a2,a3,a4,a5,a6,a7,a8⟩;refine ⟨_,_,pend,rfl,?_,g1,g2⟩;unfold Instr.endLoop;simp only [tzz,zvj h1,tzm];simp only at a1 a2;have:¬(l'.state==LoopState.busy)=true:=(by simp_all);rw [if_neg this];simp only [tzz,zt5 _ h1,tzm,a2];rfl
end Go.Sim
namespace Go.Sim
open Go Go.IntWalk
variable {P:Program} {ρ:Ren} {H:Hp} {W:World}
def yd0 (P:Program) (draw:xxd):Prop:=∀ (fn:FuncId) (id:Nat) (ops:Array Oper) (tm:Trie Value) (nt:Nat) (H:Hp) (tm':Trie Value) (H':Hp),draw fn id ops.toList tm nt H=some (tm',H') ->
 ∀ (ρ:Ren) (a:Act) (W:World),TR ρ tm nt a.tmps->Rep P ρ H W ->
  (Code.region id ops true).wp P (λe a' w'=>e=.normal/\a'.defers=a.defers/\∃ ρ',TR ρ' tm' nt a'.tmps/\Rep P ρ' H' w'/\Fr ρ ρ' H H' W w') a W
def yf0 (P:Program) (E:Env):Prop:=yd0 P E.1/\zsl P E.2
theorem zj2 (R:Rep P ρ H W) {fn:FuncId} {tm:Trie Value} {nt:Nat} {ps:Array Tmp} {asg body:Code} {ro:Option Nat} {mark:List Deferred} {H2:Hp} (h:zww fn tm nt ps asg body ro H=some (mark,H2)) {tmps:Array Value} (ht:TR ρ tm nt tmps) {ro':Option Nat} (hro:RO ρ ro ro') :
  ∃ ρ' l mark' W',(Instr.enterLoop fn tmps ps asg body ro').run P W=.ok (l,mark') W'/\L2 (DR ρ') mark mark'/\Rep P ρ' H2 W'/\Fr ρ ρ' H H2 W W'/\ρ'.blk (Nat.pred H2.n)=some (l,0):=by
 unfold zww at h;cases hro with
 | some hp=>
  rename_i l p;simp only at h;split at h
  .rename_i r hr;obtain ⟨l',h1,h2⟩:=R.loopBlk hr hp;obtain ⟨q,hq1,hq2⟩:=h2.defers;simp only [tza,tzl] at h;obtain ⟨rfl,rfl⟩:=h;have hext:=Ren.ext_add (R.new _ (tzp _)) (W.heap.size,0) 0
   obtain ⟨g1,g2⟩:=R.newObj (B:=.loop ⟨.ready,none,fn,tm,nt,ps,asg,body,r.defers⟩) (o:=.loop { state:=.ready,pending:=none,fn,tmps,params:=ps,assign:=asg,body,defers:=l'.defers }) trivial
    ⟨({ state:=.ready,pending:=none,fn,tmps,params:=ps,assign:=asg,body,defers:=l'.defers }:Loop),(by show (W.heap.push _)[W.heap.size]? =_;simp),⟨rfl,rfl,rfl,ht.mono hext,rfl,rfl,rfl,q,(hext _ _ hq1).1,hq2⟩⟩
   refine ⟨_,W.heap.size,[],_,?_,.nil,g1,g2,by rw [Hp.n_new];exact Ren.add_same _ _ _ _⟩;unfold Instr.enterLoop;simp only [tzz,zvj h1,tzm,txh];rfl
  .simp at h
 | none=>
  simp only [tza,tzl] at h;obtain ⟨rfl,rfl⟩:=h;obtain ⟨g1,g2⟩:=R.newObj (B:=.defs (some [])) (o:=.deferred (some [])) trivial ⟨[],(by show (W.heap.push _)[W.heap.size]? =_;simp),.nil⟩;have hblk:(ρ.add H.n (W.heap.size,0) 0).blk H.n=some (W.heap.size,0):=Ren.add_same _ _ _ _;have hext:=Ren.ext_add (g1.new _ (tzp _)) ((W.alloc (.deferred (some []))).heap.size,0) 0
  obtain ⟨k1,k2⟩:=g1.newObj (B:=.loop ⟨.ready,none,fn,tm,nt,ps,asg,body,H.n⟩) (o:=.loop { state:=.ready,pending:=none,fn,tmps,params:=ps,assign:=asg,body,defers:=W.heap.size }) trivial
   ⟨({ state:=.ready,pending:=none,fn,tmps,params:=ps,assign:=asg,body,defers:=W.heap.size }:Loop),(show ((W.alloc _).heap.push _)[(W.alloc _).heap.size]? =_ from Array.getElem?_push_size),⟨rfl,rfl,rfl,(ht.mono g2.ext).mono hext,rfl,rfl,rfl,_,(hext _ _ hblk).1,rfl⟩⟩
  refine ⟨_,(W.alloc (.deferred (some []))).heap.size,[{ target:=.collected W.heap.size,args:=#[] }],_,?_,.cons (.collected (hext _ _ hblk).1) .nil,k1,g2.trans k2,by rw [Hp.n_new];exact Ren.add_same _ _ _ _⟩;rfl
theorem zcn {f:Operand} {ps:Array Tmp} {asg body:Code} {k:List AItem} {c c':Cfg} {fr:Frame} {cs:List Frame} (hm:c.k.mode=.run) (h:ywb P f ps asg body k c=some c') (C:CR P ρ c fr cs W) (hc:c.todo=.code (.rangeFunc f ps asg body)::k):zus P ρ c.H W fr cs c':=by
 obtain ⟨tm,todo,K,cs0,H⟩:=c;simp only at hm hc;subst hc;obtain ⟨F,Cs,R⟩:=C;simp only at F Cs R;have hrun:=zr6 F hm;obtain ⟨b,k',e,hb,hk⟩:=F.todo.cons_inv;cases hb with
 | code _=>
  simp only [ywb] at h;split at h
  .rename_i mark H2 hen;obtain ⟨fn,nt,ds,md,kd,ro⟩:=K;simp only at hen hm;obtain ⟨ρ',l,mark',W',h1,h2,h3,h4,h5⟩:=zj2 R hen F.tm F.round;unfold ywa at h;split at h
   .rename_i v hv;split at h
    .rename_i g args hinv;obtain ⟨q,hq,rfl⟩:=zwh h;have ht':TR ρ' tm nt (⟨fr.tmps,mark'++fr.defers⟩:Act).tmps:=F.tm.mono h4.ext;have hvx:=zzk h3 ht' hv;have hargs:VRs ρ' [.func (.yield (Nat.pred H2.n)) #[] #[]] [.func (.yield l) #[] #[]]:=.cons (.func (.yield _ _ h5) .nil .nil) .nil;have hres:=zt3 (H:=H2) (W:=W') hinv hvx hargs;obtain ⟨xs,hx1,hx2⟩:=hres;have F':=FR.mono h4.ext F;refine zus.one (fr':=Frame.enter P g ⟨xs⟩ .normal) (cs':=fr.atR ⟨fr.tmps,mark'++fr.defers⟩ (.inRangeFunc l::k')::cs) (W':=W') (ρ':=ρ') (λbelow=>?_) ⟨zt4 hq hx2,.cons ⟨F'.fn,F'.tm,.cons (.inRange h5) (hk.mono λ_ _=>IR.mono h4.ext),h2.append F'.defers,by rw [hm];exact .run,F'.kind,F'.round⟩ (Cs.mono λ_ _=>FR.mono h4.ext),h3⟩ h4;rw [zj1 hrun,e];have hev:(⟨fr.tmps,mark'++fr.defers⟩:Act).eval f=(⟨fr.tmps,fr.defers⟩:Act).eval f:=by cases f<;>rfl
     rw [hev] at hx1;rw [tzz] at hx1;cases hd:(Deferred.ofValue ((⟨fr.tmps,fr.defers⟩:Act).eval f) ⟨[.func (.yield l) #[] #[]]⟩).run P W' with
     | halt h w=>rw [hd] at hx1;simp at hx1
     | ok d w=>
      rw [hd] at hx1;simp only [tzm] at hx1
      exact stepR_rangeFunc (P:=P) (b:=fr) (a:=⟨fr.tmps,fr.defers⟩) (k:=k') (cs:=cs++below) (w:=W) (g:=f) (ps:=ps) (assign:=asg) (body:=body) (by rw [F.fn];exact h1) (by
       simpa [resolve,Act.eval] using hd) hx1
    .simp at h
   .simp at h
  .simp at h
theorem zt6 (R:Rep P ρ H W) {tm:Trie Value} {nt:Nat} {tmps:Array Value} (ht:TR ρ tm nt tmps):∀ {l:List ResultVar} {vs:List Value},zvm P H tm l=some vs ->
  ∃ xs,VRs ρ vs xs/\∀ g:ResultVar->Sem Value,(∀ t,g (.tmp t)=pure (tmps.getD t undef))->(∀ a t,g (.cell a t)=(do loadVar t (<-asAddr (tmps.getD a undef))))->(l.mapM g).run P W=.ok xs W
 | [],vs,h=>by simp [zvm] at h;subst h;exact ⟨[],.nil,λ_ _ _=>rfl⟩
 | .tmp t::l,vs,h=>by
  simp only [zvm] at h
  split at h
  .rename_i r hr
   simp at h;subst h
   obtain ⟨xs,g1,g2⟩:=zt6 R ht hr
   refine ⟨_,.cons (ht.2 t) g1,λg e1 e2=>?_⟩
   rw [List.mapM_cons]
   simp only [tzz,txh,tzm,e1,g2 g e1 e2]
  .simp at h
 | .cell a t::l,vs,h=>by
  simp only [zvm] at h
  split at h
  .rename_i i o ha
   split at h
   .rename_i v hv
    split at h
    .rename_i r hr
     simp at h;subst h
     obtain ⟨xs,g1,g2⟩:=zt6 R ht hr
     have e:=zpc ha
     have h2:=ht.2 a
     rw [e] at h2
     generalize hy:tmps.getD a undef=y at h2
     cases h2 with
     | ptr hA=>
      obtain ⟨x,k1,k2⟩:=zhr R hv hA
      refine ⟨_,.cons k1 g1,λg e1 e2=>?_⟩
      rw [List.mapM_cons]
      simp only [tzz,txh,tzm,e2,hy,asAddr,k2,g2 g e1 e2]
    .simp at h
   .simp at h
  .simp at h
theorem zmq (R:Rep P ρ H W) {tm:Trie Value} {nt:Nat} {tmps:Array Value} (ht:TR ρ tm nt tmps) {f:FuncId} {v:Value} (h:zuh P H f tm=some v) :
  ∃ fn x,P.funcs[f]? =some fn/\VR ρ v x/\(results fn tmps).run P W=.ok x W:=by
 unfold zuh at h;split at h;rotate_left
 .simp at h
 rename_i fn hf;obtain ⟨vs,hvs,rfl⟩:=tzf.1 h;obtain ⟨xs,g1,g2⟩:=zt6 R ht hvs;refine ⟨fn,(if h:xs.toArray.size=1 then xs.toArray[0] else .tuple xs.toArray),hf,?_,?_⟩
 .unfold zji;split
  .cases g1 with
   | cons h1 hs=>cases hs;exact h1
  rename_i hne;rw [dif_neg]
  .exact .tuple g1
  intro h1;have hl:vs.length=1:=by rw [<-g1.length];simpa using h1
  match vs,hl with
  | [a],_=>exact hne a rfl
 unfold results;rw [Array.mapM_eq_mapM_toList];simp only [tzz,Sem.run_map,tzm];refine Eq.trans (congrArg (λr=>((Result.andThen r λa w'=>Result.ok a.toArray w').andThen λa w'=>Sem.run P (pure (if h:a.size=1 then a[0] else .tuple a)) w')) (g2 _ ?_ ?_)) ?_;rotate_left 2
 .rfl
 .exact λ_=>rfl
 exact λ_ _=>rfl
theorem yt9 {l l':List PanicEntry} (hl:L2 (PR ρ) l l'):L2 (PR ρ) (l.dropWhile (λe:PanicEntry=>!e.goexit)) (l'.dropWhile (λe:PanicEntry=>!e.goexit)):=by
 induction hl with
 | nil=>exact .nil
 | cons he hs ih=>
  rename_i a b l l';simp only [List.dropWhile_cons,he.2.2];split
  .exact ih
  exact .cons he hs
theorem zco {m m':FrameMode} (h:MR ρ m m'):MR ρ (zpa m) (zpa m'):=by
 cases h with
 | run=>exact .run
 | returning=>exact .returning
 | panicking hl=>
  cases hl with
  | nil=>exact .panicking .nil
  | cons he hs=>
   rename_i e e' l l';obtain ⟨v,r,g⟩:=e;obtain ⟨v',r',g'⟩:=e';obtain ⟨h1,h2,h3⟩:=he;simp only at h1 h2 h3;subst h2 h3;cases r' with
   | false=>exact .panicking (.cons ⟨h1,rfl,rfl⟩ hs)
   | true=>
    have:=yt9 hs;unfold zpa;simp only;generalize l.dropWhile (λe:PanicEntry=>!e.goexit)=q at this;generalize l'.dropWhile (λe:PanicEntry=>!e.goexit)=q' at this;cases this with
    | nil=>exact .returning
    | cons a b=>exact .panicking (.cons a b)
theorem znv {main:Bool} {fr c:Frame} {cs:List Frame} {x:Value} (hk:fr.kind=.deferred) :
  doReturn P main fr (c::cs) none x W=.go { frame:={ c with mode:=zpa c.mode },callers:=cs,status:=.running,dying:=none } W:=by
 obtain ⟨cfn,ctm,ctd,cds,cmd,ckd,cro⟩:=c;unfold doReturn;simp only [hk];rcases cmd with _ | _ | ch
 .rfl
 .rfl
 rcases ch with _ | ⟨⟨v,rr,gg⟩,older⟩
 .rfl
 cases rr with
 | false=>rfl
 | true=>
  unfold zpa;simp only;cases older.dropWhile (λe:PanicEntry=>!e.goexit)<;>rfl
theorem zix (R:Rep P ρ H W) {kind:CallKind} {v x:Value} {cs:List AFrame} {cs':List Frame} {c':Cfg} {fr:Frame} (h:zui kind v cs H=some c') (hk:fr.kind=kind) (Cs:L2 (FR ρ) cs cs') (hv:VR ρ v x) (main:Bool) :
  ∃ fr' cs2,(∀ below,doReturn P main fr (cs'++below) none x W=.go { frame:=fr',callers:=cs2++below,status:=.running,dying:=none } W)/\CR P ρ c' fr' cs2 W/\c'.H=H:=by
 unfold zui at h;split at h
 .rename_i c rest;obtain ⟨d,cs2,rfl,hc,hcs⟩:=Cs.cons_inv;split at h
  .obtain ⟨g,hg,rfl⟩:=zwh h;refine ⟨d.finish x,cs2,λbelow=>?_,⟨zxp hg hc hv,hcs,R⟩,rfl⟩;show doReturn P main fr (d::(cs2++below)) none x W=_;unfold doReturn;simp only [hk]
  .split at h;rename_i tm todo K;simp at h;subst h;have m1:=zco hc.mode;refine ⟨{ d with mode:=zpa d.mode },cs2,λbelow=>znv hk,⟨?_,hcs,R⟩,rfl⟩;obtain ⟨fn2,nt2,ds2,md2,kd2,ro2⟩:=K;obtain ⟨C1,C2,C3,C4,C5,C6,C7⟩:=hc;exact ⟨C1,C2,C3,C4,m1,C6,C7⟩
  .simp at h
 .simp at h
end Go.Sim
namespace Go.Sim
open Go Go.IntWalk
variable {P:Program} {ρ:Ren} {H:Hp} {W:World}
theorem zus.to {tm:Trie Value} {todo todo2:List AItem} {K:AK} {cs0:List AFrame} {fr:Frame} {cs:List Frame} {t2:List Item} (hm:K.mode=.run) (C:CR P ρ ⟨tm,todo,K,cs0,H⟩ fr cs W) (ht:L2 (IR ρ) todo2 t2)
  (h:∀ below,step P (lone (fr.atR ⟨fr.tmps,fr.defers⟩ fr.todo) (cs++below) W)=.next (lone (fr.atR ⟨fr.tmps,fr.defers⟩ t2) (cs++below) W)):zus P ρ H W fr cs ⟨tm,todo2,K,cs0,H⟩:=by
 obtain ⟨F,Cs,R⟩:=C;have hrun:=zr6 F hm;refine zus.one (fr':=fr.atR ⟨fr.tmps,fr.defers⟩ t2) (cs':=cs) (W':=W) (ρ':=ρ) (λbelow=>?_) ⟨⟨F.fn,F.tm,ht,F.defers,by rw [hm];exact .run,F.kind,F.round⟩,Cs,R⟩ (.refl ρ H W);have:=h below;rw [<-zj1 hrun] at this;exact this
theorem zrd {tm:Trie Value} {todo:List AItem} {K:AK} {cs0:List AFrame} {fr:Frame} {cs:List Frame} {jump:Option Code} {c':Cfg} (hm:K.mode=.run) (h:zmf ⟨tm,todo,K,cs0,H⟩ jump=some c') (C:CR P ρ ⟨tm,todo,K,cs0,H⟩ fr cs W)
  (hj:(jump=none/\todo=[])∨(jump=some .ret/\∃ k,todo=.code .ret::k)∨∃ id k,jump=some (.exit id)/\todo=.code (.exit id)::k/\zq9 id k=none):zus P ρ H W fr cs c':=by
 obtain ⟨F,Cs,R⟩:=C;simp only at F Cs R;have hrun:=zr6 F hm;obtain ⟨fn,nt,ds,md,kd,ro⟩:=K;simp only at hm;subst hm
 -- what the model has to do
 have todoR:=F.todo;unfold zmf at h;split at h;rotate_left
 .rename_i l hro;simp only at hro;subst hro;obtain ⟨p,hp,hro'⟩:∃ p,ρ.blk l=some p/\fr.roundOf=some p.1:=(by have:=F.round;generalize fr.roundOf=q at this;cases this with | some hp=>exact ⟨_,hp,rfl⟩);unfold yx8 at h;split at h
  .rename_i v H' he;simp only at he;obtain ⟨hv,W',g1,g2,g3⟩:=ziw R he hp;split at h
   .rename_i hkd;simp only at hkd;subst hkd;simp only at h;have hk:fr.kind=.normal:=F.kind;unfold zui at h;split at h
    .rename_i c rest;simp only at h;obtain ⟨d,cs2,rfl,hc,hcs⟩:=Cs.cons_inv;obtain ⟨g,hg,rfl⟩:=zwh h;refine zus.one (fr':=d.finish v) (cs':=cs2) (W':=W') (ρ':=ρ) (λbelow=>?_) ⟨zxp hg hc hv,hcs,g2⟩ g3;rw [zj1 hrun];rcases hj with ⟨rfl,rfl⟩ | ⟨rfl,k,rfl⟩ | ⟨id,k,rfl,rfl,hx⟩
     .have e:fr.todo=[]:=by cases hq:fr.todo with
       | nil=>rfl
       | cons a b=>rw [hq] at todoR;cases todoR
      rw [e];exact stepR_round_end hro' hk g1
     .obtain ⟨b,k',e,hb,hk'⟩:=todoR.cons_inv;cases hb;rw [e];exact stepR_round_ret hro' hk g1
     .obtain ⟨b,k',e,hb,hk'⟩:=todoR.cons_inv;cases hb;rw [e];exact stepR_round_exit hro' hk ((znu hk').2 hx) g1
    .simp at h
   .simp at h
  .simp at h
 rename_i hro;simp only at hro;subst hro;have hro':fr.roundOf=none:=(by have:=F.round;generalize fr.roundOf=q at this;cases this;rfl);have fin:c'=⟨tm,todo,⟨fn,nt,ds,.returning,kd,none⟩,cs0,H⟩->(∀ below,step P (lone (fr.atR ⟨fr.tmps,fr.defers⟩ fr.todo) (cs++below) W)=.next (lone { fr.atR ⟨fr.tmps,fr.defers⟩ fr.todo with mode:=.returning } (cs++below) W))->zus P ρ H W fr cs c':=(by rintro rfl hs;refine zus.one (fr':={ fr.atR ⟨fr.tmps,fr.defers⟩ fr.todo with mode:=.returning }) (cs':=cs) (W':=W) (ρ':=ρ) (λbelow=>?_) ⟨⟨F.fn,F.tm,F.todo,F.defers,.returning,F.kind,F.round⟩,Cs,R⟩ (.refl ρ H W);have:=hs below;rw [<-zj1 hrun] at this;rw [<-zj1 hrun];exact this);split at h
 .rename_i hjn;rcases hj with ⟨_,rfl⟩ | ⟨hj,_⟩ | ⟨_,_,hj,_⟩
  .simp only [tza] at h;refine fin h.symm λbelow=>?_
   have e:fr.todo=[]:=by cases hq:fr.todo with
    | nil=>rfl
    | cons a b=>rw [hq] at todoR;cases todoR
   rw [e];exact stepR_end hro'
  .cases hj
  .cases hj
 .rename_i hjn;rcases hj with ⟨hj,_⟩ | ⟨_,k,rfl⟩ | ⟨_,_,hj,_⟩
  .cases hj
  .simp only [tza] at h;refine fin h.symm λbelow=>?_;obtain ⟨b,k',e,hb,hk⟩:=todoR.cons_inv;cases hb;rw [e];exact stepR_ret hro'
  .cases hj
 .simp at h
theorem ysa {draw:Env} (hd:yf0 P draw) {c c':Cfg} {fr:Frame} {cs:List Frame} (hm:c.k.mode=.run) (h:xs9 c.todo draw P c=some c') (C:CR P ρ c fr cs W):zus P ρ c.H W fr cs c':=by
 obtain ⟨tm,todo,K,cs0,H⟩:=c;simp only at hm h;have hrun:=zr6 C.top hm;cases todo with
 | nil=>
  have h:zmf ⟨tm,[],K,cs0,H⟩ none=some c':=h;exact zrd hm h C (.inl ⟨rfl,rfl⟩)
 | cons x k=>
  have h:xs8 x draw P k ⟨tm,x::k,K,cs0,H⟩=some c':=h;obtain ⟨b,k',e,hb,hk⟩:=C.top.todo.cons_inv;cases x with
  | inBlock id=>
   have h:some (⟨tm,k,K,cs0,H⟩:Cfg)=some c':=h;simp at h;subst h;cases hb;refine zus.to hm C hk λbelow=>?_;rw [e];exact stepR_inBlock
  | inLoop body=>
   have h:some (⟨tm,.code body::.inLoop body::k,K,cs0,H⟩:Cfg)=some c':=h;simp at h;subst h;cases hb;refine zus.to hm C (.cons (.code _) (.cons (.inLoop _) hk)) λbelow=>?_;rw [e];exact stepR_inLoop
  | ops all i rest=>
   have h:zsh P draw.2 all k K cs0 rest i tm H=some c':=h;exact zvv hd.2 hm rest i tm H ρ W fr cs C.top C.cs C.rep h
  | inRange l=>
   have h:(none:Option Cfg)=some c':=h;cases h
  | endRange l=>
   have h:(zxn H l).bind (xx0 tm k K cs0 H l)=some c':=h;cases hb with
   | endRange hp=>
    obtain ⟨F,Cs,R⟩:=C;obtain ⟨H',W',jump,rfl,g1,g2,g3⟩:=ylg R h hp;refine zus.one (fr':=fr.atR ⟨fr.tmps,fr.defers⟩ ((jump.map Item.code).toList++k')) (cs':=cs) (W':=W') (ρ':=ρ) (λbelow=>?_) ⟨⟨F.fn,F.tm,?_,F.defers,by rw [hm];exact .run,F.kind,F.round⟩,Cs,g2⟩ g3
    .rw [zj1 hrun,e];exact stepR_endRangeFunc g1
    cases jump with
    | none=>exact hk
    | some j=>exact .cons (.code _) hk
  | beginRound=>
   cases hb;obtain ⟨F,Cs,R⟩:=C
   have h:(match K.roundOf with
    | some l=>(zxn H l).bind (zd3 tm k K cs0 H l)
    | none=>none)=some c':=h
   split at h
   .rename_i l hro;obtain ⟨p,hp,hro'⟩:∃ p,ρ.blk l=some p/\fr.roundOf=some p.1:=(by have:=F.round;rw [hro] at this;generalize fr.roundOf=q at this;cases this with | some hp=>exact ⟨_,hp,rfl⟩);obtain ⟨H',W',rfl,g1,g2,g3⟩:=yzy R h hp;refine zus.one (fr':=fr.atR ⟨fr.tmps,fr.defers⟩ k') (cs':=cs) (W':=W') (ρ':=ρ) (λbelow=>?_) ⟨⟨F.fn,F.tm,hk,F.defers,by rw [hm];exact .run,F.kind,F.round⟩,Cs,g2⟩ g3;rw [zj1 hrun,e];exact stepR_beginRound hro' g1
   .cases h
  | code y=>
   cases hb;have h:xs6 y draw P k ⟨tm,.code y::k,K,cs0,H⟩=some c':=h;cases y with
   | skip=>
    have h:some (⟨tm,k,K,cs0,H⟩:Cfg)=some c':=h;simp at h;subst h;refine zus.to hm C hk λbelow=>?_;rw [e];exact stepR_skip
   | label l=>
    have h:some (⟨tm,k,K,cs0,H⟩:Cfg)=some c':=h;simp at h;subst h;refine zus.to hm C hk λbelow=>?_;rw [e];exact stepR_label
   | seq a b=>
    have h:some (⟨tm,.code a::.code b::k,K,cs0,H⟩:Cfg)=some c':=h;simp at h;subst h;refine zus.to hm C (.cons (.code _) (.cons (.code _) hk)) λbelow=>?_;rw [e];exact stepR_seq
   | block id b=>
    have h:some (⟨tm,.code b::.inBlock id::k,K,cs0,H⟩:Cfg)=some c':=h;simp at h;subst h;refine zus.to hm C (.cons (.code _) (.cons (.inBlock _) hk)) λbelow=>?_;rw [e];exact stepR_block
   | loop b=>
    have h:some (⟨tm,.code b::.inLoop b::k,K,cs0,H⟩:Cfg)=some c':=h;simp at h;subst h;refine zus.to hm C (.cons (.code _) (.cons (.inLoop _) hk)) λbelow=>?_;rw [e];exact stepR_loop
   | cond x a b=>
    have h:ymz k a b ⟨tm,.code (.cond x a b)::k,K,cs0,H⟩ (zyk P tm x)=some c':=h;unfold ymz at h;split at h
    .rename_i hx;have h:some (⟨tm,.code a::k,K,cs0,H⟩:Cfg)=some c':=h;simp at h;subst h;have hx':=(zzk (a:=⟨fr.tmps,fr.defers⟩) C.rep C.top.tm hx).bool_eq;refine zus.to hm C (.cons (.code _) hk) λbelow=>?_;rw [e];exact stepR_cond (t:=true) hx'
    .rename_i hx;have h:some (⟨tm,.code b::k,K,cs0,H⟩:Cfg)=some c':=h;simp at h;subst h;have hx':=(zzk (a:=⟨fr.tmps,fr.defers⟩) C.rep C.top.tm hx).bool_eq;refine zus.to hm C (.cons (.code _) hk) λbelow=>?_;rw [e];exact stepR_cond (t:=false) hx'
    .cases h
   | exit id=>
    have h:yfs ⟨tm,.code (.exit id)::k,K,cs0,H⟩ id (zq9 id k)=some c':=h;unfold yfs at h;split at h
    .rename_i r hx;have h:some (⟨tm,r,K,cs0,H⟩:Cfg)=some c':=h;simp at h;subst h;obtain ⟨r',h1,h2⟩:=(znu hk).1 _ hx;refine zus.to hm C h2 λbelow=>?_;rw [e];exact stepR_exit h1
    .rename_i hx;exact zrd hm h C (.inr (.inr ⟨id,k,rfl,rfl,hx⟩))
   | ret=>
    have h:zmf ⟨tm,.code .ret::k,K,cs0,H⟩ (some .ret)=some c':=h;exact zrd hm h C (.inr (.inl ⟨rfl,k,rfl⟩))
   | rangeFunc f ps asg body=>
    have h:ywb P f ps asg body k ⟨tm,.code (.rangeFunc f ps asg body)::k,K,cs0,H⟩=some c':=h;exact zcn (c:=⟨tm,.code (.rangeFunc f ps asg body)::k,K,cs0,H⟩) hm h C rfl
   | region id ops dr=>
    cases dr with
    | false=>
     have h:zsh P draw.2 ops.toList k K cs0 ops.toList 0 tm H=some c':=h;obtain ⟨F,Cs,R⟩:=C
     have F':FR ρ ⟨tm,.ops ops.toList 0 ops.toList::k,K⟩ (fr.atR ⟨fr.tmps,fr.defers⟩ (.inRegion ops (List.range' 0 ops.toList.length)::k')):=
      ⟨F.fn,F.tm,.cons (.ops rfl rfl) hk,F.defers,by rw [hm];exact .run,F.kind,F.round⟩
     refine zus.head (λbelow=>?_) (.refl ρ H W) (zvv hd.2 hm _ _ tm H ρ W _ cs F' Cs R h);rw [zj1 hrun,e];have e2:List.range' 0 ops.toList.length=List.range ops.size:=by rw [List.range_eq_range'];simp
     rw [e2];exact stepR_region
    | true=>
     have h:(match K.roundOf with
      | none=>match draw.1 K.fn id ops.toList tm K.nt H with
       | some (tm',H')=>some (⟨tm',k,K,cs0,H'⟩:Cfg)
       | none=>none
      | some _=>none)=some c':=h
     split at h
     .rename_i hro;split at h
      .rename_i tm' H' hdr;simp at h;subst h;obtain ⟨F,Cs,R⟩:=C;have hro':fr.roundOf=none:=(by have:=F.round;rw [hro] at this;generalize fr.roundOf=q at this;cases this;rfl);intro below;obtain ⟨ee,a',w',⟨rfl,hdf,ρ',h1,h2,h3⟩,harr⟩:=hd.1 _ _ _ _ _ _ _ _ hdr ρ ⟨fr.tmps,fr.defers⟩ W F.tm R fr k' (cs++below);have e1:fr.at ⟨fr.tmps,fr.defers⟩ (.code (.region id ops true)::k')=fr:=(by cases fr;simp at hrun hro' e;subst hrun hro' e;rfl);rw [e1] at harr;refine ⟨ρ',fr.at a' k',cs,w',harr,⟨⟨F.fn,h1,hk.mono λ_ _=>IR.mono h3.ext,?_,by rw [hm];exact .run,F.kind,?_⟩,Cs.mono λ_ _=>FR.mono h3.ext,h2⟩,h3⟩
       .show L2 (DR ρ') K.defers a'.defers;rw [hdf];exact F.defers.mono λ_ _=>DR.mono h3.ext
       .rw [hro];exact .none
      .cases h
     .cases h
   | scope b=>cases (show (none:Option Cfg)=some c' from h)
   | goto l=>cases (show (none:Option Cfg)=some c' from h)
   | refuse w=>cases (show (none:Option Cfg)=some c' from h)
theorem xxh {fr:Frame} {todo:List AItem} (h:L2 (IR ρ) todo fr.todo):fr.catches P=false:=by
 unfold Frame.catches;split
 .rename_i e;rw [e] at h;cases h with | cons h _=>cases h
 .rfl
theorem Rep.defsBlk (R:Rep P ρ H W) {b:Nat} {l:List Deferred} (h:H.get b=some (.defs (some l))) {p:Nat×Nat} (hp:ρ.blk b=some p) :
  ∃ l' W',(Instr.takeDeferred p.1).run P W=.ok l' W'/\L2 (DR ρ) l l'/\Rep P ρ (H.put b (.defs none)) W'/\Fr ρ ρ H (H.put b (.defs none)) W W':=by
 obtain ⟨l',h1,h2⟩:=R.blk b _ p h trivial hp;have hb:p.1<W.heap.size:=(txm.1 h1).1
 obtain ⟨g1,g2⟩:=R.turn (B':=.defs none) (H':=H.put b (.defs none)) h trivial trivial hp (λj=>by simp) (by simp) (λk=>.inl (by simp)) (λj C h=>h) (λj C h=>by unfold same at h ⊢;cases C<;>(first | exact h | (split<;>simp_all))) trivial rfl trivial
  (λc e k h=>by simp at h) (λc e k h=>by simp at h) (wput_size W p.1 (.deferred none)) (λb hb=>ztl W hb _) rfl rfl rfl (ztk W hb _)
 refine ⟨l',_,?_,h2,g1,g2⟩;unfold Instr.takeDeferred getObj setObj;simp only [tzz,Sem.run,h1,tzm];rfl
theorem zmr {c c':Cfg} {fr:Frame} {cs:List Frame} (hm:c.k.mode≠.run) (h:zfl P c=some c') (C:CR P ρ c fr cs W):zus P ρ c.H W fr cs c':=by
 obtain ⟨tm,todo,K,cs0,H⟩:=c;obtain ⟨fn,nt,ds,md,kd,ro⟩:=K;obtain ⟨F,Cs,R⟩:=C;simp only at hm F Cs R
 have hmode:fr.mode≠.run:=by
  have:=F.mode;generalize fr.mode=q at this;intro e;cases this with
  | run=>exact hm rfl
  | returning=>cases e
  | panicking _=>cases e
 have hG:∀ cs W,stepG P true { frame:=fr,callers:=cs,status:=.running,dying:=none } W=unwind P true fr cs none W:=by
  intro cs W;unfold stepG;cases hq:fr.mode with
  | run=>exact absurd hq hmode
  | returning=>simp [hq]
  | panicking _=>simp [hq]
 simp only [zfl] at h;split at h
 .rename_i d ds2;obtain ⟨d',ds',e,hd,hds⟩:=F.defers.cons_inv;unfold ywc at h;split at h
  .rename_i b args;cases hd with
   | collected hp=>
    rename_i p;split at h
    .rename_i l hg;simp at h;subst h;obtain ⟨l',W',g1,g2,g3,g4⟩:=R.defsBlk hg hp;refine zus.one (fr':={ fr with defers:=l'++ds' }) (cs':=cs) (W':=W') (ρ':=ρ) (λbelow=>step_lone_go ?_) ⟨⟨F.fn,F.tm,F.todo,g2.append hds,F.mode,F.kind,F.round⟩,Cs,g3⟩ g4;rw [hG];unfold unwind;rw [e];simp [Sem.runT_eq,g1]
    .simp at h
  .rename_i f cap args;split at h
   .rename_i g args2 hinv;obtain ⟨q,hq,rfl⟩:=zwh h;cases hd with
    | fn hf ha hb=>
     rename_i f' a a' b b';have hres:=zt3 (H:=H) (W:=W) (v:=.func f #[] ⟨a⟩) (w:=.func f' #[] ⟨a'⟩) (args:=b) (xs:=b') hinv (.func hf .nil ha) hb;obtain ⟨xs,hx1,hx2⟩:=hres;have hx1':(invoke (.fn f' ⟨a'⟩) ⟨b'⟩).run P W=.ok (.enter g ⟨xs⟩) W:=(by simpa [Deferred.ofValue] using hx1);refine zus.one (fr':=Frame.enter P g ⟨xs⟩ .deferred) (cs':={ fr with defers:=ds' }::cs) (W':=W) (ρ':=ρ) (λbelow=>step_lone_go ?_) ⟨zt4 hq hx2,.cons ⟨F.fn,F.tm,F.todo,hds,F.mode,F.kind,F.round⟩ Cs,R⟩ (.refl ρ H W);rw [hG];unfold unwind;rw [e];simp [callDeferred,Sem.runT_eq,hx1']
   .simp at h
  .simp at h
 .have e:fr.defers=[]:=(by have:=F.defers;generalize fr.defers=q at this;cases this;rfl);unfold zd4 at h;split at h
  .simp at h
  .rename_i ch hmd;simp only at hmd;subst hmd;split at h
   .rename_i tm2 todo2 K2 rest;simp at h;subst h;obtain ⟨d,cs2,rfl,hc,hcs⟩:=Cs.cons_inv;obtain ⟨ch',hmd',hch⟩:∃ ch',fr.mode=.panicking ch'/\L2 (PR ρ) ch ch':=(by have:=F.mode;generalize fr.mode=q at this;cases this with | panicking hc=>exact ⟨_,rfl,hc⟩);refine zus.one (fr':=d.raise ch') (cs':=cs2) (W':=W) (ρ':=ρ) (λbelow=>step_lone_go ?_) ⟨zjz hc hch,hcs,R⟩ (.refl ρ H W);rw [hG];unfold unwind;simp [e,hmd',xxh F.todo]
   .simp at h
  rename_i hmd;simp only at hmd;subst hmd;have hmd':fr.mode=.returning:=(by have:=F.mode;generalize fr.mode=q at this;cases this;rfl);split at h
  .rename_i v hv;obtain ⟨f,x,hf,hvx,hrun⟩:=zmq R F.tm hv;simp only at h;obtain ⟨fr',cs2,g1,g2,g3⟩:=zix R h F.kind Cs hvx true;refine zus.one (fr':=fr') (cs':=cs2) (W':=W) (ρ':=ρ) (λbelow=>step_lone_go ?_) g2 (g3▸.refl ρ H W);rw [hG];unfold unwind;have hf':P.funcs[fr.fn]? =some f:=by rw [F.fn];exact hf
   simp [e,hmd',hf',Sem.runT_eq,hrun];rw [g1 below];rfl
  .simp at h
theorem ysb {draw:Env} (hd:yf0 P draw) {c c':Cfg} {fr:Frame} {cs:List Frame} (h:zt0 draw P c=some c') (C:CR P ρ c fr cs W):zus P ρ c.H W fr cs c':=by
 unfold zt0 at h;cases hm:c.k.mode with
 | run=>rw [hm] at h;exact ysa hd hm h C
 | returning=>rw [hm] at h;exact zmr (by rw [hm];simp) h C
 | panicking ch=>rw [hm] at h;exact zmr (by rw [hm];simp) h C
theorem ysc {α:Type} (H:Hp) (k:Hp->α):ywd H k=k H:=by
 obtain ⟨b,s,n⟩:=H;unfold ywd;cases b with
 | leaf=>rfl
 | node l v r=>cases n<;>rfl
theorem zcp {α:Type} (c:Cfg) (k:Cfg->α):ym1 k c=k c:=by
 obtain ⟨tm,todo,K,cs,H⟩:=c;show ywd H (λH=>k ⟨tm,todo,K,cs,H⟩)=_;rw [ysc]
theorem ysd {f:FuncId} {c:Cfg} {v:Value} {H':Hp} (h:xxe P f c=some (v,H')) {fr:Frame} {cs:List Frame} (C:CR P ρ c fr cs W) :
  cs=[]/\c.H=H'/\fr.fn=f/\∃ x,VR ρ v x/\fr.leaving P W (.returned x):=by
 obtain ⟨F,Cs,R⟩:=C;unfold xxe at h;split at h
 .rename_i tm todo fn nt H2;split at h
  .rename_i hfn;have hfn:=tzo hfn;split at h
   .rename_i u hu;simp at h;obtain ⟨rfl,rfl⟩:=h;cases Cs;obtain ⟨g,x,hg,hvx,hrun⟩:=zmq R F.tm hu;refine ⟨rfl,rfl,F.fn.trans hfn,x,hvx,?_,?_,F.kind,g,?_,hrun⟩
    .have:=F.mode;generalize fr.mode=q at this;cases this;rfl
    .have:=F.defers;generalize fr.defers=q at this;cases this;rfl
    .rw [F.fn];exact hg
   .simp at h
  .simp at h
 .simp at h
theorem zp4 {draw:Env} (hd:yf0 P draw) {f:FuncId}:∀ (n:Nat) (c:Cfg) (v:Value) (H':Hp) (ρ:Ren) (W:World) (fr:Frame) (cs:List Frame),yfu draw P f n c=some (v,H')->CR P ρ c fr cs W ->
  ∀ below,∃ ρ' fr' W' x,Steps P (lone fr (cs++below) W) (lone fr' below W')/\fr'.leaving P W' (.returned x)/\fr'.fn=f/\VR ρ' v x/\Rep P ρ' H' W'/\Fr ρ ρ' c.H H' W W'
 | 0,c,v,H',ρ,W,fr,cs,h,C=>by cases (show (none:Option (Value×Hp))=some (v,H') from h)
 | n+1,c,v,H',ρ,W,fr,cs,h,C=>by
  have h:xra P f (yfu draw P f n) c (zt0 draw P c)=some (v,H'):=h
  unfold xra at h
  split at h
  .rename_i c' hs
   rw [zcp] at h
   intro below
   obtain ⟨ρ1,fr1,cs1,W1,s1,C1,f1⟩:=ysb hd hs C below
   obtain ⟨ρ2,fr2,W2,x,s2,hl,hfn,hv,hR,f2⟩:=zp4 hd n c' v H' ρ1 W1 fr1 cs1 h C1 below
   exact ⟨ρ2,fr2,W2,x,s1.trans s2,hl,hfn,hv,hR,f1.trans f2⟩
  .intro below
   obtain ⟨rfl,rfl,hfn,x,hv,hl⟩:=ysd h C
   exact ⟨ρ,fr,W,x,.refl P _,hl,hfn,hv,C.rep,.refl ρ c.H W⟩
theorem ylh {draw:Env} (hd:yf0 P draw) {f:FuncId} {args:List Value} {H:Hp} {g:AFrame} (hg:zor P f args .normal=some g) {n:Nat} {v:Value} {H':Hp} (h:yfu draw P f n ⟨g.tm,g.todo,g.k,[],H⟩=some (v,H')) {ρ:Ren} {W:World} {xs:List Value} (hx:VRs ρ args xs) (R:Rep P ρ H W) :
  Calls P f ⟨xs⟩ W λe w'=>∃ ρ' x,e=.returned x/\VR ρ' v x/\Rep P ρ' H' w'/\Fr ρ ρ' H H' W w':=by
 intro cs;obtain ⟨ρ',fr',W',x,s,hl,hfn,hv,hR,hF⟩:=zp4 hd n _ v H' ρ W (Frame.enter P f ⟨xs⟩ .normal) [] h ⟨zt4 hg hx,.nil,R⟩ cs;exact ⟨.returned x,W',fr',⟨ρ',x,rfl,hv,hR,hF⟩,s,hfn,hl⟩
end Go.Sim
namespace Go.Sim
open Go Go.IntWalk
variable {P:Program} {ρ:Ren} {H:Hp} {W:World}
def zms:List Operand->List Tmp
 | []=>[]
 | .tmp t::l=>t::zms l
 | _::l=>zms l
theorem zwi {t:Tmp}:∀ {l:List Operand},Operand.tmp t∈l->t∈zms l
 | .tmp u::l,h=>by
  simp only [zms];rcases tzu.1 h with e | e
  .cases e;simp
  simp [zwi e]
 | .const _::l,h=>by simp at h;simpa [zms] using zwi h
 | .global _::l,h=>by simp at h;simpa [zms] using zwi h
 | .func _::l,h=>by simp at h;simpa [zms] using zwi h
theorem zt7 {tm tm':Trie Value} {x:Operand} (h:∀ t,x=.tmp t->tm.get t=tm'.get t):zyk P tm x=zyk P tm' x:=by
 cases x with
 | tmp t=>show zq5 (tm.get t)=zq5 (tm'.get t);rw [h t rfl]
 | _=>rfl
theorem zj3 {tm tm':Trie Value}:∀ {l:List Operand},(∀ t,Operand.tmp t∈l->tm.get t=tm'.get t)->zq6 P tm l=zq6 P tm' l
 | [],_=>rfl
 | x::l,h=>by
  simp only [zq6];rw [zt7 λt e=>h t (by simp [e]),zj3 λt ht=>h t (by simp [ht])]
theorem zum {tm tm':Trie Value}:∀ {l:List (Nat×Operand)},(∀ t,Operand.tmp t∈l.map (·.2)->tm.get t=tm'.get t)->zx7 P tm l=zx7 P tm' l
 | [],_=>rfl
 | (i,x)::l,h=>by
  simp only [zx7];rw [zt7 λt e=>h t (by simp [e]),zum λt ht=>h t (by simp at ht ⊢;exact .inr ht)]
theorem zph {tm tm':Trie Value} {x:Option Operand} (h:∀ t,x=some (.tmp t)->tm.get t=tm'.get t):zqh P tm x=zqh P tm' x:=by
 cases x with
 | none=>rfl
 | some x=>simp only [zqh];rw [zt7 λt e=>h t (by rw [e])]
theorem ztp {tm tm':Trie Value} {op:Op} (h:∀ t,Operand.tmp t∈op.operands.toList->tm.get t=tm'.get t) (H:Hp):zw4 op P tm H=zw4 op P tm' H:=by
 have one:∀ x:Operand,x∈op.operands.toList->zyk P tm x=zyk P tm' x:=λx hx=>zt7 λt e=>h t (e▸hx);have many:∀ l:List Operand,(∀ x∈l,x∈op.operands.toList)->zq6 P tm l=zq6 P tm' l:=λl hl=>zj3 λt ht=>h t (hl _ ht);cases op<;>simp only [Op.operands] at h one many
 case move x=>show znl P tm H x=znl P tm' H x;unfold znl;rw [one x (by simp)]
 case assign x=>show znl P tm H x=znl P tm' H x;unfold znl;rw [one x (by simp)]
 case pick c x y=>show zm4 P tm H c x y=zm4 P tm' H c x y;unfold zm4;rw [one c (by simp),one x (by simp),one y (by simp)]
 case alloc e=>rfl
 case box e x=>show yfr P tm H e x=yfr P tm' H e x;unfold yfr;rw [one x (by simp)]
 case build t ps=>show zsd P tm H t ps=zsd P tm' H t ps;unfold zsd;rw [zum λu hu=>h u (by simpa using hu)]
 case buildSlice t len ps=>show zy0 P tm H t len ps=zy0 P tm' H t len ps;unfold zy0;rw [zum λu hu=>h u (by simpa using hu)]
 case insert t m k v=>show zwn P tm H t m k v=zwn P tm' H t m k v;unfold zwn;rw [one m (by simp),one k (by simp),one v (by simp)]
 case load t x=>show znm P tm H t x=znm P tm' H t x;unfold znm;rw [one x (by simp)]
 case store t x y=>show zqr P tm H t x y=zqr P tm' H t x y;unfold zqr;rw [one x (by simp),one y (by simp)]
 case nilCheck x=>show zw3 P tm H x=zw3 P tm' H x;unfold zw3;rw [one x (by simp)]
 case binOp op t x y u=>show ysr P tm H op t x y=ysr P tm' H op t x y;unfold ysr;rw [one x (by simp),one y (by simp)]
 case unOp op t x=>show oUn P tm H op x=oUn P tm' H op x;unfold oUn;rw [one x (by simp)]
 case convert s d x=>show zjg P tm H s d x=zjg P tm' H s d x;unfold zjg;rw [one x (by simp)]
 case makeInterface t x=>show zqs P tm H t x=zqs P tm' H t x;unfold zqs;rw [one x (by simp)]
 case makeFunc fn x y=>show zm5 P tm H fn x y=zm5 P tm' H fn x y;unfold zm5;rw [many x.toList (λz hz=>by simp;exact .inl (by simpa using hz)),many y.toList (λz hz=>by simp;exact .inr (by simpa using hz))]
 case makeMap t r=>
  show xxc P tm H t r=xxc P tm' H t r;unfold xxc;cases r with
  | none=>rfl
  | some x=>simp only;rw [one x (by simp)]
 case makeSlice t l c=>show zxc P tm H t l c=zxc P tm' H t l c;unfold zxc;rw [one l (by simp),one c (by simp)]
 case slice t x lo hi mx=>
  show zse P tm H t x lo hi mx=zse P tm' H t x lo hi mx;unfold zse;rw [one x (by simp),zph (x:=lo) λt e=>h t (by rw [e];simp),zph (x:=hi) λt e=>h t (by rw [e];simp),zph (x:=mx) λt e=>h t (by rw [e];simp)]
 case fieldAddr s x f=>show zxd P tm H s x f=zxd P tm' H s x f;unfold zxd;rw [one x (by simp)]
 case field s x f=>show zsf P tm H s x f=zsf P tm' H s x f;unfold zsf;rw [one x (by simp)]
 case indexAddr t x i=>show zxe P tm H t x i=zxe P tm' H t x i;unfold zxe;rw [one x (by simp),one i (by simp)]
 case index t x i=>show zsg P tm H t x i=zsg P tm' H t x i;unfold zsg;rw [one x (by simp),one i (by simp)]
 case lookup t m k ok=>show zvi P tm H t m k ok=zvi P tm' H t m k ok;unfold zvi;rw [one m (by simp),one k (by simp)]
 case mapUpdate t m k v=>show zwn P tm H t m k v=zwn P tm' H t m k v;unfold zwn;rw [one m (by simp),one k (by simp),one v (by simp)]
 case typeAssert x xt at_ ok=>show zu4 P tm H x xt at_ ok=zu4 P tm' H x xt at_ ok;unfold zu4;rw [one x (by simp)]
 case extract x i=>show zv5 P tm H x i=zv5 P tm' H x i;unfold zv5;rw [one x (by simp)]
 case call c=>
  show ztz P tm H c=ztz P tm' H c;unfold ztz;rw [many c.args.toList (λz hz=>by simp only [Call.operands];simp;exact .inr (by simpa using hz))];cases hc:c.callee with
  | value f=>simp only;rw [one f (by simp [Call.operands,hc])]
  | _=>rfl
 case defer c=>
  show zop P tm c=zop P tm' c;unfold zop;rw [many c.args.toList (λz hz=>by simp only [Call.operands];simp;exact .inr (by simpa using hz))];cases hc:c.callee with
  | value f=>simp only;rw [one f (by simp [Call.operands,hc])]
  | _=>rfl
 case panic x=>show zjh P tm x=zjh P tm' x;unfold zjh;rw [one x (by simp)]
 all_goals rfl
theorem zre {all:List Oper} {tm tm':Trie Value} {g:Option (Nat×Bool)} (h:∀ j want oj t,g=some (j,want)->all[j]? =some oj->oj.dst=some t->tm.get t=tm'.get t):zyp all tm g=zyp all tm' g:=by
 cases g with
 | none=>rfl
 | some g=>
  obtain ⟨j,want⟩:=g;simp only [zyp,zoq];cases hj:all[j]? with
  | none=>rfl
  | some oj=>
   grind
theorem zyv {o:Option Value} {r:ARes} (h:zth H o=some r):∃ v,r=.val v H/\∀ H',zth H' o=some (.val v H'):=by
 obtain ⟨v,rfl,rfl⟩:=zye h;exact ⟨v,rfl,λ_=>rfl⟩
theorem zj4 {e:TypeId} {a:Option Addr} {len c:Nat} {lo hi mx:Option Value} {v:Value} {H':Hp} (h:zqp P e a len c lo hi mx H=some (v,H')) (hn:H'.n=H.n):H'=H/\∀ H2,zqp P e a len c lo hi mx H2=some (v,H2):=by
 unfold zqp at h ⊢;split at h;rotate_left
 .simp at h
 split at h;rotate_left
 .simp at h
 split at h;rotate_left
 .simp at h
 split at h
 .unfold zn9 at h ⊢;split at h
  .split at h
   .grind
   split at h
   .simp_all
   unfold yxz at h ⊢;split at h
   .simp_all
   .grind
  .simp at h
 .split at h
  .split at h
   .unfold ymo at h ⊢;split at h
    .split at h
     .grind
     grind
    .simp at h
   .simp at h
  .simp at h
theorem zhz {tm:Trie Value} {op:Op} {r:ARes} (hc:zz7 op=.pure) (h:zw4 op P tm H=some r) (hn:∀ v H',r=.val v H'->H'.n=H.n):∃ v,r=.val v H/\∀ H',zw4 op P tm H'=some (.val v H'):=by
 cases op<;>simp [zz7] at hc
 case move x=>exact zyv (o:=zyk P tm x) h
 case assign x=>exact zyv (o:=zyk P tm x) h
 case pick c x y=>
  have h:zm4 P tm H c x y=some r:=h;have e:∀ H',zw4 (.pick c x y) P tm H'=zm4 P tm H' c x y:=λ_=>rfl;simp only [e];unfold zm4 at h ⊢;split at h
  .exact zyv h
  .exact zyv h
  .simp at h
 case build t ps=>
  have h:zsd P tm H t ps=some r:=h;have e:∀ H',zw4 (.build t ps) P tm H'=zsd P tm H' t ps:=λ_=>rfl;simp only [e];unfold zsd at h ⊢;split at h
  .exact zyv h
  .simp at h
 case nilCheck x=>exact zyv (o:=(zyk P tm x).bind yx4) h
 case binOp op t x y u=>
  have h:ysr P tm H op t x y=some r:=h;have e:∀ H',zw4 (.binOp op t x y u) P tm H'=ysr P tm H' op t x y:=λ_=>rfl;simp only [e];unfold ysr at h ⊢;split at h
  .split at h
   .exact zyv h
   .simp at h
  .simp at h
 case unOp op t x=>exact zyv (o:=(zyk P tm x).bind (unA P op)) h
 case makeInterface t x=>
  have h:zqs P tm H t x=some r:=h;have e:∀ H',zw4 (.makeInterface t x) P tm H'=zqs P tm H' t x:=λ_=>rfl;simp only [e];unfold zqs at h ⊢;split at h
  .obtain ⟨v,hv,rfl⟩:=tzf.1 h;exact ⟨_,rfl,λH'=>by rw [hv];rfl⟩
  .simp at h
 case makeFunc fn x y=>
  have h:zm5 P tm H fn x y=some r:=h;have e:∀ H',zw4 (.makeFunc fn x y) P tm H'=zm5 P tm H' fn x y:=λ_=>rfl;simp only [e];unfold zm5 at h ⊢;split at h
  .grind
  simp at h
 case slice t x lo hi mx=>
  have h:zse P tm H t x lo hi mx=some r:=h;have e:∀ H',zw4 (.slice t x lo hi mx) P tm H'=zse P tm H' t x lo hi mx:=λ_=>rfl;simp only [e];unfold zse at h ⊢;split at h;rotate_left
  .simp at h
  split at h;rotate_left
  .simp at h
  split at h;rotate_left
  .simp at h
  split at h;rotate_left
  .simp at h
  obtain ⟨d,hd,h⟩:=tzh.1 h;simp only [hd,tzn];unfold zoo at h ⊢;split at h
  .split at h
   .exact zyv h
   .simp at h
  .split at h
   .obtain ⟨v,H',hv,rfl⟩:=ztm h;obtain ⟨rfl,g⟩:=zj4 hv (hn v H' rfl);exact ⟨v,rfl,λH2=>by rw [g];rfl⟩
   .simp at h
  .split at h
   .split at h
    .obtain ⟨v,H',hv,rfl⟩:=ztm h;obtain ⟨rfl,g⟩:=zj4 hv (hn v H' rfl);exact ⟨v,rfl,λH2=>by rw [g];rfl⟩
    .simp at h
   .simp at h
  .simp at h
 case fieldAddr s x f=>
  have h:zxd P tm H s x f=some r:=h;have e:∀ H',zw4 (.fieldAddr s x f) P tm H'=zxd P tm H' s x f:=λ_=>rfl;simp only [e];unfold zxd at h ⊢;split at h
  .exact zyv h
  .simp at h
 case field s x f=>
  have h:zsf P tm H s x f=some r:=h;have e:∀ H',zw4 (.field s x f) P tm H'=zsf P tm H' s x f:=λ_=>rfl;simp only [e];unfold zsf at h ⊢;split at h
  .exact zyv h
  .simp at h
 case indexAddr t x i=>
  have h:zxe P tm H t x i=some r:=h;have e:∀ H',zw4 (.indexAddr t x i) P tm H'=zxe P tm H' t x i:=λ_=>rfl;simp only [e];unfold zxe at h ⊢;split at h
  .split at h
   .exact zyv h
   .simp at h
  .simp at h
 case index t x i=>
  have h:zsg P tm H t x i=some r:=h;have e:∀ H',zw4 (.index t x i) P tm H'=zsg P tm H' t x i:=λ_=>rfl;simp only [e];unfold zsg at h ⊢;split at h
  .split at h
   .exact zyv h
   .simp at h
  .simp at h
 case typeAssert x xt at_ ok=>
  have h:zu4 P tm H x xt at_ ok=some r:=h;have e:∀ H',zw4 (.typeAssert x xt at_ ok) P tm H'=zu4 P tm H' x xt at_ ok:=λ_=>rfl;simp only [e];unfold zu4 at h ⊢;split at h
  .split at h
   .exact zyv h
   .simp at h
  .simp at h
 case extract x i=>exact zyv (o:=(zyk P tm x).bind (yx6 i)) h
 case call c=>
  grind
theorem zcq {tm:Trie Value} {op:Op} {r:ARes} (hc:zz7 op=.read) (h:zw4 op P tm H=some r):∃ v,r=.val v H:=by
 have vs:∀ {o:Option Value},zth H o=some r->∃ v,r=.val v H:=λh=>let ⟨v,_,e⟩:=zye h;⟨v,e⟩
 cases op<;>simp [zz7] at hc
 case load t x=>
  have h:znm P tm H t x=some r:=h;unfold znm at h;split at h
  .exact vs h
  .simp at h
 case convert s d x=>exact vs (o:=(zyk P tm x).bind (zx8 P H s d)) h
 case lookup t m k ok=>
  have h:zvi P tm H t m k ok=some r:=h;unfold zvi at h;split at h
  .split at h
   .exact vs h
   .simp at h
  .simp at h
 case call c=>
  obtain ⟨callee,args,ats⟩:=c;have h:ztz P tm H ⟨callee,args,ats⟩=some r:=h;unfold ztz at h;split at h
  .rename_i l hl;cases callee with
   | builtin b=>
    simp only at h;cases b<;>simp at hc<;>simp only [zyd] at h
    all_goals first
     | (unfold zon at h;split at h;exact vs h;simp at h;done)
     | (
      split at h
      .unfold on1 at h;split at h
       .exact vs h
       .simp at h
      .simp at h)
   | _=>simp at hc
  .simp at h
end Go.Sim
namespace Go.Sim
open Go Go.IntWalk
variable {P:Program} {ρ:Ren} {H:Hp} {W:World}
inductive Mk where
 | ptr
 | row (n m:Nat)
def Mk.at:Mk->Nat->Value
 | .ptr,i=>.pointer (some ⟨i,0,none⟩)
 | .row n m,i=>.slice (some ⟨i,0,none⟩) n m
def Mk.ok:Mk->Prop
 | .ptr=>True
 | .row n m=>n<=m/\m<U
theorem Mk.rel {mk:Mk} (h:mk.ok) {i b:Nat} (hb:ρ.blk i=some (b,0)):VR ρ (mk.at i) (mk.at b):=by
 cases mk with
 | ptr=>exact .ptr ⟨rfl,(b,0),hb,by simp⟩
 | row n m=>exact .slice ⟨rfl,(b,0),hb,by simp⟩ ⟨h.1,λ_=>rfl,λg=>by have:=h.2;omega⟩
theorem ywi {tm:Trie Value} {op:Op} {r:ARes} (hc:zz7 op=.fresh) (h:zw4 op P tm H=some r) :
  ∃ (e:TypeId) (cs:List Value) (mk:Mk),(∀ H',zw4 op P tm H'=some (.val (mk.at H'.n) (H'.new (.cells cs e none))))/\mk.ok /\
   ∀ (ρ:Ren) (H:Hp) (W:World) (nt:Nat) (a:Act) (o:Oper),o.op=op->Rep P ρ H W->TR ρ tm nt a.tmps->∃ C:Array Value,VRs ρ cs C.toList/\(execOp a.eval o).run P W=.ok (.value (mk.at W.heap.size)) (W.alloc (.cells C e)):=by
 cases op<;>simp [zz7] at hc
 case alloc e=>
  have h:(zxa P e).map (yfq H e)=some r:=h;obtain ⟨z,hz,rfl⟩:=tzf.1 h;obtain ⟨hs,hrun⟩:=zr3 hz;refine ⟨e,cellsOf z,.ptr,λH'=>?_,trivial,λρ H W nt a o ho R ht=>⟨z.cells,(zz9 hs).cells,?_⟩⟩
  .show (zxa P e).map (yfq H' e)=_;rw [hz];rfl
  unfold execOp;rw [ho];refine zzz ?_;unfold Instr.alloc;simp [hrun,newVar,newRow];rfl
 case box e x=>
  have h:(zyk P tm x).map (yfq H e)=some r:=h;obtain ⟨v,hv,rfl⟩:=tzf.1 h;refine ⟨e,cellsOf v,.ptr,λH'=>?_,trivial,λρ H W nt a o ho R ht=>⟨(a.eval x).cells,(zzk R ht hv).cells,?_⟩⟩
  .show (zyk P tm x).map (yfq H' e)=_;rw [hv];rfl
  unfold execOp;rw [ho];refine zzz ?_;unfold Instr.box;simp [newVar,newRow];rfl
 case buildSlice t len ps=>
  have h:zy0 P tm H t len ps=some r:=h;have e0:∀ H',zw4 (.buildSlice t len ps) P tm H'=zy0 P tm H' t len ps:=λ_=>rfl;simp only [e0];unfold zy0 at h ⊢;split at h;rotate_left
  .simp at h
  rename_i e he;split at h;rotate_left
  .simp at h
  rename_i l hl;split at h
  .rename_i s hs;split at h
   .rename_i hle;split at h
    .rename_i z hz;obtain ⟨cs,hcs,rfl⟩:=tzf.1 h;have hle2:=hle;simp only [tzc,txw] at hle2;refine ⟨e,cs,.row len len,λH'=>?_,⟨tzp _,by unfold U;omega⟩,λρ H W nt a o ho R ht=>?_⟩
     .rw [hcs];rfl
     obtain ⟨z1,s',hs',z3,z4⟩:=zt2 hz;rw [hs] at hs';simp at hs';subst hs';obtain ⟨C',g1,g2⟩:=ztn (C:=z.toArray) hcs (by simpa using z1 ρ) (zw6 R ht hl);refine ⟨C',g2,?_⟩;unfold execOp;rw [ho];refine zzz ?_;have e1:ps.map (λ(i,x)=>(i,a.eval x))=(ps.toList.map λ(i,x)=>(i,a.eval x)).toArray:=by apply Array.ext';simp
     rw [e1];unfold Instr.buildSlice;simp only [tzz,zzw (zws he),tzm,zy4 hs];rw [if_neg (by omega)];by_cases h0:len*s=0
     .have hz0:z=[]:=tzy (by rw [z3,h0]);subst hz0;rw [if_pos h0];simp only [tzz,txh,tzm,h0];have:(Array.range 0).map (λi=>(#[]:Array Value)[i % (#[]:Array Value).size]!)=[].toArray:=by simp
      rw [this,g1];simp [newRow];rfl
     .obtain ⟨zv,hzr,hzs,heq⟩:=z4 h0;rw [if_neg h0];simp only [tzz,hzr,txh,tzm,heq,g1];simp [newRow];rfl
    .simp at h
   .simp at h
  .simp at h
 case makeSlice t l c=>
  have h:zxc P tm H t l c=some r:=h;have e0:∀ H',zw4 (.makeSlice t l c) P tm H'=zxc P tm H' t l c:=λ_=>rfl;simp only [e0];unfold zxc at h ⊢;split at h;rotate_left
  .simp at h
  rename_i e he;split at h;rotate_left
  .simp at h
  rename_i n hn;split at h;rotate_left
  .simp at h
  rename_i m hm;split at h;rotate_left
  .simp at h
  rename_i by_ hby;split at h
  .rename_i hc';have hc2:=hc';simp only [tzc,txw,txl] at hc2;obtain ⟨⟨hnm,hroom⟩,hm63⟩:=hc2;obtain ⟨cs,hcs,rfl⟩:=tzf.1 h;refine ⟨e,cs,.row n m,λH'=>?_,⟨hnm,by unfold U;omega⟩,λρ H W nt a o ho R ht=>?_⟩
   .rw [hcs];rfl
   obtain ⟨vn,hvn,hvn'⟩:=tzh.1 hn;obtain ⟨vm,hvm,hvm'⟩:=tzh.1 hm;have e1:=zov hvn';have e2:=zov hvm';subst e1 e2;have x1:=(zzk R ht hvn).int_eq;have x2:=(zzk R ht hvm).int_eq;obtain ⟨i,hi,rfl⟩:=znr hby;obtain ⟨z1,s,hs,z3,z4⟩:=zt2 hcs;have wl:IntKind.i64.wrap (n:Int)=n:=by rw [IntKind.wrap_i64];omega
   have wc:IntKind.i64.wrap (m:Int)=m:=by rw [IntKind.wrap_i64];omega
   have n1:¬((m:Int)<0):=by omega
   have n2:¬(281474976710656<(i.bytes:Int)*m):=(by grind);have n3:¬((n:Int)<0):=by omega
   have n4:¬((m:Int)<n):=by omega
   have n5:¬(140737488355328<m*i.bytes):=by omega
   refine ⟨cs.toArray,by simpa using z1 ρ,?_⟩;unfold execOp;rw [ho];refine zzz ?_;rw [x1,x2];by_cases hz:m*s=0
   .have:cs=[]:=tzy (by rw [z3,hz]);subst this;simp [Instr.makeSlice,zzw (zws he),asInt,asIntOf,zr2 hi,zy4 hs,wl,wc,n1,n2,n3,n4,n5,hz,newRow,askRoom,roomBytes,Array.range_zero',Mk.at]
   .obtain ⟨zv,hzr,hzs,heq⟩:=z4 hz;simp [Instr.makeSlice,zzw (zws he),asInt,asIntOf,zr2 hi,zy4 hs,wl,wc,n1,n2,n3,n4,n5,hz,newRow,askRoom,roomBytes,hzr,<-heq,Mk.at]
  .simp at h
 case call c=>
  grind
theorem Rep.later (R:Rep P ρ H W) (cs:List Value) (e:TypeId):Rep P ρ (H.new (.cells cs e none)) W/\ρ.blk H.n=none:=by
 have hn:ρ.blk H.n=none:=R.new _ (tzp _);have hne:∀ i B,H.get i=some B->i≠H.n:=λi B h e=>by have:=R.dom i B h;omega
 have hmap:∀ i p,ρ.blk i=some p->i≠H.n:=λi p h e=>by rw [e,hn] at h;cases h
 have hlv:∀ i B,live (H.new (.cells cs e none)) i B->live H i B:=λi B h=>by unfold live at h ⊢;split<;>simp_all
 refine ⟨⟨λi B p h hl hp=>?_,λi j A C q r hi hj hli hlj hm hnn hq hr=>?_,λi hi=>?_,λi B h=>?_,R.low,R.glob,λk j hj=>?_,λk=>?_,?_⟩,hn⟩
 .rw [Hp.get_new,if_neg (hmap i p hp)] at h;exact R.blk i B p h (hlv i B hl) hp
 .rw [Hp.get_new,if_neg (hmap i q hq)] at hi;rw [Hp.get_new,if_neg (hmap j r hr)] at hj;exact R.sep i j A C q r hi hj (hlv i A hli) (hlv j C hlj) hm hnn hq hr
 .simp only [Hp.n_new] at hi;exact R.new i (by omega)
 .rw [Hp.get_new] at h;simp only [Hp.n_new];split at h
  .omega
  have:=R.dom i B h;omega
 .rw [Hp.stk_new] at hj;have:=R.stk hj;rw [Hp.get_new,if_neg (by omega)];exact R.mem k j hj
 .rw [Hp.stk_new];refine (R.len k).congr λm hm=>?_;have:=R.stk hm;unfold Hp.len;rw [Hp.get_new,if_neg (by omega)]
 .have:=R.gl;simp only [Hp.n_new];omega
theorem Rep.realize (R:Rep P ρ H W) {i:Nat} {cs:List Value} {e:TypeId} (hg:H.get i=some (.cells cs e none)) (hn:ρ.blk i=none) {C:Array Value} (hv:VRs ρ cs C.toList) :
  Rep P (ρ.add i (W.heap.size,0) 0) H (W.alloc (.cells C e))/\ρ.Ext (ρ.add i (W.heap.size,0) 0):=by
 have hext:=Ren.ext_add hn (W.heap.size,0) 0;have hold:∀ b,b<W.heap.size->(W.alloc (.cells C e)).heap[b]? =W.heap[b]?:=λb hb=>by show (W.heap.push _)[b]? =_;rw [Array.getElem?_push,if_neg (by omega)]
 refine ⟨⟨λj B p h hl hp=>?_,λx y A B q r hx hy hlx hly hm hnn hq hr=>?_,λj hj=>?_,R.dom,λj q hq=>?_,λg hg'=>?_,R.mem,R.len,R.gl⟩,hext⟩
 .by_cases e1:j=i
  .subst e1;rw [hg] at h;simp at h;subst h;rw [Ren.add_same] at hp;simp at hp;subst hp;refine ⟨C,(0,0),(show (W.heap.push _)[W.heap.size]? =_ from Array.getElem?_push_size),rfl,λj _ h=>by simp at h,λk v hk=>?_,λh=>absurd rfl h⟩;obtain ⟨x,hx,hr⟩:=hv.get hk;exact ⟨x,by simpa using hx,hr.mono hext⟩
  .rw [Ren.add_other _ e1] at hp;exact (R.blk j B p h hl hp).mono hext hp (hold _ (R.low j p hp))
 .by_cases ex:x=i
  .subst ex;rw [Ren.add_same] at hq;simp at hq;subst hq;by_cases ey:y=x
   .subst ey;rw [hx] at hy;simp at hy;subst hy;exfalso;apply hnn;unfold same;split
    .rename_i h1 h2;simp_all
    .rfl
   .rw [Ren.add_other _ ey] at hr;have:=R.low y r hr;simp only;omega
  .rw [Ren.add_other _ ex] at hq;have hlow:=R.low x q hq;by_cases ey:y=i
   .subst ey;rw [Ren.add_same] at hr;simp at hr;subst hr;simp only;omega
   rw [Ren.add_other _ ey] at hr;exact R.sep x y A B q r hx hy hlx hly hm hnn hq hr
 .have:=R.dom i _ hg;rw [Ren.add_other _ (by omega)];exact R.new j hj
 .show q.1<(W.heap.push _).size;by_cases e1:j=i
  .subst e1;rw [Ren.add_same] at hq;simp at hq;subst hq;simp
  rw [Ren.add_other _ e1] at hq;have:=R.low j q hq;simp;omega
 .have:g≠i:=λe=>by rw [<-e,R.glob g hg'] at hn;cases hn
  rw [Ren.add_other _ this];exact R.glob g hg'
theorem Fr.realize {ρ0:Ren} {H0:Hp} {W0:World} (F:Fr ρ0 ρ H0 H W0 W) {i:Nat} (hi:H0.n<=i) (hn:ρ.blk i=none) (C:Array Value) (e:TypeId):Fr ρ0 (ρ.add i (W.heap.size,0) 0) H0 H W0 (W.alloc (.cells C e)):=by
 have hext:=Ren.ext_add hn (W.heap.size,0) 0;refine ⟨F.ext.trans hext,F.os,F.tape,F.output,?_,λb hb hno=>?_,λj B p h1 h2 h3=>?_,F.n,λj hj hjn=>?_⟩
 .show W0.heap.size<=(W.heap.push _).size;have:=F.size;simp;omega
 .have:b<W.heap.size:=tyf hb F.size;show (W.heap.push _)[b]? =_;rw [Array.getElem?_push,if_neg (by omega)];exact F.same b hb hno
 .by_cases e1:j=i
  .subst e1;rw [Ren.add_same] at h3;simp at h3;subst h3;exact .inl F.size
  .rw [Ren.add_other _ e1] at h3;exact F.fresh j B p h1 h2 h3
 .obtain ⟨g1,g2⟩:=F.ghost j hj hjn;exact ⟨by rw [Ren.add_other _ (by omega)];exact g1,g2⟩
theorem Fr.later {ρ0:Ren} {H0:Hp} {W0:World} (F:Fr ρ0 ρ H0 H W0 W) (R:Rep P ρ H W) (cs:List Value) (e:TypeId):Fr ρ0 ρ H0 (H.new (.cells cs e none)) W0 W:=by
 refine ⟨F.ext,F.os,F.tape,F.output,F.size,F.same,λj B p h1 h2 h3=>?_,by rw [Hp.n_new];have:=F.n;omega,λj hj hjn=>?_⟩
 .have:j≠H.n:=λe=>by rw [e,R.new _ (tzp _)] at h3;cases h3
  rw [Hp.get_new,if_neg this] at h1;exact F.fresh j B p h1 h2 h3
 .obtain ⟨g1,g2⟩:=F.ghost j hj hjn;have:=F.n;exact ⟨g1,by rw [Hp.get_new,if_neg (by omega)];exact g2⟩
theorem yd1 {a b:Option Addr} (h:eqA a b=true):a=b:=by
 unfold eqA at h;split at h
 .rfl
 .split at h
  .simp_all
  .cases h
 .cases h
theorem yli {a b:Bool} (h:ymw a b=true):a=b:=by cases a<;>cases b<;>first | rfl | cases h
theorem yzz {v w:Value} (h:yzc v w=true):v=w:=by
 unfold yzc at h;split at h
 .rw [yli h]
 .split at h
  .rename_i h1;rw [zmj] at h;rw [yla h1,eq_of_beq h]
  .cases h
 .rw [zd9] at h;rename_i a b;have:a=b:=(by have:=eq_of_beq h;apply ByteArray.ext;exact Array.ext' this);rw [this]
 .rw [yd1 h]
 .split at h
  .rename_i h1;split at h
   .rename_i h2;rw [tzo h1,tzo h2,yd1 h]
   .cases h
  .cases h
 .rfl
 .rw [tzo h]
 .rfl
 .rfl
 .cases h
theorem zj5:∀ {l m:List Value},ym2 l m=true->l=m
 | [],[],_=>rfl
 | [],_::_,h=>by cases h
 | _::_,[],h=>by cases h
 | v::l,w::m,h=>by
  simp only [ym2] at h;split at h
  .rename_i h1;rw [yzz h1,zj5 h]
  .cases h
theorem ylj {v w:Value} (h:eqV v w=true):v=w:=by
 unfold eqV at h;split at h
 .split at h
  .rw [Array.ext' (zj5 h)]
  .cases h
 .split at h
  .rw [Array.ext' (zj5 h)]
  .cases h
 .split at h
  .split at h
   .rename_i h1;rw [tzo h1,yzz h]
   .cases h
  .cases h
 .split at h
  .split at h
   .split at h
    .split at h
     .rename_i h1;split at h
      .rename_i h2;rw [tzo h1,Array.ext' (zj5 h2),Array.ext' (zj5 h)]
      .cases h
     .cases h
    .cases h
   .cases h
  .cases h
 .exact yzz h
end Go.Sim
namespace Go.Sim
open Go Go.IntWalk
def ywj (all:List Oper):Option (Nat×Bool)->List Tmp
 | none=>[]
 | some (j,_)=>match all[j]? with
  | some oj=>match oj.dst with
   | some t=>[t]
   | none=>[]
  | none=>[]
def zv6 (all:List Oper) (o:Oper):List Tmp:=ywj all o.guard++zms o.op.operands.toList
def zc7 (o:Oper):List Tmp:=match o.dst with
 | some t=>[t]
 | none=>[]
def zc8 (d:Option Tmp) (l:List Tmp):Bool:=match d with
 | some t=>zfh t l
 | none=>false
def ziy (all:List Oper) (x y:Oper):Bool:=zc8 x.dst (zc7 y++zv6 all y)||zc8 y.dst (zc7 x++zv6 all x)
def bit (b:List Nat) (i j:Nat):Bool:=Nat.testBit (b.getD i 0) j
def zrf (b:List Nat):List Edge->Nat
 | []=>0
 | e::l=>match Region.binds .any e with
  | true=>(2 ^ e.on ||| b.getD e.on 0) ||| zrf b l
  | false=>zrf b l
def zj6 (all:List Oper) (b:List Nat) (i:Nat) (o:Oper):List Nat->Bool
 | []=>true
 | j::l=>match (all[j]?).map (ziy all o) with
  | some true=>match bit b i j with
   | true=>zj6 all b i o l
   | false=>false
  | some false=>zj6 all b i o l
  | none=>false
def zcr (b:List Nat) (i:Nat) (γ:List Nat):Nat->Bool
 | 0=>true
 | n+1=>match bit b i n with
  | true=>match zfh n γ with
   | true=>zcr b i γ n
   | false=>false
  | false=>zcr b i γ n
def yf1 (γ:List Nat):Nat->Bool
 | 0=>true
 | n+1=>match zfh n γ with
  | true=>yf1 γ n
  | false=>false
def zr7 (b:List Nat) (i:Nat):List PI->Bool
 | []=>true
 | .run j::l=>match bit b j i with
  | true=>zr7 b i l
  | false=>false
 | .again _::l=>zr7 b i l
def ziz (b:List Nat) (i:Nat):List Nat->List Nat
 | []=>[]
 | j::l=>match bit b i j with
  | true=>ziz b i l
  | false=>j::ziz b i l
def zun (i:Nat):List Nat->List Nat
 | []=>[]
 | j::l=>match Nat.beq j i with
  | true=>zun i l
  | false=>j::zun i l
def zcs (all:List Oper) (i:Nat) (ts:List Tmp):List Nat->Bool
 | []=>false
 | j::l=>match Nat.beq j i with
  | true=>true
  | false=>match all[j]? with
   | some oj=>match zc8 oj.dst ts with
    | true=>false
    | false=>zcs all i ts l
   | none=>false
def small (b:List Nat) (i n:Nat):Bool:=Nat.blt (b.getD i 0) (2 ^ n)
def zuo (all:List Oper) (b:List Nat) (i:Nat) (o:Oper) (γ:List Nat):Bool:=
 match zfh i γ with
 | true=>false
 | false=>match Nat.beq (b.getD i 0) (zrf b o.after.toList) with
  | true=>match small b i all.length with
   | true=>match zcr b i γ all.length with
    | true=>zj6 all b i o γ
    | false=>false
   | false=>false
  | false=>false
def chk (all:List Oper) (b:List Nat):List PI->List Nat->List Nat->List Nat->Bool
 | [],γ,rd,stale=>match stale with
  | []=>yf1 γ all.length
  | _=>false
 | .run i::pl,γ,rd,stale=>match all[i]? with
  | none=>false
  | some o=>match zuo all b i o γ with
   | true=>match zz7 o.op with
    | .pure=>chk all b pl (i::γ) rd stale
    | .read=>chk all b pl (i::γ) (i::rd) stale
    | .fresh=>chk all b pl (i::γ) rd rd
    | .eff=>match stale with
     | []=>match zr7 b i pl with
      | true=>chk all b pl (i::γ) (ziz b i rd) (ziz b i rd)
      | false=>false
     | _=>false
   | false=>false
 | .again i::pl,γ,rd,stale=>match all[i]? with
  | none=>false
  | some o=>match zz7 o.op with
   | .read=>match zc8 o.dst (zv6 all o) with
    | true=>false
    | false=>match zcs all i (zc7 o++zv6 all o) γ with
     | true=>chk all b pl γ rd (zun i stale)
     | false=>false
   | _=>false
section
variable {P:Program} (all:List Oper) (b:List Nat) (nt:Nat) (tm0:Trie Value)
abbrev zmt:=List (Nat×Value×Trie Value)
def idx (γ:zmt):List Nat:=γ.map (·.1)
def zyz (S:Nat->Bool):zmt->Trie Value
 | []=>tm0
 | (i,v,_)::γ=>match S i with
  | true=>put (zyz S γ) nt ((all[i]?).bind (·.dst)) v
  | false=>zyz S γ
def GOK:zmt->Prop
 | []=>True
 | (i,v,tmi)::γ=>∃ o,all[i]? =some o/\i∉idx γ/\(∀ j,bit b i j=true->j∈idx γ)/\(∀ j oj,j∈idx γ->all[j]? =some oj->ziy all o oj=true->bit b i j=true) /\
   (∀ e∈o.after.toList,Region.binds .any e=true->bit b i e.on=true)/\(∀ j,bit b i j=true->∃ e∈o.after.toList,Region.binds .any e=true/\(j=e.on∨bit b e.on j=true)) /\
   (∀ t,tmi.get t=(zyz all nt tm0 (λ_=>true) γ).get t)/\GOK γ
def yf2 (P:Program) (H0:Hp) (ρ:Ren) (H:Hp) (x:Nat×Value×Trie Value):Prop:=
 ∃ o,all[x.1]? =some o/\((zyp all x.2.2 o.guard=false/\x.2.1=undef)∨(zyp all x.2.2 o.guard=true /\
  (((zz7 o.op=.pure∨zz7 o.op=.read)/\zw4 o.op P x.2.2 H=some (.val x.2.1 H)) ∨
   (zz7 o.op=.fresh/\∃ (e:TypeId) (cs:List Value) (mk:Mk) (id:Nat),mk.ok/\x.2.1=mk.at id/\H.get id=some (.cells cs e none)/\ρ.blk id=none/\H0.n<=id/\id<H.n /\
    ∀ (ρ:Ren) (H:Hp) (W:World) (nt:Nat) (a:Act) (o':Oper) (tm:Trie Value),o'.op=o.op->(∀ t,Operand.tmp t∈o.op.operands.toList->tm.get t=x.2.2.get t)->Rep P ρ H W->TR ρ tm nt a.tmps ->
     ∃ C:Array Value,VRs ρ cs C.toList/\(execOp a.eval o').run P W=.ok (.value (mk.at W.heap.size)) (W.alloc (.cells C e))))))
def Row (x:Nat×Value×Trie Value) (id:Nat):Prop:=(∃ o,all[x.1]? =some o/\zz7 o.op=.fresh)/\∃ mk:Mk,x.2.1=mk.at id
structure Inv (P:Program) (ρ0:Ren) (H0:Hp) (W0:World) (ds0:List Deferred) (γ:zmt) (rd stale:List Nat) (tm:Trie Value) (H:Hp) (listed:Array Bool) (a:Act) (w:World) (ρ:Ren):Prop where
 gok:GOK all b nt tm0 γ
 tmc:∀ t,tm.get t=(zyz all nt tm0 (λ_=>true) γ).get t
 tms:TR ρ (zyz all nt tm0 (λi=>listed.getD i false) γ) nt a.tmps
 rep:Rep P ρ H w
 fr:Fr ρ0 ρ H0 H W0 w
 dfs:a.defers=ds0
 sub:∀ i,listed.getD i false=true->i∈idx γ
 down:∀ i j,listed.getD i false=true->bit b i j=true->listed.getD j false=true
 pend:∀ x∈γ,listed.getD x.1 false=false->x.1∈stale∨yf2 all P H0 ρ H x
 rds:∀ x∈γ,listed.getD x.1 false=false->∀ o,all[x.1]? =some o->zz7 o.op=.read->x.1∈rd
 lsz:listed.size=all.length
 unw:∀ x∈γ,∀ o,all[x.1]? =some o->zyp all x.2.2 o.guard=false->x.2.1=undef
 str:∀ i∈stale,i∈rd
 low:∀ x∈γ,∀ id,Row all x id->id<H.n
 ids:∀ x∈γ,∀ y∈γ,∀ id,Row all x id->Row all y id->x.1=y.1
end
section lemmas
variable {P:Program} {all:List Oper} {b:List Nat} {nt:Nat} {tm0:Trie Value} {ρ ρ0:Ren} {H H0:Hp} {W0:World} {ds0:List Deferred}
theorem zwa (tm:Trie Value) (nt:Nat) (d:Option Tmp) (v:Value) (t:Tmp):(put tm nt d v).get t=if d=some t/\Nat.blt t nt=true then some v else tm.get t:=by
 cases d with
 | none=>simp [put]
 | some d=>
  show (putD tm nt d v).get t=_;unfold putD;split
  .rename_i hd;rw [zrb,Trie.get_put];by_cases e:t=d
   .subst e;rw [if_pos rfl,if_pos ⟨rfl,hd⟩]
   .grind
  .grind
theorem TR.congr {tm tm':Trie Value} {nt:Nat} {tmps:Array Value} (h:TR ρ tm nt tmps) (e:∀ t,tm'.get t=tm.get t):TR ρ tm' nt tmps:=⟨h.1,λt=>by rw [e];exact h.2 t⟩
theorem zwx {S S':Nat->Bool} {t:Tmp}:∀ {γ:zmt},(∀ i∈idx γ,(all[i]?).bind (·.dst)=some t->S i=S' i)->(zyz all nt tm0 S γ).get t=(zyz all nt tm0 S' γ).get t
 | [],_=>rfl
 | (i,v,tmi)::γ,h=>by
  have ih:=zwx (γ:=γ) (λj hj=>h j (by simp [idx] at hj ⊢;exact .inr hj));simp only [zyz];by_cases hd:(all[i]?).bind (·.dst)=some t
  .rw [h i (by simp [idx]) hd];cases S' i with
   | true=>simp only;rw [zwa,zwa,ih]
   | false=>exact ih
  cases S i<;>cases S' i<;>simp only<;>(try rw [zwa,if_neg (λg=>hd g.1)])<;>(try rw [zwa,if_neg (λg=>hd g.1)])<;>exact ih
theorem zfu {d:Option Tmp} {l:List Tmp}:zc8 d l=true↔∃ t,d=some t/\t∈l:=by
 unfold zc8;cases d with
 | none=>simp
 | some t=>simp [zwr]
theorem ywk {o:Oper} {t:Tmp} (h:o.dst=some t):t∈zc7 o:=by unfold zc7;rw [h];simp
theorem yse {x y:Oper} (h:ziy all x y=true):ziy all y x=true:=by
 unfold ziy at h ⊢;rw [Bool.or_comm];exact h
theorem ywl {x y:Oper} {t:Tmp} (h:y.dst=some t) (ht:t∈zc7 x++zv6 all x):ziy all x y=true:=by
 unfold ziy;rw [Bool.or_eq_true];exact .inr (zfu.2 ⟨t,h,ht⟩)
theorem GOK.mem {γ:zmt} (h:GOK all b nt tm0 γ):∀ {x},x∈γ->∃ γ1 γ2,γ=γ1++x::γ2/\GOK all b nt tm0 (x::γ2):=by
 intro x hx
 induction γ with
 | nil=>cases hx
 | cons y γ ih=>
  rcases tzu.1 hx with e | e
  .subst e;exact ⟨[],γ,rfl,h⟩
  obtain ⟨i,v,tmi⟩:=y;obtain ⟨o,_,_,_,_,_,_,_,g⟩:=h;obtain ⟨γ1,γ2,e1,e2⟩:=ih g e;exact ⟨(i,v,tmi)::γ1,γ2,by rw [e1];rfl,e2⟩
theorem zfv {i:Nat} {t:Tmp} (h:(all[i]?).bind (·.dst)=some t):∃ o,all[i]? =some o/\o.dst=some t:=tzh.1 h
theorem zh0 {S:Nat->Bool} {γ:zmt} {i:Nat} {o:Oper} (hS:∀ j,bit b i j=true->S j=true) (hT:∀ j oj,j∈idx γ->all[j]? =some oj->ziy all o oj=true->bit b i j=true) {t:Tmp} (ht:t∈zc7 o++zv6 all o) :
  (zyz all nt tm0 S γ).get t=(zyz all nt tm0 (λ_=>true) γ).get t:=by
 refine zwx λj hj hd=>?_;obtain ⟨oj,h1,h2⟩:=zfv hd;exact hS j (hT j oj hj h1 (ywl h2 ht))
theorem zr8 {S:Nat->Bool} {i:Nat} {v:Value} {tmi:Trie Value} {o:Oper} {γ2:zmt} (ho:all[i]? =some o) (hSi:S i=false) (hdown:∀ i j,S i=true->bit b i j=true->S j=true):∀ {γ1:zmt},GOK all b nt tm0 (γ1++(i,v,tmi)::γ2) ->
  ∀ j∈idx γ1,∀ t,t∈zc7 o++zv6 all o->(all[j]?).bind (·.dst)=some t->S j=false
 | [],_,j,hj,_,_,_=>by cases hj
 | (k,u,tmk)::γ1,h,j,hj,t,ht,hd=>by
  obtain ⟨ok,h1,h2,h3,h4,h5,h6,h7,h8⟩:=h
  rcases tzu.1 (show j∈k::idx γ1 from hj) with e | e
  .subst e
   obtain ⟨oj,g1,g2⟩:=zfv hd
   rw [h1] at g1;simp at g1;subst g1
   have hb:bit b j i=true:=h4 i o (by simp [idx]) ho (yse (ywl g2 ht))
   cases hS:S j with
   | false=>rfl
   | true=>have:=hdown j i hS hb;rw [hSi] at this;cases this
  .exact zr8 ho hSi hdown h8 j e t ht hd
theorem zw8 {S:Nat->Bool} {γ2:zmt} {t:Tmp}:∀ {γ1:zmt},(∀ j∈idx γ1,(all[j]?).bind (·.dst)=some t->S j=false)->(zyz all nt tm0 S (γ1++γ2)).get t=(zyz all nt tm0 S γ2).get t
 | [],_=>rfl
 | (k,u,tmk)::γ1,h=>by
  have ih:=zw8 (γ2:=γ2) (γ1:=γ1) λj hj=>h j (tzq _ hj);show (zyz all nt tm0 S ((k,u,tmk)::(γ1++γ2))).get t=_;simp only [zyz];cases hS:S k with
  | false=>exact ih
  | true=>
   simp only;rw [zwa,if_neg]
   .exact ih
   rintro ⟨g,_⟩;have:=h k (tz0 ..) g;rw [hS] at this;cases this
theorem zct {S:Nat->Bool} {i:Nat} {v:Value} {tmi:Trie Value} {o:Oper} {γ1 γ2:zmt} (h:GOK all b nt tm0 (γ1++(i,v,tmi)::γ2)) (h2:GOK all b nt tm0 ((i,v,tmi)::γ2)) (ho:all[i]? =some o) (hSi:S i=false) (hdown:∀ i j,S i=true->bit b i j=true->S j=true)
  (hS:∀ j,bit b i j=true->S j=true) {t:Tmp} (ht:t∈zc7 o++zv6 all o):(zyz all nt tm0 S (γ1++(i,v,tmi)::γ2)).get t=tmi.get t:=by
 obtain ⟨o',g1,g2,g3,g4,g5,g6,g7,g8⟩:=h2;rw [ho] at g1;simp at g1;subst g1;rw [zw8 λj hj hd=>zr8 ho hSi hdown h j hj t ht hd];simp only [zyz,hSi];rw [zh0 hS g4 ht,g7]
theorem ylk {S:Nat->Bool} {i:Nat} {v:Value} {tmi:Trie Value} {o:Oper} {γ1 γ2:zmt} (h:GOK all b nt tm0 (γ1++(i,v,tmi)::γ2)) (ho:all[i]? =some o) (hSi:S i=false) (hdown:∀ i j,S i=true->bit b i j=true->S j=true) {S':Nat->Bool} (hS':∀ j,S' j=if j=i then true else S j)
  (hnot:i∉idx γ1/\i∉idx γ2) (t:Tmp):(zyz all nt tm0 S' (γ1++(i,v,tmi)::γ2)).get t=(put (zyz all nt tm0 S (γ1++(i,v,tmi)::γ2)) nt o.dst v).get t:=by
 rw [zwa];by_cases hd:o.dst=some t
 .have e1:(zyz all nt tm0 S' (γ1++(i,v,tmi)::γ2)).get t=(zyz all nt tm0 S' ((i,v,tmi)::γ2)).get t:=
   zw8 λj hj hdj=>by
    have hji:j≠i:=λe=>hnot.1 (e▸hj)
    rw [hS',if_neg hji]
    exact zr8 ho hSi hdown h j hj t (txf _ (ywk hd)) hdj
  have e2:(zyz all nt tm0 S (γ1++(i,v,tmi)::γ2)).get t=(zyz all nt tm0 S ((i,v,tmi)::γ2)).get t:=
   zw8 λj hj hdj=>zr8 ho hSi hdown h j hj t (txf _ (ywk hd)) hdj
  rw [e1,e2];simp only [zyz,hSi,hS',if_true,ho,tzn,zwa,hd,true_and];split
  .rfl
  refine zwx λj hj _=>?_;have hji:j≠i:=λe=>hnot.2 (e▸hj);rw [hS',if_neg hji]
 .rw [if_neg (λg=>hd g.1)];refine zwx λj hj hdj=>?_;have hji:j≠i:=λe=>by subst e;rw [ho] at hdj;exact hd hdj
  rw [hS',if_neg hji]
end lemmas
end Go.Sim
namespace Go.Sim
open Go Go.IntWalk
section
variable {P:Program} {all:List Oper} {b:List Nat} {nt:Nat} {tm0:Trie Value} {ρ ρ0:Ren} {H H0:Hp} {W0:World} {ds0:List Deferred} {γ:zmt} {rd stale:List Nat} {tm:Trie Value} {listed:Array Bool} {a:Act} {w:World}
theorem zrg:∀ {l:List Edge} {j:Nat},Nat.testBit (zrf b l) j=true->∃ e∈l,Region.binds .any e=true/\(j=e.on∨bit b e.on j=true)
 | [],j,h=>by simp [zrf] at h
 | e::l,j,h=>by
  simp only [zrf] at h;split at h
  .rename_i hb;rw [Nat.testBit_or,Nat.testBit_or,Bool.or_eq_true,Bool.or_eq_true] at h;rcases h with (h | h) | h
   .grind
   .exact ⟨e,by simp,hb,.inr h⟩
   obtain ⟨e',h1,h2⟩:=zrg h;exact ⟨e',by simp [h1],h2⟩
  .obtain ⟨e',h1,h2⟩:=zrg h;exact ⟨e',by simp [h1],h2⟩
theorem zmu:∀ {l:List Edge} {e:Edge},e∈l->Region.binds .any e=true->Nat.testBit (zrf b l) e.on=true
 | x::l,e,h,hb=>by
  simp only [zrf];rcases tzu.1 h with g | g
  .simp_all
  have ih:=zmu g hb;split
  .simp [Nat.testBit_or,ih]
  .exact ih
theorem zpi {i:Nat} {l:List Nat}:∀ {n:Nat},zcr b i l n=true->∀ j,j<n->bit b i j=true->j∈l
 | n+1,h,j,hj,hb=>by
  simp only [zcr] at h;split at h
  .split at h
   .rename_i hm;rcases Nat.lt_succ_iff_lt_or_eq.1 hj with g | g
    .exact zpi h j g hb
    subst g;exact zwr.1 hm
   .cases h
  .rename_i hn;rcases Nat.lt_succ_iff_lt_or_eq.1 hj with g | g
   .exact zpi h j g hb
   subst g;rw [hb] at hn;cases hn
theorem zh1 {l:List Nat}:∀ {n:Nat},yf1 l n=true->∀ j,j<n->j∈l
 | n+1,h,j,hj=>by
  simp only [yf1] at h;split at h
  .rename_i hm;rcases Nat.lt_succ_iff_lt_or_eq.1 hj with g | g
   .exact zh1 h j g
   subst g;exact zwr.1 hm
  .cases h
theorem zcu {i:Nat} {o:Oper} {l:List Nat} (h:zj6 all b i o l=true):∀ j oj,j∈l->all[j]? =some oj->ziy all o oj=true->bit b i j=true:=by
 induction l with
 | nil=>intro j oj hj;cases hj
 | cons k l ih=>
  intro j oj hj ho ht;unfold zj6 at h;split at h
  .grind
  .grind
  cases h
theorem zxq {i:Nat} {o:Oper} {l:List Nat} (h:zuo all b i o l=true):i∉l/\(∀ j,bit b i j=true->j∈l)/\(∀ j oj,j∈l->all[j]? =some oj->ziy all o oj=true->bit b i j=true) /\
  (∀ e∈o.after.toList,Region.binds .any e=true->bit b i e.on=true)/\(∀ j,bit b i j=true->∃ e∈o.after.toList,Region.binds .any e=true/\(j=e.on∨bit b e.on j=true)):=by
 unfold zuo at h;split at h
 .cases h
 rename_i hm;split at h
 .rename_i hcl;have hcl:=tzo hcl;split at h
  .rename_i hlt;have hlt:b.getD i 0<2 ^ all.length:=by unfold small at hlt;rwa [txl] at hlt
   split at h
   .rename_i hw;refine ⟨λg=>absurd (zwr.2 g) (by rw [hm];exact Bool.false_ne_true),λj hj=>?_,zcu h,λe he hb=>?_,λj hj=>?_⟩
    .refine zpi hw j ?_ hj;rcases tz9 j all.length with g | g
     .exact g
     have:=Nat.testBit_lt_two_pow (tyf hlt (Nat.pow_le_pow_right (by omega) g));unfold bit at hj;rw [this] at hj;cases hj
    .unfold bit;rw [hcl];exact zmu he hb
    .unfold bit at hj;rw [hcl] at hj;exact zrg hj
   .cases h
  .cases h
 .cases h
theorem zox {i:Nat}:∀ {l:List Nat} {j:Nat},j∈l->bit b i j=false->j∈ziz b i l
 | k::l,j,h,hb=>by
  simp only [ziz];rcases tzu.1 h with g | g
  .subst g;rw [hb];simp
  split
  .exact zox g hb
  exact tzq _ (zox g hb)
theorem zpj {i:Nat}:∀ {l:List Nat} {j:Nat},j∈l->j≠i->j∈zun i l
 | k::l,j,h,hne=>by
  simp only [zun];rcases tzu.1 h with g | g
  .subst g;have:Nat.beq j i=false:=by cases hb:Nat.beq j i with | false=>rfl | true=>exact absurd (tzo hb) hne
   rw [this];simp
  .split
   .exact zpj g hne
   exact tzq _ (zpj g hne)
theorem zpk {i:Nat}:∀ {l:List Nat} {j:Nat},j∈zun i l->j∈l
 | k::l,j,h=>by
  simp only [zun] at h;split at h
  .exact tzq _ (zpk h)
  rcases tzu.1 h with g | g
  .subst g;simp
  exact tzq _ (zpk g)
theorem zh2 {i:Nat} {v:Value} {tmi:Trie Value} {ts:List Tmp} {γ2:zmt}:∀ {γ1:zmt},i∉idx γ1->zcs all i ts (idx (γ1++(i,v,tmi)::γ2))=true->∀ j∈idx γ1,∀ t∈ts,(all[j]?).bind (·.dst)≠some t
 | [],_,_,j,hj,_,_=>by cases hj
 | (k,u,tmk)::γ1,hi,h,j,hj,t,ht=>by
  have h:(match Nat.beq k i with
   | true=>true
   | false=>match all[k]? with
    | some oj=>match zc8 oj.dst ts with
     | true=>false
     | false=>zcs all i ts (idx (γ1++(i,v,tmi)::γ2))
    | none=>false)=true:=h
  have hki:Nat.beq k i=false:=by cases hb:Nat.beq k i with
   | false=>rfl
   | true=>have:=tzo hb;exact absurd (by rw [this];exact tz0 ..) hi
  rw [hki] at h;simp only at h;split at h
  .rename_i oj hoj;split at h
   .cases h
   rename_i hh;rcases tzu.1 (show j∈k::idx γ1 from hj) with e | e
   .subst e;intro hd;obtain ⟨o2,g1,g2⟩:=zfv hd;rw [hoj] at g1;simp at g1;subst g1;rw [zfu.2 ⟨t,g2,ht⟩] at hh;cases hh
   .exact zh2 (λg=>hi (tzq _ g)) h j e t ht
  .cases h
theorem GOK.older {i:Nat} {v:Value} {tmi:Trie Value} {γ2:zmt}:∀ {γ1:zmt},GOK all b nt tm0 (γ1++(i,v,tmi)::γ2)->i∉idx γ1
 | [],_,h=>by cases h
 | (k,u,tmk)::γ1,g,h=>by
  obtain ⟨ok,h1,h2,h3,h4,h5,h6,h7,h8⟩:=g;rcases tzu.1 (show i∈k::idx γ1 from h) with e | e
  .subst e;exact h2 (by simp [idx])
  .exact GOK.older h8 e
theorem GOK.here {x:Nat×Value×Trie Value} {γ2:zmt} (g:GOK all b nt tm0 (x::γ2)):x.1∉idx γ2:=by
 obtain ⟨i,v,tmi⟩:=x;obtain ⟨o,_,h,_⟩:=g;exact h
theorem yf2.mono {ρ':Ren} {H':Hp} {x:Nat×Value×Trie Value} (h:yf2 all P H0 ρ H x) (hn:H.n<=H'.n) (hg:∀ i,i<H.n->ρ.blk i=none->ρ'.blk i=none/\H'.get i=H.get i)
  (hr:∀ o,all[x.1]? =some o->zz7 o.op=.read->H'=H):yf2 all P H0 ρ' H' x:=by
 obtain ⟨o,ho,h⟩:=h;refine ⟨o,ho,h.imp id λ⟨hw,h⟩=>⟨hw,h.imp (λ⟨hc,h⟩=>⟨hc,?_⟩) λ⟨hc,e,cs,mk,id,h1,h2,h3,h4,h5,h6,h7⟩=>?_⟩⟩
 .rcases hc with hc | hc
  .obtain ⟨v,e,g⟩:=zhz hc h (λv2 H2 e2=>by cases e2;rfl);simp at e;rw [g H',e]
  .rw [hr o ho hc];exact h
 .grind
theorem Inv.again (I:Inv all b nt tm0 P ρ0 H0 W0 ds0 γ rd stale tm H listed a w ρ) {i:Nat} {o:Oper} (ho:all[i]? =some o) (hc:zz7 o.op=.read) (hh:zc8 o.dst (zv6 all o)=false) (hs:zcs all i (zc7 o++zv6 all o) (idx γ)=true)
  (ha:zno P all tm nt H o=true):Inv all b nt tm0 P ρ0 H0 W0 ds0 γ rd (zun i stale) tm H listed a w ρ:=by
 refine ⟨I.gok,I.tmc,I.tms,I.rep,I.fr,I.dfs,I.sub,I.down,λx hx hS=>?_,I.rds,I.lsz,I.unw,λj hj=>I.str j (zpk hj),I.low,I.ids⟩;rcases I.pend x hx hS with g | g
 rotate_left
 .exact .inr g
 by_cases hxi:x.1=i;rotate_left
 .exact .inl (zpj g hxi)
 right;obtain ⟨k,v,tmi⟩:=x;simp only at hxi;subst hxi;obtain ⟨γ1,γ2,e1,e2⟩:=I.gok.mem hx;have hgk:=I.gok;rw [e1] at hgk hs;have hst:=zh2 (GOK.older hgk) hs;have hold:∀ t∈zc7 o++zv6 all o,tm.get t=(put tmi nt o.dst v).get t:=(by intro t ht;rw [I.tmc,e1,zw8 λj hj hd=>absurd hd (hst j hj t ht)];simp only [zyz];rw [zwa,zwa,ho];obtain ⟨o',g1,g2,g3,g4,g5,g6,g7,g8⟩:=e2;rw [g7];rfl);have hlook:∀ t∈zv6 all o,tm.get t=tmi.get t:=(by intro t ht;rw [hold t (txg _ ht),zwa,if_neg];rintro ⟨g,_⟩;rw [zfu.2 ⟨t,g,ht⟩] at hh;cases hh)
 have hw:zyp all tm o.guard=zyp all tmi o.guard:=zre λj want oj t hg hj hd=>hlook t (by
  unfold zv6;refine txf _ ?_
  rw [hg];simp [ywj,hj,hd])
 refine ⟨o,ho,?_⟩;obtain ⟨dst,op,ty,pos,after,gd⟩:=o;simp only [zno] at ha;simp only at hw hc;cases hwt:zyp all tm gd with
 | false=>
  rw [hwt] at hw;exact .inl ⟨hw.symm,I.unw _ hx _ ho hw.symm⟩
 | true=>
  rw [hwt] at ha hw;simp only at ha;refine .inr ⟨hw.symm,.inl ⟨.inr hc,?_⟩⟩;rw [<-ztp (tm:=tm) λt ht=>hlook t (txg _ (zwi ht))];unfold yzd at ha;split at ha
  .rename_i u H' hop;split at ha
   .rename_i d;split at ha
    .rename_i hd;split at ha
     .rename_i u' hu';have:=hold d (txf _ (by simp [zc7]));rw [zwa,if_pos ⟨rfl,hd⟩,hu'] at this;simp at this;subst this;rw [hop,ylj ha];obtain ⟨v2,e⟩:=zcq hc hop;simp at e;rw [e.2]
     .cases ha
    .cases ha
   .cases ha
  .cases ha
end
end Go.Sim
namespace Go.Sim
open Go Go.IntWalk
section
variable {P:Program} {all:List Oper} {b:List Nat} {nt:Nat} {tm0:Trie Value} {ρ ρ0:Ren} {H H0:Hp} {W0:World} {ds0:List Deferred} {γ:zmt} {rd stale:List Nat} {tm:Trie Value} {listed:Array Bool} {a:Act} {w:World}
theorem Mk.inj {mk mk':Mk} {i j:Nat} (h:mk.at i=mk'.at j):i=j:=by
 cases mk<;>cases mk'<;>simp [Mk.at] at h<;>first | exact h | exact h.1
theorem Mk.ne_undef {mk:Mk} {i:Nat}:mk.at i≠undef:=by cases mk<;>simp [Mk.at,undef]
theorem Inv.more (I:Inv all b nt tm0 P ρ0 H0 W0 ds0 γ rd stale tm H listed a w ρ) {i:Nat} {o:Oper} (ho:all[i]? =some o) (hen:zuo all b i o (idx γ)=true) {v:Value} {H1:Hp} {rd1 stale1:List Nat}
  (hrep:Rep P ρ H1 w) (hfr:Fr ρ0 ρ H0 H1 W0 w) (hrd:∀ j∈rd,j∈rd1) (hrd':zz7 o.op=.read->i∈rd1) (hst:∀ j∈stale1,j∈rd1) (hp:∀ x∈γ,listed.getD x.1 false=false->x.1∈stale1∨yf2 all P H0 ρ H1 x)
  (hnew:listed.getD i false=false->yf2 all P H0 ρ H1 (i,v,tm)) (hu:zyp all tm o.guard=false->v=undef) (hn:H.n<=H1.n) (hrow:∀ id,Row all (i,v,tm) id->id=H.n/\H.n<H1.n) :
  Inv all b nt tm0 P ρ0 H0 W0 ds0 ((i,v,tm)::γ) rd1 stale1 (put tm nt o.dst v) H1 listed a w ρ:=by
 obtain ⟨e1,e2,e3,e4,e5⟩:=zxq hen
 have hSi:listed.getD i false=false:=by
  cases hs:listed.getD i false with
  | false=>rfl
  | true=>exact absurd (I.sub i hs) e1
 refine ⟨⟨o,ho,e1,e2,e3,e4,e5,I.tmc,I.gok⟩,λt=>?_,?_,hrep,hfr,I.dfs,λj hj=>tzq _ (I.sub j hj),I.down,λx hx hS=>?_,λx hx hS o' ho' hc'=>?_,I.lsz,λx hx o' ho' hw'=>?_,hst,λx hx id hr=>?_,λx hx y hy id hrx hry=>?_⟩
 .simp only [zyz];rw [zwa,zwa,ho,I.tmc];rfl
 .simp only [zyz,hSi];exact I.tms
 .grind
 .rcases tzu.1 hx with g | g
  .simp_all
  exact hrd _ (I.rds x g hS o' ho' hc')
 .rcases tzu.1 hx with g | g
  .simp_all
  exact I.unw x g o' ho' hw'
 .rcases tzu.1 hx with g | g
  .grind
  have:=I.low x g id hr;omega
 rcases tzu.1 hx with g | g
 .subst g;rcases tzu.1 hy with g' | g'
  .subst g';rfl
  obtain ⟨k1,k2⟩:=hrow id hrx;have:=I.low y g' id hry;omega
 rcases tzu.1 hy with g' | g'
 .subst g';obtain ⟨k1,k2⟩:=hrow id hry;have:=I.low x g id hrx;omega
 .exact I.ids x g y g' id hrx hry
theorem Inv.plan (I:Inv all b nt tm0 P ρ0 H0 W0 ds0 γ rd stale tm H listed a w ρ) {i:Nat} {o:Oper} (ho:all[i]? =some o) (hen:zuo all b i o (idx γ)=true) (hc:zz7 o.op≠.eff) {sub:Sub} {tm1:Trie Value} {H1:Hp} (h:ytv sub P all tm nt H o=some (tm1,H1)) :
  ∃ v,Inv all b nt tm0 P ρ0 H0 W0 ds0 ((i,v,tm)::γ) (match zz7 o.op with | .read=>i::rd | _=>rd) (match zz7 o.op with | .fresh=>rd | _=>stale) tm1 H1 listed a w ρ:=by
 obtain ⟨dst,op,ty,pos,after,gd⟩:=o;simp only [ytv] at h;simp only at hc;have hrow0:∀ v tmx id,zz7 op≠.fresh->¬Row all (i,v,tmx) id:=(by rintro v tmx id hne ⟨⟨o',h1,h2⟩,_⟩;rw [ho] at h1;simp at h1;subst h1;exact hne h2)
 have keep:∀ x∈γ,listed.getD x.1 false=false->x.1∈(match zz7 op with | .fresh=>rd | _=>stale)∨yf2 all P H0 ρ H x:=by
  intro x hx hS;rcases I.pend x hx hS with g | g
  .left;split
   .exact I.str _ g
   .exact g
  .exact .inr g
 have st:∀ j∈(match zz7 op with | .fresh=>rd | _=>stale),j∈(match zz7 op with | .read=>i::rd | _=>rd):=by
  intro j hj;have hjr:j∈rd:=by split at hj;exact hj;exact I.str j hj
  split
  .exact tzq _ hjr
  .exact hjr
 have rdi:∀ j∈rd,j∈(match zz7 op with | .read=>i::rd | _=>rd):=(by grind);split at h;rotate_left
 .rename_i hw;simp at h;obtain ⟨rfl,rfl⟩:=h;refine ⟨undef,I.more (o:=⟨dst,op,ty,pos,after,gd⟩) ho hen I.rep I.fr rdi (λg=>?_) st keep (λ_=>⟨_,ho,.inl ⟨hw,rfl⟩⟩) (λ_=>rfl) (tzp _) λid hr=>?_⟩
  .simp_all
  obtain ⟨_,mk',hm⟩:=hr;exact absurd hm.symm Mk.ne_undef
 rename_i hw;cases hop:zw4 op P tm H with
 | none=>rw [hop] at h;cases hq:zz7 op<;>rw [hq] at h<;>simp [zuw,zm6,ym3] at h
 | some r=>
 rw [hop] at h;cases hcl:zz7 op with
 | eff=>exact absurd hcl hc
 | pure=>
  rw [hcl] at h
  have hn:∀ v H',r=.val v H'->H'.n=H.n:=by
   rintro v H' rfl;simp only [zm6,ym3] at h;split at h
   .rename_i hb;exact tzo hb
   .simp [zuw] at h
  obtain ⟨v,rfl,hind⟩:=zhz hcl hop hn;simp [zuw,zm6,ym3] at h;obtain ⟨rfl,rfl⟩:=h;refine ⟨v,I.more (o:=⟨dst,op,ty,pos,after,gd⟩) ho hen I.rep I.fr (λj hj=>hj) (λg=>by simp only at g;rw [hcl] at g;cases g) I.str I.pend (λ_=>⟨_,ho,.inr ⟨hw,.inl ⟨.inl hcl,hop⟩⟩⟩) (λg=>by simp only at g;rw [hw] at g;cases g) (tzp _) λid hr=>absurd hr (hrow0 _ _ _ (by rw [hcl];exact Cls.noConfusion))⟩
 | read=>
  obtain ⟨v,rfl⟩:=zcq hcl hop;rw [hcl] at h;simp [zuw,zm6] at h;obtain ⟨rfl,rfl⟩:=h;refine ⟨v,I.more (o:=⟨dst,op,ty,pos,after,gd⟩) ho hen I.rep I.fr (λj hj=>tzq _ hj) (λg=>tz0 ..) (λj hj=>tzq _ (I.str j hj)) I.pend (λ_=>⟨_,ho,.inr ⟨hw,.inl ⟨.inr hcl,hop⟩⟩⟩) (λg=>by simp only at g;rw [hw] at g;cases g) (tzp _) λid hr=>absurd hr (hrow0 _ _ _ (by rw [hcl];exact Cls.noConfusion))⟩
 | fresh=>
  obtain ⟨e,cs,mk,hall,hok,hrun⟩:=ywi hcl hop;rw [hall H] at hop;simp at hop;subst hop;rw [hcl] at h;simp [zuw,zm6] at h;obtain ⟨rfl,rfl⟩:=h;obtain ⟨R',hnone⟩:=I.rep.later cs e;refine ⟨mk.at H.n,I.more (o:=⟨dst,op,ty,pos,after,gd⟩) ho hen R' (I.fr.later I.rep cs e) (λj hj=>hj) (λg=>by simp only at g;rw [hcl] at g;cases g) (λj hj=>hj) (λx hx hS=>?_) (λ_=>?_) (λg=>by simp only at g;rw [hw] at g;cases g) (by rw [Hp.n_new];omega) λid hr=>?_⟩
  .by_cases hr:∃ o',all[x.1]? =some o'/\zz7 o'.op=.read
   .obtain ⟨o',h1,h2⟩:=hr;exact .inl (I.rds x hx hS o' h1 h2)
   rcases I.pend x hx hS with g | g
   .exact .inl (I.str _ g)
   exact .inr (g.mono (by rw [Hp.n_new];omega) (λj hj hn=>⟨hn,by rw [Hp.get_new,if_neg (by omega)]⟩) λo' h1 h2=>absurd ⟨o',h1,h2⟩ hr)
  .refine ⟨_,ho,.inr ⟨hw,.inr ⟨hcl,e,cs,mk,H.n,hok,rfl,by rw [Hp.get_new,if_pos rfl],hnone,I.fr.n,by rw [Hp.n_new];omega,λρ2 H2 W2 nt2 a2 o2 tm2 h1 h2 R2 t2=>?_⟩⟩⟩;obtain ⟨e',cs',mk',hall',hok',hrun'⟩:=ywi (P:=P) (tm:=tm2) (op:=op) (H:=H) hcl (by rw [ztp (tm':=tm) h2];exact hall H);have:=hall' H;rw [ztp (tm':=tm) h2,hall H] at this;simp only [tza,ARes.val.injEq] at this;obtain ⟨t1,t3⟩:=this;have hget:(H.new (.cells cs e none)).get H.n=(H.new (.cells cs' e' none)).get H.n:=by rw [t3]
   rw [Hp.get_new,Hp.get_new,if_pos rfl,if_pos rfl] at hget;simp at hget;obtain ⟨rfl,rfl⟩:=hget
   have hmk:∀ k,mk.at k=mk'.at k:=by
    intro k;cases mk<;>cases mk'<;>simp [Mk.at] at t1 ⊢
    exact t1
   rw [hmk];exact hrun' ρ2 H2 W2 nt2 a2 o2 h1 R2 t2
  .obtain ⟨_,mk',hm⟩:=hr;exact ⟨(Mk.inj hm).symm,by rw [Hp.n_new];omega⟩
theorem znw {listed:Array Bool} {i:Nat} (hi:i<listed.size) (j:Nat):(listed.setIfInBounds i true).getD j false=if j=i then true else listed.getD j false:=by
 rw [tyc,tyc,ty9];by_cases e:i=j
 .simp_all
 rw [if_neg e,if_neg (Ne.symm e)]
theorem Inv.lt (I:Inv all b nt tm0 P ρ0 H0 W0 ds0 γ rd stale tm H listed a w ρ) {i:Nat} {o:Oper} (ho:all[i]? =some o):i<listed.size:=by
 rw [I.lsz];exact (tyl.1 ho).1
theorem Inv.done (I:Inv all b nt tm0 P ρ0 H0 W0 ds0 γ rd [] tm H listed a w ρ) {x:Nat×Value×Trie Value} (hx:x∈γ) (hS:listed.getD x.1 false=false) (hb:∀ j,bit b x.1 j=true->listed.getD j false=true) {o:Oper} (ho:all[x.1]? =some o)
  {ρ':Ren} {w':World} {xv:Value} (hext:ρ.Ext ρ') (hv:VR ρ' x.2.1 xv) (hrep:Rep P ρ' H w') (hfr:Fr ρ0 ρ' H0 H W0 w') (hp:∀ y∈γ,y.1≠x.1->yf2 all P H0 ρ H y->yf2 all P H0 ρ' H y) :
  Inv all b nt tm0 P ρ0 H0 W0 ds0 γ rd [] tm H (listed.setIfInBounds x.1 true) (a.put o.dst xv) w' ρ':=by
 have hlt:=I.lt ho;have hset:=znw (listed:=listed) hlt;obtain ⟨γ1,γ2,e1,e2⟩:=I.gok.mem hx;have hgk:=I.gok;rw [e1] at hgk;refine ⟨I.gok,I.tmc,?_,hrep,hfr,?_,λj hj=>?_,λj k hj hbk=>?_,λy hy hSy=>?_,λy hy hSy=>?_,by simp [I.lsz],I.unw,I.str,I.low,I.ids⟩
 .obtain ⟨k,v,tmi⟩:=x;refine (TR.put (I.tms.mono hext) o.dst hv).congr λt=>?_;rw [e1];exact ylk hgk ho hS I.down hset ⟨GOK.older hgk,e2.here⟩ t
 .rw [<-I.dfs];cases o.dst<;>rfl
 .rw [hset] at hj;split at hj
  .rename_i e;subst e;exact tyg.2 ⟨x,hx,rfl⟩
  .exact I.sub j hj
 .rw [hset] at hj ⊢;split
  .rfl
  split at hj
  .rename_i e;subst e;exact hb k hbk
  .exact I.down j k hj hbk
 .rw [hset] at hSy;split at hSy
  .cases hSy
  rename_i hne;rcases I.pend y hy hSy with g | g
  .cases g
  exact .inr (hp y hy hne g)
 .rw [hset] at hSy;split at hSy
  .cases hSy
  exact I.rds y hy hSy
theorem Inv.pending (I:Inv all b nt tm0 P ρ0 H0 W0 ds0 γ rd [] tm H listed a w ρ) {ops:Array Oper} (hops:ops.toList=all) {Q:Exit->Act->World->Prop} {x:Nat×Value×Trie Value} (hx:x∈γ) (hS:listed.getD x.1 false=false) (hb:∀ j,bit b x.1 j=true->listed.getD j false=true)
  {K:Act->World->Prop} (hK:∀ a' w' ρ',Inv all b nt tm0 P ρ0 H0 W0 ds0 γ rd [] tm H (listed.setIfInBounds x.1 true) a' w' ρ'->K a' w'):wpOp P ops Q x.1 K a w:=by
 rcases I.pend x hx hS with g | g
 .cases g
 obtain ⟨o,ho,g⟩:=g;have ho':ops[x.1]? =some o:=by rw [<-txy,hops];exact ho
 obtain ⟨γ1,γ2,e1,e2⟩:=I.gok.mem hx;have hgk:=I.gok;rw [e1] at hgk;have hlook:∀ t∈zv6 all o,(zyz all nt tm0 (λi=>listed.getD i false) γ).get t=x.2.2.get t:=(by intro t ht;obtain ⟨k,v,tmi⟩:=x;rw [e1];exact zct hgk e2 ho hS I.down hb (txg _ ht))
 have hw:zyp all (zyz all nt tm0 (λi=>listed.getD i false) γ) o.guard=zyp all x.2.2 o.guard:=zre λj want oj t hg hj hd=>hlook t (by
  unfold zv6;refine txf _ ?_
  rw [hg];simp [ywj,hj,hd])
 have hw2:=zrc hops I.tms o;unfold wpOp;simp only [ho'];rcases g with ⟨gw,gv⟩ | ⟨gw,g⟩
 .rw [if_neg (by rw [hw2,hw,gw];exact Bool.false_ne_true)];exact hK _ _ ρ (I.done hx hS hb ho (.refl ρ) (by rw [gv];exact .undef) I.rep I.fr λy _ _ h=>h)
 rw [if_pos (by rw [hw2,hw,gw])];left;rcases g with ⟨_,hop⟩ | ⟨hcl,e,cs,mk,id,hok,hv,hget,hno,hlow,hidn,hrun⟩
 .rw [<-ztp (tm:=zyz all nt tm0 (λi=>listed.getD i false) γ) λt ht=>hlook t (txg _ (zwi ht))] at hop;obtain ⟨ρ',y,W',hres,hvy,hR,hF⟩:=zto I.rep I.tms (o:=o) hop;have I':=I.done hx hS hb ho hF.ext hvy hR (I.fr.trans hF) λy hy _ h=>h.mono (tzp _) hF.ghost λ_ _ _=>rfl;unfold Oper.wp;rcases hres with e' | ⟨e',rfl⟩
  .rw [e'];exact hK _ _ ρ' I'
  rw [e'];exact hK _ _ ρ' I'
 obtain ⟨C,hC,hex⟩:=hrun ρ H w nt a o _ rfl (λt ht=>hlook t (txg _ (zwi ht))) I.rep I.tms;obtain ⟨R',hext⟩:=I.rep.realize hget hno hC;have hrow:Row all x id:=⟨⟨o,ho,hcl⟩,mk,hv⟩
 have I':=I.done (xv:=mk.at w.heap.size) hx hS hb ho hext (by rw [hv];exact mk.rel hok (Ren.add_same _ _ _ _)) R' (I.fr.realize hlow hno C e) λy hy hne h=>by
  obtain ⟨o2,ho2,h⟩:=h;refine ⟨o2,ho2,h.imp (λg=>g) λ⟨hw,h⟩=>⟨hw,h.imp (λg=>g) λ⟨hc,e',cs',mk',id',h1,h2,h3,h4,h5,h6,h7⟩=>⟨hc,e',cs',mk',id',h1,h2,h3,?_,h5,h6,h7⟩⟩⟩;have hid:id'≠id:=λe=>hne (I.ids y hy x hx id ⟨⟨o2,ho2,hc⟩,mk',e▸h2⟩ hrow);rw [Ren.add_other _ hid];exact h4
 unfold Oper.wp;rw [hex];exact hK _ _ _ I'
end
end Go.Sim
namespace Go.Sim
open Go Go.IntWalk
section
variable {P:Program} {all:List Oper} {b:List Nat} {nt:Nat} {tm0:Trie Value} {ρ ρ0:Ren} {H H0:Hp} {W0:World} {ds0:List Deferred} {γ:zmt} {rd stale:List Nat} {tm:Trie Value} {listed:Array Bool} {a:Act} {w:World}
theorem Inv.acted (I:Inv all b nt tm0 P ρ0 H0 W0 ds0 γ rd [] tm H listed a w ρ) {i:Nat} {o:Oper} (ho:all[i]? =some o) (hen:zuo all b i o (idx γ)=true) (hcl:zz7 o.op=.eff) (hb:∀ j,bit b i j=true->listed.getD j false=true)
  {ρ':Ren} {w':World} {v xv:Value} {H1:Hp} (hv:VR ρ' v xv) (hrep:Rep P ρ' H1 w') (hfr:Fr ρ ρ' H H1 w w') (hu:zyp all tm o.guard=false->v=undef) :
  Inv all b nt tm0 P ρ0 H0 W0 ds0 ((i,v,tm)::γ) (ziz b i rd) (ziz b i rd) (put tm nt o.dst v) H1 (listed.setIfInBounds i true) (a.put o.dst xv) w' ρ':=by
 obtain ⟨e1,e2,e3,e4,e5⟩:=zxq hen;have hlt:=I.lt ho;have hset:=znw (listed:=listed) hlt;have hrow0:∀ v tmx id,¬Row all (i,v,tmx) id:=(by rintro v tmx id ⟨⟨o',h1,h2⟩,_⟩;rw [ho] at h1;simp at h1;subst h1;rw [hcl] at h2;cases h2);refine ⟨⟨o,ho,e1,e2,e3,e4,e5,I.tmc,I.gok⟩,λt=>?_,?_,hrep,I.fr.trans hfr,?_,λj hj=>?_,λj k hj hbk=>?_,λx hx hS=>?_,λx hx hS o' ho' hc'=>?_,by simp [I.lsz],λx hx o' ho' hw'=>?_,λj hj=>hj,λx hx id hr=>?_,λx hx y hy id hrx hry=>?_⟩
 .simp only [zyz];rw [zwa,zwa,ho,I.tmc];rfl
 .refine (TR.put (I.tms.mono hfr.ext) o.dst hv).congr λt=>?_;simp only [zyz,hset,if_true,ho,tzn];rw [zwa,zwa];split
  .rfl
  refine zwx λj hj _=>?_;have hji:j≠i:=λe=>e1 (e▸hj);rw [if_neg hji]
 .rw [<-I.dfs];cases o.dst<;>rfl
 .rw [hset] at hj;split at hj
  .rename_i e;subst e;simp [idx]
  exact tzq _ (I.sub j hj)
 .rw [hset] at hj ⊢;split
  .rfl
  split at hj
  .rename_i e;subst e;exact hb k hbk
  .exact I.down j k hj hbk
 .rw [hset] at hS;split at hS
  .cases hS
  rename_i hne;rcases tzu.1 hx with g | g
  .subst g;exact absurd rfl hne
  rcases I.pend x g hS with q | q
  .cases q
  have hbx:bit b i x.1=false:=(by grind);by_cases hr:∃ o',all[x.1]? =some o'/\zz7 o'.op=.read
  .obtain ⟨o',h1,h2⟩:=hr;exact .inl (zox (I.rds x g hS o' h1 h2) hbx)
  .exact .inr (q.mono hfr.n hfr.ghost λo' h1 h2=>absurd ⟨o',h1,h2⟩ hr)
 .rw [hset] at hS;split at hS
  .cases hS
  rename_i hne;rcases tzu.1 hx with g | g
  .subst g;exact absurd rfl hne
  have hbx:bit b i x.1=false:=(by grind);exact zox (I.rds x g hS o' ho' hc') hbx
 .rcases tzu.1 hx with g | g
  .simp_all
  exact I.unw x g o' ho' hw'
 .rcases tzu.1 hx with g | g
  .subst g;exact absurd hr (hrow0 _ _ _)
  have:=I.low x g id hr;have:=hfr.n;omega
 .rcases tzu.1 hx with g | g
  .subst g;exact absurd hrx (hrow0 _ _ _)
  rcases tzu.1 hy with g' | g'
  .subst g';exact absurd hry (hrow0 _ _ _)
  .exact I.ids x g y g' id hrx hry
theorem Inv.acts (I:Inv all b nt tm0 P ρ0 H0 W0 ds0 γ rd [] tm H listed a w ρ) {ops:Array Oper} (hops:ops.toList=all) {Q:Exit->Act->World->Prop} {sub:Sub} (hsub:zsl P sub) {i:Nat} {o:Oper} (ho:all[i]? =some o) (hen:zuo all b i o (idx γ)=true) (hcl:zz7 o.op=.eff)
  (hb:∀ j,bit b i j=true->listed.getD j false=true) {tm1:Trie Value} {H1:Hp} (h:ytv sub P all tm nt H o=some (tm1,H1)) {K:Act->World->Prop}
  (hK:∀ v a' w' ρ',Inv all b nt tm0 P ρ0 H0 W0 ds0 ((i,v,tm)::γ) (ziz b i rd) (ziz b i rd) tm1 H1 (listed.setIfInBounds i true) a' w' ρ'->K a' w'):wpOp P ops Q i K a w:=by
 have ho':ops[i]? =some o:=by rw [<-txy,hops];exact ho
 obtain ⟨e1,e2,e3,e4,e5⟩:=zxq hen
 have hlook:∀ t∈zv6 all o,(zyz all nt tm0 (λi=>listed.getD i false) γ).get t=tm.get t:=λt ht=>by
  rw [I.tmc];exact zh0 hb e3 (txg _ ht)
 have hw:zyp all (zyz all nt tm0 (λi=>listed.getD i false) γ) o.guard=zyp all tm o.guard:=zre λj want oj t hg hj hd=>hlook t (by
  unfold zv6;refine txf _ ?_
  rw [hg];simp [ywj,hj,hd])
 have hw2:=zrc hops I.tms o;have hop2:zw4 o.op P (zyz all nt tm0 (λi=>listed.getD i false) γ) H=zw4 o.op P tm H:=ztp (λt ht=>hlook t (txg _ (zwi ht))) H
 have hrp:ytv sub P all tm nt H o=(match zyp all tm o.guard with
   | true=>zuw sub o.dst tm nt H (zw4 o.op P tm H)
   | false=>some (put tm nt o.dst undef,H)):=by
  obtain ⟨dst,op,ty,pos,after,gd⟩:=o
  simp only [ytv]
  simp only at hcl
  rw [hcl]
  rfl
 rw [hrp] at h;unfold wpOp;simp only [ho'];split at h
 .rename_i hwt;rw [if_pos (by rw [hw2,hw,hwt])];left;unfold zuw at h;split at h
  .rename_i v H' hop;simp only [tza,tzl] at h;obtain ⟨rfl,rfl⟩:=h;obtain ⟨ρ',y,W',hres,hvy,hR,hF⟩:=zto I.rep I.tms (o:=o) (hop2.trans hop);have I':=I.acted ho hen hcl hb hvy hR hF (λg=>by rw [hwt] at g;cases g);unfold Oper.wp;rcases hres with e' | ⟨e',rfl⟩
   .rw [e'];exact hK v _ _ ρ' I'
   rw [e'];exact hK v _ _ ρ' I'
  .rename_i f args hop;split at h
   .rename_i v H' hs;simp only [tza,tzl] at h;obtain ⟨rfl,rfl⟩:=h;obtain ⟨xs,hres,hx⟩:=zto I.rep I.tms (o:=o) (hop2.trans hop);unfold Oper.wp;rw [hres];show Calls P f ⟨xs⟩ w _;refine Calls.mono (hsub f args H v H' hs ρ w xs hx I.rep) λe w' he=>?_;obtain ⟨ρ',x,rfl,hvx,hR,hF⟩:=he;exact hK v _ _ ρ' (I.acted ho hen hcl hb hvx hR hF (λg=>by rw [hwt] at g;cases g))
   .cases h
  .cases h
 .rename_i hwt;simp only [tza,tzl] at h;obtain ⟨rfl,rfl⟩:=h;rw [if_neg (by rw [hw2,hw,hwt];exact Bool.false_ne_true)];exact hK undef _ _ ρ (I.acted ho hen hcl hb .undef I.rep (.refl ρ H w) λ_=>rfl)
def left (n:Nat) (listed:Array Bool):Nat:=((List.range n).filter λi=>!listed.getD i false).length
theorem yf3 {n:Nat} {listed:Array Bool} {i:Nat} (hi:i<n) (hs:listed.size=n) (hl:listed.getD i false=false):left n (listed.setIfInBounds i true)<left n listed:=by
 unfold left;have hset:=znw (listed:=listed) (i:=i) (by omega)
 have:∀ l:List Nat,(l.filter λj=>!(listed.setIfInBounds i true).getD j false).length<=(l.filter λj=>!listed.getD j false).length/\(i∈l->(l.filter λj=>!(listed.setIfInBounds i true).getD j false).length<(l.filter λj=>!listed.getD j false).length):=by
  intro l
  induction l with
  | nil=>simp
  | cons k l ih=>
   grind
 exact (this (List.range n)).2 (txc.2 hi)
theorem yll {n:Nat} {listed:Array Bool} (h:left n listed=0) {i:Nat} (hi:i<n):listed.getD i false=true:=by
 cases hl:listed.getD i false with
 | true=>rfl
 | false=>
  have:i∈(List.range n).filter λi=>!listed.getD i false:=(by simp_all);have h0:=tzy h;rw [h0] at this;cases this
theorem zoy {ops:Array Oper} (hops:ops.toList=all) {listed:Array Bool} (hsz:listed.size=ops.size) {i:Nat}:i∈Region.ready .any ops listed↔∃ o,all[i]? =some o/\listed.getD i false=false/\∀ e∈o.after.toList,Region.binds .any e=true->listed.getD e.on false=true:=by
 unfold Region.ready;rw [List.mem_filter,txc];have hi:∀ {o},all[i]? =some o↔ops[i]? =some o:=by intro o;rw [<-txy,hops]
 constructor
 .rintro ⟨h1,h2⟩;simp only [tzc] at h2;obtain ⟨h2,h3⟩:=h2;cases ho:ops[i]? with
  | none=>rw [ho] at h3;simp at h3
  | some o=>
   rw [ho] at h3;simp only [tz2,tye,Array.all_eq_true_iff_forall_mem] at h3;refine ⟨o,hi.2 ho,?_,λe he hb=>?_⟩
   .simp_all
   .grind
 .grind
theorem zpl {i:Nat} {o:Oper} {listed:Array Bool} (h5:∀ j,bit b i j=true->∃ e∈o.after.toList,Region.binds .any e=true/\(j=e.on∨bit b e.on j=true)) (hr:∀ e∈o.after.toList,Region.binds .any e=true->listed.getD e.on false=true)
  (hdown:∀ i j,listed.getD i false=true->bit b i j=true->listed.getD j false=true):∀ j,bit b i j=true->listed.getD j false=true:=by
 intro j hj;obtain ⟨e,he,hb,g⟩:=h5 j hj;have:=hr e he hb;rcases g with g | g
 .rw [g];exact this
 exact hdown _ _ this g
theorem zmv {ops:Array Oper} (hops:ops.toList=all) {listed:Array Bool} (hsz:listed.size=ops.size) (hr:Region.ready .any ops listed=[]):∀ {γ:zmt},GOK all b nt tm0 γ->∀ j∈idx γ,listed.getD j false=true
 | [],_,j,hj=>by cases hj
 | (k,v,tmk)::γ,g,j,hj=>by
  obtain ⟨o,h1,h2,h3,h4,h5,h6,h7,h8⟩:=g;have ih:=zmv hops hsz hr h8;rcases tzu.1 (show j∈k::idx γ from hj) with e | e
  .subst e;cases hl:listed.getD j false with
   | true=>rfl
   | false=>
    have:j∈Region.ready .any ops listed:=(zoy hops hsz).2 ⟨o,h1,hl,λe he hb=>ih _ (h3 _ (h5 e he hb))⟩;rw [hr] at this;cases this
  .exact ih j e
theorem znx {i:Nat}:∀ {pl:List PI},zr7 b i pl=true->∀ j,PI.run j∈pl->bit b j i=true
 | .run k::pl,h,j,hj=>by
  simp only [zr7] at h;split at h
  .rename_i hb;rcases tzu.1 hj with g | g
   .cases g;exact hb
   exact znx h j g
  .cases h
 | .again k::pl,h,j,hj=>by
  simp only [zr7] at h;rcases tzu.1 hj with g | g
  .cases g
  exact znx h j g
theorem zj7:∀ {pl:List PI} {l rd stale:List Nat},chk all b pl l rd stale=true->∀ j,j<all.length->j∈l∨PI.run j∈pl
 | [],l,rd,stale,h,j,hj=>by
  simp only [chk] at h;split at h
  .exact .inl (zh1 h j hj)
  .cases h
 | .run i::pl,l,rd,stale,h,j,hj=>by
  have key:∀ {rd stale},chk all b pl (i::l) rd stale=true->j∈l∨PI.run j∈PI.run i::pl:=λh=>by
   rcases zj7 h j hj with g | g
   .grind
   exact .inr (tzq _ g)
  simp only [chk] at h;split at h
  .cases h
  .grind
 | .again i::pl,l,rd,stale,h,j,hj=>by
  have key:∀ {rd stale},chk all b pl l rd stale=true->j∈l∨PI.run j∈PI.again i::pl:=λh=>by
   rcases zj7 h j hj with g | g
   .exact .inl g
   exact .inr (tzq _ g)
  simp only [chk] at h;split at h
  .cases h
  .grind
theorem zup:∀ {pl:List PI} {l rd stale:List Nat},chk all b pl l rd stale=true->∀ j,PI.run j∈pl->∃ o l',all[j]? =some o/\zuo all b j o l'=true
 | .run i::pl,l,rd,stale,h,j,hj=>by
  simp only [chk] at h;split at h
  .cases h
  rename_i o ho;split at h
  .rename_i hen;rcases tzu.1 hj with g | g
   .cases g;exact ⟨o,l,ho,hen⟩
   split at h
   .exact zup h j g
   .exact zup h j g
   .exact zup h j g
   split at h
   .split at h
    .exact zup h j g
    .cases h
   .cases h
  .cases h
 | .again i::pl,l,rd,stale,h,j,hj=>by
  have hj':PI.run j∈pl:=(by simp_all);simp only [chk] at h;split at h
  .cases h
  split at h
  .split at h
   .cases h
   split at h
   .exact zup h j hj'
   .cases h
  .cases h
def xnd (all:List Oper) (pl:List PI):Prop:=pl=[]∨∃ i o pl',pl=.run i::pl'/\all[i]? =some o/\zz7 o.op=.eff
theorem zcv {sub:Sub} {tm':Trie Value} {H':Hp} {K:Prop} {listed:Array Bool} {a:Act} {w:World} {ρ:Ren}
  (hJ:∀ (pl:List PI) (γ:zmt) (rd:List Nat) (tm:Trie Value) (H:Hp),xnd all pl->chk all b pl (idx γ) rd []=true->zpb sub P all nt pl tm H=some (tm',H')->Inv all b nt tm0 P ρ0 H0 W0 ds0 γ rd [] tm H listed a w ρ->K) :
  ∀ (pl:List PI) (γ:zmt) (rd stale:List Nat) (tm:Trie Value) (H:Hp),chk all b pl (idx γ) rd stale=true->zpb sub P all nt pl tm H=some (tm',H')->Inv all b nt tm0 P ρ0 H0 W0 ds0 γ rd stale tm H listed a w ρ->K:=by
 intro pl
 induction pl with
 | nil=>
  intro γ rd stale tm H hc hd I;have hc2:=hc;simp only [chk] at hc2;split at hc2
  .exact hJ [] γ rd tm H (.inl rfl) hc hd I
  .cases hc2
 | cons x pl ih=>
  intro γ rd stale tm H hc hd I;have hc2:=hc;cases x with
  | run i=>
   simp only [chk] at hc2;split at hc2
   .cases hc2
   rename_i o ho;split at hc2;rotate_left
   .cases hc2
   rename_i hen;have hd2:=hd;simp only [zpb,zs9,ho,tzn] at hd2
   have go:zz7 o.op≠.eff->(∀ v,chk all b pl (idx ((i,v,tm)::γ)) (match zz7 o.op with | .read=>i::rd | _=>rd) (match zz7 o.op with | .fresh=>rd | _=>stale)=true)->K:=by
    intro hne hck;split at hd2
    .rename_i tm1 H1 hr;obtain ⟨v,I'⟩:=I.plan ho hen hne hr;exact ih _ _ _ _ _ (hck v) hd2 I'
    .cases hd2
   cases hcl:zz7 o.op with
   | pure=>rw [hcl] at hc2;exact go (by rw [hcl];exact Cls.noConfusion) λv=>by rw [hcl];exact hc2
   | read=>rw [hcl] at hc2;exact go (by rw [hcl];exact Cls.noConfusion) λv=>by rw [hcl];exact hc2
   | fresh=>rw [hcl] at hc2;exact go (by rw [hcl];exact Cls.noConfusion) λv=>by rw [hcl];exact hc2
   | eff=>
    rw [hcl] at hc2;simp only at hc2;split at hc2
    .exact hJ _ γ rd tm H (.inr ⟨i,o,pl,rfl,ho,hcl⟩) hc hd I
    .cases hc2
  | again i=>
   simp only [chk] at hc2;split at hc2
   .cases hc2
   rename_i o ho;split at hc2
   .rename_i hcl;split at hc2
    .cases hc2
    rename_i hh;split at hc2
    .rename_i hst;simp only [zpb,zs9,ho,tz2] at hd;cases ha:zno P all tm nt H o with
     | true=>
      rw [ha] at hd;exact ih _ _ _ _ _ hc2 hd (I.again ho hcl hh hst ha)
     | false=>rw [ha] at hd;cases hd
    .cases hc2
   .cases hc2
theorem yf4 {ops:Array Oper} (hops:ops.toList=all) {sub:Sub} (hsub:zsl P sub) {tm':Trie Value} {H':Hp}:∀ (fuel:Nat) (pl:List PI) (γ:zmt) (rd stale:List Nat) (tm:Trie Value) (H:Hp) (listed:Array Bool) (a:Act) (w:World) (ρ:Ren),
  chk all b pl (idx γ) rd stale=true->zpb sub P all nt pl tm H=some (tm',H')->Inv all b nt tm0 P ρ0 H0 W0 ds0 γ rd stale tm H listed a w ρ->left all.length listed<=fuel ->
   wpAny P .any ops (λe a' w'=>e=.normal/\a'.defers=ds0/\∃ ρ',TR ρ' tm' nt a'.tmps/\Rep P ρ' H' w'/\Fr ρ0 ρ' H0 H' W0 w') fuel listed a w:=by
 intro fuel
 -- the end
 have fin:∀ (γ:zmt) (rd:List Nat) (tm:Trie Value) (H:Hp) (listed:Array Bool) (a:Act) (w:World) (ρ:Ren),zpb sub P all nt [] tm H=some (tm',H')->Inv all b nt tm0 P ρ0 H0 W0 ds0 γ rd [] tm H listed a w ρ->(∀ i,i<all.length->listed.getD i false=true) ->
   Exit.normal=.normal/\a.defers=ds0/\∃ ρ',TR ρ' tm' nt a.tmps/\Rep P ρ' H' w/\Fr ρ0 ρ' H0 H' W0 w:=by
  intro γ rd tm H listed a w ρ hd I hall
  simp only [zpb,tza,tzl] at hd
  obtain ⟨rfl,rfl⟩:=hd
  refine ⟨rfl,I.dfs,ρ,I.tms.congr λt=>?_,I.rep,I.fr⟩
  rw [I.tmc]
  exact (zwx λj hj hdj=>by
   grind).symm
 induction fuel with
 | zero=>
  intro pl γ rd stale tm H listed a w ρ hc hd I hf;refine zcv (λpl γ rd tm H hh hc hd I=>?_) pl γ rd stale tm H hc hd I;have hall:∀ i,i<all.length->listed.getD i false=true:=λi hi=>yll (by omega) hi;rcases hh with rfl | ⟨i,o,pl',rfl,ho,hcl⟩
  .refine ⟨List.eq_nil_iff_forall_not_mem.2 λi hi=>?_,fin γ rd tm H listed a w ρ hd I hall⟩;obtain ⟨o,h1,h2,_⟩:=(zoy hops (by rw [I.lsz,<-hops];simp)).1 hi;rw [hall i (tyl.1 h1).1] at h2;cases h2
  .obtain ⟨o2,l',g1,g2⟩:=zup hc i (by simp);simp only [chk,ho] at hc;split at hc
   .rename_i hen;have h1:=I.sub i (hall i (tyl.1 ho).1);exact absurd h1 (zxq hen).1
   .cases hc
 | succ fuel ihf=>
  intro pl γ rd stale tm H listed a w ρ hc hd I hf;refine zcv (λpl γ rd tm H hh hc hd I=>?_) pl γ rd stale tm H hc hd I;have hsz:listed.size=ops.size:=by rw [I.lsz,<-hops];simp
  refine ⟨λhr=>?_,λi hi=>?_⟩
  .have hγ:=zmv hops hsz hr I.gok;rcases hh with rfl | ⟨i,o,pl',rfl,ho,hcl⟩
   .refine fin γ rd tm H listed a w ρ hd I λi hi=>?_;rcases zj7 hc i hi with g | g
    .exact hγ i g
    .cases g
   simp only [chk,ho] at hc;split at hc
   .rename_i hen;obtain ⟨e1,e2,e3,e4,e5⟩:=zxq hen
    have:i∈Region.ready .any ops listed:=(zoy hops hsz).2 ⟨o,ho,by
     cases hs:listed.getD i false with
     | false=>rfl
     | true=>exact absurd (I.sub i hs) e1,λe he hb=>hγ _ (e2 _ (e4 e he hb))⟩
    rw [hr] at this;cases this
   .cases hc
  obtain ⟨o,ho,hS,hedges⟩:=(zoy hops hsz).1 hi;have hlt:i<all.length:=(tyl.1 ho).1;have hdec:=yf3 (n:=all.length) hlt I.lsz hS;by_cases hin:i∈idx γ
  .obtain ⟨x,hx,rfl⟩:=tyg.1 hin;obtain ⟨γ1,γ2,e1,e2⟩:=I.gok.mem hx;obtain ⟨k,v,tmi⟩:=x;obtain ⟨o',g1,g2,g3,g4,g5,g6,g7,g8⟩:=e2;simp only at ho hedges;rw [ho] at g1;simp at g1;subst g1;exact I.pending hops hx hS (zpl g6 hedges I.down) λa' w' ρ' I'=>ihf pl γ rd [] tm H _ a' w' ρ' hc hd I' (by omega)
  rcases hh with rfl | ⟨k,ok,pl',rfl,hok,hcl⟩
  .rcases zj7 hc i hlt with g | g
   .exact absurd g hin
   .cases g
  have hc2:=hc;simp only [chk,hok] at hc2;split at hc2
  .rename_i hen;rw [hcl] at hc2;simp only at hc2;split at hc2
   .rename_i hwf;by_cases hik:i=k
    .subst hik;rw [ho] at hok;simp at hok;subst hok;obtain ⟨e1,e2,e3,e4,e5⟩:=zxq hen;have hd2:=hd;simp only [zpb,zs9,ho,tzn] at hd2;split at hd2
     .rename_i tm1 H1 hrp;exact I.acts hops hsub ho hen hcl (zpl e5 hedges I.down) hrp λv a' w' ρ' I'=>ihf pl' ((i,v,tm)::γ) _ _ tm1 H1 _ a' w' ρ' hc2 hd2 I' (by omega)
     .cases hd2
    .exfalso
     have hpl:PI.run i∈pl':=by
      rcases zj7 hc i hlt with g | g
      .exact absurd g hin
      .simp_all
     obtain ⟨o2,l',q1,q2⟩:=zup hc2 i hpl;rw [ho] at q1;simp at q1;subst q1;have:=zpl (zxq q2).2.2.2.2 hedges I.down k (znx hwf i hpl);exact absurd (I.sub k this) (zxq hen).1
   .cases hc2
  .cases hc2
end
def zv7 (ops:List Oper) (pl:List PI) (b:List Nat):Bool:=chk ops b pl [] [] []
theorem xxi {P:Program} (hm:P.follows .mixedOrders=true) {sub:Sub} (hsub:zsl P sub) {ops:Array Oper} {pl:List PI} {b:List Nat} (hg:zv7 ops.toList pl b=true) {tm:Trie Value} {nt:Nat} {H:Hp} {tm':Trie Value} {H':Hp} (h:zpb sub P ops.toList nt pl tm H=some (tm',H'))
  {ρ:Ren} {a:Act} {W:World} (ht:TR ρ tm nt a.tmps) (R:Rep P ρ H W) (id:Nat) :
  (Code.region id ops true).wp P (λe a' w'=>e=.normal/\a'.defers=a.defers/\∃ ρ',TR ρ' tm' nt a'.tmps/\Rep P ρ' H' w'/\Fr ρ ρ' H H' W w') a W:=by
 refine wp_region_any hm ?_;have R1:=R.drew (W.drawn+1);have hempty:∀ i,(Array.replicate ops.size false).getD i false=false:=(by intro i;rw [tyc,Array.getElem?_replicate];split<;>rfl);refine yf4 (all:=ops.toList) (b:=b) (tm0:=tm) rfl hsub ops.size pl [] [] [] tm H _ a _ ρ hg h ?_ ?_
 .refine ⟨trivial,λt=>rfl,ht,R1,Fr.drew _,rfl,λi hi=>?_,λi j hi=>?_,λx hx=>?_,λx hx=>?_,by simp,λx hx=>?_,λi hi=>?_,λx hx=>?_,λx hx=>?_⟩
  .rw [hempty] at hi;cases hi
  .rw [hempty] at hi;cases hi
  .cases hx
  .cases hx
  .cases hx
  .cases hi
  .cases hx
  .cases hx
 .unfold left;exact tys (List.length_filter_le _ _) (by simp)
def zlb (sub:Sub) (P:Program) (zz3:zqi):xxd:=λfn id all tm nt H=>
 match zz3 fn id with
 | some (pl,b)=>match zv7 all pl b with
  | true=>zpb sub P all nt pl tm H
  | false=>none
 | none=>none
theorem ywm {P:Program} (hm:P.follows .mixedOrders=true) (zz3:zqi) {sub:Sub} (hsub:zsl P sub):yd0 P (zlb sub P zz3):=by
 intro fn id ops tm nt H tm' H' h ρ a W ht R;unfold zlb at h;split at h
 .split at h
  .rename_i hg;exact xxi hm hsub hg h ht R id
  .cases h
 .cases h
def ylm (P:Program) (zz3:zqi) (sum:Sub) (steps:Nat):Nat->Sub
 | 0,_,_,_=>none
 | d+1,f,args,H=>match zor P f args .normal with
  | some ⟨tm,todo,K⟩=>yfu (zlb (ylm P zz3 sum steps d) P zz3,sum) P f steps ⟨tm,todo,K,[],H⟩
  | none=>none
theorem zfw {P:Program} (hm:P.follows .mixedOrders=true) {zz3:zqi} {sum:Sub} (hs:zsl P sum) {steps:Nat}:∀ n,zsl P (ylm P zz3 sum steps n)
 | 0=>λf args H v H' h=>by simp [ylm] at h
 | n+1=>λf args H v H' h ρ W xs hx R=>by
  simp only [ylm] at h;split at h
  .rename_i tm todo K hg;exact ylh ⟨ywm hm zz3 (zfw hm hs n),hs⟩ hg h hx R
  .simp at h
def xrc:Sub:=λ_ _ _=>none
theorem yf5 {P:Program}:zsl P xrc:=λf args H v H' h=>by cases h
def xne (P:Program) (zz3:zqi) (steps:Nat) (n:Nat):Sub:=ylm P zz3 xrc steps n
theorem zxt {P:Program} (hm:P.follows .mixedOrders=true) {zz3:zqi} {steps:Nat} (n:Nat):zsl P (xne P zz3 steps n):=zfw hm yf5 n
end Go.Sim
namespace Go.Sim
open Go Go.IntWalk
variable {P:Program} {ρ ρ':Ren} {H F F':Hp} {W W':World}
abbrev ztq:=List (Nat×List Value)
def zpm:ztq->Trie Blk->Trie Blk
 | [],b=>b
 | (i,c)::l,b=>(zpm l b).put i (.ro c)
def zvw (l:ztq) (n:Nat):Hp:=⟨zpm l .leaf,.leaf,n⟩
def Hp.addRows (H:Hp) (l:ztq) (n:Nat):Hp:=Hp.casesOn H λb s _=>⟨zpm l b,s,n⟩
theorem zpn {j:Nat}:∀ {l:ztq} {b:Trie Blk},(∃ c,(j,c)∈l/\(zpm l b).get j=some (.ro c))∨((∀ c,(j,c)∉l)/\(zpm l b).get j=b.get j)
 | [],b=>.inr ⟨λc h=>(txt h).elim,rfl⟩
 | (i,c)::l,b=>by
  simp only [zpm];rw [Trie.get_put];by_cases e:j=i
  .simp_all
  rw [if_neg e];rcases zpn (j:=j) (l:=l) (b:=b) with ⟨c',h1,h2⟩ | ⟨h1,h2⟩
  .exact .inl ⟨c',by simp [h1],h2⟩
  .simp_all
theorem zwy {l:ztq} {n j:Nat} {B:Blk} (h:(zvw l n).get j=some B):∃ c,(j,c)∈l/\B=.ro c:=by
 rcases zpn (j:=j) (l:=l) (b:=.leaf) with ⟨c,h1,h2⟩ | ⟨h1,h2⟩
 .have:(zvw l n).get j=some (.ro c):=h2;rw [this] at h;simp at h;exact ⟨c,h1,h.symm⟩
 .have:(zvw l n).get j=none:=h2;rw [this] at h;cases h
theorem zr9 (l:ztq) (n k:Nat):(zvw l n).stk k=[]:=rfl
theorem Rep.rows (R:Rep P ρ H W) {l:ztq} (h:∀ i c,(i,c)∈l->H.row i=some c):Rep P ρ (zvw l H.n) W:=by
 refine ⟨λi B p hB hl hp=>?_,λi j B C p q hB hC _ _ hm=>?_,R.new,λi B hB=>?_,R.low,R.glob,λk j hj=>?_,λk=>?_,R.gl⟩
 .obtain ⟨c,hc,rfl⟩:=zwy hB;exact R.row (h i c hc) hp
 .obtain ⟨c,hc,rfl⟩:=zwy hB;cases hm
 .obtain ⟨c,hc,rfl⟩:=zwy hB;have:=h i c hc;unfold Hp.row at this;cases hg:H.get i with
  | none=>rw [hg] at this;cases this
  | some B=>exact R.dom i B hg
 .rw [zr9] at hj;cases hj
 .rw [zr9];trivial
theorem zpo {l:ztq} {n j:Nat}:(∃ c,(j,c)∈l/\(H.addRows l n).get j=some (.ro c))∨((∀ c,(j,c)∉l)/\(H.addRows l n).get j=H.get j):=by
 obtain ⟨b,s,m⟩:=H;exact zpn
theorem zpp {l:ztq} {n k:Nat}:(H.addRows l n).stk k=H.stk k:=by obtain ⟨b,s,m⟩:=H;rfl
theorem zoz {l:ztq} {n:Nat}:(H.addRows l n).n=n:=by obtain ⟨b,s,m⟩:=H;rfl
theorem Rep.merge (R:Rep P ρ H W) {l:ztq} (R':Rep P ρ' F' W') (hF:Fr ρ ρ' (zvw l H.n) F' W W') {rs:ztq} (hrs:∀ i c,(i,c)∈rs->H.n<=i/\F'.row i=some c/\∃ e k,F'.get i=some (.cells c e k)) :
  Rep P ρ' (H.addRows rs F'.n) W'/\Fr ρ ρ' H (H.addRows rs F'.n) W W':=by
 have nomut:∀ i B p,(zvw l H.n).get i=some B->B.mut->ρ.blk i=some p->False:=λi B p h hm _=>by
  obtain ⟨c,_,rfl⟩:=zwy h;cases hm
 have hsame:∀ b,b<W.heap.size->W'.heap[b]? =W.heap[b]?:=λb hb=>hF.same b hb λi B p h hm hp=>(nomut i B p h hm hp).elim;have hn:H.n<=F'.n:=hF.n
 have hold:∀ i B,H.get i=some B->(H.addRows rs F'.n).get i=some B:=by
  intro i B h;rcases zpo (H:=H) (l:=rs) (n:=F'.n) (j:=i) with ⟨c,h1,_⟩ | ⟨_,h2⟩
  .have:=(hrs i c h1).1;have:=R.dom i B h;omega
  .rw [h2];exact h
 have hcase:∀ i B,(H.addRows rs F'.n).get i=some B->(H.get i=some B/\i<H.n)∨∃ c,(i,c)∈rs/\B=.ro c:=by
  intro i B h;rcases zpo (H:=H) (l:=rs) (n:=F'.n) (j:=i) with ⟨c,h1,h2⟩ | ⟨_,h2⟩
  .grind
  rw [h2] at h;exact .inl ⟨h,R.dom i B h⟩
 have hback:∀ i p,i<H.n->ρ'.blk i=some p->ρ.blk i=some p:=by
  intro i p hi hp;cases hq:ρ.blk i with
  | none=>have:=(hF.ghost i hi hq).1;rw [this] at hp;cases hp
  | some q=>have:=(hF.ext i q hq).1;rw [this] at hp;exact hp
 have hlive:∀ i B,live (H.addRows rs F'.n) i B->live H i B:=λi B h=>by unfold live at h ⊢;split<;>simp_all [zpp]
 refine ⟨⟨λi B p hB hl hp=>?_,λi j B C p q hB hC hlB hlC hm hns hp hq=>?_,λi hi=>?_,λi B hB=>?_,R'.low,R'.glob,λk j hj=>?_,λk=>?_,?_⟩,
  ⟨hF.ext,hF.os,hF.tape,hF.output,hF.size,λb hb _=>hsame b hb,λi B p hB hm hp=>?_,by rw [zoz];exact hn,λi hi hq=>⟨(hF.ghost i hi hq).1,?_⟩⟩⟩
 .rcases hcase i B hB with ⟨h1,h2⟩ | ⟨c,h1,rfl⟩
  .have hp0:=hback i p h2 hp;exact (R.blk i B p h1 (hlive i B hl) hp0).mono hF.ext hp0 (hsame _ (R.low i p hp0))
  .exact R'.row (hrs i c h1).2.1 hp
 .rcases hcase i B hB with ⟨h1,h2⟩ | ⟨c,h1,rfl⟩
  .have hp0:=hback i p h2 hp;rcases hcase j C hC with ⟨g1,g2⟩ | ⟨c,g1,rfl⟩
   .exact R.sep i j B C p q h1 g1 (hlive i B hlB) (hlive j C hlC) hm hns hp0 (hback j q g2 hq)
   have hlow:=R.low i p hp0;obtain ⟨_,_,e,k,hg⟩:=hrs j c g1;rcases hF.fresh j _ q hg trivial hq with g | ⟨a,A,r,q1,q2,q3,_⟩
   .omega
   exact (nomut a A r q1 q2 q3).elim
  .cases hm
 .rw [zoz] at hi;exact R'.new i hi
 .rw [zoz];rcases hcase i B hB with ⟨h1,h2⟩ | ⟨c,h1,rfl⟩
  .omega
  obtain ⟨_,_,e,k,hg⟩:=hrs i c h1;exact R'.dom i _ hg
 .rw [zpp] at hj;obtain ⟨c,e,h⟩:=R.mem k j hj;exact ⟨c,e,hold j _ h⟩
 .rw [zpp];refine (R.len k).congr λm hm=>?_;obtain ⟨c,e,h⟩:=R.mem k m hm;unfold Hp.len;rw [hold m _ h,h]
 .rw [zoz];have:=R.gl;omega
 .rcases hcase i B hB with ⟨h1,h2⟩ | ⟨c,h1,rfl⟩
  .grind
  cases hm
 .rcases zpo (H:=H) (l:=rs) (n:=F'.n) (j:=i) with ⟨c,h1,h2⟩ | ⟨_,h2⟩
  .have:=(hrs i c h1).1;omega
  .exact h2
structure Sum where
 f:FuncId
 args:List Value
 rows:ztq
 n:Nat
 v:Value
 rs:ztq
 n':Nat
def Sum.OK (P:Program) (s:Sum):Prop:=∃ sub,zsl P sub/\∃ F',sub s.f s.args (zvw s.rows s.n)=some (s.v,F')/\F'.n=s.n'/\∀ i c,(i,c)∈s.rs->s.n<=i/\F'.row i=some c/\∃ e k,F'.get i=some (.cells c e k)
def xx1:List Value->List Value->Bool
 | [],[]=>true
 | v::l,w::m=>match eqV v w with
  | true=>xx1 l m
  | false=>false
 | _,_=>false
theorem zfx:∀ {l m:List Value},xx1 l m=true->l=m
 | [],[],_=>rfl
 | [],_::_,h=>by cases h
 | _::_,[],h=>by cases h
 | v::l,w::m,h=>by
  simp only [xx1] at h;split at h
  .rename_i h1;rw [ylj h1,zfx h]
  .cases h
def ywn (H:Hp):ztq->Bool
 | []=>true
 | (i,c)::l=>match H.row i with
  | some c'=>match xx1 c' c with
   | true=>ywn H l
   | false=>false
  | none=>false
theorem zj8:∀ {l:ztq},ywn H l=true->∀ i c,(i,c)∈l->H.row i=some c
 | (j,d)::l,h,i,c,hm=>by
  simp only [ywn] at h;split at h
  .rename_i c' hr;split at h
   .rename_i he;rcases tzu.1 hm with g | g
    .simp at g;obtain ⟨rfl,rfl⟩:=g;rw [hr,zfx he]
    .exact zj8 h i c g
   .cases h
  .cases h
def Sum.hit (s:Sum) (f:FuncId) (args:List Value) (H:Hp):Bool:=
 match Nat.beq s.f f with
 | true=>match Nat.beq s.n H.n with
  | true=>match xx1 args s.args with
   | true=>ywn H s.rows
   | false=>false
  | false=>false
 | false=>false
def ywo:List Sum->Sub
 | [],_,_,_=>none
 | s::l,f,args,H=>match s.hit f args H with
  | true=>some (s.v,H.addRows s.rs s.n')
  | false=>ywo l f args H
theorem zcw:∀ {l:List Sum},(∀ s∈l,s.OK P)->zsl P (ywo l)
 | [],_=>λf args H v H' h=>by cases h
 | s::l,hl=>λf args H v H' h ρ W xs hx R=>by
  simp only [ywo] at h;split at h
  .rename_i hit;simp only [tza,tzl] at h;obtain ⟨rfl,rfl⟩:=h;unfold Sum.hit at hit;split at hit
   .rename_i hf;split at hit
    .rename_i hn;split at hit
     .rename_i ha;have hf:=tzo hf;have hn:=tzo hn;have ha:=zfx ha;subst hf ha;obtain ⟨sub,hsub,F',h1,h2,h3⟩:=hl s (by simp);have Rf:Rep P ρ (zvw s.rows s.n) W:=by rw [hn];exact R.rows (zj8 hit)
      refine Calls.mono (hsub _ _ _ _ _ h1 ρ W xs hx Rf) λe w' he=>?_;obtain ⟨ρ',x,rfl,hv,hR,hF⟩:=he;rw [hn] at hF h3;obtain ⟨m1,m2⟩:=R.merge hR hF h3;rw [h2] at m1 m2;exact ⟨ρ',x,rfl,hv,m1,m2⟩
     .cases hit
    .cases hit
   .cases hit
  .exact zcw (λs' hs=>hl s' (by simp [hs])) f args H v H' h ρ W xs hx R
end Go.Sim
namespace Go.Sim
open Go Go.RowKit
variable {P:Program}
def xr8 (F:Hp) (n:Nat):ztq->Bool
 | []=>true
 | (i,c)::l=>match Nat.ble n i with
  | true=>match F.row i with
   | some c'=>match xx1 c' c with
    | true=>match F.get i with
     | some (.cells _ _ _)=>xr8 F n l
     | _=>false
    | false=>false
   | none=>false
  | false=>false
theorem zcx {F:Hp} {n:Nat}:∀ {l:ztq},xr8 F n l=true->∀ i c,(i,c)∈l->n<=i/\F.row i=some c/\∃ e k,F.get i=some (.cells c e k)
 | (j,d)::l,h,i,c,hm=>by
  simp only [xr8] at h;split at h;rotate_left
  .cases h
  rename_i hn;split at h;rotate_left
  .cases h
  rename_i c' hr;split at h;rotate_left
  .cases h
  rename_i he;split at h
  .rename_i c'' e k hg;rcases tzu.1 hm with g | g
   .simp only [tzl] at g;obtain ⟨rfl,rfl⟩:=g;have e1:=zfx he;subst e1;refine ⟨Nat.le_of_ble_eq_true hn,hr,e,k,?_⟩;have hrow:=hr;unfold Hp.row at hrow;rw [hg] at hrow;simp only [tzn] at hrow
    have:c''=c':=by
     cases k with
     | none=>simpa [Hp.rowOf] using hrow
     | some k=>
      simp only [Hp.rowOf] at hrow;split at hrow
      .simpa using hrow
      .cases hrow
    rw [hg,this]
   .exact zcx h i c g
  .cases h
def xrd (f:Value->Value->Bool):List Value->List Value->Bool
 | [],[]=>true
 | v::l,w::m=>match f v w with
  | true=>xrd f l m
  | false=>false
 | _,_=>false
def eqD:Nat->Value->Value->Bool
 | 0,_,_=>false
 | k+1,v,w=>match v with
  | .agg l=>match w with
   | .agg m=>xrd (eqD k) l.toList m.toList
   | _=>false
  | .tuple l=>match w with
   | .tuple m=>xrd (eqD k) l.toList m.toList
   | _=>false
  | v=>eqV v w
theorem yz0 {f:Value->Value->Bool} (hf:∀ v w,f v w=true->v=w):∀ {l m:List Value},xrd f l m=true->l=m
 | [],[],_=>rfl
 | [],_::_,h=>by cases h
 | _::_,[],h=>by cases h
 | v::l,w::m,h=>by
  simp only [xrd] at h;split at h
  .rename_i h1;rw [hf _ _ h1,yz0 hf h]
  .cases h
theorem yln:∀ {k:Nat} {v w:Value},eqD k v w=true->v=w
 | 0,_,_,h=>by cases h
 | k+1,v,w,h=>by
  simp only [eqD] at h;split at h
  .split at h
   .have:=yz0 (λ_ _=>yln) h;rename_i l _ m;obtain ⟨l⟩:=l;obtain ⟨m⟩:=m;simp only at this;rw [this]
   .cases h
  .split at h
   .have:=yz0 (λ_ _=>yln) h;rename_i l _ m;obtain ⟨l⟩:=l;obtain ⟨m⟩:=m;simp only at this;rw [this]
   .cases h
  .exact ylj h
def yd2 (r:Option (Value×Hp)) (s:Sum):Bool:=
 match r with
 | some (v,F)=>match eqD 10 v s.v with
  | true=>match Nat.beq F.n s.n' with
   | true=>xr8 F s.n s.rs
   | false=>false
  | false=>false
 | none=>false
theorem Sum.ok_of {sub:Sub} (hs:zsl P sub) {s:Sum} (h:yd2 (sub s.f s.args (zvw s.rows s.n)) s=true):s.OK P:=by
 unfold yd2 at h;split at h
 .rename_i v F hr;split at h
  .rename_i hv;split at h
   .rename_i hn;have hv:=yln hv;have hn:=tzo hn;exact ⟨sub,hs,F,by rw [hr,hv],hn,zcx h⟩
   .cases h
  .cases h
 .cases h
theorem yf6:∀ s∈([]:List Sum),s.OK P:=λs h=>by cases h
theorem zy7 {s:Sum} {l:List Sum} (h:s.OK P) (hl:∀ s∈l,s.OK P):∀ t∈s::l,t.OK P:=λt ht=>by
 grind
def hp0 (n:Nat):Hp:=⟨.leaf,.leaf,n⟩
def xx2 (P:Program):Ren:=⟨λi=>if i<(znh P) then some (i,0) else none,λ_=>0⟩
theorem zfy (n i:Nat):(hp0 n).get i=none:=rfl
theorem ylo (n k:Nat):(hp0 n).stk k=[]:=rfl
theorem xmd {W:World} {n:Nat} (hn:(znh P)<=n) (hW:(znh P)<=W.heap.size):Rep P (xx2 P) (hp0 n) W:=by
 refine ⟨λi B p h=>?_,λi j B C p q h=>?_,λi h=>?_,λi B h=>?_,λi p h=>?_,λg h=>?_,λk j h=>?_,λk=>?_,hn⟩
 .rw [zfy] at h;cases h
 .rw [zfy] at h;cases h
 .have hle:n<=i:=h;simp only [xx2];rw [if_neg (by omega)]
 .rw [zfy] at h;cases h
 .simp only [xx2] at h;split at h
  .grind
  cases h
 .simp only [xx2];rw [if_pos h]
 .rw [ylo] at h;cases h
 .rw [ylo];trivial
def ywp (r:Option (Value×Hp)):Bool:=
 match r with
 | some (.bool b,_)=>b
 | _=>false
theorem ysf {sub:Sub} (hs:zsl P sub) {f:FuncId} {n:Nat} (hn:Nat.ble (znh P) n=true) (h:ywp (sub f [] (hp0 n))=true) {W:World} (hW:(znh P)<=W.heap.size) :
  Calls P f #[] W λe w'=>e=.returned (.bool true)/\Below W.heap.size W w':=by
 unfold ywp at h;split at h
 .rename_i b F hr;subst h;refine Calls.mono (hs f [] (hp0 n) _ _ hr (xx2 P) W [] .nil (xmd (Nat.le_of_ble_eq_true hn) hW)) λe w' he=>?_;obtain ⟨ρ',x,rfl,hv,_,hF⟩:=he;refine ⟨?_,hF.os,hF.tape,hF.output,hF.size,λk hk=>hF.same k hk λi B p h=>?_⟩
  .cases hv;rfl
  rw [zfy] at h;cases h
 .cases h
end Go.Sim
namespace Go.Sim
open Go
def zf5 (tm:Trie Value) (nt:Nat) (d:Option Tmp) (v:Value):Trie Value:=
 match d with
 | some d=>match Nat.blt d nt with
  | true=>tm.put d v
  | false=>tm
 | none=>tm
theorem zrh (tm:Trie Value) (nt:Nat) (d:Option Tmp) (v:Value):put tm nt d v=zf5 tm nt d v:=by
 cases d with
 | none=>rfl
 | some d=>
  simp only [put,putD,zf5];cases Nat.blt d nt<;>simp [zrb]
def yz1 (tm:Trie Value):Nat->List Value->Trie Value
 | _,[]=>tm
 | d,v::l=>yz1 (tm.put d v) (d+1) l
theorem ylp:∀ (l:List Value) (tm:Trie Value) (d:Nat),ykb tm d l=yz1 tm d l
 | [],_,_=>rfl
 | v::l,tm,d=>by simp only [ykb,yz1,zrb];exact ylp l _ _
def xxj (tm:Trie Value) (nt:Nat):List Tmp->List Value->Trie Value
 | t::ts,v::vs=>xxj (zf5 tm nt (some t) v) nt ts vs
 | _,_=>tm
theorem yd3 (nt:Nat):∀ (l:List Tmp) (vs:List Value) (tm:Trie Value),zqt tm nt l vs=xxj tm nt l vs
 | [],_,_=>rfl
 | _::_,[],_=>rfl
 | t::ts,v::vs,tm=>by simp only [zqt,xxj,zrh];exact yd3 nt ts vs _
inductive BX where
 | nrm
 | ret
 | exit (id:Nat)
structure St where
 tm:Trie Value
 ds:List Deferred
 H:Hp
structure FK where
 fn:FuncId
 nt:Nat
 ro:Option Nat
abbrev EvT:=FK->Code->St->Option (BX×St)
abbrev Yld:=Nat->List Value->Hp->Option (Value×Hp)
def yd4 (sub:Sub) (yld:Yld) (H:Hp):Option ARes->Option (Value×Hp)
 | some (.val v H')=>some (v,H')
 | some (.enter f args)=>sub f args H
 | some (.yield l args)=>yld l args H
 | _=>none
def zj9 (sub:Sub) (yld:Yld) (P:Program) (nt:Nat) (all:List Oper):List Oper->Trie Value->Hp->Option (Trie Value×Hp)
 | [],tm,H=>some (tm,H)
 | o::rest,tm,H=>match zyp all tm o.guard with
  | true=>match yd4 sub yld H (zw4 o.op P tm H) with
   | some (v,H')=>zj9 sub yld P nt all rest (zf5 tm nt o.dst v) H'
   | none=>none
  | false=>zj9 sub yld P nt all rest (zf5 tm nt o.dst undef) H
def ywq:BX->Option Code
 | .nrm=>none
 | .ret=>some .ret
 | .exit id=>some (.exit id)
def ywr (H:Hp) (l:Nat):Option Hp:=
 match zxn H l with
 | some ⟨.ready,p,f,tm,nt,ps,asg,body,d⟩=>some (H.put l (.loop ⟨.busy,p,f,tm,nt,ps,asg,body,d⟩))
 | _=>none
def zt8 (prev:EvT):Yld:=λl args H=>
 match zxn H l with
 | some ⟨_,_,fn,tm,nt,ps,asg,body,_⟩=>match Nat.beq args.length ps.toList.length with
  | true=>match prev ⟨fn,nt,some l⟩ asg ⟨xxj tm nt ps.toList args,[],H⟩ with
   | some (.nrm,s)=>match ywr s.H l with
    | some H2=>match prev ⟨fn,nt,some l⟩ body ⟨s.tm,s.ds,H2⟩ with
     | some (x,s2)=>zw5 s2.H l (ywq x)
     | none=>none
    | none=>none
   | _=>none
  | false=>none
 | none=>none
def zwb:Nat->List Deferred->Hp->Option Hp
 | 0,_,_=>none
 | _+1,[],H=>some H
 | n+1,⟨.collected b,_⟩::ds,H=>match H.get b with
  | some (.defs (some l))=>zwb n (l++ds) (H.put b (.defs none))
  | _=>none
 | _+1,_::_,_=>none
def ysg (P:Program) (m:Nat) (f:FuncId) (s:St):Option (Value×Hp):=
 match zwb m s.ds s.H with
 | some H2=>match zuh P H2 f s.tm with
  | some v=>some (v,H2)
  | none=>none
 | none=>none
def yd5 (P:Program) (m:Nat) (f:FuncId):Option (BX×St)->Option (Value×Hp)
 | some (.nrm,s)=>ysg P m f s
 | some (.ret,s)=>ysg P m f s
 | _=>none
def zri (P:Program) (m:Nat) (prev:EvT) (f:FuncId) (args:List Value) (H:Hp):Option (Value×Hp):=
 match P.funcs[f]? with
 | some fn=>match fn.body with
  | some c=>match Nat.ble args.length fn.ntmps with
   | true=>yd5 P m f (prev ⟨f,fn.ntmps,none⟩ c ⟨yz1 .leaf 0 args,[],H⟩)
   | false=>none
  | none=>none
 | none=>none
def ylq:Option Code->St->Option (BX×St)
 | none,s=>some (.nrm,s)
 | some .ret,s=>some (.ret,s)
 | some (.exit id),s=>some (.exit id,s)
 | _,_=>none
def zny (tm:Trie Value) (ds:List Deferred) (l:Nat):Option (Value×Hp)->Option (BX×St)
 | some (_,H)=>match zxn H l with
  | some ⟨st,p,f,tm',nt',ps,asg,body,d⟩=>match st with
   | .busy=>none
   | _=>ylq p ⟨tm,ds,H.put l (.loop ⟨.exhausted,p,f,tm',nt',ps,asg,body,d⟩)⟩
  | none=>none
 | none=>none
def zia (P:Program) (m:Nat) (prev:EvT) (K:FK) (f:Operand) (ps:Array Tmp) (asg body:Code) (s:St):Option (BX×St):=
 match zww K.fn s.tm K.nt ps asg body K.ro s.H with
 | some (mark,H2)=>match zyk P s.tm f with
  | some v=>match zq8 P [.func (.yield (Nat.pred H2.n)) #[] #[]] v with
   | some (.enter g args)=>zny s.tm (mark++s.ds) (Nat.pred H2.n) (zri P m prev g args H2)
   | _=>none
  | none=>none
 | none=>none
def zmw (f:St->Option (BX×St)):Nat->St->Option (BX×St)
 | 0,_=>none
 | m+1,s=>match f s with
  | some (.nrm,s')=>zmw f m s'
  | r=>r
def ylr (f:St->Option (BX×St)):Option (BX×St)->Option (BX×St)
 | some (.nrm,s)=>f s
 | r=>r
def znz (id:Nat):Option (BX×St)->Option (BX×St)
 | some (.exit j,s)=>match Nat.beq id j with
  | true=>some (.nrm,s)
  | false=>some (.exit j,s)
 | r=>r
def yws (a b:Option (BX×St)):Option Value->Option (BX×St)
 | some (.bool true)=>a
 | some (.bool false)=>b
 | _=>none
def ysh (ds:List Deferred):Option (Trie Value×Hp)->Option (BX×St)
 | some (tm,H)=>some (.nrm,⟨tm,ds,H⟩)
 | none=>none
def evS (P:Program) (sub:Sub) (zz3:zqi) (m:Nat) (prev:EvT) (K:FK):Code->St->Option (BX×St)
 | .skip,s=>some (.nrm,s)
 | .region _ ops false,s=>ysh s.ds (zj9 sub (zt8 prev) P K.nt ops.toList ops.toList s.tm s.H)
 | .region id ops true,s=>match K.ro with
  | none=>ysh s.ds (zlb sub P zz3 K.fn id ops.toList s.tm K.nt s.H)
  | some _=>none
 | .seq a b,s=>ylr (evS P sub zz3 m prev K b) (evS P sub zz3 m prev K a s)
 | .cond x a b,s=>yws (evS P sub zz3 m prev K a s) (evS P sub zz3 m prev K b s) (zyk P s.tm x)
 | .block id b,s=>znz id (evS P sub zz3 m prev K b s)
 | .loop b,s=>zmw (evS P sub zz3 m prev K b) m s
 | .rangeFunc f ps asg body,s=>zia P m prev K f ps asg body s
 | .exit id,s=>some (.exit id,s)
 | .label _,s=>some (.nrm,s)
 | .ret,s=>some (.ret,s)
 | _,_=>none
def evC (P:Program) (sub:Sub) (zz3:zqi):Nat->EvT
 | 0=>λ_ _ _=>none
 | n+1=>evS P sub zz3 n (evC P sub zz3 n)
def xnf (r:Option (Value×Hp)):Option (Value×Hp)->Option (Value×Hp)
 | some q=>some q
 | none=>r
def evF (P:Program) (zz3:zqi) (base:Sub):Nat->Sub
 | 0=>λ_ _ _=>none
 | n+1=>λf args H=>xnf (zri P n (evC P (evF P zz3 base n) zz3 n) f args H) (base f args H)
theorem zcy {P:Program} {zz3:zqi} {base:Sub} {n:Nat} {f:FuncId} {args:List Value} {H:Hp} (hb:base f args H=none) :
  evF P zz3 base (n+1) f args H=zri P n (evC P (evF P zz3 base n) zz3 n) f args H:=by
 show xnf _ (base f args H)=_;rw [hb];rfl
theorem ywt {P:Program} {zz3:zqi} {base:Sub} {n:Nat} {f:FuncId} {args:List Value} {H:Hp} {q:Value×Hp} (hb:base f args H=some q):evF P zz3 base (n+1) f args H=some q:=by
 show xnf _ (base f args H)=_;rw [hb];rfl
end Go.Sim
namespace Go.Sim
open Go
variable {E:Env} {P:Program} {sub:Sub} {zz3:zqi}
def Reach (E:Env) (P:Program) (c c':Cfg):Prop:=∃ n,∀ f m,yfu E P f (n+m) c=yfu E P f m c'
theorem Reach.refl (c:Cfg):Reach E P c c:=⟨0,λf m=>by rw [txj]⟩
theorem Reach.trans {a b c:Cfg} (h:Reach E P a b) (k:Reach E P b c):Reach E P a c:=by
 obtain ⟨n,h⟩:=h;obtain ⟨n',k⟩:=k;exact ⟨n+n',λf m=>by rw [txq,h,k]⟩
theorem Reach.step {c c':Cfg} (h:zt0 E P c=some c'):Reach E P c c':=⟨1,λf m=>by
 rw [Nat.add_comm]
 show xra P f (yfu E P f m) c (zt0 E P c)=_
 rw [h]
 show ym1 (yfu E P f m) c'=_
 rw [zcp]⟩
theorem Reach.head {a b c:Cfg} (h:zt0 E P a=some b) (k:Reach E P b c):Reach E P a c:=(Reach.step h).trans k
def cf (tm:Trie Value) (k:List AItem) (K:FK) (ds:List Deferred) (kind:CallKind) (cs:List AFrame) (H:Hp):Cfg:=⟨tm,k,⟨K.fn,K.nt,ds,.run,kind,K.ro⟩,cs,H⟩
def zu6 (E:Env) (P:Program) (K:FK) (kind:CallKind) (k:List AItem) (cs:List AFrame) (c:Cfg):BX->St->Prop
 | .nrm,s=>Reach E P c (cf s.tm k K s.ds kind cs s.H)
 | .ret,s=>∃ todo,∀ c',zmf (cf s.tm todo K s.ds kind cs s.H) (some .ret)=some c'->Reach E P c c'
 | .exit id,s=>∃ todo,∀ c',yfs (cf s.tm todo K s.ds kind cs s.H) id (zq9 id k)=some c'->Reach E P c c'
theorem zu6.of_reach {K:FK} {kind:CallKind} {k:List AItem} {cs:List AFrame} {c c1:Cfg} (h:Reach E P c c1):∀ {x:BX} {s:St},zu6 E P K kind k cs c1 x s->zu6 E P K kind k cs c x s
 | .nrm,s,hl=>h.trans hl
 | .ret,s,⟨todo,hl⟩=>⟨todo,λc' hc=>h.trans (hl c' hc)⟩
 | .exit id,s,⟨todo,hl⟩=>⟨todo,λc' hc=>h.trans (hl c' hc)⟩
theorem zu6.other {K:FK} {kind:CallKind} {k k':List AItem} {cs:List AFrame} {c:Cfg} (hk:∀ id,zq9 id k'=zq9 id k):∀ {x:BX} {s:St},x≠.nrm->zu6 E P K kind k' cs c x s->zu6 E P K kind k cs c x s
 | .nrm,s,hx,hl=>absurd rfl hx
 | .ret,s,_,hl=>hl
 | .exit id,s,_,⟨todo,hl⟩=>⟨todo,λc' hc=>hl c' (by rw [hk];exact hc)⟩
def xre (E:Env) (P:Program) (prev:EvT):Prop:=∀ (K:FK) (code:Code) (s:St) (x:BX) (s':St),prev K code s=some (x,s') ->
 ∀ (kind:CallKind) (k:List AItem) (cs:List AFrame),(K.ro.isSome->kind=.normal)->zu6 E P K kind k cs (cf s.tm (.code code::k) K s.ds kind cs s.H) x s'
def xrf (E:Env) (P:Program) (yld:Yld):Prop:=∀ (l:Nat) (args:List Value) (H:Hp) (v:Value) (H':Hp),yld l args H=some (v,H') ->
 ∀ (fr:AFrame) (cs:List AFrame) (cfin:Cfg),znn cs H' (zv1 v fr)=some cfin->∃ c',znn (fr::cs) H ((zxn H l).bind (zjj l args))=some c'/\Reach E P c' cfin
theorem zuq {draw:xxd} {yld:Yld} (hy:xrf (draw,sub) P yld) {all:List Oper} {k:List AItem} {fn nt:Nat} {ds:List Deferred} {kind:CallKind} {ro:Option Nat} {cs:List AFrame} {tm':Trie Value} {H':Hp} :
  ∀ (rest:List Oper) (i:Nat) (tm:Trie Value) (H:Hp) (c:Cfg),zt0 (draw,sub) P c=zsh P sub all k ⟨fn,nt,ds,.run,kind,ro⟩ cs rest i tm H->zj9 sub yld P nt all rest tm H=some (tm',H') ->
   Reach (draw,sub) P c ⟨tm',k,⟨fn,nt,ds,.run,kind,ro⟩,cs,H'⟩
 | [],i,tm,H,c,hc,h=>by
  simp only [zj9,tza,tzl] at h
  obtain ⟨rfl,rfl⟩:=h
  exact Reach.step hc
 | o::rest,i,tm,H,c,hc,h=>by
  have hc:zt0 (draw,sub) P c=(match zyp all tm o.guard with
   | true=>yft P sub tm o (zsh P sub all k ⟨fn,nt,ds,.run,kind,ro⟩ cs rest) all i rest k ⟨fn,nt,ds,.run,kind,ro⟩ cs H (zw4 o.op P tm H)
   | false=>zsh P sub all k ⟨fn,nt,ds,.run,kind,ro⟩ cs rest (Nat.succ i) (put tm nt o.dst undef) H):=hc
  simp only [zj9] at h
  cases hw:zyp all tm o.guard with
  | false=>
   rw [hw] at hc h
   simp only at hc h
   rw [zrh] at hc
   exact zuq hy rest _ _ _ c hc h
  | true=>
   rw [hw] at hc h
   simp only at hc h
   cases ha:zw4 o.op P tm H with
   | none=>rw [ha] at h;simp [yd4] at h
   | some r=>
    rw [ha] at hc h
    cases r with
    | val v H1=>
     have hc:zt0 (draw,sub) P c=zsh P sub all k ⟨fn,nt,ds,.run,kind,ro⟩ cs rest (Nat.succ i) (put tm nt o.dst v) H1:=hc
     rw [zrh] at hc
     exact zuq hy rest _ _ _ c hc h
    | enter f args=>
     have hc:zt0 (draw,sub) P c=ym0 P tm o (zsh P sub all k ⟨fn,nt,ds,.run,kind,ro⟩ cs rest) all i rest k ⟨fn,nt,ds,.run,kind,ro⟩ cs H f args (sub f args H):=hc
     simp only [yd4] at h
     cases hs:sub f args H with
     | none=>rw [hs] at h;simp at h
     | some q=>
      obtain ⟨v,H1⟩:=q
      rw [hs] at hc h
      have hc:zt0 (draw,sub) P c=zsh P sub all k ⟨fn,nt,ds,.run,kind,ro⟩ cs rest (Nat.succ i) (put tm nt o.dst v) H1:=hc
      rw [zrh] at hc
      exact zuq hy rest _ _ _ c hc h
    | yield l args=>
     have hc:zt0 (draw,sub) P c=znn (⟨tm,.ops all i (o::rest)::k,⟨fn,nt,ds,.run,kind,ro⟩⟩::cs) H ((zxn H l).bind (zjj l args)):=hc
     simp only [yd4] at h
     cases hs:yld l args H with
     | none=>rw [hs] at h;simp at h
     | some q=>
      obtain ⟨v,H1⟩:=q
      rw [hs] at h
      simp only at h
      obtain ⟨c',h1,h2⟩:=hy l args H v H1 hs ⟨tm,.ops all i (o::rest)::k,⟨fn,nt,ds,.run,kind,ro⟩⟩ cs ⟨put tm nt o.dst v,.ops all (i+1) rest::k,⟨fn,nt,ds,.run,kind,ro⟩,cs,H1⟩ rfl
      rw [h1] at hc
      refine (Reach.step hc).trans (h2.trans ?_)
      refine zuq hy rest (i+1) (zf5 tm nt o.dst v) H1 _ ?_ h
      rw [<-zrh]
      rfl
    | defer d=>simp [yd4] at h
    | recover=>simp [yd4] at h
    | panic v=>simp [yd4] at h
theorem yf7 {draw:xxd} {prev:EvT} (hp:xre (draw,sub) P prev):xrf (draw,sub) P (zt8 prev):=by
 intro l args H v H' h fr cs cfin hfin;unfold zt8 at h;split at h;rotate_left
 .cases h
 rename_i st p fn tm nt ps asg body d hl;split at h;rotate_left
 .cases h
 rename_i hlen;split at h;rotate_left
 .cases h
 rename_i s hs;split at h;rotate_left
 .cases h
 rename_i H2 hb;split at h;rotate_left
 .cases h
 rename_i x s2 hs2;have hround:zjj l args ⟨st,p,fn,tm,nt,ps,asg,body,d⟩=some ⟨zqt tm nt ps.toList args,[.code asg,.beginRound,.code body],⟨fn,nt,[],.run,.normal,some l⟩⟩:=(by simp only [zjj];rw [hlen]);refine ⟨cf (xxj tm nt ps.toList args) (.code asg::[.beginRound,.code body]) ⟨fn,nt,some l⟩ [] .normal (fr::cs) H,?_,?_⟩
 .rw [hl];simp only [tzn];rw [hround,<-yd3];rfl
 have h1:=hp _ _ _ _ _ hs .normal [.beginRound,.code body] (fr::cs) (λ_=>rfl);refine Reach.trans h1 ?_
 have h2:zt0 (draw,sub) P (cf s.tm [.beginRound,.code body] ⟨fn,nt,some l⟩ s.ds .normal (fr::cs) s.H)=some (cf s.tm (.code body::[]) ⟨fn,nt,some l⟩ s.ds .normal (fr::cs) H2):=by
  show (zxn s.H l).bind (zd3 s.tm [.code body] _ (fr::cs) s.H l)=_;unfold ywr at hb;split at hb
  .rename_i hr;rw [hr];simp only [tza] at hb;subst hb;rfl
  .cases hb
 refine Reach.head h2 ?_;have h3:=hp _ _ _ _ _ hs2 .normal [] (fr::cs) (λ_=>rfl);have hR:∀ todo,yx8 (cf s2.tm todo ⟨fn,nt,some l⟩ s2.ds .normal (fr::cs) s2.H) l (ywq x)=some cfin:=(by intro todo;unfold yx8;have:zw5 (cf s2.tm todo ⟨fn,nt,some l⟩ s2.ds .normal (fr::cs) s2.H).H l (ywq x)=some (v,H'):=h;rw [this];exact hfin);cases x with
 | nrm=>exact Reach.trans h3 (Reach.step (hR []))
 | ret=>
  obtain ⟨todo,h3⟩:=h3;exact h3 cfin (hR todo)
 | exit id=>
  obtain ⟨todo,h3⟩:=h3;exact h3 cfin (hR todo)
theorem zrj {tm:Trie Value} {todo:List AItem} {fn nt:Nat} {kind:CallKind} {cs:List AFrame} {H2:Hp}:∀ (n:Nat) (ds:List Deferred) (H:Hp),zwb n ds H=some H2 ->
  Reach E P ⟨tm,todo,⟨fn,nt,ds,.returning,kind,none⟩,cs,H⟩ ⟨tm,todo,⟨fn,nt,[],.returning,kind,none⟩,cs,H2⟩
 | 0,ds,H,h=>by simp [zwb] at h
 | n+1,[],H,h=>by
  simp only [zwb,tza] at h
  subst h
  exact Reach.refl _
 | n+1,⟨t,a⟩::ds,H,h=>by
  cases t with
  | collected b=>
   simp only [zwb] at h
   split at h
   .rename_i l hb
    refine Reach.head ?_ (zrj n _ _ h)
    show ywc P tm todo ⟨fn,nt,⟨.collected b,a⟩::ds,.returning,kind,none⟩ cs H ds ⟨.collected b,a⟩=_
    simp only [ywc]
    rw [hb]
    rfl
   .cases h
  | _=>simp [zwb] at h
theorem ywu {prev:EvT} (hp:xre E P prev) {m:Nat} {g:FuncId} {args:List Value} {H:Hp} {v:Value} {H':Hp} (h:zri P m prev g args H=some (v,H')) :
  ∃ fr0,zor P g args .normal=some fr0/\∀ cs,∃ tm todo nt,Reach E P ⟨fr0.tm,fr0.todo,fr0.k,cs,H⟩ ⟨tm,todo,⟨g,nt,[],.returning,.normal,none⟩,cs,H'⟩/\zuh P H' g tm=some v:=by
 unfold zri at h;split at h;rotate_left
 .cases h
 rename_i fn hf;split at h;rotate_left
 .cases h
 rename_i c hb;split at h;rotate_left
 .cases h
 rename_i hlen;refine ⟨⟨ykb .leaf 0 args,[.code c],⟨g,fn.ntmps,[],.run,.normal,none⟩⟩,?_,λcs=>?_⟩
 .unfold zor;rw [hf];simp only [tzn,ymx];rw [hb];simp only;rw [hlen]
 have key:∀ (x:BX) (s:St),prev ⟨g,fn.ntmps,none⟩ c ⟨yz1 .leaf 0 args,[],H⟩=some (x,s)->(x=.nrm∨x=.ret)->ysg P m g s=some (v,H') ->
   ∃ tm todo nt,Reach E P ⟨ykb .leaf 0 args,[.code c],⟨g,fn.ntmps,[],.run,.normal,none⟩,cs,H⟩ ⟨tm,todo,⟨g,nt,[],.returning,.normal,none⟩,cs,H'⟩/\zuh P H' g tm=some v:=by
  intro x s hs hx he
  have h1:=hp _ _ _ _ _ hs .normal [] cs (λh=>by cases h)
  unfold ysg at he
  split at he
  .rename_i H2 hu
   split at he
   .rename_i v' hv
    simp only [tza,tzl] at he
    obtain ⟨rfl,rfl⟩:=he
    rw [ylp]
    rcases hx with rfl | rfl
    .refine ⟨s.tm,[],fn.ntmps,?_,hv⟩
     refine Reach.trans h1 (Reach.head (b:=⟨s.tm,[],⟨g,fn.ntmps,s.ds,.returning,.normal,none⟩,cs,s.H⟩) rfl (zrj m _ _ hu))
    .obtain ⟨todo,h1⟩:=h1
     refine ⟨s.tm,todo,fn.ntmps,?_,hv⟩
     exact Reach.trans (h1 ⟨s.tm,todo,⟨g,fn.ntmps,s.ds,.returning,.normal,none⟩,cs,s.H⟩ rfl) (zrj m _ _ hu)
   .cases he
  .cases he
 unfold yd5 at h;split at h
 .simp_all
 .simp_all
 .cases h
def xrg (k:List AItem):Option Code->List AItem
 | some j=>.code j::k
 | none=>k
theorem yf8 {l:Nat} {st:LoopState} {p:Option Code} {f':FuncId} {tm':Trie Value} {nt':Nat} {ps':Array Tmp} {asg' body':Code} {d:Nat} {H:Hp} {tm:Trie Value} {k:List AItem} {K:FK} {ds:List Deferred} {kind:CallKind} {cs:List AFrame}
  (hl:zxn H l=some ⟨st,p,f',tm',nt',ps',asg',body',d⟩) (hst:st≠.busy) :
  zt0 E P (cf tm (.endRange l::k) K ds kind cs H)=some (cf tm (xrg k p) K ds kind cs (H.put l (.loop ⟨.exhausted,p,f',tm',nt',ps',asg',body',d⟩))):=by
 show (zxn H l).bind (xx0 tm k _ cs H l)=_;rw [hl];simp only [tzn,xx0];cases st with
 | busy=>exact absurd rfl hst
 | _=>cases p<;>rfl
theorem yz2 {draw:xxd} {prev:EvT} (hp:xre (draw,sub) P prev) {m:Nat} {K:FK} {f:Operand} {ps:Array Tmp} {asg body:Code} {s s':St} {x:BX} (h:zia P m prev K f ps asg body s=some (x,s'))
  {kind:CallKind} {k:List AItem} {cs:List AFrame} (hk:K.ro.isSome->kind=.normal):zu6 (draw,sub) P K kind k cs (cf s.tm (.code (.rangeFunc f ps asg body)::k) K s.ds kind cs s.H) x s':=by
 unfold zia at h;split at h;rotate_left
 .cases h
 rename_i mark H2 he;split at h;rotate_left
 .cases h
 rename_i v hv;split at h;rotate_left
 .cases h
 rename_i g args hi;unfold zny at h;split at h;rotate_left
 .cases h
 rename_i v3 H3 hfr;obtain ⟨fr0,h1,h2⟩:=ywu hp hfr;obtain ⟨tmg,todog,ntg,h3,h4⟩:=h2 (⟨s.tm,.inRange (Nat.pred H2.n)::k,⟨K.fn,K.nt,mark++s.ds,.run,kind,K.ro⟩⟩::cs)
 have s1:zt0 (draw,sub) P (cf s.tm (.code (.rangeFunc f ps asg body)::k) K s.ds kind cs s.H)=some ⟨fr0.tm,fr0.todo,fr0.k,⟨s.tm,.inRange (Nat.pred H2.n)::k,⟨K.fn,K.nt,mark++s.ds,.run,kind,K.ro⟩⟩::cs,H2⟩:=by
  show (match zww K.fn s.tm K.nt ps asg body K.ro s.H with
   | some (mark,H2)=>ywa P s.tm k ⟨K.fn,K.nt,s.ds,.run,kind,K.ro⟩ cs f mark H2
   | none=>none)=_
  rw [he];simp only [ywa];rw [hv];simp only;rw [hi];simp only;rw [h1];obtain ⟨a,b,c⟩:=fr0;rfl
 have s2:zt0 (draw,sub) P ⟨tmg,todog,⟨g,ntg,[],.returning,.normal,none⟩,⟨s.tm,.inRange (Nat.pred H2.n)::k,⟨K.fn,K.nt,mark++s.ds,.run,kind,K.ro⟩⟩::cs,H3⟩=some (cf s.tm (.endRange (Nat.pred H2.n)::k) K (mark++s.ds) kind cs H3):=by
  show (match zuh P H3 g tmg with
   | some v=>zui .normal v (⟨s.tm,.inRange (Nat.pred H2.n)::k,⟨K.fn,K.nt,mark++s.ds,.run,kind,K.ro⟩⟩::cs) H3
   | none=>none)=_
  rw [h4];rfl
 split at h
 .rename_i st p f' tm' nt' ps' asg' body' d hl;have hst:st≠.busy:=(by intro e;subst e;cases h);have hj:ylq p ⟨s.tm,mark++s.ds,H3.put (Nat.pred H2.n) (.loop ⟨.exhausted,p,f',tm',nt',ps',asg',body',d⟩)⟩=some (x,s'):=(by simp_all);refine zu6.of_reach (Reach.head s1 (h3.trans (Reach.head s2 (Reach.step (yf8 hl hst))))) ?_;clear s1 s2 h3 h4 h2 h1 h hl;unfold ylq at hj;split at hj
  .simp only [tza,tzl] at hj;obtain ⟨rfl,rfl⟩:=hj;exact Reach.refl _
  .simp only [tza,tzl] at hj;obtain ⟨rfl,rfl⟩:=hj;exact ⟨_,λc' hc=>Reach.step hc⟩
  .simp only [tza,tzl] at hj;obtain ⟨rfl,rfl⟩:=hj;exact ⟨_,λc' hc=>Reach.step hc⟩
  .cases hj
 .cases h
theorem zh3 {K:FK} {b:Code} {f:St->Option (BX×St)} {kind:CallKind} {k:List AItem} {cs:List AFrame}
  (hf:∀ (s:St) (x:BX) (s':St),f s=some (x,s')->zu6 E P K kind (.inLoop b::k) cs (cf s.tm (.code b::.inLoop b::k) K s.ds kind cs s.H) x s') :
  ∀ (m:Nat) (s:St) (x:BX) (s':St),zmw f m s=some (x,s')->zu6 E P K kind k cs (cf s.tm (.code b::.inLoop b::k) K s.ds kind cs s.H) x s'
 | 0,s,x,s',h=>by simp [zmw] at h
 | m+1,s,x,s',h=>by
  simp only [zmw] at h
  split at h
  .rename_i s1 h1
   exact zu6.of_reach (Reach.trans (hf _ _ _ h1) (Reach.step rfl)) (zh3 hf m _ _ _ h)
  .rename_i hne
   refine zu6.other (k:=k) (k':=.inLoop b::k) (λid=>rfl) (λe=>?_) (hf _ _ _ h)
   subst e
   exact hne _ h
theorem xrh {m:Nat} {prev:EvT} (hp:xre (zlb sub P zz3,sub) P prev) (K:FK):∀ (code:Code) (s:St) (x:BX) (s':St),evS P sub zz3 m prev K code s=some (x,s') ->
  ∀ (kind:CallKind) (k:List AItem) (cs:List AFrame),(K.ro.isSome->kind=.normal)->zu6 (zlb sub P zz3,sub) P K kind k cs (cf s.tm (.code code::k) K s.ds kind cs s.H) x s':=by
 intro code
 induction code with
 | skip=>
  intro s x s' h kind k cs hk;simp only [evS,tza,tzl] at h;obtain ⟨rfl,rfl⟩:=h;exact Reach.step rfl
 | region id ops dr=>
  intro s x s' h kind k cs hk;cases dr with
  | false=>
   simp only [evS] at h;unfold ysh at h;split at h
   .rename_i tm H he;simp only [tza,tzl] at h;obtain ⟨rfl,rfl⟩:=h;exact zuq (yf7 hp) ops.toList 0 _ _ _ rfl he
   .cases h
  | true=>
   simp only [evS] at h;split at h
   .rename_i hro;unfold ysh at h;split at h
    .rename_i tm H he;simp only [tza,tzl] at h;obtain ⟨rfl,rfl⟩:=h;refine Reach.step ?_
     show (match K.ro with
      | none=>match zlb sub P zz3 K.fn id ops.toList s.tm K.nt s.H with
       | some (tm',H')=>some (⟨tm',k,⟨K.fn,K.nt,s.ds,.run,kind,K.ro⟩,cs,H'⟩:Cfg)
       | none=>none
      | some _=>none)=_
     rw [hro,he];simp only [cf,hro]
    .cases h
   .cases h
 | seq a b iha ihb=>
  intro s x s' h kind k cs hk;simp only [evS] at h;refine zu6.of_reach (c1:=cf s.tm (.code a::.code b::k) K s.ds kind cs s.H) (Reach.step rfl) ?_;unfold ylr at h;split at h
  .rename_i s1 h1;exact zu6.of_reach (iha _ _ _ h1 kind (.code b::k) cs hk) (ihb _ _ _ h kind k cs hk)
  rename_i hne;refine zu6.other (k:=k) (k':=.code b::k) (λid=>rfl) (λe=>?_) (iha _ _ _ h kind (.code b::k) cs hk);subst e;exact hne _ h
 | cond y a b iha ihb=>
  intro s x s' h kind k cs hk;simp only [evS] at h;unfold yws at h;split at h
  .rename_i hv;refine zu6.of_reach (c1:=cf s.tm (.code a::k) K s.ds kind cs s.H) (Reach.step ?_) (iha _ _ _ h kind k cs hk);show ymz k a b _ (zyk P s.tm y)=_;rw [hv];rfl
  .rename_i hv;refine zu6.of_reach (c1:=cf s.tm (.code b::k) K s.ds kind cs s.H) (Reach.step ?_) (ihb _ _ _ h kind k cs hk);show ymz k a b _ (zyk P s.tm y)=_;rw [hv];rfl
  .cases h
 | block id b ih=>
  intro s x s' h kind k cs hk;simp only [evS] at h;refine zu6.of_reach (c1:=cf s.tm (.code b::.inBlock id::k) K s.ds kind cs s.H) (Reach.step rfl) ?_;unfold znz at h;split at h
  .rename_i j s1 h1;obtain ⟨todo,hl⟩:=ih _ _ _ h1 kind (.inBlock id::k) cs hk;have hex:zq9 j (.inBlock id::k)=(match Nat.beq id j with | true=>some k | false=>zq9 j k):=rfl;split at h
   .rename_i hj;simp only [tza,tzl] at h;obtain ⟨rfl,rfl⟩:=h;exact hl _ (by rw [hex,hj];rfl)
   rename_i hj;simp only [tza,tzl] at h;obtain ⟨rfl,rfl⟩:=h;exact ⟨todo,λc' hc=>hl c' (by rw [hex,hj];exact hc)⟩
  .rename_i hne;have hl:=ih _ _ _ h kind (.inBlock id::k) cs hk;cases x with
   | nrm=>exact Reach.trans hl (Reach.step rfl)
   | ret=>exact hl
   | exit j=>exact absurd h (hne j s')
 | loop b ih=>
  intro s x s' h kind k cs hk;simp only [evS] at h;refine zu6.of_reach (c1:=cf s.tm (.code b::.inLoop b::k) K s.ds kind cs s.H) (Reach.step rfl) ?_;exact zh3 (λs x s' h=>ih s x s' h kind _ cs hk) m s x s' h
 | rangeFunc f ps asg body _ _=>
  intro s x s' h kind k cs hk;simp only [evS] at h;exact yz2 hp h hk
 | exit id=>
  intro s x s' h kind k cs hk;simp only [evS,tza,tzl] at h;obtain ⟨rfl,rfl⟩:=h;exact ⟨_,λc' hc=>Reach.step hc⟩
 | label l=>
  intro s x s' h kind k cs hk;simp only [evS,tza,tzl] at h;obtain ⟨rfl,rfl⟩:=h;exact Reach.step rfl
 | ret=>
  intro s x s' h kind k cs hk;simp only [evS,tza,tzl] at h;obtain ⟨rfl,rfl⟩:=h;exact ⟨_,λc' hc=>Reach.step hc⟩
 | scope b _=>intro s x s' h;simp [evS] at h
 | goto l=>intro s x s' h;simp [evS] at h
 | refuse w=>intro s x s' h;simp [evS] at h
theorem yd6 (P:Program) (sub:Sub) (zz3:zqi):∀ n,xre (zlb sub P zz3,sub) P (evC P sub zz3 n)
 | 0=>λK code s x s' h=>by simp [evC] at h
 | n+1=>λK code s x s' h=>xrh (yd6 P sub zz3 n) K code s x s' h
theorem yd7 {P:Program} (hm:P.follows .mixedOrders=true) (zz3:zqi) {base:Sub} (hbase:zsl P base):∀ n,zsl P (evF P zz3 base n)
 | 0=>λf args H v H' h=>by simp [evF] at h
 | n+1=>λf args H v H' h ρ W xs hx R=>by
  have ih:=yd7 hm zz3 hbase n;cases hb:base f args H with
  | some q=>
   rw [ywt hb] at h;simp only [tza] at h;subst h;exact hbase f args H v H' hb ρ W xs hx R
  | none=>
   rw [zcy hb] at h;obtain ⟨fr0,h1,h2⟩:=ywu (yd6 P (evF P zz3 base n) zz3 n) h;obtain ⟨tm,todo,nt,⟨N,h3⟩,h4⟩:=h2 []
   have hdone:yfu (zlb (evF P zz3 base n) P zz3,evF P zz3 base n) P f (N+1) ⟨fr0.tm,fr0.todo,fr0.k,[],H⟩=some (v,H'):=by
    rw [h3]
    have hs:zt0 (zlb (evF P zz3 base n) P zz3,evF P zz3 base n) P ⟨tm,todo,⟨f,nt,[],.returning,.normal,none⟩,[],H'⟩=none:=by
     show (match zuh P H' f tm with
      | some v=>zui .normal v [] H'
      | none=>none)=none
     rw [h4];rfl
    show xra P f _ _ (zt0 _ P _)=_;rw [hs]
    show (match Nat.beq f f with
     | true=>match zuh P H' f tm with
      | some v=>some (v,H')
      | none=>none
     | false=>none)=_
    rw [show Nat.beq f f=true from by simp,h4]
   exact ylh ⟨ywm hm zz3 ih,ih⟩ h1 hdone hx R
end Go.Sim
namespace Go.Sim
open Go
variable {P:Program} {tm:Trie Value} {H:Hp}
def opK (k:Value->Hp->Option (Trie Value×Hp)):Option (Value×Hp)->Option (Trie Value×Hp)
 | some (v,H)=>k v H
 | none=>none
variable {sub:Sub} {yld:Yld} {nt:Nat} {all rest:List Oper}
theorem zqz (a b:Int):ltI a b=decide (a<b):=by
 cases a with
 | ofNat m=>cases b with
  | ofNat n=>simp only [ltI,txl];rw [ty1];simp
  | negSucc n=>simp [ltI];omega
 | negSucc m=>cases b with
  | ofNat n=>simp [ltI];omega
  | negSucc n=>simp only [ltI];rw [ty1];simp;omega
theorem zgp (a b:Int):eqI a b=decide (a=b):=by
 rw [zmj];rw [ty1];simp
end Go.Sim
namespace Go.Sim
open Go
variable {P:Program} {H H' H'':Hp}
structure Le (H H':Hp):Prop where
 n:H.n<=H'.n
 get:∀ i,i<H.n->H'.get i=H.get i
 stk:∀ k,k<H.n->H'.stk k=H.stk k
theorem Le.refl (H:Hp):Le H H:=⟨tzp _,λ_ _=>rfl,λ_ _=>rfl⟩
theorem Le.new (H:Hp) (B:Blk):Le H (H.new B):=⟨by simp,λi hi=>by rw [Hp.get_new,if_neg (by omega)],λk _=>by simp⟩
structure Wf (H:Hp):Prop where
 dom:∀ i B,H.get i=some B->i<H.n
 cls:∀ i c e k,H.get i=some (.cells c e (some k))->k<H.n
theorem zpq {i:Nat} {c:List Value}:H.row i=some c↔(∃ B,H.get i=some B/\H.rowOf i B=some c):=by
 unfold Hp.row;cases H.get i<;>simp
theorem Le.row (h:Le H H') (w:Wf H) {i:Nat} {c:List Value} (hr:H.row i=some c):H'.row i=some c:=by
 obtain ⟨B,hB,hc⟩:=zpq.1 hr;rw [zpq];refine ⟨B,by rw [h.get i (w.dom i B hB),hB],?_⟩;cases B with
 | cells c' e k=>
  cases k with
  | none=>exact hc
  | some k=>
   simp only [Hp.rowOf] at hc ⊢;rw [h.stk k (w.cls _ _ _ _ hB)];exact hc
 | ro c'=>exact hc
 | _=>exact hc
def yf9 (H:Hp) (v:Value) (l:List Value):Prop:=(v=.slice none 0 0/\l=[])∨∃ b o cap c,v=.slice (some ⟨b,o,none⟩) l.length cap/\H.row b=some c/\∀ i (h:i<l.length),c[o+i]? =some l[i]
theorem yls {t e:TypeId} (ht:P.underlying t=some (.slice e)) (a:Option Addr) (n c:Nat):zyd P [t] [Value.slice a n c] H .len=some (.val (.int .i64 (n:Nat)) H):=by
 show zth H ((P.underlying t).bind (yms H (.slice a n c)))=_;rw [ht];rfl
theorem yf9.len {t e:TypeId} {v:Value} {l:List Value} (h:yf9 H v l) (ht:P.underlying t=some (.slice e)):zyd P [t] [v] H' .len=some (.val (.int .i64 (l.length:Nat)) H'):=by
 rcases h with ⟨rfl,rfl⟩ | ⟨b,o,cap,c,rfl,h1,h2⟩<;>exact yls ht _ _ _
theorem xxk {c:List Value}:∀ {o:Nat} {v:Value},c[o]? =some v->cut c o 1=some [v]:=by
 induction c with
 | nil=>intro o v h;simp at h
 | cons x c ih=>
  intro o v h;cases o with
  | zero=>
   simp only [txp,tza] at h;subst h;cases c<;>rfl
  | succ o=>
   simp only [txr] at h;exact ih h
theorem yea {e b o:Nat} {c:List Value} {v:Value} (ha:zk9 P e=some false) (h:H.row b=some c) (hc:c[o]? =some v):zqg P H e b o=some v:=by
 unfold zqg;rw [ha];simp only [Hp.read,h];rw [xxk hc];rfl
theorem zib {t e:TypeId} {b o n cap i:Nat} (ht:P.underlying t=some (.slice e)) (hs:zyl P e=some 1) (hi:i<n) :
  zxz P t (.slice (some ⟨b,o,none⟩) n cap) (.int .i64 (i:Nat))=some (.pointer (some ⟨b,o+i,none⟩)):=by
 show (P.underlying t).bind (zd1 P (.slice (some ⟨b,o,none⟩) n cap) i)=_;rw [ht];show (zyl P e).bind (λs=>zs7 ⟨b,o,none⟩ n s i)=_;rw [hs];show zs7 _ _ _ _=_;unfold zs7;rw [show Nat.blt i n=true by simpa using hi];simp [Addr.add]
theorem yf9.idx {t e:TypeId} {v:Value} {l:List Value} (h:yf9 H v l) {i:Nat} (hi:i<l.length) (ht:P.underlying t=some (.slice e)) (hs:zyl P e=some 1) (ha:zk9 P e=some false) :
  ∃ b o,zxz P t v (.int .i64 (i:Nat))=some (.pointer (some ⟨b,o,none⟩))/\zqg P H e b o=some l[i]:=by
 rcases h with ⟨rfl,rfl⟩ | ⟨b,o,cap,c,rfl,h1,h2⟩
 .simp at hi
 exact ⟨b,o+i,zib ht hs hi,yea ha h1 (h2 i hi)⟩
end Go.Sim
namespace Go.Sim
open Go Go.RowKit
variable {P:Program} {ρ:Ren} {H:Hp} {W W':World}
def xl1 (a b:Sub):Sub:=λf args H=>match a f args H with
 | some r=>some r
 | none=>b f args H
def xme:List UInt8->List UInt8->Int
 | [],[]=>0
 | [],_::_=>.negSucc 0
 | _::_,[]=>1
 | a::l,b::m=>match Nat.blt a.toNat b.toNat with
  | true=>.negSucc 0
  | false=>match Nat.blt b.toNat a.toNat with
   | true=>1
   | false=>xme l m
def xmf (g:FuncId):Sub:=λf args H=>match Nat.beq f g with
 | true=>match args with
  | [.string a,.string b]=>some (.int .i64 (xme a.data.toList b.data.toList),H)
  | _=>none
 | false=>none
theorem Rep.below (R:Rep P ρ H W) (h:Below W.heap.size W W'):Rep P ρ H W'/\Fr ρ ρ H H W W':=by
 have hs:∀ b,b<W.heap.size->W'.heap[b]? =W.heap[b]?:=λb hb=>h.block b hb
 refine ⟨⟨λi B p hB hl hp=>?_,R.sep,R.new,R.dom,λi p hp=>tyf (R.low i p hp) h.size,R.glob,R.mem,R.len,R.gl⟩,
  ⟨Ren.Ext.refl ρ,h.os,h.tape,h.output,h.size,λb hb _=>hs b hb,λi B p h1 h2 h3=>.inr ⟨i,B,p,h1,h2,h3,rfl⟩,tzp _,λi hi hn=>⟨hn,rfl⟩⟩⟩
 exact (R.blk i B p hB hl hp).mono (Ren.Ext.refl ρ) hp (hs _ (R.low i p hp))
end Go.Sim
