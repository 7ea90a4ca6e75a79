/- Texts of this proof, part WB. -/
import Derived.Test.YtfjbdkmmoinngaaGreatDoorWA
import Derived.Test.YtfjbdkmmoinngaaGreatDoorPure
import Derived.Test.YtfjbdkmmoinngaaGreatDoorDvB
set_option linter.unusedVariables false
set_option linter.unusedSimpArgs false
set_option linter.unusedSectionVars false
set_option maxRecDepth 100000
set_option maxHeartbeats 8000000
namespace Go.Dv
open Go Go.Sim Go.Proofs Go.Fsa
def yss {S:Type} (fa:S->Value) (x:S):DV:=.f (.raw (fa x))
attribute [local simp] zwo zxi zzn zz0 zz1 zya zzv zz5 zzf zz8 zz6 zzt zz4 yss
theorem ysi {S:Type} {fa:S->Value} {L:Nat} {l:List S}:(l.map (yss fa)).all (below L)=true:=by
 rw [tzx];intro y hy;obtain ⟨z,_,rfl⟩:=tyg.1 hy;rfl
theorem wE {S:Type} [DecidableEq S] (fa:S->Value) (ha:xxl fa) (f T:Nat) (hfT:f=110/\T=3∨f=100/\T=9) (hkey:KeyD Tryz.prog T fa) (sy most:Nat) (s0:S) (succ:S->List (Option S)) (ac:S->Bool) (dom:S->Prop) (F:Nat) (hF:most<F)
  (g1 g2:FuncId) (a1 b1 a2 b2:List DV) (base:Nat) (D:DH)
  (h0:dom s0) (hdom:∀ s,dom s->∀ t,some t∈succ s->dom t) (hlen:∀ s,(succ s).length=sy)
  (hsy:sy<=400) (hmost:most<=200000) (h1m:1<=most) (hb:base<=D.length) (hob:(D.drop base).all (zza D.length)=true)
  (ha1:zzo D.length a1=true) (hb1:zzo D.length b1=true) (ha2:zzo D.length a2=true) (hb2:zzo D.length b2=true) (hraw:(Q.ann g2).raw=false)
  (hstep:∀ (x:S) (c:Nat) (o:Option S),dom x->(succ x)[c]? =some o->∃ y,(∀ X:DH,zzg Q g1 (a1++[yss fa x,zze c]++b1) base (D++X)=some (.tup [yss fa y,zzr o.isSome],D++X))/\(o=some y∨o=none))
  (hacc:∀ (X:DH) (x:S),dom x->zzg Q g2 (a2++[yss fa x]++b2) base (D++X)=some (zzr (ac x),D++X)) :
  (∃ qs rows,exR id succ most F 0 [s0]=some (qs,rows)/\∃ (O1 O2:DObj) (fi bs:List Int),zzg Q f [zze sy,zze most,yss fa s0,.fn g1 a1 b1,.fn g2 a2 b2] base D=some (.tup [.ref (D.length) 0 0,zzr true],D++[.arr 5 [.agg [zze sy,.apl (D.length+5) qs.length,.apl (D.length+6) qs.length,qV (D.length+3) qs.length,qV (D.length+4) qs.length]],O1,O2,qO 3 1 (fi.map zzf),qO 3 1 (bs.map zzf),.app 4 1 ((qs.map ac).map zz8),.app 26 1 (rows.map zyq)])/\FBC succ qs.length 0 qs fi bs/\∀ L,zza L O1=true/\zza L O2=true)∨(exR id succ most F 0 [s0]=none/\∃ Z,zzg Q f [zze sy,zze most,yss fa s0,.fn g1 a1 b1,.fn g2 a2 b2] base D=some (.tup [rv (.pointer none),zzr false],D++Z)):=by
 have ha1':=λx=>(ha x).1;have ha2':=λx=>(ha x).2.1;have ha3':=λx=>(ha x).2.2
 let T':=T
 have hT':T'=T:=rfl;rcases hfT with ⟨rfl,rfl⟩ | ⟨rfl,rfl⟩
 case' inl=>
  rw [zz2 (fn:=Tryz.f110) (show Q.P.funcs[110]? =some Tryz.f110 from Tryz.func110) rfl yyc rfl (by simp only [tzd,tze];decide) (by kernel_rfl)];have gp:=xqh;simp [yyc,Tryz.f110,zym] at gp
 case' inr=>
  rw [zz2 (fn:=Tryz.f100) (show Q.P.funcs[100]? =some Tryz.f100 from Tryz.func100) rfl ys4 rfl (by simp only [tzd,tze];decide) (by kernel_rfl)];have gp:=xqt;simp [ys4,Tryz.f100,zym] at gp
 all_goals
  have hbk:∀ k,base<=D.length+k:=λk=>by omega
  have hOK:∀ k X,zyg base (D.length+k) (D++X)=(X.take k).all (zza (D.length+k)):=λk X=>zwv hb hob
  have hbl:∀ (l:List DV) k,zzo D.length l=true->zzo (D.length+k) l=true:=λl k h=>(zy8 (tyt _ _)).2 l h
  have f0:zx0 _ _ (fa s0) (zwl [])=some none:=hkey.find [] s0
  have hbl:∀ k,zzo (D.length+k) a1=true/\zzo (D.length+k) b1=true/\zzo (D.length+k) a2=true/\zzo (D.length+k) b2=true:=λk=>⟨hbl a1 k ha1,hbl b1 k hb1,hbl a2 k ha2,hbl b2 k hb2⟩
  simp [-getElem?_pos,-List.map_set,gp,hT',ha1',ha2',ha3',hb,hbk,hOK,f0,(hbl _).1,(hbl _).2.1,(hbl _).2.2.1,(hbl _).2.2.2]
  generalize hX:zxj _ _ _=X
  obtain ⟨qs,rows,tm,vs,fi,bs,hex,rfl,t12,hfbl⟩ | ⟨tm,Z,hex,rfl,t10,t11⟩:(∃ (qs:List S) (rows:List (List Int)) (tm:Trie DV) (vs fi bs:List Int),exR id succ most F 0 [s0]=some (qs,rows)/\X=some (.exit 0,⟨tm,D++[.arr 5 [.agg [zze sy,.apl (D.length+5) qs.length,.apl (D.length+6) qs.length,qV (D.length+3) qs.length,qV (D.length+4) qs.length]],.map (qs.map fa) (vs.map zzf),qO T' 1 (qs.map (yss fa)),qO 3 1 (fi.map zzf),qO 3 1 (bs.map zzf),.app 4 1 ((qs.map ac).map zz8),.app 26 1 (rows.map zyq)]⟩)/\tm.get 12=some (.ref (D.length) 0 0)/\FBC succ qs.length 0 qs fi bs)∨∃ (tm:Trie DV) (Z:DH),exR id succ most F 0 [s0]=none/\X=some (.ret,⟨tm,D++Z⟩)/\tm.get 10=some (rv (.pointer none))/\tm.get 11=some (zzr false):=by
   rw [<-hX]
   clear hX
   obtain ⟨tot,htot⟩:∃ tot,tot=exR id succ most F 0 [s0]:=⟨_,rfl⟩
   rw [<-htot]
   generalize hs26:SD.mk _ _=sd26
   revert sd26
   refine wl (λp:Nat×Nat×List S×List Int×List Int×List Int×List (List Int)×List Bool=>⟨(((((((Trie.leaf.put 15 (zze p.2.1)).put 14 (qV (D.length+2) p.2.2.1.length)).put 13 (.mp (D.length+1))).put 12 (.ref (D.length) 0 0)).put 4 (.fn g2 a2 b2)).put 3 (.fn g1 a1 b1)).put 1 (zze most)).put 0 (zze sy),D++[.arr 5 [.agg [zze sy,.apl (D.length+5) p.2.1,.apl (D.length+6) p.2.1,qV (D.length+3) p.2.2.1.length,qV (D.length+4) p.2.2.1.length]],.map (p.2.2.1.map fa) (p.2.2.2.1.map zzf),qO T' 1 (p.2.2.1.map (yss fa)),qO 3 1 (p.2.2.2.2.1.map zzf),qO 3 1 (p.2.2.2.2.2.1.map zzf),.app 4 1 (p.2.2.2.2.2.2.2.map zz8),.app 26 1 (p.2.2.2.2.2.2.1.map zyq)]⟩)
    (λp=>p.2.1<=p.2.2.1.length/\1<=p.2.2.1.length/\p.2.2.1.length<=most/\FBC succ p.2.1 0 p.2.2.1 p.2.2.2.2.1 p.2.2.2.2.2.1/\p.2.2.2.2.2.1.length=p.2.2.1.length/\(p.2.2.2.1.length=p.2.2.1.length/\∀ j,j<p.2.2.1.length->p.2.2.2.1[j]? =some (j:Int))/\p.2.2.2.2.2.2.1.length=p.2.1/\p.2.2.2.2.2.2.2=(p.2.2.1.take p.2.1).map ac/\(∀ t∈p.2.2.1,dom t)/\most<p.1+p.2.1/\(exR id succ most p.1 p.2.1 p.2.2.1).map (λz=>(z.1,p.2.2.2.2.2.2.1++z.2))=tot)
    (λp=>p.1) ?_ (F,0,[s0],[0],[-1],[-1],[],[]) ⟨tz6 _,tzp _,h1m,FBC.one,rfl,⟨rfl,λj h=>by cases j with | zero=>rfl | succ j=>simp [-getElem?_pos,-List.map_set] at h⟩,rfl,rfl,λt ht=>by rw [tzw] at ht;rw [ht];exact h0,hF,by rw [htot];simp [-getElem?_pos,-List.map_set]⟩
   clear htot
   rintro ⟨F,i,q,vs,fi,bs,R0,A⟩ ⟨hi,hq1,hqm,hfb,hbs,⟨hvl,hvs⟩,hR0,hA,hdq,hFi,hex⟩ ih
   have hfi:=hfb.lf
   simp only at hi hq1 hqm hfb hfi hbs hvl hvs hR0 hA hdq hFi hex ih
   rw [zzj]
   obtain ⟨F,rfl⟩:∃ F',F=F'+1:=by
    cases F with
    | zero=>omega
    | succ F=>exact ⟨F,rfl⟩
   simp only [exR] at hex
   by_cases hlt:i<q.length
   .obtain ⟨t,ht⟩:∃ t,q[i]? =some t:=⟨_,tzb hlt⟩
    have htd:=hdq t (tzg ht)
    rw [ht] at hex
    simp only at hex
    have hAl:A.length=i:=by rw [hA];simp [-getElem?_pos,-List.map_set];omega
    have hac:∀ X,zzg Q g2 (a2++(DV.f (.raw (fa t))::b2)) base (D++X)=some (DV.f (.raw (.bool (ac t))),D++X):=λX=>by
     have:=hacc X t htd
     rw [tyd] at this;exact this
    obtain ⟨q',hq'⟩:∃ q',q'=addS id q (succ t):=⟨_,rfl⟩
    simp [-getElem?_pos,-List.map_set,gp,hT',ha1',ha2',ha3',hb,hbk,hOK,hbl,hlt,ht,hraw,hac,hAl,hR0,hfi,hbs,hvl,show i+1<=1099511627776 by omega,show i<=1099511627775 by omega,show sy*8<=140737488355328 by omega,show sy<9223372036854775808 by omega]
    have hre:succ t=(succ t).take sy:=(tzk (by rw [hlen];exact tzp _)).symm
    rw [<-hq'] at hex
    have hpre:∀ k,addS id q ((succ t).take k) <+: q':=λk=>by
     rw [hq']
     conv=>rhs;rw [<-List.take_append_drop k (succ t),zr0]
     exact zxg
    generalize hX:zxj _ _ _=X
    obtain ⟨hqm',tm,vs',fi',bs',rfl,⟨hfb',hbs',hvl',hvs'⟩,t0,t1,t3,t4,t12,t13,t14,t15,t16⟩ | ⟨hqm',tm,Z,rfl,t10,t11⟩:(q'.length<=most/\∃ (tm:Trie DV) (vs' fi' bs':List Int),X=some (.exit 2,⟨tm,D++[.arr 5 [.agg [zze sy,.apl (D.length+5) (i+1),.apl (D.length+6) i,qV (D.length+3) q'.length,qV (D.length+4) q'.length]],.map (q'.map fa) (vs'.map zzf),qO T' 1 (q'.map (yss fa)),qO 3 1 (fi'.map zzf),qO 3 1 (bs'.map zzf),.app 4 1 (A.map zz8++[zz8 (ac t)]),.app 26 1 (R0.map zyq),.arr 1 [zz8 (ac t)],.arr 1 ((za8 id q (succ t)).map zzf)]⟩)/\(FBC succ i sy q' fi' bs'/\bs'.length=q'.length/\vs'.length=q'.length/\∀ j,j<q'.length->vs'[j]? =some (j:Int))/\tm.get 0=some (zze sy)/\tm.get 1=some (zze most)/\tm.get 3=some (.fn g1 a1 b1)/\tm.get 4=some (.fn g2 a2 b2)/\tm.get 12=some (.ref (D.length) 0 0)/\tm.get 13=some (.mp (D.length+1))/\tm.get 14=some (qV (D.length+2) q'.length)/\tm.get 15=some (zze i)/\tm.get 16=some (.row (D.length+8) 0 sy sy))∨(most<q'.length/\∃ (tm:Trie DV) (Z:DH),X=some (.ret,⟨tm,D++Z⟩)/\tm.get 10=some (rv (.pointer none))/\tm.get 11=some (zzr false)):=by
     rw [<-hX]
     clear hX ih hex
     obtain ⟨W0,hW0⟩:∃ L:List Int,L=List.replicate sy 0:=⟨_,rfl⟩
     rw [zn0,<-hW0]
     generalize hs27:SD.mk _ _=sd27
     revert sd27
     refine wl (λp:Nat×List S×List Int×List Int×List Int×List Int=>⟨((((((((((Trie.leaf.put 62 (zze p.1)).put 61 (zze sy)).put 16 (.row (D.length+8) 0 sy sy)).put 15 (zze i)).put 14 (qV (D.length+2) p.2.1.length)).put 13 (.mp (D.length+1))).put 12 (.ref (D.length) 0 0)).put 4 (.fn g2 a2 b2)).put 3 (.fn g1 a1 b1)).put 1 (zze most)).put 0 (zze sy),D++[.arr 5 [.agg [zze sy,.apl (D.length+5) (i+1),.apl (D.length+6) i,qV (D.length+3) p.2.1.length,qV (D.length+4) p.2.1.length]],.map (p.2.1.map fa) (p.2.2.1.map zzf),qO T' 1 (p.2.1.map (yss fa)),qO 3 1 (p.2.2.2.1.map zzf),qO 3 1 (p.2.2.2.2.1.map zzf),.app 4 1 (A.map zz8++[zz8 (ac t)]),.app 26 1 (R0.map zyq),.arr 1 [zz8 (ac t)],.arr 1 (p.2.2.2.2.2.map zzf)]⟩)
      (λp=>p.1<=sy/\p.2.1=addS id q ((succ t).take p.1)/\p.2.1.length<=most/\(FBC succ i p.1 p.2.1 p.2.2.2.1 p.2.2.2.2.1/\p.2.2.2.2.1.length=p.2.1.length/\p.2.2.1.length=p.2.1.length/\∀ j,j<p.2.1.length->p.2.2.1[j]? =some (j:Int))/\p.2.2.2.2.2.length=sy/\p.2.2.2.2.2.take p.1=za8 id q ((succ t).take p.1)) (λp=>sy-p.1) ?_ (0,q,vs,fi,bs,W0) ⟨tz6 _,rfl,hqm,⟨hfb,hbs,hvl,hvs⟩,by simp [-getElem?_pos,-List.map_set,hW0],rfl⟩
     clear hvs hvl hfi hbs hfb
     rintro ⟨k,q1,vs,fi,bs,W⟩ ⟨hk,hq1',hq1m,⟨hfb,hbs,hvl,hvs⟩,hWl,hW⟩ ihK
     have hfi:=hfb.lf
     simp only at hk hq1' hq1m hfb hfi hbs hvl hvs hWl hW ihK
     rw [zzj]
     by_cases hks:k<sy
     case neg=>
      have hk':k=sy:=by omega
      subst hk'
      rw [<-hre] at hq1' hW
      rw [tzk (by omega)] at hW
      subst hW
      rw [<-hq'] at hq1'
      subst hq1'
      simp [-getElem?_pos,-List.map_set,gp,hT',ha1',ha2',ha3',hks]
      refine ⟨hq1m,_,vs,fi,bs,⟨rfl,rfl,rfl,rfl⟩,⟨hfb,hbs,hvl,hvs⟩,?_⟩
      simp [-getElem?_pos,-List.map_set]
     obtain ⟨o,ho⟩:∃ o,(succ t)[k]? =some o:=⟨_,tzb (by rw [hlen];exact hks)⟩
     have hL:(succ t).take (k+1)=(succ t).take k++[o]:=by rw [tz8,ho];rfl
     have hset:∀ v,(W.set k v).take (k+1)=W.take k++[v]:=λv=>by
      rw [tz8,txx (tzp _),tz1 (by omega)];rfl
     obtain ⟨w0,hw0⟩:∃ x,W[k]? =some x:=⟨_,tzb (by omega)⟩
     have hws:∀ v,(W.set k v)[k]? =some v:=λv=>tz1 (by omega)
     have hww:=zzi (show k+1<=9223372036854775807 by omega)
     have hqt:q1[i]? =some t:=by rw [hq1'];exact zxr zxg ht
     have hqi:i<q1.length:=zzy hqt
     obtain ⟨y,hst,hoy⟩:∃ y,(∀ X,zzg Q g1 (a1++(DV.f (.raw (fa t))::DV.f (.raw (.int .i64 k))::b1)) base (D++X)=some (.tup [DV.f (.raw (fa y)),DV.f (.raw (.bool o.isSome))],D++X))/\(o=some y∨o=none):=by
      obtain ⟨y,h1,h2⟩:=hstep t k o htd ho
      refine ⟨y,λX=>?_,h2⟩
      have:=h1 X
      rw [tyd] at this;exact this
     rcases hoy with rfl | rfl
     case inr=>
      have ih':=ihK (k+1,q1,vs,fi,bs,W.set k (-1)) ⟨by simp only;omega,by simp only;rw [hL,zdr,hq1'],hq1m,⟨hfb.none hqt ho,hbs,hvl,hvs⟩,by simp only [tz3];exact hWl,by simp only;rw [hset,hL,zdq,hW]⟩ (by simp only;omega)
      simp [-getElem?_pos,-List.map_set,hT',ha1',ha2',ha3'] at ih'
      simp only [Option.isSome_none] at hst
      simp [-getElem?_pos,-List.map_set,gp,hT',ha1',ha2',ha3',hb,hbk,hOK,hbl,hks,hst,hqt,hqi,hw0,hws,hWl,hww,hAl,hR0,hfi,hbs,hvl]
      exact ih'
     simp only [Option.isSome_some] at hst
     have hnew:=(hpre (k+1)).length_le
     rw [hL,ztc,<-hq1',txa,id] at hnew
     by_cases hm:y∈q1
     .obtain ⟨m,hm2⟩:∃ m,m=zwe q1 y:=⟨_,rfl⟩
      have hmn:m<q1.length:=by rw [hm2];exact znd hm
      have hvm:=hvs m hmn
      have hf:=hkey.find q1 y
      rw [zq2 hm,<-hm2] at hf
      have ih':=ihK (k+1,q1,vs,fi,bs,W.set k (m:Int)) ⟨by simp only;omega,by simp only;rw [hL,ztc,<-hq1',txa,id,if_pos hm],hq1m,⟨hfb.known hqt ho hm,hbs,hvl,hvs⟩,by simp only [tz3];exact hWl,by simp only;rw [hset,hL,zod,hW,<-hq1',txa,id,hm2]⟩ (by simp only;omega)
      simp [-getElem?_pos,-List.map_set,hT',ha1',ha2',ha3'] at ih'
      simp [-getElem?_pos,-List.map_set,gp,hT',ha1',ha2',ha3',hb,hbk,hOK,hbl,hks,hst,hqt,hqi,hw0,hws,hWl,hww,hAl,hR0,hfi,hbs,hvl,hf,hvm]
      exact ih'
     .rw [if_neg hm,tz5] at hnew
      simp only [tzd,tze] at hnew
      have hf:=hkey.find q1 y
      rw [zoc hm] at hf
      by_cases hlm:q1.length<most
      case neg=>
       simp [-getElem?_pos,-List.map_set,gp,hT',ha1',ha2',ha3',hb,hbk,hOK,hbl,hks,hst,hqt,hqi,hw0,hws,hWl,hww,hAl,hR0,hfi,hbs,hvl,hf,show most<=q1.length by omega]
       omega
      have ih':=ihK (k+1,q1++[y],vs++[(q1.length:Int)],fi++[(i:Int)],bs++[(k:Int)],W.set k (q1.length:Int)) ⟨by simp only;omega,by simp only;rw [hL,ztc,<-hq1',txa,id,if_neg hm],by simp only [tz5,tzd,tze];omega,⟨hfb.new hqt ho,by simp [-getElem?_pos,-List.map_set,hbs],by simp [-getElem?_pos,-List.map_set,hvl],λj hj=>by
       rcases tz9 j q1.length with g | g
       .rw [tzs (by omega)];exact hvs j g
       .simp only [tz5,tzd,tze] at hj
        have:j=vs.length:=by omega
        rw [this,tzv (tzp _),Nat.sub_self,hvl];rfl⟩,by simp only [tz3];exact hWl,by simp only;rw [hset,hL,zod,hW,<-hq1',txa,id,zsv hm]⟩ (by simp only;omega)
      simp [-getElem?_pos,-List.map_set,hT',ha1',ha2',ha3'] at ih'
      simp [-getElem?_pos,-List.map_set,gp,hT',ha1',ha2',ha3',hb,hbk,hOK,hbl,hks,hst,hqt,hqi,hw0,hws,hWl,hww,hAl,hR0,hfi,hbs,hvl,hf,show ¬most<=q1.length by omega,show q1.length<most by omega,show 1<=q1.length by omega,show (q1.length+1)*8<=1099511627776 by omega,show (q1.length+1)*16<=1099511627776 by omega,show (q1.length+1)*24<=1099511627776 by omega,show q1.length<=1099511627775 by omega]
      exact ih'
    case inr=>
     rw [if_pos hqm'] at hex
     clear hX ih
     simp [-getElem?_pos,-List.map_set,gp,hT',t10,t11]
     exact hex.symm
    clear hX
    rw [if_neg (by omega)] at hex
    have hfi':=hfb'.lf
    obtain ⟨Z,hS⟩:∃ Z,Z=za8 id q (succ t):=⟨_,rfl⟩
    have hSl:Z.length=sy:=by rw [hS,zg6,hlen]
    rw [<-hS] at hex
    have hpre':q <+: q':=by rw [hq'];exact zxg
    have hpl:=hpre'.length_le
    have hqt:q'.take (i+1)=q.take i++[t]:=by
     rw [tz8,zxr hpre' ht]
     obtain ⟨z,rfl⟩:=hpre'
     rw [txi (by omega)];rfl
    have htk:List.take sy (Z.map zzf)=Z.map zzf:=tzk (by simp [-getElem?_pos,-List.map_set,hSl])
    have ih':=ih (F,i+1,q',vs',fi',bs',R0++[Z],A++[ac t]) ⟨by simp only;omega,by simp only;omega,by simp only;omega,hfb'.next hlen,hbs',⟨hvl',hvs'⟩,by simp [-getElem?_pos,-List.map_set,hR0],by simp only;rw [hqt,txk,txe,List.map_nil,hA],by
     simp only
     rw [hq']
     exact zry hdq (hdom t htd),by simp only;omega,by
     simp only
     rw [<-hex,Option.map_map]
     congr 1
     funext z
     simp [-getElem?_pos,-List.map_set]⟩ (by simp only;omega)
    simp [-getElem?_pos,-List.map_set,hT',ha1',ha2',ha3'] at ih'
    rw [<-hS]
    simp [-getElem?_pos,-List.map_set,gp,hT',ha1',ha2',ha3',hb,hbk,hOK,hbl,t0,t1,t3,t4,t12,t13,t14,t15,t16,hSl,htk,hR0,hAl,hfi',hbs',hvl',show i+1<=1099511627776 by omega,show i<=1099511627775 by omega,show (i+1)*24<=1099511627776 by omega,zzi (show i+1<=9223372036854775807 by omega)]
    exact ih'
   .rw [tzt (by omega)] at hex
    simp only [tz2,tyv] at hex
    have hie:i=q.length:=by omega
    subst hie
    rw [ty0] at hA
    subst hA
    refine ywv (vs:=vs) (fi:=fi) (bs:=bs) hex.symm hfb ?_
    simp [-getElem?_pos,-List.map_set,gp,hT',ha1',ha2',ha3',hlt,hR0]
  case inr=>
   clear hX
   refine .inr ⟨hex,Z,?_⟩
   simp [-getElem?_pos,-List.map_set,gp,t10,t11]
  clear hX
  refine .inl ⟨qs,rows,hex,.map (qs.map fa) (vs.map zzf),qO T' 1 (qs.map (yss fa)),fi,bs,?_,hfbl,λL=>⟨by rw [yop];exact zy1,zqa ysi⟩⟩
  simp [-getElem?_pos,-List.map_set,gp,hT',ha1',ha2',ha3',t12]
theorem xmh (sy most:Nat) (s0:Int) (succ:Int->List (Option Int)) (ac:Int->Bool) (dom:Int->Prop) (F:Nat) (qs:List Int) (rows:List (List Int))
  (g1 g2:FuncId) (a1 b1 a2 b2:List DV) (base:Nat) (D:DH)
  (hex:exR id succ most F 0 [s0]=some (qs,rows)) (h0:dom s0) (hdom:∀ s,dom s->∀ t,some t∈succ s->dom t) (hlen:∀ s,(succ s).length=sy)
  (hsy:sy<=400) (hmost:most<=200000) (h1m:1<=most) (hb:base<=D.length) (hob:(D.drop base).all (zza D.length)=true)
  (ha1:zzo D.length a1=true) (hb1:zzo D.length b1=true) (ha2:zzo D.length a2=true) (hb2:zzo D.length b2=true) (hraw:(Q.ann g2).raw=false)
  (hstep:∀ (x:Int) (c:Nat) (o:Option Int),dom x->(succ x)[c]? =some o->∃ y,(∀ X:DH,zzg Q g1 (a1++[zze x,zze c]++b1) base (D++X)=some (.tup [zze y,zzr o.isSome],D++X))/\(o=some y∨o=none))
  (hacc:∀ (X:DH) (x:Int),dom x->zzg Q g2 (a2++[zze x]++b2) base (D++X)=some (zzr (ac x),D++X)) :
  ∃ (O1 O2:DObj) (fi bs:List Int),zzg Q 110 [zze sy,zze most,zze s0,.fn g1 a1 b1,.fn g2 a2 b2] base D=some (.tup [.ref D.length 0 0,zzr true],D++[.arr 5 [.agg [zze sy,.apl (D.length+5) qs.length,.apl (D.length+6) qs.length,qV (D.length+3) qs.length,qV (D.length+4) qs.length]],O1,O2,qO 3 1 (fi.map zzf),qO 3 1 (bs.map zzf),.app 4 1 ((qs.map ac).map zz8),.app 26 1 (rows.map zyq)])/\∀ L,zza L O1=true/\zza L O2=true:=by
 obtain ⟨qs',rows',e,O1,O2,fi,bs,h,_,h2⟩ | ⟨e,_⟩:=wE (λx:Int=>.int .i64 x) (λ_=>⟨rfl,rfl,rfl⟩) 110 3 (by simp [-List.map_set]) xr9 sy most s0 succ ac dom (F+(most+1)) (by omega) g1 g2 a1 b1 a2 b2 base D h0 hdom hlen hsy hmost h1m hb hob ha1 hb1 ha2 hb2 hraw hstep hacc<;>rw [zrz hex] at e<;>cases e
 exact ⟨O1,O2,fi,bs,h,h2⟩
end Go.Dv
set_option maxHeartbeats 2000000
namespace Go.Dv
open Go Go.Sim Go.Proofs Go.Fsa
attribute [local simp] zwo zxi zzn zz0 zz1 zya zzv zz5 zzf zz8 zz6 zzt zz4
def zxb (o:Nat) (m:Aut) (O1 O2:DObj) (fi bs:List Int):DH:=[.arr 5 [.agg [zze m.sy,.apl (o+5) m.acc.length,.apl (o+6) m.acc.length,qV (o+3) m.acc.length,qV (o+4) m.acc.length]],O1,O2,qO 3 1 (fi.map zzf),qO 3 1 (bs.map zzf),.app 4 1 (m.acc.map zz8),.app 26 1 (m.nxt.map zyq)]
theorem w62 (a:Aut) (hv:a.valid) (base:Nat) (D:DH) (hb:base<=D.length) (hob:(D.drop base).all (zza D.length)=true) :
  ∃ O1 O2 fi bs,zzg Q 62 [zzn a] base D=some (.ref (D.length+1) 0 0,D++.arr 4 [zzn a]::zxb (D.length+1) a.wh O1 O2 fi bs)/\∀ L,zza L O1=true/\zza L O2=true:=by
 rw [zz2 (fn:=Tryz.f62) (show Q.P.funcs[62]? =some Tryz.f62 from Tryz.func62) rfl ycc rfl (by simp only [tzd,tze];decide) (by kernel_rfl)];have gp:=xmx;simp [ycc,Tryz.f62,zym] at gp;have hlen:=hv.len;have hmost:=hv.most;have hbk:∀ k,base<=D.length+k:=λk=>by omega
 have hhi:=hv.hi;have hlo:=hv.lo
 have hacc:∀ (X:DH) (x:Int),a.dom x->zzg Q 112 ([]++[zze x]++[.ref D.length 0 0]) base ((D++[.arr 4 [zzn a]])++X)=some (zzr (a.accB x),(D++[.arr 4 [zzn a]])++X):=λX x hx=>
  xl5 a x (by have:=hx.2;omega) base D.length (D++[DObj.arr 4 [zzn a]]++X) (by simp [-List.map_set])
 have r110:(Q.ann 110).raw=true:=by rw [yyc]
 have r89:(Q.ann 89).raw=false:=by rw [ysy]
 have hw2:zvu .i64 ((a.acc.length:Int)+2)=((a.acc.length+2:Nat):Int):=by rw [zy9 (by omega) (by omega)];rfl
 obtain ⟨O1,O2,fi,bs,hex,hO⟩:=xmh a.sy.toNat (a.acc.length+2) a.begin a.succW a.accB a.dom (a.acc.length+2) a.exW.1 a.exW.2 111 112 [] [.ref D.length 0 0] [] [.ref D.length 0 0] base (D++[.arr 4 [zzn a]])
  (yxd hv) (zuf hv) (λs hs t ht=>by
   unfold Aut.succW at ht
   obtain ⟨k,_,e⟩:=tyg.1 ht
   simp only [tza] at e
   rw [<-e];exact Aut.go_dom hv) (λs=>zky) (by omega) (by omega) (by omega) (by simp [-List.map_set];omega)
  (by
   rw [List.drop_append_of_le_length hb,List.all_append,tzc]
   refine ⟨?_,by simp [-List.map_set,zys]⟩
   rw [tzx] at hob ⊢
   intro x hx
   exact zyo (by simp [-List.map_set]) x (hob x hx)) (by simp [-List.map_set]) (by simp [-List.map_set]) (by simp [-List.map_set]) (by simp [-List.map_set]) (by rw [yev])
  (λx c o hx ho=>by
   obtain ⟨rfl,hc⟩:=yn7 ho
   refine ⟨a.go x c,λX=>?_,.inl rfl⟩
   exact xl4 a hv x hx.2 c hc base D.length (D++[DObj.arr 4 [zzn a]]++X) (by simp [-List.map_set]))
  hacc
 refine ⟨O1,O2,fi,bs,?_,hO⟩;have hal:a.wh.acc.length=a.exW.1.length:=by simp [-List.map_set,Aut.wh]
 have h89:=λD'=>w89 a base D';simp only [zzn,zze] at h89;simp only [zzn,zze,tyd,txo,ty2,tz5,tzd,tze,Int.toNat_of_nonneg (show 0<=a.sy by omega),zzr] at hex;rw [show ((a.acc.length+2:Nat):Int)=(a.acc.length:Int)+2 from rfl] at hex;simp [-List.map_set,gp,hb,hbk,h89,r89,r110,hw2,hex];simp [-List.map_set,zxb,Aut.wh]
 trace_state
end Go.Dv
namespace Go.Dv
open Go Go.Sim Go.Proofs Go.Fsa
attribute [local simp] zwo zxi zzn zz0 zz1 zya zzv zz5 zzf zz8 zz6 zzt zz4
def zy2 (n:Nat):DV:=.f (.raw (.int .u8 n))
def ysj (n:Nat):FV:=.raw (.int .u8 n)
def xrj:ByteArray:=⟨#[48,49,50,51,52,53,54,55,56,57,97,98,99,100,101,102,103,104,105,106,107,108,109,110,111,112,113,114,115,116,117,118,119,120,121,122]⟩
theorem ylt:xrj.data.toList=(List.range 36).map λd=>UInt8.ofNat (dgt d):=by decide
theorem xxm {d:Nat} (h:d<36):zmd Tryz.prog 9 (.string xrj) (.int .u64 (d:Nat))=some (.int .u8 ((dgt d:Nat):Int)):=by
 show (Tryz.prog.underlying 9).bind (zjd Tryz.prog (.string xrj) d)=_;rw [show Tryz.prog.underlying 9=some .string by kernel_rfl];show (xrj.data.toList[d]?).map ymp=_;rw [ylt,tzr,tz7 h];show some (Value.int .u8 (Int.ofNat (UInt8.ofNat (dgt d)).toNat))=_;rw [UInt8.toNat_ofNat'];have:dgt d<256:=by unfold dgt;split<;>omega
 rw [txu this];rfl
theorem xrk {d:Nat} (h:d<36):zvb Tryz.prog 9 (some (.f (.raw (.string ⟨#[48,49,50,51,52,53,54,55,56,57,97,98,99,100,101,102,103,104,105,106,107,108,109,110,111,112,113,114,115,116,117,118,119,120,121,122]⟩)))) (some (.f (.raw (.int .u64 (d:Nat)))))=some (.f (.raw (.int .u8 ((dgt d:Nat):Int)))):=by
 have:=xxm h;unfold xrj at this;unfold zvb;simp only;rw [if_pos (show zl5 _=true from rfl),this];rfl
theorem xng {D:DH}:alR D (zxa Tryz.prog 197)=some (.val (.ref D.length 0 0) (D++[.arr 65 [.agg ((List.replicate 65 0).map zy2)]])):=by
 rw [show zxa Tryz.prog 197=some (.agg (List.replicate 65 (.int .u8 0)).toArray) by kernel_rfl,yy1,yoo];simp [-List.map_set,zkm,zy2,zzd,zwz,zrm,oneCell]
theorem xl6 (base:Nat) (D:DH):zzg Q 169 [zze 36] base D=some (zzr false,D):=by
 rw [zzb (fn:=Tryz.f169) (show Q.P.funcs[169]? =some Tryz.f169 from Tryz.func169) rfl xwl rfl (by simp only [tzd,tze];decide) (by kernel_rfl)];have h1:zvu .i64 35=35:=by kernel_rfl
 have h2:∀ x y,zty Tryz.prog .and 3 x y (.int .i64 36) (.int .i64 35)=some (.int .i64 32):=by intro x y;kernel_rfl
 simp [-List.map_set,h1,h2]
theorem yww {L:Nat} {Z:List Nat}:zzo L (Z.map zy2)=true:=by rw [zhh];simp [-List.map_set,zy2]
theorem ywx {Z:List Nat} {j n:Nat}:List.take j (List.map zy2 Z)++(DV.f (FV.raw (.int .u8 ((n:Nat):Int)))::List.drop (j+1) (List.map zy2 Z))=(Z.take j++n::Z.drop (j+1)).map zy2:=by simp [-List.map_set,zy2]
theorem xl7 (d d':DV) (u:Nat) (hu:u<9223372036854775808) (base:Nat) (D D':DH) (hb:base<=D.length) (hob:(D.drop base).all (zza D.length)=true) (hd:below D.length d=true)
  (happ:apR (D++[.dead]) base d (some ⟨5,1,1,zy2 0⟩) true (some ((dig 13 u).map zy2))=some (.val d' D')) :
  zzg Q 165 [d,.f (.raw (.int .u64 (u:Nat))),zze 36,zzr false,zzr true] base D=some (.tup [d',.f (.raw (.string ⟨#[]⟩))],D'):=by
 rw [zz2 (fn:=Tryz.f165) (show Q.P.funcs[165]? =some Tryz.f165 from Tryz.func165) rfl xwk rfl (by simp only [tzd,tze];decide) (by kernel_rfl)];have hbk:∀ k,base<=D.length+k:=λk=>by omega
 have hOK:∀ k X,zyg base (D.length+k) (D++X)=(X.take k).all (zza (D.length+k)):=λk X=>zwv hb hob;have hdk:∀ k,below (D.length+k) d=true:=λk=>(zy8 (tyt _ _)).1 d hd;have h169:=λb D=>xl6 b D;simp only [zze,zzr] at h169;have hcv:∀ H,zx8 Tryz.prog H 3 178 (.int .i64 36)=some (.int .u64 36):=λH=>by rw [zhi (j:=.i64) (k:=.u64) (by kernel_rfl) (by kernel_rfl)];rfl
 obtain ⟨Z0,hZ0⟩:∃ Z,Z=List.replicate 65 0:=⟨_,rfl⟩;have al:∀ D,alR D (zxa Tryz.prog 197)=some (.val (.ref D.length 0 0) (D++[.arr 65 [.agg (Z0.map zy2)]])):=λD=>by rw [hZ0];exact xng
 simp [-List.map_set,hb,hbk,hOK,hdk,al,h169,hcv,yww];generalize hX:zxj _ _ _=X
 obtain ⟨tm,Z,i,v,rfl,⟨hZl,hi0,hi,hv,hdg⟩,t0,t1,t3,t4,t10,t11,t12,t13⟩:∃ (tm:Trie DV) (Z:List Nat) (i v:Nat),X=some (.exit 2,⟨tm,D++[.arr 65 [.agg (Z.map zy2)]]⟩)/\(Z.length=65/\53<=i/\i<=65/\v<36/\dgt v::Z.drop i=dig 13 u)/\tm.get 0=some d/\tm.get 1=some (.f (.raw (.int .u64 (v:Nat))))/\tm.get 3=some (zzr false)/\tm.get 4=some (zzr true)/\tm.get 10=some zyf/\tm.get 11=some (.f (.raw (.string ⟨#[]⟩)))/\tm.get 12=some (.ref D.length 0 0)/\tm.get 13=some (zze i):=by
  rw [<-hX];clear hX happ;generalize hs28:SD.mk _ _=sd28;revert sd28;refine wl (λp:Nat×Nat×List Nat=>⟨((((((((Trie.leaf.put 17 (.f (.raw (.int .u64 36)))).put 13 (zze (p.1:Nat))).put 12 (.ref D.length 0 0)).put 11 (.f (.raw (.string ⟨#[]⟩)))).put 10 zyf).put 4 (zzr true)).put 3 (zzr false)).put 1 (.f (.raw (.int .u64 (p.2.1:Nat))))).put 0 d,D++[.arr 65 [.agg (p.2.2.map zy2)]]⟩) (λp=>52<p.1/\p.1<=65/\p.2.2.length=65/\p.2.1<9223372036854775808/\p.2.1<36 ^ (p.1-52)/\dig (p.1-52) p.2.1++p.2.2.drop p.1=dig 13 u) (λp=>p.1) ?_ (65,u,Z0) ⟨by omega,by omega,by rw [hZ0];simp [-List.map_set],hu,tyf hu (show 9223372036854775808<=36 ^ 13 by decide),by rw [hZ0];simp [-List.map_set]⟩;rintro ⟨i,v,Z⟩ ⟨hf0,hf,hZl,hv64,hv,hdg⟩ ih;simp only at hf0 hf hZl hv64 hv hdg ih;rw [zzj];obtain ⟨f,hif⟩:∃ f,i-52=f+1:=⟨i-53,by omega⟩;rw [hif] at hv hdg;by_cases hlt:v<36
  .rw [yn4 hlt] at hdg;simp [-List.map_set,show ¬36<=(v:Int) by omega];refine ⟨_,Z,⟨rfl,rfl⟩,i,v,⟨hZl,by omega,by omega,hlt,hdg⟩,?_⟩;simp [-List.map_set]
  rw [xyy hlt] at hdg
  have hf1:0<f:=by
   cases f with
   | zero=>simp [-List.map_set] at hv;omega
   | succ f=>omega
  obtain ⟨j,rfl⟩:∃ j,i=j+1:=⟨i-1,by omega⟩;obtain ⟨q,hq⟩:∃ q,q=v / 36:=⟨_,rfl⟩;obtain ⟨m,hm⟩:∃ m,m=q*36:=⟨_,rfl⟩;obtain ⟨r,hr⟩:∃ r,r=v % 36:=⟨_,rfl⟩;rw [<-hq,<-hr] at hdg;have e1:∀ x y,zty Tryz.prog .quo 178 x y (.int .u64 (v:Nat)) (.int .u64 36)=some (.int .u64 (q:Nat)):=λx y=>by rw [hq];exact xoo (b:=36) (by omega) (by omega)
  have e2:∀ x y,zty Tryz.prog .mul 178 x y (.int .u64 (q:Nat)) (.int .u64 36)=some (.int .u64 (m:Nat)):=λx y=>by rw [hm];exact xop (b:=36) (by omega)
  have e3:∀ x y,zty Tryz.prog .sub 178 x y (.int .u64 (v:Nat)) (.int .u64 (m:Nat))=some (.int .u64 (r:Nat)):=λx y=>by rw [show r=v-m by omega];exact xoq (by omega) (by omega)
  have e4:=xrk (d:=r) (by omega);obtain ⟨Z2,hZ2⟩:∃ Z2,Z2=Z.take j++dgt r::Z.drop (j+1):=⟨_,rfl⟩;have hst:=ywx (Z:=Z) (j:=j) (n:=dgt r);rw [<-hZ2] at hst
  have ih':=ih (j,q,Z2) ⟨by simp only;omega,by simp only;omega,by rw [hZ2];simp only [tz5,tyw,tzd,tyx];omega,by simp only;omega,by simp only;rw [show j-52=f by omega,hq];rw [Nat.pow_succ] at hv;omega,by
   simp only
   rw [hZ2,show j-52=f by omega,List.drop_append_of_le_length (by rw [tyw];omega),tyy (by rw [tyw];omega),ty2,<-hdg]
   simp [-List.map_set]⟩ (by simp only;omega)
  simp [-List.map_set] at ih';have hjw:zvu .i64 (j:Int)=j:=zy9 (by omega) (by omega);simp [-List.map_set,hb,hbk,hOK,hdk,yww,hst,hZl,e1,e2,e3,e4,hjw,show (36:Int)<=v by omega,show (j:Int)+1-1=j by omega,show j<65 by omega,show j+1<=65 by omega];exact ih'
 clear hX;obtain ⟨j,rfl⟩:∃ j,i=j+1:=⟨i-1,by omega⟩;have e4:=xrk (d:=v) hv;obtain ⟨Z2,hZ2⟩:∃ Z2,Z2=Z.take j++dgt v::Z.drop (j+1):=⟨_,rfl⟩;have hst:=ywx (Z:=Z) (j:=j) (n:=dgt v);rw [<-hZ2] at hst;have hZ2l:Z2.length=65:=by rw [hZ2];simp only [tz5,tyw,tzd,tyx];omega
 have hd2:Z2.drop j=dig 13 u:=(by rw [hZ2,List.drop_append_of_le_length (by rw [tyw];omega),tyy (by rw [tyw];omega),ty2];exact hdg);have hjw:zvu .i64 (j:Int)=j:=zy9 (by omega) (by omega);have htf:ysm (Z2.map zy2)=some (Z2.map ysj):=yy2 λ_=>rfl;have hdf:List.map elD (List.drop j (List.map ysj Z2))=(dig 13 u).map zy2:=by rw [<-List.map_drop,hd2,List.map_map];rfl
 have hall:(List.map ysj Z2).all zrm=true:=by simp [-List.map_set,ysj,zrm,oneCell]
 have htk:List.take 65 (List.map ysj Z2)=List.map ysj Z2:=tzk (by simp [-List.map_set,hZ2l]);have hnew:((dig 13 u).map zy2).all (zrn 1)=true:=by simp [-List.map_set,zy2,zkm,zzd,zwz,zrm,oneCell]
 rw [zlk,if_pos hnew] at happ;have hby:zy2 0=DV.f (.raw (.int .u8 0)):=rfl;rw [hby] at happ;simp [-List.map_set,-List.all_map,-List.all_eq_true,hb,hbk,t0,t1,t3,t4,t10,t11,t12,t13,hZl,hZ2l,e4,hst,hjw,htf,hdf,hall,htk,hnew,happ,show (j:Int)+1-1=j by omega,show j<65 by omega,show j+1<=65 by omega]
 trace_state
end Go.Dv
namespace Go.Dv
open Go Go.Sim Go.Proofs Go.Fsa
attribute [local simp] zwo zxi zzn zz0 zz1 zya zzv zz5 zzf zz8 zz6 zzt zz4
theorem xl8 (d d':DV) (u:Nat) (hu:u<9223372036854775808) (base:Nat) (D D':DH) (hb:base<=D.length) (hob:(D.drop base).all (zza D.length)=true) (hd:below D.length d=true)
  (happ:apR (D++[.dead]) base d (some ⟨5,1,1,zy2 0⟩) true (some ((dig 13 u).map zy2))=some (.val d' D')) :
  zzg Q 155 [d,.f (.raw (.int .u64 (u:Nat))),zze 36] base D=some (d',D'):=by
 rw [zz2 (fn:=Tryz.f155) (show Q.P.funcs[155]? =some Tryz.f155 from Tryz.func155) rfl xwj rfl (by simp only [tzd,tze];decide) (by kernel_rfl)];have h:=xl7 d d' u hu base D D' hb hob hd happ;simp only [zze,zzr] at h;simp [-List.map_set,h]
theorem xl9 (d d':DV) (u:Nat) (hu:u<9223372036854775808) (base:Nat) (D D':DH) (hb:base<=D.length) (hob:(D.drop base).all (zza D.length)=true) (hd:below D.length d=true)
  (happ:apR (D++[.dead]) base d (some ⟨5,1,1,zy2 0⟩) true (some ((dig 13 u).map zy2))=some (.val d' D')) :
  zzg Q 143 [d,zze u,zze 36] base D=some (d',D'):=by
 rw [zz2 (fn:=Tryz.f143) (show Q.P.funcs[143]? =some Tryz.f143 from Tryz.func143) rfl xwi rfl (by simp only [tzd,tze];decide) (by kernel_rfl)];have h:=xl8 d d' u hu base D D' hb hob hd happ;simp only [zze,zzr] at h
 have hcv:∀ H,zx8 Tryz.prog H 2 178 (.int .i64 (u:Nat))=some (.int .u64 (u:Nat)):=λH=>by
  rw [zhi (j:=.i64) (k:=.u64) (by kernel_rfl) (by kernel_rfl)];show some (Value.int .u64 (Int.ofNat (u % 18446744073709551616)))=_;rw [txu (by omega)];rfl
 simp [-List.map_set,h,hcv,show ¬(u:Int)<0 by omega]
theorem xmi (d d':DV) (u:Nat) (hu:u<9223372036854775808) (base:Nat) (D D':DH) (hb:base<=D.length) (hob:(D.drop base).all (zza D.length)=true) (hd:below D.length d=true)
  (happ:apR (D++[.dead]) base d (some ⟨5,1,1,zy2 0⟩) true (some ((dig 13 u).map zy2))=some (.val d' D')) :
  zzg Q 131 [d,zze u,zze 36] base D=some (d',D'):=by
 rw [zz2 (fn:=Tryz.f131) (show Q.P.funcs[131]? =some Tryz.f131 from Tryz.func131) rfl xwh rfl (by simp only [tzd,tze];decide) (by kernel_rfl)];have h:=xl9 d d' u hu base D D' hb hob hd happ;simp only [zze,zzr] at h;simp [-List.map_set,h]
end Go.Dv
namespace Go.Dv
open Go Go.Sim Go.Proofs Go.Fsa
attribute [local simp] zwo zxi zzn zz0 zz1 zya zzv zz5 zzf zz8 zz6 zzt zz4
theorem zzq {l:List UInt8}:zud (.raw (zxf l))=.raw (zxf l):=rfl
attribute [local simp] zzq
theorem zwc {L n:Nat}:below L (zy2 n)=true:=xr3
attribute [local simp] zwc
theorem zzc {D X:DH} {o:Nat} {x:DObj} (h:D[o]? =some x):(D++X)[o]? =some x:=by
 rw [tzs (zyr h)];exact h
structure MachAt (D:DH) (o1 om oa on:Nat) (x y:DV) (m:Aut):Prop where
 box:D[o1]? =some (.arr 1 [.ref om 0 0])
 mach:D[om]? =some (.arr 5 [.agg [zze m.sy,.apl oa m.acc.length,.apl on m.acc.length,x,y]])
 acc:D[oa]? =some (.app 4 1 (m.acc.map zz8))
 nxt:D[on]? =some (.app 26 1 (m.nxt.map zyq))
theorem MachAt.app {D X:DH} {o1 om oa on:Nat} {x y:DV} {m:Aut} (h:MachAt D o1 om oa on x y m):MachAt (D++X) o1 om oa on x y m:=⟨zzc h.1,zzc h.2,zzc h.3,zzc h.4⟩
def yec (l:List Nat):DV:=zyq (l.map λc:Nat=>(c:Int))
theorem zo0:∀ {l:List Nat},zuc (l.map zy2)=some (l.map UInt8.ofNat)
 | []=>rfl
 | x::l=>by
  show (zuc (l.map zy2)).map (UInt8.ofNat x::·)=_;rw [zo0 (l:=l)];rfl
noncomputable def xrl (m:Aut) (lv:List Bool) (cl:List Nat) (i:Nat):DV:=rv (zxf ((zvs lv m.nxt cl i).map UInt8.ofNat))
theorem xka (m:Aut) (hm:m.fine) (hsy:m.sy<=400) (lv:List Bool) (hlv:lv.length=m.acc.length) (cl:List Nat) (hcl:cl.length=m.acc.length) (hcb:∀ c∈cl,c<1000000) (i:Nat) (hi:i<m.acc.length)
  (o1 om oa on o5 ol:Nat) (x y:DV) (base:Nat) (D:DH) (hM:MachAt D o1 om oa on x y m) (h5:D[o5]? =some (.arr 1 [.row ol 0 m.acc.length m.acc.length])) (hl:D[ol]? =some (.arr 1 (lv.map zz8))) :
  zzg Q 130 [yec cl,zze i,.ref o5 0 0,.ref o1 0 0] base D=some (xrl m lv cl i,D):=by
 rw [zzb (fn:=Tryz.f130) (show Q.P.funcs[130]? =some Tryz.f130 from Tryz.func130) rfl xwg rfl (by simp only [tzd,tze];decide) (by kernel_rfl)];obtain ⟨b,hb⟩:∃ b,lv[i]? =some b:=⟨_,tzb (by omega)⟩;obtain ⟨cI,hcI⟩:∃ l,l=cl.map λc:Nat=>(c:Int):=⟨_,rfl⟩;have hcg:∀ j c:Nat,cl[j]? =some c->cI[j]? =some (c:Int):=λj c h=>by rw [hcI,tzr,h];rfl
 have ho5:∀ k,o5<D.length+k:=λk=>by have:=zyr h5;omega
 unfold yec;rw [<-hcI];cases b with
 | false=>
  have e:xrl m lv cl i=rv (zxf [45]):=by unfold xrl zvs;rw [if_neg (by rw [hb];simp [-getElem?_pos,-List.map_set])];rfl
  rw [e];simp [-getElem?_pos,-List.map_set,h5,hl,hb,hi];rfl
 | true=>
  obtain ⟨c,hc⟩:∃ c,cl[i]? =some c:=⟨_,tzb (by omega)⟩;obtain ⟨r,hr,hrl,hrg⟩:=yxb hm hi;have hcc:=hcb c (tzg hc)
  have h131:=xmi zyf (.apl (D.length+1) (dig 13 c).length) c (by omega) D.length D (D++[.dead,.app 5 1 ((dig 13 c).map zy2)]) (tzp _) (by simp [-getElem?_pos,-List.map_set]) rfl (by
   have hnew:((dig 13 c).map zy2).all (zrn 1)=true:=by simp [-getElem?_pos,-List.map_set,zy2,zkm,zzd,zwz,zrm,oneCell]
   have:=zku (f:=13) (u:=c)
   rw [zlk,if_pos hnew,ydd,if_pos (by rw [ydg];simp [-getElem?_pos,-List.map_set];omega)]
   simp [-getElem?_pos,-List.map_set])
  simp only [zze] at h131;obtain ⟨fo,hfo⟩:∃ fo:Int->Option Nat,fo=λt=>if 0<=t/\lv[t.toNat]? =some true then some ((cl[t.toNat]?).getD 0) else none:=⟨_,rfl⟩
  have hkey:zvs lv m.nxt cl i=dig 13 c++((r.map fo).map zsy).flatten:=(by unfold zvs;rw [if_pos hb,hc,hr,hfo];rfl);obtain ⟨sy,hsy'⟩:∃ sy:Nat,m.sy=sy:=⟨m.sy.toNat,by omega⟩;rw [hsy'] at hrl hsy;have hrl':r.length=sy:=by omega
  obtain ⟨B0,hB0⟩:∃ B,B=dig 13 c:=⟨_,rfl⟩;rw [<-hB0] at h131;have g5:∀ X,(D++X)[o5]? =some (.arr 1 [.row ol 0 m.acc.length m.acc.length]):=λX=>zzc h5;have gl:∀ X,(D++X)[ol]? =some (.arr 1 (lv.map zz8)):=λX=>zzc hl;have gM:=λX=>hM.app (X:=X);have hc':=hcg _ _ hc;simp [-getElem?_pos,-List.map_set,ho5,h5,hl,hb,hi,hc',h131,(gM _).1,(gM _).2,(gM _).3,(gM _).4,hr,hm.len,hrl'];generalize hX:zxj _ _ _=X
  obtain ⟨tm,B,rfl,hB,t7⟩:∃ (tm:Trie DV) (B:List Nat),X=some (.exit 0,⟨tm,D++[.dead,.app 5 1 (B.map zy2)]⟩)/\B=zvs lv m.nxt cl i/\tm.get 7=some (.apl (D.length+1) B.length):=by
   rw [<-hX];clear hX;generalize hs29:SD.mk _ _=sd29;revert sd29;refine wl (λp:Nat×List Nat=>⟨((((((Trie.leaf.put 28 (zze p.1)).put 27 (zze sy)).put 26 (zyq r)).put 7 (.apl (D.length+1) p.2.length)).put 2 (.ref o5 0 0)).put 0 (zyq cI)),D++[.dead,.app 5 1 (p.2.map zy2)]⟩) (λp=>p.1<=sy/\p.2=dig 13 c++(((r.take p.1).map fo).map zsy).flatten) (λp=>sy-p.1) ?_ (0,B0) ⟨tz6 _,by rw [hB0];simp [-getElem?_pos,-List.map_set]⟩;rintro ⟨k,B⟩ ⟨hk,hB⟩ ih;simp only at hk hB ih;rw [zzj];have hBl:B.length<=14+14*k:=(by rw [hB,tz5];have h1:=zku (f:=13) (u:=c);have h2:=yy9 (l:=(r.take k).map fo);simp only [tyk,tyw] at h2;omega);by_cases hks:k<sy
   case neg=>
    have hk':k=sy:=by omega
    subst hk';rw [tzk (by omega),<-hkey] at hB;simp [-getElem?_pos,-List.map_set];refine ⟨_,B,⟨rfl,rfl⟩,hB,?_⟩;simp [-getElem?_pos,-List.map_set]
   obtain ⟨t,ht⟩:∃ t,r[k]? =some t:=⟨_,tzb (by omega)⟩;have hrt:=(hm.rows r (tzg hr)).2 t (tzg ht)
   have hnx:∀ o,fo t=o->B++zsy o=dig 13 c++(((r.take (k+1)).map fo).map zsy).flatten:=λo ho=>by
    rw [hB,tz8,ht];simp [-getElem?_pos,-List.map_set,ho]
   have hww:=zzi (show k+1<=9223372036854775807 by omega);by_cases hlt:0<=t/\lv[t.toNat]? =some true
   .obtain ⟨t,rfl⟩:∃ u:Nat,t=u:=⟨t.toNat,by omega⟩;rw [tym] at hlt;obtain ⟨c2,hc2⟩:∃ c,cl[t]? =some c:=⟨_,tzb (by omega)⟩;have hcc2:=hcb c2 (tzg hc2);have hdl:=zku (f:=13) (u:=c2);obtain ⟨N2,hN2⟩:∃ N,N=dig 13 c2:=⟨_,rfl⟩;have hnew:(N2.map zy2).all (zrn 1)=true:=by simp [-getElem?_pos,-List.map_set,zy2,zkm,zzd,zwz,zrm,oneCell]
    have hft:fo t=some c2:=by rw [hfo];simp only;rw [if_pos (by rw [tym];exact hlt),tym,hc2];rfl
    have happ:apR ((D++[.dead,.app 5 1 (B.map zy2++[.f (.raw (.int .u8 32))]),.arr 1 [.f (.raw (.int .u8 32))]])++[.dead]) D.length (.apl (D.length+1) (B.length+1)) (some ⟨5,1,1,zy2 0⟩) true (some ((dig 13 c2).map zy2))=some (.val (.apl (D.length+1) (B.length+1+N2.length)) (D++[.dead,.app 5 1 (B.map zy2++[.f (.raw (.int .u8 32))]++N2.map zy2),.arr 1 [.f (.raw (.int .u8 32))],.dead])):=(by rw [<-hN2,zlk,if_pos hnew];rw [<-hN2] at hdl;simp [-getElem?_pos,-List.map_set,show B.length+1+N2.length<=1099511627776 by omega]);have h2:=xmi (.apl (D.length+1) (B.length+1)) _ c2 (by omega) D.length (D++[.dead,.app 5 1 (B.map zy2++[.f (.raw (.int .u8 32))]),.arr 1 [.f (.raw (.int .u8 32))]]) _ (by simp [-getElem?_pos,-List.map_set]) (by simp [-getElem?_pos,-List.map_set,zy2]) (by simp [-getElem?_pos,-List.map_set]) happ;simp only [zze] at h2;have ih':=ih (k+1,(B++[32])++N2) ⟨by simp only;omega,by simp only;rw [<-hnx _ hft,hN2,tyd];rfl⟩ (by simp only;omega);simp [-getElem?_pos,-List.map_set] at ih';have hc2':=hcg _ _ hc2;simp [-getElem?_pos,-List.map_set,ho5,hks,ht,hc2',h2,g5,gl,hlt.2,show t<m.acc.length by omega,show B.length+1<=1099511627776 by omega,show B.length<=1099511627775 by omega,hww];simp only [zy2] at ih';rw [show B.length+1+N2.length=B.length+(N2.length+1) by omega];exact ih'
   .have hft:fo t=none:=by rw [hfo];simp only;rw [if_neg hlt]
    have ih':=ih (k+1,B++[32]) ⟨by simp only;omega,by simp only;rw [<-hnx _ hft];rfl⟩ (by simp only;omega);simp [-getElem?_pos,-List.map_set] at ih';by_cases ht0:0<=t
    .obtain ⟨t,rfl⟩:∃ u:Nat,t=u:=⟨t.toNat,by omega⟩;obtain ⟨b,hbt⟩:∃ b,lv[t]? =some b:=⟨_,tzb (by omega)⟩;cases b with
     | true=>exact absurd ⟨ht0,by rw [tym];exact hbt⟩ hlt
     | false=>
      simp [-getElem?_pos,-List.map_set,ho5,hks,ht,hbt,g5,gl,show t<m.acc.length by omega,show B.length+1<=1099511627776 by omega,show B.length<=1099511627775 by omega,hww];exact ih'
    .simp [-getElem?_pos,-List.map_set,ho5,hks,ht,ht0,show B.length+1<=1099511627776 by omega,show B.length<=1099511627775 by omega,hww];exact ih'
  clear hX;have hfin:xrl m lv cl i=rv (zxf (B.map UInt8.ofNat)):=by unfold xrl;rw [hB]
  rw [hfin];simp [-getElem?_pos,-List.map_set,t7,zo0]
  trace_state
end Go.Dv
namespace Go.Dv
open Go Go.Sim Go.Proofs Go.Fsa
attribute [local simp] zwo zxi zzn zz0 zz1 zya zzv zz5 zzf zz8 zz6 zzt zz4 zzq zwc
theorem xnh:KeyD Tryz.prog 9 zxf:=xxy (by kernel_rfl)
abbrev ykd (p:Bool×Bool):Value:=.agg #[.bool p.1,.bool p.2]
theorem xrm:KeyD Tryz.prog 153 ykd:=by
 refine ⟨λks x=>?_⟩;have hs:∀ k,zyj (ykd k)=true:=λ⟨a,b⟩=>by cases a<;>cases b<;>rfl
 have he:∀ k y,ziq Tryz.prog 153 (ykd k) (ykd y)=some (decide (k=y)):=λ⟨a,b⟩ ⟨c,d⟩=>by cases a<;>cases b<;>cases c<;>cases d<;>kernel_rfl
 have h1:∀ k es,zx0 Tryz.prog 153 (ykd k) es=zti Tryz.prog 153 (ykd k) es 0:=λ⟨a,b⟩ es=>by
  cases a<;>cases b<;>kernel_rfl
 rw [h1,zsu hs he];cases List.findIdx? (λy=>decide (x=y)) ks<;>rfl
theorem xkb (m:Aut) (lv:List Bool) (hlv:lv.length=m.acc.length) (i:Nat) (hi:i<m.acc.length) (o1 om oa on o5 ol:Nat) (x y:DV) (base:Nat) (D:DH) (hM:MachAt D o1 om oa on x y m)
  (h5:D[o5]? =some (.arr 1 [.row ol 0 m.acc.length m.acc.length])) (hl:D[ol]? =some (.arr 1 (lv.map zz8))) :
  ∃ b b',lv[i]? =some b/\m.acc[i]? =some b'/\zzg Q 129 [zze i,.ref o5 0 0,.ref o1 0 0] base D=some (.agg [zz8 b,zz8 b'],D):=by
 obtain ⟨b,hb⟩:∃ b,lv[i]? =some b:=⟨_,tzb (by omega)⟩;obtain ⟨b',hb'⟩:∃ b,m.acc[i]? =some b:=⟨_,tzb hi⟩;refine ⟨b,b',hb,hb',?_⟩;rw [zzb (fn:=Tryz.f129) (show Q.P.funcs[129]? =some Tryz.f129 from Tryz.func129) rfl yew rfl (by simp only [tzd,tze];decide) (by kernel_rfl)];have gp:=xqi;simp [yew,Tryz.f129,zym] at gp;have g5:∀ X,(D++X)[o5]? =some (.arr 1 [.row ol 0 m.acc.length m.acc.length]):=λX=>zzc h5;have gl:∀ X,(D++X)[ol]? =some (.arr 1 (lv.map zz8)):=λX=>zzc hl;have gM:=λX=>hM.app (X:=X);simp [-getElem?_pos,-List.map_set,gp,g5,gl,(gM _).1,(gM _).2,(gM _).3,(gM _).4,hb,hb',hi]
 trace_state
theorem xkc (ks:List (List UInt8)) (k:List UInt8) (o base:Nat) (D:DH) (hb:base<=o) (ho:D[o]? =some (.map (ks.map zxf) ((yy3 ks.length).map zzf))) (hn:ks.length<1000000) :
  zzg Q 142 [.mp o,rv (zxf k)] base D=some (zze (zwe ks k),D.set o (.map ((zrv ks k).map zxf) ((yy3 (zrv ks k).length).map zzf))):=by
 rw [zz2 (fn:=Tryz.f142) (show Q.P.funcs[142]? =some Tryz.f142 from Tryz.func142) rfl xwf rfl (by simp only [tzd,tze];decide) (by kernel_rfl)];have hol:=zyr ho;by_cases hm:k∈ks
 .have hf:zx0 Tryz.prog 9 (zxf k) (zwl (ks.map zxf))=some (some (zwe ks k)):=(xnh.find ks k).trans (by rw [zq2 hm]);have hg:(yy3 ks.length)[zwe ks k]? =some (zwe ks k:Int):=yy4 (znd hm);unfold zrv;rw [if_pos hm,yh8 ho];simp [-List.map_set,ho,hf,hg]
  trace_state
 have hf:zx0 Tryz.prog 9 (zxf k) (zwl (ks.map zxf))=some none:=(xnh.find ks k).trans (by rw [zoc hm]);unfold zrv;rw [if_neg hm,tz5,tzd,tze,ze4,txk,txk,zsv hm];simp [-List.map_set,ho,hf,hb]
 trace_state
end Go.Dv
namespace Go.Dv
open Go Go.Sim Go.Proofs Go.Fsa
attribute [local simp] zwo zxi zzn zz0 zz1 zya zzv zz5 zzf zz8 zz6 zzt zz4 zzq zwc
theorem zxu {K:Type} [DecidableEq K]:∀ {l ks:List K} {k:K},zzp ks (l++[k])=((zzp ks l).1++[zwe (zzp ks l).2 k],zrv (zzp ks l).2 k)
 | [],ks,k=>rfl
 | x::l,ks,k=>by simp only [txo,zzp,zxu (l:=l)]
theorem zh4 {α:Type} {n i:Nat} (h:i<n) {f:Nat->α}:((List.range n).map f).take (i+1)=((List.range n).map f).take i++[f i]:=by
 rw [tz8,tzr,tz7 h];rfl
theorem zt9 {K:Type} [DecidableEq K] {l ks:List K}:(zzp ks l).2.length<=ks.length+l.length:=by
 induction l generalizing ks with
 | nil=>simp [-List.map_set,zzp]
 | cons k l ih=>
  have:=ih (ks:=zrv ks k);have h2:(zrv ks k).length<=ks.length+1:=by unfold zrv;split<;>simp [-List.map_set]
  simp only [zzp,tzd];omega
theorem xkd (n:Nat) (hn:n<=200000) (b:Nat->Bool×Bool) (key:List Nat->Nat->List UInt8) (clF:List Nat) (F0:Nat) (g1 g2:FuncId) (a1 b1 a2 b2:List DV) (base:Nat) (D:DH)
  (ha1:zzo D.length a1=true) (hb1:zzo D.length b1=true) (ha2:zzo D.length a2=true) (hb2:zzo D.length b2=true)
  (h1:∀ (X:DH) (i:Nat),i<n->zzg Q g1 (a1++[zze i]++b1) D.length (D++X)=some (.agg [zz8 (b i).1,zz8 (b i).2],D++X))
  (h2:∀ (X:DH) (cl:List Nat) (i:Nat),cl.length=n->(∀ c∈cl,c<n)->i<n->zzg Q g2 (a2++[yec cl,zze i]++b2) D.length (D++X)=some (rv (zxf (key cl i)),D++X))
  (hF:yn2 (λcl=>(List.range n).map (key cl)) F0 (zzp [] ((List.range n).map b)).2.length (zzp [] ((List.range n).map b)).1=some clF) :
  zzg Q 128 [zze n,.fn g1 a1 b1,.fn g2 a2 b2] base D=some (yec clF,D):=by
 rw [zzb (fn:=Tryz.f128) (show Q.P.funcs[128]? =some Tryz.f128 from Tryz.func128) rfl xwe rfl (by simp only [tzd,tze];decide) (by kernel_rfl)];have hbl:∀ k,zzo (D.length+k) a1=true/\zzo (D.length+k) b1=true/\zzo (D.length+k) a2=true/\zzo (D.length+k) b2=true:=λk=>⟨(zy8 (tyt _ _)).2 a1 ha1,(zy8 (tyt _ _)).2 b1 hb1,(zy8 (tyt _ _)).2 a2 ha2,(zy8 (tyt _ _)).2 b2 hb2⟩;obtain ⟨W0,hW0⟩:∃ L:List Int,L=List.replicate n 0:=⟨_,rfl⟩;simp [-List.map_set,hbl,show n*8<=140737488355328 by omega,show n<9223372036854775808 by omega];rw [zn0,<-hW0];obtain ⟨K0,hK0⟩:∃ K,K=(List.range n).map b:=⟨_,rfl⟩;rw [<-hK0] at hF;have hK0l:K0.length=n:=by rw [hK0];simp [-List.map_set]
 obtain ⟨C0,hC0⟩:∃ C,C=(zzp [] K0).1.map λc:Nat=>(c:Int):=⟨_,rfl⟩;have hC0l:C0.length=n:=by rw [hC0,tyk,zxm,hK0l]
 generalize hX:zxj _ _ _=X
 obtain ⟨tm,rfl,t0,t2,t7,t8,t9⟩:∃ (tm:Trie DV),X=some (.exit 0,⟨tm,D++[.arr 1 (C0.map zzf),.map ((zzp [] K0).2.map ykd) ((yy3 (zzp [] K0).2.length).map zzf)]⟩)/\tm.get 0=some (zze n)/\tm.get 2=some (.fn g2 a2 b2)/\tm.get 7=some (.fn 142 [] [])/\tm.get 8=some (.row D.length 0 n n)/\tm.get 9=some (.mp (D.length+1)):=by
  rw [<-hX];clear hX hF;generalize hs30:SD.mk _ _=sd30;revert sd30;refine wl (λp:Nat×List Int×List (Bool×Bool)=>⟨(((((((Trie.leaf.put 22 (zze p.1)).put 21 (zze n)).put 9 (.mp (D.length+1))).put 8 (.row D.length 0 n n)).put 7 (.fn 142 [] [])).put 2 (.fn g2 a2 b2)).put 1 (.fn g1 a1 b1)).put 0 (zze n),D++[.arr 1 (p.2.1.map zzf),.map (p.2.2.map ykd) ((yy3 p.2.2.length).map zzf)]⟩) (λp=>p.1<=n/\p.2.1.length=n/\p.2.1.take p.1=((zzp [] (K0.take p.1)).1.map λc:Nat=>(c:Int))/\p.2.2=(zzp [] (K0.take p.1)).2) (λp=>n-p.1) ?_ (0,W0,[]) ⟨tz6 _,by simp [-List.map_set,hW0],rfl,rfl⟩;rintro ⟨i,W,ks⟩ ⟨hi,hWl,hW,hks⟩ ih;simp only at hi hWl hW hks ih;rw [zzj];by_cases hlt:i<n
  case neg=>
   have hi':i=n:=by omega
   subst hi';rw [tzk (by omega),tzk (by omega)] at hW;rw [tzk (by omega)] at hks;rw [<-hC0] at hW;subst hW hks;simp [-List.map_set]
  obtain ⟨w0,hw0⟩:∃ x,W[i]? =some x:=⟨_,tzb (by omega)⟩
  have hset:∀ v,(W.set i v).take (i+1)=W.take i++[v]:=λv=>by
   rw [tz8,txx (tzp _),tz1 (by omega)];rfl
  have hww:=zzi (show i+1<=9223372036854775807 by omega);have h1':=λX=>h1 X i hlt;simp only [zze,zz8,tyd,txo,ty2] at h1';have hKt:K0.take (i+1)=K0.take i++[b i]:=by rw [hK0];exact zh4 hlt
  have hksl:ks.length<=i:=(by rw [hks];have:=zt9 (ks:=[]) (l:=K0.take i);simp only [tze,tyw] at this;omega);have hfnd:=xrm.find ks (b i);simp only [ykd] at hfnd;by_cases hm:b i∈ks
  .rw [zq2 hm] at hfnd;obtain ⟨c,hc⟩:∃ c,c=zwe ks (b i):=⟨_,rfl⟩;have hcl:c<ks.length:=by rw [hc];exact znd hm
   rw [<-hc] at hfnd;have hg:=yy4 hcl;have ih':=ih (i+1,W.set i (c:Int),ks) ⟨by simp only;omega,by simp only [tz3];exact hWl,by simp only;rw [hset,hKt,zxu,hW,txk,<-hks,hc];rfl,by simp only;rw [hKt,zxu,<-hks];unfold zrv;rw [if_pos hm]⟩ (by simp only;omega);simp [-List.map_set] at ih';simp [-List.map_set,hbl,h1',hlt,hw0,hWl,hww,hfnd,hg];exact ih'
  .rw [zoc hm] at hfnd;have ih':=ih (i+1,W.set i (ks.length:Int),ks++[b i]) ⟨by simp only;omega,by simp only [tz3];exact hWl,by simp only;rw [hset,hKt,zxu,hW,txk,<-hks,zsv hm];rfl,by simp only;rw [hKt,zxu,<-hks];unfold zrv;rw [if_neg hm]⟩ (by simp only;omega);simp only [tz5,tzd,tze,ze4] at ih';simp [-List.map_set] at ih';simp [-List.map_set,hbl,h1',hlt,hw0,hWl,hww,hfnd];exact ih'
 clear hX;obtain ⟨OM,hOM⟩:∃ O,O=DObj.map ((zzp [] K0).2.map ykd) ((yy3 (zzp [] K0).2.length).map zzf):=⟨_,rfl⟩;have hOMl:lnM (some OM)=some (rv (zlt (zzp [] K0).2.length)):=by rw [hOM,yos,tyk]
 have hOMb:∀ k,zza (D.length+k) OM=true:=λk=>by rw [hOM];simp [-List.map_set]
 have htk:List.take n (C0.map zzf)=C0.map zzf:=tzk (by simp [-List.map_set,hC0l])
 have hc0:∀ c∈(zzp [] K0).1,c<n:=λc hc=>by
  obtain ⟨i,hi,rfl⟩:=tyn hc;have h:=zkt (l:=K0) (i:=i) (a:=(zzp [] K0).1[i]) (tzb hi);have:=zt9 (ks:=[]) (l:=K0);simp only [tze] at this;omega
 rw [<-hOM];obtain ⟨c0,hcc0⟩:∃ c,c=(zzp [] K0).1:=⟨_,rfl⟩;rw [<-hcc0] at hF hc0 hC0;have hc0l:c0.length=n:=by rw [hcc0,zxm,hK0l]
 obtain ⟨cn0,hcn0⟩:∃ c,c=(zzp [] K0).2.length:=⟨_,rfl⟩;rw [<-hcn0] at hF hOMl;simp [-List.map_set,hbl,hOMb,t0,t2,t7,t8,t9,hC0l,htk,hOMl];clear t0 t2 t7 t8 t9 tm hOM;generalize hX:zxj _ _ _=X
 obtain ⟨tm,E,rfl,t6⟩:∃ (tm:Trie DV) (E:DH),X=some (.ret,⟨tm,D++E⟩)/\tm.get 6=some (yec clF):=by
  rw [<-hX];clear hX;generalize hs31:SD.mk _ _=sd31;revert sd31;refine wl (λp:Nat×Nat×List Nat×List Int=>⟨((((Trie.leaf.put 14 (zze p.2.1)).put 8 (zyq p.2.2.2)).put 7 (.fn 142 [] [])).put 2 (.fn g2 a2 b2)).put 0 (zze n),D++[.dead,OM]⟩) (λp=>p.2.2.1.length=n/\(∀ c∈p.2.2.1,c<n)/\p.2.2.2=(p.2.2.1.map λc:Nat=>(c:Int))/\yn2 (λcl=>(List.range n).map (key cl)) p.1 p.2.1 p.2.2.1=some clF) (λp=>p.1) ?_ (F0,cn0,c0,C0) ⟨hc0l,hc0,hC0,hF⟩;clear hF hC0l htk hc0 hC0;rintro ⟨F,cnt,cl,cI⟩ ⟨hcl,hcb,hcI,hF⟩ ihM;simp only at hcl hcb hcI hF ihM;rw [zzj]
  obtain ⟨F,rfl⟩:∃ F',F=F'+1:=by
   cases F with
   | zero=>simp [-List.map_set,yn2] at hF
   | succ F=>exact ⟨F,rfl⟩
  simp only [yn2] at hF;obtain ⟨Kc,hKc⟩:∃ K,K=(List.range n).map (key cl):=⟨_,rfl⟩;rw [<-hKc] at hF;have hKl:Kc.length=n:=by rw [hKc];simp [-List.map_set]
  obtain ⟨W0,hW0⟩:∃ L:List Int,L=List.replicate n 0:=⟨_,rfl⟩;simp [-List.map_set,hbl,hOMb,show n*8<=140737488355328 by omega,show n<9223372036854775808 by omega];rw [zn0,<-hW0];obtain ⟨C1,hC1⟩:∃ C,C=(zzp [] Kc).1.map λc:Nat=>(c:Int):=⟨_,rfl⟩;have hC1l:C1.length=n:=by rw [hC1,tyk,zxm,hKl]
  generalize hX:zxj _ _ _=X
  obtain ⟨tm,ks,rfl,hks,t0,t2,t7,t14,t15,t16⟩:∃ (tm:Trie DV) (ks:List (List UInt8)),X=some (.exit 4,⟨tm,D++[.dead,OM,.arr 1 (C1.map zzf),.map (ks.map zxf) ((yy3 ks.length).map zzf)]⟩)/\ks=(zzp [] Kc).2/\tm.get 0=some (zze n)/\tm.get 2=some (.fn g2 a2 b2)/\tm.get 7=some (.fn 142 [] [])/\tm.get 14=some (zze cnt)/\tm.get 15=some (.row (D.length+2) 0 n n)/\tm.get 16=some (.mp (D.length+3)):=by
   rw [<-hX];clear hX hF ihM;generalize hs32:SD.mk _ _=sd32;revert sd32;refine wl (λp:Nat×List Int×List (List UInt8)=>⟨((((((((Trie.leaf.put 52 (zze p.1)).put 51 (zze n)).put 16 (.mp (D.length+3))).put 15 (.row (D.length+2) 0 n n)).put 14 (zze cnt)).put 8 (zyq cI)).put 7 (.fn 142 [] [])).put 2 (.fn g2 a2 b2)).put 0 (zze n),D++[.dead,OM,.arr 1 (p.2.1.map zzf),.map (p.2.2.map zxf) ((yy3 p.2.2.length).map zzf)]⟩) (λp=>p.1<=n/\p.2.1.length=n/\p.2.1.take p.1=((zzp [] (Kc.take p.1)).1.map λc:Nat=>(c:Int))/\p.2.2=(zzp [] (Kc.take p.1)).2) (λp=>n-p.1) ?_ (0,W0,[]) ⟨tz6 _,by simp [-List.map_set,hW0],rfl,rfl⟩;rintro ⟨i,W,ks⟩ ⟨hi,hWl,hW,hks⟩ ih;simp only at hi hWl hW hks ih;rw [zzj];by_cases hlt:i<n
   case neg=>
    have hi':i=n:=by omega
    subst hi';rw [tzk (by omega),tzk (by omega)] at hW;rw [tzk (by omega)] at hks;rw [<-hC1] at hW;subst hW;simp [-List.map_set];refine ⟨_,ks,⟨rfl,rfl,rfl⟩,hks,?_⟩;simp [-List.map_set]
   obtain ⟨w0,hw0⟩:∃ x,W[i]? =some x:=⟨_,tzb (by omega)⟩
   have hset:∀ v,(W.set i v).take (i+1)=W.take i++[v]:=λv=>by
    rw [tz8,txx (tzp _),tz1 (by omega)];rfl
   have hww:=zzi (show i+1<=9223372036854775807 by omega);have h2':=λX=>h2 X cl i hcl hcb hlt;unfold yec at h2';rw [<-hcI] at h2';simp only [zze,zyq,zx2,tyd,txo,ty2] at h2';have hKt:Kc.take (i+1)=Kc.take i++[key cl i]:=by rw [hKc];exact zh4 hlt
   have hksl:ks.length<=i:=(by rw [hks];have:=zt9 (ks:=[]) (l:=Kc.take i);simp only [tze,tyw] at this;omega);have h142:=xkc ks (key cl i) (D.length+3) D.length (D++[.dead,OM,.arr 1 (W.map zzf),.map (ks.map zxf) ((yy3 ks.length).map zzf)]) (by omega) (by simp [-List.map_set]) (by omega);simp only [zze] at h142;obtain ⟨k2,hk2⟩:∃ K,K=zrv ks (key cl i):=⟨_,rfl⟩;obtain ⟨c,hc⟩:∃ c,c=zwe ks (key cl i):=⟨_,rfl⟩;rw [<-hk2,<-hc] at h142;have ih':=ih (i+1,W.set i (c:Int),k2) ⟨by simp only;omega,by simp only [tz3];exact hWl,by simp only;rw [hset,hKt,zxu,hW,txk,<-hks,hc];rfl,by simp only;rw [hKt,zxu,<-hks];exact hk2⟩ (by simp only;omega);simp [-List.map_set] at ih';simp [-List.map_set,hbl,hOMb,h2',h142,hlt,hw0,hWl,hww];exact ih'
  clear hX;have htk:List.take n (C1.map zzf)=C1.map zzf:=tzk (by simp [-List.map_set,hC1l]);have hksl:=congrArg List.length hks;rw [<-hksl] at hF;by_cases he:ks.length=cnt
  .rw [if_pos he,tza] at hF;subst hF;unfold yec;rw [<-hC1];simp [-List.map_set,hbl,hOMb,t0,t2,t7,t14,t15,t16,htk,hC1l,he]
  rw [if_neg he] at hF
  have ih':=ihM (F,ks.length,(zzp [] Kc).1,C1) ⟨by simp only;rw [zxm,hKl],λc hc=>by
   simp only at hc
   obtain ⟨i,hi,rfl⟩:=tyn hc
   have h:=zkt (l:=Kc) (i:=i) (a:=(zzp [] Kc).1[i]) (tzb hi)
   have:=zt9 (ks:=[]) (l:=Kc)
   simp only [tze] at this;omega,hC1,hF⟩ (by simp only;omega)
  simp [-List.map_set] at ih';simp [-List.map_set,hbl,hOMb,t0,t2,t7,t14,t15,t16,htk,hC1l,he];exact ih'
 simp [-List.map_set,t6,yec]
end Go.Dv
namespace Go.Dv
open Go Go.Sim Go.Proofs Go.Fsa
attribute [local simp] zwo zxi zzn zz0 zz1 zya zzv zz5 zzf zz8 zz6 zzt zz4 zzq zwc
def zuu (o:Nat) (B:List (List Int)):List DV:=(List.range B.length).map λi=>.apl (o+(i+1)) ((B[i]?).getD []).length
def zvk (B:List (List Int)):DH:=B.map λl=>.app 3 1 (l.map zzf)
theorem zfz {o:Nat} {B:List (List Int)}:(zuu o B).length=B.length:=by simp [-List.map_set,zuu]
theorem ywy {B:List (List Int)}:(zvk B).length=B.length:=by simp [-List.map_set,zvk]
theorem ywz {o i:Nat} {B:List (List Int)} {l:List Int} (h:B[i]? =some l):(zuu o B)[i]? =some (.apl (o+(i+1)) l.length):=by
 unfold zuu;rw [tzr,tz7 (zzy h),tz2,h];rfl
theorem yw0 {i:Nat} {B:List (List Int)} {l:List Int} (h:B[i]? =some l):(zvk B)[i]? =some (.app 3 1 (l.map zzf)):=by
 unfold zvk;rw [tzr,h];rfl
theorem yed {o i:Nat} {B:List (List Int)} {l:List Int} (h:i<B.length):(zuu o B).set i (.apl (o+(i+1)) l.length)=zuu o (B.set i l):=by
 refine ty8 λj=>?_;rw [tya];unfold zuu;rw [tz3,tyk,List.length_range,tzr,tzr];split
 .rename_i e;subst e;rw [tz7 h,tz2,tz1 h]
  try rw [if_pos h]
  rfl
 rename_i e;rcases tz9 j B.length with g | g
 .rw [tz7 g,tz2,tz2,tz4 e]
 rw [tzt (by simpa [-List.map_set] using g)];rfl
theorem yee {i:Nat} {B:List (List Int)} {l:List Int}:(zvk B).set i (.app 3 1 (l.map zzf))=zvk (B.set i l):=by
 unfold zvk;exact zb8 (f:=λl:List Int=>DObj.app 3 1 (l.map zzf))
theorem ylu {g:DV->Option (FV×List Nat)}:∀ {l:List DV} {xs:List FV},xs.length=l.length->(∀ (i:Nat) d x,l[i]? =some d->xs[i]? =some x->∃ is,g d=some (x,is))->∃ is,zsq g l=some (xs,is)
 | [],[],_,_=>⟨[],rfl⟩
 | [],_::_,h,_=>by simp [-List.map_set] at h
 | _::_,[],h,_=>by simp [-List.map_set] at h
 | d::l,x::xs,h,k=>by
  obtain ⟨i1,e1⟩:=k 0 d x rfl rfl;obtain ⟨i2,e2⟩:=ylu (l:=l) (xs:=xs) (by simpa [-List.map_set] using h) λi d x h1 h2=>k (i+1) d x (by simpa [-List.map_set] using h1) (by simpa [-List.map_set] using h2);exact ⟨i1++i2,by simp only [zsq,e1,e2]⟩
theorem yef {o L:Nat} {B:List (List Int)} (h:o+B.length<L):(zuu o B).all (below L)=true:=by
 unfold zuu;rw [List.all_map,tzx];intro i hi;rw [txc] at hi;show below L (.apl _ _)=true;rw [yyx,decide_eq_true_eq];omega
theorem yeg {L:Nat} {B:List (List Int)}:(zvk B).all (zza L)=true:=by
 unfold zvk;rw [List.all_map,tzx];intro l hl;show zza L (.app _ _ _)=true;rw [zvc];simp [-List.map_set]
theorem xke (m:Aut) (hm:m.fine) (hsy:m.sy<=400) (hn:m.acc.length<=200000) (om oa on:Nat) (x y:DV) (base:Nat) (D:DH)
  (h2:D[om]? =some (.arr 5 [.agg [zze m.sy,.apl oa m.acc.length,.apl on m.acc.length,x,y]])) (h3:D[oa]? =some (.app 4 1 (m.acc.map zz8))) (h4:D[on]? =some (.app 26 1 (m.nxt.map zyq))) :
  zzg Q 141 [.ref om 0 0] base D=some (.f (.lst ((zx6 0 m.nxt (List.replicate m.acc.length [])).map zx2)),D):=by
 rw [zzb (fn:=Tryz.f141) (show Q.P.funcs[141]? =some Tryz.f141 from Tryz.func141) rfl xwd rfl (by simp only [tzd,tze];decide) (by kernel_rfl)];have hlen:=hm.len;have g2:∀ X,(D++X)[om]? =some (.arr 5 [.agg [zze m.sy,.apl oa m.acc.length,.apl on m.acc.length,x,y]]):=λX=>zzc h2;have g3:∀ X,(D++X)[oa]? =some (.app 4 1 (m.acc.map zz8)):=λX=>zzc h3;have g4:∀ X,(D++X)[on]? =some (.app 26 1 (m.nxt.map zyq)):=λX=>zzc h4;obtain ⟨n,hnn⟩:∃ n,n=m.acc.length:=⟨_,rfl⟩;rw [<-hnn] at hn hlen h2 g2 ⊢;have hacc:(m.acc.map zz8).length=n:=by rw [tyk,hnn]
 obtain ⟨A,hA⟩:∃ A,A=m.acc.map zz8:=⟨_,rfl⟩;rw [<-hA] at h3 g3 hacc;have hin1:(λi=>DV.apl (D.length+1+i) 0)=λi=>DV.apl (D.length+(i+1)) 0:=by funext i;rw [show D.length+1+i=D.length+(i+1) by omega]
 have hin2:(List.range n).map (λi=>DV.apl (D.length+(i+1)) 0)=zuu D.length (List.replicate n []):=(by unfold zuu;rw [tyz];refine List.map_congr_left λi hi=>?_;rw [txc] at hi;rw [tyq,if_pos hi];rfl);have hin3:List.replicate n (DObj.app 3 1 [])=zvk (List.replicate n []):=by unfold zvk;rw [List.map_replicate];rfl
 have hon:∀ k,on<D.length+k:=λk=>by have:=zyr h4;omega
 obtain ⟨sy,hsy'⟩:∃ s,s=m.sy.toNat:=⟨_,rfl⟩;obtain ⟨B0,hB0⟩:∃ B:List (List Int),B=List.replicate n []:=⟨_,rfl⟩;have hB0l:B0.length=n:=by rw [hB0];simp [-getElem?_pos,-List.map_set]
 rw [<-hB0] at hin2 hin3;have hap:∀ B:List (List Int),B.length=n->(zvk B).length=n:=λB h=>by rw [ywy,h]
 have hapt:∀ B:List (List Int),B.length=n->(zvk B).take n=zvk B:=λB h=>tzk (by rw [ywy,h];exact tzp _);have hc1:∀ (B:List (List Int)),B.length=n->∀ x,x∈zuu D.length B->below (D.length+(n+1)) x=true:=λB h=>tzx.1 (yef (by omega));have hc2:∀ (B:List (List Int)),∀ x,x∈zvk B->zza (D.length+(n+1)) x=true:=λB=>tzx.1 yeg;simp [-getElem?_pos,-List.map_set,g2,g3,g4,h2,h3,h4,hacc,hlen,hin1,hin2,hin3,hap _ hB0l,hapt _ hB0l,show n*24<=140737488355328 by omega,show n<9223372036854775808 by omega];rw [if_pos ⟨hon _,hc1 _ hB0l,hc2 _⟩];generalize hX:zxj _ _ _=X
 obtain ⟨tm,B,rfl,⟨hBl,hB⟩,t3⟩:∃ (tm:Trie DV) (B:List (List Int)),X=some (.exit 0,⟨tm,D++.arr 1 (zuu D.length B)::zvk B⟩)/\(B.length=n/\B=zx6 0 m.nxt B0)/\tm.get 3=some (.row D.length 0 n n):=by
  rw [<-hX];clear hX;generalize hs33:SD.mk _ _=sd33;revert sd33;refine wl (λp:Nat×List (List Int)=>⟨(((Trie.leaf.put 19 (zze p.1)).put 18 (zze n)).put 17 (.apl on n)).put 3 (.row D.length 0 n n),D++.arr 1 (zuu D.length p.2)::zvk p.2⟩) (λp=>p.1<=n/\p.2.length=n/\(∀ u,(at_ p.2 u).length<=p.1*sy)/\zx6 p.1 (m.nxt.drop p.1) p.2=zx6 0 m.nxt B0) (λp=>n-p.1) ?_ (0,B0) ⟨tz6 _,hB0l,λu=>by rw [hB0];unfold at_;rw [tyq];split<;>simp [-getElem?_pos,-List.map_set],rfl⟩;rintro ⟨i,B⟩ ⟨hi,hBl,hBa,hB⟩ ih;simp only at hi hBl hBa hB ih;rw [zzj];by_cases hlt:i<n
  case neg=>
   rw [tyy (by omega)] at hB;simp [-getElem?_pos,-List.map_set,hlt];exact ⟨_,B,⟨rfl,rfl,rfl⟩,⟨hBl,hB⟩,by simp [-getElem?_pos,-List.map_set]⟩
  obtain ⟨r,hr⟩:∃ r,m.nxt[i]? =some r:=⟨_,tzb (by omega)⟩;have hrl:=(hm.rows r (tzg hr)).1;have hrt:=(hm.rows r (tzg hr)).2;rw [<-hnn] at hrt;have hdr:m.nxt.drop i=r::m.nxt.drop (i+1):=(by rw [List.drop_eq_getElem_cons (by omega)];rw [tzb (by omega),tza] at hr;rw [hr]);rw [hdr] at hB;simp only [zx6] at hB;simp [-getElem?_pos,-List.map_set,hlt,g4,hr,hlen,hap _ hBl,hapt _ hBl];rw [if_pos ⟨hon _,hc1 _ hBl,hc2 _⟩];have hrl':r.length=sy:=by omega
  have hisy:i*sy<=80000000:=tys (Nat.mul_le_mul (show i<=200000 by omega) (show sy<=400 by omega)) (by decide);generalize hX:zxj _ _ _=X
  obtain ⟨tm,B1,rfl,⟨hB1l,hB1⟩,t3,t17,t18,t19⟩:∃ (tm:Trie DV) (B1:List (List Int)),X=some (.exit 2,⟨tm,D++.arr 1 (zuu D.length B1)::zvk B1⟩)/\(B1.length=n/\B1=zwt i r B)/\tm.get 3=some (.row D.length 0 n n)/\tm.get 17=some (.apl on n)/\tm.get 18=some (zze n)/\tm.get 19=some (zze i):=by
   rw [<-hX];clear hX ih hB;generalize hs34:SD.mk _ _=sd34;revert sd34;refine wl (λp:Nat×List (List Int)=>⟨(((((((Trie.leaf.put 26 (zze p.1)).put 25 (zze r.length)).put 24 (zyq r)).put 19 (zze i)).put 18 (zze n)).put 17 (.apl on n)).put 4 (zze i)).put 3 (.row D.length 0 n n),D++.arr 1 (zuu D.length p.2)::zvk p.2⟩) (λp=>p.1<=sy/\p.2.length=n/\(∀ u,(at_ p.2 u).length<=i*sy+p.1)/\zwt i (r.drop p.1) p.2=zwt i r B) (λp=>sy-p.1) ?_ (0,B) ⟨tz6 _,hBl,hBa,rfl⟩;clear hBa hBl;rintro ⟨k,B⟩ ⟨hk,hBl,hBa,hB⟩ ih;simp only at hk hBl hBa hB ih;rw [zzj];by_cases hks:k<sy
   case neg=>
    rw [tyy (by omega)] at hB;simp [-getElem?_pos,-List.map_set,hrl',hks];exact ⟨_,B,⟨rfl,rfl,rfl⟩,⟨hBl,hB⟩,by simp [-getElem?_pos,-List.map_set]⟩
   obtain ⟨t,ht⟩:∃ t,r[k]? =some t:=⟨_,tzb (by omega)⟩;have htr:=hrt t (tzg ht);have hdr:r.drop k=t::r.drop (k+1):=(by rw [List.drop_eq_getElem_cons (by omega)];rw [tzb (by omega),tza] at ht;rw [ht]);rw [hdr] at hB;have hww:=zzi (show k+1<=9223372036854775807 by omega)
   have ih':=ih (k+1,zvr i B t) ⟨by simp only;omega,by simp only;rw [zna];exact hBl,λu=>by
    have:=zdm (s:=i) (u:=t) (B:=B) (t:=u)
    have:=hBa u
    simp only;omega,hB⟩ (by simp only;omega)
   by_cases ht0:0<=t
   .obtain ⟨u,rfl⟩:∃ u:Nat,t=u:=⟨t.toNat,by omega⟩;obtain ⟨l,hl⟩:∃ l,B[u]? =some l:=⟨_,tzb (by omega)⟩;have hll:l.length<=i*sy+k:=by have:=hBa u;unfold at_ at this;rw [hl] at this;exact this
    have hpu:zvr i B u=B.set u (l++[(i:Int)]):=by unfold zvr;rw [if_pos (by omega),tym,hl];rfl
    rw [hpu] at ih';simp [-getElem?_pos,-List.map_set] at ih';have ha1:=ywz (o:=D.length) hl;have ha2:∀ Y,(zvk B++Y)[u]? =some (.app 3 1 (l.map zzf)):=λY=>zzc (yw0 hl)
    have ha3:∀ x:DObj,(zvk B++[x])[n]? =some x:=λx=>by
     have:=zyb (l:=zvk B) (x:=x);rw [hap _ hBl] at this;exact this
    have ha4:∀ (Y:DH) (x:DObj),(zvk B++Y).set u x=(zvk B).set u x++Y:=λY x=>List.set_append_left _ _ (by rw [hap _ hBl];omega);have ha5:(zvk B).set u (.app 3 1 (l.map zzf++[.f (.raw (.int .i64 (i:Nat)))]))=zvk (B.set u (l++[(i:Int)])):=(by rw [<-yee];simp [-getElem?_pos,-List.map_set]);have ha6:(zuu D.length B).set u (.apl (D.length+(u+1)) (l.length+1))=zuu D.length (B.set u (l++[(i:Int)])):=(by rw [<-yed (by omega)];simp [-getElem?_pos,-List.map_set]);have hBl2:(B.set u (l++[(i:Int)])).length=n:=by rw [tz3];exact hBl
    simp [-getElem?_pos,-List.map_set,hrl',hks,ht,ha1,ha2,ha3,ha4,ha5,ha6,hap _ hBl,hap _ hBl2,hapt _ hBl2,show u<n by omega,show l.length+1<=1099511627776 by omega,show l.length<=1099511627775 by omega,show (l.length+1)*8<=1099511627776 by omega,hww];rw [if_pos ⟨hon _,hc1 _ hBl2,hc2 _⟩];simp only [hrl'] at ih';exact ih'
   .have hpu:zvr i B t=B:=by unfold zvr;rw [if_neg ht0]
    rw [hpu] at ih';simp [-getElem?_pos,-List.map_set] at ih';simp [-getElem?_pos,-List.map_set,hrl',hks,ht,ht0,hap _ hBl,hapt _ hBl,hww];rw [if_pos ⟨hon _,hc1 _ hBl,hc2 _⟩];simp only [hrl'] at ih';exact ih'
  clear hX
  have ih':=ih (i+1,B1) ⟨by simp only;omega,hB1l,λu=>by
   have h1:=znb (s:=(i:Int)) (r:=r) (B:=B) (t:=u)
   have h2:=hBa u
   rw [<-hB1] at h1
   simp only
   rw [Nat.succ_mul];omega,by simp only;rw [hB1];exact hB⟩ (by simp only;omega)
  simp [-getElem?_pos,-List.map_set] at ih';simp [-getElem?_pos,-List.map_set,t3,t17,t18,t19,hap _ hB1l,hapt _ hB1l,zzi (show i+1<=9223372036854775807 by omega)];rw [if_pos ⟨hon _,hc1 _ hB1l,hc2 _⟩];exact ih'
 clear hX;have hfz:∃ is,zsq (frz D.length (D++.arr 1 (zuu D.length B)::zvk B) 3) (zuu D.length B)=some (B.map zx2,is):=(by refine ylu (by rw [zfz,tyk]) λj d x hd hx=>?_;rw [tzr] at hx;obtain ⟨l,hl,rfl⟩:=tzf.1 hx;rw [ywz hl,tza] at hd;subst hd;refine ⟨[D.length+(j+1)],?_⟩;simp only [frz];rw [zbx,txr,yw0 hl];simp only;rw [if_pos ⟨by omega,by simp [-getElem?_pos,-List.map_set],by omega⟩,zz5];simp [-getElem?_pos,-List.map_set,zx2]);obtain ⟨is,hfz⟩:=hfz;have htk:List.take n (zuu D.length B)=zuu D.length B:=tzk (by rw [zfz];omega);rw [<-hB0,<-hB];simp [-getElem?_pos,-List.map_set,t3,htk,hfz,zfz,hBl]
 trace_state
end Go.Dv
namespace Go.Dv
open Go Go.Sim Go.Proofs Go.Fsa
attribute [local simp] zwo zxi zzn zz0 zz1 zya zzv zz5 zzf zz8 zz6 zzt zz4 zzq zwc
theorem xmj (om base:Nat) (D:DH):zzg Q 127 [.ref om 0 0] base D=some (.fn 140 [] [.ref D.length 0 0],D++[.arr 1 [.ref om 0 0]]):=by
 rw [zz2 (fn:=Tryz.f127) (show Q.P.funcs[127]? =some Tryz.f127 from Tryz.func127) rfl xwc rfl (by simp only [tzd,tze];decide) (by kernel_rfl)];simp [-List.map_set]
theorem xkf (m:Aut) (hm:m.fine) (hsy:m.sy<=400) (hn:m.acc.length<=200000) (o1 om oa on:Nat) (x y:DV) (l L base:Nat) (P:List Bool->DH) (st:LoopState) (p:Option Code) (K:KD) (tmL:Trie DV) (ps:Array Tmp) (asg body:Code)
  (hL:∀ lv,(P lv).length=L) (hbL:base<=L) (hob:∀ lv,((P lv).drop base).all (zza L)=true) (hM:∀ lv,MachAt (P lv) o1 om oa on x y m) (hl:∀ lv,(P lv)[l]? =some (.loop st p K tmL ps asg body))
  (hy:∀ lv (s:Nat) X,s<m.acc.length->lv.length=m.acc.length->zta (zue Q) l [zze s] base (P lv++X)=some (zzr true,P (lv.set s true)++X)) :
  ∃ e0 e1,zza L e0=true/\zza L e1=true/\zzg Q 140 [.yl l,.ref o1 0 0] base (P (List.replicate m.acc.length false))=some (.tup [],P m.liveL++[e0,e1]):=by
 rw [zz2 (fn:=Tryz.f140) (show Q.P.funcs[140]? =some Tryz.f140 from Tryz.func140) rfl ysz rfl (by simp only [tzd,tze];decide) (by kernel_rfl)];have g2:∀ lv X,MachAt (P lv++X) o1 om oa on x y m:=λlv X=>(hM lv).app;have gl:∀ lv X,(P lv++X)[l]? =some (.loop st p K tmL ps asg body):=λlv X=>zzc (hl lv);have i0:∀ lv X,(P lv++X)[L]? =X[0]?:=λlv X=>by rw [<-hL lv];exact yyv
 have i1:∀ lv X k,(P lv++X)[L+k]? =X[k]?:=λlv X k=>by rw [<-hL lv];exact zbx
 have s0:∀ lv X x,(P lv++X).set L x=P lv++X.set 0 x:=λlv X x=>by rw [<-hL lv];exact zgo
 have s1:∀ lv X k x,(P lv++X).set (L+k) x=P lv++X.set k x:=λlv X k x=>by rw [<-hL lv];exact zby
 have k1:∀ lv X k,(P lv++X).take (L+k)=P lv++X.take k:=λlv X k=>by rw [<-hL lv];exact yyw
 have hOK:∀ lv k X,zyg base (L+k) (P lv++X)=(X.take k).all (zza (L+k)):=λlv k X=>by
  rw [<-hL lv];exact zwv (by rw [hL];exact hbL) (by rw [hL];exact hob lv)
 have hbk:∀ k,base<=L+k:=λk=>by omega
 have lo:∀ k,on<L+k/\oa<L+k/\l<L+k:=λk=>by
  have h1:=zyr (hM []).4;have h2:=zyr (hM []).3;have h3:=zyr (hl []);rw [hL] at h1 h2 h3;omega
 obtain ⟨n,hnn⟩:∃ n,n=m.acc.length:=⟨_,rfl⟩;obtain ⟨B,hB⟩:∃ B,B=zx6 0 m.nxt (List.replicate m.acc.length []):=⟨_,rfl⟩
 have h141:∀ lv,zzg Q 141 [.ref om 0 0] base (P lv)=some (.f (.lst (B.map zx2)),P lv):=λlv=>by
  rw [hB];exact xke m hm hsy hn om oa on x y base (P lv) (hM lv).2 (hM lv).3 (hM lv).4
 obtain ⟨lv0,hlv0⟩:∃ lv,lv=List.replicate m.acc.length false:=⟨_,rfl⟩;have hBl:B.length=n:=by rw [hB,zko,tyz,hnn]
 rw [<-hlv0];obtain ⟨A,hA⟩:∃ A,A=m.acc:=⟨_,rfl⟩;have hAl:A.length=n:=by rw [hA,hnn]
 have gA:∀ lv X,(P lv++X)[oa]? =some (.app 4 1 (A.map zz8)):=λlv X=>by rw [hA];exact (g2 lv X).3
 have gM:∀ lv X,(P lv++X)[om]? =some (.arr 5 [.agg [zze m.sy,.apl oa n,.apl on n,x,y]]):=λlv X=>by rw [hnn];exact (g2 lv X).2
 have hA0:∀ lv,(P lv)[oa]? =some (.app 4 1 (A.map zz8)):=λlv=>by rw [hA];exact (hM lv).3
 have hM0:∀ lv,(P lv)[om]? =some (.arr 5 [.agg [zze m.sy,.apl oa n,.apl on n,x,y]]):=λlv=>by rw [hnn];exact (hM lv).2
 rw [<-hnn] at hn hy;simp [-getElem?_pos,-List.map_set,hL,(g2 _ _).1,gM,gA,(hM _).1,hA0,hM0,hAl,h141,hbk,hOK,i0,i1,s0,s1,k1,lo,hbL,show n<=140737488355328 by omega,show n<9223372036854775808 by omega];obtain ⟨S0,hS0⟩:∃ S,S=List.replicate n false:=⟨_,rfl⟩;have hrep:List.replicate n (DV.f (.raw (.bool false)))=S0.map zz8:=by rw [hS0,List.map_replicate];rfl
 rw [hrep];have hq0:LiveQ A m.nxt n 0 [] S0:=⟨by rw [hS0];simp [-getElem?_pos,-List.map_set],λj hj=>by rw [hS0,tyq,if_pos hj];simp [-getElem?_pos,-List.map_set],List.nodup_nil,λx h=>(by cases h),λx h=>(by cases h)⟩;have hql:∀ q seen,LiveQ A m.nxt n 0 q seen->q.length<=n:=λq seen h=>zp6 h.nodup h.dom;generalize hX:zxj _ _ _=X
 obtain ⟨tm,q,seen,rfl,⟨hq,hqa⟩,t0,t3,t4,t5⟩:∃ (tm:Trie DV) (q:List Int) (seen:List Bool),X=some (.exit 0,⟨tm,P lv0++[.arr 1 (seen.map zz8),.app 3 1 (q.map zzf)]⟩)/\(LiveQ A m.nxt n 0 q seen/\∀ j:Nat,A[j]? =some true->(j:Int)∈q)/\tm.get 0=some (.yl l)/\tm.get 3=some (.f (.lst (B.map zx2)))/\tm.get 4=some (.row L 0 n n)/\tm.get 5=some (.apl (L+1) q.length):=by
  rw [<-hX];clear hX;generalize hs35:SD.mk _ _=sd35;revert sd35;refine wl (λp:Nat×List Int×List Bool=>⟨((((((Trie.leaf.put 24 (zze p.1)).put 23 (zze n)).put 22 (.apl oa n)).put 5 (.apl (L+1) p.2.1.length)).put 4 (.row L 0 n n)).put 3 (.f (.lst (B.map zx2)))).put 0 (.yl l),P lv0++[.arr 1 (p.2.2.map zz8),.app 3 1 (p.2.1.map zzf)]⟩) (λp=>p.1<=n/\LiveQ A m.nxt n 0 p.2.1 p.2.2/\(∀ j:Nat,j<p.1->A[j]? =some true->(j:Int)∈p.2.1)/\∀ x∈p.2.1,x<(p.1:Nat)) (λp=>n-p.1) ?_ (0,[],S0) ⟨tz6 _,hq0,λj h=>absurd h (txs _),λx h=>by cases h⟩;rintro ⟨i,q,seen⟩ ⟨hi,hq,hqa,hqi⟩ ih;simp only at hi hq hqa hqi ih;rw [zzj];have hqn:=hql _ _ hq;by_cases hlt:i<n
  case neg=>
   simp [-getElem?_pos,-List.map_set,hlt];refine ⟨_,q,seen,⟨rfl,rfl,rfl⟩,⟨hq,λj hj=>hqa j (by have:=zzy hj;omega) hj⟩,?_⟩;simp [-getElem?_pos,-List.map_set]
  obtain ⟨b,hb⟩:∃ b,A[i]? =some b:=⟨_,tzb (by omega)⟩;have hww:=zzi (show i+1<=9223372036854775807 by omega);cases b with
  | false=>
   have ih':=ih (i+1,q,seen) ⟨by simp only;omega,hq,λj hj hj2=>by
    by_cases e:j=i
    .subst e;rw [hb] at hj2;cases hj2
    .exact hqa j (by simp only at hj;omega) hj2,λx hx=>by have:=hqi x hx;simp only;omega⟩ (by simp only;omega)
   simp [-getElem?_pos,-List.map_set] at ih';simp [-getElem?_pos,-List.map_set,hL,hbL,hlt,hb,gA,hAl,hbk,hOK,i0,i1,s0,s1,k1,lo,hww];exact ih'
  | true=>
   obtain ⟨w0,hw0⟩:∃ x,seen[i]? =some x:=⟨_,tzb (by rw [hq.len];exact hlt)⟩
   have hns:seen[i]?≠some true:=λh=>by
    have:=hqi _ ((hq.seen i hlt).1 h);omega
   have ih':=ih (i+1,q++[(i:Int)],seen.set i true) ⟨by simp only;omega,hq.add (i:=0) hlt hns (.acc hb),λj hj hj2=>by
    by_cases e:j=i
    .subst e;simp [-getElem?_pos,-List.map_set]
    .exact txf _ (hqa j (by simp only at hj;omega) hj2),λx hx=>by
     rcases tyh.1 hx with h | h
     .have:=hqi x h;simp only;omega
     .rw [tzw] at h;simp only;omega⟩ (by simp only;omega)
   simp [-getElem?_pos,-List.map_set] at ih';simp [-getElem?_pos,-List.map_set,hL,hbL,hlt,hb,hw0,gA,hAl,hq.len,hbk,hOK,i0,i1,s0,s1,k1,lo,hww,show q.length<=1099511627775 by omega,show (q.length+1)*8<=1099511627776 by omega];exact ih'
 clear hX;have hlv0l:lv0.length=n:=by rw [hlv0,tyz,hnn]
 simp [-getElem?_pos,-List.map_set,hL,hbL,t0,t3,t4,t5,gA,gM,hbk,hOK,i0,i1,s0,s1,k1,lo];clear t0 t3 t4 t5 tm;generalize hX:zxj _ _ _=X
 obtain ⟨tm,q,seen,lv,rfl,hlv⟩:∃ (tm:Trie DV) (q:List Int) (seen lv:List Bool),X=some (.exit 2,⟨tm,P lv++[.arr 1 (seen.map zz8),.app 3 1 (q.map zzf)]⟩)/\lv=m.liveL:=by
  rw [<-hX];clear hX;generalize hs36:SD.mk _ _=sd36;revert sd36;refine wl (λp:Nat×List Int×List Bool×List Bool=>⟨((((Trie.leaf.put 8 (zze p.1)).put 5 (.apl (L+1) p.2.1.length)).put 4 (.row L 0 n n)).put 3 (.f (.lst (B.map zx2)))).put 0 (.yl l),P p.2.2.2++[.arr 1 (p.2.2.1.map zz8),.app 3 1 (p.2.1.map zzf)]⟩) (λp=>p.1<=p.2.1.length/\LiveQ A m.nxt n 0 p.2.1 p.2.2.1/\(∀ j:Nat,A[j]? =some true->(j:Int)∈p.2.1)/\(∀ x∈p.2.1.take p.1,∀ z∈at_ B x.toNat,z∈p.2.1)/\p.2.2.2.length=n/\∀ j:Nat,j<n->(p.2.2.2[j]? =some true↔(j:Int)∈p.2.1.take p.1)) (λp=>n-p.1) ?_ (0,q,seen,lv0) ⟨tz6 _,hq,hqa,λx h=>(by simp [-getElem?_pos,-List.map_set] at h),hlv0l,λj hj=>by rw [hlv0,tyq,if_pos (by omega)];simp [-getElem?_pos,-List.map_set]⟩;clear hq hqa q seen;rintro ⟨i,q,seen,lv⟩ ⟨hi,hq,hqa,hqc,hlvl,hlv⟩ ih;simp only at hi hq hqa hqc hlvl hlv ih;rw [zzj];have hqn:=hql _ _ hq;by_cases hlt:i<q.length
  case neg=>
   have hall:=hq.all (by rw [hAl]) (by rw [hm.len,hnn]) hqa (λx hx z hz=>by
    rw [show n=m.acc.length from hnn] at hz
    rw [<-hB] at hz
    exact hqc x (by rw [tzk (by omega)];exact hx) z hz)
   rw [tzk (by omega)] at hlv
   have hfin:lv=m.liveL:=by
    refine ty8 λj=>?_;rcases tz9 j n with g | g
    .obtain ⟨b,hb⟩:∃ b,lv[j]? =some b:=⟨_,tzb (by omega)⟩;obtain ⟨b',hb'⟩:∃ b,m.liveL[j]? =some b:=⟨_,tzb (by rw [Aut.liveL_len];omega)⟩;have h1:=hlv j g;have h2:m.liveL[j]? =some true↔(j:Int)∈q:=by rw [Aut.liveL_get,hall j,hA];exact ⟨λh=>h.2,λh=>⟨by omega,h⟩⟩
     rw [hb] at h1;rw [hb'] at h2;rw [hb,hb'];cases b<;>cases b'<;>simp_all [-getElem?_pos,-List.map_set]
    .rw [tzt (by omega),tzt (by rw [Aut.liveL_len];omega)]
   simp [-getElem?_pos,-List.map_set,hlt,i0,i1];rw [hfin];exact ⟨q,seen,rfl⟩
  obtain ⟨t,ht⟩:∃ t,q[i]? =some t:=⟨_,tzb hlt⟩;have htd:=hq.dom t (tzg ht);have htl:=hq.live t (tzg ht);obtain ⟨t,rfl⟩:∃ u:Nat,t=u:=⟨t.toNat,by omega⟩;rw [tym] at htl;obtain ⟨b,hb⟩:∃ b,B[t]? =some b:=⟨_,tzb (by omega)⟩;have hatb:at_ B t=b:=by unfold at_;rw [hb];rfl
  have hbm:∀ z∈b,∃ j:Nat,z=j/\j<n/\m.lv j:=λz hz=>by
   rw [<-hatb,hB] at hz;obtain ⟨j,r,r1,r2,r3⟩:=(yy6 (by omega)).1 hz;have:=zzy r1;rw [hm.len] at this;refine ⟨j,r3,by omega,.step r1 r2 ?_⟩;rw [hA] at htl;exact htl
  have hbl:b.length<=80000000:=by
   have h1:=zhj (sy:=m.sy.toNat) (rs:=m.nxt) (s:=0) (B:=List.replicate m.acc.length []) (t:=t) (λr hr=>by have:=(hm.rows r hr).1;omega);rw [<-hB,hatb] at h1;have h2:(at_ (List.replicate m.acc.length ([]:List Int)) t).length=0:=by unfold at_;rw [tyq];split<;>simp [-getElem?_pos,-List.map_set]
   rw [h2,txj] at h1;exact tys h1 (tys (Nat.mul_le_mul (show m.nxt.length<=200000 by rw [hm.len];omega) (show m.sy.toNat<=400 by omega)) (by decide))
  have hy':=λX=>hy lv t X (by omega) hlvl;simp only [zze,zzr] at hy';obtain ⟨lv2,hlv2⟩:∃ l,l=lv.set t true:=⟨_,rfl⟩;rw [<-hlv2] at hy';simp [-getElem?_pos,-List.map_set,hL,hbL,hlt,ht,hb,hy',gl,gA,gM,hAl,hbk,hOK,i0,i1,s0,s1,k1,lo];generalize hX:zxj _ _ _=X
  obtain ⟨tm,q1,seen1,rfl,⟨hq1,hqp,hqb⟩,t0,t3,t4,t5,t8⟩:∃ (tm:Trie DV) (q1:List Int) (seen1:List Bool),X=some (.exit 4,⟨tm,P lv2++[.arr 1 (seen1.map zz8),.app 3 1 (q1.map zzf)]⟩)/\(LiveQ A m.nxt n 0 q1 seen1/\q <+: q1/\∀ z∈b,z∈q1)/\tm.get 0=some (.yl l)/\tm.get 3=some (.f (.lst (B.map zx2)))/\tm.get 4=some (.row L 0 n n)/\tm.get 5=some (.apl (L+1) q1.length)/\tm.get 8=some (zze i):=by
   rw [<-hX];clear hX ih;generalize hs37:SD.mk _ _=sd37;revert sd37;refine wl (λp:Nat×List Int×List Bool=>⟨(((((((Trie.leaf.put 59 (zze p.1)).put 58 (zze b.length)).put 57 (zyq b)).put 8 (zze i)).put 5 (.apl (L+1) p.2.1.length)).put 4 (.row L 0 n n)).put 3 (.f (.lst (B.map zx2)))).put 0 (.yl l),P lv2++[.arr 1 (p.2.2.map zz8),.app 3 1 (p.2.1.map zzf)]⟩) (λp=>p.1<=b.length/\LiveQ A m.nxt n 0 p.2.1 p.2.2/\q <+: p.2.1/\∀ z∈b.take p.1,z∈p.2.1) (λp=>b.length-p.1) ?_ (0,q,seen) ⟨tz6 _,hq,List.prefix_refl _,λz h=>(by simp [-getElem?_pos,-List.map_set] at h)⟩;rintro ⟨k,q1,seen1⟩ ⟨hk,hq1,hqp,hqb⟩ ih;simp only at hk hq1 hqp hqb ih;rw [zzj];have hqn1:=hql _ _ hq1;by_cases hks:k<b.length
   case neg=>
    rw [tzk (by omega)] at hqb;simp [-getElem?_pos,-List.map_set,hks];refine ⟨_,q1,seen1,⟨rfl,rfl,rfl⟩,⟨hq1,hqp,hqb⟩,?_⟩;simp [-getElem?_pos,-List.map_set]
   obtain ⟨z,hz⟩:∃ z,b[k]? =some z:=⟨_,tzb hks⟩;obtain ⟨j,rfl,hj,hlj⟩:=hbm z (tzg hz);obtain ⟨w,hw⟩:∃ w,seen1[j]? =some w:=⟨_,tzb (by rw [hq1.len];exact hj)⟩;have hbt:b.take (k+1)=b.take k++[(j:Int)]:=by rw [tz8,hz];rfl
   have hww:=zzi (show k+1<=9223372036854775807 by omega);cases w with
   | true=>
    have ih':=ih (k+1,q1,seen1) ⟨by simp only;omega,hq1,hqp,λz hz=>by
     simp only at hz
     rw [hbt] at hz
     rcases tyh.1 hz with h | h
     .exact hqb z h
     .rw [tzw] at h;rw [h];exact (hq1.seen j hj).1 hw⟩ (by simp only;omega)
    simp [-getElem?_pos,-List.map_set] at ih';simp [-getElem?_pos,-List.map_set,hL,hbL,hks,hz,hw,hj,hq1.len,hbk,hOK,i0,i1,s0,s1,k1,lo,hww];exact ih'
   | false=>
    have ih':=ih (k+1,q1++[(j:Int)],seen1.set j true) ⟨by simp only;omega,hq1.add (i:=0) hj (by rw [hw];simp [-getElem?_pos,-List.map_set]) (by rw [hA];exact hlj),hqp.trans (List.prefix_append _ _),λz hz=>by
     simp only at hz
     rw [hbt] at hz
     rcases tyh.1 hz with h | h
     .exact txf _ (hqb z h)
     .exact txg _ h⟩ (by simp only;omega)
    simp [-getElem?_pos,-List.map_set] at ih';simp [-getElem?_pos,-List.map_set,hL,hbL,hks,hz,hw,hj,hq1.len,hbk,hOK,i0,i1,s0,s1,k1,lo,hww,show q1.length<=1099511627775 by omega,show (q1.length+1)*8<=1099511627776 by omega];exact ih'
  clear hX;have hqt:q1.take (i+1)=q.take i++[(t:Int)]:=(by rw [tz8,zxr hqp ht];obtain ⟨z,rfl⟩:=hqp;rw [txi (by omega)];rfl);have hpl:=hqp.length_le;have hqn1:=hql _ _ hq1
  have ih':=ih (i+1,q1,seen1,lv2) ⟨by simp only;omega,hq1,λj hj=>hqp.subset (hqa j hj),λx hx z hz=>by
   simp only at hx
   rw [hqt] at hx
   rcases tyh.1 hx with h | h
   .exact hqp.subset (hqc x h z hz)
   .rw [tzw] at h
    subst h
    rw [tym,hatb] at hz
    exact hqb z hz,by simp only;rw [hlv2,tz3];exact hlvl,λj hj=>by
   simp only
   rw [hqt,hlv2,tyh,tzw]
   by_cases e:t=j
   .subst e
    rw [tz1 (by omega)];simp [-getElem?_pos,-List.map_set]
   .rw [tz4 e,hlv j hj]
    constructor
    .exact λh=>.inl h
    .rintro (h | h)
     .exact h
     .omega⟩ (by simp only;omega)
  simp [-getElem?_pos,-List.map_set] at ih';simp [-getElem?_pos,-List.map_set,hL,hbL,t0,t3,t4,t5,t8,hbk,hOK,i0,i1,s0,s1,k1,lo,zzi (show i+1<=9223372036854775807 by omega)];exact ih'
 subst hlv;refine ⟨.arr 1 (seen.map zz8),by simp [-getElem?_pos,-List.map_set],.app 3 1 (q.map zzf),by simp [-getElem?_pos,-List.map_set],?_⟩;simp [-getElem?_pos,-List.map_set];rfl
end Go.Dv
namespace Go.Dv
open Go Go.Sim Go.Proofs Go.Fsa
attribute [local simp] zwo zxi zzn zz0 zz1 zya zzv zz5 zzf zz8 zz6 zzt zz4 zzq zwc
structure MembAt (D:DH) (o8 op:Nat) (cI ks:List Int):Prop where
 cell:D[o8]? =some (.arr 1 [.mp op])
 map:D[op]? =some (.map (ks.map zwo) ((ks.map λc=>((zwe cI c:Nat):Int)).map zzf))
theorem MembAt.app {D X:DH} {o8 op:Nat} {cI ks:List Int} (h:MembAt D o8 op cI ks):MembAt (D++X) o8 op cI ks:=⟨zzc h.1,zzc h.2⟩
theorem yw1 {cI ks:List Int} {c:Int} (h:c∈ks):(ks.map λc=>((zwe cI c:Nat):Int))[zwe ks c]? =some ((zwe cI c:Nat):Int):=by
 rw [tzr,zkr h];rfl
theorem xkg (m:Aut) (cI ks:List Int) (c:Int) (hc:c∈ks) (hi:zwe cI c<m.acc.length) (o1 om oa on o8 op:Nat) (x y:DV) (base:Nat) (D:DH) (hM:MachAt D o1 om oa on x y m) (h8:MembAt D o8 op cI ks) :
  zzg Q 133 [zze c,.ref o1 0 0,.ref o8 0 0] base D=some (zzr (m.accB (zwe cI c:Nat)),D):=by
 rw [zzb (fn:=Tryz.f133) (show Q.P.funcs[133]? =some Tryz.f133 from Tryz.func133) rfl ys0 rfl (by simp only [tzd,tze];decide) (by kernel_rfl)];have gp:=xqj;simp [ys0,Tryz.f133,zym] at gp;have hf:zx0 Tryz.prog 3 (.int .i64 c) (zwl (ks.map zwo))=some (some (zwe ks c)):=(xr9.find ks c).trans (by rw [zq2 hc]);have hg:=yw1 (cI:=cI) hc;obtain ⟨i,hii⟩:∃ i,i=zwe cI c:=⟨_,rfl⟩;rw [<-hii] at hg hi ⊢;obtain ⟨vs,hvs⟩:∃ v,v=ks.map λc=>((zwe cI c:Nat):Int):=⟨_,rfl⟩;have h82:=h8.2;rw [<-hvs] at hg h82;obtain ⟨b,hb⟩:∃ b,m.acc[i]? =some b:=⟨_,tzb hi⟩;have hab:m.accB i=b:=by simp [-getElem?_pos,-List.map_set,Aut.accB,hb]
 rw [hab];simp [-getElem?_pos,-List.map_set,gp,hM.1,hM.2,hM.3,hM.4,h8.1,h82,hf,hg,hb,hi]
 trace_state
theorem xkh (m:Aut) (hm:m.fine) (lv:List Bool) (hlv:lv.length=m.acc.length) (cI ks:List Int) (hcl:cI.length=m.acc.length) (c:Int) (hc:c∈ks) (hi:zwe cI c<m.acc.length) (k:Nat) (hk:(k:Int)<m.sy)
  (o1 om oa on o8 op o5 ol o7:Nat) (x y:DV) (base:Nat) (D:DH) (hM:MachAt D o1 om oa on x y m) (h8:MembAt D o8 op cI ks) (h5:D[o5]? =some (.arr 1 [.row ol 0 m.acc.length m.acc.length])) (hl:D[ol]? =some (.arr 1 (lv.map zz8))) (h7:D[o7]? =some (.arr 1 [zyq cI])) :
  zzg Q 132 [zze c,zze k,.ref o1 0 0,.ref o8 0 0,.ref o5 0 0,.ref o7 0 0] base D=some (.tup [zze (if 0<=m.go (zwe cI c:Nat) k/\lv[(m.go (zwe cI c:Nat) k).toNat]? =some true then (cI[(m.go (zwe cI c:Nat) k).toNat]?).getD 0 else 0),zzr (if 0<=m.go (zwe cI c:Nat) k/\lv[(m.go (zwe cI c:Nat) k).toNat]? =some true then true else false)],D):=by
 have hf:zx0 Tryz.prog 3 (.int .i64 c) (zwl (ks.map zwo))=some (some (zwe ks c)):=(xr9.find ks c).trans (by rw [zq2 hc]);have hg:=yw1 (cI:=cI) hc;obtain ⟨i,hii⟩:∃ i,i=zwe cI c:=⟨_,rfl⟩;rw [<-hii] at hg hi ⊢;obtain ⟨vs,hvs⟩:∃ v,v=ks.map λc=>((zwe cI c:Nat):Int):=⟨_,rfl⟩;have h82:=h8.2;rw [<-hvs] at hg h82;obtain ⟨r,hr,hrl,hrg⟩:=yxb hm hi;have hgo:=hrg k hk;have hgf:=Aut.go_fine hm (x:=i) (c:=k);obtain ⟨t,ht⟩:∃ t,t=m.go i k:=⟨_,rfl⟩;rw [<-ht] at hgo hgf ⊢;by_cases ht0:t<0
 .rw [if_neg (by omega),if_neg (by omega)];rw [zzb (fn:=Tryz.f132) (show Q.P.funcs[132]? =some Tryz.f132 from Tryz.func132) rfl zi2 rfl (by simp only [tzd,tze];decide) (by kernel_rfl)];have gp:=ycd;simp [zi2,Tryz.f132,zym] at gp;simp [-getElem?_pos,-List.map_set,gp,hM.1,hM.2,hM.3,hM.4,h8.1,h82,hf,hg,hi,hr,hgo,ht0,hm.len]
  trace_state
 obtain ⟨t,rfl⟩:∃ u:Nat,t=u:=⟨t.toNat,by omega⟩;obtain ⟨b,hb⟩:∃ b,lv[t]? =some b:=⟨_,tzb (by omega)⟩;obtain ⟨d,hd⟩:∃ d,cI[t]? =some d:=⟨_,tzb (by omega)⟩;rw [tym];cases b with
 | false=>
  rw [if_neg (by rw [hb];simp [-getElem?_pos,-List.map_set]),if_neg (by rw [hb];simp [-getElem?_pos,-List.map_set])];rw [zzb (fn:=Tryz.f132) (show Q.P.funcs[132]? =some Tryz.f132 from Tryz.func132) rfl zi2 rfl (by simp only [tzd,tze];decide) (by kernel_rfl)];have gp:=ycd;simp [zi2,Tryz.f132,zym] at gp;simp [-getElem?_pos,-List.map_set,gp,hM.1,hM.2,hM.3,hM.4,h8.1,h82,h5,hl,h7,hf,hg,hi,hr,hgo,ht0,hb,hm.len,show t<m.acc.length by omega]
  trace_state
 | true=>
  rw [if_pos ⟨by omega,hb⟩,if_pos ⟨by omega,hb⟩,hd,tye];rw [zzb (fn:=Tryz.f132) (show Q.P.funcs[132]? =some Tryz.f132 from Tryz.func132) rfl zi2 rfl (by simp only [tzd,tze];decide) (by kernel_rfl)];have gp:=ycd;simp [zi2,Tryz.f132,zym] at gp;simp [-getElem?_pos,-List.map_set,gp,hM.1,hM.2,hM.3,hM.4,h8.1,h82,h5,hl,h7,hf,hg,hi,hr,hgo,ht0,hb,hd,hm.len,show t<m.acc.length by omega]
  trace_state
end Go.Dv
set_option maxHeartbeats 4000000
namespace Go.Dv
open Go Go.Sim Go.Proofs Go.Fsa
attribute [local simp] zwo zxi zzn zz0 zz1 zya zzv zz5 zzf zz8 zz6 zzt zz4 zzq zwc
theorem xrn {n:Nat}:List.replicate n (DV.f (.raw (.bool false)))=(List.replicate n false).map zz8:=by rw [List.map_replicate];rfl
theorem zh5 (m:Aut) (hm:m.fine) (hsy:m.sy<=400) (hn:m.acc.length<=100000) (om oa on:Nat) (x y:DV) (D:DH)
  (h2:D[om]? =some (.arr 5 [.agg [zze m.sy,.apl oa m.acc.length,.apl on m.acc.length,x,y]])) (h3:D[oa]? =some (.app 4 1 (m.acc.map zz8))) (h4:D[on]? =some (.app 26 1 (m.nxt.map zyq)))
  (o0 o1 o2 o4:DObj) (hb:∀ o∈[o0,o1,o2,o4],zza (D.length+7) o=true) (K:KD) (tm:Trie DV) (ps:Array Tmp) (asg body:Code) (L0:List Bool) (hL0:L0=List.replicate m.acc.length false)
  (hKa:K.an=Q.ann K.fn) (hKb:K.base=D.length) (hps:ps.toList.length=1)
  (hr:∀ (lv:List Bool) (s:Nat) (X:DH),s<m.acc.length->lv.length=m.acc.length->rdA Q (D.length+6) ⟨K.fn,K.nt,some (D.length+6),K.base,K.an⟩ body (evD Q (zzg Q) (zue Q) ⟨K.fn,K.nt,some (D.length+6),K.base,K.an⟩ 0 asg ⟨yl4 tm K.nt ps.toList [zze s],D++(o0::o1::o2::.arr 1 (lv.map zz8)::o4::.arr 1 [.ref om 0 0]::.loop .ready none K tm ps asg body::X)⟩)=some (zzr true,D++(o0::o1::o2::.arr 1 ((lv.set s true).map zz8)::o4::.arr 1 [.ref om 0 0]::.loop .ready none K tm ps asg body::X))) :
  ∃ e0 e1,zza (D.length+7) e0=true/\zza (D.length+7) e1=true/\zx5 tm (D.length+6) (zzg Q 140 ([]++[.yl (D.length+6)]++[.ref (D.length+5) 0 0]) K.base (D++[o0,o1,o2,.arr 1 (L0.map zz8),o4,.arr 1 [.ref om 0 0]]++[.loop .ready none K tm ps asg body]))=some (.nrm,⟨tm,D++[o0,o1,o2,.arr 1 (m.liveL.map zz8),o4,.arr 1 [.ref om 0 0],.dead,e0,e1]⟩):=by
 obtain ⟨P,hP⟩:∃ P:List Bool->DH,∀ lv,P lv=D++[o0,o1,o2,.arr 1 (lv.map zz8),o4,.arr 1 [.ref om 0 0],.loop .ready none K tm ps asg body]:=⟨_,λ_=>rfl⟩
 have hM:∀ lv,MachAt (P lv) (D.length+5) om oa on x y m:=λlv=>by
  rw [hP];exact ⟨by simp [-List.map_set],zzc h2,zzc h3,zzc h4⟩
 have homl:=zyr h2
 obtain ⟨e0,e1,b0,b1,h⟩:=xkf m hm hsy (by omega) (D.length+5) om oa on x y (D.length+6) (D.length+7) D.length P .ready none K tm ps asg body (λlv=>by rw [hP];simp [-List.map_set]) (by omega)
  (λlv=>by
   rw [hP,zy6,tzx]
   intro o ho
   simp only [tzu,txt,or_false] at ho
   rcases ho with rfl | rfl | rfl | rfl | rfl | rfl | rfl
   .exact hb _ (by simp [-List.map_set])
   .exact hb _ (by simp [-List.map_set])
   .exact hb _ (by simp [-List.map_set])
   .simp [-List.map_set]
   .exact hb _ (by simp [-List.map_set])
   .simp [-List.map_set];omega
   .rfl) hM (λlv=>by rw [hP];simp [-List.map_set])
  (λlv s X hs hlv=>by
   rw [hP,hP,tyd,tyd]
   rw [yga (st:=.ready) (p:=none) (K:=K) (tm:=tm) (ps:=ps) (asg:=asg) (body:=body) (by simp [-List.map_set]) hKa (by rw [hps];rfl) hKb.symm (by omega)]
   exact hr lv s X hs hlv)
 refine ⟨e0,e1,b0,b1,?_⟩;rw [<-hL0] at h;rw [hP,hP] at h;rw [hKb];simp only [tyd,ty2,txo];rw [h];simp [-List.map_set]
theorem ylv (m:Aut) (hm:m.fine) (hsy:m.sy<=400) (hsy0:1<=m.sy) (hn:m.acc.length<=100000) (hn1:1<=m.acc.length) (om oa on:Nat) (x y:DV) (base:Nat) (D:DH)
  (h2:D[om]? =some (.arr 5 [.agg [zze m.sy,.apl oa m.acc.length,.apl on m.acc.length,x,y]])) (h3:D[oa]? =some (.app 4 1 (m.acc.map zz8))) (h4:D[on]? =some (.app 26 1 (m.nxt.map zyq)))
  (hd:m.liveL[0]?≠some true):zzg Q 109 [.ref om 0 0] base D=some (.tup [zzn ⟨m.sy,0,[],[]⟩,zzr true],D):=by
 rw [zzb (fn:=Tryz.f109) (show Q.P.funcs[109]? =some Tryz.f109 from Tryz.func109) rfl yyd rfl (by simp only [tzd,tze];decide) (by kernel_rfl)];have gp:=xwm;simp [yyd,Tryz.f109,zym] at gp;have g2:=λX=>zzc (X:=X) h2;have g3:=λX=>zzc (X:=X) h3;have g4:=λX=>zzc (X:=X) h4;have h127:=λbase D=>xmj om base D;have r140:(Q.ann 140).raw=true:=by rw [ysz]
 obtain ⟨L0,hL0⟩:∃ L,L=List.replicate m.acc.length false:=⟨_,rfl⟩;have hrep:List.replicate m.acc.length (DV.f (.raw (.bool false)))=L0.map zz8:=by rw [hL0];exact xrn
 simp [-List.map_set,gp,g2,g3,g4,h2,h3,h4,h127,hrep,show m.acc.length<=140737488355328 by omega,show m.acc.length<9223372036854775808 by omega];generalize hS:SD.mk _ _=sS;have hSD:sS.D=D++[.arr 1 [.ref om 0 0],.arr 4 [.agg [zzf 0,zzf 0,zyf,zyf]],.arr 4 [.agg [zze m.sy,zzf 0,zyf,zyf]],.arr 1 (L0.map zz8),.arr 1 [.row (D.length+3) 0 m.acc.length m.acc.length],.arr 1 [.ref om 0 0]]:=by rw [<-hS];rfl
 have ht1:sS.tm.get 1=some (.ref D.length 0 0):=by rw [<-hS];simp [-List.map_set]
 have ht2:sS.tm.get 2=some (.ref (D.length+1) 0 0):=by rw [<-hS];simp [-List.map_set]
 have ht4:sS.tm.get 4=some (.ref (D.length+2) 0 0):=by rw [<-hS];simp [-List.map_set]
 have ht5:sS.tm.get 5=some (.ref (D.length+4) 0 0):=by rw [<-hS];simp [-List.map_set]
 clear hS;rw [ydp r140 rfl (by kernel_rfl),hSD];rw [show (D++[DObj.arr 1 [.ref om 0 0],.arr 4 [.agg [zzf 0,zzf 0,zyf,zyf]],.arr 4 [.agg [zze m.sy,zzf 0,zyf,zyf]],.arr 1 (L0.map zz8),.arr 1 [.row (D.length+3) 0 m.acc.length m.acc.length],.arr 1 [.ref om 0 0]]).length=D.length+6 by simp [-List.map_set]];generalize hX:zx5 _ _ _=X
 obtain ⟨e0,e1,b0,b1,rfl⟩:∃ e0 e1,zza (D.length+7) e0=true/\zza (D.length+7) e1=true/\X=some (.nrm,⟨sS.tm,D++[.arr 1 [.ref om 0 0],.arr 4 [.agg [zzf 0,zzf 0,zyf,zyf]],.arr 4 [.agg [zze m.sy,zzf 0,zyf,zyf]],.arr 1 (m.liveL.map zz8),.arr 1 [.row (D.length+3) 0 m.acc.length m.acc.length],.arr 1 [.ref om 0 0],.dead,e0,e1]⟩):=by
  rw [<-hX];clear hX;have homl:=zyr h2;apply zh5 m hm hsy hn om oa on x y D h2 h3 h4 _ _ _ _ ?_ _ _ _ _ _ L0 hL0 rfl rfl rfl ?_
  .intro o ho;simp only [tzu,txt,or_false] at ho;rcases ho with rfl | rfl | rfl | rfl
   .simp [-List.map_set];omega
   .simp [-List.map_set]
   .simp [-List.map_set]
   .simp [-List.map_set]
  .intro lv s X hs hlv;obtain ⟨w,hw⟩:∃ b,lv[s]? =some b:=⟨_,tzb (by omega)⟩;simp [-List.map_set,gp,yl4,ht5,hw,hs]
 have hll:=m.liveL_len;obtain ⟨b,hb⟩:∃ b,m.liveL[0]? =some b:=⟨_,tzb (by omega)⟩
 have hbf:b=false:=by
  cases b with
  | true=>exact absurd hb hd
  | false=>rfl
 subst hbf;simp [-List.map_set,gp,ht1,ht2,ht4,ht5,hb,show ¬m.acc.length=0 by omega,show 0<m.acc.length by omega]
 trace_state
end Go.Dv
namespace Go.Dv
open Go Go.Sim Go.Proofs Go.Fsa
attribute [local simp] zwo zxi zzn zz0 zz1 zya zzv zz5 zzf zz8 zz6 zzt zz4 zzq zwc
theorem xki (m:Aut) (hm:m.fine) (hsy:m.sy<=400) (hsy0:1<=m.sy) (hn:m.acc.length<=100000) (hn1:1<=m.acc.length) (om oa on:Nat) (x y:DV) (base:Nat) (D:DH)
  (h2:D[om]? =some (.arr 5 [.agg [zze m.sy,.apl oa m.acc.length,.apl on m.acc.length,x,y]])) (h3:D[oa]? =some (.app 4 1 (m.acc.map zz8))) (h4:D[on]? =some (.app 26 1 (m.nxt.map zyq)))
  (hd:m.liveL[0]? =some true) (clF:List Nat) (F0:Nat) (hF:yn2 (m.keysP m.liveL) F0 (zzp [] (m.begP m.liveL)).2.length (zzp [] (m.begP m.liveL)).1=some clF) (hcl:clF.length=m.acc.length) (hcb:∀ c∈clF,c<m.acc.length)
  (c0:Nat) (hc0:clF[0]? =some c0) (F:Nat) (qs:List Int) (rows:List (List Int)) (hex:exR id (m.succP m.liveL (clF.map λc:Nat=>(c:Int))) 20001 F 0 [(c0:Int)]=some (qs,rows)) (hqs:qs.length<=20000) :
  zzg Q 109 [.ref om 0 0] base D=some (.tup [zzn ⟨m.sy,0,qs.map λc=>m.accB (zwe (clF.map λc:Nat=>(c:Int)) c:Nat),rows⟩,zzr true],D):=by
 obtain ⟨AA,hAA⟩:∃ A,A=qs.map λc=>m.accB (zwe (clF.map λc:Nat=>(c:Int)) c:Nat):=⟨_,rfl⟩;rw [<-hAA];rw [zzb (fn:=Tryz.f109) (show Q.P.funcs[109]? =some Tryz.f109 from Tryz.func109) rfl yyd rfl (by simp only [tzd,tze];decide) (by kernel_rfl)];have gp:=xwm;simp [yyd,Tryz.f109,zym] at gp;have g2:=λX=>zzc (X:=X) h2;have g3:=λX=>zzc (X:=X) h3;have g4:=λX=>zzc (X:=X) h4;have h127:=λbase D=>xmj om base D;have r140:(Q.ann 140).raw=true:=by rw [ysz]
 obtain ⟨L0,hL0⟩:∃ L,L=List.replicate m.acc.length false:=⟨_,rfl⟩;have hrep:List.replicate m.acc.length (DV.f (.raw (.bool false)))=L0.map zz8:=by rw [hL0];exact xrn
 simp [-getElem?_pos,-List.map_set,gp,g2,g3,g4,h2,h3,h4,h127,hrep,show m.acc.length<=140737488355328 by omega,show m.acc.length<9223372036854775808 by omega];generalize hS:SD.mk _ _=sS;have hSD:sS.D=D++[.arr 1 [.ref om 0 0],.arr 4 [.agg [zzf 0,zzf 0,zyf,zyf]],.arr 4 [.agg [zze m.sy,zzf 0,zyf,zyf]],.arr 1 (L0.map zz8),.arr 1 [.row (D.length+3) 0 m.acc.length m.acc.length],.arr 1 [.ref om 0 0]]:=by rw [<-hS];rfl
 have ht1:sS.tm.get 1=some (.ref D.length 0 0):=by rw [<-hS];simp [-getElem?_pos,-List.map_set]
 have ht2:sS.tm.get 2=some (.ref (D.length+1) 0 0):=by rw [<-hS];simp [-getElem?_pos,-List.map_set]
 have ht4:sS.tm.get 4=some (.ref (D.length+2) 0 0):=by rw [<-hS];simp [-getElem?_pos,-List.map_set]
 have ht5:sS.tm.get 5=some (.ref (D.length+4) 0 0):=by rw [<-hS];simp [-getElem?_pos,-List.map_set]
 clear hS;rw [ydp r140 rfl (by kernel_rfl),hSD];rw [show (D++[DObj.arr 1 [.ref om 0 0],.arr 4 [.agg [zzf 0,zzf 0,zyf,zyf]],.arr 4 [.agg [zze m.sy,zzf 0,zyf,zyf]],.arr 1 (L0.map zz8),.arr 1 [.row (D.length+3) 0 m.acc.length m.acc.length],.arr 1 [.ref om 0 0]]).length=D.length+6 by simp [-getElem?_pos,-List.map_set]];generalize hX:zx5 _ _ _=X
 obtain ⟨e0,e1,b0,b1,rfl⟩:∃ e0 e1,zza (D.length+7) e0=true/\zza (D.length+7) e1=true/\X=some (.nrm,⟨sS.tm,D++[.arr 1 [.ref om 0 0],.arr 4 [.agg [zzf 0,zzf 0,zyf,zyf]],.arr 4 [.agg [zze m.sy,zzf 0,zyf,zyf]],.arr 1 (m.liveL.map zz8),.arr 1 [.row (D.length+3) 0 m.acc.length m.acc.length],.arr 1 [.ref om 0 0],.dead,e0,e1]⟩):=by
  rw [<-hX];clear hX;have homl:=zyr h2;apply zh5 m hm hsy hn om oa on x y D h2 h3 h4 _ _ _ _ ?_ _ _ _ _ _ L0 hL0 rfl rfl rfl ?_
  .intro o ho;simp only [tzu,txt,or_false] at ho;rcases ho with rfl | rfl | rfl | rfl
   .simp [-getElem?_pos,-List.map_set];omega
   .simp [-getElem?_pos,-List.map_set]
   .simp [-getElem?_pos,-List.map_set]
   .simp [-getElem?_pos,-List.map_set]
  .intro lv s X hs hlv;obtain ⟨w,hw⟩:∃ b,lv[s]? =some b:=⟨_,tzb (by omega)⟩;simp [-getElem?_pos,-List.map_set,gp,yl4,ht5,hw,hs]
 obtain ⟨lv,hlv⟩:∃ l,l=m.liveL:=⟨_,rfl⟩;have hll:lv.length=m.acc.length:=by rw [hlv];exact m.liveL_len
 rw [<-hlv] at hd hF hex;rw [<-hlv];obtain ⟨n,hnn⟩:∃ n,n=m.acc.length:=⟨_,rfl⟩;obtain ⟨cI,hcI⟩:∃ l,l=clF.map λc:Nat=>(c:Int):=⟨_,rfl⟩;have hcIl:cI.length=n:=by rw [hcI,tyk,hcl,hnn]
 rw [<-hcI] at hex hAA;obtain ⟨D9,hD9⟩:∃ X,X=D++[.arr 1 [.ref om 0 0],.arr 4 [.agg [zzf 0,zzf 0,zyf,zyf]],.arr 4 [.agg [zze m.sy,zzf 0,zyf,zyf]],.arr 1 (lv.map zz8),.arr 1 [.row (D.length+3) 0 m.acc.length m.acc.length],.arr 1 [.ref om 0 0],.dead,e0,e1]:=⟨_,rfl⟩;have hM9:MachAt D9 D.length om oa on x y m:=(by rw [hD9];exact ⟨by simp [-getElem?_pos,-List.map_set],zzc h2,zzc h3,zzc h4⟩);have h59:D9[D.length+4]? =some (.arr 1 [.row (D.length+3) 0 m.acc.length m.acc.length]):=by rw [hD9];simp [-getElem?_pos,-List.map_set]
 have hl9:D9[D.length+3]? =some (.arr 1 (lv.map zz8)):=by rw [hD9];simp [-getElem?_pos,-List.map_set]
 have hlen9:D9.length=D.length+9:=by rw [hD9];simp [-getElem?_pos,-List.map_set]
 have h128:∀ base,zzg Q 128 [zze m.acc.length,.fn 129 [] [.ref (D.length+4) 0 0,.ref D.length 0 0],.fn 130 [] [.ref (D.length+4) 0 0,.ref D.length 0 0]] base D9=some (zyq cI,D9):=λbase=>by
  have h:=xkd m.acc.length (by omega) (λi=>((lv[i]?).getD false,(m.acc[i]?).getD false)) (λcl i=>(zvs lv m.nxt cl i).map UInt8.ofNat) clF F0 129 130 [] [.ref (D.length+4) 0 0,.ref D.length 0 0] [] [.ref (D.length+4) 0 0,.ref D.length 0 0] base D9
   (by simp [-getElem?_pos,-List.map_set]) (by simp [-getElem?_pos,-List.map_set,hlen9]) (by simp [-getElem?_pos,-List.map_set]) (by simp [-getElem?_pos,-List.map_set,hlen9])
   (λX i hi=>by
    obtain ⟨b,b',hb,hb',hw⟩:=xkb m lv hll i hi D.length om oa on (D.length+4) (D.length+3) x y D9.length (D9++X) hM9.app (zzc h59) (zzc hl9)
    simp only [hb,hb',tye]
    exact hw)
   (λX cl i h1 h2 hi=>xka m hm hsy lv hll cl h1 (λc hc=>by have:=h2 c hc;omega) i hi D.length om oa on (D.length+4) (D.length+3) x y D9.length (D9++X) hM9.app (zzc h59) (zzc hl9))
   hF
  unfold yec at h;rw [<-hcI] at h;exact h
 rw [hD9] at h128;simp only [zze,zyq,zx2,zzf] at h128;have hom:∀ k,om<D.length+k:=λk=>by have:=zyr h2;omega
 have be0:zza (D.length+12) e0=true:=zyo (by omega) e0 b0;have be1:zza (D.length+12) e1=true:=zyo (by omega) e1 b1;simp [-getElem?_pos,-List.map_set,gp,ht1,ht2,ht4,ht5,hd,hll,g2,g3,g4,h128,hom,be0,be1,hcIl,show ¬m.acc.length=0 by omega,show 0<m.acc.length by omega];generalize hX:zxj _ _ _=X
 obtain ⟨tm,ks,rfl,hks,t1,t2,t4,t5,t7,t8⟩:∃ (tm:Trie DV) (ks:List Int),X=some (.exit 2,⟨tm,D++[.arr 1 [.ref om 0 0],.arr 4 [.agg [zzf 0,zzf 0,zyf,zyf]],.arr 4 [.agg [zze m.sy,zzf 0,zyf,zyf]],.arr 1 (lv.map zz8),.arr 1 [.row (D.length+3) 0 m.acc.length m.acc.length],.arr 1 [.ref om 0 0],.dead,e0,e1,.arr 1 [zyq cI],.map (ks.map zwo) ((ks.map λc=>((zwe cI c:Nat):Int)).map zzf),.arr 1 [.mp (D.length+10)]]⟩)/\ks=(zzp [] cI).2/\tm.get 1=some (.ref D.length 0 0)/\tm.get 2=some (.ref (D.length+1) 0 0)/\tm.get 4=some (.ref (D.length+2) 0 0)/\tm.get 5=some (.ref (D.length+4) 0 0)/\tm.get 7=some (.ref (D.length+9) 0 0)/\tm.get 8=some (.ref (D.length+11) 0 0):=by
  rw [<-hX];clear hX hex hF;generalize hs38:SD.mk _ _=sd38;revert sd38;refine wl (λp:Nat×List Int×List Int=>⟨((((((((Trie.leaf.put 53 (zze p.1)).put 52 (zze n)).put 51 (zyq cI)).put 8 (.ref (D.length+11) 0 0)).put 7 (.ref (D.length+9) 0 0)).put 5 (.ref (D.length+4) 0 0)).put 4 (.ref (D.length+2) 0 0)).put 2 (.ref (D.length+1) 0 0)).put 1 (.ref D.length 0 0),D++[.arr 1 [.ref om 0 0],.arr 4 [.agg [zzf 0,zzf 0,zyf,zyf]],.arr 4 [.agg [zze m.sy,zzf 0,zyf,zyf]],.arr 1 (lv.map zz8),.arr 1 [.row (D.length+3) 0 m.acc.length m.acc.length],.arr 1 [.ref om 0 0],.dead,e0,e1,.arr 1 [zyq cI],.map (p.2.1.map zwo) (p.2.2.map zzf),.arr 1 [.mp (D.length+10)]]⟩) (λp=>p.1<=n/\p.2.1=(zzp [] (cI.take p.1)).2/\p.2.2=p.2.1.map λc=>((zwe cI c:Nat):Int)) (λp=>n-p.1) ?_ (0,[],[]) ⟨tz6 _,rfl,rfl⟩;rintro ⟨i,ks,vs⟩ ⟨hi,hks,hvs⟩ ih;simp only at hi hks hvs ih;rw [zzj];by_cases hlt:i<n
  case neg=>
   rw [tzk (by omega)] at hks;simp [-getElem?_pos,-List.map_set,gp,hlt];exact ⟨_,ks,⟨rfl,rfl,by rw [hvs];simp [-getElem?_pos,-List.map_set]⟩,hks,by simp [-getElem?_pos,-List.map_set]⟩
  obtain ⟨c,hc⟩:∃ c,cI[i]? =some c:=⟨_,tzb (by omega)⟩;have hct:cI.take (i+1)=cI.take i++[c]:=by rw [tz8,hc];rfl
  have hww:=zzi (show i+1<=9223372036854775807 by omega);have hfnd:zx0 Tryz.prog 3 (.int .i64 c) (zwl (ks.map zwo))=some (ks.findIdx? λy=>decide (c=y)):=xr9.find ks c;by_cases hm':c∈ks
  .rw [zq2 hm'] at hfnd;obtain ⟨j,hj⟩:∃ j,j=zwe ks c:=⟨_,rfl⟩;have hjl:j<ks.length:=by rw [hj];exact znd hm'
   obtain ⟨v,hv⟩:∃ v,vs[j]? =some v:=⟨_,tzb (by rw [hvs,tyk];exact hjl)⟩;rw [<-hj] at hfnd;have ih':=ih (i+1,ks,vs) ⟨by simp only;omega,by simp only;rw [hct,zxu,<-hks];unfold zrv;rw [if_pos hm'],hvs⟩ (by simp only;omega);simp [-getElem?_pos,-List.map_set] at ih';simp [-getElem?_pos,-List.map_set,gp,hlt,hc,hfnd,hv,hom,be0,be1,hww];exact ih'
  rw [zoc hm'] at hfnd
  have hnk:zwe cI c=i:=zg5 hc λj hj hn'=>by
   apply hm';rw [hks,zrw];right;exact tzg (show (cI.take i)[j]? =some c by rw [List.getElem?_take_of_lt hj];exact hn')
  have ih':=ih (i+1,ks++[c],vs++[(i:Int)]) ⟨by simp only;omega,by simp only;rw [hct,zxu,<-hks];unfold zrv;rw [if_neg hm'],by simp only;rw [txk,hvs,txe,List.map_nil,hnk]⟩ (by simp only;omega);simp [-getElem?_pos,-List.map_set] at ih';simp [-getElem?_pos,-List.map_set,gp,hlt,hc,hfnd,hom,be0,be1,hww];exact ih'
 clear hX;obtain ⟨D12,hD12⟩:∃ X,X=D++[.arr 1 [.ref om 0 0],.arr 4 [.agg [zzf 0,zzf 0,zyf,zyf]],.arr 4 [.agg [zze m.sy,zzf 0,zyf,zyf]],.arr 1 (lv.map zz8),.arr 1 [.row (D.length+3) 0 m.acc.length m.acc.length],.arr 1 [.ref om 0 0],.dead,e0,e1,.arr 1 [zyq cI],.map (ks.map zwo) ((ks.map λc=>((zwe cI c:Nat):Int)).map zzf),.arr 1 [.mp (D.length+10)]]:=⟨_,rfl⟩;have hM12:MachAt D12 D.length om oa on x y m:=(by rw [hD12];exact ⟨by simp [-getElem?_pos,-List.map_set],zzc h2,zzc h3,zzc h4⟩);have h8:MembAt D12 (D.length+11) (D.length+10) cI ks:=(by rw [hD12];exact ⟨by simp [-getElem?_pos,-List.map_set],by simp [-getElem?_pos,-List.map_set]⟩);have h5:D12[D.length+4]? =some (.arr 1 [.row (D.length+3) 0 m.acc.length m.acc.length]):=by rw [hD12];simp [-getElem?_pos,-List.map_set]
 have hl:D12[D.length+3]? =some (.arr 1 (lv.map zz8)):=by rw [hD12];simp [-getElem?_pos,-List.map_set]
 have h7:D12[D.length+9]? =some (.arr 1 [zyq cI]):=by rw [hD12];simp [-getElem?_pos,-List.map_set]
 have hlen12:D12.length=D.length+12:=by rw [hD12];simp [-getElem?_pos,-List.map_set]
 have hkm:∀ c,c∈ks↔c∈cI:=λc=>by rw [hks,zrw];simp [-getElem?_pos,-List.map_set]
 have hki:∀ c,c∈ks->zwe cI c<m.acc.length:=λc h=>by have:=znd ((hkm c).1 h);omega
 have hc0I:cI[0]? =some (c0:Int):=by rw [hcI,tzr,hc0];rfl
 obtain ⟨O1,O2,fi,bs,hx,_⟩:=xmh m.sy.toNat 20001 c0 (m.succP lv cI) (λc=>m.accB (zwe cI c:Nat)) (λc=>c∈ks) F qs rows 132 133 [] [.ref D.length 0 0,.ref (D.length+11) 0 0,.ref (D.length+4) 0 0,.ref (D.length+9) 0 0] [] [.ref D.length 0 0,.ref (D.length+11) 0 0] D.length D12
  hex ((hkm _).2 (tzg hc0I)) (λc _ t ht=>by
   unfold Aut.succP at ht
   obtain ⟨k,hk,e⟩:=tyg.1 ht
   split at e
   .rename_i hg
    simp only [tza] at e
    have hgf:=Aut.go_fine hm (x:=(zwe cI c:Nat)) (c:=k)
    obtain ⟨d,hd⟩:∃ d,cI[(m.go (zwe cI c:Nat) k).toNat]? =some d:=⟨_,tzb (by omega)⟩
    rw [hd,tye] at e
    rw [<-e]
    exact (hkm d).2 (tzg hd)
   .cases e) (λc=>by simp [-getElem?_pos,-List.map_set,Aut.succP]) (by omega) (by omega) (by omega) (by omega)
  (by
   rw [hlen12,hD12,zy6]
   simp [-getElem?_pos,-List.map_set,hom,be0,be1]) (by simp [-getElem?_pos,-List.map_set]) (by simp [-getElem?_pos,-List.map_set,hlen12]) (by simp [-getElem?_pos,-List.map_set]) (by simp [-getElem?_pos,-List.map_set,hlen12]) (by rw [ys0])
  (λc k o hc ho=>by
   have hk:=zzy ho
   simp only [Aut.succP,tyk,List.length_range] at hk
   unfold Aut.succP at ho
   rw [tzr,tz7 hk,tz2,tza] at ho
   have hw:=λX=>xkh m hm lv hll cI ks (by omega) c hc (hki c hc) k (by omega) D.length om oa on (D.length+11) (D.length+10) (D.length+4) (D.length+3) (D.length+9) x y D.length (D12++X) hM12.app h8.app (zzc h5) (zzc hl) (zzc h7)
   by_cases hg:0<=m.go (zwe cI c:Nat) k/\lv[(m.go (zwe cI c:Nat) k).toNat]? =some true
   .rw [if_pos hg] at ho
    refine ⟨(cI[(m.go (zwe cI c:Nat) k).toNat]?).getD 0,λX=>?_,.inl ho.symm⟩
    have hz:=hw X
    rw [if_pos hg,if_pos hg] at hz
    rw [<-ho]
    exact hz
   .rw [if_neg hg] at ho
    refine ⟨0,λX=>?_,.inr ho.symm⟩
    have hz:=hw X
    rw [if_neg hg,if_neg hg] at hz
    rw [<-ho]
    exact hz)
  (λX c hc=>xkg m cI ks c hc (hki c hc) D.length om oa on (D.length+11) (D.length+10) x y D.length (D12++X) hM12.app h8.app)
 rw [hlen12] at hx;rw [hD12] at hx;obtain ⟨vs,hvs⟩:∃ vs,vs=ks.map λc=>((zwe cI c:Nat):Int):=⟨_,rfl⟩;have hAl:AA.length=qs.length:=by rw [hAA,tyk]
 have hrl:rows.length=qs.length:=by simpa [-getElem?_pos,-List.map_set] using (zob hex).2.1 (tz6 _)
 rw [<-hvs,<-hAA] at hx;rw [<-hvs];simp only [txq,Nat.reduceAdd,tyd,txo,ty2,zze,zzr,zyq,zx2,zzf,Int.toNat_of_nonneg (show 0<=m.sy by omega),show ((20001:Nat):Int)=20001 from rfl] at hx;have r110:(Q.ann 110).raw=true:=by rw [yyc]
 have hfz:∀ b D,zsq (frz b D 3) (rows.map zyq)=some (rows.map zx2,[]):=λb D=>zkn λ_=>rfl;simp [-getElem?_pos,-List.map_set,gp,t1,t2,t4,t5,t7,t8,g2,g3,g4,hc0I,r110,hx,hAl,hrl,hfz,show ¬(20000:Int)<qs.length by omega,show ¬20000<qs.length by omega]
 trace_state
end Go.Dv
namespace Go.Dv
open Go Go.Sim Go.Proofs Go.Fsa
attribute [local simp] zwo zxi zzn zz0 zz1 zya zzv zz5 zzf zz8 zz6 zzt zz4 zzq zwc
end Go.Dv
namespace Go.Fsa
def Aut.small (a:Aut):Prop:=a.acc.length<=41/\a.nxt.length<=41/\∀ r∈a.nxt,r.length<=450
instance (a:Aut):Decidable a.small:=inferInstanceAs (Decidable (_/\_))
end Go.Fsa
namespace Go.Dv
open Go Go.Sim Go.Proofs Go.Fsa
attribute [local simp] zwo zxi zzn zz0 zz1 zya zzv zz5 zzf zz8 zz6 zzt zz4 zzq zwc
theorem w12 (l:List Aut) (hl:l.length<=1000) (h:∀ a∈l,a.nxt.length<1152921504606846976) (o base:Nat) (D:DH) (ho:D[o]? =some (.arr 4 (l.map zzn))) :
  zzg Q 12 [.row o 0 l.length l.length] base D=some (zzr (decide (∀ a∈l,a.small)),D):=by
 rw [zzb (fn:=Tryz.f12) (show Q.P.funcs[12]? =some Tryz.f12 from Tryz.func12) rfl xqb rfl (by simp only [tzd,tze];decide) (by kernel_rfl)];have g:=λX=>zzc (X:=X) ho;have hol:∀ k,o<D.length+k:=λk=>by have:=zyr ho;omega
 have hol0:=zyr ho;simp [-getElem?_pos,-List.map_set,g,hol,hol0];generalize hs39:SD.mk _ _=sd39;revert sd39;refine wl (λi:Nat=>⟨(Trie.leaf.put 3 (zze i)).put 0 (.row o 0 l.length l.length),D⟩) (λi=>i<=l.length/\∀ a∈l.take i,a.small) (λi=>l.length-i) ?_ 0 ⟨tz6 _,λa h=>(by simp [-getElem?_pos,-List.map_set] at h)⟩;intro i ⟨hi,hs⟩ ih;rw [zzj];by_cases hlt:i<l.length
 case neg=>
  rw [tzk (by omega)] at hs;simp [-getElem?_pos,-List.map_set,ho,g,hlt];exact hs
 obtain ⟨a,ha⟩:∃ a,l[i]? =some a:=⟨_,tzb hlt⟩;have ham:=tzg ha;have han:=h a ham;have hfail:¬a.small->(decide (∀ a∈l,a.small))=false:=λhn=>decide_eq_false λhh=>hn (hh a ham);have hww:=zzi (show i+1<=9223372036854775807 by omega);by_cases c1:a.acc.length<=41
 case neg=>
  rw [hfail λhh=>c1 hh.1];simp [-getElem?_pos,-List.map_set,ho,g,hlt,ha,show (41:Int)<a.acc.length by omega,show 41<a.acc.length by omega]
 by_cases c2:a.nxt.length<=41
 case neg=>
  rw [hfail λhh=>c2 hh.2.1];simp [-getElem?_pos,-List.map_set,ho,g,hlt,ha,show ¬(41:Int)<a.acc.length by omega,show (41:Int)<a.nxt.length by omega,show ¬41<a.acc.length by omega,show 41<a.nxt.length by omega]
 simp [-getElem?_pos,-List.map_set,ho,g,hol,hol0,hlt,ha,show ¬(41:Int)<a.acc.length by omega,show ¬(41:Int)<a.nxt.length by omega,show ¬41<a.acc.length by omega,show ¬41<a.nxt.length by omega];by_cases c3:∀ r∈a.nxt,r.length<=450
 .generalize hX:zxj _ _ _=X
  obtain ⟨tm,rfl,t0,t3⟩:∃ tm,X=some (.exit 2,⟨tm,D++[.arr 4 [zzn a]]⟩)/\tm.get 0=some (.row o 0 l.length l.length)/\tm.get 3=some (zze i):=by
   rw [<-hX];clear hX ih;generalize hs40:SD.mk _ _=sd40;revert sd40;refine wl (λk:Nat=>⟨(((Trie.leaf.put 5 (zze k)).put 4 (.ref D.length 0 0)).put 3 (zze i)).put 0 (.row o 0 l.length l.length),D++[.arr 4 [zzn a]]⟩) (λk=>k<=a.nxt.length) (λk=>a.nxt.length-k) ?_ 0 (tz6 _);intro k hk ih;rw [zzj];by_cases hks:k<a.nxt.length
   .obtain ⟨r,hr⟩:∃ r,a.nxt[k]? =some r:=⟨_,tzb hks⟩;have hrl:=c3 r (tzg hr);have ih':=ih (k+1) (by omega) (by omega);simp [-getElem?_pos,-List.map_set] at ih';simp [-getElem?_pos,-List.map_set,hol,hks,hr,show ¬(450:Int)<r.length by omega,show ¬450<r.length by omega,zzi (show k+1<=9223372036854775807 by omega)];exact ih'
   .simp [-getElem?_pos,-List.map_set,hks]
  clear hX
  have ih':=ih (i+1) ⟨by omega,λb hb=>by
   rw [tz8,ha] at hb
   rcases tyh.1 hb with h | h
   .exact hs b h
   .simp only [Option.toList,tzw] at h;rw [h];exact ⟨c1,c2,c3⟩⟩ (by omega)
  simp [-getElem?_pos,-List.map_set] at ih';simp [-getElem?_pos,-List.map_set,hol,hol0,t0,t3,hww];exact ih'
 rw [hfail λhh=>c3 hh.2.2];generalize hX:zxj _ _ _=X
 obtain ⟨tm,E,rfl,t2⟩:∃ (tm:Trie DV) (E:DH),X=some (.ret,⟨tm,D++E⟩)/\tm.get 2=some (zzr false):=by
  rw [<-hX];clear hX ih;generalize hs41:SD.mk _ _=sd41;revert sd41;refine wl (λk:Nat=>⟨(((Trie.leaf.put 5 (zze k)).put 4 (.ref D.length 0 0)).put 3 (zze i)).put 0 (.row o 0 l.length l.length),D++[.arr 4 [zzn a]]⟩) (λk=>k<=a.nxt.length/\∀ r∈a.nxt.take k,r.length<=450) (λk=>a.nxt.length-k) ?_ 0 ⟨tz6 _,λr h=>(by simp [-getElem?_pos,-List.map_set] at h)⟩;intro k ⟨hk,hkr⟩ ih;rw [zzj]
  have hks:k<a.nxt.length:=by
   rcases tz9 k a.nxt.length with g | g
   .exact g
   rw [tzk g] at hkr;exact absurd hkr c3
  obtain ⟨r,hr⟩:∃ r,a.nxt[k]? =some r:=⟨_,tzb hks⟩;by_cases hrl:r.length<=450
  .have ih':=ih (k+1) ⟨by omega,λs hs'=>by
    rw [tz8,hr] at hs'
    rcases tyh.1 hs' with h | h
    .exact hkr s h
    .simp only [Option.toList,tzw] at h;rw [h];exact hrl⟩ (by omega)
   simp [-getElem?_pos,-List.map_set] at ih';simp [-getElem?_pos,-List.map_set,hol,hks,hr,show ¬(450:Int)<r.length by omega,show ¬450<r.length by omega,zzi (show k+1<=9223372036854775807 by omega)];exact ih'
  .simp [-getElem?_pos,-List.map_set,hks,hr,show (450:Int)<r.length by omega,show 450<r.length by omega]
 simp [-getElem?_pos,-List.map_set,t2]
end Go.Dv
namespace Go.Dv
open Go Go.Sim Go.Proofs Go.Fsa
attribute [local simp] zwo zxi zzn zz0 zz1 zya zzv zz5 zzf zz8 zz6 zzt zz4 zzq zwc
theorem zxv {D:DH} {l:List DV}:eqD D (.agg l)=l.all (zn6 D):=rfl
theorem zxw {D:DH} {k:IntKind} {n:Int}:zn6 D (.f (.raw (.int k n)))=true:=by
 show (yzc (.int k n) (.int k n)&&oneCell (.int k n))=true;rw [show oneCell (.int k n)=true from rfl,tzj]
 show (match eqK k k with
  | true=>eqI n n
  | false=>false)=true
 rw [show eqK k k=true by cases k<;>rfl];rw [zmj];simp [-List.map_set]
theorem zxk {D:DH} {b:Bool}:zn6 D (.f (.raw (.bool b)))=true:=by cases b<;>rfl
theorem zxx {D:DH} {l:List FV}:zn6 D (.f (.lst l))=true:=rfl
noncomputable def agW (b:Bool):Option Bool->Bool
 | some true=>b
 | some false=>true
 | none=>false
theorem yeh {nt:Nat} {all:List Oper} {tm:Trie DV} {cl:List (Nat×Option Nat)} {D:DH} {i d:Nat} {op:Op} {ty:TypeId} {pos:String} {aft:Array Edge} {g:Nat×Bool}:agO nt all tm cl D i (some ⟨some d,op,ty,pos,aft,some g⟩)=agW (ykp i cl&&(decide (d<nt)&&((tm.get d).map (eqD D)).getD false)) (zu0 all tm (some g)):=by
 unfold agO agW;simp only;rcases zu0 all tm (some g) with _ | b
 .rfl
 cases b<;>rfl
theorem yei {b:Bool}:agW b (some true)=b:=rfl
theorem yej {b:Bool}:agW b (some false)=true:=rfl
attribute [local simp] yeh yei yej
attribute [local simp] zxv zxw zxk zxx
end Go.Dv
set_option maxHeartbeats 2000000
namespace Go.Dv
open Go Go.Sim Go.Proofs Go.Fsa
abbrev yw2 (p:Int×Int):Value:=.agg #[.int .i64 p.1,.int .i64 p.2]
def prD (p:Int×Int):DV:=.agg [.f (.raw (.int .i64 p.1)),.f (.raw (.int .i64 p.2))]
attribute [local simp] zwo zxi zzn zz0 zz1 zya zzv zz5 zzf zz8 zz6 zzt zz4 prD
theorem zzx {α β:Type} {P:Program}:∀ (x:Sem α) (f:α->Sem β),zzs P (x >>= f)=(zzs P x).bind λa=>zzs P (f a)
 | .pure _,_=>rfl
 | .program k,f=>zzx (k P) f
 | .mark _ k,f=>zzx k f
 | .load ..,_=>rfl
 | .store ..,_=>rfl
 | .new ..,_=>rfl
 | .shape ..,_=>rfl
 | .freeze ..,_=>rfl
 | .frozen ..,_=>rfl
 | .getObj ..,_=>rfl
 | .setObj ..,_=>rfl
 | .choose ..,_=>rfl
 | .sys ..,_=>rfl
 | .halt _,_=>rfl
theorem zyh {α:Type} {P:Program} (a:α):zzs P (pure a:Sem α)=some a:=rfl
theorem xro:zzs Tryz.prog (underlying 133)=some (.array 2 3):=by kernel_rfl
theorem pu3:zzs Tryz.prog (underlying 3)=some (.int .i64):=by kernel_rfl
theorem ps3:zzs Tryz.prog (sizeOf 3)=some 1:=by kernel_rfl
theorem pp0 (a b:Int):zzs Tryz.prog (part 3 #[.int .i64 a,.int .i64 b] 0)=some (.int .i64 a):=rfl
theorem pp1 (a b:Int):zzs Tryz.prog (part 3 #[.int .i64 a,.int .i64 b] 1)=some (.int .i64 b):=rfl
theorem pe3 (d:Nat) (a c:Int):zzs Tryz.prog (Op.equalIn (d+1) 3 (.int .i64 a) (.int .i64 c))=some (a==c):=by
 rw [Op.equalIn];simp only [zzx,pu3,tzn,if_true,zyh]
theorem pk3 (e:Bool) (d:Nat) (a:Int):zzs Tryz.prog (Instr.checkKey e (d+1) 3 (.int .i64 a))=some ():=by
 rw [Instr.checkKey];simp only [zzx,pu3,tzn,zyh]
theorem xni (a b c d:Int):ziq Tryz.prog 133 (yw2 (a,b)) (yw2 (c,d))=some (decide ((a,b)=(c,d))):=by
 unfold ziq Op.equal;show zzs Tryz.prog (Op.equalIn (9998+1+1) 133 _ _)=_;rw [Op.equalIn];simp only [zzx,xro,ps3,tzn];simp only [Std.Legacy.Range.forIn_eq_forIn_range',Std.Legacy.Range.size,Nat.sub_zero,Nat.add_sub_cancel,Nat.div_one,List.range'_succ,List.range'_zero,List.forIn_cons,List.forIn_nil];simp only [zzx,tzn,Nat.zero_mul,txj,Nat.one_mul,pp0,pp1,pe3];by_cases h1:a=c<;>by_cases h2:b=d<;>simp [-List.map_set,h1,h2,zzx,zyh,pp0,pp1,pe3]
theorem xnj (a b:Int) (es:List MapEntry):zx0 Tryz.prog 133 (yw2 (a,b)) es=zti Tryz.prog 133 (yw2 (a,b)) es 0:=by
 unfold zx0;rw [show Tryz.prog.underlying 133=some (.array 2 3) by kernel_rfl]
 show (match zyj (yw2 (a,b)) with
  | true=>match zzs Tryz.prog (Instr.checkKey false 10000 133 (yw2 (a,b))) with
   | some ()=>match zzs Tryz.prog (Instr.checkKey true 10000 133 (yw2 (a,b))) with
    | some ()=>zti Tryz.prog 133 (yw2 (a,b)) es 0
    | none=>none
   | none=>none
  | false=>none)=_
 have hc:∀ e,zzs Tryz.prog (Instr.checkKey e 10000 133 (yw2 (a,b)))=some ():=(by intro e;rw [show (10000:Nat)=9998+1+1 from rfl,Instr.checkKey];simp only [zzx,xro,tzn];simp only [Std.Legacy.Range.forIn_eq_forIn_range',Std.Legacy.Range.size,Nat.sub_zero,Nat.add_sub_cancel,Nat.div_one,List.range'_succ,List.range'_zero,List.forIn_cons,List.forIn_nil];simp only [zzx,tzn,ps3,Nat.zero_mul,txj,Nat.one_mul,pp0,pp1,pk3,zyh]);rw [hc,hc,show zyj (yw2 (a,b))=true from rfl]
theorem xrp:KeyD Tryz.prog 133 yw2:=by
 refine ⟨λks x=>?_⟩;rw [show yw2 x=yw2 (x.1,x.2) from rfl,xnj];rw [zsu (enc:=yw2) (λ_=>rfl) (λk y=>xni k.1 k.2 y.1 y.2)];cases List.findIdx? (λy=>decide (x=y)) ks<;>rfl
theorem xkj (sy most:Nat) (s0:Int×Int) (succ:Int×Int->List (Option (Int×Int))) (ac:Int×Int->Bool) (dom:Int×Int->Prop) (F:Nat) (qs:List (Int×Int)) (rows:List (List Int))
  (g1 g2:FuncId) (a1 b1 a2 b2:List DV) (base:Nat) (D:DH)
  (hex:exR id succ most F 0 [s0]=some (qs,rows)) (h0:dom s0) (hdom:∀ s,dom s->∀ t,some t∈succ s->dom t) (hlen:∀ s,(succ s).length=sy)
  (hsy:sy<=400) (hmost:most<=200000) (h1m:1<=most) (hb:base<=D.length) (hob:(D.drop base).all (zza D.length)=true)
  (ha1:zzo D.length a1=true) (hb1:zzo D.length b1=true) (ha2:zzo D.length a2=true) (hb2:zzo D.length b2=true) (hraw:(Q.ann g2).raw=false)
  (hstep:∀ (x:Int×Int) (c:Nat) (o:Option (Int×Int)),dom x->(succ x)[c]? =some o->∃ y,(∀ X:DH,zzg Q g1 (a1++[prD x,zze c]++b1) base (D++X)=some (.tup [prD y,zzr o.isSome],D++X))/\(o=some y∨o=none))
  (hacc:∀ (X:DH) (x:Int×Int),dom x->zzg Q g2 (a2++[prD x]++b2) base (D++X)=some (zzr (ac x),D++X)) :
  ∃ (O1 O2:DObj) (fi bs:List Int),zzg Q 117 [zze sy,zze most,prD s0,.fn g1 a1 b1,.fn g2 a2 b2] base D=some (.tup [.ref (D.length+1) 0 0,zzr true],D++[.arr 2 [prD s0],.arr 5 [.agg [zze sy,.apl (D.length+6) qs.length,.apl (D.length+7) qs.length,qV (D.length+4) qs.length,qV (D.length+5) qs.length]],O1,O2,qO 3 1 (fi.map zzf),qO 3 1 (bs.map zzf),.app 4 1 ((qs.map ac).map zz8),.app 26 1 (rows.map zyq)])/\FBC succ qs.length 0 qs fi bs/\∀ L,zza L O1=true/\zza L O2=true:=by
 obtain ⟨qs',rows',e,h⟩ | ⟨e,_⟩:=wS (λx:Int×Int=>.int .i64 x.1) (λx=>.int .i64 x.2) (λ_=>⟨rfl,rfl,rfl⟩) (λ_=>⟨rfl,rfl,rfl⟩) 117 133 (by simp [-List.map_set]) xrp sy most s0 succ ac dom (F+(most+1)) (by omega) g1 g2 a1 b1 a2 b2 base D h0 hdom hlen hsy hmost h1m hb hob ha1 hb1 ha2 hb2 hraw hstep hacc<;>rw [zrz hex] at e<;>cases e
 exact h
end Go.Dv
namespace Go.Dv
open Go Go.Sim Go.Proofs Go.Fsa
attribute [local simp] zxi zzn zz0 zz1 prD zxv zxw zxx zz8 zz6 zzt zz4
theorem yz5 {g:FuncId} {D:DH}:eqD D (.fn g [] [])=true:=rfl
attribute [local simp] yz5
theorem w68 (a b:Aut) (ha:a.nxt.length<1152921504606846976) (hb:b.nxt.length<1152921504606846976) (base:Nat) (D:DH) :
  zzg Q 68 [zzn a,zzn b] base D=some (zze (if a.check=0/\b.check=0 then (if a.sy=b.sy then 0 else 1) else 60),D):=by
 obtain ⟨sa,ta,aa,na⟩:=a;obtain ⟨sb,tb,ab,nb⟩:=b;simp only at ha hb;rw [zzb (fn:=Tryz.f68) (show Q.P.funcs[68]? =some Tryz.f68 from Tryz.func68) rfl ys3 rfl (by simp only [tzd,tze];decide) (by kernel_rfl)];by_cases h1:Aut.check ⟨sa,ta,aa,na⟩=0
 .by_cases h2:Aut.check ⟨sb,tb,ab,nb⟩=0
  .by_cases h3:sa=sb
   .subst h3;simp [-List.map_set,c18,ha,hb,h1,h2]
   .simp [-List.map_set,c18,ha,hb,h1,h2,h3]
  .simp [-List.map_set,c18,ha,hb,h1,h2]
 .simp [-List.map_set,c18,ha,hb,h1]
theorem xkk (a:Aut) (s:Int) (hs:s<(a.acc.length:Nat)) (base:Nat) (D:DH):zzg Q 116 [zzn a,zze s] base D=some (zzr (a.accB s),D):=by
 rw [zzb (fn:=Tryz.f116) (show Q.P.funcs[116]? =some Tryz.f116 from Tryz.func116) rfl yey rfl (by simp only [tzd,tze];decide) (by kernel_rfl)];by_cases h:0<=s
 .obtain ⟨n,rfl⟩:∃ n:Nat,s=n:=⟨s.toNat,by omega⟩;obtain ⟨b,hb⟩:∃ b,a.acc[n]? =some b:=⟨_,tzb (by omega)⟩;simp [-List.map_set,hb,h,Aut.accB,show (0:Int)<=n by omega]
 .simp [-List.map_set,h,Aut.accB]
theorem xkl {sy st:Int} {acc:List Bool} {nxt:List (List Int)} {s:Int} {base:Nat} {D:DH} (hs:s<(acc.length:Nat)):zzg Q 116 [.agg [.f (.raw (.int .i64 sy)),.f (.raw (.int .i64 st)),.f (.lst (acc.map zxi)),.f (.lst (nxt.map zx2))],.f (.raw (.int .i64 s))] base D=some (.f (.raw (.bool (Aut.accB ⟨sy,st,acc,nxt⟩ s))),D):=xkk ⟨sy,st,acc,nxt⟩ s hs base D
def xx3 (g:FuncId) (f:Bool->Bool->Bool):Prop:=(Q.ann g).raw=false/\∀ (x y:Bool) (base:Nat) (D:DH),zzg Q g [zzr x,zzr y] base D=some (zzr (f x y),D)
theorem xkm:xx3 134 (λx y=>x&&y):=⟨by rw [yex],λx y base D=>by
 rw [zzb (fn:=Tryz.f134) (show Q.P.funcs[134]? =some Tryz.f134 from Tryz.func134) rfl yex rfl (by simp only [tzd,tze];decide) (by kernel_rfl)]
 cases x<;>cases y<;>simp [-List.map_set]⟩
theorem xkn:xx3 135 (λx y=>x||y):=⟨by rw [ye1],λx y base D=>by
 rw [zzb (fn:=Tryz.f135) (show Q.P.funcs[135]? =some Tryz.f135 from Tryz.func135) rfl ye1 rfl (by simp only [tzd,tze];decide) (by kernel_rfl)]
 cases x<;>cases y<;>simp [-List.map_set]⟩
theorem xko:xx3 136 (λx y=>x&&!y):=⟨by rw [ye2],λx y base D=>by
 rw [zzb (fn:=Tryz.f136) (show Q.P.funcs[136]? =some Tryz.f136 from Tryz.func136) rfl ye2 rfl (by simp only [tzd,tze];decide) (by kernel_rfl)]
 cases x<;>cases y<;>simp [-List.map_set]⟩
theorem xkp:xx3 137 (λx y=>x != y):=⟨by rw [ye3],λx y base D=>by
 rw [zzb (fn:=Tryz.f137) (show Q.P.funcs[137]? =some Tryz.f137 from Tryz.func137) rfl ye3 rfl (by simp only [tzd,tze];decide) (by kernel_rfl)]
 cases x<;>cases y<;>simp [-List.map_set]⟩
theorem xkq (base:Nat) (D:DH) (hb:base<=D.length):zzg Q 115 [] base D=some (.agg [.f (.raw .nilFunc),.fn 134 [] [],.fn 135 [] [],.fn 136 [] [],.fn 137 [] []],D++[.arr 5 [.agg [.f (.raw .nilFunc),.fn 134 [] [],.fn 135 [] [],.fn 136 [] [],.fn 137 [] []]]]):=by
 rw [zz2 (fn:=Tryz.f115) (show Q.P.funcs[115]? =some Tryz.f115 from Tryz.func115) rfl ye0 rfl (by simp only [tzd,tze];decide) (by kernel_rfl)];simp [-List.map_set,hb,show zwz (rv Value.nilFunc)=true from rfl]
theorem xkr (a b:Aut) (ha:a.valid) (hb:b.valid) (hsy:a.sy=b.sy) (p:Int×Int) (h1:p.1<(a.nxt.length:Nat)) (h2:p.2<(b.nxt.length:Nat)) (c:Nat) (hc:(c:Int)<a.sy) (base o o':Nat) (D:DH) (ho:D[o]? =some (.arr 4 [zzn a])) (ho':D[o']? =some (.arr 4 [zzn b])) :
  zzg Q 118 [prD p,zze c,.ref o 0 0,.ref o' 0 0] base D=some (.tup [prD (a.go p.1 c,b.go p.2 c),zzr true],D):=by
 rw [zzb (fn:=Tryz.f118) (show Q.P.funcs[118]? =some Tryz.f118 from Tryz.func118) rfl yez rfl (by simp only [tzd,tze];decide) (by kernel_rfl)];have gp:=xqm;simp [yez,Tryz.f118,zym] at gp;have r91:(Q.ann 91).raw=false:=by rw [ycb]
 have g1:∀ X,(D++X)[o]? =some (.arr 4 [zzn a]):=λX=>zzc ho;have g2:∀ X,(D++X)[o']? =some (.arr 4 [zzn b]):=λX=>zzc ho';simp [-List.map_set,gp,r91,g1,g2,c91,ha,hb,h1,h2,hc,show (c:Int)<b.sy by omega]
theorem xks (g:FuncId) (f:Bool->Bool->Bool) (hg:xx3 g f) (a b:Aut) (p:Int×Int) (h1:p.1<(a.acc.length:Nat)) (h2:p.2<(b.acc.length:Nat)) (base o1 o2 o o':Nat) (D:DH) (hi:D[o1]? =some (.arr 1 [.fn g [] []])) (hf:D[o2]? =some (.arr 1 [.fn 116 [] []])) (ho:D[o]? =some (.arr 4 [zzn a])) (ho':D[o']? =some (.arr 4 [zzn b])) :
  zzg Q 119 [prD p,.ref o1 0 0,.ref o2 0 0,.ref o 0 0,.ref o' 0 0] base D=some (zzr (f (a.accB p.1) (b.accB p.2)),D):=by
 rw [zzb (fn:=Tryz.f119) (show Q.P.funcs[119]? =some Tryz.f119 from Tryz.func119) rfl ys2 rfl (by simp only [tzd,tze];decide) (by kernel_rfl)];have gp:=xqn;simp [ys2,Tryz.f119,zym] at gp;have r116:(Q.ann 116).raw=false:=by rw [yey]
 have r137:=hg.1;have g1:∀ X,(D++X)[o]? =some (.arr 4 [zzn a]):=λX=>zzc ho;have g2:∀ X,(D++X)[o']? =some (.arr 4 [zzn b]):=λX=>zzc ho';have g3:∀ X,(D++X)[o1]? =some (.arr 1 [.fn g [] []]):=λX=>zzc hi;have g4:∀ X,(D++X)[o2]? =some (.arr 1 [.fn 116 [] []]):=λX=>zzc hf;have h137:=hg.2;simp only [zzr] at h137;simp [-List.map_set,gp,r116,r137,g1,g2,g3,g4,xkl,h1,h2,h137]
structure FirstT (l:List Bool) (r:Int):Prop where
 none:r<0->∀ x∈l,x=false
 some:0<=r->l[r.toNat]? =some true
 fst:0<=r->∀ x∈l.take r.toNat,x=false
theorem w70 (l:List Bool) (hl:l.length<1152921504606846976) (o base:Nat) (D:DH) (ho:D[o]? =some (.app 4 1 (l.map zz8))) :
  ∃ r,zzg Q 70 [.apl o l.length,zzr true] base D=some (zze r,D)/\FirstT l r:=by
 rw [zzb (fn:=Tryz.f70) (show Q.P.funcs[70]? =some Tryz.f70 from Tryz.func70) rfl xwo rfl (by simp only [tzd,tze];decide) (by kernel_rfl)];simp [-getElem?_pos,-List.map_set,ho];generalize hs43:SD.mk _ _=sd43;revert sd43;refine wl (λi:Nat=>⟨(((Trie.leaf.put 8 (zze i)).put 7 (zze l.length)).put 1 (zzr true)).put 0 (.apl o l.length),D⟩) (λi=>i<=l.length/\∀ x∈l.take i,x=false) (λi=>l.length-i) ?_ 0 ⟨by omega,by simp [-getElem?_pos,-List.map_set]⟩;intro i ⟨hi,hf⟩ ih;have hol:=zyr ho;rw [if_pos hol,zzj];by_cases hlt:i<l.length
 .obtain ⟨x,hx⟩:∃ x,l[i]? =some x:=⟨_,tzb hlt⟩;cases x with
  | false=>
   have ih':=ih (i+1) ⟨by omega,λx hm=>by
    rw [tz8,hx] at hm
    rcases tyh.1 hm with g | g
    .exact hf x g
    .simpa [-getElem?_pos,-List.map_set] using g⟩ (by omega)
   simp only [if_pos hol] at ih';simp [-getElem?_pos,-List.map_set] at ih';simp [-getElem?_pos,-List.map_set,hol,ho,hlt,hx,zzi (show i+1<=9223372036854775807 by omega)];exact ih'
  | true=>
   simp [-getElem?_pos,-List.map_set,ho,hlt,hx];exact ⟨λh=>by omega,λ_=>by simpa [-getElem?_pos,-List.map_set] using hx,λ_=>by simpa [-getElem?_pos,-List.map_set] using hf⟩
 .have hf':∀ x∈l,x=false:=by rw [tzk (by omega)] at hf;exact hf
  simp [-getElem?_pos,-List.map_set,ho,hlt];exact ⟨λ_=>hf',λh=>by omega,λh=>by omega⟩
end Go.Dv
namespace Go.Dv
open Go Go.Sim Go.Proofs Go.Fsa
attribute [local simp] zwo zxi zzn zz0 zz1 zya zzv zz5 zzf zz8 zz6 zzt zz4 prD zxv zxw zxx yz5
theorem FBC.first {a b:Aut} {q:List (Int×Int)} {fi bs:List Int} {i k:Nat} (h:FBC (a.succD b) i k q fi bs):FirstBy a b q fi bs:=⟨h.lf,h.lb,λn h1 h2=>by
 obtain ⟨i,c,p,y,e1,e2,e3,e4,e5,e6⟩:=h.get n h1 h2
 obtain ⟨e7,e8⟩:=zdu e6
 simp only [tza] at e7
 subst e7
 exact ⟨i,c,p,e1,e2,e3,e8,e4,e5⟩,λn h1 h2=>by
 obtain ⟨i,c,e1,e2,e3⟩:=h.ord n h1 h2
 exact ⟨i,c,e1,e2,λi' c' p hc hs hp=>e3 i' c' p _ hc hp (yfe hs)⟩⟩
def yz6:DV:=.agg [.f (.raw .nilFunc),.fn 134 [] [],.fn 135 [] [],.fn 136 [] [],.fn 137 [] []]
theorem zqb:ofV Value.nilFunc=.f (.raw .nilFunc):=rfl
theorem zua:zzd (.f (.raw .nilFunc))=[.f (.raw .nilFunc)]:=rfl
theorem zqc:zwz (.f (.raw .nilFunc))=true:=rfl
def xrq (op:Nat):FuncId:=133+op
def opB:Nat->Bool->Bool->Bool
 | 1=>λx y=>x&&y
 | 2=>λx y=>x||y
 | 3=>λx y=>x&&!y
 | _=>λx y=>x != y
theorem xxn {op:Nat} (h1:1<=op) (h4:op<=4):xx3 (xrq op) (opB op)/\zvb Tryz.prog 130 (some (.agg [.f (.raw .nilFunc),.fn 134 [] [],.fn 135 [] [],.fn 136 [] [],.fn 137 [] []])) (some (.f (.raw (.int .i64 op))))=some (.fn (xrq op) [] []):=by
 have t1:zmy Tryz.prog 130=some (5,1,129):=by kernel_rfl
 have t2:tLd Tryz.prog 129=some none:=by kernel_rfl
 have t3:∀ n:Nat,(some (DV.f (.raw (.int .i64 n)))).bind zi5=some n:=λn=>rfl;simp only [zvb,t1,t2,t3]
 match op,h1,h4 with
 | 1,_,_=>exact ⟨xkm,rfl⟩
 | 2,_,_=>exact ⟨xkn,rfl⟩
 | 3,_,_=>exact ⟨xko,rfl⟩
 | 4,_,_=>exact ⟨xkp,rfl⟩
def zu7 (op:Nat) (a b:Aut):DH:=[.arr 4 [zzn a],.arr 4 [zzn b],.arr 5 [yz6],.arr 1 [.fn (xrq op) [] []],.arr 1 [.fn 116 [] []]]
theorem w69 (op:Nat) (h1:1<=op) (h4:op<=4) (a b:Aut) (ha:a.valid) (hb':b.valid) (hsy:a.sy=b.sy) (hN:(a.nxt.length+1)*(b.nxt.length+1)<=100000) (base:Nat) (D:DH) (hb:base<=D.length) (hob:(D.drop base).all (zza D.length)=true) :
  ∃ O1 O2 fi bs,zzg Q 69 [zzn a,zzn b,zze op] base D=some (.tup [.ref (D.length+6) 0 0,zzr true],D++zu7 op a b++.arr 2 [prD (a.begin,b.begin)]::zxb (D.length+6) (zq3 a.sy (λp=>opB op (a.accB p.1) (b.accB p.2)) (a.exD b)) O1 O2 fi bs)/\FirstBy a b (a.exD b).1 fi bs/\∀ L,zza L O1=true/\zza L O2=true:=by
 rw [zz2 (fn:=Tryz.f69) (show Q.P.funcs[69]? =some Tryz.f69 from Tryz.func69) rfl ykk rfl (by simp only [tzd,tze];decide) (by kernel_rfl)];have gp:=xmy;simp [ykk,Tryz.f69,zym] at gp;have hop:=xxn h1 h4;have hbk:∀ k,base<=D.length+k:=λk=>by omega
 have hhi:=ha.hi;have hlo:=ha.lo;have hla:=ha.len;have hlb:=hb'.len;have r117:(Q.ann 117).raw=true:=by rw [ys1]
 have r115:(Q.ann 115).raw=true:=by rw [ye0]
 have r89:(Q.ann 89).raw=false:=by rw [ysy]
 have hl:(D++zu7 op a b).length=D.length+5:=by simp [-List.map_set,zu7]
 obtain ⟨O1,O2,fi,bs,hex,hfb,hO⟩:=xkj a.sy.toNat 100000 (a.begin,b.begin) (a.succD b) (λp=>opB op (a.accB p.1) (b.accB p.2)) (yl6 a b) (ymb a b) (a.exD b).1 (a.exD b).2 118 119 [] [.ref D.length 0 0,.ref (D.length+1) 0 0] [] [.ref (D.length+3) 0 0,.ref (D.length+4) 0 0,.ref D.length 0 0,.ref (D.length+1) 0 0] base (D++zu7 op a b)
  (zlo ha hb' hN) (zr1 ha hb') (λs hs t ht=>zof ha hb' hs ht) (λs=>zkz) (by omega) (by omega) (by omega) (by omega)
  (by
   rw [List.drop_append_of_le_length hb,List.all_append,tzc]
   refine ⟨?_,by simp [-List.map_set,zu7,yz6,zys]⟩
   rw [tzx] at hob ⊢
   intro x hx
   exact zyo (by simp [-List.map_set]) x (hob x hx)) (by simp [-List.map_set]) (by simp [-List.map_set,hl]) (by simp [-List.map_set]) (by simp [-List.map_set,hl]) (by rw [ys2])
  (λx c o hx ho=>by
   obtain ⟨rfl,hc⟩:=zdu ho
   refine ⟨(a.go x.1 c,b.go x.2 c),λX=>?_,.inl rfl⟩
   exact xkr a b ha hb' hsy x hx.1.2 hx.2.2 c hc base D.length (D.length+1) (D++zu7 op a b++X) (by simp [-List.map_set,zu7]) (by simp [-List.map_set,zu7]))
  (λX x hx=>by
   have e1:=hx.1.2
   have e2:=hx.2.2
   exact xks (xrq op) (opB op) hop.1 a b x (by omega) (by omega) base (D.length+3) (D.length+4) D.length (D.length+1) (D++zu7 op a b++X) (by simp [-List.map_set,zu7]) (by simp [-List.map_set,zu7]) (by simp [-List.map_set,zu7]) (by simp [-List.map_set,zu7]))
 refine ⟨O1,O2,fi,bs,?_,hfb.first,hO⟩;have h89:=λx D'=>w89 x base D';simp only [zzn,zze] at h89;have h115:=λD'=>xkq base D';simp only [zu7,yz6,prD,zzn,zze,tyd,txo,ty2,tz5,tzd,tze,Int.toNat_of_nonneg (show 0<=a.sy by omega),zzr] at hex;rw [show ((100000:Nat):Int)=100000 from rfl] at hex;simp [-List.map_set,gp,zqb,zua,zqc,hop.2,hb,hbk,h89,h115,r89,r115,r117,hex,yz6,zu7];simp [-List.map_set,zxb,zq3,txq]
end Go.Dv
namespace Go.Dv
open Go Go.Sim Go.Proofs Go.Fsa
attribute [local simp] zwo zxi zzn zz0 zz1 zya zzv zz5 zzf zz8 zz6 zzt zz4 prD
structure Turn (l W:List Int) (i:Nat):Prop where
 len:W.length=l.length
 get:∀ t,t<l.length->W[t]? =if t<i∨l.length<=t+i then l[l.length-1-t]? else l[t]?
theorem Turn.start {l:List Int}:Turn l l 0:=⟨rfl,λt h=>by rw [if_neg (by omega)]⟩
theorem Turn.at {l W:List Int} {i:Nat} (h:Turn l W i) (hi:i+1+i<l.length):W[i]? =l[i]?/\W[l.length-1-i]? =l[l.length-1-i]?:=by
 rw [h.get i (by omega),h.get (l.length-1-i) (by omega),if_neg (by omega),if_neg (by omega)];exact ⟨rfl,rfl⟩
theorem Turn.step {l W:List Int} {i:Nat} (h:Turn l W i) (hi:i+1+i<l.length) {x y:Int} (hx:l[i]? =some x) (hy:l[l.length-1-i]? =some y):Turn l ((W.set i y).set (l.length-1-i) x) (i+1):=by
 have hl:=h.len;refine ⟨by simp [-List.map_set,hl],λt ht=>?_⟩;by_cases h1:t=l.length-1-i
 .subst h1;rw [tz1 (by simp [-List.map_set];omega),if_pos (by omega),show l.length-1-(l.length-1-i)=i by omega,hx]
 rw [tz4 (by omega)];by_cases h2:t=i
 .subst h2;rw [tz1 (by omega),if_pos (by omega),hy]
 rw [tz4 (by omega),h.get t ht];by_cases h3:t<i∨l.length<=t+i
 .rw [if_pos h3,if_pos (by omega)]
 rw [if_neg h3,if_neg (by omega)]
theorem Turn.done {l W:List Int} {i:Nat} (h:Turn l W i) (hi:¬i+1+i<l.length):W=l.reverse:=by
 refine ty8 λt=>?_;by_cases ht:t<l.length
 .rw [h.get t ht,List.getElem?_reverse ht];split
  .rfl
  rw [show l.length-1-t=t by omega]
 rw [tzt (by rw [h.len];omega),tzt (by simp [-List.map_set];omega)]
theorem zqd {base o:Nat} {D:DH} (h:(D.drop base).all (zza D.length)=true) (W:List Int):zyg base D.length (D.set o (.app 3 1 (W.map zzf)))=true:=by
 unfold zyg;rw [tzx] at h ⊢;intro x hx;obtain ⟨i,hi⟩:=List.mem_iff_getElem?.1 (ty3 hx);rw [tyj] at hi;by_cases e:o=base+i
 .subst e;have hlt:=zyr hi;rw [tz3] at hlt;rw [tz1 hlt,tza] at hi;subst hi;rw [zvc,tzx];intro y hy;obtain ⟨z,_,rfl⟩:=tyg.1 hy;rfl
 .rw [tz4 e] at hi;exact h x (List.mem_iff_getElem?.2 ⟨i,by rw [tyj];exact hi⟩)
theorem w71 (l:List Int) (h1:1<=l.length) (hl:l.length<1000000) (o base:Nat) (D:DH) (hb:base<=o) (hob:(D.drop base).all (zza D.length)=true) (ho:D[o]? =some (.app 3 1 (l.map zzf))) :
  ∃ v,zzg Q 71 [.apl o l.length] base D=some (v,D.set o (.app 3 1 (l.reverse.map zzf))):=by
 have hol:=zyr ho
 have hD:D=D.set o (.app 3 1 (l.map zzf)):=by
  refine ty8 λt=>?_;by_cases e:t=o
  .subst e;rw [tz1 hol,ho]
  .rw [tz4 (by omega)]
 obtain ⟨L,hL⟩:∃ L,L=D.length:=⟨_,rfl⟩;have hOK:∀ W:List Int,zyg base L (D.set o (.app 3 1 (W.map zzf)))=true:=λW=>by rw [hL];exact zqd hob W
 have hbL:base<=L:=by omega
 have hoL:o<L:=by omega
 have hLD:L<=D.length:=by omega
 have hts:∀ X:DObj,List.take L (D.set o X)=D.set o X:=λX=>tzk (by rw [tz3];omega);rw [zz2 (fn:=Tryz.f71) (show Q.P.funcs[71]? =some Tryz.f71 from Tryz.func71) rfl yw6 rfl (by simp only [tzd,tze];decide) (by kernel_rfl)];have gp:=xnz;simp [yw6,Tryz.f71,zym] at gp;simp [-getElem?_pos,-List.map_set,gp,ho,hb,hol,zy9 (show -9223372036854775808<=(l.length:Int)-1 by omega) (show (l.length:Int)-1<=9223372036854775807 by omega)];rw [show D.length=L from hL.symm,show (l.map zzf).reverse=l.reverse.map zzf from List.map_reverse.symm]
 conv=>enter [1,v,1];rw [hD]
 rw [if_pos ⟨hOK l,hbL⟩];generalize hs44:SD.mk _ _=sd44;revert sd44;refine wl (λp:Nat×Int×List Int=>⟨((Trie.leaf.put 3 (zze p.2.1)).put 2 (zze p.1)).put 0 (.apl o l.length),D.set o (.app 3 1 (p.2.2.map zzf))⟩) (λp=>p.1<=l.length/\p.2.1=(l.length:Int)-1-p.1/\Turn l p.2.2 p.1) (λp=>l.length-p.1) ?_ (0,(l.length:Int)-1,l) ⟨by omega,by simp [-getElem?_pos,-List.map_set],.start⟩;rintro ⟨i,j,W⟩ ⟨hi,hj,ht⟩ ih;simp only at hi hj ht ih;have hWl:=ht.len;have hsl:(D.set o (.app 3 1 (W.map zzf))).length=L:=by rw [tz3,hL]
 have hget:(D.set o (.app 3 1 (W.map zzf)))[o]? =some (.app 3 1 (W.map zzf)):=tz1 hol;rw [zzj];by_cases hlt:i+1+i<l.length
 .obtain ⟨m,hm⟩:∃ m:Nat,m=l.length-1-i:=⟨_,rfl⟩;obtain rfl:j=(m:Int):=by omega
  obtain ⟨a1,a2⟩:=ht.at hlt;obtain ⟨x,hx⟩:∃ x,l[i]? =some x:=⟨_,tzb (by omega)⟩;obtain ⟨y,hy⟩:∃ y,l[l.length-1-i]? =some y:=⟨_,tzb (by omega)⟩;have hT:=ht.step hlt hx hy;rw [hx] at a1;rw [hy,<-hm] at a2;rw [<-hm] at hT;have a3:(W.set i y)[m]? =some y:=by rw [tz4 (by omega)];exact a2
  have ih':=ih (i+1,(m:Int)-1,(W.set i y).set m x) ⟨by omega,by simp only;omega,hT⟩ (by simp only;omega);simp [-getElem?_pos,-List.map_set] at ih';simp [-getElem?_pos,-List.map_set,gp,hget,hOK,hbL,hb,hsl,hWl,hol,hoL,hLD,hts,a1,a2,a3,show (i:Int)<m by omega,show i<m by omega,show m<l.length by omega,show i<l.length by omega,zzi (show i+1<=9223372036854775807 by omega),zy9 (show -9223372036854775808<=(m:Int)-1 by omega) (show (m:Int)-1<=9223372036854775807 by omega)];exact ih'
 .have e:=ht.done hlt;subst e;simp [-getElem?_pos,-List.map_set,gp,hget,hsl,show ¬(i:Int)<j by omega]
theorem xnk (o base:Nat) (D:DH) (hb:base<=o) (hob:(D.drop base).all (zza D.length)=true) (ho:D[o]? =some (.arr 1 [])):∃ v,zzg Q 71 [.row o 0 0 0] base D=some (v,D):=by
 have hol:=zyr ho;have hOK:zyg base D.length D=true:=(by have:=zwv (k:=0) (X:=[]) (show base<=D.length by omega) hob;simpa [-getElem?_pos,-List.map_set] using this);rw [zz2 (fn:=Tryz.f71) (show Q.P.funcs[71]? =some Tryz.f71 from Tryz.func71) rfl yw6 rfl (by simp only [tzd,tze];decide) (by kernel_rfl)];have gp:=xnz;simp [yw6,Tryz.f71,zym] at gp;simp [-getElem?_pos,-List.map_set,gp,ho,hb,hol,hOK,show base<=D.length by omega,yol];rw [zzj];simp [-getElem?_pos,-List.map_set,gp,ho]
end Go.Dv
namespace Go.Dv
open Go Go.Sim Go.Proofs Go.Fsa
attribute [local simp] zwo zxi zzn zz0 zz1 zya zzv zz5 zzf zz8 zz6 zzt zz4 prD zxv zxw zxx yz5
theorem xxo {b k:Nat} {D:DH} {l:List Int}:zsq (frz b D (k+1)) (l.map zzf).reverse=some ((l.map zf4).reverse,[]):=by rw [<-List.map_reverse,zz5,List.map_reverse]
def zi0 (a b:Aut) (L:Nat) (l:List Bool) (rows:List (List Int)) (O1 O2:DObj) (fi bs:List Int) (x:DObj):DH:=[.arr 4 [zzn a],.arr 4 [zzn b],.arr 4 [zzn a],.arr 4 [zzn b],.arr 5 [yz6],.arr 1 [.fn 137 [] []],.arr 1 [.fn 116 [] []],.arr 2 [prD (a.begin,b.begin)],.arr 5 [.agg [zze a.sy,.apl (L+13) l.length,.apl (L+14) l.length,qV (L+11) l.length,qV (L+12) l.length]],O1,O2,qO 3 1 (fi.map zzf),qO 3 1 (bs.map zzf),.app 4 1 (l.map zz8),.app 26 1 (rows.map zyq),x]
theorem zh6 (fi bs:List Int):∀ F n:Nat,(zvd fi bs F n).length<=F
 | 0,n=>by simp [-List.map_set,zvd]
 | F+1,n=>by
  simp only [zvd];split
  .simp [-List.map_set]
  have:=zh6 fi bs F ((fi[n]?).getD 0).toNat;simp only [tzd];omega
theorem xkt (a b:Aut) (ha:a.valid) (hb:b.valid) (hsy:a.sy=b.sy) (hN:(a.nxt.length+1)*(b.nxt.length+1)<=100000) (base:Nat) (D:DH) :
  ∃ (is:Bool) (w:List Int),w.length<=100000/\zzg Q 27 [zzn a,zzn b] base D=some (.tup [zyq w,zzr is,zze 0],D)/\((is=false/\w=[]/\∀ p∈(a.exD b).1,a.accB p.1=b.accB p.2)∨(is=true/\∃ (n:Nat) (p:Int×Int) (fi bs:List Int),FirstBy a b (a.exD b).1 fi bs/\w=(zvd fi bs n n).reverse/\n<(a.exD b).1.length/\(a.exD b).1[n]? =some p/\a.accB p.1≠b.accB p.2/\∀ m p',m<n->(a.exD b).1[m]? =some p'->a.accB p'.1=b.accB p'.2)):=by
 have hla:=ha.len;have hlb:=hb.len;have hma:=ha.most;have hmb:=hb.most;have h68:=λbb D'=>w68 a b (by omega) (by omega) bb D';rw [if_pos ⟨Aut.check_valid.2 ha,Aut.check_valid.2 hb⟩,if_pos hsy] at h68;simp only [zzn,zze] at h68;obtain ⟨O1,O2,fi,bs,h69,hfb,hO⟩:=w69 4 (by omega) (by omega) a b ha hb hsy hN D.length (D++[.arr 4 [zzn a],.arr 4 [zzn b]]) (by simp [-getElem?_pos,-List.map_set]) (by simp [-getElem?_pos,-List.map_set,zys]);simp only [zzn,zze,zzr,tz5,tzd,tze,zq3,show opB 4=λx y=>x != y from rfl,show ((4:Nat):Int)=4 from rfl] at h69;have r69:(Q.ann 69).raw=true:=by rw [ykk]
 have r68:(Q.ann 68).raw=false:=by rw [ys3]
 have r70:(Q.ann 70).raw=false:=by rw [xwo]
 have hlen:(a.exD b).1.length<=100000:=(by obtain ⟨d1,d2⟩:=zne (dom:=yl6 a b) (λs hs t ht=>zof ha hb hs ht) (λs hs=>by rw [tzw] at hs;rw [hs];exact zr1 ha hb) (by simp [-getElem?_pos,-List.map_set]) (zlo ha hb hN);exact tys (zfd d1 (by simpa [-getElem?_pos,-List.map_set] using d2)) hN);obtain ⟨l,hl⟩:∃ l,l=(a.exD b).1.map λp=>a.accB p.1 != b.accB p.2:=⟨_,rfl⟩;have hll:l.length=(a.exD b).1.length:=by rw [hl];simp [-getElem?_pos,-List.map_set]
 rw [<-hl] at h69;simp only [zxb,show xrq 4=137 from rfl,zu7,yz6,zzn,prD,zze,tyd,txo,ty2] at h69;obtain ⟨r,h70,hr⟩:=w70 l (by omega) (D.length+13) D.length _ (show (D++[DObj.arr 4 [zzn a],.arr 4 [zzn b],.arr 4 [zzn a],.arr 4 [zzn b],.arr 5 [yz6],.arr 1 [.fn 137 [] []],.arr 1 [.fn 116 [] []],.arr 2 [prD (a.begin,b.begin)],.arr 5 [.agg [zze a.sy,.apl (D.length+2+6+5) l.length,.apl (D.length+2+6+6) l.length,qV (D.length+2+6+3) l.length,qV (D.length+2+6+4) l.length]],O1,O2,qO 3 1 (fi.map zzf),qO 3 1 (bs.map zzf),.app 4 1 (l.map zz8),.app 26 1 ((a.exD b).2.map zyq)])[D.length+13]? =some (.app 4 1 (l.map zz8)) by simp [-getElem?_pos,-List.map_set]);simp only [zzn,yz6,prD,zze,zzr,txq,Nat.reduceAdd] at h70;simp only [txq,Nat.reduceAdd] at h69;by_cases hneg:r<0
 .have hall:∀ p∈(a.exD b).1,a.accB p.1=b.accB p.2:=λp hp=>by
   have:=hr.none hneg (a.accB p.1 != b.accB p.2) (by rw [hl];exact List.mem_map_of_mem hp);simpa [-getElem?_pos,-List.map_set] using this
  refine ⟨false,[],by simp [-getElem?_pos,-List.map_set],?_,.inl ⟨rfl,rfl,hall⟩⟩;rw [zzb (fn:=Tryz.f27) (show Q.P.funcs[27]? =some Tryz.f27 from Tryz.func27) rfl yce rfl (by simp only [tzd,tze];decide) (by kernel_rfl)];simp [-getElem?_pos,-List.map_set,h68,r68,r69,r70,h69,h70,hneg]
 obtain ⟨n,rfl⟩:∃ n:Nat,r=n:=⟨r.toNat,by omega⟩;have hn:=hr.some (by omega);rw [tym] at hn;have hnl:=zzy hn;obtain ⟨p,hp⟩:∃ p,(a.exD b).1[n]? =some p:=⟨_,tzb (by omega)⟩;have hd:a.accB p.1≠b.accB p.2:=(by rw [hl,tzr,hp] at hn;simpa [-getElem?_pos,-List.map_set] using hn);refine ⟨true,(zvd fi bs n n).reverse,by rw [List.length_reverse];have:=zh6 fi bs n n;omega,?_,.inr ⟨rfl,n,p,fi,bs,hfb,rfl,by omega,hp,hd,λm p' hm hp'=>?_⟩⟩;rotate_left
 .have:=hr.fst (by omega) (a.accB p'.1 != b.accB p'.2) (by
   rw [tym]
   refine tzg (i:=m) ?_
   rw [tyb,if_pos hm,hl,tzr,hp'];rfl)
  simpa [-getElem?_pos,-List.map_set] using this
 rw [zzb (fn:=Tryz.f27) (show Q.P.funcs[27]? =some Tryz.f27 from Tryz.func27) rfl yce rfl (by simp only [tzd,tze];decide) (by kernel_rfl)];simp [-getElem?_pos,-List.map_set,h68,r68,r69,r70,h69,h70,hneg,(hO _).1,(hO _).2];have hfl:=hfb.lf;have hbl:=hfb.lb;by_cases hz:n=0
 .subst hz;rw [zzj];obtain ⟨v,hrev⟩:=xnk (D.length+15) D.length (D++zi0 a b D.length l (a.exD b).2 O1 O2 fi bs (.arr 1 [])) (by omega) (by simp [-getElem?_pos,-List.map_set,zi0,zys,zvc,(hO _).1,(hO _).2,yz6]) (by simp [-getElem?_pos,-List.map_set,zi0]);simp only [zi0,yz6,prD,zzn,zze,tyd,txo,ty2] at hrev;have r71:(Q.ann 71).raw=true:=by rw [yw6]
  simp [-getElem?_pos,-List.map_set,hrev,r71,zvd]
 obtain ⟨i0,c0,p0,f1,f2,f3,_⟩:=hfb.get n (by omega) (by omega);rw [zzj];simp [-getElem?_pos,-List.map_set,f1,f2,show fi.length=l.length by omega,show bs.length=l.length by omega,(hO _).1,(hO _).2,hnl,show 0<n by omega,show (0:Int)<n by omega,zqa,zy1];have hw0:∀ F,zvd fi bs F 0=[]:=λF=>by cases F<;>simp [-getElem?_pos,-List.map_set,zvd]
 have hw1:∀ F m i c,0<m->fi[m]? =some (i:Int)->bs[m]? =some (c:Int)->zvd fi bs (F+1) m=(c:Int)::zvd fi bs F i.toNat:=λF m i c h1 h2 h3=>by
  simp only [zvd,if_neg (show ¬m=0 by omega),h2,h3,tye]
 have hstart:[(c0:Int)]++zvd fi bs (n-1) i0=zvd fi bs n n:=(by obtain ⟨m,rfl⟩:∃ m,n=m+1:=⟨n-1,by omega⟩;rw [hw1 m (m+1) i0 c0 (by omega) f1 f2];rfl);generalize hs45:SD.mk _ _=sd45;revert sd45;refine wl (λp:Nat×List Int=>⟨((Trie.leaf.put 11 (.apl (D.length+15) p.2.length)).put 10 (zze p.1)).put 8 (.ref (D.length+8) 0 0),D++zi0 a b D.length l (a.exD b).2 O1 O2 fi bs (.app 3 1 (p.2.map zzf))⟩) (λp=>1<=p.2.length/\p.2.length+p.1<=n/\∃ F,p.1<=F/\p.2++zvd fi bs F p.1=zvd fi bs n n) (λp=>p.1) ?_ (i0,[(c0:Int)]) ⟨by simp [-getElem?_pos,-List.map_set],by simp [-getElem?_pos,-List.map_set];omega,n-1,by simp only;omega,hstart⟩;rintro ⟨s,out⟩ ⟨ho1,ho2,F,hF,hw⟩ ih;simp only at ho1 ho2 hF hw ih;rw [zzj];by_cases hs:s=0
 .subst hs;rw [hw0,tyv] at hw;subst hw;obtain ⟨v,hrev⟩:=w71 (zvd fi bs n n) ho1 (by omega) (D.length+15) D.length (D++zi0 a b D.length l (a.exD b).2 O1 O2 fi bs (.app 3 1 ((zvd fi bs n n).map zzf))) (by omega) (by simp [-getElem?_pos,-List.map_set,zi0,zys,zvc,(hO _).1,(hO _).2,yz6,zqa,zy1]) (by simp [-getElem?_pos,-List.map_set,zi0]);have r71:(Q.ann 71).raw=true:=by rw [yw6]
  simp only [zi0,yz6,prD,zzn,zze,tyd,txo,ty2] at hrev ⊢;simp [-getElem?_pos,-List.map_set,hrev,r71,xxo]
 obtain ⟨i,c,q,e1,e2,e3,_⟩:=hfb.get s (by omega) (by omega);obtain ⟨F,rfl⟩:∃ F',F=F'+1:=⟨F-1,by omega⟩;rw [hw1 F s i c (by omega) e1 e2,tym] at hw;have ih':=ih (i,out++[(c:Int)]) ⟨by simp [-getElem?_pos,-List.map_set],by simp [-getElem?_pos,-List.map_set];omega,F,by simp only;omega,by simp only;rw [tyd];exact hw⟩ e3;simp only [zi0,yz6] at ih' ⊢;simp [-getElem?_pos,-List.map_set] at ih';simp [-getElem?_pos,-List.map_set,e1,e2,show fi.length=l.length by omega,show bs.length=l.length by omega,(hO _).1,(hO _).2,show s<l.length by omega,show 0<s by omega,show (0:Int)<s by omega,zqa,zy1,yz6,show 1<=out.length from ho1,show (out.length+1)*8<=1099511627776 by omega,show out.length+1<=1099511627776 by omega,show out.length<=1099511627775 by omega];exact ih'
end Go.Dv
set_option maxHeartbeats 4000000
namespace Go.Dv
open Go Go.Sim Go.Proofs Go.Fsa
attribute [local simp] zwo zxi zzn zz0 zz1 zya zzv zz5 zzf zz8 zz6 zzt zz4 zzq zwc
attribute [local simp] yeh yei yej
attribute [local simp] zxv zxw zxk zxx
end Go.Dv
namespace Go.Dv
open Go Go.Sim Go.Proofs Go.Fsa
attribute [local simp] zwo zxi zzn zz0 zz1 zya zzv zz5 zzf zz8 zz6 zzt zz4 zzq
def FnW (g:FuncId) (a b:List DV) (D:DH) (l:List (List Int)) (p:List Int->Bool):Prop:=zzo D.length a=true/\zzo D.length b=true/\∀ (x:List Int) (base:Nat),x∈l->zzg Q g (a++.f (.lst (x.map zf4))::b) base D=some (.f (.raw (.bool (p x))),D)
theorem xku (l:List (List Int)) (hl:l.length<1152921504606846976) (g:FuncId) (a b:List DV) (p:List Int->Bool) (base:Nat) (D:DH) (hp:FnW g a b D l p):zzg Q 121 [.f (.lst (l.map zx2)),.fn g a b] base D=some (zze (((l.findIdx? p).map λn=>(n:Int)).getD (-1)),D):=by
 obtain ⟨ka,kb,hp⟩:=hp;rw [zzb (fn:=Tryz.f121) (show Q.P.funcs[121]? =some Tryz.f121 from Tryz.func121) rfl xw2 rfl (by simp only [tzd,tze];decide) (by kernel_rfl)];simp [-getElem?_pos,-List.map_set,ka,kb];generalize hs48:SD.mk _ _=sd48;revert sd48;refine wl (λi:Nat=>⟨(((Trie.leaf.put 8 (zze i)).put 7 (zze l.length)).put 1 (.fn g a b)).put 0 (.f (.lst (l.map zx2))),D⟩) (λi=>i<=l.length/\∀ j x,j<i->l[j]? =some x->p x=false) (λi=>l.length-i) ?_ 0 ⟨by omega,λj x h=>by omega⟩;intro i ⟨hi,ht⟩ ih;rw [zzj];by_cases hlt:i<l.length
 .obtain ⟨x,hx⟩:∃ x,l[i]? =some x:=⟨_,tzb hlt⟩;have hp':=λbb=>hp x bb (tzg hx);cases hpx:p x with
  | false=>
   have ih':=ih (i+1) ⟨by omega,λj y hj hy=>by
    by_cases h:j=i
    .subst h;rw [hx] at hy;cases hy;exact hpx
    .exact ht j y (by omega) hy⟩ (by omega)
   simp [-getElem?_pos,-List.map_set] at ih';simp [-getElem?_pos,-List.map_set,ka,kb,hlt,hx,hp',hpx,zzi (show i+1<=9223372036854775807 by omega)];exact ih'
  | true=>
   have hf:l.findIdx? p=some i:=(by rw [List.findIdx?_eq_some_iff_getElem];rw [tzb hlt,tza] at hx;exact ⟨hlt,by rw [hx];exact hpx,λj hj=>by rw [ht j _ hj (tzb (by omega))];simp [-getElem?_pos,-List.map_set]⟩);simp [-getElem?_pos,-List.map_set,ka,kb,hlt,hx,hp',hpx,hf]
 .have hf:l.findIdx? p=none:=(by rw [ty6];intro x hx;obtain ⟨j,hj,rfl⟩:=tyn hx;exact ht j _ (by omega) (tzb hj));simp [-getElem?_pos,-List.map_set,hlt,hf]
theorem w80 (l:List (List Int)) (hl:l.length<1152921504606846976) (g:FuncId) (a b:List DV) (p:List Int->Bool) (base:Nat) (D:DH) (hp:FnW g a b D l p):zzg Q 80 [.f (.lst (l.map zx2)),.fn g a b] base D=some (zzr (l.any p),D):=by
 have h:=λbb=>xku l hl g a b p bb D hp;rw [zzb (fn:=Tryz.f80) (show Q.P.funcs[80]? =some Tryz.f80 from Tryz.func80) rfl xqy rfl (by simp only [tzd,tze];decide) (by kernel_rfl)];simp only [zze] at h;cases hf:l.findIdx? p with
 | none=>
  have:l.any p=false:=(by rw [ty6] at hf;simpa [-List.map_set] using hf);rw [hf] at h;simp [-List.map_set,h,hf,this]
 | some i=>
  have:l.any p=true:=(by rw [List.findIdx?_eq_some_iff_getElem] at hf;obtain ⟨h1,h2,_⟩:=hf;exact List.any_eq_true.2 ⟨_,List.getElem_mem h1,h2⟩);rw [hf] at h;simp [-List.map_set,h,hf,this]
theorem w81 (D X:DH) (sy:Int) (l:List (List Int)) (hl:∀ w∈l,w.length<1152921504606846976) (o:Nat) (ho:D[o]? =some (.arr 1 [.f (.raw (.int .i64 sy))])):FnW 81 [] [.ref o 0 0] D l (λw=>!yfp sy w):=by
 refine ⟨by simp [-List.map_set],by simp [-List.map_set,zyr ho],λx base hx=>?_⟩;rw [ty2];have h60:=λbb=>w60 sy x (hl x hx) bb D;simp only [zze,zyq,zx2,zzr] at h60;rw [zzb (fn:=Tryz.f81) (show Q.P.funcs[81]? =some Tryz.f81 from Tryz.func81) rfl xqz rfl (by simp only [tzd,tze];decide) (by kernel_rfl)];simp [-List.map_set,ho,h60,yfp]
end Go.Dv
