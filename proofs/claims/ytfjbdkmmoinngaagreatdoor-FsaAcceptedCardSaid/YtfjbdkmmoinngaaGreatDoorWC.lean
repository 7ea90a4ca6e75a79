/- Texts of this proof, part WC. -/
import Derived.Test.YtfjbdkmmoinngaaGreatDoorWB
import Derived.Test.YtfjbdkmmoinngaaGreatDoorDvB
import Derived.Test.YtfjbdkmmoinngaaGreatDoorPure
set_option linter.unusedVariables false
set_option linter.unusedSimpArgs false
set_option linter.unusedSectionVars false
noncomputable section
set_option maxRecDepth 100000
set_option maxHeartbeats 4000000
namespace Go.Fsa
def zlu (a b:Aut) (op:Int):Aut×Int:=if a.valid/\b.valid then (if a.sy=b.sy/\1<=op/\op<=4 then ((zi4 (Dv.opB op.toNat) a b).can,0) else (⟨0,0,[],[]⟩,1)) else (⟨0,0,[],[]⟩,60)
def zbh (a:Aut):Aut×Int:=if a.valid then ((zqy a).can,0) else (⟨0,0,[],[]⟩,60)
end Go.Fsa
namespace Go.Dv
open Go Go.Sim Go.Proofs Go.Fsa
attribute [local simp] zwq zwp zzp zz6 zz7 zyg zzz zyb zzf zz4 zyd zzy zye
theorem w33 (a b:Aut) (op:Int) (ha:a.nxt.length<1152921504606846976) (hb:b.nxt.length<1152921504606846976) (hN:a.valid->b.valid->(a.nxt.length+1)*(b.nxt.length+1)<=20000) (base:Nat) (D:DH) :
  zzh Q 33 [zzp a,zzp b,zze op] base D=some (zp3 (zlu a b op).1 (zlu a b op).2,D):=by
 rw [zzb (fn:=Tryz.f33) (show Q.P.funcs[33]? =some Tryz.f33 from Tryz.func33) rfl xre rfl (by simp only [tzd,tze];decide) (by kernel_rfl)]
 have h68:=λbb D'=>w68 a b ha hb bb D'
 simp only [zzp,zze] at h68
 have r68:(Q.ann 68).raw=false:=by rw [ydw]
 by_cases hv:a.valid/\b.valid
 case neg=>
  rw [if_neg (by rw [Aut.check_valid,Aut.check_valid];exact hv)] at h68
  have e:zlu a b op=(⟨0,0,[],[]⟩,60):=by unfold zlu;rw [if_neg hv]
  rw [e]
  simp (maxSteps:=2000000) [-getElem?_pos,-List.map_set,h68,r68,zp3]
 obtain ⟨va,vb⟩:=hv
 have hN:=hN va vb
 rw [if_pos ⟨Aut.check_valid.2 va,Aut.check_valid.2 vb⟩] at h68
 by_cases hsy:a.sy=b.sy
 case neg=>
  rw [if_neg hsy] at h68
  have e:zlu a b op=(⟨0,0,[],[]⟩,1):=by unfold zlu;rw [if_pos ⟨va,vb⟩,if_neg λh=>hsy h.1]
  rw [e]
  simp (maxSteps:=2000000) [-getElem?_pos,-List.map_set,h68,r68,zp3]
 rw [if_pos hsy] at h68
 by_cases ho:1<=op/\op<=4
 case neg=>
  have e:zlu a b op=(⟨0,0,[],[]⟩,1):=by unfold zlu;rw [if_pos ⟨va,vb⟩,if_neg λh=>ho h.2]
  rw [e]
  by_cases h1:op<1
  .simp (maxSteps:=2000000) [-getElem?_pos,-List.map_set,h68,r68,zp3,h1]
  .simp (maxSteps:=2000000) [-getElem?_pos,-List.map_set,h68,r68,zp3,h1,show 4<op by omega]
 obtain ⟨n,rfl⟩:∃ n:Nat,op=n:=⟨op.toNat,by omega⟩
 have e:zlu a b n=((zi4 (opB n) a b).can,0):=by unfold zlu;rw [if_pos ⟨va,vb⟩,if_pos ⟨hsy,ho⟩,tym]
 rw [e]
 obtain ⟨m1,m2,m3⟩:=zf1 va vb hsy hN (yln n)
 obtain ⟨O1,O2,fi,bs,h69,hfb,hO⟩:=w69 n (by omega) (by omega) a b va vb hsy (by omega) D.length (D++[.arr 4 [zzp a],.arr 4 [zzp b],.arr 4 [.agg [zzf 0,zzf 0,zyw,zyw]]]) (by simp [-getElem?_pos,-List.map_set]) (by rw [zxh];simp [-getElem?_pos,-List.map_set,zxk])
 obtain ⟨m,hm⟩:∃ m,m=zi4 (opB n) a b:=⟨_,rfl⟩
 have hml:m.acc.length<=20000:=by have:=m1.most;rw [hm];omega
 have hm':ztf a.sy (λp=>opB n (a.accB p.1) (b.accB p.2)) (a.exD b)=m:=hm.symm
 rw [hm'] at h69
 rw [<-hm] at m1 m2 ⊢
 have hb0:=zqi m2 (show m.st=0 by rw [hm];rfl)
 have h61:=λbb=>w61 m m m1 m1.fine rfl m2 (by omega) (λw=>by rw [hb0]) (D.length+9) (D.length+14) (D.length+15) (qV (D.length+12) m.acc.length) (qV (D.length+13) m.acc.length) bb (D++[.arr 4 [zzp a],.arr 4 [zzp b],.arr 4 [.agg [zzf 0,zzf 0,zyw,zyw]]]++zt4 n a b++.arr 2 [prD (a.begin,b.begin)]::zxu (D.length+9) m O1 O2 fi bs) (by simp [-getElem?_pos,-List.map_set,zxu,zt4]) (by simp [-getElem?_pos,-List.map_set,zxu,zt4]) (by simp [-getElem?_pos,-List.map_set,zxu,zt4])
 obtain ⟨c,hc⟩:∃ c,c=m.can:=⟨_,rfl⟩
 rw [<-hc] at h61 ⊢
 have r69:(Q.ann 69).raw=true:=by rw [ydx]
 simp (maxSteps:=2000000) [-getElem?_pos,-List.map_set,zxu,zp3,zt4,xxa,prD] at h69 h61
 simp (maxSteps:=2000000) [-getElem?_pos,-List.map_set,h68,r68,r69,h69,h61,zp3,ho.1,ho.2,show ¬(n:Int)<1 by omega,show ¬4<(n:Int) by omega,show ¬n<1 by omega,show ¬4<n by omega]
theorem w35 (a:Aut) (ha:a.nxt.length<1152921504606846976) (hN:a.valid->a.nxt.length<20000) (base:Nat) (D:DH) :
  zzh Q 35 [zzp a] base D=some (zp3 (zbh a).1 (zbh a).2,D):=by
 rw [zzb (fn:=Tryz.f35) (show Q.P.funcs[35]? =some Tryz.f35 from Tryz.func35) rfl xxt rfl (by simp only [tzd,tze];decide) (by kernel_rfl)]
 have gp:=xow
 simp [xxt,Tryz.f35,zyr] at gp
 have h18:=λb D=>w18 a ha b D
 simp only [zzp,zze] at h18
 by_cases hv:a.valid
 case neg=>
  have hck:a.check=60:=by simp [-getElem?_pos,-List.map_set,Aut.check,hv]
  have e:zbh a=(⟨0,0,[],[]⟩,60):=by unfold zbh;rw [if_neg hv]
  rw [e]
  simp (maxSteps:=2000000) [-getElem?_pos,-List.map_set,gp,h18,hck,zp3]
 have hck:a.check=0:=Aut.check_valid.2 hv
 have e:zbh a=((zqy a).can,0):=by unfold zbh;rw [if_pos hv]
 rw [e]
 obtain ⟨m1,m2,m3⟩:=zf2 hv (hN hv)
 have r62:(Q.ann 62).raw=true:=by rw [ydu]
 obtain ⟨O1,O2,fi,bs,h62,hO⟩:=w62 a hv D.length (D++[.arr 4 [zzp a],.arr 4 [.agg [zzf 0,zzf 0,zyw,zyw]]]) (by simp [-getElem?_pos,-List.map_set]) (by rw [zxh];simp [-getElem?_pos,-List.map_set,zxk])
 obtain ⟨w,hw⟩:∃ w,w=a.wh:=⟨_,rfl⟩
 obtain ⟨m,hm⟩:∃ m,m=zqy a:=⟨_,rfl⟩
 have hma:m.acc=w.acc.map (!·):=by rw [hm,hw];rfl
 have hmn:m.nxt=w.nxt:=by rw [hm,hw];rfl
 have hms:m.sy=w.sy:=by rw [hm,hw];rfl
 have hml:m.acc.length=w.acc.length:=by rw [hma,tyk]
 have hmo:m.acc.length<=20000:=by have:=m1.most;rw [hm];omega
 rw [<-hm] at m1 m2 ⊢
 rw [<-hw] at h62
 have hb0:=zqi m2 (show m.st=0 by rw [hm];rfl)
 have h61:=λbb=>w61 m m m1 m1.fine rfl m2 (by omega) (λw=>by rw [hb0]) (D.length+3) (D.length+8) (D.length+9) (qV (D.length+6) m.acc.length) (qV (D.length+7) m.acc.length) bb (D++[.arr 4 [zzp a],.arr 4 [.agg [zzf 0,zzf 0,zyw,zyw]],.arr 4 [zzp a]]++zxu (D.length+3) m O1 O2 fi bs) (by simp [-getElem?_pos,-List.map_set,zxu]) (by simp [-getElem?_pos,-List.map_set,zxu]) (by simp [-getElem?_pos,-List.map_set,zxu])
 obtain ⟨c,hc⟩:∃ c,c=m.can:=⟨_,rfl⟩
 rw [<-hc] at h61 ⊢
 simp (maxSteps:=2000000) [-getElem?_pos,-List.map_set,zxu,zp3,txq] at h62 h61
 rw [hml,hmn,hms] at h61
 simp (maxSteps:=2000000) [-getElem?_pos,-List.map_set,gp,h18,hck,h62,r62,zp3]
 have hO':=λL=>And.intro (hO L).1 (hO L).2
 rw [if_pos ⟨(hO _).1,(hO _).2⟩]
 generalize hX:zxi _ _ _=X
 obtain ⟨tm,rfl,t2,t4⟩:∃ tm,X=some (.exit 0,⟨tm,D++[.arr 4 [zzp a],.arr 4 [.agg [zzf 0,zzf 0,zyw,zyw]],.arr 4 [zzp a],.arr 5 [.agg [zze w.sy,.apl (D.length+8) w.acc.length,.apl (D.length+9) w.acc.length,qV (D.length+6) w.acc.length,qV (D.length+7) w.acc.length]],O1,O2,qO 3 1 (fi.map zzf),qO 3 1 (bs.map zzf),.app 4 1 (m.acc.map zz4),.app 26 1 (w.nxt.map zxd)]⟩)/\tm.get 2=some (.ref (D.length+1) 0 0)/\tm.get 4=some (.ref (D.length+3) 0 0):=by
  rw [<-hX]
  clear hX h61
  generalize hs48:SD.mk _ _=sd48
  revert sd48
  refine wl (λp:Nat×List Bool=>⟨(((Trie.leaf.put 17 (zze p.1)).put 16 (zze w.acc.length)).put 4 (.ref (D.length+3) 0 0)).put 2 (.ref (D.length+1) 0 0),D++[.arr 4 [zzp a],.arr 4 [.agg [zzf 0,zzf 0,zyw,zyw]],.arr 4 [zzp a],.arr 5 [.agg [zze w.sy,.apl (D.length+8) w.acc.length,.apl (D.length+9) w.acc.length,qV (D.length+6) w.acc.length,qV (D.length+7) w.acc.length]],O1,O2,qO 3 1 (fi.map zzf),qO 3 1 (bs.map zzf),.app 4 1 (p.2.map zz4),.app 26 1 (w.nxt.map zxd)]⟩) (λp=>p.1<=w.acc.length/\p.2.length=w.acc.length/\∀ j,p.2[j]? =if j<p.1 then m.acc[j]? else w.acc[j]?) (λp=>w.acc.length-p.1) ?_ (0,w.acc) ⟨tz6 _,rfl,λj=>by simp [-getElem?_pos,-List.map_set]⟩
  rintro ⟨i,W⟩ ⟨hi,hWl,hW⟩ ih
  simp only at hi hWl hW ih
  rw [zzi]
  by_cases hlt:i<w.acc.length
  .obtain ⟨x,hx⟩:∃ x,w.acc[i]? =some x:=⟨_,tzb hlt⟩
   have hx':W[i]? =some x:=by rw [hW,if_neg (by omega)];exact hx
   have ih':=ih (i+1,W.set i (!x)) ⟨by simp only;omega,by simp only [tz3];exact hWl,λj=>by
    simp only
    by_cases e:j=i
    .subst e
     rw [tz1 (by omega),if_pos (by omega),hma,tzr,hx];rfl
    .rw [tz4 (by omega),hW]
     by_cases g:j<i
     .rw [if_pos g,if_pos (by omega)]
     .rw [if_neg g,if_neg (by omega)]⟩ (by simp only;omega)
   simp (maxSteps:=2000000) [-getElem?_pos,-List.map_set] at ih'
   simp (maxSteps:=2000000) [-getElem?_pos,-List.map_set,gp,hlt,hx',hWl,hO,(hO _).1,(hO _).2,zqr,zy8,zzg (show i+1<=9223372036854775807 by omega)]
   exact ih'
  .have:W=m.acc:=by
    refine ty8 λj=>?_
    rw [hW]
    by_cases g:j<i
    .rw [if_pos g]
    .rw [if_neg g,tzt (by omega),tzt (by omega)]
   subst this
   simp (maxSteps:=2000000) [-getElem?_pos,-List.map_set,gp,hlt]
 clear hX
 simp (maxSteps:=2000000) [-getElem?_pos,-List.map_set,gp,t2,t4,h61]
 trace_state
end Go.Dv
namespace Go.Dv
open Go Go.Sim Go.Proofs Go.Fsa
attribute [local simp] zwq zwp zz6 zz7 zyg zzz zyb zzf zz4 zyd zzy zye
theorem xmq (x:Int) (base:Nat) (D:DH):zzh Q 161 [zze x] base D=some (zzu false,D):=by
 rw [zzb (fn:=Tryz.f161) (show Q.P.funcs[161]? =some Tryz.f161 from Tryz.func161) rfl xx8 rfl (by simp only [tzd,tze];decide) (by kernel_rfl)]
 simp (maxSteps:=2000000) [-getElem?_pos,-List.map_set]
theorem xmr (x y:Int) (base:Nat) (D:DH):zzh Q 150 [zze x,zze y] base D=some (zzu (decide (x<y)),D):=by
 rw [zzb (fn:=Tryz.f150) (show Q.P.funcs[150]? =some Tryz.f150 from Tryz.func150) rfl yel rfl (by simp only [tzd,tze];decide) (by kernel_rfl)]
 have h161:=λx bb D'=>xmq x bb D'
 simp only [zze,zzu] at h161
 simp (maxSteps:=2000000) [-getElem?_pos,-List.map_set,h161]
theorem ixS {b:ByteArray} {i:Nat} {k:IntKind} (h:i<b.data.toList.length):zw6 Tryz.prog 9 (some (.f (.raw (.string b)))) (some (.f (.raw (.int k (i:Nat)))))=some (.f (.raw (.int .u8 ((((b.data.toList[i]?).getD 0).toNat:Nat):Int)))):=by
 have e:zmv Tryz.prog 9 (.string b) (.int k (i:Nat))=some (.int .u8 ((((b.data.toList[i]?).getD 0).toNat:Nat):Int)):=by
  show (Tryz.prog.underlying 9).bind (zjt Tryz.prog (.string b) i)=_
  rw [show Tryz.prog.underlying 9=some .string by kernel_rfl]
  show (b.data.toList[i]?).map ymf=_
  rw [tzb h]
  rfl
 unfold zw6
 simp only
 rw [if_pos (show zkm _=true from rfl),e]
 rfl
theorem xms {H:Hp} {n:Nat} (hn:n<256):zx7 Tryz.prog H 178 5 (.int .u64 n)=some (.int .u8 n):=by
 rw [zh3 (j:=.u64) (k:=.u8) (by kernel_rfl) (by kernel_rfl)]
 congr 2
 show ((n:Int) % 256)=n
 omega
theorem xps {H:Hp} {n:Nat} (hn:n<256):zx7 Tryz.prog H 5 3 (.int .u8 n)=some (.int .i64 n):=by
 rw [zh3 (j:=.u8) (k:=.i64) (by kernel_rfl) (by kernel_rfl),zwf (by omega) (by omega)]
theorem xmt (n:Nat) (hn:n<256) (base:Nat) (D:DH):∃ k:Int,zzh Q 154 [.f (.raw (.int .u64 n))] base D=some (zze k,D):=by
 rw [zzb (fn:=Tryz.f154) (show Q.P.funcs[154]? =some Tryz.f154 from Tryz.func154) rfl xx7 rfl (by simp only [tzd,tze];decide) (by kernel_rfl)]
 have h8:∀ c:UInt8,c.toNat<256:=λc=>c.toNat_lt
 have cv58':∀ H,zx7 Tryz.prog H 178 5 (.int .u64 n)=some (.int .u8 n):=λH=>xms hn
 have cv53':∀ H (c:UInt8),zx7 Tryz.prog H 5 3 (.int .u8 (c.toNat:Nat))=some (.int .i64 (c.toNat:Nat)):=λH c=>xps (h8 c)
 simp (maxSteps:=2000000) [-getElem?_pos,-List.map_set,show ¬(4294967296:Int)<=n by omega,show ¬(65536:Int)<=n by omega,show ¬(256:Int)<=n by omega,cv58',cv53',ixS,hn]
theorem xon (n:Nat) (hn:n<256) (base:Nat) (D:DH):∃ k:Int,zzh Q 139 [.f (.raw (.int .u64 n))] base D=some (zze k,D):=by
 obtain ⟨k,hk⟩:=xmt n hn D.length D
 refine ⟨k,?_⟩
 rw [zzb (fn:=Tryz.f139) (show Q.P.funcs[139]? =some Tryz.f139 from Tryz.func139) rfl xx5 rfl (by simp only [tzd,tze];decide) (by kernel_rfl)]
 simp only [zze] at hk
 simp (maxSteps:=2000000) [-getElem?_pos,-List.map_set,hk]
structure AtApp (D:DH) (base o:Nat) (l:List Int):Prop where
 b:base<=o
 ob:(D.drop base).all (zza D.length)=true
 o:D[o]? =some (.app 3 1 (l.map zzf))
theorem AtApp.len {D:DH} {base o:Nat} {l:List Int} (h:AtApp D base o l):o<D.length:=zxc h.o
theorem AtApp.eq {D:DH} {base o:Nat} {l:List Int} (h:AtApp D base o l):D=D.set o (.app 3 1 (l.map zzf)):=by
 refine ty8 λt=>?_
 by_cases e:t=o
 .subst e;rw [tz1 h.len,h.o]
 .rw [tz4 (by omega)]
theorem xpt {R:Option (DV×DH)} {f:List Int->DH} {p q:List Int->Prop} (W:List Int) (hp:p W) (hq:q W) (h:∃ v,R=some (v,f W)):∃ v W,R=some (v,f W)/\p W/\q W:=let ⟨v,h⟩:=h;⟨v,W,h,hp,hq⟩
theorem xoo {R:Option (BX×SD)} {G:List Int->Trie DV->Option (BX×SD)} {p:List Int->Prop} {T:Trie DV->Prop} (W:List Int) (hp:p W) (h:∃ tm,R=G W tm/\T tm):∃ (tm:Trie DV) (W:List Int),R=G W tm/\p W/\T tm:=let ⟨tm,h,ht⟩:=h;⟨tm,W,h,hp,ht⟩
theorem xmu (l:List Int) (hl:l.length<1000000) (a b:Nat) (hab:a<=b) (hbl:b<=l.length) (o base:Nat) (D:DH) (hA:AtApp D base o l) :
  ∃ v W,zzh Q 144 [.apl o l.length,zze a,zze b] base D=some (v,D.set o (.app 3 1 (W.map zzf)))/\Sw a b l W/\Srt a b W:=by
 have hol:=hA.len
 have hb:=hA.b
 have ho:=hA.o
 obtain ⟨L,hL⟩:∃ L,L=D.length:=⟨_,rfl⟩
 have hOK:∀ W:List Int,zyp base L (D.set o (.app 3 1 (W.map zzf)))=true:=λW=>by rw [hL];exact zmg hA.ob W
 have hbL:base<=L:=by omega
 have hoL:o<L:=by omega
 have hLD:L<=D.length:=by omega
 have hts:∀ X:DObj,List.take L (D.set o X)=D.set o X:=λX=>tzk (by rw [tz3];omega)
 have h150:=λx y bb D'=>xmr x y bb D'
 simp only [zze,zzu] at h150
 have r150:(Q.ann 150).raw=false:=by rw [yel]
 rw [zz2 (fn:=Tryz.f144) (show Q.P.funcs[144]? =some Tryz.f144 from Tryz.func144) rfl zhn rfl (by simp only [tzd,tze];decide) (by kernel_rfl)]
 have gp:=xx6
 simp [zhn,Tryz.f144,zyr] at gp
 simp (maxSteps:=2000000) [-getElem?_pos,-List.map_set,gp,ho,hb,hol,zzg (show a+1<=9223372036854775807 by omega)]
 rw [show D.length=L from hL.symm]
 conv=>enter [1,v,1,W,1,1];rw [hA.eq]
 rw [if_pos ⟨hOK l,hbL⟩]
 generalize hs49:SD.mk _ _=sd49
 revert sd49
 refine wl (λp:Nat×List Int=>⟨(((Trie.leaf.put 6 (zze p.1)).put 2 (zze b)).put 1 (zze a)).put 0 (.apl o l.length),D.set o (.app 3 1 (p.2.map zzf))⟩) (λp=>a+1<=p.1/\(p.1<=b∨p.1=a+1)/\Sw a b l p.2/\Srt a p.1 p.2) (λp=>b-p.1) ?_ (a+1,l) ⟨by simp [-getElem?_pos,-List.map_set],.inr rfl,.refl,λi j x y h1 h2 h3=>by simp only at h3;omega⟩
 rintro ⟨i,W⟩ ⟨hi1,hi2,hsw,hsrt⟩ ih
 simp only at hi1 hi2 hsw hsrt ih
 have hWl:=hsw.len
 have hget:∀ W:List Int,(D.set o (.app 3 1 (W.map zzf)))[o]? =some (.app 3 1 (W.map zzf)):=λW=>tz1 hol
 have hsl:∀ W:List Int,(D.set o (.app 3 1 (W.map zzf))).length=L:=λW=>by rw [tz3,hL]
 rw [zzi]
 by_cases hlt:i<b
 case neg=>
  refine xpt (f:=λW=>D.set o (.app 3 1 (W.map zzf))) W hsw (λp q x y h1 h2 h3=>hsrt p q x y h1 h2 (by omega)) ?_
  simp (maxSteps:=2000000) [-getElem?_pos,-List.map_set,gp,hget,hsl,hlt]
 simp (maxSteps:=2000000) [-getElem?_pos,-List.map_set,gp,hget,hsl,hlt,hb,hOK,hbL,hWl,hol,hoL,hLD,hts]
 generalize hX:zxi _ _ _=X
 obtain ⟨tm,V,rfl,⟨hsw',hsrt'⟩,t0,t1,t2,t6⟩:∃ (tm:Trie DV) (V:List Int),X=some (.exit 2,⟨tm,D.set o (.app 3 1 (V.map zzf))⟩)/\(Sw a b l V/\Srt a (i+1) V)/\tm.get 0=some (.apl o l.length)/\tm.get 1=some (zze a)/\tm.get 2=some (zze b)/\tm.get 6=some (zze i):=by
  rw [<-hX]
  clear hX ih
  generalize hs50:SD.mk _ _=sd50
  revert sd50
  refine wl (λp:Nat×List Int=>⟨((((Trie.leaf.put 7 (zze p.1)).put 6 (zze i)).put 2 (zze b)).put 1 (zze a)).put 0 (.apl o l.length),D.set o (.app 3 1 (p.2.map zzf))⟩) (λp=>a<=p.1/\p.1<=i/\Sw a b l p.2/\Ins a p.1 i p.2) (λp=>p.1) ?_ (i,W) ⟨by simp only;omega,tzp _,hsw,.start hsrt⟩
  rintro ⟨j,V⟩ ⟨hj1,hj2,hsw,hins⟩ ih
  simp only at hj1 hj2 hsw hins ih
  have hVl:=hsw.len
  rw [zzi]
  obtain ⟨v,hv⟩:∃ v,V[j]? =some v:=⟨_,tzb (by omega)⟩
  by_cases hja:a<j
  .obtain ⟨m,hm0⟩:∃ m,m=j-1:=⟨_,rfl⟩
   have hm:(j:Int)-1=(m:Int):=by omega
   obtain ⟨u,hu⟩:∃ u,V[m]? =some u:=⟨_,tzb (by omega)⟩
   by_cases hvu:v<u
   .have hst:=hins.step hja hj2 (by rw [<-hm0];exact hu) hv hvu
    rw [<-hm0] at hst
    have a3:(V.set j u)[m]? =some u:=by rw [tz4 (by omega)];exact hu
    have ih':=ih (m,(V.set j u).set m v) ⟨by simp only;omega,by simp only;omega,.swap hsw ⟨by omega,by omega⟩ ⟨by omega,by omega⟩ hv hu,hst⟩ (by simp only;omega)
    simp (maxSteps:=2000000) [-getElem?_pos,-List.map_set] at ih'
    simp (maxSteps:=2000000) [-getElem?_pos,-List.map_set,gp,hget,hsl,hb,hOK,hbL,hVl,hol,hoL,hLD,hts,hu,hv,hvu,h150,r150,a3,hm,zwf (show -9223372036854775808<=(m:Int) by omega) (show (m:Int)<=9223372036854775807 by omega),hja,show (a:Int)<j by omega,show j<l.length by omega,show m<l.length by omega]
    exact ih'
   .refine xoo (G:=λV tm=>some (.exit 2,⟨tm,D.set o (.app 3 1 (V.map zzf))⟩)) V ⟨hsw,hins.done ⟨by omega,hj2⟩ (.inr λu' v' h1 h2=>by
     rw [<-hm0,hu,tza] at h1
     rw [hv,tza] at h2
     omega) (by omega)⟩ ?_
    simp (maxSteps:=2000000) [-getElem?_pos,-List.map_set,gp,hget,hsl,hb,hOK,hbL,hVl,hol,hoL,hLD,hts,hu,hv,hvu,h150,r150,hm,zwf (show -9223372036854775808<=(m:Int) by omega) (show (m:Int)<=9223372036854775807 by omega),hja,show (a:Int)<j by omega,show j<l.length by omega,show m<l.length by omega]
  .refine xoo (G:=λV tm=>some (.exit 2,⟨tm,D.set o (.app 3 1 (V.map zzf))⟩)) V ⟨hsw,hins.done ⟨by omega,hj2⟩ (.inl (by omega)) (by omega)⟩ ?_
   simp (maxSteps:=2000000) [-getElem?_pos,-List.map_set,gp,hget,hsl,hb,hja]
 clear hX
 have ih':=ih (i+1,V) ⟨by simp only;omega,.inl (by simp only;omega),hsw',hsrt'⟩ (by simp only;omega)
 have hVl:=hsw'.len
 simp (maxSteps:=2000000) [-getElem?_pos,-List.map_set] at ih'
 simp (maxSteps:=2000000) [-getElem?_pos,-List.map_set,gp,hget,hsl,hb,hOK,hbL,hVl,hol,hoL,hLD,hts,t0,t1,t2,t6,zzg (show i+1<=9223372036854775807 by omega)]
 exact ih'
end Go.Dv
namespace Go.Dv
open Go Go.Sim Go.Proofs Go.Fsa
attribute [local simp] zwq zwp zz6 zz7 zyg zzz zyb zzf zz4 zyd zzy zye
theorem xmv (l:List Int) (hl:l.length<1000000) (a b:Nat) (hab:a<=b) (hbl:b<=l.length) (h12:b-a<=12) (lim:Int) (o base:Nat) (D:DH) (hA:AtApp D base o l) :
  ∃ v W,zzh Q 138 [.apl o l.length,zze a,zze b,zze lim] base D=some (v,D.set o (.app 3 1 (W.map zzf)))/\Sw a b l W/\Srt a b W:=by
 obtain ⟨v,W,h144,h1,h2⟩:=xmu l hl a b hab hbl o base D hA
 have hol:=hA.len
 have hb:=hA.b
 have ho:=hA.o
 have hOK:zyp base D.length D=true:=by unfold zyp;rw [tzk (by rw [tyx];exact tzp _)];exact hA.ob
 have hbL:base<=D.length:=by omega
 have r144:(Q.ann 144).raw=true:=by rw [zhn]
 simp only [zze] at h144
 refine xpt (f:=λW=>D.set o (.app 3 1 (W.map zzf))) W h1 h2 ?_
 rw [zz2 (fn:=Tryz.f138) (show Q.P.funcs[138]? =some Tryz.f138 from Tryz.func138) rfl zhm rfl (by simp only [tzd,tze];decide) (by kernel_rfl)]
 have gp:=xx4
 simp [zhm,Tryz.f138,zyr] at gp
 simp (maxSteps:=2000000) [-getElem?_pos,-List.map_set,gp,ho,hb,hol,hOK,hbL]
 rw [zzi]
 simp (maxSteps:=2000000) [-getElem?_pos,-List.map_set,gp,ho,hb,hol,hOK,hbL,h144,r144,zwf (show -9223372036854775808<=(b:Int)-a by omega) (show (b:Int)-a<=9223372036854775807 by omega),show (b:Int)-a<=12 by omega]
theorem xop {H:Hp} {n:Nat} (hn:n<1000000):zx7 Tryz.prog H 3 147 (.int .i64 n)=some (.int .u64 n):=by
 rw [zh3 (j:=.i64) (k:=.u64) (by kernel_rfl) (by kernel_rfl)]
 congr 2
 show ((n:Int) % 18446744073709551616)=n
 omega
theorem xmw (l:List Int) (hl:l.length<=12) (o base:Nat) (D:DH) (hA:AtApp D base o l) :
  ∃ v W,zzh Q 122 [.apl o l.length] base D=some (v,D.set o (.app 3 1 (W.map zzf)))/\Sw 0 l.length l W/\Srt 0 l.length W:=by
 obtain ⟨k,h139⟩:=xon l.length (by omega) base D
 obtain ⟨v,W,h138,h1,h2⟩:=xmv l (by omega) 0 l.length (tz6 _) (tzp _) (by omega) k o base D hA
 refine xpt (f:=λW=>D.set o (.app 3 1 (W.map zzf))) W h1 h2 ?_
 have hol:=hA.len
 have hb:=hA.b
 have ho:=hA.o
 have r138:(Q.ann 138).raw=true:=by rw [zhm]
 have hcv:∀ H,zx7 Tryz.prog H 3 147 (.int .i64 l.length)=some (.int .u64 l.length):=λH=>xop (by omega)
 simp only [zze] at h138 h139
 rw [show ((0:Nat):Int)=0 from rfl] at h138
 rw [zz2 (fn:=Tryz.f122) (show Q.P.funcs[122]? =some Tryz.f122 from Tryz.func122) rfl zev rfl (by simp only [tzd,tze];decide) (by kernel_rfl)]
 simp (maxSteps:=2000000) [-getElem?_pos,-List.map_set,ho,hb,hol,h138,h139,r138,hcv]
theorem xsm (d:DV) (b:Nat) (hb1:b<=1) (base:Nat) (D:DH) (hd:below D.length d=true) (hb:base<=D.length) (hob:(D.drop base).all (zza D.length)=true):∃ v,zzh Q 144 [d,zze 0,zze b] base D=some (v,D):=by
 have hOK:zyp base D.length D=true:=by unfold zyp;rw [tzk (by rw [tyx];exact tzp _)];exact hob
 rw [zz2 (fn:=Tryz.f144) (show Q.P.funcs[144]? =some Tryz.f144 from Tryz.func144) rfl zhn rfl (by simp only [tzd,tze];decide) (by kernel_rfl)]
 have gp:=xx6
 simp [zhn,Tryz.f144,zyr] at gp
 simp (maxSteps:=2000000) [-getElem?_pos,-List.map_set,gp,hOK,hb,hd,show zvm .i64 1=1 by kernel_rfl]
 rw [zzi]
 simp (maxSteps:=2000000) [-getElem?_pos,-List.map_set,gp,show ¬(1:Int)<b by omega]
theorem xsn (d:DV) (b:Nat) (hb1:b<=1) (lim:Int) (base:Nat) (D:DH) (hd:below D.length d=true) (hb:base<=D.length) (hob:(D.drop base).all (zza D.length)=true):∃ v,zzh Q 138 [d,zze 0,zze b,zze lim] base D=some (v,D):=by
 obtain ⟨v,h144⟩:=xsm d b hb1 base D hd hb hob
 have hOK:zyp base D.length D=true:=by unfold zyp;rw [tzk (by rw [tyx];exact tzp _)];exact hob
 have r144:(Q.ann 144).raw=true:=by rw [zhn]
 simp only [zze] at h144
 rw [zz2 (fn:=Tryz.f138) (show Q.P.funcs[138]? =some Tryz.f138 from Tryz.func138) rfl zhm rfl (by simp only [tzd,tze];decide) (by kernel_rfl)]
 have gp:=xx4
 simp [zhm,Tryz.f138,zyr] at gp
 simp (maxSteps:=2000000) [-getElem?_pos,-List.map_set,gp,hOK,hb,hd]
 rw [zzi]
 simp (maxSteps:=2000000) [-getElem?_pos,-List.map_set,gp,hOK,hb,hd,h144,r144,zwf (show -9223372036854775808<=(b:Int) by omega) (show (b:Int)<=9223372036854775807 by omega),show (b:Int)<=12 by omega]
theorem ydp (d:DV) (n:Nat) (hn:n<=1) (base:Nat) (D:DH) (hlen:zix D d=some n) (hd:below D.length d=true) (hb:base<=D.length) (hob:(D.drop base).all (zza D.length)=true):∃ v,zzh Q 122 [d] base D=some (v,D):=by
 obtain ⟨k,h139⟩:=xon n (by omega) base D
 obtain ⟨v,h138⟩:=xsn d n hn k base D hd hb hob
 have r138:(Q.ann 138).raw=true:=by rw [zhm]
 have hcv:∀ H,zx7 Tryz.prog H 3 147 (.int .i64 n)=some (.int .u64 n):=λH=>xop (by omega)
 simp only [zze] at h138 h139
 rw [zz2 (fn:=Tryz.f122) (show Q.P.funcs[122]? =some Tryz.f122 from Tryz.func122) rfl zev rfl (by simp only [tzd,tze];decide) (by kernel_rfl)]
 simp (maxSteps:=2000000) [-getElem?_pos,-List.map_set,hlen,h138,h139,r138,hcv]
end Go.Dv
namespace Go.Dv
open Go Go.Sim Go.Proofs Go.Fsa
attribute [local simp] zwq zwp zz6 zz7 zyg zzz zyb zzf zz4 zyd zzy zye
def xpu (o n k:Nat) (r:DV):Prop:=(r=.apl o n/\k=n)∨(r=.prt o n 0 k/\k<=n)
theorem xpv {R:Option (DV×DH)} {f:List Int->DH} {p:DV->Nat->List Int->Prop} (r:DV) (k:Nat) (X:List Int) (hp:p r k X) (h:R=some (r,f X)):∃ (r:DV) (k:Nat) (X:List Int),R=some (r,f X)/\p r k X:=⟨r,k,X,h,hp⟩
theorem xmx (l:List Int) (hl:l.length<1000000) (hs:Srt 0 l.length l) (o base:Nat) (D:DH) (hA:AtApp D base o l) :
  ∃ (r:DV) (k:Nat) (X:List Int),zzh Q 124 [.apl o l.length] base D=some (r,D.set o (.app 3 1 (X.map zzf)))/\(X.length=l.length/\IsSet (X.take k) l/\xpu o l.length k r):=by
 have hol:=hA.len
 have hb:=hA.b
 have ho:=hA.o
 obtain ⟨L,hL⟩:∃ L,L=D.length:=⟨_,rfl⟩
 have hOK:∀ W:List Int,zyp base L (D.set o (.app 3 1 (W.map zzf)))=true:=λW=>by rw [hL];exact zmg hA.ob W
 have hbL:base<=L:=by omega
 have hoL:o<L:=by omega
 have hLD:L<=D.length:=by omega
 have hts:∀ X:DObj,List.take L (D.set o X)=D.set o X:=λX=>tzk (by rw [tz3];omega)
 have hget:∀ W:List Int,(D.set o (.app 3 1 (W.map zzf)))[o]? =some (.app 3 1 (W.map zzf)):=λW=>tz1 hol
 have hsl:∀ W:List Int,(D.set o (.app 3 1 (W.map zzf))).length=L:=λW=>by rw [tz3,hL]
 have full:(∀ j x y,j+1<l.length->l[j]? =some x->l[j+1]? =some y->x≠y)->l.length=l.length/\IsSet (l.take l.length) l/\xpu o l.length l.length (.apl o l.length):=λh=>by
  have c:=Cmp.first hs (tzp _) h
  exact ⟨rfl,⟨c.up,λx=>by rw [ty0]⟩,.inl ⟨rfl,rfl⟩⟩
 rw [zz2 (fn:=Tryz.f124) (show Q.P.funcs[124]? =some Tryz.f124 from Tryz.func124) rfl zp4 rfl (by simp only [tzd,tze];decide) (by kernel_rfl)]
 have gp:=yd5
 simp [zp4,Tryz.f124,zyr] at gp
 by_cases h2:l.length<2
 .refine xpv (f:=λX=>D.set o (.app 3 1 (X.map zzf))) (.apl o l.length) l.length l (full λj x y h=>by omega) ?_
  rw [<-hA.eq]
  simp (maxSteps:=2000000) [-getElem?_pos,-List.map_set,gp,ho,hb,hol,show (l.length:Int)<2 by omega]
 simp (maxSteps:=2000000) [-getElem?_pos,-List.map_set,gp,ho,hb,hol,show ¬(l.length:Int)<2 by omega]
 rw [show D.length=L from hL.symm]
 conv=>enter [1,r,1,k,1,X,1,1];rw [hA.eq]
 rw [if_pos ⟨hOK l,hbL⟩]
 generalize hs51:SD.mk _ _=sd51
 revert sd51
 refine wl (λi:Nat=>⟨(Trie.leaf.put 3 (zze i)).put 0 (.apl o l.length),D.set o (.app 3 1 (l.map zzf))⟩) (λi=>1<=i/\i<=l.length/\∀ j x y,j+1<i->l[j]? =some x->l[j+1]? =some y->x≠y) (λi=>l.length-i) ?_ 1 ⟨tzp _,by omega,λj x y h=>by omega⟩
 rintro i ⟨hi1,hil,hne⟩ ih
 rw [zzi]
 by_cases hlt:i<l.length
 case neg=>
  have:i=l.length:=by omega
  subst this
  refine xpv (f:=λX=>D.set o (.app 3 1 (X.map zzf))) (.apl o l.length) l.length l (full hne) ?_
  simp (maxSteps:=2000000) [-getElem?_pos,-List.map_set,gp,hget,hsl]
 obtain ⟨y,hy⟩:∃ y,l[i]? =some y:=⟨_,tzb hlt⟩
 obtain ⟨m,hm0⟩:∃ m,m=i-1:=⟨_,rfl⟩
 have hm:(i:Int)-1=(m:Int):=by omega
 obtain ⟨x,hx⟩:∃ x,l[m]? =some x:=⟨_,tzb (by omega)⟩
 have wm:=zwf (show -9223372036854775808<=(m:Int) by omega) (show (m:Int)<=9223372036854775807 by omega)
 by_cases hxy:y=x
 case neg=>
  have ih':=ih (i+1) ⟨by omega,by omega,λj u v hj hu hv=>by
   by_cases e:j+1=i
   .have:j=m:=by omega
    subst this
    rw [hx,tza] at hu
    rw [e,hy,tza] at hv
    exact λg=>hxy (by omega)
   .exact hne j u v (by omega) hu hv⟩ (by omega)
  simp (maxSteps:=2000000) [-getElem?_pos,-List.map_set] at ih'
  simp (maxSteps:=2000000) [-getElem?_pos,-List.map_set,gp,hget,hsl,hb,hOK,hbL,hol,hoL,hLD,hts,hlt,hy,hx,hxy,hm,wm,show m<l.length by omega,zzg (show i+1<=9223372036854775807 by omega)]
  exact ih'
 subst hxy
 clear ih
 have hc:Cmp l l i (i+1):=(Cmp.first hs (by omega) hne).same hi1 (by rw [<-hm0];exact hx) hy
 simp (maxSteps:=2000000) [-getElem?_pos,-List.map_set,gp,hget,hsl,hb,hOK,hbL,hol,hoL,hLD,hts,hlt,hy,hx,hm,wm,show m<l.length by omega,show 0<l.length by omega,show i<=l.length by omega]
 generalize hX:zxi _ _ _=X
 obtain ⟨tm,W,rfl,⟨k,hk,t3,hW⟩,t0⟩:∃ (tm:Trie DV) (W:List Int),X=some (.exit 2,⟨tm,D.set o (.app 3 1 (W.map zzf))⟩)/\(∃ k:Nat,k<=l.length/\tm.get 3=some (zze k)/\Cmp l W k l.length)/\tm.get 0=some (.apl o l.length):=by
  rw [<-hX]
  clear hX
  generalize hs52:SD.mk _ _=sd52
  revert sd52
  refine wl (λp:Nat×Nat×List Int=>⟨(((Trie.leaf.put 5 (zze p.1)).put 4 (.prt o l.length i (l.length-i))).put 3 (zze p.2.1)).put 0 (.apl o l.length),D.set o (.app 3 1 (p.2.2.map zzf))⟩) (λp=>1<=p.1/\i+p.1<=l.length/\p.2.1+1<=i+p.1/\Cmp l p.2.2 p.2.1 (i+p.1)) (λp=>l.length-p.1) ?_ (1,i,l) ⟨tzp _,by simp only;omega,by simp only;omega,hc⟩
  rintro ⟨q,k,W⟩ ⟨hq1,hql,hkq,hC⟩ ih
  simp only at hq1 hql hkq hC ih
  have hWl:=hC.len
  rw [zzi]
  by_cases hqt:q<l.length-i
  case neg=>
   have hqe:i+q=l.length:=by omega
   simp (maxSteps:=2000000) [-getElem?_pos,-List.map_set,gp,hget,hsl,hb,hol,hWl,hqt]
   refine ⟨_,W,⟨rfl,rfl⟩,⟨k,by omega,?_,by rw [<-hqe];exact hC⟩,?_⟩<;>simp [-getElem?_pos,-List.map_set]
  obtain ⟨z,hz⟩:∃ z,l[i+q]? =some z:=⟨_,tzb (by omega)⟩
  obtain ⟨u,hu⟩:∃ u,l[i+q-1]? =some u:=⟨_,tzb (by omega)⟩
  have hz':W[i+q]? =some z:=by rw [hC.rest _ (by omega)];exact hz
  have hu':W[i+q-1]? =some u:=by rw [hC.rest _ (by omega)];exact hu
  obtain ⟨g,hg0⟩:∃ g,g=q-1:=⟨_,rfl⟩
  have hg:(q:Int)-1=(g:Int):=by omega
  have wg:=zwf (show -9223372036854775808<=(g:Int) by omega) (show (g:Int)<=9223372036854775807 by omega)
  have hu2:W[i+g]? =some u:=by rw [show i+g=i+q-1 by omega];exact hu'
  have hwq:=zzg (show q+1<=9223372036854775807 by omega)
  have hwk:=zzg (show k+1<=9223372036854775807 by omega)
  by_cases hzu:z=u
  .have ih':=ih (q+1,k,W) ⟨by simp only;omega,by simp only;omega,by simp only;omega,by simp only;exact hC.same (by omega) hu (by rw [hz,hzu])⟩ (by simp only;omega)
   simp (maxSteps:=2000000) [-getElem?_pos,-List.map_set] at ih'
   simp (maxSteps:=2000000) [-getElem?_pos,-List.map_set,gp,hget,hsl,hb,hOK,hbL,hol,hoL,hLD,hts,hWl,hqt,hz',hu2,hzu,hg,wg,hwq,hwk,show g<l.length-i by omega,show i+q<l.length by omega,show i+g<l.length by omega]
   exact ih'
  .obtain ⟨wk,hwk0⟩:∃ x,W[k]? =some x:=⟨_,tzb (by omega)⟩
   have ih':=ih (q+1,k+1,W.set k z) ⟨by simp only;omega,by simp only;omega,by simp only;omega,by simp only;exact hC.new hs (by omega) (by omega) hu hz hzu⟩ (by simp only;omega)
   simp (maxSteps:=2000000) [-getElem?_pos,-List.map_set] at ih'
   simp (maxSteps:=2000000) [-getElem?_pos,-List.map_set,gp,hget,hsl,hb,hOK,hbL,hol,hoL,hLD,hts,hWl,hqt,hz',hu2,hzu,hg,wg,hwq,hwk,show g<l.length-i by omega,show i+q<l.length by omega,show i+g<l.length by omega,hwk0,show k<l.length by omega]
   exact ih'
 clear hX
 have hWl:=hW.len
 refine xpv (f:=λX=>D.set o (.app 3 1 (X.map zzf))) (.prt o l.length 0 k) k (W.take k++List.replicate (l.length-k) 0) ⟨by simp [-getElem?_pos,-List.map_set];omega,⟨?_,?_⟩,.inr ⟨rfl,hk⟩⟩ ?_
 .rw [txi (by simp [-getElem?_pos,-List.map_set];omega),List.take_take,Nat.min_self];exact hW.up
 .intro x
  rw [txi (by simp [-getElem?_pos,-List.map_set];omega),List.take_take,Nat.min_self,hW.mem,ty0]
 simp (maxSteps:=2000000) [-getElem?_pos,-List.map_set,gp,t0,t3,hget,hsl,hb,hOK,hbL,hol,hoL,hLD,hts,hWl,hk,show 0<l.length by omega]
 rw [List.drop_eq_nil_of_le (by simp [-getElem?_pos,-List.map_set,hWl]),tyv]
end Go.Dv
namespace Go.Dv
open Go Go.Sim Go.Proofs Go.Fsa
attribute [local simp] zwq zwp zz6 zz7 zyg zzz zyb zzf zz4 zyd zzy zye zzt zwh
theorem ylo {P:Program} {t:TypeId} {x y:Operand} {n:Nat}:zsz P .shr t x y (.int .i64 (n:Nat)) (.int .u64 8)=some (.int .i64 ((n / 256:Nat):Int)):=by
 have e:zsz P .shr t x y (.int .i64 (n:Nat)) (.int .u64 8)=some (.int .i64 (Int.fdiv (n:Nat) (2 ^ 8))):=rfl
 rw [e,Int.fdiv_eq_ediv_of_nonneg _ (by decide)]
 congr 2
theorem xso {P:Program} {t:TypeId} {x y:Operand} {n:Nat} (h:n<256):zsz P .shl t x y (.int .i64 (n:Nat)) (.int .u64 8)=some (.int .i64 ((n*256:Nat):Int)):=by
 have e:zsz P .shl t x y (.int .i64 (n:Nat)) (.int .u64 8)=some (.int .i64 (IntKind.i64.wrap ((n:Nat)*2 ^ 8))):=rfl
 rw [e]
 congr 2
 unfold IntKind.wrap
 simp [-getElem?_pos,-List.map_set,IntKind.bits,IntKind.signed]
 omega
theorem xpw {P:Program} {t:TypeId} {x y:Operand} {a b:Nat} (ha:a<256) (hb:b<256):zsz P .or t x y (.int .i64 (a:Nat)) (.int .i64 ((b*256:Nat):Int))=some (.int .i64 ((a+b*256:Nat):Int)):=by
 have e:zsz P .or t x y (.int .i64 (a:Nat)) (.int .i64 ((b*256:Nat):Int))=some (.int .i64 (IntKind.i64.wrap ((BitVec.ofInt 64 (a:Nat) ||| BitVec.ofInt 64 ((b*256:Nat):Int)).toNat:Nat))):=rfl
 have e2:(BitVec.ofInt 64 (a:Nat) ||| BitVec.ofInt 64 ((b*256:Nat):Int)).toNat=a+b*256:=by
  rw [BitVec.toNat_or,BitVec.ofInt_natCast,BitVec.ofInt_natCast,BitVec.toNat_ofNat,BitVec.toNat_ofNat,txu (by omega),txu (by omega),Nat.or_comm,Nat.mul_comm b 256]
  have:=Nat.two_pow_add_eq_or_of_lt (i:=8) (b:=a) (by omega) b
  rw [show (2:Nat) ^ 8=256 from rfl] at this
  omega
 rw [e,e2]
 congr 2
 unfold IntKind.wrap
 simp [-getElem?_pos,-List.map_set,IntKind.bits,IntKind.signed]
 omega
theorem xoq {H:Hp} {n:Nat}:zx7 Tryz.prog H 3 5 (.int .i64 n)=some (.int .u8 ((n % 256:Nat):Int)):=by
 rw [zh3 (j:=.i64) (k:=.u8) (by kernel_rfl) (by kernel_rfl)]
 congr 2
theorem xyv {H:Hp} {n:Nat}:zx7 Tryz.prog H 3 5 (.int .i64 ((n:Int) / 256))=some (.int .u8 ((n:Int) / 256 % 256)):=xoq (n:=n / 256)
theorem xyw {H:Hp} {n:Nat}:zx7 Tryz.prog H 3 5 (.int .i64 (n:Int))=some (.int .u8 ((n:Int) % 256)):=xoq
theorem xmy (s l:List Int) (hs:∀ x∈s,0<=x/\x<65536) (hl:s.length<1000000) (o:Nat) (r:DV) (base:Nat) (D:DH) (ho:D[o]? =some (.app 3 1 (l.map zzf))) (hls:l.take s.length=s) (hr:xpu o l.length s.length r) :
  zzh Q 123 [r] base D=some (rv (zyx (zwt s)),D):=by
 have hol:=zxc ho
 have hget:∀ i x,s[i]? =some x->l[i]? =some x:=λi x hx=>by
  rw [<-hls,tyb] at hx
  split at hx
  .exact hx
  .cases hx
 have g:=λX=>zzc (X:=X) ho
 have hol0:∀ k,o<D.length+k:=λk=>by omega
 rw [zzb (fn:=Tryz.f123) (show Q.P.funcs[123]? =some Tryz.f123 from Tryz.func123) rfl yyw rfl (by simp only [tzd,tze];decide) (by kernel_rfl)]
 rcases hr with ⟨rfl,hk⟩ | ⟨rfl,hk⟩
 .simp (maxSteps:=2000000) [-getElem?_pos,-List.map_set,g,hol,hol0,hk]
  generalize hX:zxi _ _ _=X
  obtain ⟨tm,B,rfl,hB,t3⟩:∃ (tm:Trie DV) (B:List Nat),X=some (.exit 0,⟨tm,D++[.app 5 1 (B.map zy2)]⟩)/\B=ytv s/\tm.get 3=some (.apl D.length B.length):=by
   rw [<-hX]
   clear hX
   generalize hs53:SD.mk _ _=sd53
   revert sd53
   refine wl (λp:Nat×List Nat=>⟨(((Trie.leaf.put 8 (zze p.1)).put 7 (zze l.length)).put 6 (.apl o l.length)).put 3 (.apl D.length p.2.length),D++[.app 5 1 (p.2.map zy2)]⟩) (λp=>p.1<=s.length/\p.2=ytv (s.take p.1)) (λp=>s.length-p.1) ?_ (0,[]) ⟨tz6 _,rfl⟩
   rintro ⟨i,B⟩ ⟨hi,hB⟩ ih
   simp only at hi hB ih
   rw [zzi]
   have hBl:B.length=2*i:=by rw [hB,zl8,tyw];omega
   by_cases hlt:i<s.length
   case neg=>
    rw [tzk (by omega)] at hB
    simp (maxSteps:=2000000) [-getElem?_pos,-List.map_set,g,hol,hol0,hk,hlt,show ¬i<l.length by omega]
    refine ⟨_,B,⟨rfl,rfl⟩,hB,?_⟩
    simp [-getElem?_pos,-List.map_set]
   obtain ⟨x,hx⟩:∃ x,s[i]? =some x:=⟨_,tzb hlt⟩
   obtain ⟨x1,x2⟩:=hs x (tzg hx)
   obtain ⟨n,rfl⟩:∃ n:Nat,x=n:=⟨x.toNat,by omega⟩
   have hlx:=hget i _ hx
   have ih':=ih (i+1,B++[n % 256,n / 256 % 256]) ⟨by simp only;omega,by simp only;rw [tz8,hx,yx8,<-hB];rfl⟩ (by simp only;omega)
   simp (maxSteps:=2000000) [-getElem?_pos,-List.map_set,zy2,hBl] at ih'
   simp (maxSteps:=2000000) [-getElem?_pos,-List.map_set,g,hol,hol0,hk,hlt,hlx,xyv,xyw,ylo,zy2,hBl,show i<l.length by omega,show 2*i+2<=1099511627776 by omega,show 2*i<=1099511627774 by omega,zzg (show i+1<=9223372036854775807 by omega)]
   exact ih'
  clear hX
  have hfin:zwt s=B.map UInt8.ofNat:=by rw [hB];rfl
  rw [hfin]
  simp (maxSteps:=2000000) [-getElem?_pos,-List.map_set,t3,zng]
 .simp (maxSteps:=2000000) [-getElem?_pos,-List.map_set,g,hol,hol0,hk]
  generalize hX:zxi _ _ _=X
  obtain ⟨tm,B,rfl,hB,t3⟩:∃ (tm:Trie DV) (B:List Nat),X=some (.exit 0,⟨tm,D++[.app 5 1 (B.map zy2)]⟩)/\B=ytv s/\tm.get 3=some (.apl D.length B.length):=by
   rw [<-hX]
   clear hX
   generalize hs54:SD.mk _ _=sd54
   revert sd54
   refine wl (λp:Nat×List Nat=>⟨(((Trie.leaf.put 8 (zze p.1)).put 7 (zze s.length)).put 6 (.prt o l.length 0 s.length)).put 3 (.apl D.length p.2.length),D++[.app 5 1 (p.2.map zy2)]⟩) (λp=>p.1<=s.length/\p.2=ytv (s.take p.1)) (λp=>s.length-p.1) ?_ (0,[]) ⟨tz6 _,rfl⟩
   rintro ⟨i,B⟩ ⟨hi,hB⟩ ih
   simp only at hi hB ih
   rw [zzi]
   have hBl:B.length=2*i:=by rw [hB,zl8,tyw];omega
   by_cases hlt:i<s.length
   case neg=>
    rw [tzk (by omega)] at hB
    simp (maxSteps:=2000000) [-getElem?_pos,-List.map_set,g,hol,hol0,hk,hlt]
    refine ⟨_,B,⟨rfl,rfl⟩,hB,?_⟩
    simp [-getElem?_pos,-List.map_set]
   obtain ⟨x,hx⟩:∃ x,s[i]? =some x:=⟨_,tzb hlt⟩
   obtain ⟨x1,x2⟩:=hs x (tzg hx)
   obtain ⟨n,rfl⟩:∃ n:Nat,x=n:=⟨x.toNat,by omega⟩
   have hlx:=hget i _ hx
   have ih':=ih (i+1,B++[n % 256,n / 256 % 256]) ⟨by simp only;omega,by simp only;rw [tz8,hx,yx8,<-hB];rfl⟩ (by simp only;omega)
   simp (maxSteps:=2000000) [-getElem?_pos,-List.map_set,zy2,hBl] at ih'
   simp (maxSteps:=2000000) [-getElem?_pos,-List.map_set,g,hol,hol0,hk,hlt,hlx,xyv,xyw,ylo,zy2,hBl,show i<l.length by omega,show 2*i+2<=1099511627776 by omega,show 2*i<=1099511627774 by omega,zzg (show i+1<=9223372036854775807 by omega)]
   exact ih'
  clear hX
  have hfin:zwt s=B.map UInt8.ofNat:=by rw [hB];rfl
  rw [hfin]
  simp (maxSteps:=2000000) [-getElem?_pos,-List.map_set,t3,zng]
theorem yf5 (d:DV) (hd:d=zyw∨d=.f (.lst [])) (base:Nat) (D:DH):zzh Q 123 [d] base D=some (rv (zyx (zwt [])),D):=by
 have hb:zue []=some []:=rfl
 have hk:zwt []=[]:=rfl
 rcases hd with rfl | rfl
 .rw [zzb (fn:=Tryz.f123) (show Q.P.funcs[123]? =some Tryz.f123 from Tryz.func123) rfl yyw rfl (by simp only [tzd,tze];decide) (by kernel_rfl)]
  simp (maxSteps:=2000000) [-getElem?_pos,-List.map_set]
  rw [zzi]
  simp (maxSteps:=2000000) [-getElem?_pos,-List.map_set,hb,hk]
 .rw [zzb (fn:=Tryz.f123) (show Q.P.funcs[123]? =some Tryz.f123 from Tryz.func123) rfl yyw rfl (by simp only [tzd,tze];decide) (by kernel_rfl)]
  simp (maxSteps:=2000000) [-getElem?_pos,-List.map_set]
  rw [zzi]
  simp (maxSteps:=2000000) [-getElem?_pos,-List.map_set,hb,hk]
theorem yf6 (x:Int) (hx:0<=x/\x<65536) (o:Nat) (base:Nat) (D:DH) (ho:D[o]? =some (.arr 1 [zzf x])):zzh Q 123 [.row o 0 1 1] base D=some (rv (zyx (zwt [x])),D):=by
 have hol:=zxc ho
 have g:=λX=>zzc (X:=X) ho
 have hol0:∀ k,o<D.length+k:=λk=>by omega
 obtain ⟨n,rfl⟩:∃ n:Nat,x=n:=⟨x.toNat,by omega⟩
 have h1:zvm .i64 1=1:=by kernel_rfl
 have hby:zue [DV.f (.raw (.int .u8 ((n:Int) % 256))),DV.f (.raw (.int .u8 ((n:Int) / 256 % 256)))]=some (zwt [(n:Int)]):=zng (l:=[n % 256,n / 256 % 256])
 rw [zzb (fn:=Tryz.f123) (show Q.P.funcs[123]? =some Tryz.f123 from Tryz.func123) rfl yyw rfl (by simp only [tzd,tze];decide) (by kernel_rfl)]
 simp (maxSteps:=2000000) [-getElem?_pos,-List.map_set,g,hol,hol0]
 rw [zzi]
 simp (maxSteps:=2000000) [-getElem?_pos,-List.map_set,g,hol,hol0,xyv,xyw,ylo,h1]
 rw [zzi]
 simp (maxSteps:=2000000) [-getElem?_pos,-List.map_set,g,hol,hol0,hby]
theorem xpx (n:Nat) (hn:n<=65536) (l:List Int) (hl:∀ x∈l,0<=x/\x<(n:Int)) (h1:l.length<=1) (d:DV) (base:Nat) (D:DH) (hlen:zix D d=some l.length) (hd:below D.length d=true) (hb:base<=D.length) (hob:(D.drop base).all (zza D.length)=true)
  (hn':zuw d=d) (h123:∀ bb,zzh Q 123 [d] bb D=some (rv (zyx (zwt l)),D)):zzh Q 87 [d] base D=some (rv (zyx (zwt (zya n l))),D):=by
 obtain ⟨v,h122⟩:=ydp d l.length h1 base D hlen hd hb hob
 have hset:l=zya n l:=by
  refine IsSet.eq ⟨?_,λx=>Iff.rfl⟩ hl
  match l,h1 with
  | [],_=>exact .nil
  | [x],_=>exact List.pairwise_singleton _ _
 have r122:(Q.ann 122).raw=true:=by rw [zev]
 have r124:(Q.ann 124).raw=true:=by rw [zp4]
 have h124:zzh Q 124 [d] base D=some (d,D):=by
  rw [zz2 (fn:=Tryz.f124) (show Q.P.funcs[124]? =some Tryz.f124 from Tryz.func124) rfl zp4 rfl (by simp only [tzd,tze];decide) (by kernel_rfl)]
  have gp:=yd5
  simp [zp4,Tryz.f124,zyr] at gp
  simp (maxSteps:=2000000) [-getElem?_pos,-List.map_set,gp,hlen,show (l.length:Int)<2 by omega,hn']
 rw [<-hset]
 rw [zz2 (fn:=Tryz.f87) (show Q.P.funcs[87]? =some Tryz.f87 from Tryz.func87) rfl zlf rfl (by simp only [tzd,tze];decide) (by kernel_rfl)]
 have gp:=xp6
 simp [zlf,Tryz.f87,zyr] at gp
 simp (maxSteps:=2000000) [-getElem?_pos,-List.map_set,gp,h122,h123,h124,hn',r122,r124]
theorem ylp (n:Nat) (hn:n<=65536) (base:Nat) (D:DH) (hb:base<=D.length) (hob:(D.drop base).all (zza D.length)=true):zzh Q 87 [zyw] base D=some (rv (zyx (zwt (zya n []))),D):=by
 obtain ⟨v,h122⟩:=ydp zyw 0 (tz6 _) base D rfl xsv hb hob
 have hset:zya n []=[]:=by simp [-getElem?_pos,-List.map_set,zya]
 have r122:(Q.ann 122).raw=true:=by rw [zev]
 have r124:(Q.ann 124).raw=true:=by rw [zp4]
 have h124:zzh Q 124 [zyw] base D=some (zyw,D):=by
  rw [zz2 (fn:=Tryz.f124) (show Q.P.funcs[124]? =some Tryz.f124 from Tryz.func124) rfl zp4 rfl (by simp only [tzd,tze];decide) (by kernel_rfl)]
  have gp:=yd5
  simp [zp4,Tryz.f124,zyr] at gp
  simp (maxSteps:=2000000) [-getElem?_pos,-List.map_set,gp,]
 have h123:=λbb=>yf5 zyw (.inl rfl) bb D
 rw [hset]
 rw [zz2 (fn:=Tryz.f87) (show Q.P.funcs[87]? =some Tryz.f87 from Tryz.func87) rfl zlf rfl (by simp only [tzd,tze];decide) (by kernel_rfl)]
 have gp:=xp6
 simp [zlf,Tryz.f87,zyr] at gp
 simp (maxSteps:=2000000) [-getElem?_pos,-List.map_set,gp,h122,h123,h124,r122,r124]
theorem xyx (n:Nat) (hn:n<=65536) (x:Int) (hx:0<=x/\x<(n:Int)) (o:Nat) (base:Nat) (D:DH) (ho:D[o]? =some (.arr 1 [zzf x])) (hb:base<=D.length) (hob:(D.drop base).all (zza D.length)=true):zzh Q 87 [.row o 0 1 1] base D=some (rv (zyx (zwt (zya n [x]))),D):=
 xpx n hn [x] (λy h=>by rw [tzw] at h;rw [h];exact hx) (tzp _) (.row o 0 1 1) base D (by simp [-getElem?_pos,-List.map_set,ho]) (by rw [yxd];exact decide_eq_true (zxc ho)) hb hob (by simp [-getElem?_pos,-List.map_set]) λbb=>yf6 x ⟨hx.1,by omega⟩ o bb D ho
theorem AtApp.set {D:DH} {base o:Nat} {l:List Int} (h:AtApp D base o l) (W:List Int):AtApp (D.set o (.app 3 1 (W.map zzf))) base o W:=by
 refine ⟨h.b,?_,tz1 h.len⟩
 have:=zmg (o:=o) h.ob W
 unfold zyp at this
 rw [tzk (by rw [tyx,tz3];exact tzp _)] at this
 rw [tz3]
 exact this
theorem w87 (n:Nat) (hn:n<=65536) (l:List Int) (hl:∀ x∈l,0<=x/\x<(n:Int)) (h12:l.length<=12) (o base:Nat) (D:DH) (hA:AtApp D base o l) :
  ∃ X:List Int,zzh Q 87 [.apl o l.length] base D=some (rv (zyx (zwt (zya n l))),D.set o (.app 3 1 (X.map zzf))):=by
 obtain ⟨v,W,h122,hsw,hsrt⟩:=xmw l h12 o base D hA
 have hWl:=hsw.len
 rw [<-hWl] at hsrt
 obtain ⟨r,k,X,h124,hXl,hset,hr⟩:=xmx W (by omega) hsrt o base _ (hA.set W)
 rw [List.set_set] at h124
 have hk:k<=X.length:=by rcases hr with ⟨_,h⟩ | ⟨_,h⟩<;>omega
 have hsl:(X.take k).length=k:=by rw [tyw];omega
 have hss:IsSet (X.take k) l:=⟨hset.up,λx=>(hset.mem x).trans (hsw.mem x)⟩
 have h123:=λbb=>xmy (X.take k) X (λx hx=>by have:=hl x ((hss.mem x).1 hx);omega) (by omega) o r bb (D.set o (.app 3 1 (X.map zzf))) (tz1 hA.len) (by rw [hsl]) (by rw [hsl,hXl];exact hr)
 rw [hss.eq hl] at h123
 refine ⟨X,?_⟩
 have r122:(Q.ann 122).raw=true:=by rw [zev]
 have r124:(Q.ann 124).raw=true:=by rw [zp4]
 rw [hWl] at h124
 have hn':zuw r=r:=by rcases hr with ⟨rfl,_⟩ | ⟨rfl,_⟩<;>rfl
 rw [zz2 (fn:=Tryz.f87) (show Q.P.funcs[87]? =some Tryz.f87 from Tryz.func87) rfl zlf rfl (by simp only [tzd,tze];decide) (by kernel_rfl)]
 simp (maxSteps:=2000000) [-getElem?_pos,-List.map_set,h122,h123,h124,hn',r122,r124]
end Go.Dv
namespace Go.Dv
open Go Go.Sim Go.Proofs Go.Fsa
attribute [local simp] zwq zwp zz6 zz7 zyg zzz zyb zzf zz4 zyd zzy zye zzt zwh
theorem ixB {l:List UInt8} {i:Nat} {k:IntKind} {c:UInt8} (h:l[i]? =some c):zw6 Tryz.prog 9 (some (.f (.raw (zyx l)))) (some (.f (.raw (.int k (i:Nat)))))=some (.f (.raw (.int .u8 ((c.toNat:Nat):Int)))):=by
 have e:=ixS (b:=⟨l.toArray⟩) (i:=i) (k:=k) (by simpa [-getElem?_pos,-List.map_set] using zzw h)
 have h':((⟨l.toArray⟩:ByteArray).data.toList)[i]? =some c:=by simpa [-getElem?_pos,-List.map_set] using h
 rw [h',tye] at e
 exact e
theorem zep {D:DH} {l:List UInt8}:zbl D (.f (.raw (zyx l))) (some 0)=some (rv (zka l.length)):=rfl
theorem zvx {l:List UInt8}:zuw (.f (.raw (zyx l)))=.f (.raw (zyx l)):=rfl
attribute [local simp] zvx
theorem xsp {P:Program} {t:TypeId} {x y:Operand} {n:Nat} (h:n<1000000):zsz P .quo t x y (.int .i64 (2*(n:Int))) (.int .i64 2)=some (.int .i64 n):=by
 have e:zsz P .quo t x y (.int .i64 (2*(n:Int))) (.int .i64 2)=some (.int .i64 (zvm .i64 ((2*(n:Int)).tdiv 2))):=rfl
 have e2:(2*(n:Int)).tdiv 2=n:=by rw [Int.tdiv_eq_ediv_of_nonneg (by omega)];omega
 rw [e,e2,zwf (by omega) (by omega)]
theorem xmz (s:List Int) (hs:∀ x∈s,0<=x/\x<65536) (hl:s.length<1000000) (base:Nat) (D:DH):zzh Q 102 [rv (zyx (zwt s))] base D=some (zxd s,D):=by
 have hk:=yg0 (s:=s)
 have hq:=λ(t:TypeId) (x y:Operand)=>xsp (P:=Tryz.prog) (t:=t) (x:=x) (y:=y) hl
 rw [zzb (fn:=Tryz.f102) (show Q.P.funcs[102]? =some Tryz.f102 from Tryz.func102) rfl yyv rfl (by simp only [tzd,tze];decide) (by kernel_rfl)]
 have gp:=xrk
 simp [yyv,Tryz.f102,zyr] at gp
 simp (maxSteps:=2000000) [-getElem?_pos,-List.map_set,gp,zep,hk,hq,show s.length<=140737488355328 by omega,show s.length*8<=140737488355328 by omega,show s.length<9223372036854775808 by omega]
 have hrep:List.replicate s.length (DV.f (.raw (.int .i64 0)))=(List.replicate s.length (0:Int)).map zzf:=zr3
 rw [hrep]
 generalize hs55:SD.mk _ _=sd55
 revert sd55
 refine wl (λp:Nat×List Int=>⟨((Trie.leaf.put 4 (zze ((2*p.1:Nat):Int))).put 3 (.row D.length 0 p.1 s.length)).put 0 (rv (zyx (zwt s))),D++[.arr 1 (p.2.map zzf)]⟩) (λp=>p.1<=s.length/\p.2.length=s.length/\p.2.take p.1=s.take p.1) (λp=>s.length-p.1) ?_ (0,List.replicate s.length 0) ⟨tz6 _,by simp [-getElem?_pos,-List.map_set],rfl⟩
 rintro ⟨i,W⟩ ⟨hi,hWl,hW⟩ ih
 simp only at hi hWl hW ih
 rw [zzi]
 by_cases hlt:i<s.length
 case neg=>
  have:i=s.length:=by omega
  subst this
  rw [ty0,tzk (by omega)] at hW
  subst hW
  simp (maxSteps:=2000000) [-getElem?_pos,-List.map_set,gp,zep,hk]
  rw [tzk (by simp [-getElem?_pos,-List.map_set])]
  exact ⟨_,zyb⟩
 obtain ⟨x,hx⟩:∃ x,s[i]? =some x:=⟨_,tzb hlt⟩
 obtain ⟨a,b,ha,hb,hab⟩:=yg1 hs hx
 subst hab
 have ia:zw6 Tryz.prog 9 (some (.f (.raw (zyx (zwt s))))) (some (.f (.raw (.int .i64 (2*(i:Int))))))=some (.f (.raw (.int .u8 ((a.toNat:Nat):Int)))):=ixB (k:=.i64) ha
 have ib:zw6 Tryz.prog 9 (some (.f (.raw (zyx (zwt s))))) (some (.f (.raw (.int .i64 (2*(i:Int)+1)))))=some (.f (.raw (.int .u8 ((b.toNat:Nat):Int)))):=ixB (k:=.i64) hb
 have a8:=a.toNat_lt
 have b8:=b.toNat_lt
 have hor:∀ (t:TypeId) (x y:Operand),zsz Tryz.prog .or t x y (.int .i64 (a.toNat:Nat)) (.int .i64 ((b.toNat:Int)*256))=some (.int .i64 ((a.toNat:Int)+(b.toNat:Int)*256)):=λ(t:TypeId) (x y:Operand)=>xpw (P:=Tryz.prog) (t:=t) (x:=x) (y:=y) (show a.toNat<256 from a8) (show b.toNat<256 from b8)
 have hshl:∀ (t:TypeId) (x y:Operand),zsz Tryz.prog .shl t x y (.int .i64 (b.toNat:Nat)) (.int .u64 8)=some (.int .i64 ((b.toNat:Int)*256)):=λ(t:TypeId) (x y:Operand)=>xso (P:=Tryz.prog) (t:=t) (x:=x) (y:=y) (show b.toNat<256 from b8)
 have cva:∀ H,zx7 Tryz.prog H 5 3 (.int .u8 (a.toNat:Nat))=some (.int .i64 (a.toNat:Nat)):=λH=>xps a8
 have cvb:∀ H,zx7 Tryz.prog H 5 3 (.int .u8 (b.toNat:Nat))=some (.int .i64 (b.toNat:Nat)):=λH=>xps b8
 have ih':=ih (i+1,W.set i ((a.toNat+b.toNat*256:Nat):Int)) ⟨by simp only;omega,by simp only [tz3];exact hWl,by simp only;rw [zrf (by omega),hW,tz8,hx];rfl⟩ (by simp only;omega)
 have hput:List.take i (W.map zzf)++DV.f (.raw (.int .i64 ((a.toNat:Int)+(b.toNat:Int)*256)))::List.drop (i+1) (W.map zzf)=(W.set i ((a.toNat:Int)+(b.toNat:Int)*256)).map zzf:=by
  rw [List.set_eq_take_append_cons_drop,if_pos (by omega)]
  simp [-getElem?_pos,-List.map_set]
 simp (maxSteps:=2000000) [-getElem?_pos,-List.map_set] at ih'
 simp (maxSteps:=2000000) [-getElem?_pos,-List.map_set,gp,hput,show (i+1)*8<=1099511627776 by omega,show i<=1099511627775 by omega,show i<=s.length by omega,zep,hk,hlt,ia,ib,cva,cvb,hor,hshl,hWl,show 2*(i:Int)<2*s.length by omega,show i+1<=s.length by omega,zwf (show -9223372036854775808<=2*(i:Int)+1 by omega) (show 2*(i:Int)+1<=9223372036854775807 by omega),zwf (show -9223372036854775808<=2*(i:Int)+2 by omega) (show 2*(i:Int)+2<=9223372036854775807 by omega)]
 exact ih'
end Go.Dv
namespace Go.Dv
open Go Go.Sim Go.Proofs Go.Fsa
attribute [local simp] zwq zwp zzp zz6 zz7 zyg zzz zyb zzf zz4 zyd zzy zye zzt zwh zvx
theorem xs2 {s:List Int} (hs:∀ x∈s,0<=x/\x<65536) (hl:s.length<1000000) {base:Nat} {D:DH}:zzh Q 102 [.f (.raw (zyx (zwt s)))] base D=some (.f (.lst (s.map yxf)),D):=xmz s hs hl base D
theorem w92 (a:Aut) (hv:a.valid) (s:List Int) (hs:inA a s) (hl:s.length<1000000) (c:Nat) (hc:(c:Int)<a.sy) (base:Nat) (D:DH) (hb:base<=D.length) (hob:(D.drop base).all (zza D.length)=true) :
  zzh Q 92 [zzp a,rv (zyx (zwt s)),zze c] base D=some (.apl (D.length+1) (zmq a s c).length,D++[.arr 4 [zzp a],.app 3 1 ((zmq a s c).map zzf)]):=by
 have hbk:∀ k,base<=D.length+k:=λk=>by omega
 have hOK:∀ k X,zyp base (D.length+k) (D++X)=(X.take k).all (zza (D.length+k)):=λk X=>zxx hb hob
 have h102:=λbb D'=>xs2 (base:=bb) (D:=D') (hs.hi hv) hl
 have r102:(Q.ann 102).raw=false:=by rw [yyv]
 rw [zz2 (fn:=Tryz.f92) (show Q.P.funcs[92]? =some Tryz.f92 from Tryz.func92) rfl yd1 rfl (by simp only [tzd,tze];decide) (by kernel_rfl)]
 simp (maxSteps:=2000000) [-getElem?_pos,-List.map_set,h102,hb,hbk,hOK]
 generalize hs56:SD.mk _ _=sd56
 revert sd56
 refine wl (λp:Nat×List Int=>⟨(((((Trie.leaf.put 14 (zze p.1)).put 13 (zze s.length)).put 12 (zxd s)).put 7 (.apl (D.length+1) p.2.length)).put 3 (.ref D.length 0 0)).put 2 (zze c),D++[.arr 4 [zzp a],.app 3 1 (p.2.map zzf)]⟩) (λp=>p.1<=s.length/\p.2=zmq a (s.take p.1) c) (λp=>s.length-p.1) ?_ (0,[]) ⟨tz6 _,rfl⟩
 rintro ⟨i,W⟩ ⟨hi,hW⟩ ih
 simp only at hi hW ih
 have hWl:W.length<=i:=by rw [hW];exact tys zf4 (by rw [tyw];omega)
 rw [zzi]
 by_cases hlt:i<s.length
 case neg=>
  rw [tzk (by omega)] at hW
  subst hW
  simp (maxSteps:=2000000) [-getElem?_pos,-List.map_set,hb,hbk,hOK,hlt]
 obtain ⟨x,hx⟩:∃ x,s[i]? =some x:=⟨_,tzb hlt⟩
 obtain ⟨x1,x2⟩:=hs x (tzg hx)
 obtain ⟨n,rfl⟩:∃ n:Nat,x=n:=⟨x.toNat,by omega⟩
 obtain ⟨r,hr,ht⟩:=a.go_some hv x1 x2 hc
 rw [tym] at hr
 have hT:zmq a (s.take (i+1)) c=W++if 0<=a.go n c then [a.go n c] else []:=by rw [tz8,hx,hW];exact yn7
 by_cases hg:0<=a.go n c
 .have ih':=ih (i+1,W++[a.go n c]) ⟨by simp only;omega,by simp only;rw [hT,if_pos hg]⟩ (by simp only;omega)
  simp (maxSteps:=2000000) [-getElem?_pos,-List.map_set] at ih'
  simp (maxSteps:=2000000) [-getElem?_pos,-List.map_set,hb,hbk,hOK,hlt,hx,hr,ht,hg,show (W.length+1)*8<=1099511627776 by omega,show W.length<=1099511627775 by omega,zzg (show i+1<=9223372036854775807 by omega)]
  exact ih'
 .have ih':=ih (i+1,W) ⟨by simp only;omega,by simp only;rw [hT,if_neg hg,tyv]⟩ (by simp only;omega)
  simp (maxSteps:=2000000) [-getElem?_pos,-List.map_set] at ih'
  simp (maxSteps:=2000000) [-getElem?_pos,-List.map_set,hb,hbk,hOK,hlt,hx,hr,ht,hg,zzg (show i+1<=9223372036854775807 by omega)]
  exact ih'
theorem xm0 (a:Aut) (hv:a.valid) (o:Nat) (x:Nat) (hx:x<a.nxt.length) (base:Nat) (D:DH) (ho:D[o]? =some (.arr 4 [zzp a])):zzh Q 125 [zze x,.ref o 0 0] base D=some (zzu (a.accB x),D):=by
 have hl:=hv.len
 obtain ⟨b,hb⟩:∃ b,a.acc[x]? =some b:=⟨_,tzb (by omega)⟩
 rw [zzb (fn:=Tryz.f125) (show Q.P.funcs[125]? =some Tryz.f125 from Tryz.func125) rfl xx2 rfl (by simp only [tzd,tze];decide) (by kernel_rfl)]
 simp (maxSteps:=2000000) [-getElem?_pos,-List.map_set,ho,hb,Aut.accB]
theorem w98 (a:Aut) (hv:a.valid) (o:Nat) (x:Nat) (hx:x<a.nxt.length) (base:Nat) (D:DH) (ho:D[o]? =some (.arr 4 [zzp a])):zzh Q 98 [zze x,.ref o 0 0] base D=some (zzu (a.accB x),D):=by
 have hl:=hv.len
 obtain ⟨b,hb⟩:∃ b,a.acc[x]? =some b:=⟨_,tzb (by omega)⟩
 rw [zzb (fn:=Tryz.f98) (show Q.P.funcs[98]? =some Tryz.f98 from Tryz.func98) rfl xri rfl (by simp only [tzd,tze];decide) (by kernel_rfl)]
 simp (maxSteps:=2000000) [-getElem?_pos,-List.map_set,ho,hb,Aut.accB]
theorem xpy (l:List Int) (hl:l.length<1152921504606846976) (g:FuncId) (a b:List DV) (p:Int->Bool) (o base:Nat) (D:DH) (hp:FnB g a b D l p) (ho:D[o]? =some (.app 3 1 (l.map zzf))):zzh Q 120 [.apl o l.length,.fn g a b] base D=some (zze (((l.findIdx? p).map λn=>(n:Int)).getD (-1)),D):=by
 obtain ⟨ka,kb,hp⟩:=hp
 have hol:=zxc ho
 rw [zzb (fn:=Tryz.f120) (show Q.P.funcs[120]? =some Tryz.f120 from Tryz.func120) rfl yea rfl (by simp only [tzd,tze];decide) (by kernel_rfl)]
 simp (maxSteps:=2000000) [-getElem?_pos,-List.map_set,ka,kb,ho,hol]
 generalize hs57:SD.mk _ _=sd57
 revert sd57
 refine wl (λi:Nat=>⟨(((Trie.leaf.put 8 (zze i)).put 7 (zze l.length)).put 1 (.fn g a b)).put 0 (.apl o l.length),D⟩) (λi=>i<=l.length/\∀ j x,j<i->l[j]? =some x->p x=false) (λi=>l.length-i) ?_ 0 ⟨by omega,λj x h=>by omega⟩
 intro i ⟨hi,ht⟩ ih
 rw [zzi]
 by_cases hlt:i<l.length
 .obtain ⟨x,hx⟩:∃ x,l[i]? =some x:=⟨_,tzb hlt⟩
  have hp':=λbb=>hp x bb (tzg hx)
  cases hpx:p x with
  | false=>
   have ih':=ih (i+1) ⟨by omega,λj y hj hy=>by
    by_cases h:j=i
    .subst h;rw [hx] at hy;cases hy;exact hpx
    .exact ht j y (by omega) hy⟩ (by omega)
   simp (maxSteps:=2000000) [-getElem?_pos,-List.map_set] at ih'
   simp (maxSteps:=2000000) [-getElem?_pos,-List.map_set,ka,kb,ho,hol,hlt,hx,hp',hpx,zzg (show i+1<=9223372036854775807 by omega)]
   exact ih'
  | true=>
   have hf:l.findIdx? p=some i:=by
    rw [List.findIdx?_eq_some_iff_getElem]
    rw [tzb hlt,tza] at hx
    exact ⟨hlt,by rw [hx];exact hpx,λj hj=>by rw [ht j _ hj (tzb (by omega))];simp [-getElem?_pos,-List.map_set]⟩
   simp (maxSteps:=2000000) [-getElem?_pos,-List.map_set,ka,kb,ho,hol,hlt,hx,hp',hpx,hf]
 .have hf:l.findIdx? p=none:=by
   rw [ty6]
   intro x hx
   obtain ⟨j,hj,rfl⟩:=tyn hx
   exact ht j _ (by omega) (tzb hj)
  simp (maxSteps:=2000000) [-getElem?_pos,-List.map_set,ho,hol,hlt,hf]
theorem xm1 (l:List Int) (hl:l.length<1152921504606846976) (g:FuncId) (a b:List DV) (p:Int->Bool) (o base:Nat) (D:DH) (hp:FnB g a b D l p) (ho:D[o]? =some (.app 3 1 (l.map zzf))):zzh Q 73 [.apl o l.length,.fn g a b] base D=some (zzu (l.any p),D):=by
 have h120:=λbb=>xpy l hl g a b p o bb D hp ho
 simp only [zze] at h120
 rw [zzb (fn:=Tryz.f73) (show Q.P.funcs[73]? =some Tryz.f73 from Tryz.func73) rfl yds rfl (by simp only [tzd,tze];decide) (by kernel_rfl)]
 cases h:l.findIdx? p with
 | none=>
  have:l.any p=false:=by
   rw [ty6] at h
   simpa [-getElem?_pos,-List.map_set] using h
  rw [h] at h120
  simp (maxSteps:=2000000) [-getElem?_pos,-List.map_set,h120,this]
 | some i=>
  have:l.any p=true:=by
   rw [List.findIdx?_eq_some_iff_getElem] at h
   obtain ⟨h1,h2,_⟩:=h
   exact List.any_eq_true.2 ⟨_,List.getElem_mem h1,h2⟩
  rw [h] at h120
  simp (maxSteps:=2000000) [-getElem?_pos,-List.map_set,h120,this]
theorem f125 (a:Aut) (hv:a.valid) (o:Nat) (D:DH) (ho:D[o]? =some (.arr 4 [zzp a])) (l:List Int) (hl:inA a l):FnB 125 [] [.ref o 0 0] D l a.accB:=
 ⟨by simp [-getElem?_pos,-List.map_set],by simp [-getElem?_pos,-List.map_set,zxc ho],λx base hx=>by
  obtain ⟨h1,h2⟩:=hl x hx
  obtain ⟨n,rfl⟩:∃ n:Nat,x=n:=⟨x.toNat,by omega⟩
  exact xm0 a hv o n (by omega) base D ho⟩
theorem f98 (a:Aut) (hv:a.valid) (o:Nat) (D:DH) (ho:D[o]? =some (.arr 4 [zzp a])) (l:List Int) (hl:inA a l):FnB 98 [] [.ref o 0 0] D l a.accB:=
 ⟨by simp [-getElem?_pos,-List.map_set],by simp [-getElem?_pos,-List.map_set,zxc ho],λx base hx=>by
  obtain ⟨h1,h2⟩:=hl x hx
  obtain ⟨n,rfl⟩:∃ n:Nat,x=n:=⟨x.toNat,by omega⟩
  exact w98 a hv o n (by omega) base D ho⟩
theorem w94 (a:Aut) (hv:a.valid) (s:List Int) (hs:inA a s) (hl:s.length<1000000) (base:Nat) (D:DH):zzh Q 94 [zzp a,rv (zyx (zwt s))] base D=some (zzu (s.any a.accB),D):=by
 have h102:=λbb D'=>xs2 (base:=bb) (D:=D') (hs.hi hv) hl
 have h73:=λbb=>w73 s (by omega) 125 [] [.ref D.length 0 0] a.accB bb (D++[.arr 4 [zzp a]]) (f125 a hv D.length _ (by simp [-getElem?_pos,-List.map_set]) s hs)
 simp only [zzu,zzp,zxd,zug] at h73
 rw [zzb (fn:=Tryz.f94) (show Q.P.funcs[94]? =some Tryz.f94 from Tryz.func94) rfl xrg rfl (by simp only [tzd,tze];decide) (by kernel_rfl)]
 simp (maxSteps:=2000000) [-getElem?_pos,-List.map_set,h102,h73]
theorem xm2 (l:List Int) (hl:l.length<1152921504606846976) (x:Int) (base:Nat) (D:DH):∃ r:Int,zzh Q 126 [zxd l,zze x] base D=some (zze r,D)/\(0<=r↔x∈l):=by
 rw [zzb (fn:=Tryz.f126) (show Q.P.funcs[126]? =some Tryz.f126 from Tryz.func126) rfl xx3 rfl (by simp only [tzd,tze];decide) (by kernel_rfl)]
 simp (maxSteps:=2000000) [-getElem?_pos,-List.map_set]
 generalize hs58:SD.mk _ _=sd58
 revert sd58
 refine wl (λi:Nat=>⟨(((Trie.leaf.put 8 (zze i)).put 7 (zze l.length)).put 1 (zze x)).put 0 (zxd l),D⟩) (λi=>i<=l.length/\x∉l.take i) (λi=>l.length-i) ?_ 0 ⟨by omega,by simp [-getElem?_pos,-List.map_set]⟩
 intro i ⟨hi,ht⟩ ih
 rw [zzi]
 by_cases hlt:i<l.length
 .obtain ⟨y,hy⟩:∃ x,l[i]? =some x:=⟨_,tzb hlt⟩
  by_cases hxy:x=y
  .subst hxy
   simp (maxSteps:=2000000) [-getElem?_pos,-List.map_set,hlt,hy]
   exact tzg hy
  .have ih':=ih (i+1) ⟨by omega,by
    rw [zv5 hy]
    rintro (h | h)
    .exact ht h
    .exact hxy h⟩ (by omega)
   simp (maxSteps:=2000000) [-getElem?_pos,-List.map_set] at ih'
   simp (maxSteps:=2000000) [-getElem?_pos,-List.map_set,hlt,hy,hxy,zzg (show i+1<=9223372036854775807 by omega)]
   exact ih'
 .rw [tzk (by omega)] at ht
  simp (maxSteps:=2000000) [-getElem?_pos,-List.map_set,hlt]
  exact ht
theorem xm3 (l:List Int) (hl:l.length<1152921504606846976) (x:Int) (base:Nat) (D:DH):zzh Q 104 [zxd l,zze x] base D=some (zzu (decide (x∈l)),D):=by
 obtain ⟨r,h126,hr⟩:=xm2 l hl x D.length D
 simp only [zze,zxd,zug] at h126
 rw [zzb (fn:=Tryz.f104) (show Q.P.funcs[104]? =some Tryz.f104 from Tryz.func104) rfl yek rfl (by simp only [tzd,tze];decide) (by kernel_rfl)]
 simp (maxSteps:=2000000) [-getElem?_pos,-List.map_set,h126,hr]
end Go.Dv
set_option maxHeartbeats 2000000
namespace Go.Dv
open Go Go.Sim Go.Proofs Go.Fsa
abbrev ziv (p:Int×List UInt8):Value:=.agg #[.int .i64 p.1,zyx p.2]
def spD (p:Int×List UInt8):DV:=.agg [.f (.raw (.int .i64 p.1)),.f (.raw (zyx p.2))]
abbrev ziw (p:Bool×List UInt8):Value:=.agg #[.bool p.1,zyx p.2]
def agD (p:Bool×List UInt8):DV:=.agg [.f (.raw (.bool p.1)),.f (.raw (zyx p.2))]
theorem xsq:zzo Tryz.prog (underlying 101)=some (.struct #[⟨ "first",3,0,false, "", "cayley/fsa",0⟩,⟨ "set",9,1,false, "", "cayley/fsa",8⟩]):=by kernel_rfl
theorem xsr:zzo Tryz.prog (underlying 112)=some (.struct #[⟨ "begin",4,0,false, "", "cayley/fsa",0⟩,⟨ "set",9,1,false, "", "cayley/fsa",8⟩]):=by kernel_rfl
theorem pu9:zzo Tryz.prog (underlying 9)=some .string:=by kernel_rfl
theorem pu4:zzo Tryz.prog (underlying 4)=some .bool:=by kernel_rfl
theorem pe9 (d:Nat) (a c:List UInt8):zzo Tryz.prog (Op.equalIn (d+1) 9 (zyx a) (zyx c))=some (decide (a=c)):=by
 rw [Op.equalIn]
 simp only [zzs,pu9,tzn,zyx,zyf,tza]
 have hbe:∀ x y:ByteArray,(x==y)=(x.data==y.data):=λx y=>by cases x;cases y;rfl
 rw [hbe]
 by_cases h:a=c<;>simp [-getElem?_pos,-List.map_set,h]
theorem pe4 (d:Nat) (a c:Bool):zzo Tryz.prog (Op.equalIn (d+1) 4 (.bool a) (.bool c))=some (a==c):=by
 rw [Op.equalIn]
 simp only [zzs,pu4,tzn,zyf]
theorem pk9 (e:Bool) (d:Nat) (a:List UInt8):zzo Tryz.prog (Instr.checkKey e (d+1) 9 (zyx a))=some ():=by
 rw [Instr.checkKey]
 simp only [zzs,pu9,tzn,zyx,zyf]
theorem pk4 (e:Bool) (d:Nat) (a:Bool):zzo Tryz.prog (Instr.checkKey e (d+1) 4 (.bool a))=some ():=by
 rw [Instr.checkKey]
 simp only [zzs,pu4,tzn,zyf]
theorem xpz (x y:Int×List UInt8):zi9 Tryz.prog 101 (ziv x) (ziv y)=some (decide (x=y)):=by
 obtain ⟨a,b⟩:=x
 obtain ⟨c,d⟩:=y
 have q0:∀ a b,zzo Tryz.prog (part 3 #[.int .i64 a,zyx b] 0)=some (.int .i64 a):=λa b=>rfl
 have q1:∀ a b,zzo Tryz.prog (part 9 #[.int .i64 a,zyx b] 1)=some (zyx b):=λa b=>by rfl
 have hs:Tryz.prog.stoodInHeld 101=false:=by kernel_rfl
 have hp:zzo Tryz.prog program=some Tryz.prog:=rfl
 unfold zi9 Op.equal
 show zzo Tryz.prog (Op.equalIn (9998+1+1) 101 _ _)=_
 rw [Op.equalIn]
 simp only [zzs,xsq,tzn,hp,hs]
 simp [-getElem?_pos,-List.map_set,zzs,q0,q1,pe3,pe9,zyf]
 by_cases h1:a=c<;>by_cases h2:b=d<;>simp [-getElem?_pos,-List.map_set,h1,h2,zzs,zyf,q0,q1,pe3,pe9]
theorem xp0 (x:Int×List UInt8) (es:List MapEntry):zy1 Tryz.prog 101 (ziv x) es=ztv Tryz.prog 101 (ziv x) es 0:=by
 obtain ⟨a,b⟩:=x
 have q0:∀ a b,zzo Tryz.prog (part 3 #[.int .i64 a,zyx b] 0)=some (.int .i64 a):=λa b=>rfl
 have q1:∀ a b,zzo Tryz.prog (part 9 #[.int .i64 a,zyx b] 1)=some (zyx b):=λa b=>by rfl
 unfold zy1
 rw [show Tryz.prog.underlying 101=some (.struct #[⟨ "first",3,0,false, "", "cayley/fsa",0⟩,⟨ "set",9,1,false, "", "cayley/fsa",8⟩]) by kernel_rfl]
 show (match zyj (ziv (a,b)) with
  | true=>match zzo Tryz.prog (Instr.checkKey false 10000 101 (ziv (a,b))) with
   | some ()=>match zzo Tryz.prog (Instr.checkKey true 10000 101 (ziv (a,b))) with
    | some ()=>ztv Tryz.prog 101 (ziv (a,b)) es 0
    | none=>none
   | none=>none
  | false=>none)=_
 have hc:∀ e,zzo Tryz.prog (Instr.checkKey e 10000 101 (ziv (a,b)))=some ():=by
  intro e
  rw [show (10000:Nat)=9998+1+1 from rfl,Instr.checkKey]
  simp only [zzs,xsq,tzn]
  simp [-getElem?_pos,-List.map_set,zzs,q0,q1,pk3,pk9,zyf]
 rw [hc,hc,show zyj (ziv (a,b))=true from rfl]
theorem ylq:KeyD Tryz.prog 101 ziv:=by
 refine ⟨λks x=>?_⟩
 rw [xp0]
 rw [zs6 (enc:=ziv) (λ_=>rfl) (λk y=>xpz k y)]
 cases List.findIdx? (λy=>decide (x=y)) ks<;>rfl
theorem xp1 (x y:Bool×List UInt8):zi9 Tryz.prog 112 (ziw x) (ziw y)=some (decide (x=y)):=by
 obtain ⟨a,b⟩:=x
 obtain ⟨c,d⟩:=y
 have q0:∀ a b,zzo Tryz.prog (part 4 #[.bool a,zyx b] 0)=some (.bool a):=λa b=>rfl
 have q1:∀ a b,zzo Tryz.prog (part 9 #[.bool a,zyx b] 1)=some (zyx b):=λa b=>by rfl
 have hs:Tryz.prog.stoodInHeld 112=false:=by kernel_rfl
 have hp:zzo Tryz.prog program=some Tryz.prog:=rfl
 unfold zi9 Op.equal
 show zzo Tryz.prog (Op.equalIn (9998+1+1) 112 _ _)=_
 rw [Op.equalIn]
 simp only [zzs,xsr,tzn,hp,hs]
 simp [-getElem?_pos,-List.map_set,zzs,q0,q1,pe4,pe9,zyf]
 by_cases h1:a=c<;>by_cases h2:b=d<;>simp [-getElem?_pos,-List.map_set,h1,h2,zzs,zyf,q0,q1,pe4,pe9]
theorem xp2 (x:Bool×List UInt8) (es:List MapEntry):zy1 Tryz.prog 112 (ziw x) es=ztv Tryz.prog 112 (ziw x) es 0:=by
 obtain ⟨a,b⟩:=x
 have q0:∀ a b,zzo Tryz.prog (part 4 #[.bool a,zyx b] 0)=some (.bool a):=λa b=>rfl
 have q1:∀ a b,zzo Tryz.prog (part 9 #[.bool a,zyx b] 1)=some (zyx b):=λa b=>by rfl
 unfold zy1
 rw [show Tryz.prog.underlying 112=some (.struct #[⟨ "begin",4,0,false, "", "cayley/fsa",0⟩,⟨ "set",9,1,false, "", "cayley/fsa",8⟩]) by kernel_rfl]
 show (match zyj (ziw (a,b)) with
  | true=>match zzo Tryz.prog (Instr.checkKey false 10000 112 (ziw (a,b))) with
   | some ()=>match zzo Tryz.prog (Instr.checkKey true 10000 112 (ziw (a,b))) with
    | some ()=>ztv Tryz.prog 112 (ziw (a,b)) es 0
    | none=>none
   | none=>none
  | false=>none)=_
 have hc:∀ e,zzo Tryz.prog (Instr.checkKey e 10000 112 (ziw (a,b)))=some ():=by
  intro e
  rw [show (10000:Nat)=9998+1+1 from rfl,Instr.checkKey]
  simp only [zzs,xsr,tzn]
  simp [-getElem?_pos,-List.map_set,zzs,q0,q1,pk4,pk9,zyf]
 rw [hc,hc,show zyj (ziw (a,b))=true from rfl]
theorem ylr:KeyD Tryz.prog 112 ziw:=by
 refine ⟨λks x=>?_⟩
 rw [xp2]
 rw [zs6 (enc:=ziw) (λ_=>rfl) (λk y=>xp1 k y)]
 cases List.findIdx? (λy=>decide (x=y)) ks<;>rfl
theorem zwn {l:List UInt8}:zut (.f (.raw (zyx l)))=true:=rfl
theorem yf7 {L:Nat} {l:List (Int×List UInt8)}:(l.map spD).all (below L)=true:=by
 rw [tzx]
 intro y hy
 obtain ⟨z,_,rfl⟩:=tyg.1 hy
 rfl
theorem yf8 {L:Nat} {l:List (Bool×List UInt8)}:(l.map agD).all (below L)=true:=by
 rw [tzx]
 intro y hy
 obtain ⟨z,_,rfl⟩:=tyg.1 hy
 rfl
def zbi (b:List UInt8):DV:=.f (.raw (zyx b))
theorem yls {L:Nat} {l:List (List UInt8)}:(l.map zbi).all (below L)=true:=by
 rw [tzx]
 intro y hy
 obtain ⟨z,_,rfl⟩:=tyg.1 hy
 rfl
end Go.Dv
namespace Go.Dv
open Go Go.Sim Go.Proofs Go.Fsa
attribute [local simp] zwq zwp zzp zz6 zz7 zyg zzz zyb zzf zz4 zyd zzy zye zzt zvx zwn spD
theorem w88 (sy most:Nat) (s0:Int×List UInt8) (succ:Int×List UInt8->List (Option (Int×List UInt8))) (ac:Int×List UInt8->Bool) (dom:Int×List UInt8->Prop) (F:Nat) (qs:List (Int×List UInt8)) (rows:List (List Int))
  (g1 g2:FuncId) (a1 b1 a2 b2:List DV) (base:Nat) (D:DH)
  (hex:exR id succ most F 0 [s0]=some (qs,rows)) (h0:dom s0) (hdom:∀ s,dom s->∀ t,some t∈succ s->dom t) (hlen:∀ s,(succ s).length=sy)
  (hsy:sy<=400) (hmost:most<=200000) (h1m:1<=most) (hb:base<=D.length) (hob:(D.drop base).all (zza D.length)=true)
  (ha1:zzm D.length a1=true) (hb1:zzm D.length b1=true) (ha2:zzm D.length a2=true) (hb2:zzm D.length b2=true) (hraw:(Q.ann g2).raw=false)
  (hstep:∀ (x:Int×List UInt8) (c:Nat) (o:Option (Int×List UInt8)),dom x->(succ x)[c]? =some o->∃ y,(∀ X:DH,zzh Q g1 (a1++[spD x,zze c]++b1) base (D++X)=some (.tup [spD y,zzu o.isSome],D++X))/\(o=some y∨o=none))
  (hacc:∀ (X:DH) (x:Int×List UInt8),dom x->zzh Q g2 (a2++[spD x]++b2) base (D++X)=some (zzu (ac x),D++X)) :
  ∃ (O1 O2:DObj) (fi bs:List Int),zzh Q 88 [zze sy,zze most,spD s0,.fn g1 a1 b1,.fn g2 a2 b2] base D=some (.tup [.ref (D.length+1) 0 0,zzu true],D++[.arr 2 [spD s0],.arr 5 [.agg [zze sy,.apl (D.length+6) qs.length,.apl (D.length+7) qs.length,qV (D.length+4) qs.length,qV (D.length+5) qs.length]],O1,O2,qO 3 1 (fi.map zzf),qO 3 1 (bs.map zzf),.app 4 1 ((qs.map ac).map zz4),.app 26 1 (rows.map zxd)])/\FBL succ qs fi bs/\∀ L,zza L O1=true/\zza L O2=true:=by
 rw [zz2 (fn:=Tryz.f88) (show Q.P.funcs[88]? =some Tryz.f88 from Tryz.func88) rfl yd0 rfl (by simp only [tzd,tze];decide) (by kernel_rfl)]
 have gp:=xo3
 simp [yd0,Tryz.f88,zyr] at gp
 have hbk:∀ k,base<=D.length+k:=λk=>by omega
 have hOK:∀ k X,zyp base (D.length+k) (D++X)=(X.take k).all (zza (D.length+k)):=λk X=>zxx hb hob
 have hbl:∀ (l:List DV) k,zzm D.length l=true->zzm (D.length+k) l=true:=λl k h=>(zy9 (tyt _ _)).2 l h
 have f0:zy1 Tryz.prog 101 (ziv s0) (zxb [])=some none:=ylq.find [] s0
 have hbl:∀ k,zzm (D.length+k) a1=true/\zzm (D.length+k) b1=true/\zzm (D.length+k) a2=true/\zzm (D.length+k) b2=true:=λk=>⟨hbl a1 k ha1,hbl b1 k hb1,hbl a2 k ha2,hbl b2 k hb2⟩
 simp (maxSteps:=2000000) [-getElem?_pos,-List.map_set,gp,hb,hbk,hOK,f0,(hbl _).1,(hbl _).2.1,(hbl _).2.2.1,(hbl _).2.2.2]
 generalize hX:zxi _ _ _=X
 obtain ⟨tm,vs,fi,bs,rfl,t12,hfbl⟩:∃ (tm:Trie DV) (vs fi bs:List Int),X=some (.exit 0,⟨tm,D++[.arr 2 [spD s0],.arr 5 [.agg [zze sy,.apl (D.length+6) qs.length,.apl (D.length+7) qs.length,qV (D.length+4) qs.length,qV (D.length+5) qs.length]],.map (qs.map ziv) (vs.map zzf),qO 101 2 (qs.map spD),qO 3 1 (fi.map zzf),qO 3 1 (bs.map zzf),.app 4 1 ((qs.map ac).map zz4),.app 26 1 (rows.map zxd)]⟩)/\tm.get 12=some (.ref (D.length+1) 0 0)/\FBL succ qs fi bs:=by
  rw [<-hX]
  clear hX
  generalize hs59:SD.mk _ _=sd59
  revert sd59
  refine wl (λp:Nat×Nat×List (Int×List UInt8)×List Int×List Int×List Int×List (List Int)×List Bool=>⟨(((((((Trie.leaf.put 15 (zze p.2.1)).put 14 (qV (D.length+3) p.2.2.1.length)).put 13 (.mp (D.length+2))).put 12 (.ref (D.length+1) 0 0)).put 4 (.fn g2 a2 b2)).put 3 (.fn g1 a1 b1)).put 1 (zze most)).put 0 (zze sy),D++[.arr 2 [spD s0],.arr 5 [.agg [zze sy,.apl (D.length+6) p.2.1,.apl (D.length+7) p.2.1,qV (D.length+4) p.2.2.1.length,qV (D.length+5) p.2.2.1.length]],.map (p.2.2.1.map ziv) (p.2.2.2.1.map zzf),qO 101 2 (p.2.2.1.map spD),qO 3 1 (p.2.2.2.2.1.map zzf),qO 3 1 (p.2.2.2.2.2.1.map zzf),.app 4 1 (p.2.2.2.2.2.2.2.map zz4),.app 26 1 (p.2.2.2.2.2.2.1.map zxd)]⟩)
   (λp=>p.2.1<=p.2.2.1.length/\1<=p.2.2.1.length/\p.2.2.1.length<=most/\FBL succ p.2.2.1 p.2.2.2.2.1 p.2.2.2.2.2.1/\p.2.2.2.2.2.1.length=p.2.2.1.length/\(p.2.2.2.1.length=p.2.2.1.length/\∀ j,j<p.2.2.1.length->p.2.2.2.1[j]? =some (j:Int))/\p.2.2.2.2.2.2.1.length=p.2.1/\p.2.2.2.2.2.2.2=(p.2.2.1.take p.2.1).map ac/\(∀ t∈p.2.2.1,dom t)/\∃ R,exR id succ most p.1 p.2.1 p.2.2.1=some (qs,R)/\p.2.2.2.2.2.2.1++R=rows)
   (λp=>p.1) ?_ (F,0,[s0],[0],[-1],[-1],[],[]) ⟨tz6 _,tzp _,h1m,FBL.one,rfl,⟨rfl,λj h=>by cases j with | zero=>rfl | succ j=>simp [-getElem?_pos,-List.map_set] at h⟩,rfl,rfl,λt ht=>by rw [tzw] at ht;rw [ht];exact h0,rows,hex,rfl⟩
  clear hex
  rintro ⟨F,i,q,vs,fi,bs,R0,A⟩ ⟨hi,hq1,hqm,hfb,hbs,⟨hvl,hvs⟩,hR0,hA,hdq,R,hex,hR⟩ ih
  have hfi:=hfb.lf
  simp only at hi hq1 hqm hfb hfi hbs hvl hvs hR0 hA hdq hex hR ih
  rw [zzi]
  obtain ⟨F,rfl⟩:∃ F',F=F'+1:=by
   cases F with
   | zero=>simp [-getElem?_pos,-List.map_set,exR] at hex
   | succ F=>exact ⟨F,rfl⟩
  simp only [exR] at hex
  by_cases hlt:i<q.length
  .obtain ⟨t,ht⟩:∃ t,q[i]? =some t:=⟨_,tzb hlt⟩
   have htd:=hdq t (tzg ht)
   rw [ht] at hex
   simp only at hex
   split at hex
   .cases hex
   rename_i hqm'
   obtain ⟨⟨qf,R2⟩,hex2,heq⟩:=tzf.1 hex
   simp only [tzl] at heq
   obtain ⟨rfl,rfl⟩:=heq
   have hAl:A.length=i:=by rw [hA];simp [-getElem?_pos,-List.map_set];omega
   have hac:∀ X,zzh Q g2 (a2++(DV.agg [DV.f (.raw (.int .i64 t.1)),DV.f (.raw (zyx t.2))]::b2)) base (D++X)=some (DV.f (.raw (.bool (ac t))),D++X):=λX=>by
    have:=hacc X t htd
    rw [tyd] at this;exact this
   obtain ⟨q',hq'⟩:∃ q',q'=addS id q (succ t):=⟨_,rfl⟩
   simp (maxSteps:=2000000) [-getElem?_pos,-List.map_set,gp,hb,hbk,hOK,hbl,hlt,ht,hraw,hac,hAl,hR0,hfi,hbs,hvl,show i+1<=1099511627776 by omega,show i<=1099511627775 by omega,show sy*8<=140737488355328 by omega,show sy<9223372036854775808 by omega]
   have hre:succ t=(succ t).take sy:=(tzk (by rw [hlen];exact tzp _)).symm
   rw [<-hq'] at hex2 hqm'
   have hpre:∀ k,addS id q ((succ t).take k) <+: q':=λk=>by
    rw [hq']
    conv=>rhs;rw [<-List.take_append_drop k (succ t),zv4]
    exact zz3
   generalize hX:zxi _ _ _=X
   obtain ⟨tm,vs',fi',bs',rfl,⟨hfb',hbs',hvl',hvs'⟩,t0,t1,t3,t4,t12,t13,t14,t15,t16⟩:∃ (tm:Trie DV) (vs' fi' bs':List Int),X=some (.exit 2,⟨tm,D++[.arr 2 [spD s0],.arr 5 [.agg [zze sy,.apl (D.length+6) (i+1),.apl (D.length+7) i,qV (D.length+4) q'.length,qV (D.length+5) q'.length]],.map (q'.map ziv) (vs'.map zzf),qO 101 2 (q'.map spD),qO 3 1 (fi'.map zzf),qO 3 1 (bs'.map zzf),.app 4 1 (A.map zz4++[zz4 (ac t)]),.app 26 1 (R0.map zxd),.arr 1 [zz4 (ac t)],.arr 1 ((znu id q (succ t)).map zzf)]⟩)/\(FBL succ q' fi' bs'/\bs'.length=q'.length/\vs'.length=q'.length/\∀ j,j<q'.length->vs'[j]? =some (j:Int))/\tm.get 0=some (zze sy)/\tm.get 1=some (zze most)/\tm.get 3=some (.fn g1 a1 b1)/\tm.get 4=some (.fn g2 a2 b2)/\tm.get 12=some (.ref (D.length+1) 0 0)/\tm.get 13=some (.mp (D.length+2))/\tm.get 14=some (qV (D.length+3) q'.length)/\tm.get 15=some (zze i)/\tm.get 16=some (.row (D.length+9) 0 sy sy):=by
    rw [<-hX]
    clear hX ih hex2
    obtain ⟨W0,hW0⟩:∃ L:List Int,L=List.replicate sy 0:=⟨_,rfl⟩
    rw [zr3,<-hW0]
    generalize hs60:SD.mk _ _=sd60
    revert sd60
    refine wl (λp:Nat×List (Int×List UInt8)×List Int×List Int×List Int×List Int=>⟨((((((((((Trie.leaf.put 62 (zze p.1)).put 61 (zze sy)).put 16 (.row (D.length+9) 0 sy sy)).put 15 (zze i)).put 14 (qV (D.length+3) p.2.1.length)).put 13 (.mp (D.length+2))).put 12 (.ref (D.length+1) 0 0)).put 4 (.fn g2 a2 b2)).put 3 (.fn g1 a1 b1)).put 1 (zze most)).put 0 (zze sy),D++[.arr 2 [spD s0],.arr 5 [.agg [zze sy,.apl (D.length+6) (i+1),.apl (D.length+7) i,qV (D.length+4) p.2.1.length,qV (D.length+5) p.2.1.length]],.map (p.2.1.map ziv) (p.2.2.1.map zzf),qO 101 2 (p.2.1.map spD),qO 3 1 (p.2.2.2.1.map zzf),qO 3 1 (p.2.2.2.2.1.map zzf),.app 4 1 (A.map zz4++[zz4 (ac t)]),.app 26 1 (R0.map zxd),.arr 1 [zz4 (ac t)],.arr 1 (p.2.2.2.2.2.map zzf)]⟩)
     (λp=>p.1<=sy/\p.2.1=addS id q ((succ t).take p.1)/\(FBL succ p.2.1 p.2.2.2.1 p.2.2.2.2.1/\p.2.2.2.2.1.length=p.2.1.length/\p.2.2.1.length=p.2.1.length/\∀ j,j<p.2.1.length->p.2.2.1[j]? =some (j:Int))/\p.2.2.2.2.2.length=sy/\p.2.2.2.2.2.take p.1=znu id q ((succ t).take p.1)) (λp=>sy-p.1) ?_ (0,q,vs,fi,bs,W0) ⟨tz6 _,rfl,⟨hfb,hbs,hvl,hvs⟩,by simp [-getElem?_pos,-List.map_set,hW0],rfl⟩
    clear hvs hvl hfi hbs hfb
    rintro ⟨k,q1,vs,fi,bs,W⟩ ⟨hk,hq1',⟨hfb,hbs,hvl,hvs⟩,hWl,hW⟩ ihK
    have hfi:=hfb.lf
    simp only at hk hq1' hfb hfi hbs hvl hvs hWl hW ihK
    rw [zzi]
    by_cases hks:k<sy
    case neg=>
     have hk':k=sy:=by omega
     subst hk'
     rw [<-hre] at hq1' hW
     rw [tzk (by omega)] at hW
     subst hW
     rw [<-hq'] at hq1'
     subst hq1'
     simp (maxSteps:=2000000) [-getElem?_pos,-List.map_set,gp,hks]
     refine ⟨_,vs,fi,bs,⟨rfl,rfl,rfl,rfl⟩,⟨hfb,hbs,hvl,hvs⟩,?_⟩
     simp [-getElem?_pos,-List.map_set]
    obtain ⟨o,ho⟩:∃ o,(succ t)[k]? =some o:=⟨_,tzb (by rw [hlen];exact hks)⟩
    have hL:(succ t).take (k+1)=(succ t).take k++[o]:=by rw [tz8,ho];rfl
    have hset:∀ v,(W.set k v).take (k+1)=W.take k++[v]:=λv=>by
     rw [tz8,txx (tzp _),tz1 (by omega)];rfl
    obtain ⟨w0,hw0⟩:∃ x,W[k]? =some x:=⟨_,tzb (by omega)⟩
    have hws:∀ v,(W.set k v)[k]? =some v:=λv=>tz1 (by omega)
    have hww:=zzg (show k+1<=9223372036854775807 by omega)
    have hqt:q1[i]? =some t:=by rw [hq1'];exact zyc zz3 ht
    have hqi:i<q1.length:=zzw hqt
    obtain ⟨y,hst,hoy⟩:∃ y,(∀ X,zzh Q g1 (a1++(DV.agg [DV.f (.raw (.int .i64 t.1)),DV.f (.raw (zyx t.2))]::DV.f (.raw (.int .i64 k))::b1)) base (D++X)=some (.tup [DV.agg [DV.f (.raw (.int .i64 y.1)),DV.f (.raw (zyx y.2))],DV.f (.raw (.bool o.isSome))],D++X))/\(o=some y∨o=none):=by
     obtain ⟨y,h1,h2⟩:=hstep t k o htd ho
     refine ⟨y,λX=>?_,h2⟩
     have:=h1 X
     rw [tyd] at this;exact this
    rcases hoy with rfl | rfl
    case inr=>
     have ih':=ihK (k+1,q1,vs,fi,bs,W.set k (-1)) ⟨by simp only;omega,by simp only;rw [hL,zrc,hq1'],⟨hfb,hbs,hvl,hvs⟩,by simp only [tz3];exact hWl,by simp only;rw [hset,hL,zrb,hW]⟩ (by simp only;omega)
     simp (maxSteps:=2000000) [-getElem?_pos,-List.map_set] at ih'
     simp only [Option.isSome_none] at hst
     simp (maxSteps:=2000000) [-getElem?_pos,-List.map_set,gp,hb,hbk,hOK,hbl,hks,hst,hqt,hqi,hw0,hws,hWl,hww,hAl,hR0,hfi,hbs,hvl]
     exact ih'
    simp only [Option.isSome_some] at hst
    have hnew:=(hpre (k+1)).length_le
    rw [hL,zy6,<-hq1',txa,id] at hnew
    by_cases hm:y∈q1
    .obtain ⟨m,hm2⟩:∃ m,m=zxp q1 y:=⟨_,rfl⟩
     have hmn:m<q1.length:=by rw [hm2];exact ztd hm
     have hvm:=hvs m hmn
     have hf:zy1 Tryz.prog 101 (ziv y) (zxb (q1.map ziv))=some (some m):=by rw [hm2];exact (ylq.find q1 y).trans (by rw [zte hm])
     have ih':=ihK (k+1,q1,vs,fi,bs,W.set k (m:Int)) ⟨by simp only;omega,by simp only;rw [hL,zy6,<-hq1',txa,id,if_pos hm],⟨hfb,hbs,hvl,hvs⟩,by simp only [tz3];exact hWl,by simp only;rw [hset,hL,zwl,hW,<-hq1',txa,id,hm2]⟩ (by simp only;omega)
     simp (maxSteps:=2000000) [-getElem?_pos,-List.map_set] at ih'
     simp (maxSteps:=2000000) [-getElem?_pos,-List.map_set,gp,hb,hbk,hOK,hbl,hks,hst,hqt,hqi,hw0,hws,hWl,hww,hAl,hR0,hfi,hbs,hvl,hf,hvm]
     exact ih'
    .rw [if_neg hm,tz5] at hnew
     simp only [tzd,tze] at hnew
     have hf:zy1 Tryz.prog 101 (ziv y) (zxb (q1.map ziv))=some none:=(ylq.find q1 y).trans (by rw [zu1 hm])
     have ih':=ihK (k+1,q1++[y],vs++[(q1.length:Int)],fi++[(i:Int)],bs++[(k:Int)],W.set k (q1.length:Int)) ⟨by simp only;omega,by simp only;rw [hL,zy6,<-hq1',txa,id,if_neg hm],⟨hfb.add hqt ho,by simp [-getElem?_pos,-List.map_set,hbs],by simp [-getElem?_pos,-List.map_set,hvl],λj hj=>by
      rcases tz9 j q1.length with g | g
      .rw [tzs (by omega)];exact hvs j g
      .simp only [tz5,tzd,tze] at hj
       have:j=vs.length:=by omega
       rw [this,tzv (tzp _),Nat.sub_self,hvl];rfl⟩,by simp only [tz3];exact hWl,by simp only;rw [hset,hL,zwl,hW,<-hq1',txa,id,zvk hm]⟩ (by simp only;omega)
     simp (maxSteps:=2000000) [-getElem?_pos,-List.map_set] at ih'
     simp (maxSteps:=2000000) [-getElem?_pos,-List.map_set,gp,hb,hbk,hOK,hbl,hks,hst,hqt,hqi,hw0,hws,hWl,hww,hAl,hR0,hfi,hbs,hvl,hf,show ¬most<=q1.length by omega,show q1.length<most by omega,show 1<=q1.length by omega,show (q1.length+1)*8<=1099511627776 by omega,show (q1.length+1)*24<=1099511627776 by omega,show q1.length<=1099511627775 by omega]
     exact ih'
   clear hX
   have hfi':=hfb'.lf
   obtain ⟨S,hS⟩:∃ S,S=znu id q (succ t):=⟨_,rfl⟩
   have hSl:S.length=sy:=by rw [hS,zqf,hlen]
   rw [<-hS] at hR
   have hpre':q <+: q':=by rw [hq'];exact zz3
   have hpl:=hpre'.length_le
   have hqt:q'.take (i+1)=q.take i++[t]:=by
    rw [tz8,zyc hpre' ht]
    obtain ⟨z,rfl⟩:=hpre'
    rw [txi (by omega)];rfl
   have htk:List.take sy (S.map zzf)=S.map zzf:=tzk (by simp [-getElem?_pos,-List.map_set,hSl])
   have ih':=ih (F,i+1,q',vs',fi',bs',R0++[S],A++[ac t]) ⟨by simp only;omega,by simp only;omega,by simp only;omega,hfb',hbs',⟨hvl',hvs'⟩,by simp [-getElem?_pos,-List.map_set,hR0],by simp only;rw [hqt,txk,txe,List.map_nil,hA],by
    simp only
    rw [hq']
    exact zv3 hdq (hdom t htd),R2,hex2,by simp only;rw [tyd];exact hR⟩ (by simp only;omega)
   simp (maxSteps:=2000000) [-getElem?_pos,-List.map_set] at ih'
   rw [<-hS]
   simp (maxSteps:=2000000) [-getElem?_pos,-List.map_set,gp,hb,hbk,hOK,hbl,t0,t1,t3,t4,t12,t13,t14,t15,t16,hSl,htk,hR0,hAl,hfi',hbs',hvl',show i+1<=1099511627776 by omega,show i<=1099511627775 by omega,show (i+1)*24<=1099511627776 by omega,zzg (show i+1<=9223372036854775807 by omega)]
   exact ih'
  .rw [tzt (by omega)] at hex
   simp only [tza,tzl] at hex
   obtain ⟨rfl,rfl⟩:=hex
   rw [tyv] at hR
   subst hR
   have hie:i=q.length:=by omega
   subst hie
   rw [ty0] at hA
   subst hA
   refine zit (vs:=vs) (fi:=fi) (bs:=bs) hfb ?_
   simp (maxSteps:=2000000) [-getElem?_pos,-List.map_set,gp,hlt,hR0]
 clear hX
 refine ⟨.map (qs.map ziv) (vs.map zzf),qO 101 2 (qs.map spD),fi,bs,?_,hfbl,λL=>⟨by rw [zh2];exact zy8,zqr yf7⟩⟩
 simp (maxSteps:=2000000) [-getElem?_pos,-List.map_set,gp,t12]
end Go.Dv
namespace Go.Dv
open Go Go.Sim Go.Proofs Go.Fsa
attribute [local simp] zwq zwp zzp zz6 zz7 zyg zzz zyb zzf zz4 zyd zzy zye zzt zvx zwn agD
theorem w96 (sy most:Nat) (s0:Bool×List UInt8) (succ:Bool×List UInt8->List (Option (Bool×List UInt8))) (ac:Bool×List UInt8->Bool) (dom:Bool×List UInt8->Prop) (F:Nat) (qs:List (Bool×List UInt8)) (rows:List (List Int))
  (g1 g2:FuncId) (a1 b1 a2 b2:List DV) (base:Nat) (D:DH)
  (hex:exR id succ most F 0 [s0]=some (qs,rows)) (h0:dom s0) (hdom:∀ s,dom s->∀ t,some t∈succ s->dom t) (hlen:∀ s,(succ s).length=sy)
  (hsy:sy<=400) (hmost:most<=200000) (h1m:1<=most) (hb:base<=D.length) (hob:(D.drop base).all (zza D.length)=true)
  (ha1:zzm D.length a1=true) (hb1:zzm D.length b1=true) (ha2:zzm D.length a2=true) (hb2:zzm D.length b2=true) (hraw:(Q.ann g2).raw=false)
  (hstep:∀ (x:Bool×List UInt8) (c:Nat) (o:Option (Bool×List UInt8)),dom x->(succ x)[c]? =some o->∃ y,(∀ X:DH,zzh Q g1 (a1++[agD x,zze c]++b1) base (D++X)=some (.tup [agD y,zzu o.isSome],D++X))/\(o=some y∨o=none))
  (hacc:∀ (X:DH) (x:Bool×List UInt8),dom x->zzh Q g2 (a2++[agD x]++b2) base (D++X)=some (zzu (ac x),D++X)) :
  ∃ (O1 O2:DObj) (fi bs:List Int),zzh Q 96 [zze sy,zze most,agD s0,.fn g1 a1 b1,.fn g2 a2 b2] base D=some (.tup [.ref (D.length+1) 0 0,zzu true],D++[.arr 2 [agD s0],.arr 5 [.agg [zze sy,.apl (D.length+6) qs.length,.apl (D.length+7) qs.length,qV (D.length+4) qs.length,qV (D.length+5) qs.length]],O1,O2,qO 3 1 (fi.map zzf),qO 3 1 (bs.map zzf),.app 4 1 ((qs.map ac).map zz4),.app 26 1 (rows.map zxd)])/\FBL succ qs fi bs/\∀ L,zza L O1=true/\zza L O2=true:=by
 rw [zz2 (fn:=Tryz.f96) (show Q.P.funcs[96]? =some Tryz.f96 from Tryz.func96) rfl yd3 rfl (by simp only [tzd,tze];decide) (by kernel_rfl)]
 have gp:=xo5
 simp [yd3,Tryz.f96,zyr] at gp
 have hbk:∀ k,base<=D.length+k:=λk=>by omega
 have hOK:∀ k X,zyp base (D.length+k) (D++X)=(X.take k).all (zza (D.length+k)):=λk X=>zxx hb hob
 have hbl:∀ (l:List DV) k,zzm D.length l=true->zzm (D.length+k) l=true:=λl k h=>(zy9 (tyt _ _)).2 l h
 have f0:zy1 Tryz.prog 112 (ziw s0) (zxb [])=some none:=ylr.find [] s0
 have hbl:∀ k,zzm (D.length+k) a1=true/\zzm (D.length+k) b1=true/\zzm (D.length+k) a2=true/\zzm (D.length+k) b2=true:=λk=>⟨hbl a1 k ha1,hbl b1 k hb1,hbl a2 k ha2,hbl b2 k hb2⟩
 simp (maxSteps:=2000000) [-getElem?_pos,-List.map_set,gp,hb,hbk,hOK,f0,(hbl _).1,(hbl _).2.1,(hbl _).2.2.1,(hbl _).2.2.2]
 generalize hX:zxi _ _ _=X
 obtain ⟨tm,vs,fi,bs,rfl,t12,hfbl⟩:∃ (tm:Trie DV) (vs fi bs:List Int),X=some (.exit 0,⟨tm,D++[.arr 2 [agD s0],.arr 5 [.agg [zze sy,.apl (D.length+6) qs.length,.apl (D.length+7) qs.length,qV (D.length+4) qs.length,qV (D.length+5) qs.length]],.map (qs.map ziw) (vs.map zzf),qO 112 2 (qs.map agD),qO 3 1 (fi.map zzf),qO 3 1 (bs.map zzf),.app 4 1 ((qs.map ac).map zz4),.app 26 1 (rows.map zxd)]⟩)/\tm.get 12=some (.ref (D.length+1) 0 0)/\FBL succ qs fi bs:=by
  rw [<-hX]
  clear hX
  generalize hs61:SD.mk _ _=sd61
  revert sd61
  refine wl (λp:Nat×Nat×List (Bool×List UInt8)×List Int×List Int×List Int×List (List Int)×List Bool=>⟨(((((((Trie.leaf.put 15 (zze p.2.1)).put 14 (qV (D.length+3) p.2.2.1.length)).put 13 (.mp (D.length+2))).put 12 (.ref (D.length+1) 0 0)).put 4 (.fn g2 a2 b2)).put 3 (.fn g1 a1 b1)).put 1 (zze most)).put 0 (zze sy),D++[.arr 2 [agD s0],.arr 5 [.agg [zze sy,.apl (D.length+6) p.2.1,.apl (D.length+7) p.2.1,qV (D.length+4) p.2.2.1.length,qV (D.length+5) p.2.2.1.length]],.map (p.2.2.1.map ziw) (p.2.2.2.1.map zzf),qO 112 2 (p.2.2.1.map agD),qO 3 1 (p.2.2.2.2.1.map zzf),qO 3 1 (p.2.2.2.2.2.1.map zzf),.app 4 1 (p.2.2.2.2.2.2.2.map zz4),.app 26 1 (p.2.2.2.2.2.2.1.map zxd)]⟩)
   (λp=>p.2.1<=p.2.2.1.length/\1<=p.2.2.1.length/\p.2.2.1.length<=most/\FBL succ p.2.2.1 p.2.2.2.2.1 p.2.2.2.2.2.1/\p.2.2.2.2.2.1.length=p.2.2.1.length/\(p.2.2.2.1.length=p.2.2.1.length/\∀ j,j<p.2.2.1.length->p.2.2.2.1[j]? =some (j:Int))/\p.2.2.2.2.2.2.1.length=p.2.1/\p.2.2.2.2.2.2.2=(p.2.2.1.take p.2.1).map ac/\(∀ t∈p.2.2.1,dom t)/\∃ R,exR id succ most p.1 p.2.1 p.2.2.1=some (qs,R)/\p.2.2.2.2.2.2.1++R=rows)
   (λp=>p.1) ?_ (F,0,[s0],[0],[-1],[-1],[],[]) ⟨tz6 _,tzp _,h1m,FBL.one,rfl,⟨rfl,λj h=>by cases j with | zero=>rfl | succ j=>simp [-getElem?_pos,-List.map_set] at h⟩,rfl,rfl,λt ht=>by rw [tzw] at ht;rw [ht];exact h0,rows,hex,rfl⟩
  clear hex
  rintro ⟨F,i,q,vs,fi,bs,R0,A⟩ ⟨hi,hq1,hqm,hfb,hbs,⟨hvl,hvs⟩,hR0,hA,hdq,R,hex,hR⟩ ih
  have hfi:=hfb.lf
  simp only at hi hq1 hqm hfb hfi hbs hvl hvs hR0 hA hdq hex hR ih
  rw [zzi]
  obtain ⟨F,rfl⟩:∃ F',F=F'+1:=by
   cases F with
   | zero=>simp [-getElem?_pos,-List.map_set,exR] at hex
   | succ F=>exact ⟨F,rfl⟩
  simp only [exR] at hex
  by_cases hlt:i<q.length
  .obtain ⟨t,ht⟩:∃ t,q[i]? =some t:=⟨_,tzb hlt⟩
   have htd:=hdq t (tzg ht)
   rw [ht] at hex
   simp only at hex
   split at hex
   .cases hex
   rename_i hqm'
   obtain ⟨⟨qf,R2⟩,hex2,heq⟩:=tzf.1 hex
   simp only [tzl] at heq
   obtain ⟨rfl,rfl⟩:=heq
   have hAl:A.length=i:=by rw [hA];simp [-getElem?_pos,-List.map_set];omega
   have hac:∀ X,zzh Q g2 (a2++(DV.agg [DV.f (.raw (.bool t.1)),DV.f (.raw (zyx t.2))]::b2)) base (D++X)=some (DV.f (.raw (.bool (ac t))),D++X):=λX=>by
    have:=hacc X t htd
    rw [tyd] at this;exact this
   obtain ⟨q',hq'⟩:∃ q',q'=addS id q (succ t):=⟨_,rfl⟩
   simp (maxSteps:=2000000) [-getElem?_pos,-List.map_set,gp,hb,hbk,hOK,hbl,hlt,ht,hraw,hac,hAl,hR0,hfi,hbs,hvl,show i+1<=1099511627776 by omega,show i<=1099511627775 by omega,show sy*8<=140737488355328 by omega,show sy<9223372036854775808 by omega]
   have hre:succ t=(succ t).take sy:=(tzk (by rw [hlen];exact tzp _)).symm
   rw [<-hq'] at hex2 hqm'
   have hpre:∀ k,addS id q ((succ t).take k) <+: q':=λk=>by
    rw [hq']
    conv=>rhs;rw [<-List.take_append_drop k (succ t),zv4]
    exact zz3
   generalize hX:zxi _ _ _=X
   obtain ⟨tm,vs',fi',bs',rfl,⟨hfb',hbs',hvl',hvs'⟩,t0,t1,t3,t4,t12,t13,t14,t15,t16⟩:∃ (tm:Trie DV) (vs' fi' bs':List Int),X=some (.exit 2,⟨tm,D++[.arr 2 [agD s0],.arr 5 [.agg [zze sy,.apl (D.length+6) (i+1),.apl (D.length+7) i,qV (D.length+4) q'.length,qV (D.length+5) q'.length]],.map (q'.map ziw) (vs'.map zzf),qO 112 2 (q'.map agD),qO 3 1 (fi'.map zzf),qO 3 1 (bs'.map zzf),.app 4 1 (A.map zz4++[zz4 (ac t)]),.app 26 1 (R0.map zxd),.arr 1 [zz4 (ac t)],.arr 1 ((znu id q (succ t)).map zzf)]⟩)/\(FBL succ q' fi' bs'/\bs'.length=q'.length/\vs'.length=q'.length/\∀ j,j<q'.length->vs'[j]? =some (j:Int))/\tm.get 0=some (zze sy)/\tm.get 1=some (zze most)/\tm.get 3=some (.fn g1 a1 b1)/\tm.get 4=some (.fn g2 a2 b2)/\tm.get 12=some (.ref (D.length+1) 0 0)/\tm.get 13=some (.mp (D.length+2))/\tm.get 14=some (qV (D.length+3) q'.length)/\tm.get 15=some (zze i)/\tm.get 16=some (.row (D.length+9) 0 sy sy):=by
    rw [<-hX]
    clear hX ih hex2
    obtain ⟨W0,hW0⟩:∃ L:List Int,L=List.replicate sy 0:=⟨_,rfl⟩
    rw [zr3,<-hW0]
    generalize hs62:SD.mk _ _=sd62
    revert sd62
    refine wl (λp:Nat×List (Bool×List UInt8)×List Int×List Int×List Int×List Int=>⟨((((((((((Trie.leaf.put 62 (zze p.1)).put 61 (zze sy)).put 16 (.row (D.length+9) 0 sy sy)).put 15 (zze i)).put 14 (qV (D.length+3) p.2.1.length)).put 13 (.mp (D.length+2))).put 12 (.ref (D.length+1) 0 0)).put 4 (.fn g2 a2 b2)).put 3 (.fn g1 a1 b1)).put 1 (zze most)).put 0 (zze sy),D++[.arr 2 [agD s0],.arr 5 [.agg [zze sy,.apl (D.length+6) (i+1),.apl (D.length+7) i,qV (D.length+4) p.2.1.length,qV (D.length+5) p.2.1.length]],.map (p.2.1.map ziw) (p.2.2.1.map zzf),qO 112 2 (p.2.1.map agD),qO 3 1 (p.2.2.2.1.map zzf),qO 3 1 (p.2.2.2.2.1.map zzf),.app 4 1 (A.map zz4++[zz4 (ac t)]),.app 26 1 (R0.map zxd),.arr 1 [zz4 (ac t)],.arr 1 (p.2.2.2.2.2.map zzf)]⟩)
     (λp=>p.1<=sy/\p.2.1=addS id q ((succ t).take p.1)/\(FBL succ p.2.1 p.2.2.2.1 p.2.2.2.2.1/\p.2.2.2.2.1.length=p.2.1.length/\p.2.2.1.length=p.2.1.length/\∀ j,j<p.2.1.length->p.2.2.1[j]? =some (j:Int))/\p.2.2.2.2.2.length=sy/\p.2.2.2.2.2.take p.1=znu id q ((succ t).take p.1)) (λp=>sy-p.1) ?_ (0,q,vs,fi,bs,W0) ⟨tz6 _,rfl,⟨hfb,hbs,hvl,hvs⟩,by simp [-getElem?_pos,-List.map_set,hW0],rfl⟩
    clear hvs hvl hfi hbs hfb
    rintro ⟨k,q1,vs,fi,bs,W⟩ ⟨hk,hq1',⟨hfb,hbs,hvl,hvs⟩,hWl,hW⟩ ihK
    have hfi:=hfb.lf
    simp only at hk hq1' hfb hfi hbs hvl hvs hWl hW ihK
    rw [zzi]
    by_cases hks:k<sy
    case neg=>
     have hk':k=sy:=by omega
     subst hk'
     rw [<-hre] at hq1' hW
     rw [tzk (by omega)] at hW
     subst hW
     rw [<-hq'] at hq1'
     subst hq1'
     simp (maxSteps:=2000000) [-getElem?_pos,-List.map_set,gp,hks]
     refine ⟨_,vs,fi,bs,⟨rfl,rfl,rfl,rfl⟩,⟨hfb,hbs,hvl,hvs⟩,?_⟩
     simp [-getElem?_pos,-List.map_set]
    obtain ⟨o,ho⟩:∃ o,(succ t)[k]? =some o:=⟨_,tzb (by rw [hlen];exact hks)⟩
    have hL:(succ t).take (k+1)=(succ t).take k++[o]:=by rw [tz8,ho];rfl
    have hset:∀ v,(W.set k v).take (k+1)=W.take k++[v]:=λv=>by
     rw [tz8,txx (tzp _),tz1 (by omega)];rfl
    obtain ⟨w0,hw0⟩:∃ x,W[k]? =some x:=⟨_,tzb (by omega)⟩
    have hws:∀ v,(W.set k v)[k]? =some v:=λv=>tz1 (by omega)
    have hww:=zzg (show k+1<=9223372036854775807 by omega)
    have hqt:q1[i]? =some t:=by rw [hq1'];exact zyc zz3 ht
    have hqi:i<q1.length:=zzw hqt
    obtain ⟨y,hst,hoy⟩:∃ y,(∀ X,zzh Q g1 (a1++(DV.agg [DV.f (.raw (.bool t.1)),DV.f (.raw (zyx t.2))]::DV.f (.raw (.int .i64 k))::b1)) base (D++X)=some (.tup [DV.agg [DV.f (.raw (.bool y.1)),DV.f (.raw (zyx y.2))],DV.f (.raw (.bool o.isSome))],D++X))/\(o=some y∨o=none):=by
     obtain ⟨y,h1,h2⟩:=hstep t k o htd ho
     refine ⟨y,λX=>?_,h2⟩
     have:=h1 X
     rw [tyd] at this;exact this
    rcases hoy with rfl | rfl
    case inr=>
     have ih':=ihK (k+1,q1,vs,fi,bs,W.set k (-1)) ⟨by simp only;omega,by simp only;rw [hL,zrc,hq1'],⟨hfb,hbs,hvl,hvs⟩,by simp only [tz3];exact hWl,by simp only;rw [hset,hL,zrb,hW]⟩ (by simp only;omega)
     simp (maxSteps:=2000000) [-getElem?_pos,-List.map_set] at ih'
     simp only [Option.isSome_none] at hst
     simp (maxSteps:=2000000) [-getElem?_pos,-List.map_set,gp,hb,hbk,hOK,hbl,hks,hst,hqt,hqi,hw0,hws,hWl,hww,hAl,hR0,hfi,hbs,hvl]
     exact ih'
    simp only [Option.isSome_some] at hst
    have hnew:=(hpre (k+1)).length_le
    rw [hL,zy6,<-hq1',txa,id] at hnew
    by_cases hm:y∈q1
    .obtain ⟨m,hm2⟩:∃ m,m=zxp q1 y:=⟨_,rfl⟩
     have hmn:m<q1.length:=by rw [hm2];exact ztd hm
     have hvm:=hvs m hmn
     have hf:zy1 Tryz.prog 112 (ziw y) (zxb (q1.map ziw))=some (some m):=by rw [hm2];exact (ylr.find q1 y).trans (by rw [zte hm])
     have ih':=ihK (k+1,q1,vs,fi,bs,W.set k (m:Int)) ⟨by simp only;omega,by simp only;rw [hL,zy6,<-hq1',txa,id,if_pos hm],⟨hfb,hbs,hvl,hvs⟩,by simp only [tz3];exact hWl,by simp only;rw [hset,hL,zwl,hW,<-hq1',txa,id,hm2]⟩ (by simp only;omega)
     simp (maxSteps:=2000000) [-getElem?_pos,-List.map_set] at ih'
     simp (maxSteps:=2000000) [-getElem?_pos,-List.map_set,gp,hb,hbk,hOK,hbl,hks,hst,hqt,hqi,hw0,hws,hWl,hww,hAl,hR0,hfi,hbs,hvl,hf,hvm]
     exact ih'
    .rw [if_neg hm,tz5] at hnew
     simp only [tzd,tze] at hnew
     have hf:zy1 Tryz.prog 112 (ziw y) (zxb (q1.map ziw))=some none:=(ylr.find q1 y).trans (by rw [zu1 hm])
     have ih':=ihK (k+1,q1++[y],vs++[(q1.length:Int)],fi++[(i:Int)],bs++[(k:Int)],W.set k (q1.length:Int)) ⟨by simp only;omega,by simp only;rw [hL,zy6,<-hq1',txa,id,if_neg hm],⟨hfb.add hqt ho,by simp [-getElem?_pos,-List.map_set,hbs],by simp [-getElem?_pos,-List.map_set,hvl],λj hj=>by
      rcases tz9 j q1.length with g | g
      .rw [tzs (by omega)];exact hvs j g
      .simp only [tz5,tzd,tze] at hj
       have:j=vs.length:=by omega
       rw [this,tzv (tzp _),Nat.sub_self,hvl];rfl⟩,by simp only [tz3];exact hWl,by simp only;rw [hset,hL,zwl,hW,<-hq1',txa,id,zvk hm]⟩ (by simp only;omega)
     simp (maxSteps:=2000000) [-getElem?_pos,-List.map_set] at ih'
     simp (maxSteps:=2000000) [-getElem?_pos,-List.map_set,gp,hb,hbk,hOK,hbl,hks,hst,hqt,hqi,hw0,hws,hWl,hww,hAl,hR0,hfi,hbs,hvl,hf,show ¬most<=q1.length by omega,show q1.length<most by omega,show 1<=q1.length by omega,show (q1.length+1)*8<=1099511627776 by omega,show (q1.length+1)*24<=1099511627776 by omega,show q1.length<=1099511627775 by omega]
     exact ih'
   clear hX
   have hfi':=hfb'.lf
   obtain ⟨S,hS⟩:∃ S,S=znu id q (succ t):=⟨_,rfl⟩
   have hSl:S.length=sy:=by rw [hS,zqf,hlen]
   rw [<-hS] at hR
   have hpre':q <+: q':=by rw [hq'];exact zz3
   have hpl:=hpre'.length_le
   have hqt:q'.take (i+1)=q.take i++[t]:=by
    rw [tz8,zyc hpre' ht]
    obtain ⟨z,rfl⟩:=hpre'
    rw [txi (by omega)];rfl
   have htk:List.take sy (S.map zzf)=S.map zzf:=tzk (by simp [-getElem?_pos,-List.map_set,hSl])
   have ih':=ih (F,i+1,q',vs',fi',bs',R0++[S],A++[ac t]) ⟨by simp only;omega,by simp only;omega,by simp only;omega,hfb',hbs',⟨hvl',hvs'⟩,by simp [-getElem?_pos,-List.map_set,hR0],by simp only;rw [hqt,txk,txe,List.map_nil,hA],by
    simp only
    rw [hq']
    exact zv3 hdq (hdom t htd),R2,hex2,by simp only;rw [tyd];exact hR⟩ (by simp only;omega)
   simp (maxSteps:=2000000) [-getElem?_pos,-List.map_set] at ih'
   rw [<-hS]
   simp (maxSteps:=2000000) [-getElem?_pos,-List.map_set,gp,hb,hbk,hOK,hbl,t0,t1,t3,t4,t12,t13,t14,t15,t16,hSl,htk,hR0,hAl,hfi',hbs',hvl',show i+1<=1099511627776 by omega,show i<=1099511627775 by omega,show (i+1)*24<=1099511627776 by omega,zzg (show i+1<=9223372036854775807 by omega)]
   exact ih'
  .rw [tzt (by omega)] at hex
   simp only [tza,tzl] at hex
   obtain ⟨rfl,rfl⟩:=hex
   rw [tyv] at hR
   subst hR
   have hie:i=q.length:=by omega
   subst hie
   rw [ty0] at hA
   subst hA
   refine zit (vs:=vs) (fi:=fi) (bs:=bs) hfb ?_
   simp (maxSteps:=2000000) [-getElem?_pos,-List.map_set,gp,hlt,hR0]
 clear hX
 refine ⟨.map (qs.map ziw) (vs.map zzf),qO 112 2 (qs.map agD),fi,bs,?_,hfbl,λL=>⟨by rw [zh2];exact zy8,zqr yf8⟩⟩
 simp (maxSteps:=2000000) [-getElem?_pos,-List.map_set,gp,t12]
end Go.Dv
namespace Go.Dv
open Go Go.Sim Go.Proofs Go.Fsa
attribute [local simp] zwq zwp zzp zz6 zz7 zyg zzz zyb zzf zz4 zyd zzy zye zzt zvx zwn zbi
theorem xm4 (sy most:Nat) (s0:List UInt8) (succ:List UInt8->List (Option (List UInt8))) (ac:List UInt8->Bool) (dom:List UInt8->Prop) (F:Nat) (qs:List (List UInt8)) (rows:List (List Int))
  (g1 g2:FuncId) (a1 b1 a2 b2:List DV) (base:Nat) (D:DH)
  (hex:exR id succ most F 0 [s0]=some (qs,rows)) (h0:dom s0) (hdom:∀ s,dom s->∀ t,some t∈succ s->dom t) (hlen:∀ s,(succ s).length=sy)
  (hsy:sy<=400) (hmost:most<=200000) (h1m:1<=most) (hb:base<=D.length) (hob:(D.drop base).all (zza D.length)=true)
  (ha1:zzm D.length a1=true) (hb1:zzm D.length b1=true) (ha2:zzm D.length a2=true) (hb2:zzm D.length b2=true) (hraw:(Q.ann g2).raw=false)
  (hstep:∀ (x:List UInt8) (c:Nat) (o:Option (List UInt8)),dom x->(succ x)[c]? =some o->∃ y,(∀ X:DH,zzh Q g1 (a1++[zbi x,zze c]++b1) base (D++X)=some (.tup [zbi y,zzu o.isSome],D++X))/\(o=some y∨o=none))
  (hacc:∀ (X:DH) (x:List UInt8),dom x->zzh Q g2 (a2++[zbi x]++b2) base (D++X)=some (zzu (ac x),D++X)) :
  ∃ (O1 O2:DObj) (fi bs:List Int),zzh Q 100 [zze sy,zze most,zbi s0,.fn g1 a1 b1,.fn g2 a2 b2] base D=some (.tup [.ref D.length 0 0,zzu true],D++[.arr 5 [.agg [zze sy,.apl (D.length+5) qs.length,.apl (D.length+6) qs.length,qV (D.length+3) qs.length,qV (D.length+4) qs.length]],O1,O2,qO 3 1 (fi.map zzf),qO 3 1 (bs.map zzf),.app 4 1 ((qs.map ac).map zz4),.app 26 1 (rows.map zxd)])/\∀ L,zza L O1=true/\zza L O2=true:=by
 rw [zz2 (fn:=Tryz.f100) (show Q.P.funcs[100]? =some Tryz.f100 from Tryz.func100) rfl ys0 rfl (by simp only [tzd,tze];decide) (by kernel_rfl)]
 have gp:=xrj
 simp [ys0,Tryz.f100,zyr] at gp
 have hbk:∀ k,base<=D.length+k:=λk=>by omega
 have hOK:∀ k X,zyp base (D.length+k) (D++X)=(X.take k).all (zza (D.length+k)):=λk X=>zxx hb hob
 have hbl:∀ (l:List DV) k,zzm D.length l=true->zzm (D.length+k) l=true:=λl k h=>(zy9 (tyt _ _)).2 l h
 have f0:zy1 Tryz.prog 9 (zyx s0) (zxb [])=some none:=xsi.find [] s0
 have hbl:∀ k,zzm (D.length+k) a1=true/\zzm (D.length+k) b1=true/\zzm (D.length+k) a2=true/\zzm (D.length+k) b2=true:=λk=>⟨hbl a1 k ha1,hbl b1 k hb1,hbl a2 k ha2,hbl b2 k hb2⟩
 simp (maxSteps:=2000000) [-getElem?_pos,-List.map_set,gp,hb,hbk,hOK,f0,(hbl _).1,(hbl _).2.1,(hbl _).2.2.1,(hbl _).2.2.2]
 generalize hX:zxi _ _ _=X
 obtain ⟨tm,vs,fi,bs,rfl,t12,_⟩:∃ (tm:Trie DV) (vs fi bs:List Int),X=some (.exit 0,⟨tm,D++[.arr 5 [.agg [zze sy,.apl (D.length+5) qs.length,.apl (D.length+6) qs.length,qV (D.length+3) qs.length,qV (D.length+4) qs.length]],.map (qs.map zyx) (vs.map zzf),qO 9 1 (qs.map zbi),qO 3 1 (fi.map zzf),qO 3 1 (bs.map zzf),.app 4 1 ((qs.map ac).map zz4),.app 26 1 (rows.map zxd)]⟩)/\tm.get 12=some (.ref D.length 0 0)/\True:=by
  rw [<-hX]
  clear hX
  generalize hs63:SD.mk _ _=sd63
  revert sd63
  refine wl (λp:Nat×Nat×List (List UInt8)×List Int×List Int×List Int×List (List Int)×List Bool=>⟨(((((((Trie.leaf.put 15 (zze p.2.1)).put 14 (qV (D.length+2) p.2.2.1.length)).put 13 (.mp (D.length+1))).put 12 (.ref D.length 0 0)).put 4 (.fn g2 a2 b2)).put 3 (.fn g1 a1 b1)).put 1 (zze most)).put 0 (zze sy),D++[.arr 5 [.agg [zze sy,.apl (D.length+5) p.2.1,.apl (D.length+6) p.2.1,qV (D.length+3) p.2.2.1.length,qV (D.length+4) p.2.2.1.length]],.map (p.2.2.1.map zyx) (p.2.2.2.1.map zzf),qO 9 1 (p.2.2.1.map zbi),qO 3 1 (p.2.2.2.2.1.map zzf),qO 3 1 (p.2.2.2.2.2.1.map zzf),.app 4 1 (p.2.2.2.2.2.2.2.map zz4),.app 26 1 (p.2.2.2.2.2.2.1.map zxd)]⟩)
   (λp=>p.2.1<=p.2.2.1.length/\1<=p.2.2.1.length/\p.2.2.1.length<=most/\p.2.2.2.2.1.length=p.2.2.1.length/\p.2.2.2.2.2.1.length=p.2.2.1.length/\(p.2.2.2.1.length=p.2.2.1.length/\∀ j,j<p.2.2.1.length->p.2.2.2.1[j]? =some (j:Int))/\p.2.2.2.2.2.2.1.length=p.2.1/\p.2.2.2.2.2.2.2=(p.2.2.1.take p.2.1).map ac/\(∀ t∈p.2.2.1,dom t)/\∃ R,exR id succ most p.1 p.2.1 p.2.2.1=some (qs,R)/\p.2.2.2.2.2.2.1++R=rows)
   (λp=>p.1) ?_ (F,0,[s0],[0],[-1],[-1],[],[]) ⟨tz6 _,tzp _,h1m,rfl,rfl,⟨rfl,λj h=>by cases j with | zero=>rfl | succ j=>simp [-getElem?_pos,-List.map_set] at h⟩,rfl,rfl,λt ht=>by rw [tzw] at ht;rw [ht];exact h0,rows,hex,rfl⟩
  clear hex
  rintro ⟨F,i,q,vs,fi,bs,R0,A⟩ ⟨hi,hq1,hqm,hfi,hbs,⟨hvl,hvs⟩,hR0,hA,hdq,R,hex,hR⟩ ih
  simp only at hi hq1 hqm hfi hbs hvl hvs hR0 hA hdq hex hR ih
  rw [zzi]
  obtain ⟨F,rfl⟩:∃ F',F=F'+1:=by
   cases F with
   | zero=>simp [-getElem?_pos,-List.map_set,exR] at hex
   | succ F=>exact ⟨F,rfl⟩
  simp only [exR] at hex
  by_cases hlt:i<q.length
  .obtain ⟨t,ht⟩:∃ t,q[i]? =some t:=⟨_,tzb hlt⟩
   have htd:=hdq t (tzg ht)
   rw [ht] at hex
   simp only at hex
   split at hex
   .cases hex
   rename_i hqm'
   obtain ⟨⟨qf,R2⟩,hex2,heq⟩:=tzf.1 hex
   simp only [tzl] at heq
   obtain ⟨rfl,rfl⟩:=heq
   have hAl:A.length=i:=by rw [hA];simp [-getElem?_pos,-List.map_set];omega
   have hac:∀ X,zzh Q g2 (a2++(DV.f (.raw (zyx t))::b2)) base (D++X)=some (DV.f (.raw (.bool (ac t))),D++X):=λX=>by
    have:=hacc X t htd
    rw [tyd] at this;exact this
   obtain ⟨q',hq'⟩:∃ q',q'=addS id q (succ t):=⟨_,rfl⟩
   simp (maxSteps:=2000000) [-getElem?_pos,-List.map_set,gp,hb,hbk,hOK,hbl,hlt,ht,hraw,hac,hAl,hR0,hfi,hbs,hvl,show i+1<=1099511627776 by omega,show i<=1099511627775 by omega,show sy*8<=140737488355328 by omega,show sy<9223372036854775808 by omega]
   have hre:succ t=(succ t).take sy:=(tzk (by rw [hlen];exact tzp _)).symm
   rw [<-hq'] at hex2 hqm'
   have hpre:∀ k,addS id q ((succ t).take k) <+: q':=λk=>by
    rw [hq']
    conv=>rhs;rw [<-List.take_append_drop k (succ t),zv4]
    exact zz3
   generalize hX:zxi _ _ _=X
   obtain ⟨tm,vs',fi',bs',rfl,⟨hfi',hbs',hvl',hvs'⟩,t0,t1,t3,t4,t12,t13,t14,t15,t16⟩:∃ (tm:Trie DV) (vs' fi' bs':List Int),X=some (.exit 2,⟨tm,D++[.arr 5 [.agg [zze sy,.apl (D.length+5) (i+1),.apl (D.length+6) i,qV (D.length+3) q'.length,qV (D.length+4) q'.length]],.map (q'.map zyx) (vs'.map zzf),qO 9 1 (q'.map zbi),qO 3 1 (fi'.map zzf),qO 3 1 (bs'.map zzf),.app 4 1 (A.map zz4++[zz4 (ac t)]),.app 26 1 (R0.map zxd),.arr 1 [zz4 (ac t)],.arr 1 ((znu id q (succ t)).map zzf)]⟩)/\(fi'.length=q'.length/\bs'.length=q'.length/\vs'.length=q'.length/\∀ j,j<q'.length->vs'[j]? =some (j:Int))/\tm.get 0=some (zze sy)/\tm.get 1=some (zze most)/\tm.get 3=some (.fn g1 a1 b1)/\tm.get 4=some (.fn g2 a2 b2)/\tm.get 12=some (.ref D.length 0 0)/\tm.get 13=some (.mp (D.length+1))/\tm.get 14=some (qV (D.length+2) q'.length)/\tm.get 15=some (zze i)/\tm.get 16=some (.row (D.length+8) 0 sy sy):=by
    rw [<-hX]
    clear hX ih hex2
    obtain ⟨W0,hW0⟩:∃ L:List Int,L=List.replicate sy 0:=⟨_,rfl⟩
    rw [zr3,<-hW0]
    generalize hs64:SD.mk _ _=sd64
    revert sd64
    refine wl (λp:Nat×List (List UInt8)×List Int×List Int×List Int×List Int=>⟨((((((((((Trie.leaf.put 62 (zze p.1)).put 61 (zze sy)).put 16 (.row (D.length+8) 0 sy sy)).put 15 (zze i)).put 14 (qV (D.length+2) p.2.1.length)).put 13 (.mp (D.length+1))).put 12 (.ref D.length 0 0)).put 4 (.fn g2 a2 b2)).put 3 (.fn g1 a1 b1)).put 1 (zze most)).put 0 (zze sy),D++[.arr 5 [.agg [zze sy,.apl (D.length+5) (i+1),.apl (D.length+6) i,qV (D.length+3) p.2.1.length,qV (D.length+4) p.2.1.length]],.map (p.2.1.map zyx) (p.2.2.1.map zzf),qO 9 1 (p.2.1.map zbi),qO 3 1 (p.2.2.2.1.map zzf),qO 3 1 (p.2.2.2.2.1.map zzf),.app 4 1 (A.map zz4++[zz4 (ac t)]),.app 26 1 (R0.map zxd),.arr 1 [zz4 (ac t)],.arr 1 (p.2.2.2.2.2.map zzf)]⟩)
     (λp=>p.1<=sy/\p.2.1=addS id q ((succ t).take p.1)/\(p.2.2.2.1.length=p.2.1.length/\p.2.2.2.2.1.length=p.2.1.length/\p.2.2.1.length=p.2.1.length/\∀ j,j<p.2.1.length->p.2.2.1[j]? =some (j:Int))/\p.2.2.2.2.2.length=sy/\p.2.2.2.2.2.take p.1=znu id q ((succ t).take p.1)) (λp=>sy-p.1) ?_ (0,q,vs,fi,bs,W0) ⟨tz6 _,rfl,⟨hfi,hbs,hvl,hvs⟩,by simp [-getElem?_pos,-List.map_set,hW0],rfl⟩
    clear hvs hvl hfi hbs
    rintro ⟨k,q1,vs,fi,bs,W⟩ ⟨hk,hq1',⟨hfi,hbs,hvl,hvs⟩,hWl,hW⟩ ihK
    simp only at hk hq1' hfi hbs hvl hvs hWl hW ihK
    rw [zzi]
    by_cases hks:k<sy
    case neg=>
     have hk':k=sy:=by omega
     subst hk'
     rw [<-hre] at hq1' hW
     rw [tzk (by omega)] at hW
     subst hW
     rw [<-hq'] at hq1'
     subst hq1'
     simp (maxSteps:=2000000) [-getElem?_pos,-List.map_set,gp,hks]
     refine ⟨_,vs,fi,bs,⟨rfl,rfl,rfl,rfl⟩,⟨hfi,hbs,hvl,hvs⟩,?_⟩
     simp [-getElem?_pos,-List.map_set]
    obtain ⟨o,ho⟩:∃ o,(succ t)[k]? =some o:=⟨_,tzb (by rw [hlen];exact hks)⟩
    have hL:(succ t).take (k+1)=(succ t).take k++[o]:=by rw [tz8,ho];rfl
    have hset:∀ v,(W.set k v).take (k+1)=W.take k++[v]:=λv=>by
     rw [tz8,txx (tzp _),tz1 (by omega)];rfl
    obtain ⟨w0,hw0⟩:∃ x,W[k]? =some x:=⟨_,tzb (by omega)⟩
    have hws:∀ v,(W.set k v)[k]? =some v:=λv=>tz1 (by omega)
    have hww:=zzg (show k+1<=9223372036854775807 by omega)
    have hqt:q1[i]? =some t:=by rw [hq1'];exact zyc zz3 ht
    have hqi:i<q1.length:=zzw hqt
    obtain ⟨y,hst,hoy⟩:∃ y,(∀ X,zzh Q g1 (a1++(DV.f (.raw (zyx t))::DV.f (.raw (.int .i64 k))::b1)) base (D++X)=some (.tup [DV.f (.raw (zyx y)),DV.f (.raw (.bool o.isSome))],D++X))/\(o=some y∨o=none):=by
     obtain ⟨y,h1,h2⟩:=hstep t k o htd ho
     refine ⟨y,λX=>?_,h2⟩
     have:=h1 X
     rw [tyd] at this;exact this
    rcases hoy with rfl | rfl
    case inr=>
     have ih':=ihK (k+1,q1,vs,fi,bs,W.set k (-1)) ⟨by simp only;omega,by simp only;rw [hL,zrc,hq1'],⟨hfi,hbs,hvl,hvs⟩,by simp only [tz3];exact hWl,by simp only;rw [hset,hL,zrb,hW]⟩ (by simp only;omega)
     simp (maxSteps:=2000000) [-getElem?_pos,-List.map_set] at ih'
     simp only [Option.isSome_none] at hst
     simp (maxSteps:=2000000) [-getElem?_pos,-List.map_set,gp,hb,hbk,hOK,hbl,hks,hst,hqt,hqi,hw0,hws,hWl,hww,hAl,hR0,hfi,hbs,hvl]
     exact ih'
    simp only [Option.isSome_some] at hst
    have hnew:=(hpre (k+1)).length_le
    rw [hL,zy6,<-hq1',txa,id] at hnew
    by_cases hm:y∈q1
    .obtain ⟨m,hm2⟩:∃ m,m=zxp q1 y:=⟨_,rfl⟩
     have hmn:m<q1.length:=by rw [hm2];exact ztd hm
     have hvm:=hvs m hmn
     have hf:zy1 Tryz.prog 9 (zyx y) (zxb (q1.map zyx))=some (some m):=by rw [hm2];exact (xsi.find q1 y).trans (by rw [zte hm])
     have ih':=ihK (k+1,q1,vs,fi,bs,W.set k (m:Int)) ⟨by simp only;omega,by simp only;rw [hL,zy6,<-hq1',txa,id,if_pos hm],⟨hfi,hbs,hvl,hvs⟩,by simp only [tz3];exact hWl,by simp only;rw [hset,hL,zwl,hW,<-hq1',txa,id,hm2]⟩ (by simp only;omega)
     simp (maxSteps:=2000000) [-getElem?_pos,-List.map_set] at ih'
     simp (maxSteps:=2000000) [-getElem?_pos,-List.map_set,gp,hb,hbk,hOK,hbl,hks,hst,hqt,hqi,hw0,hws,hWl,hww,hAl,hR0,hfi,hbs,hvl,hf,hvm]
     exact ih'
    .rw [if_neg hm,tz5] at hnew
     simp only [tzd,tze] at hnew
     have hf:zy1 Tryz.prog 9 (zyx y) (zxb (q1.map zyx))=some none:=(xsi.find q1 y).trans (by rw [zu1 hm])
     have ih':=ihK (k+1,q1++[y],vs++[(q1.length:Int)],fi++[(i:Int)],bs++[(k:Int)],W.set k (q1.length:Int)) ⟨by simp only;omega,by simp only;rw [hL,zy6,<-hq1',txa,id,if_neg hm],⟨by simp [-getElem?_pos,-List.map_set,hfi],by simp [-getElem?_pos,-List.map_set,hbs],by simp [-getElem?_pos,-List.map_set,hvl],λj hj=>by
      rcases tz9 j q1.length with g | g
      .rw [tzs (by omega)];exact hvs j g
      .simp only [tz5,tzd,tze] at hj
       have:j=vs.length:=by omega
       rw [this,tzv (tzp _),Nat.sub_self,hvl];rfl⟩,by simp only [tz3];exact hWl,by simp only;rw [hset,hL,zwl,hW,<-hq1',txa,id,zvk hm]⟩ (by simp only;omega)
     simp (maxSteps:=2000000) [-getElem?_pos,-List.map_set] at ih'
     simp (maxSteps:=2000000) [-getElem?_pos,-List.map_set,gp,hb,hbk,hOK,hbl,hks,hst,hqt,hqi,hw0,hws,hWl,hww,hAl,hR0,hfi,hbs,hvl,hf,show ¬most<=q1.length by omega,show q1.length<most by omega,show 1<=q1.length by omega,show (q1.length+1)*16<=1099511627776 by omega,show (q1.length+1)*8<=1099511627776 by omega,show q1.length<=1099511627775 by omega]
     exact ih'
   clear hX
   obtain ⟨S,hS⟩:∃ S,S=znu id q (succ t):=⟨_,rfl⟩
   have hSl:S.length=sy:=by rw [hS,zqf,hlen]
   rw [<-hS] at hR
   have hpre':q <+: q':=by rw [hq'];exact zz3
   have hpl:=hpre'.length_le
   have hqt:q'.take (i+1)=q.take i++[t]:=by
    rw [tz8,zyc hpre' ht]
    obtain ⟨z,rfl⟩:=hpre'
    rw [txi (by omega)];rfl
   have htk:List.take sy (S.map zzf)=S.map zzf:=tzk (by simp [-getElem?_pos,-List.map_set,hSl])
   have ih':=ih (F,i+1,q',vs',fi',bs',R0++[S],A++[ac t]) ⟨by simp only;omega,by simp only;omega,by simp only;omega,hfi',hbs',⟨hvl',hvs'⟩,by simp [-getElem?_pos,-List.map_set,hR0],by simp only;rw [hqt,txk,txe,List.map_nil,hA],by
    simp only
    rw [hq']
    exact zv3 hdq (hdom t htd),R2,hex2,by simp only;rw [tyd];exact hR⟩ (by simp only;omega)
   simp (maxSteps:=2000000) [-getElem?_pos,-List.map_set] at ih'
   rw [<-hS]
   simp (maxSteps:=2000000) [-getElem?_pos,-List.map_set,gp,hb,hbk,hOK,hbl,t0,t1,t3,t4,t12,t13,t14,t15,t16,hSl,htk,hR0,hAl,hfi',hbs',hvl',show i+1<=1099511627776 by omega,show i<=1099511627775 by omega,show (i+1)*24<=1099511627776 by omega,zzg (show i+1<=9223372036854775807 by omega)]
   exact ih'
  .rw [tzt (by omega)] at hex
   simp only [tza,tzl] at hex
   obtain ⟨rfl,rfl⟩:=hex
   rw [tyv] at hR
   subst hR
   have hie:i=q.length:=by omega
   subst hie
   rw [ty0] at hA
   subst hA
   refine zit (vs:=vs) (fi:=fi) (bs:=bs) (p:=λ_ _=>True) trivial ?_
   simp (maxSteps:=2000000) [-getElem?_pos,-List.map_set,gp,hlt,hR0]
 clear hX
 refine ⟨.map (qs.map zyx) (vs.map zzf),qO 9 1 (qs.map zbi),⟨fi,bs,?_⟩,λL=>⟨by rw [zh2];exact zy8,zqr yls⟩⟩
 simp (maxSteps:=2000000) [-getElem?_pos,-List.map_set,gp,t12]
end Go.Dv
set_option maxHeartbeats 4000000
namespace Go.Dv
open Go Go.Sim Go.Proofs Go.Fsa
attribute [local simp] zwq zwp zzp zz6 zz7 zyg zzz zyb zzf zz4 zyd zzy zye zzt zvx zwn
theorem zkg {base:Nat} {D G:DH} (hb:base<=D.length) (hob:(D.drop base).all (zza D.length)=true) (hG:G.all (zza (D++G).length)=true):((D++G).drop base).all (zza (D++G).length)=true:=by
 rw [List.drop_append_of_le_length hb,List.all_append,tzc]
 refine ⟨?_,hG⟩
 rw [tzx] at hob ⊢
 intro x hx
 exact zx4 (by simp [-getElem?_pos,-List.map_set]) x (hob x hx)
abbrev xxb:DV:=.agg [.f (.raw (.int .i64 0)),.f (.raw (.string ⟨⟨[]⟩⟩))]
theorem xp3 (a b:Aut) (ha:a.valid) (hb':b.valid) (f:Int) (hf:f<(a.nxt.length:Nat)) (hacc:a.accB f=true/\0<b.acc.length) (oa ob base:Nat) (D:DH) (hoa:D[oa]? =some (.arr 4 [zzp a])) (hob:D[ob]? =some (.arr 4 [zzp b])) (hb:base<=D.length) (hobj:(D.drop base).all (zza D.length)=true) :
  ∃ X:List Int,zzh Q 86 [zze f,zyw,.ref oa 0 0,.ref ob 0 0] base D=some (spD (zv6 a b f []),D++[.arr 2 [spD (zv6 a b f [])],.arr 1 [zzf b.st],.app 3 1 (X.map zzf)]):=by
 have hla:=ha.len
 have hlb:=hb'.len
 have hmb:=hb'.most
 have hbk:∀ k,base<=D.length+k:=λk=>by omega
 have ga:=λX=>zzc (X:=X) hoa
 have gb:=λX=>zzc (X:=X) hob
 have r87:(Q.ann 87).raw=true:=by rw [zlf]
 have e:zv6 a b f []=(f,zwt (zya b.nxt.length [b.st])):=by unfold zv6 zf5;rw [if_pos hacc];rfl
 rw [e]
 have hst0:=hb'.st0
 have hst1:=hb'.st1
 obtain ⟨n,rfl⟩:∃ n:Nat,f=n:=⟨f.toNat,by
  have:=hacc.1
  unfold Aut.accB at this
  rw [tzc,decide_eq_true_eq] at this
  omega⟩
 have hn:a.acc[n]? =some true:=by
  obtain ⟨x,hx⟩:∃ x,a.acc[n]? =some x:=⟨_,tzb (by omega)⟩
  have:=hacc.1
  simp [-getElem?_pos,-List.map_set,Aut.accB,hx] at this
  rw [hx,this]
 have hA:AtApp (D++[.arr 2 [xxb],.arr 1 [zzf b.st],.app 3 1 ([b.st].map zzf)]) base (D.length+2) [b.st]:=⟨by omega,zkg hb hobj (by simp [-getElem?_pos,-List.map_set,zxk,zvy]),by simp [-getElem?_pos,-List.map_set]⟩
 obtain ⟨X,h87⟩:=w87 b.nxt.length (by omega) [b.st] (λx hx=>by rw [tzw] at hx;subst hx;omega) (by simp [-getElem?_pos,-List.map_set]) (D.length+2) base _ hA
 refine ⟨X,?_⟩
 simp [-getElem?_pos,-List.map_set] at h87
 rw [zz2 (fn:=Tryz.f86) (show Q.P.funcs[86]? =some Tryz.f86 from Tryz.func86) rfl yvm rfl (by simp only [tzd,tze];decide) (by kernel_rfl)]
 simp (maxSteps:=2000000) [-getElem?_pos,-List.map_set,ga,gb,hb,hbk,hn,hacc.2,h87,r87,show (0:Int)<=n by omega,show 1*8<=1099511627776 by omega]
 rfl
theorem xp4 (a b:Aut) (ha:a.valid) (hb':b.valid) (f:Int) (hf:f<(a.nxt.length:Nat)) (hacc:¬(a.accB f=true/\0<b.acc.length)) (oa ob base:Nat) (D:DH) (hoa:D[oa]? =some (.arr 4 [zzp a])) (hob:D[ob]? =some (.arr 4 [zzp b])) (hb:base<=D.length) (hobj:(D.drop base).all (zza D.length)=true) :
  zzh Q 86 [zze f,zyw,.ref oa 0 0,.ref ob 0 0] base D=some (spD (zv6 a b f []),D++[.arr 2 [spD (zv6 a b f [])]]):=by
 have hla:=ha.len
 have hlb:=hb'.len
 have hmb:=hb'.most
 have hbk:∀ k,base<=D.length+k:=λk=>by omega
 have ga:=λX=>zzc (X:=X) hoa
 have gb:=λX=>zzc (X:=X) hob
 have r87:(Q.ann 87).raw=true:=by rw [zlf]
 have e:zv6 a b f []=(f,zwt (zya b.nxt.length [])):=by unfold zv6 zf5;rw [if_neg hacc]
 rw [e]
 have h87:=ylp b.nxt.length (by omega) base (D++[.arr 2 [xxb]]) (by simp [-getElem?_pos,-List.map_set];omega) (zkg hb hobj (by simp [-getElem?_pos,-List.map_set,zxk]))
 rw [zz2 (fn:=Tryz.f86) (show Q.P.funcs[86]? =some Tryz.f86 from Tryz.func86) rfl yvm rfl (by simp only [tzd,tze];decide) (by kernel_rfl)]
 by_cases h0:0<=f
 .obtain ⟨n,rfl⟩:∃ n:Nat,f=n:=⟨f.toNat,by omega⟩
  obtain ⟨x,hx⟩:∃ x,a.acc[n]? =some x:=⟨_,tzb (by omega)⟩
  cases x with
  | false=>simp (maxSteps:=2000000) [-getElem?_pos,-List.map_set,ga,gb,hb,hbk,h0,hx,h87,r87,spD]
  | true=>
   have hz:b.acc.length=0:=by
    rcases ty4 b.acc.length with g | g
    .exact g
    .exact absurd ⟨by simp [-getElem?_pos,-List.map_set,Aut.accB,hx],g⟩ hacc
   simp (maxSteps:=2000000) [-getElem?_pos,-List.map_set,ga,gb,hb,hbk,h0,hx,h87,r87,hz,spD]
 .simp (maxSteps:=2000000) [-getElem?_pos,-List.map_set,ga,gb,hb,hbk,h0,h87,r87,spD]
theorem gl0 {D G:DH} {o:Nat} {Y:DObj}:(D.set o Y++G)[D.length]? =G[0]?:=by
 rw [tzv (by rw [tz3];exact tzp _),tz3,Nat.sub_self]
theorem sl0 {D G:DH} {o:Nat} {Y z:DObj}:(D.set o Y++G).set D.length z=D.set o Y++G.set 0 z:=by
 rw [List.set_append_right _ _ (by rw [tz3];exact tzp _),tz3,Nat.sub_self]
theorem w86 (a b:Aut) (ha:a.valid) (hb':b.valid) (f:Int) (hf:f<(a.nxt.length:Nat)) (l:List Int) (hl:inA b l) (hl11:l.length<=11) (oa ob o base:Nat) (D:DH) (hoa:D[oa]? =some (.arr 4 [zzp a])) (hob:D[ob]? =some (.arr 4 [zzp b])) (hb:base<=D.length) (hA:AtApp D base o l) :
  ∃ (X:List Int) (G:DH),zzh Q 86 [zze f,.apl o l.length,.ref oa 0 0,.ref ob 0 0] base D=some (spD (zv6 a b f l),D.set o (.app 3 1 (X.map zzf))++G):=by
 have hla:=ha.len
 have hlb:=hb'.len
 have hmb:=hb'.most
 have hbk:∀ k,base<=D.length+k:=λk=>by omega
 have hol:=hA.len
 have hbo:=hA.b
 have ho:=hA.o
 have ga:=λX=>zzc (X:=X) hoa
 have gb:=λX=>zzc (X:=X) hob
 have go:=λX=>zzc (X:=X) ho
 have hoa':oa≠o:=λe=>by rw [e,ho] at hoa;cases hoa
 have hob':ob≠o:=λe=>by rw [e,ho] at hob;cases hob
 have hola:=zxc hoa
 have holb:=zxc hob
 have r87:(Q.ann 87).raw=true:=by rw [zlf]
 by_cases hacc:a.accB f=true/\0<b.acc.length
 .have e:zv6 a b f l=(f,zwt (zya b.nxt.length (l++[b.st]))):=by unfold zv6 zf5;rw [if_pos hacc]
  rw [e]
  have hst0:=hb'.st0
  have hst1:=hb'.st1
  obtain ⟨n,rfl⟩:∃ n:Nat,f=n:=⟨f.toNat,by
   have:=hacc.1
   unfold Aut.accB at this
   rw [tzc,decide_eq_true_eq] at this
   omega⟩
  have hn:a.acc[n]? =some true:=by
   obtain ⟨x,hx⟩:∃ x,a.acc[n]? =some x:=⟨_,tzb (by omega)⟩
   have:=hacc.1
   simp [-getElem?_pos,-List.map_set,Aut.accB,hx] at this
   rw [hx,this]
  have hA':AtApp (D.set o (.app 3 1 ((l++[b.st]).map zzf))++[.arr 2 [xxb],.arr 1 [zzf b.st]]) base o (l++[b.st]):=by
   have h:=hA.set (l++[b.st])
   exact ⟨h.b,zkg (by rw [tz3];exact hb) h.ob (by simp [-getElem?_pos,-List.map_set,zxk]),zzc h.o⟩
  obtain ⟨X,h87⟩:=w87 b.nxt.length (by omega) (l++[b.st]) (λx hx=>by
   rcases tyh.1 hx with h | h
   .exact hl x h
   .rw [tzw] at h;subst h;omega) (by simp [-getElem?_pos,-List.map_set];omega) o base _ hA'
  refine ⟨X,[.arr 2 [spD ((n:Int),zwt (zya b.nxt.length (l++[b.st])))],.arr 1 [zzf b.st]],?_⟩
  rw [List.set_append_left _ _ (by rw [tz3];exact hol),List.set_set] at h87
  simp [-getElem?_pos,-List.map_set] at h87
  rw [zz2 (fn:=Tryz.f86) (show Q.P.funcs[86]? =some Tryz.f86 from Tryz.func86) rfl yvm rfl (by simp only [tzd,tze];decide) (by kernel_rfl)]
  simp (maxSteps:=2000000) [-getElem?_pos,-List.map_set,ga,gb,go,hb,hbk,hbo,hol,hn,hacc.2,h87,r87,spD,gl0,sl0,show (0:Int)<=n by omega,show (l.length+1)*8<=1099511627776 by omega,show l.length<=1099511627775 by omega]
  trace_state
 .have e:zv6 a b f l=(f,zwt (zya b.nxt.length l)):=by unfold zv6 zf5;rw [if_neg hacc]
  rw [e]
  have hA':AtApp (D++[.arr 2 [xxb]]) base o l:=⟨hbo,zkg hb hA.ob (by simp [-getElem?_pos,-List.map_set,zxk]),zzc ho⟩
  obtain ⟨X,h87⟩:=w87 b.nxt.length (by omega) l hl (by omega) o base _ hA'
  refine ⟨X,[.arr 2 [spD (f,zwt (zya b.nxt.length l))]],?_⟩
  rw [List.set_append_left _ _ hol] at h87
  rw [zz2 (fn:=Tryz.f86) (show Q.P.funcs[86]? =some Tryz.f86 from Tryz.func86) rfl yvm rfl (by simp only [tzd,tze];decide) (by kernel_rfl)]
  by_cases h0:0<=f
  .obtain ⟨n,rfl⟩:∃ n:Nat,f=n:=⟨f.toNat,by omega⟩
   obtain ⟨x,hx⟩:∃ x,a.acc[n]? =some x:=⟨_,tzb (by omega)⟩
   cases x with
   | false=>simp (maxSteps:=2000000) [-getElem?_pos,-List.map_set,ga,gb,go,hb,hbk,h0,hx,h87,r87,spD,gl0,sl0]
   | true=>
    have hz:b.acc.length=0:=by
     rcases ty4 b.acc.length with g | g
     .exact g
     .exact absurd ⟨by simp [-getElem?_pos,-List.map_set,Aut.accB,hx],g⟩ hacc
    simp (maxSteps:=2000000) [-getElem?_pos,-List.map_set,ga,gb,go,hb,hbk,h0,hx,h87,r87,hz,spD,gl0,sl0]
  .simp (maxSteps:=2000000) [-getElem?_pos,-List.map_set,ga,gb,go,hb,hbk,h0,h87,r87,spD,gl0,sl0]
end Go.Dv
namespace Go.Dv
open Go Go.Sim Go.Proofs Go.Fsa
attribute [local simp] zwq zwp zzp zz6 zz7 zyg zzz zyb zzf zz4 zyd zzy zye zzt zvx zwn spD
theorem zmh {l:List UInt8}:zdj (.f (.raw (zyx l)))=.f (.raw (zyx l)):=rfl
attribute [local simp] zmh zvu zvv zua zvw
theorem ylt {l:List UInt8}:eqV (zyx l) (zyx l)=true:=by
 show eqB l l=true
 rw [zfk];simp [-getElem?_pos,-List.map_set]
theorem zmi {D:DH} {l:List UInt8}:eqD D (.f (.raw (zyx l)))=true:=ylt
theorem zmj {D:DH} {l:List UInt8}:ziy D (.f (.raw (zyx l)))=true:=by
 show (yzy (zyx l) (zyx l)&&oneCell (zyx l))=true
 rw [tzc]
 exact ⟨ylt,rfl⟩
attribute [local simp] zmi zmj
theorem yyq {D:DH} {o i k sz:Nat} {els:List DV} (h:D[o]? =some (.arr sz els)):ziy D (.ref o i k)=true:=by
 show zs0 D (.ref o i k)=true
 simp only [zs0,h]
theorem yyr {D:DH} {g:FuncId} {o o' sz sz':Nat} {els els':List DV} (h:D[o]? =some (.arr sz els)) (h':D[o']? =some (.arr sz' els')):eqD D (.fn g [] [.ref o 0 0,.ref o' 0 0])=true:=by
 show (([]:List DV).all (ziy D)&&[DV.ref o 0 0,.ref o' 0 0].all (ziy D))=true
 simp [-getElem?_pos,-List.map_set,yyq h,yyq h']
theorem w90 (a b:Aut) (ha:a.valid) (hb':b.valid) (hsy:a.sy=b.sy) (hn11:b.nxt.length<=11) (p:Int×List UInt8) (hp:yl0 a b p) (c:Nat) (hc:(c:Int)<a.sy) (o7 oa ob base:Nat) (D:DH) (ho7:D[o7]? =some (.arr 1 [.fn 86 [] [.ref oa 0 0,.ref ob 0 0]])) (hoa:D[oa]? =some (.arr 4 [zzp a])) (hob:D[ob]? =some (.arr 4 [zzp b])) :
  zzh Q 90 [spD p,zze c,.ref o7 0 0,.ref oa 0 0,.ref ob 0 0] base D=some (.tup [spD (zv6 a b (a.go p.1 c) (zmq b (stN p.2) c)),zzu true],D):=by
 obtain ⟨f,k⟩:=p
 obtain ⟨hf,l0,hk⟩:=hp
 simp only at hf hk
 have hst:stN k=zya b.nxt.length l0:=by rw [hk];exact ztg hb'
 obtain ⟨s,hs⟩:∃ s,s=zya b.nxt.length l0:=⟨_,rfl⟩
 have hsl:s.length<=b.nxt.length:=by rw [hs];exact ztr
 have hsin:inA b s:=λx hx=>zu4 x (by rw [hs] at hx;exact hx)
 rw [<-hs] at hk hst
 simp only [hst]
 have hlk:=zf4 (a:=b) (s:=s) (c:=c)
 have g7:=λX=>zzc (X:=X) ho7
 have ga:=λX=>zzc (X:=X) hoa
 have gb:=λX=>zzc (X:=X) hob
 have r91:(Q.ann 91).raw=false:=by rw [ydt]
 have r92:(Q.ann 92).raw=true:=by rw [yd1]
 have r86:(Q.ann 86).raw=true:=by rw [yvm]
 have h92:=w92 b hb' s hsin (by omega) c (by omega) D.length (D++[.arr 2 [spD (f,k)],.arr 2 [xxb]]) (by simp [-getElem?_pos,-List.map_set]) (by rw [zxh];simp [-getElem?_pos,-List.map_set,zxk])
 obtain ⟨X,G,h86⟩:=w86 a b ha hb' (a.go f c) (Aut.go_dom ha).2 (zmq b s c) (inA.fol hb') (by omega) oa ob (D.length+3) (D.length+3) (D++[.arr 2 [spD (f,k)],.arr 2 [xxb],.arr 4 [zzp b],.app 3 1 ((zmq b s c).map zzf)]) (zzc hoa) (zzc hob) (by simp [-getElem?_pos,-List.map_set]) ⟨tzp _,by rw [List.drop_append,tyy (by omega)];simp [-getElem?_pos,-List.map_set,zvy,zy8],by simp [-getElem?_pos,-List.map_set]⟩
 rw [hk] at h92 h86 ⊢
 simp [-getElem?_pos,-List.map_set,txq] at h92 h86
 have hq:=λX=>yyr (g:=86) (ga X) (gb X)
 rw [zzb (fn:=Tryz.f90) (show Q.P.funcs[90]? =some Tryz.f90 from Tryz.func90) rfl xx0 rfl (by simp only [tzd,tze];decide) (by kernel_rfl)]
 have gp:=xo4
 simp [xx0,Tryz.f90,zyr] at gp
 simp (maxSteps:=2000000) [-getElem?_pos,-List.map_set,gp,hq,g7,ga,gb,zxc ho7,zxc hoa,zxc hob,r91,r92,r86,c91,ha,hf.2,hc,h92,h86]
theorem w93 (b:Aut) (hb':b.valid) (p:Int×List UInt8) (l0:List Int) (hp:p.2=zwt (zya b.nxt.length l0)) (ob base:Nat) (D:DH) (hob:D[ob]? =some (.arr 4 [zzp b])) :
  zzh Q 93 [spD p,.ref ob 0 0] base D=some (zzu (ylz b p),D):=by
 obtain ⟨f,k⟩:=p
 simp only at hp
 have hm:=hb'.most
 have hl:=hb'.len
 have hsl:=ztr (n:=b.nxt.length) (l:=l0)
 have gb:=λX=>zzc (X:=X) hob
 have h94:=λbb D'=>w94 b hb' (zya b.nxt.length l0) (λx hx=>zu4 x hx) (by omega) bb D'
 have e:ylz b (f,k)=(zya b.nxt.length l0).any b.accB:=by
  unfold ylz
  rw [show (f,k).2=_ from hp,ztg hb']
 rw [e]
 subst hp
 simp only [zzp,zzu] at h94
 rw [zzb (fn:=Tryz.f93) (show Q.P.funcs[93]? =some Tryz.f93 from Tryz.func93) rfl yd2 rfl (by simp only [tzd,tze];decide) (by kernel_rfl)]
 simp (maxSteps:=2000000) [-getElem?_pos,-List.map_set,gb,h94]
end Go.Dv
namespace Go.Fsa
def zhk (a b:Aut):Aut×Int:=if a.valid/\b.valid then (if a.sy=b.sy then ((zi5 a b).can,0) else (⟨0,0,[],[]⟩,1)) else (⟨0,0,[],[]⟩,60)
end Go.Fsa
namespace Go.Dv
open Go Go.Sim Go.Proofs Go.Fsa
attribute [local simp] zwq zwp zzp zz6 zz7 zyg zzz zyb zzf zz4 zyd zzy zye zzt zvx zwn spD zmh zvu zvv zua zvw zmi zmj
theorem w40 (a b:Aut) (ha:a.nxt.length<1152921504606846976) (hb:b.nxt.length<1152921504606846976) (hN:a.valid->b.valid->zlk a b<=20000/\b.nxt.length<=11) (base:Nat) (D:DH) :
  zzh Q 40 [zzp a,zzp b] base D=some (zp3 (zhk a b).1 (zhk a b).2,D):=by
 rw [zzb (fn:=Tryz.f40) (show Q.P.funcs[40]? =some Tryz.f40 from Tryz.func40) rfl xxu rfl (by simp only [tzd,tze];decide) (by kernel_rfl)]
 have gp:=xox
 simp [xxu,Tryz.f40,zyr] at gp
 have h68:=λbb D'=>w68 a b ha hb bb D'
 simp only [zzp,zze] at h68
 have r68:(Q.ann 68).raw=false:=by rw [ydw]
 by_cases hv:a.valid/\b.valid
 case neg=>
  rw [if_neg (by rw [Aut.check_valid,Aut.check_valid];exact hv)] at h68
  have e:zhk a b=(⟨0,0,[],[]⟩,60):=by unfold zhk;rw [if_neg hv]
  rw [e]
  simp (maxSteps:=2000000) [-getElem?_pos,-List.map_set,gp,h68,r68,zp3]
 obtain ⟨va,vb⟩:=hv
 obtain ⟨hN,hn11⟩:=hN va vb
 rw [if_pos ⟨Aut.check_valid.2 va,Aut.check_valid.2 vb⟩] at h68
 by_cases hsy:a.sy=b.sy
 case neg=>
  rw [if_neg hsy] at h68
  have e:zhk a b=(⟨0,0,[],[]⟩,1):=by unfold zhk;rw [if_pos ⟨va,vb⟩,if_neg hsy]
  rw [e]
  simp (maxSteps:=2000000) [-getElem?_pos,-List.map_set,gp,h68,r68,zp3]
 rw [if_pos hsy] at h68
 have e:zhk a b=((zi5 a b).can,0):=by unfold zhk;rw [if_pos ⟨va,vb⟩,if_pos hsy]
 rw [e]
 obtain ⟨m1,m2,m3⟩:=zf6 va vb hsy hN
 obtain ⟨s0,hs0⟩:∃ s0,s0=zv6 a b a.begin []:=⟨_,rfl⟩
 have hlo:=va.lo
 have hhi:=va.hi
 have hla:=va.len
 have hbeg:=zwm va
 have h89:=λx bb D'=>w89 x bb D'
 simp only [zzp,zze] at h89
 have r89:(Q.ann 89).raw=false:=by rw [ysv]
 have r86:(Q.ann 86).raw=true:=by rw [yvm]
 have r88:(Q.ann 88).raw=true:=by rw [yd0]
 obtain ⟨x1,x2⟩:=ywf (succ:=zrh a b) (dom:=yl0 a b) (s0:=s0) (N:=zlk a b) (by rw [hs0];exact zrj hbeg) (λs hs t ht=>zoy va hs ht) (λq h1 h2=>ywa h1 h2) (by omega)
 obtain ⟨qs,hqs⟩:∃ q,q=(exN (zrh a b) s0 (zlk a b)).1:=⟨_,rfl⟩
 obtain ⟨rows,hrows⟩:∃ q,q=(exN (zrh a b) s0 (zlk a b)).2:=⟨_,rfl⟩
 have hx:exR id (zrh a b) 100000 (zlk a b+1) 0 [s0]=some (qs,rows):=x1.trans (by rw [hqs,hrows])
 obtain ⟨m,hm⟩:∃ m,m=zi5 a b:=⟨_,rfl⟩
 have hm':m=⟨a.sy,0,qs.map (ylz b),rows⟩:=by rw [hm,hqs,hrows,hs0];rfl
 rw [<-hm] at m1 m2 ⊢
 have hml:m.acc.length<=20000:=by have:=m1.most;omega
 have hb0:=zqi m2 (show m.st=0 by rw [hm'])
 have hql:m.acc.length=qs.length:=by rw [hm'];simp [-getElem?_pos,-List.map_set]
 obtain ⟨c,hc⟩:∃ c,c=m.can:=⟨_,rfl⟩
 by_cases hacc:a.accB a.begin=true/\0<b.acc.length
 .obtain ⟨X,h86⟩:=xp3 a b va vb a.begin hbeg.2 hacc D.length (D.length+1) (D.length+4) (D++[.arr 4 [zzp a],.arr 4 [zzp b],.arr 4 [.agg [zzf 0,zzf 0,zyw,zyw]],.arr 1 [.fn 86 [] [.ref D.length 0 0,.ref (D.length+1) 0 0]]]) (by simp [-getElem?_pos,-List.map_set]) (by simp [-getElem?_pos,-List.map_set]) (by simp [-getElem?_pos,-List.map_set]) (by simp [-getElem?_pos,-List.map_set])
  rw [<-hs0] at h86
  obtain ⟨D4,hD4⟩:∃ Y:DH,Y=[.arr 4 [zzp a],.arr 4 [zzp b],.arr 4 [.agg [zzf 0,zzf 0,zyw,zyw]],.arr 1 [.fn 86 [] [.ref D.length 0 0,.ref (D.length+1) 0 0]],.arr 2 [spD s0],.arr 1 [zzf b.st],.app 3 1 (X.map zzf)]:=⟨_,rfl⟩
  have hL:(D++D4).length=D.length+7:=by rw [hD4];simp [-getElem?_pos,-List.map_set]
  obtain ⟨O1,O2,fi,bs,hex,hfb,hO⟩:=w88 a.sy.toNat 100000 s0 (zrh a b) (ylz b) (yl0 a b) (zlk a b+1) qs rows 90 93 [] [.ref (D.length+3) 0 0,.ref D.length 0 0,.ref (D.length+1) 0 0] [] [.ref (D.length+1) 0 0] D.length (D++D4)
   hx (by rw [hs0];exact zrj hbeg) (λs hs t ht=>zoy va hs ht) (λs=>zri) (by omega) (by omega) (by omega) (by omega)
   (by rw [zxh,hD4];simp [-getElem?_pos,-List.map_set,zxk,zvy,zy8,spD]) (by simp [-getElem?_pos,-List.map_set]) (by simp [-getElem?_pos,-List.map_set,hL]) (by simp [-getElem?_pos,-List.map_set]) (by simp [-getElem?_pos,-List.map_set,hL]) (by rw [yd2])
   (λx c' o hx' ho=>by
    obtain ⟨rfl,hc'⟩:=zce ho
    refine ⟨_,λX=>?_,.inl rfl⟩
    exact w90 a b va vb hsy hn11 x hx' c' hc' (D.length+3) D.length (D.length+1) D.length (D++D4++X) (by rw [hD4];simp [-getElem?_pos,-List.map_set]) (by rw [hD4];simp [-getElem?_pos,-List.map_set]) (by rw [hD4];simp [-getElem?_pos,-List.map_set]))
   (λX x hx'=>by
    obtain ⟨_,l0,h0⟩:=hx'
    exact w93 b vb x l0 h0 (D.length+1) D.length (D++D4++X) (by rw [hD4];simp [-getElem?_pos,-List.map_set]))
  rw [hD4] at hex
  have h61:=λbb=>w61 m m m1 m1.fine rfl m2 (by omega) (λw=>by rw [hb0]) (D.length+8) (D.length+13) (D.length+14) (qV (D.length+11) m.acc.length) (qV (D.length+12) m.acc.length) bb (D++D4++.arr 2 [spD s0]::zxu (D.length+8) m O1 O2 fi bs) (by rw [hD4];simp [-getElem?_pos,-List.map_set,zxu]) (by rw [hD4];simp [-getElem?_pos,-List.map_set,zxu]) (by rw [hD4];simp [-getElem?_pos,-List.map_set,zxu])
  rw [<-hc,hD4] at h61
  rw [<-hc]
  simp only [zxu,hql] at h61
  rw [hm'] at h61
  simp only [zze,zzu,zzp,spD,Int.toNat_of_nonneg (show 0<=a.sy by omega)] at hex h86
  rw [show ((100000:Nat):Int)=100000 from rfl] at hex
  simp (maxSteps:=2000000) [-getElem?_pos,-List.map_set,txq,zp3] at hex h61 h86
  have hOK4:∀ k X,zyp D.length (D.length+k) (D++X)=(X.take k).all (zza (D.length+k)):=λk X=>zxx (tzp _) (by rw [List.drop_length];rfl)
  have hq:∀ (X:DH) (u v:DV),eqD (D++.arr 4 [u]::.arr 4 [v]::X) (.fn 86 [] [.ref D.length 0 0,.ref (D.length+1) 0 0])=true:=λX u v=>yyr (sz:=4) (els:=[u]) (sz':=4) (els':=[v]) (by simp [-getElem?_pos,-List.map_set]) (by simp [-getElem?_pos,-List.map_set])
  simp (maxSteps:=2000000) [-getElem?_pos,-List.map_set,gp,hq,h68,r68,r86,r88,r89,h89,h86,hex,h61,zp3,hOK4,zqs,zuc,zqt]
 .have h86:=xp4 a b va vb a.begin hbeg.2 hacc D.length (D.length+1) (D.length+4) (D++[.arr 4 [zzp a],.arr 4 [zzp b],.arr 4 [.agg [zzf 0,zzf 0,zyw,zyw]],.arr 1 [.fn 86 [] [.ref D.length 0 0,.ref (D.length+1) 0 0]]]) (by simp [-getElem?_pos,-List.map_set]) (by simp [-getElem?_pos,-List.map_set]) (by simp [-getElem?_pos,-List.map_set]) (by simp [-getElem?_pos,-List.map_set])
  rw [<-hs0] at h86
  obtain ⟨D4,hD4⟩:∃ Y:DH,Y=[.arr 4 [zzp a],.arr 4 [zzp b],.arr 4 [.agg [zzf 0,zzf 0,zyw,zyw]],.arr 1 [.fn 86 [] [.ref D.length 0 0,.ref (D.length+1) 0 0]],.arr 2 [spD s0]]:=⟨_,rfl⟩
  have hL:(D++D4).length=D.length+5:=by rw [hD4];simp [-getElem?_pos,-List.map_set]
  obtain ⟨O1,O2,fi,bs,hex,hfb,hO⟩:=w88 a.sy.toNat 100000 s0 (zrh a b) (ylz b) (yl0 a b) (zlk a b+1) qs rows 90 93 [] [.ref (D.length+3) 0 0,.ref D.length 0 0,.ref (D.length+1) 0 0] [] [.ref (D.length+1) 0 0] D.length (D++D4)
   hx (by rw [hs0];exact zrj hbeg) (λs hs t ht=>zoy va hs ht) (λs=>zri) (by omega) (by omega) (by omega) (by omega)
   (by rw [zxh,hD4];simp [-getElem?_pos,-List.map_set,zxk,zvy,zy8,spD]) (by simp [-getElem?_pos,-List.map_set]) (by simp [-getElem?_pos,-List.map_set,hL]) (by simp [-getElem?_pos,-List.map_set]) (by simp [-getElem?_pos,-List.map_set,hL]) (by rw [yd2])
   (λx c' o hx' ho=>by
    obtain ⟨rfl,hc'⟩:=zce ho
    refine ⟨_,λX=>?_,.inl rfl⟩
    exact w90 a b va vb hsy hn11 x hx' c' hc' (D.length+3) D.length (D.length+1) D.length (D++D4++X) (by rw [hD4];simp [-getElem?_pos,-List.map_set]) (by rw [hD4];simp [-getElem?_pos,-List.map_set]) (by rw [hD4];simp [-getElem?_pos,-List.map_set]))
   (λX x hx'=>by
    obtain ⟨_,l0,h0⟩:=hx'
    exact w93 b vb x l0 h0 (D.length+1) D.length (D++D4++X) (by rw [hD4];simp [-getElem?_pos,-List.map_set]))
  rw [hD4] at hex
  have h61:=λbb=>w61 m m m1 m1.fine rfl m2 (by omega) (λw=>by rw [hb0]) (D.length+6) (D.length+11) (D.length+12) (qV (D.length+9) m.acc.length) (qV (D.length+10) m.acc.length) bb (D++D4++.arr 2 [spD s0]::zxu (D.length+6) m O1 O2 fi bs) (by rw [hD4];simp [-getElem?_pos,-List.map_set,zxu]) (by rw [hD4];simp [-getElem?_pos,-List.map_set,zxu]) (by rw [hD4];simp [-getElem?_pos,-List.map_set,zxu])
  rw [<-hc,hD4] at h61
  rw [<-hc]
  simp only [zxu,hql] at h61
  rw [hm'] at h61
  simp only [zze,zzu,zzp,spD,Int.toNat_of_nonneg (show 0<=a.sy by omega)] at hex h86
  rw [show ((100000:Nat):Int)=100000 from rfl] at hex
  simp (maxSteps:=2000000) [-getElem?_pos,-List.map_set,txq,zp3] at hex h61 h86
  have hOK4:∀ k X,zyp D.length (D.length+k) (D++X)=(X.take k).all (zza (D.length+k)):=λk X=>zxx (tzp _) (by rw [List.drop_length];rfl)
  have hq:∀ (X:DH) (u v:DV),eqD (D++.arr 4 [u]::.arr 4 [v]::X) (.fn 86 [] [.ref D.length 0 0,.ref (D.length+1) 0 0])=true:=λX u v=>yyr (sz:=4) (els:=[u]) (sz':=4) (els':=[v]) (by simp [-getElem?_pos,-List.map_set]) (by simp [-getElem?_pos,-List.map_set])
  simp (maxSteps:=2000000) [-getElem?_pos,-List.map_set,gp,hq,h68,r68,r86,r88,r89,h89,h86,hex,h61,zp3,hOK4,zqs,zuc,zqt]
end Go.Dv
namespace Go.Dv
open Go Go.Sim Go.Proofs Go.Fsa
attribute [local simp] zwq zwp zzp zz6 zz7 zyg zzz zyb zzf zz4 zyd zzy zye zzt zvx zwn agD zmh zvu zvv zua zvw zmi zmj
theorem xyy {D:DH} {g:FuncId} {o sz:Nat} {els:List DV} (h:D[o]? =some (.arr sz els)):eqD D (.fn g [] [.ref o 0 0])=true:=by
 show (([]:List DV).all (ziy D)&&[DV.ref o 0 0].all (ziy D))=true
 simp [-getElem?_pos,-List.map_set,yyq h]
theorem w97 (a:Aut) (ha:a.valid) (hn11:a.nxt.length<=11) (p:Bool×List UInt8) (hp:yl1 a p) (c:Nat) (hc:(c:Int)<a.sy) (oa base:Nat) (D:DH) (hoa:D[oa]? =some (.arr 4 [zzp a])) :
  zzh Q 97 [agD p,zze c,.ref oa 0 0] base D=some (.tup [agD (zcf a (zmq a (stN p.2) c)),zzu true],D):=by
 obtain ⟨f,k⟩:=p
 obtain ⟨l0,hk⟩:=hp
 simp only at hk
 have hst:stN k=zya a.nxt.length l0:=by rw [hk];exact ztg ha
 obtain ⟨s,hs⟩:∃ s,s=zya a.nxt.length l0:=⟨_,rfl⟩
 have hsl:s.length<=a.nxt.length:=by rw [hs];exact ztr
 have hsin:inA a s:=λx hx=>zu4 x (by rw [hs] at hx;exact hx)
 rw [<-hs] at hk hst
 simp only [hst]
 have hlk:=zf4 (a:=a) (s:=s) (c:=c)
 have ga:=λX=>zzc (X:=X) hoa
 have gr:=λX=>xyy (g:=98) (ga X)
 have r92:(Q.ann 92).raw=true:=by rw [yd1]
 have r87:(Q.ann 87).raw=true:=by rw [zlf]
 have r73:(Q.ann 73).raw=false:=by rw [yds]
 have h92:=w92 a ha s hsin (by omega) c (by omega) D.length (D++[.arr 2 [agD (f,k)],.arr 2 [.agg [.f (.raw (.bool false)),.f (.raw (.string ⟨⟨[]⟩⟩))]]]) (by simp [-getElem?_pos,-List.map_set]) (by rw [zxh];simp [-getElem?_pos,-List.map_set,zxk])
 rw [hk] at h92 ⊢
 simp [-getElem?_pos,-List.map_set,txq] at h92
 obtain ⟨l,hl⟩:∃ l,l=zmq a s c:=⟨_,rfl⟩
 have hlin:inA a l:=by rw [hl];exact inA.fol ha
 rw [<-hl] at h92 hlk ⊢
 have h73:=λbb=>xm1 l (by omega) 98 [] [.ref oa 0 0] a.accB (D.length+3) bb (D++[.arr 2 [agD (f,zwt s)],.arr 2 [.agg [.f (.raw (.bool false)),.f (.raw (.string ⟨⟨[]⟩⟩))]],.arr 4 [zzp a],.app 3 1 (l.map zzf)]) (f98 a ha oa _ (zzc hoa) l hlin) (by simp [-getElem?_pos,-List.map_set])
 simp [-getElem?_pos,-List.map_set,txq] at h73
 have e:zcf a l=(false,zwt (zya a.nxt.length (zjh a l))):=rfl
 rw [e]
 rw [zzb (fn:=Tryz.f97) (show Q.P.funcs[97]? =some Tryz.f97 from Tryz.func97) rfl xrh rfl (by simp only [tzd,tze];decide) (by kernel_rfl)]
 cases hany:l.any a.accB with
 | false=>
  rw [hany] at h73
  have es:zjh a l=l:=by unfold zjh;rw [hany];rfl
  rw [es]
  obtain ⟨X,h87⟩:=w87 a.nxt.length (by omega) l hlin (by omega) (D.length+3) D.length (D++[.arr 2 [agD (f,zwt s)],.arr 2 [.agg [.f (.raw (.bool false)),.f (.raw (.string ⟨⟨[]⟩⟩))]],.arr 4 [zzp a],.app 3 1 (l.map zzf)]) ⟨by omega,by rw [zxh];simp [-getElem?_pos,-List.map_set,zvy,zxk,zy8],by simp [-getElem?_pos,-List.map_set]⟩
  simp [-getElem?_pos,-List.map_set] at h87
  simp (maxSteps:=2000000) [-getElem?_pos,-List.map_set,ga,gr,zxc hoa,r92,r87,r73,h92,h73,h87]
 | true=>
  rw [hany] at h73
  have es:zjh a l=l++[a.st]:=by unfold zjh;rw [hany];rfl
  rw [es]
  have hst0:=ha.st0
  have hst1:=ha.st1
  have hap:(l.length+1)*8<=1099511627776/\l.length<=1099511627775:=by omega
  have hlin2:∀ x∈l++[a.st],0<=x/\x<(a.nxt.length:Int):=λx hx=>by
   rcases tyh.1 hx with h | h
   .exact hlin x h
   .rw [tzw] at h
    obtain ⟨y,hy,_⟩:=List.any_eq_true.1 hany
    have:=hlin y hy
    have:=ha.len
    omega
  obtain ⟨X,h87⟩:=w87 a.nxt.length (by omega) (l++[a.st]) hlin2 (by simp [-getElem?_pos,-List.map_set];omega) (D.length+3) D.length (D++[.arr 2 [agD (f,zwt s)],.arr 2 [.agg [.f (.raw (.bool false)),.f (.raw (.string ⟨⟨[]⟩⟩))]],.arr 4 [zzp a],.app 3 1 ((l++[a.st]).map zzf),.arr 1 [zzf a.st]]) ⟨by omega,by rw [zxh];simp [-getElem?_pos,-List.map_set,zvy,zxk,zy8],by simp [-getElem?_pos,-List.map_set]⟩
  simp [-getElem?_pos,-List.map_set] at h87
  simp (maxSteps:=2000000) [-getElem?_pos,-List.map_set,ga,gr,zxc hoa,r92,r87,r73,h92,h73,hap,h87]
theorem w99 (a:Aut) (ha:a.valid) (p:Bool×List UInt8) (hp:yl1 a p) (oa base:Nat) (D:DH) (hoa:D[oa]? =some (.arr 4 [zzp a])) :
  zzh Q 99 [agD p,.ref oa 0 0] base D=some (zzu (zlj a p),D):=by
 obtain ⟨f,k⟩:=p
 obtain ⟨l0,hk⟩:=hp
 simp only at hk
 have hm:=ha.most
 have hl:=ha.len
 have hsl:=ztr (n:=a.nxt.length) (l:=l0)
 have ga:=λX=>zzc (X:=X) hoa
 have h94:=λbb D'=>w94 a ha (zya a.nxt.length l0) (λx hx=>zu4 x hx) (by omega) bb D'
 have e:zlj a (f,k)=(f||(zya a.nxt.length l0).any a.accB):=by
  unfold zlj
  rw [show (f,k).2=_ from hk,ztg ha]
 rw [e]
 subst hk
 simp only [zzp,zzu] at h94
 rw [zzb (fn:=Tryz.f99) (show Q.P.funcs[99]? =some Tryz.f99 from Tryz.func99) rfl yd4 rfl (by simp only [tzd,tze];decide) (by kernel_rfl)]
 cases f
 .simp (maxSteps:=2000000) [-getElem?_pos,-List.map_set,ga,h94]
 .simp (maxSteps:=2000000) [-getElem?_pos,-List.map_set,ga,h94]
end Go.Dv
namespace Go.Fsa
def zbj (a:Aut):Aut×Int:=if a.valid then ((zi6 a).can,0) else (⟨0,0,[],[]⟩,60)
end Go.Fsa
namespace Go.Dv
open Go Go.Sim Go.Proofs Go.Fsa
attribute [local simp] zwq zwp zzp zz6 zz7 zyg zzz zyb zzf zz4 zyd zzy zye zzt zvx zwn agD zmh zvu zvv zua zvw zmi zmj
theorem w42 (a:Aut) (ha:a.nxt.length<1152921504606846976) (hN:a.valid->zll a<=20000/\a.nxt.length<=11) (base:Nat) (D:DH) :
  zzh Q 42 [zzp a] base D=some (zp3 (zbj a).1 (zbj a).2,D):=by
 rw [zzb (fn:=Tryz.f42) (show Q.P.funcs[42]? =some Tryz.f42 from Tryz.func42) rfl xxv rfl (by simp only [tzd,tze];decide) (by kernel_rfl)]
 have gp:=xoy
 simp [xxv,Tryz.f42,zyr] at gp
 have h18:=λbb D'=>w18 a ha bb D'
 simp only [zzp,zze] at h18
 have r18:(Q.ann 18).raw=false:=by rw [ydr]
 by_cases hv:a.valid
 case neg=>
  have hck:a.check=60:=by simp [-getElem?_pos,-List.map_set,Aut.check,hv]
  have e:zbj a=(⟨0,0,[],[]⟩,60):=by unfold zbj;rw [if_neg hv]
  rw [e]
  simp (maxSteps:=2000000) [-getElem?_pos,-List.map_set,gp,h18,hck,zp3]
 have hck:a.check=0:=Aut.check_valid.2 hv
 have e:zbj a=((zi6 a).can,0):=by unfold zbj;rw [if_pos hv]
 rw [e]
 obtain ⟨hN,hn11⟩:=hN hv
 obtain ⟨m1,m2,m3⟩:=zf7 hv hN
 obtain ⟨s0,hs0⟩:∃ s0,s0=zq5 a:=⟨_,rfl⟩
 have hlo:=hv.lo
 have hhi:=hv.hi
 have hla:=hv.len
 have hst0:=hv.st0
 have hst1:=hv.st1
 have r87:(Q.ann 87).raw=true:=by rw [zlf]
 have r96:(Q.ann 96).raw=true:=by rw [yd3]
 have d0:yl1 a s0:=by rw [hs0];exact ⟨_,rfl⟩
 obtain ⟨x1,x2⟩:=ywf (succ:=zsx a) (dom:=yl1 a) (s0:=s0) (N:=zll a) d0 (λs hs t ht=>zo0 hs ht) (λq h1 h2=>ywc h1 h2) (by omega)
 obtain ⟨qs,hqs⟩:∃ q,q=(exN (zsx a) s0 (zll a)).1:=⟨_,rfl⟩
 obtain ⟨rows,hrows⟩:∃ q,q=(exN (zsx a) s0 (zll a)).2:=⟨_,rfl⟩
 have hx:exR id (zsx a) 100000 (zll a+1) 0 [s0]=some (qs,rows):=x1.trans (by rw [hqs,hrows])
 obtain ⟨m,hm⟩:∃ m,m=zi6 a:=⟨_,rfl⟩
 have hm':m=⟨a.sy,0,qs.map (zlj a),rows⟩:=by rw [hm,hqs,hrows,hs0];rfl
 rw [<-hm] at m1 m2 ⊢
 have hml:m.acc.length<=20000:=by have:=m1.most;omega
 have hb0:=zqi m2 (show m.st=0 by rw [hm'])
 have hql:m.acc.length=qs.length:=by rw [hm'];simp [-getElem?_pos,-List.map_set]
 obtain ⟨c,hc⟩:∃ c,c=m.can:=⟨_,rfl⟩
 by_cases h0:0<a.acc.length
 .skip
  have es:zq5 a=(true,zwt (zya a.nxt.length [a.st])):=by unfold zq5;rw [if_pos h0]
  have h87:=λbb hb hob=>xyx a.nxt.length (by omega) a.st (by omega) (D.length+2) bb (D++[.arr 4 [zzp a],.arr 4 [.agg [zzf 0,zzf 0,zyw,zyw]],.arr 1 [zzf a.st]]) (by simp [-getElem?_pos,-List.map_set]) hb hob
  obtain ⟨D4,hD4⟩:∃ Y:DH,Y=[.arr 4 [zzp a],.arr 4 [.agg [zzf 0,zzf 0,zyw,zyw]],.arr 1 [zzf a.st]]:=⟨_,rfl⟩
  have hL:(D++D4).length=D.length+3:=by rw [hD4];simp [-getElem?_pos,-List.map_set]
  have es':=(congrArg Prod.snd (hs0.trans es)).symm
  simp only at es'
  rw [es'] at h87
  obtain ⟨O1,O2,fi,bs,hex,hfb,hO⟩:=w96 a.sy.toNat 100000 s0 (zsx a) (zlj a) (yl1 a) (zll a+1) qs rows 97 99 [] [.ref D.length 0 0] [] [.ref D.length 0 0] D.length (D++D4)
   hx d0 (λs hs t ht=>zo0 hs ht) (λs=>ztt) (by omega) (by omega) (by omega) (by omega)
   (by rw [zxh,hD4];simp [-getElem?_pos,-List.map_set,zxk,zvy,zy8]) (by simp [-getElem?_pos,-List.map_set]) (by simp [-getElem?_pos,-List.map_set,hL]) (by simp [-getElem?_pos,-List.map_set]) (by simp [-getElem?_pos,-List.map_set,hL]) (by rw [yd4])
   (λx c' o hx' ho=>by
    obtain ⟨rfl,hc'⟩:=zcg ho
    refine ⟨_,λX=>?_,.inl rfl⟩
    exact w97 a hv hn11 x hx' c' hc' D.length D.length (D++D4++X) (by rw [hD4];simp [-getElem?_pos,-List.map_set]))
   (λX x hx'=>w99 a hv x hx' D.length D.length (D++D4++X) (by rw [hD4];simp [-getElem?_pos,-List.map_set]))
  rw [hD4] at hex
  have h61:=λbb=>w61 m m m1 m1.fine rfl m2 (by omega) (λw=>by rw [hb0]) (D.length+4) (D.length+9) (D.length+10) (qV (D.length+7) m.acc.length) (qV (D.length+8) m.acc.length) bb (D++D4++.arr 2 [agD s0]::zxu (D.length+4) m O1 O2 fi bs) (by rw [hD4];simp [-getElem?_pos,-List.map_set,zxu]) (by rw [hD4];simp [-getElem?_pos,-List.map_set,zxu]) (by rw [hD4];simp [-getElem?_pos,-List.map_set,zxu])
  rw [<-hc,hD4] at h61
  rw [<-hc]
  simp only [zxu,hql] at h61
  rw [hm'] at h61
  simp only [zze,zzu,zzp,agD,Int.toNat_of_nonneg (show 0<=a.sy by omega)] at hex
  rw [show ((100000:Nat):Int)=100000 from rfl] at hex
  have h87':=h87 (D.length+2) (by simp [-getElem?_pos,-List.map_set]) (by rw [List.drop_append,tyy (by omega)];simp [-getElem?_pos,-List.map_set,zxk])
  simp (maxSteps:=2000000) [-getElem?_pos,-List.map_set,txq,zp3] at hex h61 h87'
  have hs1:s0.1=true:=by rw [hs0];rfl
  rw [hs1] at hex h61
  simp (maxSteps:=2000000) [-getElem?_pos,-List.map_set,gp,hck,h0,h18,r18,r87,r96,h87',hex,h61,zp3,zqs,zuc,zqt]
 .skip
  have es:zq5 a=(true,zwt (zya a.nxt.length [])):=by unfold zq5;rw [if_neg h0]
  have h87:=λbb hb hob=>ylp a.nxt.length (by omega) bb (D++[.arr 4 [zzp a],.arr 4 [.agg [zzf 0,zzf 0,zyw,zyw]]]) hb hob
  obtain ⟨D4,hD4⟩:∃ Y:DH,Y=[.arr 4 [zzp a],.arr 4 [.agg [zzf 0,zzf 0,zyw,zyw]]]:=⟨_,rfl⟩
  have hL:(D++D4).length=D.length+2:=by rw [hD4];simp [-getElem?_pos,-List.map_set]
  have es':=(congrArg Prod.snd (hs0.trans es)).symm
  simp only at es'
  rw [es'] at h87
  obtain ⟨O1,O2,fi,bs,hex,hfb,hO⟩:=w96 a.sy.toNat 100000 s0 (zsx a) (zlj a) (yl1 a) (zll a+1) qs rows 97 99 [] [.ref D.length 0 0] [] [.ref D.length 0 0] D.length (D++D4)
   hx d0 (λs hs t ht=>zo0 hs ht) (λs=>ztt) (by omega) (by omega) (by omega) (by omega)
   (by rw [zxh,hD4];simp [-getElem?_pos,-List.map_set,zxk,zvy,zy8]) (by simp [-getElem?_pos,-List.map_set]) (by simp [-getElem?_pos,-List.map_set,hL]) (by simp [-getElem?_pos,-List.map_set]) (by simp [-getElem?_pos,-List.map_set,hL]) (by rw [yd4])
   (λx c' o hx' ho=>by
    obtain ⟨rfl,hc'⟩:=zcg ho
    refine ⟨_,λX=>?_,.inl rfl⟩
    exact w97 a hv hn11 x hx' c' hc' D.length D.length (D++D4++X) (by rw [hD4];simp [-getElem?_pos,-List.map_set]))
   (λX x hx'=>w99 a hv x hx' D.length D.length (D++D4++X) (by rw [hD4];simp [-getElem?_pos,-List.map_set]))
  rw [hD4] at hex
  have h61:=λbb=>w61 m m m1 m1.fine rfl m2 (by omega) (λw=>by rw [hb0]) (D.length+3) (D.length+8) (D.length+9) (qV (D.length+6) m.acc.length) (qV (D.length+7) m.acc.length) bb (D++D4++.arr 2 [agD s0]::zxu (D.length+3) m O1 O2 fi bs) (by rw [hD4];simp [-getElem?_pos,-List.map_set,zxu]) (by rw [hD4];simp [-getElem?_pos,-List.map_set,zxu]) (by rw [hD4];simp [-getElem?_pos,-List.map_set,zxu])
  rw [<-hc,hD4] at h61
  rw [<-hc]
  simp only [zxu,hql] at h61
  rw [hm'] at h61
  simp only [zze,zzu,zzp,agD,Int.toNat_of_nonneg (show 0<=a.sy by omega)] at hex
  rw [show ((100000:Nat):Int)=100000 from rfl] at hex
  have h87':=h87 (D.length+2) (by simp [-getElem?_pos,-List.map_set]) (by rw [List.drop_append,tyy (by omega)];simp [-getElem?_pos,-List.map_set,zxk])
  simp (maxSteps:=2000000) [-getElem?_pos,-List.map_set,txq,zp3] at hex h61 h87'
  have hs1:s0.1=true:=by rw [hs0];rfl
  rw [hs1] at hex h61
  simp (maxSteps:=2000000) [-getElem?_pos,-List.map_set,gp,hck,h0,h18,r18,r87,r96,h87',hex,h61,zp3,zqs,zuc,zqt]
end Go.Dv
namespace Go.Dv
open Go Go.Sim Go.Proofs Go.Fsa
attribute [local simp] zwq zwp zzp zz6 zz7 zyg zzz zyb zzf zz4 zyd zzy zye zzt zvx zwn zbi zmh zvu zvv zua zvw zmi zmj
theorem xm5 (a:Aut) (ha:a.valid) (p:List UInt8) (hp:yg5 a p) (oa base:Nat) (D:DH) (hoa:D[oa]? =some (.arr 4 [zzp a])) :
  zzh Q 103 [zbi p,.ref oa 0 0] base D=some (zzu (yl2 a p),D):=by
 obtain ⟨l0,hk⟩:=hp
 have hm:=ha.most
 have hl:=ha.len
 have hsl:=ztr (n:=a.nxt.length) (l:=l0)
 have ga:=λX=>zzc (X:=X) hoa
 have h102:=λbb D'=>xs2 (s:=zya a.nxt.length l0) (base:=bb) (D:=D') (inA.hi ha λx hx=>zu4 x hx) (by omega)
 have h104:=λbb D'=>xm3 (zya a.nxt.length l0) (by omega) a.begin bb D'
 have h89:=λbb D'=>w89 a bb D'
 have e:yl2 a p=decide (a.begin∈zya a.nxt.length l0):=by
  unfold yl2
  rw [hk,ztg ha]
 rw [e]
 subst hk
 simp only [zzp,zzu,zxd,zug,zze] at h89 h104
 rw [zzb (fn:=Tryz.f103) (show Q.P.funcs[103]? =some Tryz.f103 from Tryz.func103) rfl ys1 rfl (by simp only [tzd,tze];decide) (by kernel_rfl)]
 have gp:=xrl
 simp [ys1,Tryz.f103,zyr] at gp
 have r102:(Q.ann 102).raw=false:=by rw [yyv]
 have r104:(Q.ann 104).raw=false:=by rw [yek]
 have r89:(Q.ann 89).raw=false:=by rw [ysv]
 simp (maxSteps:=2000000) [-getElem?_pos,-List.map_set,gp,hoa,zxc hoa,r102,r104,r89,h102,h104,h89]
def xss (a:Aut) (o2:Nat) (D:DH):Prop:=∃ els:List DV,D[o2]? =some (.arr 1 els)/\els.length=a.nxt.length/\∀ s:Nat,s<a.nxt.length->∃ r cs,els[s]? =some (.row r 0 a.sy.toNat a.sy.toNat)/\D[r]? =some (.arr 1 cs)/\cs.length=a.sy.toNat/\∀ c:Nat,(c:Int)<a.sy->∃ q,cs[c]? =some (.apl q (ytx a s c).length)/\D[q]? =some (.app 3 1 ((ytx a s c).map zzf))
theorem xss.app {a:Aut} {o2:Nat} {D:DH} (h:xss a o2 D) (X:DH):xss a o2 (D++X):=by
 obtain ⟨els,h1,h2,h3⟩:=h
 refine ⟨els,zzc h1,h2,λs hs=>?_⟩
 obtain ⟨r,cs,g1,g2,g3,g4⟩:=h3 s hs
 refine ⟨r,cs,g1,zzc g2,g3,λc hc=>?_⟩
 obtain ⟨q,k1,k2⟩:=g4 c hc
 exact ⟨q,k1,zzc k2⟩
theorem xm6 (a:Aut) (ha:a.valid) (hn11:a.nxt.length<=11) (p:List UInt8) (hp:yg5 a p) (c:Nat) (hc:(c:Int)<a.sy) (ob o2 base:Nat) (D:DH) (hob:D[ob]? =some (.arr 1 [.row o2 0 a.nxt.length a.nxt.length])) (hT:xss a o2 D) :
  zzh Q 101 [zbi p,zze c,.ref ob 0 0] base D=some (.tup [zbi (zwt (zya a.nxt.length (zph a (stN p) c))),zzu true],D):=by
 obtain ⟨l0,hk⟩:=hp
 have hst:stN p=zya a.nxt.length l0:=by rw [hk];exact ztg ha
 obtain ⟨s,hs⟩:∃ s,s=zya a.nxt.length l0:=⟨_,rfl⟩
 have hsl:s.length<=a.nxt.length:=by rw [hs];exact ztr
 have hsin:inA a s:=λx hx=>zu4 x (by rw [hs] at hx;exact hx)
 have hsn:s.Nodup:=by rw [hs];exact yzu
 rw [<-hs] at hk hst
 simp only [hst]
 subst hk
 obtain ⟨els,t1,t2,t3⟩:=hT
 have gb:=λX=>zzc (X:=X) hob
 have g2:=λX=>zzc (X:=X) t1
 have h102:=λbb D'=>xs2 (s:=s) (base:=bb) (D:=D') (inA.hi ha hsin) (by omega)
 have r87:(Q.ann 87).raw=true:=by rw [zlf]
 have hlb:=zjl (a:=a) (c:=c) hsn
 rw [zzb (fn:=Tryz.f101) (show Q.P.funcs[101]? =some Tryz.f101 from Tryz.func101) rfl xx1 rfl (by simp only [tzd,tze];decide) (by kernel_rfl)]
 simp (maxSteps:=2000000) [-getElem?_pos,-List.map_set,h102]
 generalize hX:zxi _ _ _=X
 obtain ⟨tm,W,rfl,hW,t7⟩:∃ (tm:Trie DV) (W:List Int),X=some (.exit 0,⟨tm,D++[.app 3 1 (W.map zzf)]⟩)/\W=zph a s c/\tm.get 7=some (.apl D.length W.length):=by
  rw [<-hX]
  clear hX hst r87 h102
  have hob1:ob<D.length+1:=by have:=zxc hob;omega
  generalize hs65:SD.mk _ _=sd65
  revert sd65
  refine wl (λp:Nat×List Int=>⟨(((((Trie.leaf.put 13 (zze p.1)).put 12 (zze s.length)).put 11 (zxd s)).put 7 (.apl D.length p.2.length)).put 2 (.ref ob 0 0)).put 1 (zze c),D++[.app 3 1 (p.2.map zzf)]⟩) (λp=>p.1<=s.length/\p.2=zph a (s.take p.1) c) (λp=>s.length-p.1) ?_ (0,[]) ⟨tz6 _,rfl⟩
  rintro ⟨i,W⟩ ⟨hi,hW⟩ ih
  simp only at hi hW ih
  have hWl:W.length<=a.nxt.length:=by rw [hW];exact zjl (hsn.sublist (List.take_sublist _ _))
  rw [if_pos hob1]
  rw [zzi]
  by_cases hlt:i<s.length
  case neg=>
   rw [tzk (by omega)] at hW
   simp (maxSteps:=2000000) [-getElem?_pos,-List.map_set,hlt,hob1]
   exact ⟨_,W,⟨rfl,rfl⟩,hW,by simp [-getElem?_pos,-List.map_set]⟩
  obtain ⟨x,hx⟩:∃ x,s[i]? =some x:=⟨_,tzb hlt⟩
  obtain ⟨x1,x2⟩:=hsin x (tzg hx)
  obtain ⟨n,rfl⟩:∃ n:Nat,x=n:=⟨x.toNat,by omega⟩
  obtain ⟨r,cs,e1,e2,e3,e4⟩:=t3 n (by omega)
  obtain ⟨q,e5,e6⟩:=e4 c hc
  have gr:=λX=>zzc (X:=X) e2
  have gq:=λX=>zzc (X:=X) e6
  have hT:zph a (s.take (i+1)) c=W++ytx a n c:=by rw [tz8,hx,hW];simp [-getElem?_pos,-List.map_set,zph]
  have hWl2:(W++ytx a n c).length<=a.nxt.length:=by rw [<-hT];exact zjl (hsn.sublist (List.take_sublist _ _))
  rw [tz5] at hWl2
  have hlo:=ha.lo
  have hcs:c<a.sy.toNat:=by omega
  have ih':=ih (i+1,W++ytx a n c) ⟨by simp only;omega,by simp only;rw [hT]⟩ (by simp only;omega)
  rw [if_pos hob1] at ih'
  simp (maxSteps:=2000000) [-getElem?_pos,-List.map_set] at ih'
  simp (maxSteps:=2000000) [-getElem?_pos,-List.map_set,show (W.length+(ytx a n c).length)*8<=1099511627776/\W.length+(ytx a n c).length<=1099511627776 by omega,show n<a.nxt.length by omega,hlt,hob1,zxc hob,gb,g2,gr,gq,hx,e1,e5,t2,e3,hcs,zzg (show i+1<=9223372036854775807 by omega)]
  exact ih'
 subst hW
 obtain ⟨X,h87⟩:=w87 a.nxt.length (by omega) (zph a s c) (λx hx=>(zrl.1 hx).1) (by omega) D.length D.length (D++[.app 3 1 ((zph a s c).map zzf)]) ⟨by omega,by rw [zxh];simp [-getElem?_pos,-List.map_set,zvy,zy8],by simp [-getElem?_pos,-List.map_set]⟩
 simp [-getElem?_pos,-List.map_set] at h87
 simp (maxSteps:=2000000) [-getElem?_pos,-List.map_set,t7,r87,h87]
end Go.Dv
set_option maxHeartbeats 2000000
namespace Go.Dv
open Go Go.Sim Go.Proofs Go.Fsa
def zeq (r sy:Nat) (b:Nat->List Int):List DV:=(List.range sy).map λc=>.apl (r+(c+1)) (b c).length
theorem zqu {r sy:Nat} {b:Nat->List Int}:(zeq r sy b).length=sy:=by simp [-List.map_set,zeq]
theorem zkh {r sy c:Nat} {b:Nat->List Int} (h:c<sy):(zeq r sy b)[c]? =some (.apl (r+(c+1)) (b c).length):=by
 unfold zeq
 rw [tzr,tz7 h];rfl
theorem yvl {r sy c:Nat} {b:Nat->List Int} {l:List Int}:(zeq r sy b).set c (.apl (r+(c+1)) l.length)=zeq r sy (λd=>if d=c then l else b d):=by
 refine ty8 λj=>?_
 rw [tya]
 rcases tz9 j sy with h | h
 .rw [zkh h,zkh h,zqu]
  by_cases e:c=j
  .subst e;simp [-List.map_set,h]
  .rw [if_neg e,if_neg (λe'=>e e'.symm)]
 .rw [tzt (l:=zeq r sy b) (by rw [zqu];exact h),tzt (l:=zeq _ _ _) (by rw [zqu];exact h),zqu]
  split
  .rw [if_neg (by omega)]
  .rfl
theorem zgv {r sy L:Nat} {b:Nat->List Int} (h:r+sy<L):(zeq r sy b).all (below L)=true:=by
 unfold zeq
 rw [List.all_map,tzx]
 intro i hi
 rw [txc] at hi
 show below L (.apl _ _)=true
 rw [yxe,decide_eq_true_eq];omega
abbrev zA:DV:=.agg [rv (.int .i64 0),rv (.int .i64 0),rv (.slice none 0 0),rv (.slice none 0 0)]
structure RV (a:Aut) (D:DH) (R:Nat->Nat) (E:List Int) (m:Nat) (B:Nat->Nat->List Int) (els:List DV) (H:DH):Prop where
 hlen:D.length+4<H.length
 pre:∀ i,i<D.length->H[i]? =D[i]?
 bel:∀ i x,D.length<=i->H[i]? =some x->zza H.length x=true
 o0:H[D.length]? =some (.arr 4 [zzp a])
 o1:H[D.length+1]? =some (.arr 4 [zA])
 o2:H[D.length+2]? =some (.arr 1 els)
 o3:H[D.length+3]? =some (.arr 1 [.row (D.length+2) 0 a.acc.length a.acc.length])
 o4:H[D.length+4]? =some (.app 3 1 (E.map zzf))
 len:els.length=a.acc.length
 top:∀ s,s<m->els[s]? =some (.row (R s) 0 a.sy.toNat a.sy.toNat)
 row:∀ s,s<m->H[R s]? =some (.arr 1 (zeq (R s) a.sy.toNat (B s)))
 cell:∀ s,s<m->∀ c,c<a.sy.toNat->H[R s+(c+1)]? =some (.app 3 1 ((B s c).map zzf))
 lo:∀ s,s<m->D.length+4<R s
 inc:∀ s t,s<t->t<m->R s+a.sy.toNat<R t
variable {a:Aut} {D:DH} {R:Nat->Nat} {E:List Int} {m:Nat} {B:Nat->Nat->List Int} {els:List DV} {H:DH}
theorem RV.app (h:RV a D R E m B els H) (g:DObj) (hg:zza (H.length+1) g=true):RV a D R E m B els (H++[g]) where
 hlen:=by have:=h.hlen;simp [-List.map_set];omega
 pre i hi:=by rw [tzs (by have:=h.hlen;omega)];exact h.pre i hi
 bel i x hi hx:=by
  rw [tz5]
  rcases tz9 i H.length with g1 | g1
  .rw [tzs g1] at hx
   exact zx4 (tyt _ _) x (h.bel i x hi hx)
  .rw [tzv g1] at hx
   have e:x=g:=by
    rcases ty4 (i-H.length) with g2 | g2
    .rw [g2] at hx;simpa [-List.map_set] using hx.symm
    .rw [tzt (by simp [-List.map_set];omega)] at hx;cases hx
   rw [e];exact hg
 o0:=zzc h.o0
 o1:=zzc h.o1
 o2:=zzc h.o2
 o3:=zzc h.o3
 o4:=zzc h.o4
 len:=h.len
 top:=h.top
 row s hs:=zzc (h.row s hs)
 cell s hs c hc:=zzc (h.cell s hs c hc)
 lo:=h.lo
 inc:=h.inc
theorem yys {H:DH} {L p:Nat} {y:DObj} (h:∀ i x,L<=i->H[i]? =some x->zza H.length x=true) (hy:zza H.length y=true):∀ i x,L<=i->(H.set p y)[i]? =some x->zza (H.set p y).length x=true:=by
 intro i x hi hx
 rw [tz3]
 rw [tya] at hx
 split at hx
 .split at hx
  .cases hx;exact hy
  .cases hx
 .exact h i x hi hx
theorem ylu {L:Nat} {l:List Int}:zza L (.app 3 1 (l.map zzf))=true:=by
 rw [zvy,List.all_map,tzx]
 intro x _
 show below L (zzf x)=true
 exact xsv
theorem RV.ends (h:RV a D R E m B els H) (E':List Int):RV a D R E' m B els (H.set (D.length+4) (.app 3 1 (E'.map zzf))) where
 hlen:=by rw [tz3];exact h.hlen
 pre i hi:=by rw [tz4 (by omega)];exact h.pre i hi
 bel:=yys h.bel ylu
 o0:=by rw [tz4 (by omega)];exact h.o0
 o1:=by rw [tz4 (by omega)];exact h.o1
 o2:=by rw [tz4 (by omega)];exact h.o2
 o3:=by rw [tz4 (by omega)];exact h.o3
 o4:=by rw [tz1 h.hlen]
 len:=h.len
 top:=h.top
 row s hs:=by rw [tz4 (by have:=h.lo s hs;omega)];exact h.row s hs
 cell s hs c hc:=by rw [tz4 (by have:=h.lo s hs;omega)];exact h.cell s hs c hc
 lo:=h.lo
 inc:=h.inc
theorem RV.far (h:RV a D R E m B els H) {s t:Nat} (hs:s<m) (ht:t<m) (hne:s≠t):R s+a.sy.toNat<R t∨R t+a.sy.toNat<R s:=by
 rcases Nat.lt_or_gt_of_ne hne with g | g
 .exact .inl (h.inc s t g ht)
 .exact .inr (h.inc t s g hs)
theorem RV.put (h:RV a D R E m B els H) {t c:Nat} (ht:t<m) (hc:c<a.sy.toNat) (l:List Int) :
  RV a D R E m (λs d=>if s=t/\d=c then l else B s d) els ((H.set (R t+(c+1)) (.app 3 1 (l.map zzf))).set (R t) (.arr 1 (zeq (R t) a.sy.toNat (λd=>if d=c then l else B t d)))):=by
 have hlo:=h.lo t ht
 have hl1:R t+(c+1)<H.length:=zxc (h.cell t ht c hc)
 have hl2:R t<H.length:=zxc (h.row t ht)
 have hl3:R t+a.sy.toNat<H.length:=by
  have:=zxc (h.cell t ht (a.sy.toNat-1) (by omega))
  omega
 have low:∀ i,i<=D.length+4->((H.set (R t+(c+1)) (.app 3 1 (l.map zzf))).set (R t) (.arr 1 (zeq (R t) a.sy.toNat (λd=>if d=c then l else B t d))))[i]? =H[i]?:=λi hi=>by
  rw [tz4 (by omega),tz4 (by omega)]
 refine ⟨by rw [tz3,tz3];exact h.hlen,λi hi=>by rw [low i (by omega)];exact h.pre i hi,?_,by rw [low _ (by omega)];exact h.o0,by rw [low _ (by omega)];exact h.o1,by rw [low _ (by omega)];exact h.o2,by rw [low _ (by omega)];exact h.o3,by rw [low _ (by omega)];exact h.o4,h.len,h.top,?_,?_,h.lo,h.inc⟩
 .refine yys (yys h.bel ylu) ?_
  rw [zxk,tz3]
  exact zgv hl3
 .intro s hs
  by_cases e:s=t
  .subst e
   rw [tz1 (by rw [tz3];exact hl2)]
   simp [-List.map_set]
  .have:=h.far hs ht e
   rw [tz4 (by omega),tz4 (by omega),h.row s hs]
   simp [-List.map_set,e]
 .intro s hs d hd
  by_cases e:s=t
  .subst e
   rw [tz4 (by omega)]
   by_cases e2:d=c
   .subst e2
    rw [tz1 hl1];simp [-List.map_set]
   .rw [tz4 (by omega),h.cell s hs d hd];simp [-List.map_set,e2]
  .have:=h.far hs ht e
   rw [tz4 (by omega),tz4 (by omega),h.cell s hs d hd];simp [-List.map_set,e]
theorem RV.new (h:RV a D R E m (λ_ _=>[]) els H) (hm:m<a.acc.length) (x:DObj) (G:DH) (hG:G=List.replicate a.sy.toNat (.app 3 1 [])) :
  RV a D (λs=>if s=m then H.length else R s) E (m+1) (λ_ _=>[]) (els.set m (.row H.length 0 a.sy.toNat a.sy.toNat)) ((((H++[x]).set (D.length+2) (.arr 1 (els.set m (.row H.length 0 a.sy.toNat a.sy.toNat)))).set H.length (.arr 1 (zeq H.length a.sy.toNat (λ_=>[]))))++G):=by
 have hh:=h.hlen
 have hGl:G.length=a.sy.toNat:=by rw [hG,tyz]
 obtain ⟨K,hK⟩:∃ K,K=((H++[x]).set (D.length+2) (.arr 1 (els.set m (.row H.length 0 a.sy.toNat a.sy.toNat)))).set H.length (.arr 1 (zeq H.length a.sy.toNat (λ_=>[]))):=⟨_,rfl⟩
 have hKl:K.length=H.length+1:=by rw [hK,tz3,tz3,tz5];rfl
 have k0:∀ i,i<H.length->i≠D.length+2->K[i]? =H[i]?:=λi h1 h2=>by
  rw [hK,tz4 (by omega),tz4 (by omega),tzs h1]
 have k2:K[D.length+2]? =some (.arr 1 (els.set m (.row H.length 0 a.sy.toNat a.sy.toNat))):=by
  rw [hK,tz4 (by omega),tz1 (by simp [-List.map_set];omega)]
 have k3:K[H.length]? =some (.arr 1 (zeq H.length a.sy.toNat (λ_=>[]))):=by
  rw [hK,tz1 (by simp [-List.map_set])]
 have kl:∀ i,i<H.length+1->(K++G)[i]? =K[i]?:=λi hi=>tzs (by omega)
 have hR:∀ s,s<m->R s+a.sy.toNat<H.length:=λs hs=>by
  rcases ty4 a.sy.toNat with e | e
  .have:=zxc (h.row s hs);omega
  .have:=zxc (h.cell s hs (a.sy.toNat-1) (by omega));omega
 rw [<-hK]
 refine ⟨by simp [-List.map_set];omega,λi hi=>by rw [kl _ (by omega),k0 _ (by omega) (by omega)];exact h.pre i hi,?_,?_,?_,?_,?_,?_,by rw [tz3];exact h.len,?_,?_,?_,?_,?_⟩
 .intro i y hi hy
  have hlen:(K++G).length=H.length+1+a.sy.toNat:=by rw [tz5,hKl,hGl]
  rw [hlen]
  rcases tz9 i (H.length+1) with g | g
  .rw [kl _ g] at hy
   by_cases e1:i=D.length+2
   .rw [e1,k2] at hy
    cases hy
    rw [zxk,tzx]
    intro d hd
    rcases List.mem_or_eq_of_mem_set hd with q | q
    .have:=h.bel _ _ (by omega) h.o2
     rw [zxk,tzx] at this
     exact (zy9 (by omega)).1 d (this d q)
    .rw [q,yxd,decide_eq_true_eq];omega
   .by_cases e2:i=H.length
    .rw [e2,k3] at hy
     cases hy
     rw [zxk]
     exact zgv (by omega)
    .rw [k0 i (by omega) e1] at hy
     exact zx4 (by omega) y (h.bel i y hi hy)
  .rw [tzv (by omega),hG,tyq] at hy
   split at hy
   .cases hy
    rw [zvy];rfl
   .cases hy
 .rw [kl _ (by omega),k0 _ (by omega) (by omega)];exact h.o0
 .rw [kl _ (by omega),k0 _ (by omega) (by omega)];exact h.o1
 .rw [kl _ (by omega),k2]
 .rw [kl _ (by omega),k0 _ (by omega) (by omega)];exact h.o3
 .rw [kl _ (by omega),k0 _ (by omega) (by omega)];exact h.o4
 .intro s hs
  by_cases e:s=m
  .subst e
   rw [tz1 (by rw [h.len];exact hm),if_pos rfl]
  .rw [tz4 (λe'=>e e'.symm),if_neg e]
   exact h.top s (by omega)
 .intro s hs
  by_cases e:s=m
  .simp only [if_pos e]
   rw [kl _ (by omega),k3]
  .simp only [if_neg e]
   have h1:=h.lo s (by omega)
   have h2:=zxc (h.row s (by omega))
   rw [kl _ (by omega),k0 _ h2 (by omega),h.row s (by omega)]
 .intro s hs c hc
  by_cases e:s=m
  .simp only [if_pos e]
   rw [tzv (by omega),hG,tyq,if_pos (by omega)];rfl
  .simp only [if_neg e]
   have h1:=h.lo s (by omega)
   have h2:=hR s (by omega)
   rw [kl _ (by omega),k0 _ (by omega) (by omega),h.cell s (by omega) c hc]
 .intro s hs
  by_cases e:s=m
  .simp only [if_pos e];omega
  .simp only [if_neg e];exact h.lo s (by omega)
 .intro s t hst ht
  have e1:¬s=m:=by omega
  simp only [if_neg e1]
  by_cases e:t=m
  .simp only [if_pos e];exact hR s (by omega)
  .simp only [if_neg e];exact h.inc s t hst (by omega)
theorem RV.pre' (h:RV a D R E m B els H):H.take D.length=D:=by
 refine ty8 λi=>?_
 rw [tyb]
 split
 .rename_i g;exact h.pre i g
 .rename_i g;rw [tzt (by omega)]
theorem RV.bel' (h:RV a D R E m B els H):(H.drop D.length).all (zza H.length)=true:=by
 rw [tzx]
 intro x hx
 obtain ⟨i,hi⟩:=List.getElem?_of_mem hx
 rw [tyj] at hi
 exact h.bel _ x (by omega) hi
end Go.Dv
set_option maxHeartbeats 4000000
namespace Go.Fsa
def ydq (a:Aut):Aut×Int:=if a.valid then ((yl3 a).can,0) else (⟨0,0,[],[]⟩,60)
def ysu (a:Aut) (x:Nat) (t c:Nat):List Int:=((List.range x).map λi:Nat=>(i:Int)).filter λy=>decide (a.go y c=t)
theorem zbk {a:Aut} {x t c:Nat}:ysu a (x+1) t c=ysu a x t c++if a.go x c=t then [(x:Int)] else []:=by
 unfold ysu
 rw [List.range_succ,txk,List.filter_append]
 congr 1
 by_cases h:a.go x c=t<;>simp [h]
theorem yf9 {a:Aut} {x t c:Nat}:(ysu a x t c).length<=x:=by
 unfold ysu
 exact tys (List.length_filter_le _ _) (by simp)
end Go.Fsa
namespace Go.Dv
open Go Go.Sim Go.Proofs Go.Fsa
attribute [local simp] zwq zwp zzp zz6 zz7 zyg zzz zyb zzf zz4 zyd zzy zye zzt zvx zwn zbi zmh zvu zvv zua zvw zmi zmj
theorem w44 (a:Aut) (ha:a.nxt.length<1152921504606846976) (hN:a.valid->zjn a<=20000/\a.nxt.length<=11) (base:Nat) (D:DH) :
  zzh Q 44 [zzp a] base D=some (zp3 (ydq a).1 (ydq a).2,D):=by
 rw [zzb (fn:=Tryz.f44) (show Q.P.funcs[44]? =some Tryz.f44 from Tryz.func44) rfl xxw rfl (by simp only [tzd,tze];decide) (by kernel_rfl)]
 have gp:=xoz
 simp [xxw,Tryz.f44,zyr] at gp
 have h18:=λbb D'=>w18 a ha bb D'
 simp only [zzp,zze] at h18
 have r18:(Q.ann 18).raw=false:=by rw [ydr]
 by_cases hv:a.valid
 case neg=>
  have hck:a.check=60:=by simp [-getElem?_pos,-List.map_set,Aut.check,hv]
  have e:ydq a=(⟨0,0,[],[]⟩,60):=by unfold ydq;rw [if_neg hv]
  rw [e]
  simp (maxSteps:=2000000) [-getElem?_pos,-List.map_set,gp,h18,hck,zp3]
 have hck:a.check=0:=Aut.check_valid.2 hv
 have e:ydq a=((yl3 a).can,0):=by unfold ydq;rw [if_pos hv]
 rw [e]
 obtain ⟨hN,hn11⟩:=hN hv
 have hla:=hv.len
 simp (maxSteps:=2000000) [-getElem?_pos,-List.map_set,gp,h18,hck,show a.acc.length*24<=140737488355328 by omega,show a.acc.length<9223372036854775808 by omega]
 generalize hX:zxi _ _ _=X
 have hlo:=hv.lo
 have hhi:=hv.hi
 obtain ⟨sy,hsy⟩:∃ sy:Nat,a.sy=sy:=⟨a.sy.toNat,by omega⟩
 have hsyN:a.sy.toNat=sy:=by omega
 obtain ⟨tm,R,els,H,rfl,hRV,t1,t2,t4,t5⟩:∃ (tm:Trie DV) (R:Nat->Nat) (els:List DV) (H:DH),X=some (.exit 0,⟨tm,H⟩)/\RV a D R (zuy a) a.acc.length (λ_ _=>[]) els H/\tm.get 1=some (.ref D.length 0 0)/\tm.get 2=some (.ref (D.length+1) 0 0)/\tm.get 4=some (.ref (D.length+3) 0 0)/\tm.get 5=some (.apl (D.length+4) (zuy a).length):=by
  rw [<-hX]
  clear hX h18 r18
  generalize hs66:SD.mk _ _=sd66
  revert sd66
  refine wl (λp:Nat×List Int×DH=>⟨(((((Trie.leaf.put 21 (zze p.1)).put 20 (zze a.acc.length)).put 5 (.apl (D.length+4) p.2.1.length)).put 4 (.ref (D.length+3) 0 0)).put 2 (.ref (D.length+1) 0 0)).put 1 (.ref D.length 0 0),p.2.2⟩) (λp=>p.1<=a.acc.length/\p.2.1=((List.range p.1).map λi:Nat=>(i:Int)).filter a.accB/\∃ R els,RV a D R p.2.1 p.1 (λ_ _=>[]) els p.2.2) (λp=>a.acc.length-p.1) ?_ (0,[],_) ⟨tz6 _,rfl,λ_=>0,List.replicate a.acc.length zyw,?_⟩
  .rintro ⟨i,E,H⟩ ⟨hi,hE,R,els,hRV⟩ ih
   simp only at hi hE hRV ih
   have q0:=hRV.o0
   have q2:=hRV.o2
   have q3:=hRV.o3
   have q4:=hRV.o4
   have g0:=λX=>zzc (X:=X) q0
   have g2:=λX=>zzc (X:=X) q2
   have g3:=λX=>zzc (X:=X) q3
   have g4:=λX=>zzc (X:=X) q4
   rw [zzi]
   by_cases hlt:i<a.acc.length
   case neg=>
    have hin:i=a.acc.length:=by omega
    subst hin
    have hE2:E=zuy a:=by rw [hE];unfold zuy;rw [hla]
    subst hE2
    simp (maxSteps:=2000000) [-getElem?_pos,-List.map_set,gp,]
    exact ⟨_,R,els,_,⟨rfl,rfl⟩,hRV,by simp [-getElem?_pos,-List.map_set]⟩
   obtain ⟨b,hb⟩:∃ b,a.acc[i]? =some b:=⟨_,tzb hlt⟩
   have hh:=hRV.hlen
   have hE':E.length<=i:=by rw [hE];exact tys (List.length_filter_le _ _) (by simp [-getElem?_pos,-List.map_set])
   have hiw:=zzg (show i+1<=9223372036854775807 by omega)
   have hEl:(E.length+1)*8<=1099511627776/\E.length<=1099511627775:=by omega
   have kS:∀ x y,(List.set (H++[x]) (D.length+2) y)[H.length]? =some x:=λx y=>by rw [tz4 (by omega),tzv (tzp _),Nat.sub_self];rfl
   have kK:∀ (x y z:DObj) (G:DH) (i:Nat),i<H.length->i≠D.length+2->(List.set (List.set (H++[x]) (D.length+2) y) H.length z++G)[i]? =H[i]?:=λx y z G i h1 h2=>by
    rw [tzs (by simp [-getElem?_pos,-List.map_set];omega),tz4 (by omega),tz4 (by omega),tzs h1]
   have k0:=λx y z G=>(kK x y z G D.length (by omega) (by omega)).trans q0
   have k4:=λx y z G=>(kK x y z G (D.length+4) (by omega) (by omega)).trans q4
   obtain ⟨x0,he⟩:∃ x,els[i]? =some x:=⟨_,tzb (by rw [hRV.len];exact hlt)⟩
   simp (maxSteps:=2000000) [-getElem?_pos,-List.map_set,gp,show sy*24<=140737488355328 by omega,show sy<9223372036854775808 by omega,hsy,hlt,q0,q2,q3,q4,g0,g2,g3,g4,hRV.len,hb,he,kS,k0,k4,show D.length<=H.length by omega,hEl,hiw]
   obtain ⟨K,hK⟩:∃ K,K=(List.set (List.set (H++[.arr 1 (List.replicate sy (DV.f (FV.raw (.slice none 0 0))))]) (D.length+2) (.arr 1 (els.set i (.row H.length 0 sy sy)))) H.length (.arr 1 ((List.range sy).map λi=>.apl (H.length+1+i) 0))++List.replicate sy (.app 3 1 []):DH):=⟨_,rfl⟩
   have hRK:RV a D (λs=>if s=i then H.length else R s) E (i+1) (λ_ _=>[]) (els.set i (.row H.length 0 sy sy)) K:=by
    have h:=hRV.new hlt (.arr 1 (List.replicate sy (DV.f (FV.raw (.slice none 0 0))))) _ rfl
    rw [hsyN] at h
    have e:zeq H.length sy (λ_=>[])=(List.range sy).map λi=>DV.apl (H.length+1+i) 0:=by
     unfold zeq
     refine List.map_congr_left λj _=>?_
     rw [show H.length+(j+1)=H.length+1+j by omega];rfl
    rw [e,<-hK] at h
    exact h
   have p4:=hRK.o4
   have j4:=λX=>zzc (X:=X) p4
   have hsn:((List.range (i+1)).map λi:Nat=>(i:Int)).filter a.accB=E++if b=true then [(i:Int)] else []:=by
    rw [List.range_succ,txk,List.filter_append,<-hE]
    congr 1
    have e2:a.accB (i:Int)=b:=by simp [-getElem?_pos,-List.map_set,Aut.accB,hb]
    cases b<;>simp [-getElem?_pos,-List.map_set,e2]
   cases b with
   | false=>
    rw [<-hK]
    clear hK
    have ih':=ih (i+1,E,K) ⟨by simp only;omega,by simp only;rw [hsn];simp [-getElem?_pos,-List.map_set],_,_,hRK⟩ (by simp only;omega)
    simp (maxSteps:=2000000) [-getElem?_pos,-List.map_set] at ih'
    simp (maxSteps:=2000000) [-getElem?_pos,-List.map_set,gp,hiw]
    exact ih'
   | true=>
    have hb1:∀ x:Int,zza (K.length+1) (.arr 1 [zzf x])=true:=λx=>by rw [zxk];rfl
    have hRG:=(hRK.app (.arr 1 [zzf i]) (hb1 i)).ends (E++[(i:Int)])
    have ih':=ih (i+1,E++[(i:Int)],_) ⟨by simp only;omega,by simp only;rw [hsn];simp [-getElem?_pos,-List.map_set],_,_,hRG⟩ (by simp only;omega)
    rw [hK] at ih'
    simp (maxSteps:=2000000) [-getElem?_pos,-List.map_set] at ih'
    have kR:∀ (x y z g w:DObj),(List.set (List.set (H++[x]) (D.length+2) y) H.length z++(List.replicate sy g++[w]))[H.length+1+sy]? =some w:=λx y z g w=>by
     rw [tzv (by simp [-getElem?_pos,-List.map_set]),tzv (by simp [-getElem?_pos,-List.map_set])]
     simp [-getElem?_pos,-List.map_set]
    simp (maxSteps:=2000000) [-getElem?_pos,-List.map_set,gp,hiw,kR,k4,hEl]
    exact ih'
  .refine ⟨by simp [-getElem?_pos,-List.map_set],λi hi=>by rw [tzs hi],?_,by simp [-getElem?_pos,-List.map_set],by simp [-getElem?_pos,-List.map_set],by simp [-getElem?_pos,-List.map_set],by simp [-getElem?_pos,-List.map_set],by simp [-getElem?_pos,-List.map_set],by simp [-getElem?_pos,-List.map_set],λs hs=>absurd hs (txs s),λs hs=>absurd hs (txs s),λs hs=>absurd hs (txs s),λs hs=>absurd hs (txs s),λs t _ hs=>absurd hs (txs t)⟩
   intro i x hi hx
   rw [tzv hi] at hx
   have hm:=tzg hx
   simp [-getElem?_pos,-List.map_set] at hm
   rcases hm with rfl | rfl | rfl | rfl | rfl<;>simp [-getElem?_pos,-List.map_set,zxk,zvy]
 have q0:=hRV.o0
 simp (maxSteps:=2000000) [-getElem?_pos,-List.map_set,gp,q0,t1,t2,t4,t5]
 generalize hX:zxi _ _ _=X
 obtain ⟨tm',B,H',rfl,hRV',hB,u1,u2,u4,u5⟩:∃ (tm':Trie DV) (B:Nat->Nat->List Int) (H':DH),X=some (.exit 2,⟨tm',H'⟩)/\RV a D R (zuy a) a.acc.length B els H'/\(∀ t c,t<a.acc.length->c<sy->B t c=ysu a a.acc.length t c)/\tm'.get 1=some (.ref D.length 0 0)/\tm'.get 2=some (.ref (D.length+1) 0 0)/\tm'.get 4=some (.ref (D.length+3) 0 0)/\tm'.get 5=some (.apl (D.length+4) (zuy a).length):=by
  rw [<-hX]
  clear hX h18 r18 q0 t1 t2 t4 t5
  generalize hs67:SD.mk _ _=sd67
  revert sd67
  refine wl (λp:Nat×(Nat->Nat->List Int)×DH=>⟨((((((Trie.leaf.put 43 (zze p.1)).put 42 (zze a.nxt.length)).put 41 (.f (.lst (a.nxt.map zug)))).put 5 (.apl (D.length+4) (zuy a).length)).put 4 (.ref (D.length+3) 0 0)).put 2 (.ref (D.length+1) 0 0)).put 1 (.ref D.length 0 0),p.2.2⟩) (λp=>p.1<=a.acc.length/\RV a D R (zuy a) a.acc.length p.2.1 els p.2.2/\∀ t c,t<a.acc.length->c<sy->p.2.1 t c=ysu a p.1 t c) (λp=>a.acc.length-p.1) ?_ (0,(λ_ _=>[]),H) ⟨tz6 _,hRV,λt c _ _=>rfl⟩
  clear hRV
  rintro ⟨i,B,H⟩ ⟨hi,hRV,hB⟩ ih
  simp only at hi hRV hB ih
  rw [zzi]
  by_cases hlt:i<a.acc.length
  case neg=>
   have hin:i=a.acc.length:=by omega
   subst hin
   simp (maxSteps:=2000000) [-getElem?_pos,-List.map_set,gp,hla]
   exact ⟨_,B,_,⟨rfl,rfl⟩,hRV,hB,by simp [-getElem?_pos,-List.map_set]⟩
  obtain ⟨r,hr⟩:∃ r,a.nxt[i]? =some r:=⟨_,tzb (by omega)⟩
  have hlt':i<a.nxt.length:=by omega
  have hrl:r.length=sy:=by
   have:=(hv.rows r (tzg hr)).1
   omega
  simp (maxSteps:=2000000) [-getElem?_pos,-List.map_set,gp,hlt',hr]
  generalize hX:zxi _ _ _=X
  obtain ⟨tm1,B1,H1,rfl,hRV1,hB1,s1,s2,s4,s5,s41,s42,s43⟩:∃ (tm1:Trie DV) (B1:Nat->Nat->List Int) (H1:DH),X=some (.exit 4,⟨tm1,H1⟩)/\RV a D R (zuy a) a.acc.length B1 els H1/\(∀ t c,t<a.acc.length->c<sy->B1 t c=ysu a (i+1) t c)/\tm1.get 1=some (.ref D.length 0 0)/\tm1.get 2=some (.ref (D.length+1) 0 0)/\tm1.get 4=some (.ref (D.length+3) 0 0)/\tm1.get 5=some (.apl (D.length+4) (zuy a).length)/\tm1.get 41=some (.f (.lst (a.nxt.map zug)))/\tm1.get 42=some (zze a.nxt.length)/\tm1.get 43=some (zze i):=by
   rw [<-hX]
   clear hX ih
   generalize hs68:SD.mk _ _=sd68
   revert sd68
   refine wl (λp:Nat×(Nat->Nat->List Int)×DH=>⟨((((((((((Trie.leaf.put 50 (zze p.1)).put 49 (zze r.length)).put 48 (zxd r)).put 43 (zze i)).put 42 (zze a.nxt.length)).put 41 (.f (.lst (a.nxt.map zug)))).put 7 (zze i)).put 5 (.apl (D.length+4) (zuy a).length)).put 4 (.ref (D.length+3) 0 0)).put 2 (.ref (D.length+1) 0 0)).put 1 (.ref D.length 0 0),p.2.2⟩) (λp=>p.1<=sy/\RV a D R (zuy a) a.acc.length p.2.1 els p.2.2/\∀ t c,t<a.acc.length->c<sy->p.2.1 t c=ysu a (if c<p.1 then i+1 else i) t c) (λp=>sy-p.1) ?_ (0,B,H) ⟨tz6 _,hRV,λt c ht hc=>by rw [if_neg (txs c)];exact hB t c ht hc⟩
   clear hRV hB
   rintro ⟨k,B,H⟩ ⟨hk,hRV,hB⟩ ih
   simp only at hk hRV hB ih
   rw [zzi]
   by_cases hks:k<sy
   case neg=>
    have hkn:k=sy:=by omega
    subst hkn
    simp (maxSteps:=2000000) [-getElem?_pos,-List.map_set,gp,hrl]
    exact ⟨_,B,_,⟨rfl,rfl⟩,hRV,λt c ht hc=>by rw [hB t c ht hc,if_pos hc],by simp [-getElem?_pos,-List.map_set]⟩
   obtain ⟨r',hr',ht⟩:=a.go_some hv (s:=(i:Int)) (c:=k) (by omega) (by omega) (by omega)
   rw [tym,hr,tza] at hr'
   subst hr'
   have hgo:=(Aut.go_dom (x:=(i:Int)) (c:=k) hv).2
   have hrk:k<r.length:=by omega
   have hkw:=zzg (show k+1<=9223372036854775807 by omega)
   by_cases hg:0<=a.go i k
   case neg=>
    have ih':=ih (k+1,B,H) ⟨by simp only;omega,hRV,λt c ht hc=>by
     simp only
     rw [hB t c ht hc]
     by_cases e:c=k
     .subst e
      rw [if_neg (tyr _),if_pos (tyu _),zbk,if_neg (by omega),tyv]
     .simp only [show (c<k+1)=(c<k) from propext (by omega)]⟩ (by simp only;omega)
    simp (maxSteps:=2000000) [-getElem?_pos,-List.map_set] at ih'
    simp (maxSteps:=2000000) [-getElem?_pos,-List.map_set,gp,hrk,ht,hg,hkw]
    exact ih'
   obtain ⟨tn,htn⟩:∃ tn:Nat,a.go i k=tn:=⟨(a.go i k).toNat,by omega⟩
   have htl:tn<a.acc.length:=by omega
   rw [htn] at ht hg
   have q3:=hRV.o3
   have c0:=hRV.o2
   have c1:=hRV.top tn htl
   have c2:=hRV.row tn htl
   have c3:=hRV.cell tn htl k (by omega)
   rw [hsyN] at c1 c2
   have hel:=hRV.len
   have hqe:R tn+(k+1)<H.length:=zxc c3
   have hqr:R tn<H.length:=zxc c2
   have hBl:(B tn k).length<=i+1:=by
    rw [hB tn k htl hks];split
    .omega
    .exact tys yf9 (by omega)
   have f3:=λX=>zzc (X:=X) q3
   have f0:=λX=>zzc (X:=X) c0
   have f2:=λX=>zzc (X:=X) c2
   have fc:=λX=>zzc (X:=X) c3
   have hap:((B tn k).length+1)*8<=1099511627776/\(B tn k).length<=1099511627775:=by omega
   have hlw:=hRV.lo tn htl
   have n2:¬(D.length+2=R tn+(k+1)):=by omega
   have n3:¬(D.length+3=R tn+(k+1)):=by omega
   have nR:¬(R tn=R tn+(k+1)):=by omega
   have nR2:¬(R tn+(k+1)=R tn):=by omega
   have nl:D.length<=R tn+(k+1):=by omega
   have nl2:D.length<=R tn:=by omega
   have hset:=λl:List Int=>yvl (r:=R tn) (sy:=sy) (c:=k) (b:=B tn) (l:=l)
   have hrg:=zkh (r:=R tn) (b:=B tn) hks
   have hS:∀ x y:DObj,(List.set (H++[x]) (R tn+(k+1)) y)[R tn]? =some (.arr 1 (zeq (R tn) sy (B tn))):=λx y=>by
    rw [tz4 (by omega)];exact f2 _
   have hS2:∀ x y:DObj,(List.set (H++[x]) (R tn+(k+1)) y)[D.length+2]? =some (.arr 1 els):=λx y=>by
    rw [tz4 (by omega)];exact f0 _
   have hS3:∀ x y:DObj,(List.set (H++[x]) (R tn+(k+1)) y)[D.length+3]? =some (.arr 1 [.row (D.length+2) 0 a.acc.length a.acc.length]):=λx y=>by
    rw [tz4 (by omega)];exact f3 _
   have hrl2:=zqu (r:=R tn) (sy:=sy) (b:=B tn)
   have hb1:zza (H.length+1) (.arr 1 [zzf (i:Int)])=true:=by rw [zxk];rfl
   have hRG:=(hRV.app (.arr 1 [zzf i]) hb1).put htl (by omega:k<a.sy.toNat) (B tn k++[(i:Int)])
   rw [hsyN,<-yvl] at hRG
   have ih':=ih (k+1,(λs d=>if s=tn/\d=k then B tn k++[(i:Int)] else B s d),_) ⟨by simp only;omega,hRG,λt c gt gc=>by
    show (if t=tn/\c=k then B tn k++[(i:Int)] else B t c)=ysu a (if c<k+1 then i+1 else i) t c
    have hk0:=hB t c gt gc
    by_cases e:c=k
    .rw [if_neg (by omega)] at hk0
     rw [if_pos (show c<k+1 by omega),zbk,e,htn]
     rw [e] at hk0
     by_cases e2:t=tn
     .rw [e2] at hk0 ⊢
      simp [-getElem?_pos,-List.map_set,hk0]
     .simp [-getElem?_pos,-List.map_set,e2,Ne.symm e2,hk0]
    .simp only [show (c<k+1)=(c<k) from propext (by omega)]
     simp [-getElem?_pos,-List.map_set,e,hk0]⟩ (by simp only;omega)
   simp (maxSteps:=2000000) [-getElem?_pos,-List.map_set] at ih'
   simp (maxSteps:=2000000) [-getElem?_pos,-List.map_set,gp,hrk,ht,hg,hkw,q3,c0,c1,c2,c3,f3,f0,f2,fc,hap,hrg,hel,htl,hks,hS,hS2,hS3,hrl2,n2,n3,nR,nR2,nl,nl2]
   exact ih'
  have ih':=ih (i+1,B1,H1) ⟨by simp only;omega,hRV1,hB1⟩ (by simp only;omega)
  have hiw:=zzg (show i+1<=9223372036854775807 by omega)
  simp (maxSteps:=2000000) [-getElem?_pos,-List.map_set] at ih'
  simp (maxSteps:=2000000) [-getElem?_pos,-List.map_set,gp,s1,s2,s4,s5,s41,s42,s43,hiw]
  exact ih'
 clear hX
 clear hX
 clear hRV t1 t2 t4 t5 q0 H tm
 obtain ⟨m1,m2,m3⟩:=yzv hv hN
 have r87:(Q.ann 87).raw=true:=by rw [zlf]
 have r100:(Q.ann 100).raw=true:=by rw [ys0]
 have r61:(Q.ann 61).raw=false:=by rw [xxs]
 have hla4:∀ bb,bb<=D.length+4->D.length<=bb->(H'.drop bb).all (zza H'.length)=true:=λbb h1 h2=>by
  have:=hRV'.bel'
  rw [tzx] at this ⊢
  intro x hx
  refine this x ?_
  rw [show bb=D.length+(bb-D.length) by omega,<-List.drop_drop] at hx
  exact List.mem_of_mem_drop hx
 have hh':=hRV'.hlen
 have hmin:min (D.length+4) H'.length=D.length+4:=by omega
 have hok1:zyp D.length (D.length+1) H'=true:=by
  unfold zyp
  rw [show D.length+1-D.length=1 by omega,tzx]
  intro x hx
  obtain ⟨i,hi⟩:=List.getElem?_of_mem hx
  rw [tyb] at hi
  split at hi
  .rename_i g
   rw [tyj,show D.length+i=D.length by omega,hRV'.o0] at hi
   cases hi
   rfl
  .cases hi
 obtain ⟨bb,hbb,hb1,hb4⟩:∃ bb,bb=(if D.length+4<=H'.length/\zyp D.length (D.length+4) H'=true then D.length+4 else D.length+1)/\D.length<bb/\bb<=D.length+4:=by
  refine ⟨_,rfl,?_,?_⟩<;>split<;>omega
 obtain ⟨W,h87⟩:=w87 a.nxt.length (by omega) (zuy a) (λx hx=>(zji.1 hx).1) (by have:=yn9 (a:=a);omega) (D.length+4) bb H' ⟨hb4,hla4 bb hb4 (by omega),hRV'.o4⟩
 have hRE:=hRV'.ends W
 obtain ⟨H,hH⟩:∃ H,H=H'.set (D.length+4) (.app 3 1 (W.map zzf)):=⟨_,rfl⟩
 rw [<-hH] at h87 hRE
 have hT:xss a (D.length+2) H:=by
  refine ⟨els,hRE.o2,by rw [hRE.len,hla],λs hs=>⟨R s,_,hRE.top s (by omega),hRE.row s (by omega),zqu,λc hc=>⟨R s+(c+1),?_,?_⟩⟩⟩
  .rw [zkh (by omega),hB s c (by omega) (by omega)]
   unfold ysu ytx
   rw [hla]
  .rw [hRE.cell s (by omega) c (by omega),hB s c (by omega) (by omega)]
   unfold ysu ytx
   rw [hla]
 obtain ⟨s0,hs0⟩:∃ s0,s0=zwt (zya a.nxt.length (zuy a)):=⟨_,rfl⟩
 have d0:yg5 a s0:=⟨_,hs0⟩
 rw [<-hs0] at h87
 obtain ⟨x1,x2⟩:=ywf (succ:=zrk a) (dom:=yg5 a) (s0:=s0) (N:=zjn a) d0 (λs hs t ht=>zjm hs ht) (λq h1 h2=>ywe h1 h2) (by omega)
 obtain ⟨qs,hqs⟩:∃ q,q=(exN (zrk a) s0 (zjn a)).1:=⟨_,rfl⟩
 obtain ⟨rows,hrows⟩:∃ q,q=(exN (zrk a) s0 (zjn a)).2:=⟨_,rfl⟩
 have hx:exR id (zrk a) 100000 (zjn a+1) 0 [s0]=some (qs,rows):=x1.trans (by rw [hqs,hrows])
 obtain ⟨m,hm⟩:∃ m,m=yl3 a:=⟨_,rfl⟩
 have hm':m=⟨a.sy,0,qs.map (yl2 a),rows⟩:=by rw [hm,hqs,hrows,hs0];rfl
 rw [<-hm] at m1 m2 ⊢
 have hml:m.acc.length<=20000:=by have:=m1.most;omega
 have hb0:=zqi m2 (show m.st=0 by rw [hm'])
 have hql:m.acc.length=qs.length:=by rw [hm'];simp [-getElem?_pos,-List.map_set]
 obtain ⟨c,hc⟩:∃ c,c=m.can:=⟨_,rfl⟩
 have hh:=hRE.hlen
 have e0:=hRE.o0
 have e1:=hRE.o1
 have e3:=hRE.o3
 obtain ⟨O1,O2,fi,bs,hex,hO⟩:=xm4 a.sy.toNat 100000 s0 (zrk a) (yl2 a) (yg5 a) (zjn a+1) qs rows 101 103 [] [.ref (D.length+3) 0 0] [] [.ref D.length 0 0] D.length H
   hx d0 (λs hs t ht=>zjm hs ht) (λs=>zo1) (by omega) (by omega) (by omega) (by omega)
   hRE.bel' (by simp [-getElem?_pos,-List.map_set]) (by simp [-getElem?_pos,-List.map_set];omega) (by simp [-getElem?_pos,-List.map_set]) (by simp [-getElem?_pos,-List.map_set];omega) (by rw [ys1])
   (λx c' o hx' ho=>by
    obtain ⟨rfl,hc'⟩:=yma ho
    refine ⟨_,λX=>?_,.inl rfl⟩
    exact xm6 a hv hn11 x hx' c' hc' (D.length+3) (D.length+2) D.length (H++X) (by rw [hla];exact zzc e3) (hT.app X))
   (λX x hx'=>xm5 a hv x hx' D.length D.length (H++X) (zzc e0))
 have h61:=λbb=>w61 m m m1 m1.fine rfl m2 (by omega) (λw=>by rw [hb0]) H.length (H.length+5) (H.length+6) (qV (H.length+3) m.acc.length) (qV (H.length+4) m.acc.length) bb (H++zxu H.length m O1 O2 fi bs) (by simp [-getElem?_pos,-List.map_set,zxu]) (by simp [-getElem?_pos,-List.map_set,zxu]) (by simp [-getElem?_pos,-List.map_set,zxu])
 rw [<-hc] at h61
 rw [<-hc]
 simp only [zxu,hql] at h61
 rw [hm'] at h61
 simp only [zze,zzu,zzp,zbi,Int.toNat_of_nonneg (show 0<=a.sy by omega)] at hex
 rw [show ((100000:Nat):Int)=100000 from rfl] at hex
 simp (maxSteps:=2000000) [-getElem?_pos,-List.map_set,txq,zp3] at hex h61 h87
 have p0:=hRV'.o0
 have hs0':H[D.length]? =some (.arr 4 [zzp a]):=e0
 have k1:=λX=>zzc (X:=X) e1
 have kset:∀ (X:DH) (y:DObj),(List.set (H++X) (D.length+1) y)[D.length+1]? =some y:=λX y=>tz1 (by simp [-getElem?_pos,-List.map_set];omega)
 have ktake:∀ (X:DH) (y:DObj),(List.set (H++X) (D.length+1) y).take D.length=D:=λX y=>by
  rw [txx (by omega),txi (by omega)]
  exact hRE.pre'
 have hbb1:∀ x y:List (Nat×Option Nat),(if D.length<bb then x else y)=x:=λx y=>if_pos hb1
 simp (maxSteps:=2000000) [-getElem?_pos,-List.map_set,gp,u1,u2,u4,u5,p0,hmin,hok1,show D.length+1<=H'.length by omega,<-hbb,hbb1,hb1,e0,e1,e3,hs0',r87,r100,r61,h87,hex,h61,k1,kset,ktake,zp3,zqs,zuc,zqt]
end Go.Dv
namespace Go.Fsa
def Aut.tiny (a:Aut):Prop:=a.nxt.length<=7/\a.sy<=20
instance (a:Aut):Decidable a.tiny:=inferInstanceAs (Decidable (_/\_))
end Go.Fsa
namespace Go.Dv
open Go Go.Sim Go.Proofs Go.Fsa
attribute [local simp] zwq zwp zzp zz6 zz7 zyg zzz zyb zzf zz4 zyd zzy zye zzt
theorem w46 (op:Nat) (h1:1<=op) (h4:op<=4) (x y:Bool) (base:Nat) (D:DH):zzh Q 46 [zze op,zzu x,zzu y] base D=some (zzu (opB op x y),D):=by
 rw [zzb (fn:=Tryz.f46) (show Q.P.funcs[46]? =some Tryz.f46 from Tryz.func46) rfl xxy rfl (by simp only [tzd,tze];decide) (by kernel_rfl)]
 obtain rfl | rfl | rfl | rfl:op=1∨op=2∨op=3∨op=4:=by omega
 all_goals
  cases x<;>cases y<;>simp (maxSteps:=2000000) [-getElem?_pos,-List.map_set,opB]
theorem w45 (a:Aut) (w:List Int) (hw:w.length<1152921504606846976) (base:Nat) (D:DH):zzh Q 45 [zzp a,zxd w] base D=some (zzu (decide (∀ x∈w,0<=x/\x<a.sy)),D):=by
 rw [zzb (fn:=Tryz.f45) (show Q.P.funcs[45]? =some Tryz.f45 from Tryz.func45) rfl xxx rfl (by simp only [tzd,tze];decide) (by kernel_rfl)]
 have gp:=xo0
 simp [xxx,Tryz.f45,zyr] at gp
 simp (maxSteps:=2000000) [-getElem?_pos,-List.map_set,gp,]
 generalize hs69:SD.mk _ _=sd69
 revert sd69
 refine wl (λi:Nat=>⟨((Trie.leaf.put 5 (zze i)).put 2 (.ref D.length 0 0)).put 1 (zxd w),D++[.arr 4 [zzp a]]⟩) (λi=>i<=w.length/\∀ x∈w.take i,0<=x/\x<a.sy) (λi=>w.length-i) ?_ 0 ⟨tz6 _,λx h=>(by simp [-getElem?_pos,-List.map_set] at h)⟩
 intro i ⟨hi,hs⟩ ih
 rw [zzi]
 by_cases hlt:i<w.length
 case neg=>
  rw [tzk (by omega)] at hs
  simp (maxSteps:=2000000) [-getElem?_pos,-List.map_set,gp,hlt]
  exact hs
 obtain ⟨x,hx⟩:∃ x,w[i]? =some x:=⟨_,tzb hlt⟩
 have hxm:=tzg hx
 have hww:=zzg (show i+1<=9223372036854775807 by omega)
 have hfail:¬(0<=x/\x<a.sy)->(decide (∀ x∈w,0<=x/\x<a.sy))=false:=λhn=>decide_eq_false λhh=>hn (hh x hxm)
 by_cases c1:x<0
 .rw [hfail (by omega)]
  simp (maxSteps:=2000000) [-getElem?_pos,-List.map_set,gp,hlt,hx,c1]
 by_cases c2:a.sy<=x
 .rw [hfail (by omega)]
  simp (maxSteps:=2000000) [-getElem?_pos,-List.map_set,gp,hlt,hx,c1,c2]
 .have ih':=ih (i+1) ⟨by omega,λy hy=>by
   rw [tz8,hx] at hy
   rcases tyh.1 hy with h | h
   .exact hs y h
   .simp only [Option.toList,tzw] at h;rw [h];omega⟩ (by omega)
  simp (maxSteps:=2000000) [-getElem?_pos,-List.map_set] at ih'
  simp (maxSteps:=2000000) [-getElem?_pos,-List.map_set,gp,hlt,hx,c1,c2,hww]
  exact ih'
theorem w47 (w:List Int) (hw:w.length<1000000) (base:Nat) (D:DH):zzh Q 47 [zxd w] base D=some (zxd w.reverse,D):=by
 rw [zzb (fn:=Tryz.f47) (show Q.P.funcs[47]? =some Tryz.f47 from Tryz.func47) rfl xxz rfl (by simp only [tzd,tze];decide) (by kernel_rfl)]
 have hwm:∀ n:Int,-1<=n->n<=1000000->zvm .i64 n=n:=λn h1 h2=>zwf (by omega) (by omega)
 simp (maxSteps:=2000000) [-getElem?_pos,-List.map_set,hwm (w.length-1) (by omega) (by omega)]
 generalize hX:zxi _ _ _=X
 obtain ⟨tm,rfl,t3⟩:∃ tm,X=some (.exit 0,⟨tm,D++[.app 3 1 (w.reverse.map zzf)]⟩)/\tm.get 3=some (.apl D.length w.length):=by
  rw [<-hX]
  clear hX
  generalize hs70:SD.mk _ _=sd70
  revert sd70
  refine wl (λp:Nat×List Int=>⟨((Trie.leaf.put 4 (zze ((p.1:Int)-1))).put 3 (.apl D.length p.2.length)).put 0 (zxd w),D++[.app 3 1 (p.2.map zzf)]⟩) (λp=>p.1<=w.length/\p.2=(w.drop p.1).reverse) (λp=>p.1) ?_ (w.length,[]) ⟨tzp _,by simp [-getElem?_pos,-List.map_set]⟩
  rintro ⟨i,W⟩ ⟨hi,hW⟩ ih
  simp only at hi hW ih
  have hWl:W.length=w.length-i:=by rw [hW];simp [-getElem?_pos,-List.map_set]
  rw [zzi]
  by_cases h0:i=0
  .subst h0
   rw [List.drop_zero] at hW
   subst hW
   simp (maxSteps:=2000000) [-getElem?_pos,-List.map_set]
  obtain ⟨j,rfl⟩:∃ j,i=j+1:=⟨i-1,by omega⟩
  obtain ⟨x,hx⟩:∃ x,w[j]? =some x:=⟨_,tzb (by omega)⟩
  have hd:w.drop j=x::w.drop (j+1):=by
   rw [List.drop_eq_getElem_cons (by omega)]
   rw [tzb (by omega),tza] at hx
   rw [hx]
  have ih':=ih (j,W++[x]) ⟨by simp only;omega,by simp only;rw [hd,hW];simp [-getElem?_pos,-List.map_set]⟩ (by simp only;omega)
  simp (maxSteps:=2000000) [-getElem?_pos,-List.map_set] at ih'
  have e1:((j+1:Nat):Int)-1=(j:Int):=by omega
  simp (maxSteps:=2000000) [-getElem?_pos,-List.map_set,e1,hx,hwm ((j:Int)-1) (by omega) (by omega),show (W.length+1)*8<=1099511627776/\W.length<=1099511627775 by omega]
  exact ih'
 clear hX
 obtain ⟨v,hv⟩:∃ v,v=w.reverse:=⟨_,rfl⟩
 have hvl:v.length=w.length:=by rw [hv,List.length_reverse]
 rw [<-hvl] at t3
 rw [<-hv]
 simp (maxSteps:=2000000) [-getElem?_pos,-List.map_set,t3]
 rw [hv,List.map_reverse]
theorem w38 (l:List Aut) (hl:l.length<=1000) (o base:Nat) (D:DH) (ho:D[o]? =some (.arr 4 (l.map zzp))) :
  zzh Q 38 [.row o 0 l.length l.length] base D=some (zzu (decide (∀ a∈l,a.tiny)),D):=by
 rw [zzb (fn:=Tryz.f38) (show Q.P.funcs[38]? =some Tryz.f38 from Tryz.func38) rfl xrf rfl (by simp only [tzd,tze];decide) (by kernel_rfl)]
 have hol0:=zxc ho
 simp (maxSteps:=2000000) [-getElem?_pos,-List.map_set,hol0]
 generalize hs71:SD.mk _ _=sd71
 revert sd71
 refine wl (λi:Nat=>⟨(Trie.leaf.put 3 (zze i)).put 0 (.row o 0 l.length l.length),D⟩) (λi=>i<=l.length/\∀ a∈l.take i,a.tiny) (λi=>l.length-i) ?_ 0 ⟨tz6 _,λa h=>(by simp [-getElem?_pos,-List.map_set] at h)⟩
 intro i ⟨hi,hs⟩ ih
 rw [zzi]
 by_cases hlt:i<l.length
 case neg=>
  rw [tzk (by omega)] at hs
  simp (maxSteps:=2000000) [-getElem?_pos,-List.map_set,ho,hlt]
  exact hs
 obtain ⟨a,ha⟩:∃ a,l[i]? =some a:=⟨_,tzb hlt⟩
 have ham:=tzg ha
 have hfail:¬a.tiny->(decide (∀ a∈l,a.tiny))=false:=λhn=>decide_eq_false λhh=>hn (hh a ham)
 have hww:=zzg (show i+1<=9223372036854775807 by omega)
 by_cases c1:a.nxt.length<=7
 case neg=>
  rw [hfail λhh=>c1 hh.1]
  simp (maxSteps:=2000000) [-getElem?_pos,-List.map_set,ho,hlt,ha,show (7:Int)<a.nxt.length by omega,show 7<a.nxt.length by omega]
 by_cases c2:a.sy<=20
 case neg=>
  rw [hfail λhh=>c2 hh.2]
  simp (maxSteps:=2000000) [-getElem?_pos,-List.map_set,ho,hlt,ha,show ¬(7:Int)<a.nxt.length by omega,show ¬7<a.nxt.length by omega,show (20:Int)<a.sy by omega]
 have ih':=ih (i+1) ⟨by omega,λb hb=>by
  rw [tz8,ha] at hb
  rcases tyh.1 hb with h | h
  .exact hs b h
  .simp only [Option.toList,tzw] at h;rw [h];exact ⟨c1,c2⟩⟩ (by omega)
 simp (maxSteps:=2000000) [-getElem?_pos,-List.map_set] at ih'
 simp (maxSteps:=2000000) [-getElem?_pos,-List.map_set,ho,hol0,hlt,ha,hww,show ¬(7:Int)<a.nxt.length by omega,show ¬7<a.nxt.length by omega,show ¬(20:Int)<a.sy by omega]
 exact ih'
end Go.Dv
namespace Go.Dv
open Go Go.Sim Go.Proofs Go.Fsa
attribute [local simp] zwq zwp zzp zz6 zz7 zyg zzz zyb zzf zz4 zyd zzy zye zzt
theorem w48 (a b:Aut) (w:List Int) (hw:w.length<1000000) (base:Nat) (D:DH) (B:Bool) (hB:B=true↔∃ i,i<=w.length/\a.accepts (w.take i)=true/\b.accepts (w.drop i)=true) :
  zzh Q 48 [zzp a,zzp b,zxd w] base D=some (zzu B,D):=by
 rw [zzb (fn:=Tryz.f48) (show Q.P.funcs[48]? =some Tryz.f48 from Tryz.func48) rfl ydy rfl (by simp only [tzd,tze];decide) (by kernel_rfl)]
 have gp:=xo1
 simp [ydy,Tryz.f48,zyr] at gp
 have r21:(Q.ann 21).raw=false:=by rw [yl8]
 have hT:List.take w.length (List.map yxf w)=List.map yxf w:=tzk (by simp [-getElem?_pos,-List.map_set])
 simp (maxSteps:=2000000) [-getElem?_pos,-List.map_set,gp,]
 generalize hs72:SD.mk _ _=sd72
 revert sd72
 refine wl (λi:Nat=>⟨(((Trie.leaf.put 7 (zze i)).put 4 (.ref (D.length+1) 0 0)).put 3 (.ref D.length 0 0)).put 2 (zxd w),D++[.arr 4 [zzp a],.arr 4 [zzp b]]⟩) (λi=>i<=w.length+1/\∀ j,j<i->¬(a.accepts (w.take j)=true/\b.accepts (w.drop j)=true)) (λi=>w.length+1-i) ?_ 0 ⟨tz6 _,λj h=>absurd h (txs j)⟩
 intro i ⟨hi,hs⟩ ih
 rw [zzi]
 by_cases hlt:i<=w.length
 case neg=>
  have hb:B=false:=Bool.eq_false_iff.2 λh=>by
   obtain ⟨j,h1,h2⟩:=hB.1 h
   exact hs j (by omega) h2
  subst hb
  simp (maxSteps:=2000000) [-getElem?_pos,-List.map_set,gp,hlt,show w.length<i by omega]
 have hww:=zzg (show i+1<=9223372036854775807 by omega)
 have h21a:=λbb D'=>w21 a (w.take i) (by simp [-getElem?_pos,-List.map_set];omega) bb D'
 have h21b:=λbb D'=>w21 b (w.drop i) (by simp [-getElem?_pos,-List.map_set];omega) bb D'
 simp only [zzp,zxd,zug,zzu,List.map_take,List.map_drop] at h21a h21b
 have hi':i<=w.length:=hlt
 cases hA:a.accepts (w.take i) with
 | false=>
  rw [hA] at h21a
  have ih':=ih (i+1) ⟨by omega,λj hj=>by
   rcases tz9 j i with g | g
   .exact hs j g
   .rw [show j=i by omega,hA];simp [-getElem?_pos,-List.map_set]⟩ (by omega)
  simp (maxSteps:=2000000) [-getElem?_pos,-List.map_set] at ih'
  simp (maxSteps:=2000000) [-getElem?_pos,-List.map_set,gp,hlt,show ¬w.length<i by omega,h21a,h21b,hT,r21,hww]
  exact ih'
 | true=>
  rw [hA] at h21a
  cases hB2:b.accepts (w.drop i) with
  | false=>
   rw [hB2] at h21b
   have ih':=ih (i+1) ⟨by omega,λj hj=>by
    rcases tz9 j i with g | g
    .exact hs j g
    .rw [show j=i by omega,hB2];simp [-getElem?_pos,-List.map_set]⟩ (by omega)
   simp (maxSteps:=2000000) [-getElem?_pos,-List.map_set] at ih'
   simp (maxSteps:=2000000) [-getElem?_pos,-List.map_set,gp,hlt,show ¬w.length<i by omega,h21a,h21b,hT,r21,hww]
   exact ih'
  | true=>
   rw [hB2] at h21b
   have hb:B=true:=hB.2 ⟨i,hlt,hA,hB2⟩
   subst hb
   simp (maxSteps:=2000000) [-getElem?_pos,-List.map_set,gp,hlt,show ¬w.length<i by omega,h21a,h21b,hT,r21,hww]
end Go.Dv
namespace Go.Dv
open Go Go.Sim Go.Proofs Go.Fsa
attribute [local simp] zwq zwp zzp zz6 zz7 zyg zzz zyb zzf zz4 zyd zzy zye zzt
def isP (o:Option Bool) (P:Prop):Prop:=∃ b,o=some b/\(b=true↔P)
theorem w49 (a:Aut) (hv:a.valid) (w:List Int) (hw:w.length<1000000) (hww:∀ x∈w,0<=x/\x<a.sy) (base:Nat) (D:DH) (B:Bool) (hB:B=true↔zo2 a w w.length) :
  zzh Q 49 [zzp a,zxd w] base D=some (zzu B,D):=by
 have hacc:∀ k i,zoz a (zjo ((w.take i).drop k))↔a.accepts ((w.take i).drop k)=true:=λk i=>by
  rw [zz5 hv λx hx=>hww x (ty3 (List.mem_of_mem_drop hx))]
  rfl
 rw [zzb (fn:=Tryz.f49) (show Q.P.funcs[49]? =some Tryz.f49 from Tryz.func49) rfl ydz rfl (by simp only [tzd,tze];decide) (by kernel_rfl)]
 have gp:=xo2
 simp [ydz,Tryz.f49,zyr] at gp
 have r21:(Q.ann 21).raw=false:=by rw [yl8]
 obtain ⟨N,hN⟩:∃ N,N=w.length+1:=⟨_,rfl⟩
 have hn1:zvm .i64 ((w.length:Int)+1)=(N:Int):=by rw [zzg (show w.length+1<=9223372036854775807 by omega),hN]
 obtain ⟨U0,hU0⟩:∃ U0,U0=true::List.replicate w.length false:=⟨_,rfl⟩
 have hz:(List.replicate N (DV.f (FV.raw (Value.bool false)))).set 0 (DV.f (FV.raw (Value.bool true)))=U0.map zz4:=by
  rw [hU0,hN,List.replicate_succ,List.set_cons_zero,txe,List.map_replicate];rfl
 have hT:List.take w.length (List.map yxf w)=List.map yxf w:=tzk (by simp [-getElem?_pos,-List.map_set])
 simp (maxSteps:=2000000) [-getElem?_pos,-List.map_set,gp,hn1,show N<=140737488355328 by omega,show N<9223372036854775808 by omega,show 0<N by omega,hz]
 generalize hX:zxi _ _ _=X
 obtain ⟨tm,U,rfl,hUl,hU,t1,t2,t5⟩:∃ (tm:Trie DV) (U:List Bool),X=some (.exit 0,⟨tm,D++[.arr 4 [zzp a],.arr 1 (U.map zz4)]⟩)/\U.length=N/\U[w.length]? =some B/\tm.get 1=some (zxd w)/\tm.get 2=some (.ref D.length 0 0)/\tm.get 5=some (.row (D.length+1) 0 N N):=by
  rw [<-hX]
  clear hX
  generalize hs73:SD.mk _ _=sd73
  revert sd73
  refine wl (λp:Nat×List Bool=>⟨((((Trie.leaf.put 6 (zze p.1)).put 5 (.row (D.length+1) 0 N N)).put 2 (.ref D.length 0 0)).put 1 (zxd w)),D++[.arr 4 [zzp a],.arr 1 (p.2.map zz4)]⟩) (λp=>1<=p.1/\p.1<=N/\p.2.length=N/\(∀ j,p.1<=j->j<N->p.2[j]? =some false)/\∀ j,j<p.1->∃ b,p.2[j]? =some b/\(b=true↔zo2 a w j)) (λp=>N-p.1) ?_ (1,U0) ⟨tzp _,by simp only;omega,by rw [hU0];simp [-getElem?_pos,-List.map_set];omega,λj h1 h2=>?_,λj hj=>⟨true,?_,?_⟩⟩
  case refine_2=>
   simp only at h1
   obtain ⟨k,rfl⟩:∃ k,j=k+1:=⟨j-1,by omega⟩
   rw [hU0]
   simp only [txr,tyq]
   rw [if_pos (by omega)]
  case refine_3=>
   simp only at hj
   rw [show j=0 by omega,hU0];rfl
  case refine_4=>
   simp only at hj
   rw [show j=0 by omega]
   exact ⟨λ_=>yty,λ_=>rfl⟩
  rintro ⟨i,U⟩ ⟨h1,hi,hUl,hF,hU⟩ ih
  simp only at h1 hi hUl hF hU ih
  rw [zzi]
  by_cases hlt:i<=w.length
  case neg=>
   obtain ⟨b,hb,hbB⟩:=hU w.length (by omega)
   have:b=B:=by rw [ty1,hbB,hB]
   rw [this] at hb
   simp (maxSteps:=2000000) [-getElem?_pos,-List.map_set,gp,hlt,show w.length<i by omega]
   exact ⟨_,U,⟨rfl,rfl⟩,hUl,hb,by simp [-getElem?_pos,-List.map_set]⟩
  simp (maxSteps:=2000000) [-getElem?_pos,-List.map_set,gp,hlt,show ¬w.length<i by omega]
  generalize hX:zxi _ _ _=X
  obtain ⟨tm,V,rfl,hVl,hV1,hV2,t1,t2,t5,t6⟩:∃ (tm:Trie DV) (V:List Bool),X=some (.exit 2,⟨tm,D++[.arr 4 [zzp a],.arr 1 (V.map zz4)]⟩)/\V.length=N/\(∀ j,j≠i->V[j]? =U[j]?)/\isP V[i]? (zo2 a w i)/\tm.get 1=some (zxd w)/\tm.get 2=some (.ref D.length 0 0)/\tm.get 5=some (.row (D.length+1) 0 N N)/\tm.get 6=some (zze i):=by
   rw [<-hX]
   clear hX ih
   generalize hs74:SD.mk _ _=sd74
   revert sd74
   refine wl (λp:Nat×List Bool=>⟨(((((Trie.leaf.put 7 (zze p.1)).put 6 (zze i)).put 5 (.row (D.length+1) 0 N N)).put 2 (.ref D.length 0 0)).put 1 (zxd w)),D++[.arr 4 [zzp a],.arr 1 (p.2.map zz4)]⟩) (λp=>p.1<=i/\p.2.length=N/\(∀ j,j≠i->p.2[j]? =U[j]?)/\∃ b,p.2[i]? =some b/\(b=true↔∃ k,k<p.1/\zo2 a w k/\zoz a (zjo ((w.take i).drop k)))) (λp=>i-p.1) ?_ (0,U) ⟨tz6 _,hUl,λ_ _=>rfl,false,hF i (tzp _) (by omega),λh=>(by cases h),λ⟨k,h,_⟩=>absurd h (txs k)⟩
   rintro ⟨k,V⟩ ⟨hk,hVl,hV1,b,hb,hbP⟩ ih
   simp only at hk hVl hV1 hb hbP ih
   rw [zzi]
   have hiN:i<N:=by omega
   by_cases hki:k<i
   case neg=>
    have hke:k=i:=by omega
    subst hke
    simp (maxSteps:=2000000) [-getElem?_pos,-List.map_set,gp,hki]
    exact ⟨_,V,⟨rfl,rfl⟩,hVl,hV1,⟨b,hb,hbP.trans (zch h1 hlt).symm⟩,by simp [-getElem?_pos,-List.map_set]⟩
   cases b with
   | true=>
    simp (maxSteps:=2000000) [-getElem?_pos,-List.map_set,gp,hki,hb,hiN,hVl]
    exact ⟨_,V,⟨rfl,rfl⟩,hVl,hV1,⟨true,hb,λ_=>(zch h1 hlt).2 (by
     obtain ⟨k',h2,h3⟩:=hbP.1 rfl
     exact ⟨k',by omega,h3⟩),λ_=>rfl⟩,by simp [-getElem?_pos,-List.map_set]⟩
   | false=>
    obtain ⟨c,hc,hcP⟩:=hU k hki
    have hc':V[k]? =some c:=by rw [hV1 k (by omega)];exact hc
    have hkN:k<N:=by omega
    have hkw:=zzg (show k+1<=9223372036854775807 by omega)
    have hno:∀ k',k'<k->¬(zo2 a w k'/\zoz a (zjo ((w.take i).drop k'))):=λk' h2 h3=>by
     have:=hbP.2 ⟨k',h2,h3⟩
     cases this
    have h21:=λbb D'=>w21 a ((w.take i).drop k) (by simp [-getElem?_pos,-List.map_set];omega) bb D'
    simp only [zzp,zxd,zug,zzu,List.map_take,List.map_drop] at h21
    cases c with
    | false=>
     have hVs:V.set i false=V:=by
      refine ty8 λj=>?_
      rw [tya]
      split
      .rename_i e;subst e;rw [hb];split
       .rfl
       .omega
      .rfl
     have ih':=ih (k+1,V) ⟨by simp only;omega,hVl,hV1,false,hb,λh=>(by cases h),λ⟨k',h2,h3⟩=>by
      exfalso
      simp only at h2
      rcases tz9 k' k with g | g
      .exact hno k' g h3
      .rw [show k'=k by omega] at h3
       have:=hcP.2 h3.1
       cases this⟩ (by simp only;omega)
     simp (maxSteps:=2000000) [-getElem?_pos,-List.map_set] at ih'
     simp (maxSteps:=2000000) [-getElem?_pos,-List.map_set,gp,hki,hb,hc',hiN,hkN,hVl,h21,r21,hkw,hVs,show i<=w.length by omega,show k<=i by omega]
     exact ih'
    | true=>
     obtain ⟨q,hq⟩:∃ q,q=a.accepts ((w.take i).drop k):=⟨_,rfl⟩
     rw [<-hq] at h21
     have ih':=ih (k+1,V.set i q) ⟨by simp only;omega,by simp only;rw [tz3];exact hVl,λj hj=>by simp only;rw [tz4 (λe=>hj e.symm)];exact hV1 j hj,q,by simp only;rw [tz1 (by omega)],by
      simp only
      rw [hq,<-hacc]
      constructor
      .intro h
       exact ⟨k,by omega,hcP.1 rfl,h⟩
      .rintro ⟨k',h2,h3⟩
       rcases tz9 k' k with g | g
       .exact absurd h3 (hno k' g)
       .rw [show k'=k by omega] at h3
        exact h3.2⟩ (by simp only;omega)
     simp (maxSteps:=2000000) [-getElem?_pos,-List.map_set] at ih'
     simp (maxSteps:=2000000) [-getElem?_pos,-List.map_set,gp,hki,hb,hc',hiN,hkN,hVl,h21,r21,hkw,show i<=w.length by omega,show k<=i by omega]
     exact ih'
  have ih':=ih (i+1,V) ⟨by simp only;omega,by simp only;omega,hVl,λj h2 h3=>by
   simp only at h2 ⊢
   rw [hV1 j (by omega)]
   exact hF j (by omega) h3,λj hj=>by
   simp only at hj ⊢
   rcases tz9 j i with g | g
   .rw [hV1 j (by omega)];exact hU j g
   .rw [show j=i by omega];exact hV2⟩ (by simp only;omega)
  have hiw:=zzg (show i+1<=9223372036854775807 by omega)
  simp (maxSteps:=2000000) [-getElem?_pos,-List.map_set] at ih'
  simp (maxSteps:=2000000) [-getElem?_pos,-List.map_set,gp,t1,t2,t5,t6,hiw]
  exact ih'
 simp (maxSteps:=2000000) [-getElem?_pos,-List.map_set,gp,t1,t2,t5,hU,hUl,show w.length<N by omega]
end Go.Dv
set_option maxHeartbeats 8000000
namespace Go.Dv
open Go Go.Sim Go.Proofs Go.Fsa
attribute [local simp] zwq zwp zzp zz6 zz7 zyg zzz zyb zzf zz4 zyd zzy zye zzt zwh
attribute [local simp] xyr xys xyt
attribute [local simp] zvu zvv zua zvw
theorem w8 (a b:Aut) (op:Int) (l:List (List Int)) (ha:a.nxt.length<1152921504606846976) (hb:b.nxt.length<1152921504606846976) (hl:l.length<1152921504606846976) (base:Nat) (D:DH) :
  zzh Q 8 [zzp a,zzp b,zze op,.f (.lst (l.map zug))] base D=some (zzu true,D):=by
 rw [zzb (fn:=Tryz.f8) (show Q.P.funcs[8]? =some Tryz.f8 from Tryz.func8) rfl xp5 rfl (by simp only [tzd,tze];decide) (by kernel_rfl)]
 have gp:=gp8
 simp [xp5,Tryz.f8,zyr] at gp
 have h11:∀ b D,zzh Q 11 [] b D=some (rv (.bool true),D):=λb D=>yr7 (by kernel_rfl)
 have h12:=λbb=>w12 [a,b] (by simp [-getElem?_pos,-List.map_set]) (by simp [-getElem?_pos,-List.map_set];exact ⟨ha,hb⟩) (D.length+2) bb (D++[.arr 4 [zzp a],.arr 4 [zzp b],.arr 4 [zzp a,zzp b]]) (by simp [-getElem?_pos,-List.map_set])
 simp only [tzd,tze,txj,Nat.reduceAdd,zzu,zzp] at h12
 by_cases hs:∀ x∈[a,b],x.small
 case neg=>
  rw [decide_eq_false hs] at h12
  simp (maxSteps:=2000000) [-getElem?_pos,-List.map_set,gp,h11,h12]
 rw [decide_eq_true hs] at h12
 have h38:=λbb=>w38 [a,b] (by simp [-getElem?_pos,-List.map_set]) (D.length+3) bb (D++[.arr 4 [zzp a],.arr 4 [zzp b],.arr 4 [zzp a,zzp b],.arr 4 [zzp a,zzp b]]) (by simp [-getElem?_pos,-List.map_set])
 simp only [tzd,tze,txj,Nat.reduceAdd,zzu,zzp] at h38
 by_cases ht:∀ x∈[a,b],x.tiny
 case neg=>
  rw [decide_eq_false ht] at h38
  simp (maxSteps:=2000000) [-getElem?_pos,-List.map_set,gp,h11,h12,h38]
 rw [decide_eq_true ht] at h38
 obtain ⟨k,hk⟩:∃ k,k=decide ((∀ r∈l,r.length<=40)/\l.length<=40):=⟨_,rfl⟩
 have h13:=λbb D'=>xmp l hl bb D' k hk
 simp only [zzu] at h13
 cases k with
 | false=>simp (maxSteps:=2000000) [-getElem?_pos,-List.map_set,gp,h11,h12,h38,h13]
 | true=>
 have h19a:=λbb D=>w19 a bb D
 have h19b:=λbb D=>w19 b bb D
 simp only [zzp,zze] at h19a h19b
 by_cases va:a.valid
 case neg=>
  have:a.check=60:=by simp [-getElem?_pos,-List.map_set,Aut.check,va]
  rw [this] at h19a
  simp (maxSteps:=2000000) [-getElem?_pos,-List.map_set,gp,h11,h12,h38,h13,h19a]
 by_cases vb:b.valid
 case neg=>
  have:b.check=60:=by simp [-getElem?_pos,-List.map_set,Aut.check,vb]
  rw [this] at h19b
  rw [Aut.check_valid.2 va] at h19a
  simp (maxSteps:=2000000) [-getElem?_pos,-List.map_set,gp,h11,h12,h38,h13,h19a,h19b]
 rw [Aut.check_valid.2 va] at h19a
 rw [Aut.check_valid.2 vb] at h19b
 by_cases hsy:a.sy=b.sy
 case neg=>simp (maxSteps:=2000000) [-getElem?_pos,-List.map_set,gp,h11,h12,h38,h13,h19a,h19b,hsy]
 by_cases h1:op<1
 .simp (maxSteps:=2000000) [-getElem?_pos,-List.map_set,gp,h11,h12,h38,h13,h19a,h19b,eq_true hsy,h1]
 by_cases h4:4<op
 .simp (maxSteps:=2000000) [-getElem?_pos,-List.map_set,gp,h11,h12,h38,h13,h19a,h19b,eq_true hsy,h1,h4]
 obtain ⟨n,rfl⟩:∃ n:Nat,op=n:=⟨op.toNat,by omega⟩
 have hbr:=of_decide_eq_true hk.symm
 have ta:=ht a (by simp [-getElem?_pos,-List.map_set])
 have tb:=ht b (by simp [-getElem?_pos,-List.map_set])
 have pa:2 ^ a.nxt.length<=2 ^ 7:=Nat.pow_le_pow_right (by omega) ta.1
 have pb:2 ^ b.nxt.length<=2 ^ 7:=Nat.pow_le_pow_right (by omega) tb.1
 have hD:(a.nxt.length+1)*(b.nxt.length+1)<=20000:=tys (Nat.mul_le_mul (show a.nxt.length+1<=8 by have:=ta.1;omega) (show b.nxt.length+1<=8 by have:=tb.1;omega)) (by decide)
 have hC:zlk a b<=20000:=tys (Nat.mul_le_mul (show a.nxt.length+1<=8 by have:=ta.1;omega) pb) (by decide)
 have hS:zll a<=20000:=tys (Nat.mul_le_mul (tzp 2) pa) (by decide)
 have hV:zjn a<=20000:=tys pa (by decide)
 have e1:zlu a b n=((zi4 (opB n) a b).can,0):=by unfold zlu;rw [if_pos ⟨va,vb⟩,if_pos ⟨hsy,by omega,by omega⟩,tym]
 have e2:zbh a=((zqy a).can,0):=by unfold zbh;rw [if_pos va]
 have e3:ydq a=((yl3 a).can,0):=by unfold ydq;rw [if_pos va]
 have e4:zhk a b=((zi5 a b).can,0):=by unfold zhk;rw [if_pos ⟨va,vb⟩,if_pos hsy]
 have e5:zbj a=((zi6 a).can,0):=by unfold zbj;rw [if_pos va]
 have ta1:=ta.1
 have tb1:=tb.1
 have h33:=λbb D=>w33 a b n ha hb (λ_ _=>hD) bb D
 have h35:=λbb D=>w35 a ha (λ_=>by omega) bb D
 have h44:=λbb D=>w44 a ha (λ_=>⟨hV,by omega⟩) bb D
 have h40:=λbb D=>w40 a b ha hb (λ_ _=>⟨hC,by omega⟩) bb D
 have h42:=λbb D=>w42 a ha (λ_=>⟨hS,by omega⟩) bb D
 rw [e1] at h33
 rw [e2] at h35
 rw [e3] at h44
 rw [e4] at h40
 rw [e5] at h42
 have m1:=zf1 va vb hsy hD (yln n)
 have m2:=zf2 va (by omega)
 have m3:=yzv va hV
 have m4:=zf6 va vb hsy hC
 have m5:=zf7 va hS
 have b1:=m1.1.most
 have b2:=m2.1.most
 have b3:=m3.1.most
 have b4:=m4.1.most
 have b5:=m5.1.most
 have f1:=zsa m1.1
 have f2:=zsa m2.1
 have f3:=zsa m3.1
 have f4:=zsa m4.1
 have f5:=zsa m5.1
 obtain ⟨M1,hM1⟩:∃ M,M=(zi4 (opB n) a b).can:=⟨_,rfl⟩
 obtain ⟨M2,hM2⟩:∃ M,M=(zqy a).can:=⟨_,rfl⟩
 obtain ⟨M3,hM3⟩:∃ M,M=(yl3 a).can:=⟨_,rfl⟩
 obtain ⟨M4,hM4⟩:∃ M,M=(zi5 a b).can:=⟨_,rfl⟩
 obtain ⟨M5,hM5⟩:∃ M,M=(zi6 a).can:=⟨_,rfl⟩
 rw [<-hM1] at h33 f1
 rw [<-hM2] at h35 f2
 rw [<-hM3] at h44 f3
 rw [<-hM4] at h40 f4
 rw [<-hM5] at h42 f5
 have A1:∀ w:List Int,(∀ x∈w,0<=x/\x<a.sy)->M1.accepts w=opB n (a.accepts w) (b.accepts w):=λw hw=>by rw [hM1];exact yg8 va vb hsy hD (yln n) hw
 have A2:∀ w:List Int,(∀ x∈w,0<=x/\x<a.sy)->M2.accepts w=!a.accepts w:=λw hw=>by rw [hM2];exact yg9 va (by omega) hw
 have A3:∀ w:List Int,(∀ x∈w,0<=x/\x<a.sy)->M3.accepts w.reverse=a.accepts w:=λw hw=>by rw [hM3];exact xyc va hV hw
 have A4:∀ w:List Int,(∀ x∈w,0<=x/\x<a.sy)->(M4.accepts w=true↔∃ i,i<=w.length/\a.accepts (w.take i)=true/\b.accepts (w.drop i)=true):=λw hw=>by rw [hM4];exact yfb va vb hsy hC hw
 have A5:∀ w:List Int,(∀ x∈w,0<=x/\x<a.sy)->(M5.accepts w=true↔zo2 a w w.length):=λw hw=>by rw [hM5];exact yfa va hS hw
 have g1:M1.nxt.length<1152921504606846976:=by omega
 have g2:M2.nxt.length<1152921504606846976:=by omega
 have g3:M3.nxt.length<1152921504606846976:=by omega
 have g4:M4.nxt.length<1152921504606846976:=by omega
 have g5:M5.nxt.length<1152921504606846976:=by omega
 clear hM1 hM2 hM3 hM4 hM5 f1 f2 f3 f4 f5 m1 m2 m3 m4 m5 b1 b2 b3 b4 b5 e1 e2 e3 e4 e5 hs ht hk
 simp only [zp3,zzp,zze] at h33 h35 h44 h40 h42
 have hlen:l.length<=40:=hbr.2
 simp (maxSteps:=2000000) [-getElem?_pos,-List.map_set,gp,h11,h12,h38,h13,h19a,h19b,eq_true hsy,h1,h4,show ¬n<1 by omega,show ¬4<n by omega,h33,h35,h44,h40,h42]
 generalize hX:zxi _ _ _=X
 obtain ⟨tm,rfl⟩:∃ tm,X=some (.exit 0,⟨tm,D++[.arr 4 [zzp a],.arr 4 [zzp b],.arr 4 [zzp a,zzp b],.arr 4 [zzp a,zzp b],.arr 4 [zzp M1],.arr 4 [zzp M2],.arr 4 [zzp M3],.arr 4 [zzp M4],.arr 4 [zzp M5]]⟩):=by
  rw [<-hX]
  clear hX h11 h12 h38 h13 h19a h19b h33 h35 h44 h40 h42
  generalize hs75:SD.mk _ _=sd75
  revert sd75
  refine wl (λi:Nat=>⟨((((((((((Trie.leaf.put 19 (zze i)).put 17 (.ref (D.length+8) 0 0)).put 15 (.ref (D.length+7) 0 0)).put 13 (.ref (D.length+6) 0 0)).put 11 (.ref (D.length+5) 0 0)).put 9 (.ref (D.length+4) 0 0)).put 5 (.ref (D.length+1) 0 0)).put 4 (.ref D.length 0 0)).put 3 (.f (.lst (l.map zug)))).put 2 (zze n)),D++[.arr 4 [zzp a],.arr 4 [zzp b],.arr 4 [zzp a,zzp b],.arr 4 [zzp a,zzp b],.arr 4 [zzp M1],.arr 4 [zzp M2],.arr 4 [zzp M3],.arr 4 [zzp M4],.arr 4 [zzp M5]]⟩) (λi=>i<=l.length) (λi=>l.length-i) ?_ 0 (tz6 _)
  intro i hi ih
  rw [zzi]
  by_cases hlt:i<l.length
  case neg=>simp (maxSteps:=2000000) [-getElem?_pos,-List.map_set,gp,hlt]
  obtain ⟨w,hw⟩:∃ w,l[i]? =some w:=⟨_,tzb hlt⟩
  have hwl:w.length<=40:=hbr.1 w (tzg hw)
  have h45:=λbb D=>w45 a w (by omega) bb D
  have hiw:=zzg (show i+1<=9223372036854775807 by omega)
  have ih':=ih (i+1) (by omega) (by omega)
  simp (maxSteps:=2000000) [-getElem?_pos,-List.map_set] at ih'
  by_cases hwv:∀ x∈w,0<=x/\x<a.sy
  case neg=>
   rw [decide_eq_false hwv] at h45
   simp only [zzp,zxd,zug,zzu] at h45
   simp (maxSteps:=2000000) [-getElem?_pos,-List.map_set,gp,hlt,hw,h45,hiw]
   exact ih'
  rw [decide_eq_true hwv] at h45
  have r20:(Q.ann 20).raw=false:=by rw [xxe]
  have r21:(Q.ann 21).raw=false:=by rw [yl8]
  have r46:(Q.ann 46).raw=false:=by rw [xxy]
  have r47:(Q.ann 47).raw=false:=by rw [xxz]
  have r48:(Q.ann 48).raw=false:=by rw [ydy]
  have r49:(Q.ann 49).raw=false:=by rw [ydz]
  have h21a:=λbb D=>w21 a w (by omega) bb D
  have h21b:=λbb D=>w21 b w (by omega) bb D
  have h46:=λbb D=>w46 n (by omega) (by omega) (a.accepts w) (b.accepts w) bb D
  have h47:=λbb D=>w47 w (by omega) bb D
  have h48:=λbb D=>w48 a b w (by omega) bb D (M4.accepts w) (A4 w hwv)
  have h49:=λbb D=>w49 a va w (by omega) hwv bb D (M5.accepts w) (A5 w hwv)
  have h20_1:=λbb D=>w20 M1 w g1 (by omega) bb D
  have h20_2:=λbb D=>w20 M2 w g2 (by omega) bb D
  have h20_3:=λbb D=>w20 M3 w.reverse g3 (by simp [-getElem?_pos,-List.map_set];omega) bb D
  have h20_4:=λbb D=>w20 M4 w g4 (by omega) bb D
  have h20_5:=λbb D=>w20 M5 w g5 (by omega) bb D
  rw [A1 w hwv] at h20_1
  rw [A2 w hwv] at h20_2
  rw [A3 w hwv] at h20_3
  clear A1 A2 A3 A4 A5 ih
  generalize M4.accepts w=x4 at *
  generalize M5.accepts w=x5 at *
  generalize opB n (a.accepts w) (b.accepts w)=x1 at *
  generalize a.accepts w=xa at *
  generalize b.accepts w=xb at *
  simp only [zzp,zxd,zug,zzu,zze,List.map_reverse] at h45 h21a h21b h46 h47 h48 h49 h20_1 h20_2 h20_3 h20_4 h20_5
  simp (maxSteps:=2000000) [-getElem?_pos,-List.map_set,gp,hlt,hw,h45,hiw,r20,r21,r46,r47,r48,r49,h21a,h21b,h46,h47,h48,h49,h20_1,h20_2,h20_3,h20_4,h20_5]
  exact ih'
 simp (maxSteps:=2000000) [-getElem?_pos,-List.map_set,gp,]
end Go.Dv
