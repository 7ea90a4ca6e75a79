/- Texts of this proof, part WC. -/
import Derived.Test.YtfjbdkmmoinngaaGreatDoorWB
import Derived.Test.YtfjbdkmmoinngaaGreatDoorDvB
import Derived.Test.YtfjbdkmmoinngaaGreatDoorPure
set_option linter.unusedVariables false
set_option linter.unusedSimpArgs false
set_option linter.unusedSectionVars false
noncomputable section
set_option maxRecDepth 100000
set_option maxHeartbeats 4000000
namespace Go.Dv
open Go Go.Sim Go.Proofs Go.Fsa
attribute [local simp] zwo zxi zzn zz0 zz1 zya zzv zz5 zzf zz8 zz6 zzt zz4 zzq
theorem yw3 {D:DH} {o i k:Nat}:eqD D (.ref o i k)=zut D (.ref o i k):=rfl
attribute [local simp] yw3 zxv zxw zxk zxx zut
def zlc (D:DH) (sy:Nat) (acc:List Bool) (els:List DV) (X:DH):DH:=D++.arr 1 [zzf sy]::.arr 4 [.agg [zzf 0,zzf 0,zyf,zyf]]::.arr 5 [.agg [zzf sy,.apl (D.length+4) acc.length,.apl (D.length+5) els.length,zyf,zyf]]::.arr 1 [.ref (D.length+2) 0 0]::.app 4 1 (acc.map zz8)::.app 26 1 els::X
theorem w82 (D X:DH) (sy:Nat) (hsy:sy<=400) (acc:List Bool) (els:List DV) (hel:els.length=acc.length) (hl:acc.length<=200000) (base:Nat) (hb:base=D.length)
  (hE:∀ x∈els,below (D.length+(X.length+6)) x=true) (hX:∀ x∈X,zza (D.length+(X.length+6)) x=true) :
  zzg Q 82 [.ref (D.length+3) 0 0,.ref D.length 0 0] base (zlc D sy acc els X)=some (zze acc.length,zlc D sy (acc++[false]) (els++[.row (D.length+(X.length+7)) 0 sy sy]) (X++[.arr 1 [zz8 false],.arr 1 ((List.replicate sy (-1:Int)).map zzf),.arr 1 [.row (D.length+(X.length+7)) 0 sy sy]])):=by
 subst hb
 have hc:(∀ x,x∈els->below (D.length+(X.length+2+1+1+1+1+1+1)) x=true)/\∀ x,x∈X->zza (D.length+(X.length+2+1+1+1+1+1+1)) x=true:=
  ⟨λx hx=>(zy8 (by omega)).1 x (hE x hx),λx hx=>zyo (by omega) x (hX x hx)⟩
 rw [zz2 (fn:=Tryz.f82) (show Q.P.funcs[82]? =some Tryz.f82 from Tryz.func82) rfl xw3 rfl (by simp only [tzd,tze];decide) (by kernel_rfl)];have gp:=xm6;simp [xw3,Tryz.f82,zym] at gp;unfold zlc;simp [-List.map_set,gp,hel,show acc.length+1<=1099511627776 by omega,show acc.length<=1099511627775 by omega,show sy*8<=140737488355328 by omega,show sy<9223372036854775808 by omega];rw [if_pos hc];generalize hY:zxj _ _ _=Y
 obtain ⟨tm,rfl,t0,t3⟩:∃ tm,Y=some (.exit 0,⟨tm,D++.arr 1 [zzf sy]::.arr 4 [.agg [zzf 0,zzf 0,zyf,zyf]]::.arr 5 [.agg [zzf sy,.apl (D.length+4) (acc.length+1),.apl (D.length+5) acc.length,zyf,zyf]]::.arr 1 [.ref (D.length+2) 0 0]::.app 4 1 (acc.map zz8++[zz8 false])::.app 26 1 els::(X++[.arr 1 [zz8 false],.arr 1 ((List.replicate sy (-1:Int)).map zzf)])⟩)/\tm.get 0=some (.ref (D.length+3) 0 0)/\tm.get 3=some (.row (D.length+(X.length+7)) 0 sy sy):=by
  rw [<-hY];clear hY;obtain ⟨W0,hW0⟩:∃ L:List Int,L=List.replicate sy 0:=⟨_,rfl⟩;rw [zn0,<-hW0];generalize hs49:SD.mk _ _=sd49;revert sd49;refine wl (λp:Nat×List Int=>⟨(((Trie.leaf.put 18 (zze p.1)).put 17 (zze sy)).put 3 (.row (D.length+(X.length+7)) 0 sy sy)).put 0 (.ref (D.length+3) 0 0),D++.arr 1 [zzf sy]::.arr 4 [.agg [zzf 0,zzf 0,zyf,zyf]]::.arr 5 [.agg [zzf sy,.apl (D.length+4) (acc.length+1),.apl (D.length+5) acc.length,zyf,zyf]]::.arr 1 [.ref (D.length+2) 0 0]::.app 4 1 (acc.map zz8++[zz8 false])::.app 26 1 els::(X++[.arr 1 [zz8 false],.arr 1 (p.2.map zzf)])⟩) (λp=>p.1<=sy/\p.2=List.replicate p.1 (-1:Int)++List.replicate (sy-p.1) 0) (λp=>sy-p.1) ?_ (0,W0) ⟨tz6 _,by rw [hW0];rfl⟩;rintro ⟨i,W⟩ ⟨hi,hW⟩ ih;simp only at hi hW ih;rw [zzj];by_cases hlt:i<sy
  case neg=>
   obtain rfl:i=sy:=by omega
   rw [Nat.sub_self,List.replicate_zero,tyv] at hW;subst hW;simp [-List.map_set,gp,]
  have e1:W.set i (-1)=List.replicate (i+1) (-1:Int)++List.replicate (sy-(i+1)) 0:=(by obtain ⟨k,rfl⟩:∃ k,sy=i+1+k:=⟨sy-(i+1),by omega⟩;rw [hW,show i+1+k-i=k+1 by omega,show i+1+k-(i+1)=k by omega,List.replicate_succ (n:=k),List.replicate_succ' (n:=i)];simp [-List.map_set]);have hWl:W.length=sy:=by rw [hW];simp [-List.map_set];omega
  obtain ⟨x,hx⟩:∃ x,W[i]? =some x:=⟨_,tzb (by omega)⟩;have ih':=ih (i+1,W.set i (-1)) ⟨by simp only;omega,e1⟩ (by simp only;omega);simp [-List.map_set] at ih';simp [-List.map_set,gp,hlt,hWl,hx,zzi (show i+1<=9223372036854775807 by omega)];rw [if_pos hc];exact ih'
 simp [-List.map_set,gp,t0,t3,hel,show (acc.length+1)*24<=1099511627776 by omega,show acc.length<=1099511627775 by omega,zy9 (show -9223372036854775808<=(acc.length:Int) by omega) (show (acc.length:Int)<=9223372036854775807 by omega)]
 done
end Go.Dv
namespace Go.Dv
open Go Go.Sim Go.Proofs Go.Fsa
attribute [local simp] zwo zxi zzn zz0 zz1 zya zzv zz5 zzf zz8 zz6 zzt zz4 zzq zwc
theorem xnl (m:Aut) (hm:m.fine) (h1:1<=m.sy) (h4:m.sy<=400) (hl:0<m.acc.length) (hn:m.acc.length<=20000) (om oa on:Nat) (x y:DV) (base:Nat) (D:DH)
  (g2:D[om]? =some (.arr 5 [.agg [zze m.sy,.apl oa m.acc.length,.apl on m.acc.length,x,y]])) (g3:D[oa]? =some (.app 4 1 (m.acc.map zz8))) (g4:D[on]? =some (.app 26 1 (m.nxt.map zyq))) :
  zzg Q 109 [.ref om 0 0] base D=some (.tup [zzn m.canP,zzr true],D):=by
 unfold Aut.canP;split
 .rename_i h0;obtain ⟨c1,c2,c3,c0,hc0,hex,hq⟩:=yma hm hn hl;exact xki m hm h4 h1 (by omega) (by omega) om oa on x y base D g2 g3 g4 h0 m.clsP _ c1 c2.len c2.hi c0 hc0 _ _ _ hex hq
 .rename_i h0;exact ylv m hm h4 h1 (by omega) (by omega) om oa on x y base D g2 g3 g4 h0
theorem xmk (m:Aut) (hm:m.fine) (h1:1<=m.sy) (h4:m.sy<=400) (hl:0<m.acc.length) (hn:m.acc.length<=20000) (om oa on:Nat) (x y:DV) (base:Nat) (D:DH)
  (g2:D[om]? =some (.arr 5 [.agg [zze m.sy,.apl oa m.acc.length,.apl on m.acc.length,x,y]])) (g3:D[oa]? =some (.app 4 1 (m.acc.map zz8))) (g4:D[on]? =some (.app 26 1 (m.nxt.map zyq))) :
  zzg Q 61 [.ref om 0 0,zzr true] base D=some (zu9 m.canP 0,D):=by
 rw [zzb (fn:=Tryz.f61) (show Q.P.funcs[61]? =some Tryz.f61 from Tryz.func61) rfl xwn rfl (by simp only [tzd,tze];decide) (by kernel_rfl)];have h:=λb X=>xnl m hm h1 h4 hl hn om oa on x y b (D++X) (zzc g2) (zzc g3) (zzc g4);obtain ⟨c,hc⟩:∃ c,c=m.canP:=⟨_,rfl⟩;rw [<-hc] at h ⊢;simp only [zzn,zzr,zze] at h;simp [-List.map_set,h,zu9]
theorem yd8 (m:Aut) (hv:m.valid) (hl:0<m.acc.length) (om oa on:Nat) (x y:DV) (base:Nat) (D:DH)
  (g2:D[om]? =some (.arr 5 [.agg [zze m.sy,.apl oa m.acc.length,.apl on m.acc.length,x,y]])) (g3:D[oa]? =some (.app 4 1 (m.acc.map zz8))) (g4:D[on]? =some (.app 26 1 (m.nxt.map zyq))) :
  zzg Q 61 [.ref om 0 0,zzr true] base D=some (zu9 m.canP 0,D):=
 xmk m hv.fine (by have:=hv.lo;omega) (by have:=hv.hi;omega) hl (by have:=hv.most;omega) om oa on x y base D g2 g3 g4
def Aut.canonP (a:Aut):Aut×Int:=if a.valid then (a.wh.canP,0) else (⟨0,0,[],[]⟩,60)
theorem xml (a:Aut) (hn:a.nxt.length<20000) (base:Nat) (D:DH):zzg Q 17 [zzn a] base D=some (zu9 (Aut.canonP a).1 (Aut.canonP a).2,D):=by
 rw [zzb (fn:=Tryz.f17) (show Q.P.funcs[17]? =some Tryz.f17 from Tryz.func17) rfl xqk rfl (by simp only [tzd,tze];decide) (by kernel_rfl)];have h18:=λb D=>w18 a (by omega) b D;simp only [zzn,zze] at h18;by_cases hv:a.valid
 .have hck:a.check=0:=Aut.check_valid.2 hv;have e:Aut.canonP a=(a.wh.canP,0):=if_pos hv;rw [e];have hlo:=hv.lo;have hhi:=hv.hi;obtain ⟨_,s2,s3,s4,_⟩:=zfc hv;have hl:=zzy s2;have hle:=zg8 s3 s4;have hwl:=zdt (a:=a);obtain ⟨O1,O2,fi,bs,h62,hO⟩:=w62 a hv D.length (D++[.arr 4 [zzn a],.arr 4 [.agg [zzf 0,zzf 0,zyf,zyf]]]) (by simp [-List.map_set]) (by rw [zy6];simp [-List.map_set,zys]);have h61:=λb=>xmk a.wh (za9 hv) (show 1<=a.sy by omega) (show a.sy<=400 by omega) (by omega) (by omega) (D.length+3) (D.length+8) (D.length+9) (qV (D.length+6) a.wh.acc.length) (qV (D.length+7) a.wh.acc.length) b (D++[.arr 4 [zzn a],.arr 4 [.agg [zzf 0,zzf 0,zyf,zyf]]]++(.arr 4 [zzn a]::zxb (D.length+3) a.wh O1 O2 fi bs)) (by simp [-List.map_set,zxb]) (by simp [-List.map_set,zxb]) (by simp [-List.map_set,zxb]);obtain ⟨c,hc⟩:∃ c,c=a.wh.canP:=⟨_,rfl⟩;rw [<-hc] at h61 ⊢;simp [-List.map_set,zxb,zu9] at h62 h61;simp [-List.map_set,h18,hck,h62,h61,zu9]
 .have hck:a.check=60:=by simp [-List.map_set,Aut.check,hv]
  have e:Aut.canonP a=(⟨0,0,[],[]⟩,60):=if_neg hv;rw [e];simp [-List.map_set,h18,hck,zu9]
theorem yek {m:Aut} (hm:m.fine) (hn:m.acc.length<=20000) (hl:0<m.acc.length):m.canP.acc.length<=20000/\m.canP.nxt.length<=20000/\∀ r∈m.canP.nxt,r.length=m.sy.toNat:=by
 unfold Aut.canP;split
 .obtain ⟨c1,c2,c3,c0,hc0,hex,hq⟩:=yma hm hn hl;obtain ⟨e1,e2,e3⟩:=zob hex;have h2:m.exP.2.length=m.exP.1.length:=by simpa [-List.map_set] using e2 (tz6 _)
  refine ⟨by simpa [-List.map_set] using hq,by simpa [-List.map_set,h2] using hq,λr hr=>?_⟩;obtain ⟨j,hj,rfl⟩:=tyn hr;simp only at hj;obtain ⟨s,hs⟩:∃ s,m.exP.1[j]? =some s:=⟨_,tzb (by omega)⟩;obtain ⟨row,k1,k2,_⟩:=e3 j s (by rw [txj];exact hs) (tz6 _);rw [tzb hj,tza] at k1;simp only [k1,k2];simp [-List.map_set,Aut.succP]
 .simp [-List.map_set]
theorem xkv (a:Aut) (hn:a.nxt.length<20000) (base:Nat) (D:DH):∃ b:Bool,zzg Q 23 [zzn a] base D=some (zzr b,D):=by
 have h17:=λD'=>xml a hn D.length D';simp only [zzn,zu9,zze] at h17;by_cases hv:a.valid
 .have e:Aut.canonP a=(a.wh.canP,0):=if_pos hv;rw [e] at h17;have hlo:=hv.lo;have hhi:=hv.hi;have hmost:=hv.most;have hlen:=hv.len;obtain ⟨_,s2,s3,s4,_⟩:=zfc hv;have hl:=zzy s2;have hle:=zg8 s3 s4;have hwl:=zdt (a:=a);obtain ⟨c1,c2,c3⟩:=yek (za9 hv) (by omega) (by omega);have hsy:a.wh.sy=a.sy:=rfl;have h25:=λD'=>w25 a a.wh.canP (by omega) (by omega) (by omega) (by omega) (λr hr=>by have:=(hv.rows r hr).1;omega) (λr hr=>by have:=c3 r hr;omega) D.length D';simp only [zzn,zzr] at h25;refine ⟨zrk a a.wh.canP,?_⟩;rw [zzb (fn:=Tryz.f23) (show Q.P.funcs[23]? =some Tryz.f23 from Tryz.func23) rfl xx7 rfl (by simp only [tzd,tze];decide) (by kernel_rfl)];simp [-List.map_set,h17,h25]
 .have e:Aut.canonP a=(⟨0,0,[],[]⟩,60):=if_neg hv;rw [e] at h17;refine ⟨false,?_⟩;rw [zzb (fn:=Tryz.f23) (show Q.P.funcs[23]? =some Tryz.f23 from Tryz.func23) rfl xx7 rfl (by simp only [tzd,tze];decide) (by kernel_rfl)];simp [-List.map_set,h17]
end Go.Dv
namespace Go.Fsa
theorem zic {l:List (List Int)} {i:Nat} {w:List Int} (h:l[i]? =some w):zie (l.take (i+1))=zie (l.take i)+w.length:=by
 rw [tz8,h];simp [zie]
theorem yz7 {l:List (List Int)} {i:Nat}:zie (l.take i)<=zie l:=by
 have h:zie (l.take i++l.drop i)=zie (l.take i)+zie (l.drop i):=by simp only [zie,txk,List.sum_append]
 rw [List.take_append_drop] at h;omega
end Go.Fsa
namespace Go.Dv
open Go Go.Sim Go.Proofs Go.Fsa
attribute [local simp] zwo zxi zzn zz0 zz1 zya zzv zz5 zzf zz8 zz6 zzt zz4 zzq
attribute [local simp] yw3 zxv zxw zxk zxx zut
theorem xxp:ofV (.pointer none)=rv (.pointer none):=rfl
theorem yel:zwz (.f (.raw (.pointer none)))=true:=rfl
attribute [local simp] xxp yel
structure TX (T:Aut) (sy L:Nat) (r:Nat->Nat) (X:DH):Prop where
 row:∀ s w,T.nxt[s]? =some w->X[r s]? =some (.arr 1 (w.map zzf))
 inj:∀ s t,s<T.nxt.length->t<T.nxt.length->r s=r t->s=t
 bel:∀ x∈X,zza (L+(X.length+6)) x=true
def zid (L sy:Nat) (r:Nat->Nat) (n:Nat):List DV:=(List.range n).map λs=>DV.row (L+(r s+6)) 0 sy sy
theorem zwj {L sy n:Nat} {r:Nat->Nat}:(zid L sy r n).length=n:=by simp [-List.map_set,zid]
theorem yw4 {L sy n s:Nat} {r:Nat->Nat} (h:s<n):(zid L sy r n)[s]? =some (.row (L+(r s+6)) 0 sy sy):=by
 unfold zid;rw [tzr,tz7 h];rfl
variable {T:Aut} {sy L:Nat} {r:Nat->Nat} {X:DH}
theorem TX.below (h:TX T sy L r X) {n:Nat} (hn:T.nxt.length=n):∀ x∈zid L sy r n,Dv.below (L+(X.length+6)) x=true:=by
 intro x hx;unfold zid at hx;obtain ⟨s,hs,rfl⟩:=tyg.1 hx;rw [txc] at hs;obtain ⟨w,hw⟩:∃ w,T.nxt[s]? =some w:=⟨_,tzb (by omega)⟩;have:=zyr (h.row s w hw);rw [zkl,decide_eq_true_eq];omega
theorem TX.wide (h:TX T sy L r X) {n:Nat} (hn:T.nxt.length=n) (hs:T.sy=sy) :
  TX T.wide sy L (λs=>if s=n then X.length+1 else r s) (X++[.arr 1 [zz8 false],.arr 1 ((List.replicate sy (-1:Int)).map zzf),.arr 1 [.row (L+(X.length+7)) 0 sy sy]])/\zid L sy (λs=>if s=n then X.length+1 else r s) (n+1)=zid L sy r n++[.row (L+(X.length+7)) 0 sy sy]:=by
 refine ⟨⟨λs w hw=>?_,λs t hs' ht e=>?_,λx hx=>?_⟩,?_⟩
 .simp only [Aut.wide] at hw;by_cases e:s=n
  .subst e;rw [tzv (by omega),hn,Nat.sub_self] at hw;simp only [txp,tza] at hw;subst hw;simp only [if_pos];rw [tzv (by omega),show X.length+1-X.length=1 by omega,hs,tym];rfl
  .have hlt:s<n:=(by have:=zzy hw;simp [-List.map_set] at this;omega);rw [tzs (by omega)] at hw;simp only [if_neg e];exact zzc (h.row s w hw)
 .simp only [Aut.wide,tz5,List.length_singleton] at hs' ht
  have hr:∀ k,k<n->r k<X.length:=λk hk=>by
   obtain ⟨w,hw⟩:∃ w,T.nxt[k]? =some w:=⟨_,tzb (by omega)⟩;exact zyr (h.row k w hw)
  by_cases e1:s=n
  .by_cases e2:t=n
   .omega
   rw [if_pos e1,if_neg e2] at e;have:=hr t (by omega);omega
  by_cases e2:t=n
  .rw [if_neg e1,if_pos e2] at e;have:=hr s (by omega);omega
  rw [if_neg e1,if_neg e2] at e;exact h.inj s t (by omega) (by omega) e
 .rw [tz5];rcases tyh.1 hx with hx | hx
  .exact zyo (by omega) x (h.bel x hx)
  simp only [tzu,txt,or_false] at hx;rcases hx with rfl | rfl | rfl
  .rw [zys];rfl
  .rw [zys];exact zy1
  rw [zys];simp only [List.all_cons,List.all_nil,tzj,zkl,decide_eq_true_eq,tzd,tze];omega
 .unfold zid;rw [List.range_succ,txk];congr 1
  .refine List.map_congr_left λs hs=>?_;rw [txc] at hs;show DV.row (L+((if s=n then X.length+1 else r s)+6)) 0 sy sy=_
   rw [if_neg (by omega)]
  .simp [-List.map_set]
theorem TX.put (h:TX T sy L r X) {s c:Nat} {w:List Int} {t:Int} (hw:T.nxt[s]? =some w):TX (T.putT s c t) sy L r (X.set (r s) (.arr 1 ((w.set c t).map zzf))):=by
 have hsl:=zzy hw;refine ⟨λs' w' hw'=>?_,λs t hs ht e=>h.inj s t (by simpa [-List.map_set,Aut.putT] using hs) (by simpa [-List.map_set,Aut.putT] using ht) e,λx hx=>?_⟩
 .simp only [Aut.putT,hw,tye] at hw';by_cases e:s'=s
  .subst e;rw [tz1 hsl,tza] at hw';subst hw';rw [tz1 (zyr (h.row _ _ hw))]
  rw [tz4 (λe'=>e e'.symm)] at hw';rw [tz4 (λe'=>e (h.inj _ _ (zzy hw') hsl e'.symm))];exact h.row _ _ hw'
 .rw [tz3];rcases List.mem_or_eq_of_mem_set hx with hx | rfl
  .exact h.bel x hx
  rw [zys];exact zy1
theorem TX.end_ (h:TX T sy L r X) {s:Nat}:TX (zin (T,s)) sy L r X:=⟨h.row,h.inj,h.bel⟩
theorem yd9 {D:DH} {sy:Nat} {r:Nat->Nat} {X:DH} {T:Aut} (a0 a1 a2 a3 a4:DObj) (h:TX T sy D.length r X) (hl:∀ w∈T.nxt,w.length=sy) {n:Nat} (hn:T.nxt.length=n):∀ k,k<=n->∃ Z,frzE D.length (D.length+5) k (D++a0::a1::a2::a3::a4::.app 26 1 (zid D.length sy r n)::X)=some (D++a0::a1::a2::a3::a4::.app 26 1 ((T.nxt.take k).map zyq++(zid D.length sy r n).drop k)::Z)/\∀ s,k<=s->s<n->Z[r s]? =X[r s]?
 | 0,_=>⟨X,rfl,λ_ _ _=>rfl⟩
 | k+1,hk=>by
  obtain ⟨Z,h1,h2⟩:=yd9 a0 a1 a2 a3 a4 h hl hn k (by omega);obtain ⟨w,hw⟩:∃ w,T.nxt[k]? =some w:=⟨_,tzb (by omega)⟩;have hwl:=hl w (tzg hw);have hz:=(h2 k (tzp _) (by omega)).trans (h.row k w hw);have htl:((T.nxt.take k).map zyq).length=k:=by rw [tyk,tyw];omega
  have he:((T.nxt.take k).map zyq++(zid D.length sy r n).drop k)[k]? =some (.row (D.length+(r k+6)) 0 sy sy):=(by rw [tzv (by omega),htl,Nat.sub_self,tyj,Nat.add_zero];exact yw4 (by omega));have hs:((T.nxt.take k).map zyq++(zid D.length sy r n).drop k).set k (zyq w)=(T.nxt.take (k+1)).map zyq++(zid D.length sy r n).drop (k+1):=(by rw [List.set_append_right _ _ (by omega),htl,Nat.sub_self,List.drop_eq_getElem_cons (by rw [zwj];omega),List.set_cons_zero,tz8,hw];simp [-List.map_set]);refine ⟨Z.set (r k) .dead,?_,λs hs1 hs2=>?_⟩
  .simp only [frzE,h1];generalize (T.nxt.take k).map zyq++(zid D.length sy r n).drop k=E at he hs ⊢;rw [<-hs];have hp:∀ Y:DH,(D++a0::a1::a2::a3::a4::.app 26 1 E::Y)[D.length+5]? =some (.app 26 1 E):=λY=>by simp [-List.map_set]
   rw [hp];simp only [yko,he,ydm];have hf:zqx D.length (D++a0::a1::a2::a3::a4::.app 26 1 E::Z) (.row (D.length+(r k+6)) 0 sy sy)=some (zyq w,[D.length+(r k+6)]):=(by rw [ypr];unfold zmz;simp [-List.map_set,frz,hz,hwl,tzk]);simp only [hf,zyq,zx2,yy0,ze1];have hk2:(D++a0::a1::a2::a3::a4::.app 26 1 E::Z).set (D.length+(r k+6)) .dead=D++a0::a1::a2::a3::a4::.app 26 1 E::Z.set (r k) .dead:=by simp [-List.map_set]
   rw [hk2,hp];simp [-List.map_set,zrm]
  .rw [tz4 (λe=>by have:=h.inj k s (by omega) (by omega) e;omega)];exact h2 s (by omega) hs2
theorem w37 (sy:Int) (l:List (List Int)) (hl:l.length<1152921504606846976) (hN:zie l<20000) (base:Nat) (D:DH) :
  zzg Q 37 [zze sy,.f (.lst (l.map zx2))] base D=some (zu9 (zqo sy l).1 (zqo sy l).2,D):=by
 have hwl:∀ w∈l,w.length<20000:=λw hw=>by
  obtain ⟨i,hi,rfl⟩:=tyn hw;have:=zic (tzb hi);have:=yz7 (l:=l) (i:=i+1);omega
 have h80:=λbb=>w80 l hl 81 [] [.ref D.length 0 0] (λw=>!yfp sy w) bb (D++[.arr 1 [zzf sy],.arr 4 [.agg [zzf 0,zzf 0,zyf,zyf]]]) (w81 _ [] sy l (λw hw=>by have:=hwl w hw;omega) D.length (by simp [-getElem?_pos,-List.map_set]));simp only [zzr,zzf] at h80;rw [zzb (fn:=Tryz.f37) (show Q.P.funcs[37]? =some Tryz.f37 from Tryz.func37) rfl xq0 rfl (by simp only [tzd,tze];decide) (by kernel_rfl)];by_cases c1:sy<1
 .have e:zqo sy l=(⟨0,0,[],[]⟩,1):=by unfold zqo;rw [if_neg (by omega)]
  rw [e];simp [-getElem?_pos,-List.map_set,c1,zu9]
 by_cases c2:400<sy
 .have e:zqo sy l=(⟨0,0,[],[]⟩,1):=by unfold zqo;rw [if_neg (by omega)]
  rw [e];simp [-getElem?_pos,-List.map_set,c1,c2,zu9]
 by_cases c3:l.all (yfp sy)=true
 case neg=>
  have e:zqo sy l=(⟨0,0,[],[]⟩,1):=by unfold zqo;rw [if_neg λh=>c3 h.2.2]
  have e2:(l.any λw=>!yfp sy w)=true:=(by rw [<-List.not_all_eq_any_not];simp [-getElem?_pos,-List.map_set,c3]);rw [e2] at h80;rw [e];simp [-getElem?_pos,-List.map_set,c1,c2,h80,zu9]
 have e2:(l.any λw=>!yfp sy w)=false:=by rw [<-List.not_all_eq_any_not,c3];rfl
 rw [e2] at h80;have e:zqo sy l=((zm3 sy l).canP,0):=by unfold zqo;rw [if_pos ⟨by omega,by omega,c3⟩]
 rw [e];clear e e2;simp [-getElem?_pos,-List.map_set,c1,c2,h80];generalize hX:zxj _ _ _=X;obtain ⟨n,rfl⟩:∃ n:Nat,sy=n:=⟨sy.toNat,by omega⟩
 obtain ⟨tm,rfl,t1,t2,t4⟩:∃ tm,X=some (.exit 0,⟨tm,D++[.arr 1 [zzf n],.arr 4 [.agg [zzf 0,zzf 0,zyf,zyf]]]⟩)/\tm.get 1=some (.f (.lst (l.map zx2)))/\tm.get 2=some (.ref D.length 0 0)/\tm.get 4=some (.ref (D.length+1) 0 0):=by
  rw [<-hX];clear hX h80;generalize hs50:SD.mk _ _=sd50;revert sd50;refine wl (λi:Nat=>⟨((((((Trie.leaf.put 31 (zze i)).put 30 (zze l.length)).put 29 (.f (.lst (l.map zx2)))).put 6 (zze (zie (l.take i):Nat))).put 4 (.ref (D.length+1) 0 0)).put 2 (.ref D.length 0 0)).put 1 (.f (.lst (l.map zx2))),D++[.arr 1 [zzf n],.arr 4 [.agg [zzf 0,zzf 0,zyf,zyf]]]⟩) (λi=>i<=l.length) (λi=>l.length-i) ?_ 0 (tz6 _);intro i hi ih;rw [zzj];by_cases hlt:i<l.length
  case neg=>simp [-getElem?_pos,-List.map_set,hlt]
  obtain ⟨w,hw⟩:∃ w,l[i]? =some w:=⟨_,tzb hlt⟩;have h1:=zic hw;have h2:=yz7 (l:=l) (i:=i+1);have ih':=ih (i+1) (by omega) (by omega);rw [h1] at ih';simp [-getElem?_pos,-List.map_set] at ih';simp [-getElem?_pos,-List.map_set,hlt,hw,show ¬(100000:Int)<(zie (l.take i):Nat)+(w.length:Nat) by omega,zzi (show i+1<=9223372036854775807 by omega),zy9 (show -9223372036854775808<=((zie (l.take i):Nat):Int)+(w.length:Nat) by omega) (show ((zie (l.take i):Nat):Int)+(w.length:Nat)<=9223372036854775807 by omega)];exact ih'
 clear hX h80;have h0:=w82 D [] n (by omega) [] [] rfl (by simp [-getElem?_pos,-List.map_set]) D.length rfl (by simp [-getElem?_pos,-List.map_set]) (by simp [-getElem?_pos,-List.map_set]);unfold zlc at h0;simp [-getElem?_pos,-List.map_set] at h0;simp [-getElem?_pos,-List.map_set,t1,t2,t4,h0];generalize hX:zxj _ _ _=X;have hn1:1<=(n:Int):=by omega
 obtain ⟨tm',r,Z,rfl,hTX,u4,u9,u45⟩:∃ (tm':Trie DV) (r:Nat->Nat) (Z:DH),X=some (.exit 2,⟨tm',zlc D n (zm3 n l).acc (zid D.length n r (zm3 n l).acc.length) Z⟩)/\TX (zm3 n l) n D.length r Z/\tm'.get 4=some (.ref (D.length+1) 0 0)/\tm'.get 9=some (.ref (D.length+3) 0 0)/\tm'.get 45=some (.ref (D.length+2) 0 0):=by
  rw [<-hX];clear hX h0 t1 t2 t4;generalize hs51:SD.mk _ _=sd51;revert sd51
  refine wl (λp:Nat×Aut×(Nat->Nat)×DH=>⟨((((((Trie.leaf.put 51 (zze p.1)).put 50 (zze l.length)).put 49 (.f (.lst (l.map zx2)))).put 45 (.ref (D.length+2) 0 0)).put 10 (.fn 82 [] [.ref (D.length+3) 0 0,.ref D.length 0 0])).put 9 (.ref (D.length+3) 0 0)).put 4 (.ref (D.length+1) 0 0),zlc D n p.2.1.acc (zid D.length n p.2.2.1 p.2.1.acc.length) p.2.2.2⟩)
   (λp=>p.1<=l.length/\TrOK n p.2.1/\TX p.2.1 n D.length p.2.2.1 p.2.2.2/\trM p.2.1 (l.drop p.1)=zm3 n l/\p.2.1.acc.length<=1+zie (l.take p.1)) (λp=>l.length-p.1) ?_ (0,zfg n,(λ_=>1),[.arr 1 [zz8 false],.arr 1 (List.replicate n (zzf (-1))),.arr 1 [.row (D.length+7) 0 n n]]) ⟨tz6 _,yxr hn1,?_,rfl,by simp [-getElem?_pos,-List.map_set,zfg]⟩
  rotate_left
  .refine ⟨λs w hw=>?_,λs t hs ht _=>?_,λx hx=>?_⟩
   .cases s with
    | zero=>
     simp only [zfg,txp,tza] at hw;subst hw;simp [-getElem?_pos,-List.map_set]
    | succ s=>simp [-getElem?_pos,-List.map_set,zfg] at hw
   .simp [-getElem?_pos,-List.map_set,zfg] at hs ht;omega
   simp only [tzu,txt,or_false] at hx;rcases hx with rfl | rfl | rfl
   .rw [zys];rfl
   .rw [zys,List.all_replicate];simp [-getElem?_pos,-List.map_set]
   .rw [zys];simp [-getElem?_pos,-List.map_set,zkl]
  rintro ⟨i,T,r,X⟩ ⟨hi,hT,hTX,hM,hN⟩ ih;simp only at hi hT hTX hM hN ih;rw [zzj];by_cases hlt:i<l.length
  case neg=>
   rw [tyy (by omega)] at hM;simp only [trM] at hM;subst hM;simp [-getElem?_pos,-List.map_set,hlt];exact ⟨_,r,X,⟨rfl,rfl⟩,hTX,by simp [-getElem?_pos,-List.map_set]⟩
  obtain ⟨w,hw⟩:∃ w,l[i]? =some w:=⟨_,tzb hlt⟩;have hwi:=hwl w (tzg hw)
  have hwB:∀ c∈w,0<=c/\c<n:=λc hc=>by
   have:=tzx.1 c3 w (tzg hw);unfold yfp at this;rw [Bool.not_eq_true',List.any_eq_false] at this;have:=this c hc;simp [-getElem?_pos,-List.map_set] at this;omega
  have hs1:=zic hw;have hs2:=yz7 (l:=l) (i:=i+1);simp [-getElem?_pos,-List.map_set,hlt,hw];generalize hY:zxj _ _ _=Y
  obtain ⟨tm1,T1,s1,r1,X1,rfl,hT1,hTX1,hW1,v4,v9,v10,v13,v45,v49,v50,v51⟩:∃ (tm1:Trie DV) (T1:Aut) (s1:Nat) (r1:Nat->Nat) (X1:DH),Y=some (.exit 4,⟨tm1,zlc D n T1.acc (zid D.length n r1 T1.acc.length) X1⟩)/\TrOK n T1/\TX T1 n D.length r1 X1/\trW T 0 w=(T1,s1)/\tm1.get 4=some (.ref (D.length+1) 0 0)/\tm1.get 9=some (.ref (D.length+3) 0 0)/\tm1.get 10=some (.fn 82 [] [.ref (D.length+3) 0 0,.ref D.length 0 0])/\tm1.get 13=some (zze s1)/\tm1.get 45=some (.ref (D.length+2) 0 0)/\tm1.get 49=some (.f (.lst (l.map zx2)))/\tm1.get 50=some (zze l.length)/\tm1.get 51=some (zze i):=by
   rw [<-hY];clear hY ih;generalize hs52:SD.mk _ _=sd52;revert sd52
   refine wl (λp:Nat×Aut×Nat×(Nat->Nat)×DH=>⟨((((((((((Trie.leaf.put 57 (zze p.1)).put 56 (zze w.length)).put 55 (zyq w)).put 51 (zze i)).put 50 (zze l.length)).put 49 (.f (.lst (l.map zx2)))).put 45 (.ref (D.length+2) 0 0)).put 13 (zze p.2.2.1)).put 10 (.fn 82 [] [.ref (D.length+3) 0 0,.ref D.length 0 0])).put 9 (.ref (D.length+3) 0 0)).put 4 (.ref (D.length+1) 0 0),zlc D n p.2.1.acc (zid D.length n p.2.2.2.1 p.2.1.acc.length) p.2.2.2.2⟩)
    (λp=>p.1<=w.length/\TrOK n p.2.1/\p.2.2.1<p.2.1.acc.length/\TX p.2.1 n D.length p.2.2.2.1 p.2.2.2.2/\trW p.2.1 p.2.2.1 (w.drop p.1)=trW T 0 w/\p.2.1.acc.length<=T.acc.length+p.1) (λp=>w.length-p.1) ?_ (0,T,0,r,X) ⟨tz6 _,hT,hT.pos,hTX,rfl,tzp _⟩
   clear hTX hT;rintro ⟨k,T',s,r,X⟩ ⟨hk,hT,hsl,hTX,hW,hTl⟩ ih;simp only at hk hT hsl hTX hW hTl ih;rw [zzj];by_cases hks:k<w.length
   case neg=>
    rw [tyy (by omega)] at hW;simp only [trW] at hW;simp [-getElem?_pos,-List.map_set,hks];exact ⟨_,T',s,r,X,⟨rfl,rfl⟩,hT,hTX,hW.symm,by simp [-getElem?_pos,-List.map_set]⟩
   obtain ⟨c,hc⟩:∃ c,w[k]? =some c:=⟨_,tzb hks⟩;obtain ⟨hc0,hcn⟩:=hwB c (tzg hc);obtain ⟨cn,rfl⟩:∃ m:Nat,c=m:=⟨c.toNat,by omega⟩;obtain ⟨wr,hwr⟩:∃ q,T'.nxt[s]? =some q:=⟨_,tzb (by rw [hT.fine.len];exact hsl)⟩;have hwrl:=(hT.fine.rows wr (tzg hwr)).1;rw [hT.sy] at hwrl;obtain ⟨t,ht⟩:∃ q,wr[cn]? =some q:=⟨_,tzb (by omega)⟩;have hgo:T'.go s cn=t:=Aut.go_row hwr ht;have hlo:=hTX.row s wr hwr;have hel:=yw4 (L:=D.length) (sy:=n) (r:=r) hsl;have hell:=zwj (L:=D.length) (sy:=n) (r:=r) (n:=T'.acc.length);have hkw:=zzi (show k+1<=9223372036854775807 by omega);have hdr:w.drop k=(cn:Int)::w.drop (k+1):=(by rw [List.drop_eq_getElem_cons hks];rw [tzb hks,tza] at hc;rw [hc]);rw [hdr] at hW;simp only [trW,tym] at hW;by_cases htn:t<0
   case neg=>
    have eg:ysq T' s cn=(T',t.toNat):=by unfold ysq;rw [hgo,if_neg htn]
    rw [eg] at hW;obtain ⟨tn,rfl⟩:∃ m:Nat,t=m:=⟨t.toNat,by omega⟩;have htl:=((hT.fine.rows wr (tzg hwr)).2 _ (tzg ht)).2;have ih':=ih (k+1,T',tn,r,X) ⟨by simp only;omega,hT,by simp only;omega,hTX,by simpa [-getElem?_pos,-List.map_set] using hW,by simp only;omega⟩ (by simp only;omega);unfold zlc at ih' ⊢;simp [-getElem?_pos,-List.map_set,zwj] at ih';simp [-getElem?_pos,-List.map_set,hks,hc,hel,zwj,hlo,ht,htn,hkw,hsl,show cn<n by omega];exact ih'
   have eg:ysq T' s cn=(T'.wide.putT s cn T'.acc.length,T'.acc.length):=by unfold ysq;rw [hgo,if_pos htn]
   rw [eg] at hW;obtain ⟨r',hr',k1,k2⟩:∃ r':Nat->Nat,r' s=r s/\TX T'.wide n D.length r' (X++[.arr 1 [zz8 false],.arr 1 ((List.replicate n (-1:Int)).map zzf),.arr 1 [.row (D.length+(X.length+7)) 0 n n]])/\zid D.length n r' (T'.acc.length+1)=zid D.length n r T'.acc.length++[.row (D.length+(X.length+7)) 0 n n]:=⟨λq=>if q=T'.acc.length then X.length+1 else r q,if_neg (show ¬s=T'.acc.length by omega),hTX.wide hT.fine.len hT.sy⟩;have h82:=w82 D X n (by omega) T'.acc (zid D.length n r T'.acc.length) zwj (by omega) D.length rfl (hTX.below hT.fine.len) hTX.bel;have hTw:=yml hT hn1;have hwr2:T'.wide.nxt[s]? =some wr:=(by show (T'.nxt++[_])[s]? =_;rw [tzs (zzy hwr)];exact hwr);have hTX2:=k1.put (c:=cn) (t:=(T'.acc.length:Nat)) hwr2;rw [hr'] at hTX2;have hal:T'.wide.acc=T'.acc++[false]:=rfl;have ih':=ih (k+1,T'.wide.putT s cn T'.acc.length,T'.acc.length,_,_) ⟨by simp only;omega,ymm hTw (by simp [-getElem?_pos,-List.map_set,Aut.wide]),by simp [-getElem?_pos,-List.map_set,Aut.putT,Aut.wide],hTX2,hW,by simp only [Aut.putT,hal,tz5,List.length_singleton];omega⟩ (by simp only;omega);simp only [Aut.putT,hal,tz5,List.length_singleton,k2] at ih';have hrl:=zyr hlo;unfold zlc at ih' h82 ⊢;have hset:∀ (Z:DH) (y:DObj),(X++Z).set (r s) y=X.set (r s) y++Z:=λZ y=>List.set_append_left _ _ hrl;simp [-getElem?_pos,-List.map_set,zwj,hset] at ih';simp [-getElem?_pos,-List.map_set,zwj] at h82;have hloA:=λZ=>zzc (X:=Z) hlo;have helA:∀ z:List DV,(zid D.length n r T'.acc.length++z)[s]? =some (.row (D.length+(r s+6)) 0 n n):=λz=>by rw [tzs (by rw [zwj];exact hsl)];exact hel
   have hgs:∀ (Z:DH) (y:DObj),(X.set (r s) y++Z)[r s]? =some y:=λZ y=>by rw [tzs (by rw [tz3];exact hrl),tz1 hrl]
   have hcl:cn<wr.length:=by omega
   simp [-getElem?_pos,-List.map_set,hks,hc,hel,helA,zwj,hlo,hloA,hset,hgs,ht,htn,hkw,hsl,hcl,show cn<n by omega,show s<T'.acc.length+1 by omega,h82];exact ih'
  obtain ⟨b0,hb0⟩:∃ b,T1.acc[s1]? =some b:=⟨_,tzb (by have:=(yxs hn1 (w:=w) hT hT.pos).2.2.2;rw [hW1] at this;exact this)⟩;have hsl1:=zzy hb0
  have ih':=ih (i+1,zin (T1,s1),r1,X1) ⟨by simp only;omega,yxt (r:=(T1,s1)) hT1,hTX1.end_,by
   rw [<-hM]
   simp only
   rw [List.drop_eq_getElem_cons hlt]
   rw [tzb hlt,tza] at hw
   rw [hw]
   simp only [trM,hW1],by
   have:=(yxs hn1 (w:=w) hT hT.pos).2.2.1
   rw [hW1] at this
   rw [hs1,zdz]
   simp only at this ⊢
   omega⟩ (by simp only;omega)
  simp only [zin,tz3] at ih';unfold zlc at ih' ⊢;simp [-getElem?_pos,-List.map_set,zwj] at ih';simp [-getElem?_pos,-List.map_set,v4,v9,v10,v13,v45,v49,v50,v51,zwj,hsl1,hb0,zzi (show i+1<=9223372036854775807 by omega)];exact ih'
 clear hX h0 t1 t2 t4;obtain ⟨m,hm⟩:∃ m,m=zm3 n l:=⟨_,rfl⟩;obtain ⟨m1,m2,m3,m4⟩:=yfo (l:=l) hn1 (by omega) hN;rw [<-hm] at m1 m2 m3 m4 hTX ⊢;unfold zlc;obtain ⟨Z2,hfz,_⟩:=yd9 (n:=m.acc.length) (.arr 1 [zzf n]) (.arr 4 [.agg [zzf 0,zzf 0,zyf,zyf]]) (.arr 5 [.agg [zzf n,.apl (D.length+4) m.acc.length,.apl (D.length+5) m.acc.length,zyf,zyf]]) (.arr 1 [.ref (D.length+2) 0 0]) (.app 4 1 (m.acc.map zz8)) hTX (λw hw=>by have:=(m1.rows w hw).1;omega) m1.len m.acc.length (tzp _);rw [tzk (by have:=m1.len;omega),tyy (by rw [zwj];exact tzp _),tyv] at hfz;have h61:=λbb=>yd8 m m1 m2 (D.length+2) (D.length+4) (D.length+5) zyf zyf bb (D++.arr 1 [zzf n]::.arr 4 [.agg [zzf 0,zzf 0,zyf,zyf]]::.arr 5 [.agg [zzf n,.apl (D.length+4) m.acc.length,.apl (D.length+5) m.acc.length,zyf,zyf]]::.arr 1 [.ref (D.length+2) 0 0]::.app 4 1 (m.acc.map zz8)::.app 26 1 (m.nxt.map zyq)::Z2) (by simp [-getElem?_pos,-List.map_set,m4]) (by simp [-getElem?_pos,-List.map_set]) (by simp [-getElem?_pos,-List.map_set]);obtain ⟨c,hc⟩:∃ c,c=m.canP:=⟨_,rfl⟩;rw [<-hc] at h61 ⊢;simp [-getElem?_pos,-List.map_set,zu9] at hfz h61;simp [-getElem?_pos,-List.map_set,u4,u9,u45,zwj,hfz,h61,zu9]
 done
end Go.Dv
namespace Go.Dv
open Go Go.Sim Go.Proofs Go.Fsa
attribute [local simp] zxv zxw zxk zxx
attribute [local simp] zwo zxi zzn zz0 zz1 zya zzv zz5 zzf zz8 zz6 zzt zz4
inductive EX (e c L:Nat) (X:DH):DV->List DV->Prop
 | em {r:Nat} (h:X[r]? =some (.arr 1 [])):EX e c L X (.row (L+(r+c)) 0 0 0) []
 | ap {r:Nat} {w:List DV} (hne:w≠[]) (h:X[r]? =some (.app e 1 w)):EX e c L X (.apl (L+(r+c)) w.length) w
theorem EX.app {e c L:Nat} {X:DH} {d:DV} {w:List DV} (h:EX e c L X d w) (Z:DH):EX e c L (X++Z) d w:=by
 cases h with
 | em h=>exact .em (zzc h)
 | ap hne h=>exact .ap hne (zzc h)
theorem EX.frz {e c L b k:Nat} {X H:DH} {d:DV} {α:Type} {f:α->DV} {g:α->FV} {w:List α} (hf:∀ x,f x=.f (g x)) (hg:∀ x,zud (g x)=g x) (hb:b<=L) (hH:∀ r x,X[r]? =some x->H[L+(r+c)]? =some x) (h:EX e c L X d (w.map f)):∃ is,frz b H (k+2) d=some (.lst (w.map g),is)/\∀ o∈is,L+c<=o:=by
 generalize hw:w.map f=W at h;cases h with
 | @em r hh=>
  cases w with
  | nil=>exact ⟨[L+(r+c)],by unfold Dv.frz;simp only [hH r _ hh];simp [-List.map_set,show b<=L+(r+c) by omega,zsq],λo ho=>by rw [tzw] at ho;omega⟩
  | cons=>cases hw
 | @ap r W hne hh=>
  subst hw
  have:∀ l:List α,zsq (Dv.frz b H (k+1)) (l.map f)=some (l.map g,[]):=λl=>by
   induction l with
   | nil=>rfl
   | cons x l ih=>simp only [txe,zsq,hf x,ih];simp only [Dv.frz,hg];rfl
  exact ⟨[L+(r+c)],by unfold Dv.frz;simp only [hH r _ hh];rw [if_pos ⟨by omega,by simp [-List.map_set],by omega⟩,this];rfl,λo ho=>by rw [tzw] at ho;omega⟩
theorem yz8 {c L b:Nat} {X H:DH} (hb:b<=L) (hH:∀ r x,X[r]? =some x->H[L+(r+c)]? =some x):∀ (es:List DV) (ws:List (List Int)),es.length=ws.length->(∀ (i:Nat) (d:DV) (w:List Int),es[i]? =some d->ws[i]? =some w->EX 3 c L X d (w.map zzf))->∃ is,zsq (frz b H 3) es=some (ws.map zx2,is)/\∀ o∈is,L+c<=o
 | [],[],_,_=>⟨[],rfl,λo h=>by cases h⟩
 | [],_::_,h,_=>by simp [-List.map_set] at h
 | _::_,[],h,_=>by simp [-List.map_set] at h
 | d::es,w::ws,hl,h=>by
  obtain ⟨is,e,he⟩:=yz8 hb hH es ws (by simpa [-List.map_set] using hl) λi d w h1 h2=>h (i+1) d w (by simpa [-List.map_set] using h1) (by simpa [-List.map_set] using h2);obtain ⟨js,e2,hj⟩:=(h 0 d w rfl rfl).frz (g:=zf4) (k:=1) (λ_=>rfl) (λ_=>rfl) hb hH
  exact ⟨js++is,by simp only [zsq,e2,e];rfl,λo ho=>by
   rcases tyh.1 ho with h | h
   .exact hj o h
   .exact he o h⟩
def yem (D:DH) (a:Aut) (acO:DObj) (acV:DV) (es:List DV) (X:DH):DH:=D++.arr 4 [zzn a]::.arr 4 [.agg [zzf 0,zzf 0,zyf,zyf]]::acO::.arr 4 [.agg [zzf a.sy,zzf a.st,acV,.apl (D.length+4) es.length]]::.app 26 1 es::X
def FrA (a:Aut) (L:Nat) (acO:DObj) (acV:DV):Prop:=zwz acV=true/\zva acV=acV/\∀ H:DH,H[L+2]? =some acO->∃ is,zmz L H acV=some (.f (.lst (a.acc.map zxi)),is)
theorem FrA.of {a:Aut} {L:Nat} {acO:DObj} {acV:DV} (h:EX 4 2 L [acO] acV (a.acc.map zz8)) (h1:zwz acV=true) (h2:zva acV=acV):FrA a L acO acV:=⟨h1,h2,λH hH=>by
 obtain ⟨is,e,_⟩:=h.frz (g:=zxi) (b:=L) (k:=2) (H:=H) (λ_=>rfl) (λ_=>rfl) (tzp _) λr x hx=>by
  cases r with
  | zero=>cases hx;exact hH
  | succ r=>simp [-List.map_set] at hx
 exact ⟨is,by unfold zmz;rw [e];rfl⟩⟩
theorem w56 (a:Aut) (ha:a.acc.length<=1000) (hn:a.nxt.length<=1000) (hr:∀ r∈a.nxt,r.length<=1000) (base:Nat) (D:DH):zzg Q 56 [zzn a] base D=some (zzn a,D):=by
 rw [zzb (fn:=Tryz.f56) (show Q.P.funcs[56]? =some Tryz.f56 from Tryz.func56) rfl xw4 rfl (by simp only [tzd,tze];decide) (by kernel_rfl)];have gp:=xm7;simp [xw4,Tryz.f56,zym] at gp;by_cases h0:a.acc=[]
 case' pos=>
  have hP:FrA a D.length (.arr 1 []) (.row (D.length+2) 0 0 0):=.of (by rw [h0];exact .em (r:=0) rfl) rfl rfl;simp [-getElem?_pos,-List.map_set,gp,h0];rw [show FV.lst []=.lst (a.acc.map zxi) by rw [h0];rfl];clear h0
 case' neg=>
  have hP:FrA a D.length (.app 4 1 (a.acc.map zz8)) (.apl (D.length+2) a.acc.length):=.of (by
   have:=EX.ap (e:=4) (c:=2) (L:=D.length) (X:=[.app 4 1 (a.acc.map zz8)]) (r:=0) (w:=a.acc.map zz8) (by simpa [-getElem?_pos,-List.map_set] using h0) rfl
   simpa [-getElem?_pos,-List.map_set] using this) rfl rfl
  simp [-getElem?_pos,-List.map_set,gp,h0,show a.acc.length*8<=1099511627776/\a.acc.length<=1099511627776 by omega];clear h0
 all_goals
  generalize hX:zxj _ _ _=X
  obtain ⟨tm,es,X',acO,acV,rfl,⟨hP1,hP2,hP⟩,he,hes,t2,t3⟩:∃ (tm:Trie DV) (es:List DV) (X':DH) (acO:DObj) (acV:DV),X=some (.exit 0,⟨tm,yem D a acO acV es X'⟩)/\FrA a D.length acO acV/\es.length=a.nxt.length/\(∀ (i:Nat) (d:DV) (w:List Int),es[i]? =some d->a.nxt[i]? =some w->EX 3 5 D.length X' d (w.map zzf))/\tm.get 2=some (.ref (D.length+1) 0 0)/\tm.get 3=some (.ref (D.length+3) 0 0):=by
   rw [<-hX]
   clear hX
   generalize hs53:SD.mk _ _=sd53
   revert sd53
   refine wl (λp:Nat×List DV×DH=>⟨(((Trie.leaf.put 4 (zze p.1)).put 3 (DV.ref (D.length+3) 0 0)).put 2 (DV.ref (D.length+1) 0 0)).put 1 (DV.ref D.length 0 0),yem D a _ _ p.2.1 p.2.2⟩)
    (λp=>p.1<=a.nxt.length/\p.2.1.length=p.1/\∀ (i:Nat) (d:DV) (w:List Int),p.2.1[i]? =some d->a.nxt[i]? =some w->EX 3 5 D.length p.2.2 d (w.map zzf)) (λp=>a.nxt.length-p.1) ?_ (0,[],[]) ⟨tz6 _,rfl,λi d w h=>by simp [-getElem?_pos,-List.map_set] at h⟩
   rintro ⟨i,es,X⟩ ⟨hi,hel,hes⟩ ih
   simp only at hi hel hes ih
   rw [zzj]
   unfold yem at ih ⊢
   by_cases hlt:i<a.nxt.length
   case neg=>
    simp [-getElem?_pos,-List.map_set,gp,hlt]
    exact ⟨_,es,X,_,_,⟨rfl,rfl,⟨rfl,rfl⟩,rfl,rfl⟩,hP,by omega,hes,by simp [-getElem?_pos,-List.map_set]⟩
   obtain ⟨w,hw⟩:∃ w,a.nxt[i]? =some w:=⟨_,tzb hlt⟩
   have hwl:=hr w (tzg hw)
   have hpush:∀ (d:DV) (Z:DH),EX 3 5 D.length (X++Z) d (w.map zzf)->∀ (j:Nat) (d':DV) (w':List Int),(es++[d])[j]? =some d'->a.nxt[j]? =some w'->EX 3 5 D.length (X++Z) d' (w'.map zzf):=λd Z hd j d' w' h1 h2=>by
    rcases tz9 j es.length with g | g
    .rw [tzs g] at h1
     exact (hes j d' w' h1 h2).app Z
    .rw [tzv g] at h1
     have e:j-es.length=0:=by have:=zzy h1;simp [-getElem?_pos,-List.map_set] at this;omega
     rw [e] at h1
     rw [show j=i by omega,hw] at h2
     cases h1;cases h2
     exact hd
   by_cases w0:w=[]
   .subst w0
    have ih':=ih (i+1,es++[.row (D.length+(X.length+5)) 0 0 0],X++[.arr 1 [],.arr 1 [.row (D.length+(X.length+5)) 0 0 0]]) ⟨by simp only;omega,by simp [-getElem?_pos,-List.map_set,hel],hpush _ _ (.em (by simp [-getElem?_pos,-List.map_set]))⟩ (by simp only;omega)
    simp [-getElem?_pos,-List.map_set] at ih'
    simp [-getElem?_pos,-List.map_set,gp,hlt,hw,hel,zzi (show i+1<=9223372036854775807 by omega),show (i+1)*24<=1099511627776 by omega,show i<=1099511627775 by omega]
    simp only [hel] at ih'
    exact ih'
   .have ih':=ih (i+1,es++[.apl (D.length+(X.length+5)) w.length],X++[.app 3 1 (w.map zzf),.arr 1 [.apl (D.length+(X.length+5)) w.length]]) ⟨by simp only;omega,by simp [-getElem?_pos,-List.map_set,hel],hpush _ _ (by
     have:=EX.ap (e:=3) (c:=5) (L:=D.length) (X:=X++[.app 3 1 (w.map zzf),.arr 1 [.apl (D.length+(X.length+5)) w.length]]) (r:=X.length) (w:=w.map zzf) (by simpa [-getElem?_pos,-List.map_set] using w0) (by simp [-getElem?_pos,-List.map_set])
     simpa [-getElem?_pos,-List.map_set] using this)⟩ (by simp only;omega)
    simp [-getElem?_pos,-List.map_set] at ih'
    simp [-getElem?_pos,-List.map_set,gp,hlt,hw,hel,w0,zzi (show i+1<=9223372036854775807 by omega),show (i+1)*24<=1099511627776 by omega,show i<=1099511627775 by omega,show w.length*8<=1099511627776/\w.length<=1099511627776 by omega]
    simp only [hel] at ih'
    exact ih'
  clear hX
  have hH:∀ z:List DV,∀ r x,X'[r]? =some x->(D++.arr 4 [zzn a]::.arr 4 z::acO::.arr 4 [.agg [zzf a.sy,zzf a.st,acV,.apl (D.length+4) es.length]]::.app 26 1 es::X')[D.length+(r+5)]? =some x:=λz r x hx=>by simp [-getElem?_pos,-List.map_set,hx]
  have hF:=λz=>yz8 (b:=D.length) (tzp _) (hH z) es a.nxt he hes
  have hG:=λz=>hP (D++.arr 4 [zzn a]::.arr 4 z::acO::.arr 4 [.agg [zzf a.sy,zzf a.st,acV,.apl (D.length+4) es.length]]::.app 26 1 es::X') (by simp [-getElem?_pos,-List.map_set])
  obtain ⟨is,hF,_⟩:=hF [.agg [zzf a.sy,zzf a.st,acV,.apl (D.length+4) es.length]]
  obtain ⟨js,hG⟩:=hG [.agg [zzf a.sy,zzf a.st,acV,.apl (D.length+4) es.length]]
  unfold yem
  simp [-getElem?_pos,-List.map_set] at hF hG
  simp [-getElem?_pos,-List.map_set,gp,t2,t3,hP1,hP2,hF,hG]
  done
end Go.Dv
namespace Go.Dv
open Go Go.Sim Go.Proofs Go.Fsa
attribute [local simp] zwo zxi zzn zz0 zz1 zya zzv zz5 zzf zz8 zz6 zzt zz4 zzq
theorem xkw (base:Nat) (D:DH):zzg Q 76 [.em] base D=some (zyq [],D):=by
 rw [zzb (fn:=Tryz.f76) (show Q.P.funcs[76]? =some Tryz.f76 from Tryz.func76) rfl ycl rfl (by simp only [tzd,tze];decide) (by kernel_rfl)];simp [-List.map_set]
theorem ylw {l:List Int}:(l.map zzf).all (zrn 1)=true:=by
 rw [List.all_map,tzx];intro x _;rfl
theorem xkx (l:List Int) (hl:l.length<1000) (hne:l≠[]) (o ver ctr:Nat) (L:List (Nat×List DV)) (base:Nat) (D:DH) (hD:D[o]? =some (.chn 3 1 ctr L)) (hL:zo2 (zpr ver L)=some (l.map zzf)):zzg Q 76 [.lv o ver l.length] base D=some (zyq l,D):=by
 have ga:=λX=>zzc (X:=X) hD;have hN:=λn=>xym (v:=ver) (n:=n) (e:=3) (sz:=1) (ctr:=ctr) hL;have hp:=List.length_pos_iff.2 hne;have hk:=ylw (l:=l);rw [zzb (fn:=Tryz.f76) (show Q.P.funcs[76]? =some Tryz.f76 from Tryz.func76) rfl ycl rfl (by simp only [tzd,tze];decide) (by kernel_rfl)];simp [-List.map_set,ga,hN,hk,show l.length*8<=1099511627776/\l.length<=1099511627776 by omega,show ¬l.length=0 by omega,hne]
def zu8 (l:List Bool):DV:=.f (.lst (l.map zxi))
def yke (D:DH) (v:DV) (oc:Nat) (els:List (List Bool)):Prop:=(v=.row oc 0 1 1/\els.length=1/\D[oc]? =some (.arr 1 (els.map zu8)))∨(v=.apl oc els.length/\D[oc]? =some (.app 22 1 (els.map zu8)))
theorem yke.ix {D:DH} {v:DV} {oc:Nat} {els:List (List Bool)} {k:Nat} {r:List Bool} (h:yke D v oc els) (hk:els[k]? =some r):∃ p,(∀ (T:SlT) A,T.sz=1->zyt D (some T) A k v=some p)/\zve D none p=some (zu8 r):=by
 have hkl:=zyr hk;rcases h with ⟨rfl,h1,h2⟩ | ⟨rfl,h2⟩
 .refine ⟨.ref oc (0+k) 0,λT A hT=>?_,?_⟩
  .simp [-List.map_set,zyt,h2,hT];omega
  simp [-List.map_set,zve,h2,ysn,hk,zsi,zu8,zzd]
 refine ⟨.rfa oc els.length k 0,λT A hT=>?_,?_⟩
 .simp [-List.map_set,zyt,h2,hT,hkl]
 simp [-List.map_set,zve,h2,ysn,hk,zsi,zu8,zzd]
theorem w74 (x:Int) (m:Nat) (hm:m<1000) (els:List (List Bool)) (r:List Bool) (hr:els[m]? =some r) (hx:x<(r.length:Nat)) (oc cC cS:Nat) (cv:DV) (D:DH) (hC:D[cC]? =some (.arr 1 [cv])) (hcv:yke D cv oc els) (hS:D[cS]? =some (.arr 1 [zze ((m+1:Nat):Int)])) (hone:zwz cv=true/\zzd cv=[cv]) (base:Nat) :
  zzg Q 74 [zze x,.ref cC 0 0,.ref cS 0 0] base D=some (zzr (decide (0<=x)&&(r[x.toNat]?).getD false),D):=by
 obtain ⟨p,h1,h2⟩:=hcv.ix hr;rw [zzb (fn:=Tryz.f74) (show Q.P.funcs[74]? =some Tryz.f74 from Tryz.func74) rfl xqx rfl (by simp only [tzd,tze];decide) (by kernel_rfl)];by_cases h0:0<=x
 case neg=>simp [-List.map_set,h0]
 obtain ⟨n,rfl⟩:∃ n:Nat,x=n:=⟨x.toNat,by omega⟩;obtain ⟨b,hb⟩:=zw1 (l:=r) (i:=n) (by omega);simp [-List.map_set,hC,hS,hone.2,h1,h2,zu8,hb,zy9 (show -9223372036854775808<=(m:Int) by omega) (show (m:Int)<=9223372036854775807 by omega)]
end Go.Dv
namespace Go.Dv
open Go Go.Sim Go.Proofs Go.Fsa
theorem zcz {v:Nat} {K:List (Nat×List DV)}:∀ {J:List (Nat×List DV)},(∀ x∈J,x.1≠v)->zpr v (J++K)=zpr v K
 | [],_=>rfl
 | (w,e)::l,h=>by
  have:=h (w,e) (by simp [-List.map_set]);show zpr v ((w,e)::(l++K))=_;simp only [zpr,if_neg this];exact zcz λx hx=>h x (tzq _ hx)
def yen (b cs cv:Nat):DV:=.fn 75 [] [.ref cs 0 0,.ref (b+3) 0 0,.ref (b+1) 0 0,.ref (b+5) 0 0,.ref b 0 0,.ref cv 0 0]
def yst (D:DH) (b:Nat) (v:DV) (acc:List (List Int)):Prop:=(v=.row (b+2) 0 0 0/\acc=[]/\D[b+2]? =some (.arr 1 []))∨(v=.apl (b+2) acc.length/\D[b+2]? =some (.app 26 1 (acc.map zyq)))
structure VH (a:Aut) (b L cs cv size n:Nat) (canV:DV) (els:List (List Bool)) (acc:List (List Int)) (D:DH):Prop where
 hL:L<=D.length
 ib:b+5<L
 ics:b+5<cs/\cs<L
 icv:b+5<cv/\cv<L
 A:D[b]? =some (.arr 4 [zzn a])
 N:D[b+1]? =some (.arr 1 [zze n])
 O:∃ ov,D[b+3]? =some (.arr 1 [ov])/\yst D b ov acc
 C:D[b+5]? =some (.arr 1 [canV])
 can:yke D canV (b+4) els
 S:D[cs]? =some (.arr 1 [zze size])
 V:D[cv]? =some (.arr 1 [yen b cs cv])
 bel:∀ i x,b<=i->i<L->D[i]? =some x->zza L x=true
variable {a:Aut} {b L cs cv size n:Nat} {canV:DV} {els:List (List Bool)} {acc:List (List Int)} {D:DH}
theorem VH.same (h:VH a b L cs cv size n canV els acc D) {D':DH} {o:Nat} {acc':List (List Int)} (hL:L<=D'.length) (ho:b+5<o/\o≠cs/\o≠cv) (hf:∀ i,i<L->i≠b+2->i≠b+3->i≠o->D'[i]? =D[i]?)
  (hO:∃ ov,D'[b+3]? =some (.arr 1 [ov])/\yst D' b ov acc') (hbo:∀ x,o<L->D'[o]? =some x->zza L x=true):VH a b L cs cv size n canV els acc' D' where
 hL:=hL
 ib:=h.ib
 ics:=h.ics
 icv:=h.icv
 A:=by rw [hf b (by have:=h.ib;omega) (by omega) (by omega) (by omega)];exact h.A
 N:=by rw [hf (b+1) (by have:=h.ib;omega) (by omega) (by omega) (by omega)];exact h.N
 O:=hO
 C:=by rw [hf (b+5) (by have:=h.ib;omega) (by omega) (by omega) (by omega)];exact h.C
 can:=by
  have e:D'[b+4]? =D[b+4]?:=hf (b+4) (by have:=h.ib;omega) (by omega) (by omega) (by omega)
  have:=h.can
  unfold yke at this ⊢
  rw [e];exact this
 S:=by rw [hf cs (by have:=h.ics;omega) (by have:=h.ics;omega) (by have:=h.ics;omega) (by omega)];exact h.S
 V:=by rw [hf cv (by have:=h.icv;omega) (by have:=h.icv;omega) (by have:=h.icv;omega) (by omega)];exact h.V
 bel:=λi x hb hi hx=>by
  by_cases e:i=o
  .subst e;exact hbo x hi hx
  .by_cases e2:i=b+2
   .obtain ⟨ov,h1,h2⟩:=hO
    subst e2
    rcases h2 with ⟨_,_,h2⟩ | ⟨_,h2⟩<;>(rw [h2] at hx;cases hx)
    .rfl
    .simp [-List.map_set,zza,zyq,below,tzx]
   .by_cases e3:i=b+3
    .obtain ⟨ov,h1,h2⟩:=hO
     subst e3
     rw [h1] at hx
     cases hx
     have:=h.ib
     rcases h2 with ⟨rfl,_,h2⟩ | ⟨rfl,h2⟩<;>(simp [-List.map_set,zza,below];omega)
    .rw [hf i hi e2 e3 e] at hx
     exact h.bel i x hb hi hx
theorem VH.up (h:VH a b L cs cv size n canV els acc D) (hb:∀ i x,L<=i->D[i]? =some x->zza D.length x=true):VH a b D.length cs cv size n canV els acc D:=
 ⟨tzp _,by have:=h.hL;have:=h.ib;omega,by have:=h.hL;have:=h.ics;omega,by have:=h.hL;have:=h.icv;omega,h.A,h.N,h.O,h.C,h.can,h.S,h.V,λi x h1 h2 hx=>by
  rcases tz9 i L with g | g
  .exact zyo h.hL x (h.bel i x h1 g hx)
  .exact hb i x g hx⟩
theorem VH.app (h:VH a b L cs cv size n canV els acc D) (X:DH):VH a b L cs cv size n canV els acc (D++X):=by
 have e:∀ i,i<L->(D++X)[i]? =D[i]?:=λi hi=>tzs (by have:=h.hL;omega);have hib:=h.ib
 exact ⟨by have:=h.hL;simp [-List.map_set];omega,h.ib,h.ics,h.icv,by rw [e _ (by omega)];exact h.A,by rw [e _ (by omega)];exact h.N,by
  obtain ⟨ov,h1,h2⟩:=h.O
  refine ⟨ov,by rw [e _ (by omega)];exact h1,?_⟩
  unfold yst at h2 ⊢
  rw [e _ (by omega)];exact h2,by rw [e _ (by omega)];exact h.C,by
  have:=h.can
  unfold yke at this ⊢
  rw [e _ (by omega)];exact this,by rw [e _ h.ics.2];exact h.S,by rw [e _ h.icv.2];exact h.V,λi x h1 h2 hx=>by rw [e i h2] at hx;exact h.bel i x h1 h2 hx⟩
theorem VH.take (h:VH a b L cs cv size n canV els acc D):VH a b L cs cv size n canV els acc (D.take L):=by
 have e:∀ i,i<L->(D.take L)[i]? =D[i]?:=λi hi=>by rw [tyb,if_pos hi]
 have hib:=h.ib
 exact ⟨by have:=h.hL;simp [-List.map_set];omega,h.ib,h.ics,h.icv,by rw [e _ (by omega)];exact h.A,by rw [e _ (by omega)];exact h.N,by
  obtain ⟨ov,h1,h2⟩:=h.O
  refine ⟨ov,by rw [e _ (by omega)];exact h1,?_⟩
  unfold yst at h2 ⊢
  rw [e _ (by omega)];exact h2,by rw [e _ (by omega)];exact h.C,by
  have:=h.can
  unfold yke at this ⊢
  rw [e _ (by omega)];exact this,by rw [e _ h.ics.2];exact h.S,by rw [e _ h.icv.2];exact h.V,λi x h1 h2 hx=>by rw [e i h2] at hx;exact h.bel i x h1 h2 hx⟩
theorem VH.objs (h:VH a b L cs cv size n canV els acc D):zyg b L D=true:=by
 unfold zyg;rw [tzx];intro x hx;obtain ⟨i,hi⟩:=List.getElem?_of_mem hx;rw [tyb] at hi;split at hi
 .rw [tyj] at hi;exact h.bel (b+i) x (by omega) (by omega) hi
 .cases hi
def xmm (w:DV) (i:Nat):Prop:=match w with
 | .lv o _ _=>i=o
 | .row o _ _ _=>i=o
 | _=>False
def FrP (b:Nat) (D D':DH) (w:DV):Prop:=∀ i,i<D.length->i≠b+2->i≠b+3->¬xmm w i->D'[i]? =D[i]?
def ChP (D D':DH) (w:DV) (k:Nat):Prop:=match w with
 | .lv o ver _=>∀ ctr Lv,D[o]? =some (.chn 3 1 ctr Lv)->∃ ctr' J,D'[o]? =some (.chn 3 1 ctr' (J++zpr ver Lv))/\ctr<=ctr'/\(∀ x∈J,ctr<=x.1/\∃ l:List Int,x.2=l.map zzf)/\J.length<=k
 | _=>True
inductive WR (b cs cv size:Nat) (D:DH):DV->List Int->Prop
 | row {o:Nat} (h1:b+5<o/\o≠cs/\o≠cv) (h2:D[o]? =some (.arr 1 [])):WR b cs cv size D (.row o 0 0 0) []
 | lv {o ver ctr:Nat} {Lv:List (Nat×List DV)} {wl:List Int} (hne:wl≠[]) (h1:b+5<o/\o≠cs/\o≠cv) (h2:D[o]? =some (.chn 3 1 ctr Lv)) (hc:zpr ver Lv=Lv) (h3:zo2 (zpr ver Lv)=some (wl.map zzf)) (h4:ver<ctr) (h5:(zpr ver Lv).length=wl.length) (h6:∀ x∈Lv,∃ l:List Int,x.2=l.map zzf) (h7:Lv.length<=size):WR b cs cv size D (.lv o ver wl.length) wl
theorem ylx {L e sz ctr:Nat} {l:List (Nat×List DV)} (h:∀ x∈l,∃ q:List Int,x.2=q.map zzf):zza L (.chn e sz ctr l)=true:=by
 rw [ydr,tzx];intro x hx;obtain ⟨q,hq⟩:=h x hx;rw [hq,tzx];intro d hd;obtain ⟨z,_,rfl⟩:=tyg.1 hd;simp [-List.map_set,zzf,below]
def ykf (b:Nat) (acc:List (List Int)) (w:List Int) (D:DH):DH:=(D.set (b+2) (.app 26 1 ((acc++[w]).map zyq))).set (b+3) (.arr 1 [.apl (b+2) (acc.length+1)])
theorem zlx {w:List Int} {i:Nat} (h2:i≠b+2) (h3:i≠b+3):(ykf b acc w D)[i]? =D[i]?:=by
 unfold ykf;rw [tz4 (Ne.symm h3),tz4 (Ne.symm h2)]
theorem yeo {w:List Int}:(ykf b acc w D).length=D.length:=by simp [-List.map_set,ykf]
theorem VH.add (h:VH a b L cs cv size n canV els acc D) (w:List Int):VH a b L cs cv size n canV els (acc++[w]) (ykf b acc w D):=by
 have hib:=h.ib;have hL:=h.hL;refine h.same (o:=L) (by rw [yeo];exact hL) ⟨by omega,by have:=h.ics;omega,by have:=h.icv;omega⟩ (λi _ h2 h3 _=>zlx h2 h3) ⟨.apl (b+2) (acc.length+1),?_,.inr ⟨by simp [-List.map_set],?_⟩⟩ (λx hx=>absurd hx (tyr _))
 .unfold ykf;rw [tz1 (by simp [-List.map_set];omega)]
 .unfold ykf;rw [tz4 (by omega),tz1 (by omega)]
theorem VH.round (h:VH a b L cs cv size n canV els acc D) {D3:DH} {L' o:Nat} {acc':List (List Int)} (h3:VH a b L' cs cv size n canV els acc' D3) (hLL:L<=L') (ho:b+5<o/\o≠cs/\o≠cv) (hf:∀ i,i<L->i≠b+2->i≠b+3->i≠o->D3[i]? =D[i]?)
  (hbo:∀ x,o<L->D3[o]? =some x->zza L x=true):VH a b L cs cv size n canV els acc' (D3.take L):=by
 have e:∀ i,i<L->(D3.take L)[i]? =D3[i]?:=λi hi=>by rw [tyb,if_pos hi]
 have hib:=h.ib;have:=h3.hL;refine h.same (o:=o) (by simp [-List.map_set];omega) ho (λi hi a1 a2 a3=>by rw [e i hi];exact hf i hi a1 a2 a3) ?_ (λx hx=>by rw [e o hx];exact hbo x hx);obtain ⟨ov,g1,g2⟩:=h3.O;refine ⟨ov,by rw [e _ (by omega)];exact g1,?_⟩;unfold yst at g2 ⊢;rw [e _ (by omega)];exact g2
theorem VH.objsT (h:VH a b L cs cv size n canV els acc (D.take L)):zyg b L D=true:=by
 have:=h.objs;unfold zyg at this ⊢;rw [List.drop_take,List.take_take,Nat.min_self] at this;exact this
theorem VH.more (h:VH a b L cs cv size n canV els acc D) (hl:D.length=L) {X:DH} (hX:∀ x∈X,zza (D++X).length x=true):VH a b (D++X).length cs cv size n canV els acc (D++X):=
 (h.app X).up λi x hi hx=>by
 rw [tzv (by omega)] at hx;exact hX x (tzg hx)
theorem zh7 {D:DH} {o i k sz:Nat} {els:List DV} (h:D[o]? =some (.arr sz els)):zn6 D (.ref o i k)=true:=by
 show zut D (.ref o i k)=true;simp only [zut,h]
theorem VH.eqF (h:VH a b L cs cv size n canV els acc D):eqD D (.fn 75 [] [.ref cs 0 0,.ref (b+3) 0 0,.ref (b+1) 0 0,.ref (b+5) 0 0,.ref b 0 0,.ref cv 0 0])=true:=by
 obtain ⟨ov,h3,_⟩:=h.O;show (([]:List DV).all (zn6 D)&&[DV.ref cs 0 0,.ref (b+3) 0 0,.ref (b+1) 0 0,.ref (b+5) 0 0,.ref b 0 0,.ref cv 0 0].all (zn6 D))=true;simp [-List.map_set,zh7 h.S,zh7 h3,zh7 h.N,zh7 h.C,zh7 h.A,zh7 h.V]
def GB (D D':DH):Prop:=∀ i x,D.length<=i->D'[i]? =some x->zza D'.length x=true
theorem GB.of {D D':DH} (h:D'.length=D.length):GB D D':=λi x hi hx=>by
 rw [tzt (by omega)] at hx;cases hx
end Go.Dv
namespace Go.Dv
open Go Go.Sim Go.Proofs Go.Fsa
attribute [local simp] zwo zxi zzn zz0 zz1 zya zzv zz5 zzf zz8 zz6 zzt zz4 zzq
inductive WQ (b cs cv size:Nat) (D:DH):DV->List Int->Prop
 | em:WQ b cs cv size D .em []
 | lv {w:DV} {ww:List Int} {o v n:Nat} (hw:w=.lv o v n) (h:WR b cs cv size D w ww):WQ b cs cv size D w ww
theorem WQ.len {b cs cv size:Nat} {D:DH} {w:DV} {ww:List Int} (h:WQ b cs cv size D w ww):zqf D w=some ww.length:=by
 cases h with
 | em=>rfl
 | lv hw h=>cases h with
  | row=>cases hw
  | lv=>rfl
theorem WQ.one {b cs cv size:Nat} {D:DH} {w:DV} {ww:List Int} (h:WQ b cs cv size D w ww):zzd w=[w]:=by
 cases h with
 | em=>rfl
 | lv hw h=>subst hw;rfl
theorem WQ.clone {b cs cv size:Nat} {D:DH} {w:DV} {ww:List Int} (h:WQ b cs cv size D w ww) (hl:ww.length<1000) (bb:Nat):zzg Q 76 [w] bb D=some (zyq ww,D):=by
 cases h with
 | em=>exact xkw bb D
 | lv hw h=>cases h with
  | row=>cases hw
  | lv hne h1 h2 hc h3=>exact xkx _ hl hne _ _ _ _ bb D h2 h3
theorem WQ.refl {b cs cv size k:Nat} {D:DH} {w:DV} {ww:List Int} (h:WQ b cs cv size D w ww):ChP D D w k:=by
 cases h with
 | em=>exact trivial
 | lv hw h=>cases h with
  | row=>cases hw
  | lv hne h1 h2 hc h3=>
   intro ctr' Lv' hD;rw [h2] at hD;cases hD;exact ⟨_,[],by rw [hc];exact h2,tzp _,(λx hx=>absurd hx txt),tz6 _⟩
theorem WQ.same {b cs cv size k:Nat} {D D':DH} {w:DV} {ww:List Int} (h:WQ b cs cv size D w ww) (hs:∀ o v n,w=.lv o v n->D'[o]? =D[o]?):ChP D D' w k:=by
 cases h with
 | em=>exact trivial
 | lv hw h=>cases h with
  | row=>cases hw
  | lv hne h1 h2 hc h3=>
   intro ctr' Lv' hD;rw [h2] at hD;cases hD;exact ⟨_,[],by rw [hc,hs _ _ _ rfl];exact h2,tzp _,(λx hx=>absurd hx txt),tz6 _⟩
theorem FrP.refl {b:Nat} {D:DH} {w:DV}:FrP b D D w:=λ_ _ _ _ _=>rfl
theorem WR.emp {a:Aut} {b cs cv size n:Nat} {canV:DV} {els:List (List Bool)} {acc:List (List Int)} {D:DH} {w:DV} {ww:List Int} (hV:VH a b D.length cs cv size n canV els acc D) (h:WR b cs cv size D w ww) (x0 x2 x3 x4 x5 x6 x7:DV) :
  ∃ T D1 w1,zxh b ⟨((((((((Trie.leaf.put 0 x0).put 1 w).put 2 x2).put 3 x3).put 4 x4).put 5 x5).put 6 x6).put 7 x7),D⟩ (.emp 1)=some ⟨T,D1⟩/\D1.length=D.length/\T.get 0=some x0/\T.get 1=some w1/\T.get 2=some x2/\T.get 3=some x3/\T.get 4=some x4/\T.get 5=some x5/\T.get 6=some x6/\T.get 7=some x7 /\
   VH a b D.length cs cv size n canV els acc D1/\WQ b cs cv size D1 w1 ww/\(∀ i,¬xmm w i->D1[i]? =D[i]?)/\(∀ k D',ChP D1 D' w1 k->ChP D D' w k)/\(∀ D',FrP b D1 D' w1->FrP b D D' w):=by
 cases h with
 | @row o h1 h2=>
  have hol:=zyr h2;have hs:∀ i,i≠o->(D.set o .dead)[i]? =D[i]?:=λi hi=>tz4 (Ne.symm hi);refine ⟨((((((((Trie.leaf.put 0 x0).put 1 (.row o 0 0 0)).put 2 x2).put 3 x3).put 4 x4).put 5 x5).put 6 x6).put 7 x7).put 1 .em,D.set o .dead,.em,by simp [-List.map_set,h2,show b<=o by omega],by simp [-List.map_set],by simp [-List.map_set],by simp [-List.map_set],by simp [-List.map_set],by simp [-List.map_set],by simp [-List.map_set],by simp [-List.map_set],by simp [-List.map_set],by simp [-List.map_set],?_,.em,λi hi=>hs i (λe=>hi e),λ_ _ _=>trivial,λD' hf i hi e2 e3 he=>?_⟩
  .refine hV.same (o:=o) (by simp [-List.map_set]) h1 (λi _ _ _ hi=>hs i hi) ?_ (λx _ hx=>by simp [-List.map_set,hol] at hx;subst hx;rfl);obtain ⟨ov,g1,g2⟩:=hV.O;refine ⟨ov,by rw [hs _ (by omega)];exact g1,?_⟩;unfold yst at g2 ⊢;rw [hs _ (by omega)];exact g2
  .rw [hf i (by simpa [-List.map_set] using hi) e2 e3 (λh=>h),hs i (λe=>he e)]
 | @lv o ver ctr Lv ww hne h1 h2 hc h3 h4 h5 h6 h7=>
  exact ⟨(((((((Trie.leaf.put 0 x0).put 1 (.lv o ver ww.length)).put 2 x2).put 3 x3).put 4 x4).put 5 x5).put 6 x6).put 7 x7,D,.lv o ver ww.length,by simp [-List.map_set],rfl,by simp [-List.map_set],by simp [-List.map_set],by simp [-List.map_set],by simp [-List.map_set],by simp [-List.map_set],by simp [-List.map_set],by simp [-List.map_set],by simp [-List.map_set],hV,.lv rfl (.lv hne h1 h2 hc h3 h4 h5 h6 h7),λ_ _=>rfl,λ_ _ h=>h,λ_ h=>h⟩
theorem w75 {a:Aut} (hv:a.valid) {b cs cv size n:Nat} {canV:DV} {els:List (List Bool)} (hsz:size<=60) (hn:n<=300)
  (hels:∀ k,k<=size->∃ r,els[k]? =some r/\r.length=a.acc.length/\∀ s:Nat,s<a.acc.length->r[s]? =some (a.fulW k s)) (hone:zzd canV=[canV]) :
  ∀ (k s:Nat) (ww:List Int) (w:DV) (acc:List (List Int)) (D:DH),s<a.acc.length->ww.length+k=size->acc.length<=n->VH a b D.length cs cv size n canV els acc D->WR b cs cv size D w ww ->
   ∃ D',zzg Q 75 [zze s,w,.ref cs 0 0,.ref (b+3) 0 0,.ref (b+1) 0 0,.ref (b+5) 0 0,.ref b 0 0,.ref cv 0 0] b D=some (.tup [],D')/\VH a b D.length cs cv size n canV els (zq4 n acc ww (a.wds k s)) D'/\ChP D D' w k/\FrP b D D' w/\GB D D':=by
 intro k
 induction k with
 | zero=>
  intro s ww w acc D hs hwk hacc hV hW;obtain ⟨T,D1,w1,hgh,hD1,t0,t1,t2,t3,t4,t5,t6,t7,hV1,hW1,hfr,hch,hfp⟩:=hW.emp hV (.f (.raw (.int .i64 ((s:Nat):Int)))) (.ref cs 0 0) (.ref (b+3) 0 0) (.ref (b+1) 0 0) (.ref (b+5) 0 0) (.ref b 0 0) (.ref cv 0 0);obtain ⟨r,hr,hrl,hrs⟩:=hels 0 (tz6 _);obtain ⟨p,hp1,hp2⟩:=hV1.can.ix hr;have hrs:=hrs s hs;obtain ⟨ov,hO1,hO2⟩:=hV1.O;have hov:zqf D1 ov=some acc.length/\zzd ov=[ov]:=(by rcases hO2 with ⟨rfl,rfl,h⟩ | ⟨rfl,h⟩<;>simp [-getElem?_pos,-List.map_set,zqf,h,zzd]);have hS:=hV1.S;have hN:=hV1.N;have hC:=hV1.C;have hA:=hV1.A;have hwk':size=ww.length:=by omega
  have hwl:=hW1.len;have hwr:zvu .i64 ((size:Int)-(ww.length:Int))=((0:Nat):Int):=by rw [zy9 (by omega) (by omega)];omega
  simp only [zze] at hS hN;rw [zz2 (fn:=Tryz.f75) (show Q.P.funcs[75]? =some Tryz.f75 from Tryz.func75) rfl yw8 rfl (by simp only [tzd,tze];decide) (by kernel_rfl)];have gp:=xn2;simp [yw8,Tryz.f75,zym] at gp;by_cases hfull:n<=acc.length
  .refine ⟨D1,?_⟩;rw [zk8 hfull];simp [-getElem?_pos,-List.map_set,gp,-ze5,hgh,t0,t1,t2,t3,t4,t5,t6,t7,hS,hN,hC,hO1,hov.1,hov.2,hwl,hwr,hp1,hp2,hone,zu8,hrs,hfull];exact ⟨rfl,hV1,hch _ _ hW1.refl,hfp _ .refl,.of hD1⟩
  cases hac:a.fulW 0 s with
  | false=>
   rw [hac] at hrs;have:a.wds 0 s=[]:=by simpa [-getElem?_pos,-List.map_set,Aut.fulW] using hac
   rw [this,zls];refine ⟨D1,?_⟩;simp [-getElem?_pos,-List.map_set,gp,-ze5,hgh,t0,t1,t2,t3,t4,t5,t6,t7,hS,hN,hC,hO1,hov.1,hov.2,hwl,hwr,hp1,hp2,hone,zu8,hrs,hfull];exact ⟨rfl,hV1,hch _ _ hW1.refl,hfp _ .refl,.of hD1⟩
  | true=>
   rw [hac] at hrs
   have hw0:a.wds 0 s=[[]]:=by
    unfold Aut.fulW Aut.wds at hac;unfold Aut.wds;by_cases h:a.accB s
    .simp [-getElem?_pos,-List.map_set,h]
    simp [-getElem?_pos,-List.map_set,h] at hac
   have hadd:zq4 n acc ww (a.wds 0 s)=acc++[ww]:=(by rw [hw0];unfold zq4;obtain ⟨m,hm⟩:∃ m,n-acc.length=m+1:=⟨n-acc.length-1,by omega⟩;simp [-getElem?_pos,-List.map_set,hm]);rw [hadd];have h76:=λbb=>hW1.clone (by omega) bb;have r76:(Q.ann 76).raw=false:=by rw [ycl]
   have hib:=hV1.ib;have hLD:=hV1.hL;have g1:=λX=>zzc (X:=X) hO1;have l1:=zyr hO1;have g3:=λy X=>zzc (X:=X) (show (D1.set (b+2) y)[b+3]? =some (.arr 1 [ov]) by rw [tz4 (by omega)];exact hO1);refine ⟨((D1++[DObj.arr 1 [zyq ww]]).set (b+2) (.app 26 1 ((acc++[ww]).map zyq))).set (b+3) (.arr 1 [.apl (b+2) (acc.length+1)]),?_,?_,?_,?_,?_⟩
   .rcases hO2 with ⟨rfl,rfl,hO2⟩ | ⟨rfl,hO2⟩
    .have g2:=λX=>zzc (X:=X) hO2;have l2:=zyr hO2;simp [-getElem?_pos,-List.map_set,gp,-ze5,hgh,t0,t1,t2,t3,t4,t5,t6,t7,hS,hN,hC,hO1,hov.1,hov.2,hwl,hwr,hp1,hp2,hone,zu8,hrs,hfull,h76,r76,hO2,show ¬n=0 by simpa [-getElem?_pos,-List.map_set] using hfull,g1,g2,g3,l1,l2];rfl
     done
    .have g2:=λX=>zzc (X:=X) hO2;have l2:=zyr hO2;simp [-getElem?_pos,-List.map_set,gp,-ze5,hgh,t0,t1,t2,t3,t4,t5,t6,t7,hS,hN,hC,hO1,hov.1,hov.2,hwl,hwr,hp1,hp2,hone,zu8,hrs,hfull,h76,r76,hO2,g1,g2,g3,l1,l2,show (acc.length+1)*24<=1099511627776/\acc.length<=1099511627775 by omega];rfl
     done
   .exact (hV1.app [.arr 1 [zyq ww]]).add ww
   .refine hch _ _ (hW1.same λo v m e=>?_);subst e;cases hW1 with
    | lv hw h=>cases h with
     | lv hne h1 h2=>
      show (ykf b acc ww (D1++[DObj.arr 1 [zyq ww]]))[o]? =_;rw [zlx (by omega) (by omega),tzs (zyr h2)]
   .refine hfp _ λi hi h2 h3 _=>?_;show (ykf b acc ww (D1++[DObj.arr 1 [zyq ww]]))[i]? =_;rw [zlx h2 h3,tzs hi]
   .intro i x hi hx;change (ykf b acc ww (D1++[DObj.arr 1 [zyq ww]]))[i]? =some x at hx;rw [zlx (by omega) (by omega),tzv (by omega)] at hx;have:=tzg hx;simp [-getElem?_pos,-List.map_set] at this;subst this;rfl
 | succ k IH=>
  intro s ww w acc D hs hwk hacc hV hW;obtain ⟨T,D1,w1,hgh,hD1,t0,t1,t2,t3,t4,t5,t6,t7,hV1,hW1,hfr,hch,hfp⟩:=hW.emp hV (.f (.raw (.int .i64 ((s:Nat):Int)))) (.ref cs 0 0) (.ref (b+3) 0 0) (.ref (b+1) 0 0) (.ref (b+5) 0 0) (.ref b 0 0) (.ref cv 0 0);obtain ⟨m,hm⟩:∃ m,m=k+1:=⟨_,rfl⟩;obtain ⟨r,hr,hrl,hrs⟩:=hels m (by omega);obtain ⟨p,hp1,hp2⟩:=hV1.can.ix hr;have hrs:=hrs s hs;obtain ⟨ov,hO1,hO2⟩:=hV1.O;have hov:zqf D1 ov=some acc.length/\zzd ov=[ov]:=(by rcases hO2 with ⟨rfl,rfl,h⟩ | ⟨rfl,h⟩<;>simp [-getElem?_pos,-List.map_set,zqf,h,zzd]);have hS:=hV1.S;have hN:=hV1.N;have hC:=hV1.C;have hA:=hV1.A;have hwl:=hW1.len;have hwr:zvu .i64 ((size:Int)-(ww.length:Int))=((m:Nat):Int):=by rw [zy9 (by omega) (by omega)];omega
  simp only [zze] at hS hN;rw [zz2 (fn:=Tryz.f75) (show Q.P.funcs[75]? =some Tryz.f75 from Tryz.func75) rfl yw8 rfl (by simp only [tzd,tze];decide) (by kernel_rfl)];have gp:=xn2;simp [yw8,Tryz.f75,zym] at gp;by_cases hfull:n<=acc.length
  .refine ⟨D1,?_⟩;rw [zk8 hfull];simp [-getElem?_pos,-List.map_set,gp,-ze5,hgh,t0,t1,t2,t3,t4,t5,t6,t7,hS,hN,hC,hO1,hov.1,hov.2,hwl,hwr,hp1,hp2,hone,zu8,hrs,hfull];exact ⟨rfl,hV1,hch _ _ hW1.refl,hfp _ .refl,.of hD1⟩
  rw [hm] at hrs;cases hac:a.fulW (k+1) s with
  | false=>
   rw [hac] at hrs;have:a.wds (k+1) s=[]:=by simpa [-getElem?_pos,-List.map_set,Aut.fulW] using hac
   rw [this,zls];refine ⟨D1,?_⟩;simp [-getElem?_pos,-List.map_set,gp,-ze5,hgh,t0,t1,t2,t3,t4,t5,t6,t7,hS,hN,hC,hO1,hov.1,hov.2,hwl,hwr,hp1,hp2,hone,zu8,hrs,hfull];exact ⟨rfl,hV1,hch _ _ hW1.refl,hfp _ .refl,.of hD1⟩
  | true=>
   rw [hac] at hrs;have hla:=hv.len;obtain ⟨r0,hr0⟩:=zw1 (l:=a.nxt) (i:=s) (by omega);have hrow:=hv.rows r0 (tzg hr0);obtain ⟨sy,hsy⟩:∃ sy:Nat,a.sy=sy:=⟨a.sy.toNat,by have:=hv.lo;omega⟩;have hr0l:r0.length=sy:=by have:=hrow.1;omega
   have hgo:∀ c:Nat,c<sy->r0[c]? =some (a.go s c):=λc hc=>by
    obtain ⟨r',h1,h2⟩:=Aut.go_some hv (s:=(s:Int)) (by omega) (by omega) (c:=c) (by omega);simp only [tym] at h1;rw [hr0] at h1;cases h1;exact h2
   have hm0:¬m=0:=by omega
   have hbw:below D1.length w1=true:=by
    cases hW1 with
    | em=>rfl
    | lv hw h=>cases h with
     | row=>cases hw
     | lv hne h1 h2=>simp [-getElem?_pos,-List.map_set,below];exact zyr h2
   have hobj:zyg b D1.length D1=true:=by rw [hD1];exact hV1.objs
   have hcvl:cv<D1.length:=by rw [hD1];exact hV1.icv.2
   have hbl:b<=D1.length:=by rw [hD1];have:=hV1.ib;omega
   simp [-getElem?_pos,-List.map_set,gp,-ze5,hgh,t0,t1,t2,t3,t4,t5,t6,t7,hS,hN,hC,hO1,hov.1,hov.2,hwl,hwr,hp1,hp2,hone,zu8,hrs,hfull,hA,hm0,hr0,hr0l,hbw,hobj,hcvl,hbl];generalize hX:zxj _ _ _=X
   obtain ⟨tm,H,rfl,hVH,hCh,hFr,hHl⟩:∃ (tm:Trie DV) (H:DH),X=some (.exit 0,⟨tm,H⟩)/\VH a b D.length cs cv size n canV els (zq4 n acc ww (a.wds (k+1) s)) H/\ChP D1 H w1 (k+1)/\FrP b D1 H w1/\H.length=D1.length:=by
    rw [<-hX];clear hX;generalize hs54:SD.mk _ _=sd54;revert sd54;refine wl (λp:Nat×DH=>⟨((((Trie.leaf.put 44 (zze p.1)).put 43 (zze sy)).put 42 (zyq r0)).put 7 (.ref cv 0 0)).put 1 w1,p.2⟩) (λp=>p.1<=sy/\p.2.length=D1.length/\VH a b D.length cs cv size n canV els (zq4 n acc ww (a.wdsTo k s p.1)) p.2/\ChP D1 p.2 w1 (k+1)/\FrP b D1 p.2 w1) (λp=>sy-p.1) ?_ (0,D1) ⟨tz6 _,rfl,by simpa [-getElem?_pos,-List.map_set,Aut.wdsTo,zls] using hV1,hW1.refl,.refl⟩;rintro ⟨c,H⟩ ⟨hc,hHl,hVH,hCh,hFr⟩ ih;simp only at hc hHl hVH hCh hFr ih;rw [zzj];have hobjH:zyg b D1.length H=true:=by rw [hD1];exact hVH.objs
    have htk:H.take D1.length=H:=tzk (by omega);have hV':=hVH.V;simp only [yen] at hV';by_cases hlt:c<sy
    case neg=>
     have:c=sy:=by omega
     subst this;simp [-getElem?_pos,-List.map_set,gp,hr0l];refine ⟨_,_,⟨rfl,rfl⟩,?_,hCh,hFr,hHl⟩;rw [show a.wds (k+1) s=a.wdsTo k s c by unfold Aut.wds Aut.wdsTo;rw [hsy];rfl];exact hVH
    obtain ⟨t,ht⟩:∃ t,t=a.go s c:=⟨_,rfl⟩;have hrc:=hgo c hlt;rw [<-ht] at hrc;have hcw:=zzi (show c+1<=9223372036854775807 by have:=hv.hi;omega);by_cases ht0:0<=t
    case neg=>
     have e:a.wdsTo k s (c+1)=a.wdsTo k s c:=by rw [Aut.wdsTo_succ,<-ht,if_neg ht0,tyv]
     have ih':=ih (c+1,H) ⟨by simp only;omega,hHl,by simp only;rw [e];exact hVH,hCh,hFr⟩ (by simp only;omega);simp [-getElem?_pos,-List.map_set] at ih';simp [-getElem?_pos,-List.map_set,gp,hr0l,hlt,hrc,ht0,hbw,hcvl,hobjH,hHl,htk,hbl,hcw];exact ih'
    obtain ⟨t',rfl⟩:∃ t':Nat,t=t':=⟨t.toNat,by omega⟩;have htl:t'<a.acc.length:=(by have:=(Aut.go_dom (x:=(s:Int)) (c:=c) hv).2;rw [<-ht] at this;omega);have r75:(Q.ann 75).raw=true:=by rw [yw8]
    have hac1:=yxv (w:=ww) (l:=a.wdsTo k s c) hacc;have gV:=λX=>zzc (X:=X) hV';have gE:=λX=>(hVH.app X).eqF;cases hW1 with
    | em=>
     have hib:=hVH.ib
     have hVb:=hVH.more (X:=[.arr 1 [zzf c],.chn 3 1 1 [(0,[zzf c])]]) (by omega) (λx hx=>by
      simp [-getElem?_pos,-List.map_set] at hx
      rcases hx with rfl | rfl<;>simp [-getElem?_pos,-List.map_set,zza,below])
     have hWb:WR b cs cv size (H++[.arr 1 [zzf c],.chn 3 1 1 [(0,[zzf c])]]) (.lv (H.length+1) 0 [(c:Int)].length) [(c:Int)]:=(by refine .lv (ver:=0) (ctr:=1) (Lv:=[(0,[zzf c])]) (by simp [-getElem?_pos,-List.map_set]) ?_ (by simp [-getElem?_pos,-List.map_set]) rfl rfl (by omega) rfl (λx hx=>⟨[(c:Int)],by simp [-getElem?_pos,-List.map_set] at hx;subst hx;rfl⟩) (by simp [-getElem?_pos,-List.map_set];omega);have:=hVH.ics;have:=hVH.icv;omega);obtain ⟨D3,q1,q2,q3,q4,-⟩:=IH t' _ _ _ _ htl (by simp [-getElem?_pos,-List.map_set] at hwk ⊢;omega) hac1 hVb hWb
     have hfx:∀ i,i<D.length->i≠b+2->i≠b+3->D3[i]? =H[i]?:=λi hi h2 h3=>by
      rw [q4 i (by simp [-getElem?_pos,-List.map_set];omega) h2 h3 (λe=>by have e:i=H.length+1:=e;omega),tzs (by omega)]
     have e1:zq4 n (zq4 n acc [] (a.wdsTo k s c)) [(c:Int)] (a.wds k t')=zq4 n acc [] (a.wdsTo k s (c+1)):=(by have:=zd0 (n:=n) (acc:=zq4 n acc [] (a.wdsTo k s c)) (w:=[]) (c:=(c:Int)) (l:=a.wds k t');rw [ty2] at this;rw [this,yxu,Aut.wdsTo_succ,<-ht,if_pos (by omega)]);rw [e1] at q2;have hl3:D1.length<=D3.length:=by have:=q2.hL;simp [-getElem?_pos,-List.map_set] at this;omega
     have hVn:VH a b D.length cs cv size n canV els (zq4 n acc [] (a.wdsTo k s (c+1))) (D3.take D1.length):=(by rw [hD1];exact hVH.round (o:=H.length+1) q2 (by simp [-getElem?_pos,-List.map_set];omega) (by have:=hVH.ics;have:=hVH.icv;omega) (λi hi h2 h3 _=>hfx i hi h2 h3) (λx hx=>by omega))
     have ih':=ih (c+1,D3.take D1.length) ⟨by simp only;omega,by simp only [tyw];omega,hVn,trivial,λi hi h2 h3 _=>by
      simp only [tyb,if_pos hi]
      rw [hfx i (by omega) h2 h3,hFr i hi h2 h3 (λh=>h)]⟩ (by simp only;omega)
     have hobj3:zyg b D1.length D3=true:=by rw [hD1] at hVn ⊢;exact hVn.objsT
     simp only [zze] at q1;simp [-getElem?_pos,-List.map_set] at q1;simp [-getElem?_pos,-List.map_set] at ih';simp [-getElem?_pos,-List.map_set,gp,hr0l,hlt,hrc,hbw,hcvl,hbl,hcw,gV,gE,q1,r75,hobj3,hl3,hV',zyr hV'];exact ih'
    | lv hw h=>cases h with
     | row=>cases hw
     | @lv o ver ctr Lv _ hne h1 h2 hc' h3 h4 h5 h6 h7=>
      have hib:=hVH.ib;obtain ⟨ctr',J,hHo,hcc,hJ,hJk⟩:=hCh _ _ h2;rw [hc'] at h3 h5 hHo;have hol:=zyr hHo;have hcut:zpr ver (J++Lv)=Lv:=(by rw [zcz (λx hx=>by have:=(hJ x hx).1;omega),hc']);have hhd:zo2 (zpr ver (J++Lv))=some (ww.map zzf):=by rw [hcut];exact h3
      have hN:=λ(DD:DH) (bb:Nat) (TT:SlT) (oo m:Nat) (new:List DV)=>xyn (D:=DD) (base:=bb) (T:=TT) (o:=oo) (v:=ver) (n:=m) (e:=3) (sz:=1) (ctr:=ctr') (new:=new) hhd;rw [hcut] at hN
      have hlv:∀ (x:Nat×List DV),x∈((ctr',(ww++[(c:Int)]).map zzf)::Lv)->∃ l:List Int,x.2=l.map zzf:=λx hx=>by
       rcases tzu.1 hx with rfl | hx
       .exact ⟨_,rfl⟩
       exact h6 x hx
      have hVs:VH a b D.length cs cv size n canV els (zq4 n acc ww (a.wdsTo k s c)) (H.set o (.chn 3 1 (ctr'+1) ((ctr',(ww++[(c:Int)]).map zzf)::Lv))):=by
       refine hVH.same (o:=o) (by simp [-getElem?_pos,-List.map_set];omega) h1 (λi _ _ _ hi=>tz4 (Ne.symm hi)) ?_ (λx _ hx=>?_)
       .obtain ⟨ov,g1,g2⟩:=hVH.O;refine ⟨ov,by rw [tz4 (by omega)];exact g1,?_⟩;unfold yst at g2 ⊢;rw [tz4 (by omega)];exact g2
       .rw [tz1 hol] at hx;cases hx;exact ylx hlv
      have hVb:=hVs.more (X:=[.arr 1 [zzf c]]) (by simp [-getElem?_pos,-List.map_set];omega) (λx hx=>by
       simp [-getElem?_pos,-List.map_set] at hx
       subst hx
       simp [-getElem?_pos,-List.map_set,zza,below])
      have hWb:WR b cs cv size (H.set o (.chn 3 1 (ctr'+1) ((ctr',(ww++[(c:Int)]).map zzf)::Lv))++[.arr 1 [zzf c]]) (.lv o ctr' (ww++[(c:Int)]).length) (ww++[(c:Int)]):=(by refine .lv (ver:=ctr') (ctr:=ctr'+1) (Lv:=(ctr',(ww++[(c:Int)]).map zzf)::Lv) (by simp [-getElem?_pos,-List.map_set]) h1 ?_ (by simp [-getElem?_pos,-List.map_set,zpr]) (by simp [-getElem?_pos,-List.map_set,zpr,zo2]) (by omega) (by simp [-getElem?_pos,-List.map_set,zpr,h5]) hlv (by simp [-getElem?_pos,-List.map_set,h5];omega);rw [tzs (by simpa [-getElem?_pos,-List.map_set] using hol),tz1 hol]);obtain ⟨D3,q1,q2,q3,q4,-⟩:=IH t' _ _ _ _ htl (by simp [-getElem?_pos,-List.map_set];omega) hac1 hVb hWb
      have hfx:∀ i,i<D.length->i≠b+2->i≠b+3->i≠o->D3[i]? =H[i]?:=λi hi g2 g3 g4=>by
       rw [q4 i (by simp [-getElem?_pos,-List.map_set];omega) g2 g3 g4,tzs (by simp [-getElem?_pos,-List.map_set];omega),tz4 (Ne.symm g4)]
      have e1:zq4 n (zq4 n acc ww (a.wdsTo k s c)) (ww++[(c:Int)]) (a.wds k t')=zq4 n acc ww (a.wdsTo k s (c+1)):=(by rw [zd0,yxu,Aut.wdsTo_succ,<-ht,if_pos (by omega)]);rw [e1] at q2;obtain ⟨ctr2,J2,q5,q6,q7,q8⟩:=q3 (ctr'+1) ((ctr',(ww++[(c:Int)]).map zzf)::Lv) (by rw [tzs (by simpa [-getElem?_pos,-List.map_set] using hol),tz1 hol]);rw [show zpr ctr' ((ctr',(ww++[(c:Int)]).map zzf)::Lv)=(ctr',(ww++[(c:Int)]).map zzf)::Lv by simp [-getElem?_pos,-List.map_set,zpr]] at q5;have hl3:D1.length<=D3.length:=by have:=q2.hL;simp [-getElem?_pos,-List.map_set] at this;omega
      have hVn:VH a b D.length cs cv size n canV els (zq4 n acc ww (a.wdsTo k s (c+1))) (D3.take D1.length):=by
       rw [hD1];refine hVH.round (o:=o) q2 (by simp [-getElem?_pos,-List.map_set];omega) h1 (λi hi g2 g3 g4=>hfx i hi g2 g3 g4) (λx _ hx=>?_);rw [q5] at hx;cases hx
       exact ylx λx hx=>by
        rcases tyh.1 hx with hx | hx
        .exact (q7 x hx).2
        .exact hlv x hx
      have ih':=ih (c+1,D3.take D1.length) ⟨by simp only;omega,by simp only [tyw];omega,hVn,λctr0 Lv0 hD0=>by
       rw [h2] at hD0
       cases hD0
       refine ⟨ctr2,J2++[(ctr',(ww++[(c:Int)]).map zzf)],?_,by omega,λx hx=>?_,by simp [-getElem?_pos,-List.map_set];omega⟩
       .show (D3.take D1.length)[o]? =_
        rw [tyb,if_pos (by omega),q5,hc',tyd];rfl
       .rcases tyh.1 hx with hx | hx
        .exact ⟨by have:=(q7 x hx).1;omega,(q7 x hx).2⟩
        .rw [tzw] at hx
         subst hx
         exact ⟨hcc,_,rfl⟩,λi hi g2 g3 g4=>by
       show (D3.take D1.length)[i]? =_
       rw [tyb,if_pos hi,hfx i (by omega) g2 g3 g4,hFr i hi g2 g3 g4]⟩ (by simp only;omega)
      have hobj3:zyg b D1.length D3=true:=by rw [hD1] at hVn ⊢;exact hVn.objsT
      have gE2:=λX=>(hVs.app X).eqF;have gH:=λX=>zzc (X:=X) hHo;have hJL:J.length+Lv.length<99:=by omega
      have hb8:(ww.length+1)*8<=1099511627776/\ww.length<=1099511627775:=by omega
      have hbo:b<=o:=by omega
      have hcvo:=h1.2.2;simp only [zze] at q1;simp [-getElem?_pos,-List.map_set] at q1 gE2;simp [-getElem?_pos,-List.map_set] at ih';simp [-getElem?_pos,-List.map_set,gp,hr0l,hlt,hrc,hbw,hcvl,hbl,hcw,gV,gE,q1,r75,hobj3,hl3,hV',zyr hV',gE2,gH,hol,hN,hJL,hb8,hbo,hcvo,Ne.symm hcvo];exact ih'
   refine ⟨H,?_⟩;simp [-getElem?_pos,-List.map_set,gp,];exact ⟨rfl,hVH,hch _ _ hCh,hfp _ hFr,.of (hHl.trans hD1)⟩
end Go.Dv
namespace Go.Fsa
def Aut.tab (a:Aut) (k:Nat):List (List Bool):=(List.range (k+1)).map λj=>(List.range a.acc.length).map λs:Nat=>a.fulW j s
theorem Aut.tab_len {a:Aut} {k:Nat}:(a.tab k).length=k+1:=by simp [Aut.tab]
theorem Aut.tab_get {a:Aut} {k j:Nat} (h:j<=k):(a.tab k)[j]? =some ((List.range a.acc.length).map λs:Nat=>a.fulW j s):=by
 unfold Aut.tab;rw [tzr,tz7 (by omega)];rfl
theorem Aut.tab_succ {a:Aut} {k:Nat}:a.tab (k+1)=a.tab k++[(List.range a.acc.length).map λs:Nat=>a.fulW (k+1) s]:=by
 unfold Aut.tab;rw [List.range_succ,txk];rfl
theorem Aut.tab_row {a:Aut} {k s:Nat} (hs:s<a.acc.length):((List.range a.acc.length).map λs:Nat=>a.fulW k s)[s]? =some (a.fulW k s):=by
 rw [tzr,tz7 hs];rfl
theorem Aut.tab0 {a:Aut}:a.tab 0=[a.acc]:=by
 unfold Aut.tab;simp only [txj,List.range_one,txe,List.map_nil,tyi,and_true];refine ty8 λj=>?_;rcases tz9 j a.acc.length with h | h
 .rw [Aut.tab_row h,tzb h];unfold Aut.fulW Aut.wds Aut.accB;rw [tym,tzb h];cases a.acc[j]<;>simp
 .rw [tzt (by simpa using h),tzt h]
def Aut.anyW (a:Aut) (k:Nat) (x:Int):Bool:=decide (0<=x)&&a.fulW k x
theorem Aut.any_row {a:Aut} (hv:a.valid) {k s:Nat} {r:List Int} (hr:a.nxt[s]? =some r):r.any (a.anyW k)=a.fulW (k+1) s:=by
 have hla:=hv.len
 have hsl:s<a.nxt.length:=by
  rcases tz9 s a.nxt.length with g | g
  .exact g
  rw [tzt g] at hr;cases hr
 have hrow:=hv.rows r (tzg hr);have hlo:=hv.lo;rw [Aut.fulW_succ,ty1,List.any_eq_true,List.any_eq_true]
 have hgo:∀ c:Nat,c<a.sy.toNat->r[c]? =some (a.go s c):=λc hc=>by
  obtain ⟨r',h1,h2⟩:=Aut.go_some hv (s:=(s:Int)) (by omega) (by omega) (c:=c) (by omega);simp only [tym] at h1;rw [hr] at h1;cases h1;exact h2
 constructor
 .rintro ⟨x,hx,h⟩;obtain ⟨c,hc⟩:=List.getElem?_of_mem hx
  have hcl:c<a.sy.toNat:=by
   have:=hrow.1;rcases tz9 c r.length with g | g
   .omega
   rw [tzt g] at hc;cases hc
  refine ⟨c,txc.2 hcl,?_⟩;have:=hgo c hcl;rw [hc] at this;cases this;exact h
 .rintro ⟨c,hc,h⟩;rw [txc] at hc;exact ⟨a.go s c,tzg (hgo c hc),h⟩
def zc0 (a:Aut) (n most:Int):List (List Int)×Int:=
 if ¬a.valid then ([],60) else if n<0∨10000<n∨most<0∨1000<most then ([],1) else (a.list n.toNat (most.toNat+1),0)
theorem Aut.wds_none {a:Aut} (h:a.acc=[]) (hn:a.nxt=[]) {k:Nat} {s:Int}:a.wds k s=[]:=by
 have ha:∀ s,a.accB s=false:=λs=>by simp [Aut.accB,h]
 cases k with
 | zero=>simp [Aut.wds,ha]
 | succ k=>
  unfold Aut.wds;rw [List.flatMap_eq_nil_iff];intro c _;rw [if_neg];unfold Aut.go;split
  .omega
  simp [hn]
theorem Aut.list_none {a:Aut} (h:a.acc=[]) (hn:a.nxt=[]) {n:Nat}:∀ {k:Nat},a.list n k=[]
 | 0=>rfl
 | k+1=>by
  unfold Aut.list;rw [Aut.list_none h hn,Aut.wds_none h hn,zls]
theorem Aut.list_le {a:Aut} {n:Nat}:∀ {k:Nat},(a.list n k).length<=n
 | 0=>tz6 _
 | k+1=>yxv Aut.list_le
theorem Aut.list_full {a:Aut} {n j:Nat} (h:n<=(a.list n j).length):∀ {k:Nat},j<=k->a.list n k=a.list n j
 | k,hk=>by
  induction k with
  | zero=>
   obtain rfl:j=0:=by omega
   rfl
  | succ k ih=>
   rcases tz9 k j with g | g
   .obtain rfl:j=k+1:=by omega
    rfl
   show zq4 n (a.list n k) [] (a.wds k a.st)=_;rw [ih g,zk8 h]
end Go.Fsa
namespace Go.Dv
open Go Go.Sim Go.Proofs Go.Fsa
structure PH (a:Aut) (b cs size n:Nat) (canV:DV) (els:List (List Bool)) (acc:List (List Int)) (D:DH):Prop where
 ib:b+5<D.length
 ics:b+5<cs/\cs<D.length
 A:D[b]? =some (.arr 4 [zzn a])
 N:D[b+1]? =some (.arr 1 [zze n])
 O:∃ ov,D[b+3]? =some (.arr 1 [ov])/\yst D b ov acc
 C:D[b+5]? =some (.arr 1 [canV])
 can:yke D canV (b+4) els
 S:D[cs]? =some (.arr 1 [zze size])
 bel:∀ i x,b<=i->D[i]? =some x->zza D.length x=true
variable {a:Aut} {b cs cv size n:Nat} {canV:DV} {els:List (List Bool)} {acc:List (List Int)} {D:DH}
theorem PH.app (h:PH a b cs size n canV els acc D) {X:DH} (hX:∀ x∈X,zza (D++X).length x=true):PH a b cs size n canV els acc (D++X):=by
 have e:∀ i,i<D.length->(D++X)[i]? =D[i]?:=λi hi=>tzs hi;have hib:=h.ib;refine ⟨by simp [-List.map_set];omega,by have:=h.ics;simp [-List.map_set];omega,by rw [e _ (by omega)];exact h.A,by rw [e _ (by omega)];exact h.N,?_,by rw [e _ (by omega)];exact h.C,?_,by rw [e _ h.ics.2];exact h.S,λi x h1 hx=>?_⟩
 .obtain ⟨ov,h1,h2⟩:=h.O;refine ⟨ov,by rw [e _ (by omega)];exact h1,?_⟩;unfold yst at h2 ⊢;rw [e _ (by omega)];exact h2
 .have:=h.can;unfold yke at this ⊢;rw [e _ (by omega)];exact this
 rcases tz9 i D.length with g | g
 .rw [e i g] at hx;exact zyo (by simp [-List.map_set]) x (h.bel i x h1 hx)
 .rw [tzv g] at hx;exact hX x (tzg hx)
theorem PH.cell (h:PH a b cs size n canV els acc D) {o k:Nat} (ho:b+5<o) (hS:D[o]? =some (.arr 1 [zze k])):PH a b o k n canV els acc D:=
 ⟨h.ib,⟨ho,zyr hS⟩,h.A,h.N,h.O,h.C,h.can,hS,h.bel⟩
theorem PH.vh (h:PH a b cs size n canV els acc D) {cv:Nat} (hcv:b+5<cv) (hV:D[cv]? =some (.arr 1 [yen b cs cv])):VH a b D.length cs cv size n canV els acc D:=
 ⟨tzp _,h.ib,h.ics,⟨hcv,zyr hV⟩,h.A,h.N,h.O,h.C,h.can,h.S,hV,λi x h1 _ hx=>h.bel i x h1 hx⟩
def ysu (b k:Nat) (els:List (List Bool)) (D:DH):DH:=(D.set (b+4) (.app 22 1 (els.map zu8))).set (b+5) (.arr 1 [.apl (b+4) k])
theorem PH.tab (h:PH a b cs size n canV els acc D) (els':List (List Bool)):PH a b cs size n (.apl (b+4) els'.length) els' acc (ysu b els'.length els' D):=by
 have hib:=h.ib;have hics:=h.ics
 have e:∀ i,i≠b+4->i≠b+5->(ysu b els'.length els' D)[i]? =D[i]?:=λi h1 h2=>by
  unfold ysu;rw [tz4 (Ne.symm h2),tz4 (Ne.symm h1)]
 have h4:(ysu b els'.length els' D)[b+4]? =some (.app 22 1 (els'.map zu8)):=(by unfold ysu;rw [tz4 (by omega),tz1 (by omega)]);have h5:(ysu b els'.length els' D)[b+5]? =some (.arr 1 [.apl (b+4) els'.length]):=(by unfold ysu;rw [tz1 (by simp [-List.map_set];omega)]);have hl:(ysu b els'.length els' D).length=D.length:=by simp [-List.map_set,ysu]
 refine ⟨by omega,by omega,by rw [e _ (by omega) (by omega)];exact h.A,by rw [e _ (by omega) (by omega)];exact h.N,?_,h5,.inr ⟨rfl,h4⟩,by rw [e _ (by omega) (by omega)];exact h.S,λi x h1 hx=>?_⟩
 .obtain ⟨ov,h1,h2⟩:=h.O;refine ⟨ov,by rw [e _ (by omega) (by omega)];exact h1,?_⟩;unfold yst at h2 ⊢;rw [e _ (by omega) (by omega)];exact h2
 rw [hl];by_cases e4:i=b+4
 .subst e4;rw [h4] at hx;cases hx;simp [-List.map_set,zza,zu8,below]
 by_cases e5:i=b+5
 .subst e5;rw [h5] at hx;cases hx;simp [-List.map_set,zza,below];omega
 .rw [e i e4 e5] at hx;exact h.bel i x h1 hx
end Go.Dv
namespace Go.Dv
open Go Go.Sim Go.Proofs Go.Fsa
attribute [local simp] zwo zxi zzn zz0 zz1 zya zzv zz5 zzf zz8 zz6 zzt zz4 zzq
theorem xmn {a:Aut} (hv:a.valid) (hz:¬a.acc.length=0) {b cs k n:Nat} {canV:DV} {acc:List (List Int)} {H:DH} (hk:k<=60) (hn:n<=300) (hacc:acc.length<=n) (h:PH a b cs k n canV (a.tab k) acc H) :
  ∃ D3,zzg Q 75 [zze a.st,.row (H.length+1) 0 0 0,.ref cs 0 0,.ref (b+3) 0 0,.ref (b+1) 0 0,.ref (b+5) 0 0,.ref b 0 0,.ref H.length 0 0] b (H++[.arr 1 [yen b cs H.length],.arr 1 []])=some (.tup [],D3) /\
   D3[cs]? =some (.arr 1 [zze k])/\PH a b D3.length (k+1) n canV (a.tab k) (zq4 n acc [] (a.wds k a.st)) (D3++[.arr 1 [zze ((k+1:Nat):Int)]])/\∀ i,i<b->D3[i]? =H[i]?:=by
 have hst0:=hv.st0;have hst1:=hv.st1;obtain ⟨s,hs⟩:∃ s:Nat,a.st=s:=⟨a.st.toNat,by omega⟩;have hib:=h.ib;have hics:=h.ics
 have h1:=h.app (X:=[.arr 1 [yen b cs H.length],.arr 1 []]) (λx hx=>by
  simp [-List.map_set] at hx
  rcases hx with rfl | rfl
  .simp [-List.map_set,zza,below,zzo,yen];omega
  .rfl)
 have hV:=h1.vh (cv:=H.length) (by omega) (by simp [-List.map_set]);have hone:zzd canV=[canV]:=(by rcases h.can with ⟨rfl,_,_⟩ | ⟨rfl,_⟩<;>rfl);rw [hs];obtain ⟨D3,q1,q2,q3,q4,q5⟩:=w75 hv hk hn (λj hj=>⟨_,Aut.tab_get hj,by simp [-List.map_set],λs hs=>Aut.tab_row hs⟩) hone k s [] (.row (H.length+1) 0 0 0) acc _ (by omega) (by simp [-List.map_set]) hacc hV (.row ⟨by omega,by omega,by omega⟩ (by simp [-List.map_set]));have hl:=q2.hL;simp [-List.map_set] at hl;refine ⟨D3,q1,q2.S,?_,λi hi=>?_⟩
 .have e:∀ i,i<D3.length->(D3++[DObj.arr 1 [zze ((k+1:Nat):Int)]])[i]? =D3[i]?:=λi hi=>tzs hi;refine ⟨by simp [-List.map_set];omega,by simp [-List.map_set];omega,by rw [e _ (by omega)];exact q2.A,by rw [e _ (by omega)];exact q2.N,?_,by rw [e _ (by omega)];exact q2.C,?_,by simp [-List.map_set],λi x hi hx=>?_⟩
  .obtain ⟨ov,g1,g2⟩:=q2.O;refine ⟨ov,by rw [e _ (by omega)];exact g1,?_⟩;unfold yst at g2 ⊢;rw [e _ (by omega)];exact g2
  .have:=q2.can;unfold yke at this ⊢;rw [e _ (by omega)];exact this
  rw [tz5];rcases tz9 i D3.length with g | g
  .rw [e i g] at hx;rcases tz9 i (H++[DObj.arr 1 [yen b cs H.length],.arr 1 []]).length with g2 | g2
   .exact zyo (by simp [-List.map_set] at hl ⊢;omega) x (q2.bel i x hi g2 hx)
   .exact zyo (tyt _ _) x (q5 i x g2 hx)
  .rw [tzv g] at hx;have:=tzg hx;simp [-List.map_set] at this;subst this;rfl
 .rw [q4 i (by simp [-List.map_set];omega) (by omega) (by omega) (λe=>by have e:i=H.length+1:=e;omega),tzs (by omega)]
theorem f74 {a:Aut} (hv:a.valid) {b cs k n:Nat} {canV:DV} {acc:List (List Int)} {X:DH} (h:PH a b cs (k+1) n canV (a.tab k) acc X) (hk:k<1000) {r:List Int} (hr:r∈a.nxt):FnB 74 [] [.ref (b+5) 0 0,.ref cs 0 0] X r (a.anyW k):=by
 have hib:=h.ib;have hics:=h.ics;refine ⟨rfl,by simp [-List.map_set,zzo,below];omega,λx base hx=>?_⟩;have hrow:=(hv.rows r hr).2 x hx;have hone:zwz canV=true/\zzd canV=[canV]:=(by rcases h.can with ⟨rfl,_,_⟩ | ⟨rfl,_⟩<;>exact ⟨rfl,rfl⟩);have:=w74 x k hk (a.tab k) _ (Aut.tab_get (tzp k)) (by simp [-List.map_set];omega) (b+4) (b+5) cs canV X h.C h.can h.S hone base
 rw [show (decide (0<=x)&&(((List.range a.acc.length).map λs:Nat=>a.fulW k s)[x.toNat]?).getD false)=a.anyW k x by
  unfold Aut.anyW
  by_cases h0:0<=x
  .rw [Aut.tab_row (by omega),tye,Int.toNat_of_nonneg h0]
  .simp [-List.map_set,h0]] at this
 exact this
theorem w30 (a:Aut) (ha:a.nxt.length<1152921504606846976) (n most:Int) (hn:n<=300∨10000<n) (hm:most<=60∨1000<most) (base:Nat) (D:DH) :
  zzg Q 30 [zzn a,zze n,zze most] base D=some (.tup [.f (.lst ((zc0 a n most).1.map zx2)),zze (zc0 a n most).2],D):=by
 have h18:=λbb D'=>w18 a ha bb D';simp only [zzn,zze] at h18;have r18:(Q.ann 18).raw=false:=by rw [yki]
 rw [zzb (fn:=Tryz.f30) (show Q.P.funcs[30]? =some Tryz.f30 from Tryz.func30) rfl xqw rfl (by simp only [tzd,tze];decide) (by kernel_rfl)];by_cases hv:a.valid
 case neg=>
  have hck:a.check=60:=by simp [-getElem?_pos,-List.map_set,Aut.check,hv]
  have e:zc0 a n most=([],60):=by unfold zc0;rw [if_pos hv]
  rw [e];simp [-getElem?_pos,-List.map_set,h18,hck]
 have hck:a.check=0:=Aut.check_valid.2 hv;by_cases hbad:n<0∨10000<n∨most<0∨1000<most
 .have e:zc0 a n most=([],1):=by unfold zc0;rw [if_neg (λh=>h hv),if_pos hbad]
  rw [e];by_cases h1:n<0
  .simp [-getElem?_pos,-List.map_set,h18,hck,h1]
  by_cases h2:10000<n
  .simp [-getElem?_pos,-List.map_set,h18,hck,h1,h2]
  by_cases h3:most<0
  .simp [-getElem?_pos,-List.map_set,h18,hck,h1,h2,h3]
  have h4:1000<most:=by omega
  simp [-getElem?_pos,-List.map_set,h18,hck,h1,h2,h3,h4]
 have e:zc0 a n most=(a.list n.toNat (most.toNat+1),0):=by unfold zc0;rw [if_neg (λh=>h hv),if_neg hbad]
 rw [e];obtain ⟨n,rfl⟩:∃ m:Nat,n=m:=⟨n.toNat,by omega⟩;obtain ⟨q,rfl⟩:∃ m:Nat,most=m:=⟨most.toNat,by omega⟩;simp only [tym];have hla:=hv.len;by_cases hz:a.acc.length=0
 .have e1:a.acc=[]:=tzy hz;have e2:a.nxt=[]:=tzy (by omega);rw [Aut.list_none e1 e2];simp [-getElem?_pos,-List.map_set,h18,hck,show ¬10000<(n:Int) by omega,show ¬1000<(q:Int) by omega,show ¬(n:Int)<0 by omega,show ¬(q:Int)<0 by omega,hz]
 simp [-getElem?_pos,-List.map_set,h18,hck,show ¬10000<(n:Int) by omega,show ¬1000<(q:Int) by omega,show ¬(n:Int)<0 by omega,show ¬(q:Int)<0 by omega,hz];generalize hX:zxj _ _ _=X
 obtain ⟨tm,H,rfl,hPH,hpre,t8⟩:∃ (tm:Trie DV) (H:DH),X=some (.exit 0,⟨tm,H⟩)/\(∃ ov,H[D.length+3]? =some (.arr 1 [ov])/\yst H D.length ov (a.list n (q+1)))/\(∀ i,i<D.length->H[i]? =D[i]?)/\tm.get 8=some (.ref (D.length+3) 0 0):=by
  rw [<-hX];clear hX h18 r18;generalize hs55:SD.mk _ _=sd55;revert sd55;refine wl (λp:Nat×Nat×DH=>⟨((((((Trie.leaf.put 10 (.ref p.2.1 0 0)).put 9 (.ref (D.length+5) 0 0)).put 8 (.ref (D.length+3) 0 0)).put 4 (.ref (D.length+1) 0 0)).put 3 (.ref D.length 0 0)).put 2 (zze q)),p.2.2⟩) (λp=>p.1<=q+1/\(∃ canV,PH a D.length p.2.1 p.1 n canV (a.tab (p.1-1)) (a.list n p.1) p.2.2)/\∀ i,i<D.length->p.2.2[i]? =D[i]?) (λp=>q+1-p.1) ?_ (0,D.length+6,_) ⟨tz6 _,⟨.row (D.length+4) 0 1 1,?_⟩,λi hi=>tzs hi⟩;rotate_left
  .have hb8:∀ (X:DH) (i:Nat),(D++X)[D.length+i]? =X[i]?:=λX i=>by rw [tzv (by omega),Nat.add_sub_cancel_left]
   have hb0:∀ (X:DH),(D++X)[D.length]? =X[0]?:=λX=>hb8 X 0;refine ⟨by simp [-getElem?_pos,-List.map_set],by simp [-getElem?_pos,-List.map_set],by rw [hb0];rfl,by rw [hb8];rfl,⟨.row (D.length+2) 0 0 0,by rw [hb8];rfl,.inl ⟨rfl,rfl,by rw [hb8];rfl⟩⟩,by rw [hb8];rfl,.inl ⟨rfl,by simp [-getElem?_pos,-List.map_set,Aut.tab_len],by rw [hb8];show _=some (DObj.arr 1 ((a.tab 0).map zu8));rw [Aut.tab0];rfl⟩,by rw [hb8];rfl,λi x hi hx=>?_⟩;rw [tzv hi] at hx;have:=tzg hx;simp [-getElem?_pos,-List.map_set] at this;rcases this with rfl | rfl | rfl | rfl | rfl | rfl | rfl<;>simp [-getElem?_pos,-List.map_set,zza,below,zzo]
  rintro ⟨k,cs,H⟩ ⟨hk,⟨canV,hPH⟩,hpre⟩ ih;simp only at hk hPH hpre ih;rw [zzj];obtain ⟨ov,hO1,hO2⟩:=hPH.O
  have hov:zqf H ov=some (a.list n k).length/\zzd ov=[ov]:=by
   rcases hO2 with ⟨rfl,e2,h⟩ | ⟨rfl,h⟩
   .simp [-getElem?_pos,-List.map_set,zqf,h,zzd,e2]
   .simp [-getElem?_pos,-List.map_set,zqf,h,zzd]
  have hS:=hPH.S;have hN:=hPH.N;have hC:=hPH.C;have hA:=hPH.A;have hib:=hPH.ib;simp only [zze] at hS hN;by_cases hkq:k<=q
  case neg=>
   obtain rfl:k=q+1:=by omega
   simp [-getElem?_pos,-List.map_set,hS,show ¬(q:Int)+1<=q by omega];exact ⟨_,_,⟨rfl,rfl⟩,⟨ov,hO1,hO2⟩,hpre,by simp [-getElem?_pos,-List.map_set]⟩
  by_cases hfull:n<=(a.list n k).length
  .simp [-getElem?_pos,-List.map_set,hS,hkq,hO1,hov.1,hov.2,hN,hfull,show ¬(a.list n k).length<n by omega];exact ⟨_,_,⟨rfl,rfl⟩,⟨ov,hO1,by rw [Aut.list_full hfull (by omega)];exact hO2⟩,hpre,by simp [-getElem?_pos,-List.map_set]⟩
  have hq60:q<=60:=by omega
  have hn300:n<=300:=by omega
  have hacc:=Aut.list_le (a:=a) (n:=n) (k:=k);have r75:(Q.ann 75).raw=true:=by rw [yw8]
  have kw:=zzi (show k+1<=9223372036854775807 by omega);by_cases hk0:k=0
  .subst hk0;obtain ⟨D3,r1,r2,r3,r4⟩:=xmn hv hz (by omega) hn300 hacc hPH;have hcsl:=zyr r2;have hD3l:D.length<=D3.length:=by have:=r3.ics;omega
   have ih':=ih (0+1,D3.length,D3++[DObj.arr 1 [zze ((0+1:Nat):Int)]]) ⟨by simp only;omega,⟨canV,r3⟩,λi hi=>by
    show (D3++[DObj.arr 1 [zze ((0+1:Nat):Int)]])[i]? =_
    have:=r3.ib
    simp [-getElem?_pos,-List.map_set] at this
    rw [tzs (by omega),r4 i hi,hpre i hi]⟩ (by simp only;omega)
   simp only [zze,yen] at r1 r2;simp [-getElem?_pos,-List.map_set] at r1 r2;simp [-getElem?_pos,-List.map_set] at ih';have gA:=λX=>zzc (X:=X) hA;have gS:=λX=>zzc (X:=X) hS;simp [-getElem?_pos,-List.map_set,hS,hkq,hO1,hov.1,hov.2,hN,show (a.list n 0).length<n by omega,gA,gS,r1,r2,r75,show ofV Value.nilFunc=rv .nilFunc from rfl,show zwz (rv .nilFunc)=true from rfl,show D.length<=H.length by omega,hD3l,hcsl];exact ih'
  obtain ⟨j,hj⟩:∃ j,j+1=k:=⟨k-1,by omega⟩;have hPJ:PH a D.length cs (j+1) n canV (a.tab j) (a.list n k) H:=(by rw [hj,show j=k-1 by omega];exact hPH);obtain ⟨m,hm⟩:∃ m,m=a.acc.length:=⟨_,rfl⟩;have hmost:=hv.most;obtain ⟨bits,hbits⟩:∃ l,l=(List.range a.acc.length).map λs:Nat=>a.fulW (j+1) s:=⟨_,rfl⟩;have hbl:bits.length=m:=by rw [hbits,hm];simp [-getElem?_pos,-List.map_set]
  have gA:=λX=>zzc (X:=X) hA;have gS:=λX=>zzc (X:=X) hS;have r73:(Q.ann 73).raw=false:=by rw [ykj]
  have h73:=λ(bb:Nat) (W:List Bool) (r:List Int) (hr:r∈a.nxt)=>w73 r (by have:=(hv.rows r hr).1;have:=hv.hi;omega) 74 [] [.ref (D.length+5) 0 0,.ref cs 0 0] (a.anyW j) bb (H++[DObj.arr 1 (W.map zz8)]) (f74 hv (hPJ.app (X:=[DObj.arr 1 (W.map zz8)]) (λx hx=>by
   simp [-getElem?_pos,-List.map_set] at hx
   subst hx
   simp [-getElem?_pos,-List.map_set,zza,tzx,below])) (by omega) hr)
  simp [-getElem?_pos,-List.map_set,hS,hkq,hO1,hov.1,hov.2,hN,show (a.list n k).length<n by omega,gA,gS,hA,<-hm,show m<=140737488355328 by omega,show m<9223372036854775808 by omega,show 0<k by omega];generalize hX:zxj _ _ _=X;have gO:=λX=>zzc (X:=X) hO1
  obtain ⟨tm,rfl,t2,t3,t4,t8,t9,t10,t11⟩:∃ (tm:Trie DV),X=some (.exit 2,⟨tm,H++[.arr 1 (bits.map zz8)]⟩)/\tm.get 2=some (zze q)/\tm.get 3=some (.ref D.length 0 0)/\tm.get 4=some (.ref (D.length+1) 0 0)/\tm.get 8=some (.ref (D.length+3) 0 0)/\tm.get 9=some (.ref (D.length+5) 0 0)/\tm.get 10=some (.ref cs 0 0)/\tm.get 11=some (.row H.length 0 m m):=by
   rw [<-hX];clear hX ih;have hrep:List.replicate m (DV.f (.raw (.bool false)))=(List.replicate m false).map zz8:=by rw [List.map_replicate];rfl
   simp only [hrep];generalize hs56:SD.mk _ _=sd56;revert sd56;refine wl (λp:Nat×List Bool=>⟨(((((((((Trie.leaf.put 59 (zze p.1)).put 58 (zze m)).put 11 (.row H.length 0 m m)).put 10 (.ref cs 0 0)).put 9 (.ref (D.length+5) 0 0)).put 8 (.ref (D.length+3) 0 0)).put 4 (.ref (D.length+1) 0 0)).put 3 (.ref D.length 0 0)).put 2 (zze q)),H++[.arr 1 (p.2.map zz8)]⟩) (λp=>p.1<=m/\p.2.length=m/\p.2.take p.1=bits.take p.1) (λp=>m-p.1) ?_ (0,List.replicate m false) ⟨tz6 _,by simp [-getElem?_pos,-List.map_set],rfl⟩;rintro ⟨i,W⟩ ⟨hi,hWl,hW⟩ ih;simp only at hi hWl hW ih;rw [zzj];by_cases hlt:i<m
   case neg=>
    obtain rfl:i=m:=by omega
    rw [tzk (by omega),tzk (by omega)] at hW;subst hW;simp [-getElem?_pos,-List.map_set]
    done
   obtain ⟨r,hr⟩:=zw1 (l:=a.nxt) (i:=i) (by omega);have hrm:=tzg hr;have h73:=λbb=>h73 bb W r hrm;rw [Aut.any_row hv hr] at h73;have hbi:bits[i]? =some (a.fulW (j+1) i):=by rw [hbits];exact Aut.tab_row (by omega)
   have ih':=ih (i+1,W.set i (a.fulW (j+1) i)) ⟨by simp only;omega,by simp only [tz3];exact hWl,by
    simp only
    rw [tz8,txx (tzp _),tz1 (by omega),hW,tz8,hbi]⟩ (by simp only;omega)
   have iw:=zzi (show i+1<=9223372036854775807 by omega);simp only [zyq,zx2,zzr] at h73;simp [-getElem?_pos,-List.map_set] at ih';obtain ⟨wi,hwi⟩:=zw1 (l:=W) (i:=i) (by omega);simp [-getElem?_pos,-List.map_set,hlt,gA,hr,h73,r73,hWl,iw,hwi,show D.length<=H.length by omega];exact ih'
  have hfzb:∀ b X,zsq (frz b X 3) (bits.map zz8)=some (bits.map zxi,[]):=λb X=>zz4;have htkb:List.take m (bits.map zz8)=bits.map zz8:=tzk (by simp [-getElem?_pos,-List.map_set];omega);have hT:a.tab (j+1)=a.tab j++[bits]:=by rw [Aut.tab_succ,hbits]
  have hTl:(a.tab j).length=j+1:=Aut.tab_len
  have hP2:=(hPJ.tab (a.tab (j+1))).app (X:=[.dead,.arr 1 [zu8 bits]]) (λx hx=>by
   simp [-getElem?_pos,-List.map_set] at hx
   rcases hx with rfl | rfl
   .rfl
   .simp [-getElem?_pos,-List.map_set,zza,zu8,below])
  obtain ⟨D3,r1,r2,r3,r4⟩:=xmn hv hz (by omega) hn300 hacc hP2;have hcsl:=zyr r2;have hD3l:D.length<=D3.length:=by have:=r3.ics;omega
  have hk1:k-1=j:=by omega
  have ih':=ih (k+1,D3.length,D3++[DObj.arr 1 [zze ((k+1:Nat):Int)]]) ⟨by simp only;omega,⟨.apl (D.length+4) (a.tab (j+1)).length,by
    simp only
    rw [show k+1-1=j+1 by omega,<-hj]
    exact hj▸r3⟩,λi hi=>by
   show (D3++[DObj.arr 1 [zze ((k+1:Nat):Int)]])[i]? =_
   rw [tzs (by omega),r4 i hi,tzs (by simp [-getElem?_pos,-List.map_set,ysu];omega)]
   unfold ysu
   rw [tz4 (by omega),tz4 (by omega),hpre i hi]⟩ (by simp only;omega)
  simp only [zze,yen,ysu,hT] at r1 r2;have g5:=λ(y:DObj) (X:DH)=>zzc (X:=X) (show (H.set (D.length+4) y)[D.length+5]? =some (.arr 1 [canV]) by rw [tz4 (by omega)];exact hC);have gA2:=λ(y z:DObj) (X:DH)=>zzc (X:=X) (show ((H.set (D.length+4) y).set (D.length+5) z)[D.length]? =some (.arr 4 [zzn a]) by rw [tz4 (by omega),tz4 (by omega)];exact hA)
  have gS2:=λ(y z x0 x1 x2:DObj) (X:DH)=>(show ((H.set (D.length+4) y).set (D.length+5) z++x0::x1::x2::X)[H.length+2]? =some x2 by
   rw [tzv (by simp [-getElem?_pos,-List.map_set])];simp [-getElem?_pos,-List.map_set])
  have gT2:=λ(y z x0 x1 x2 v:DObj) (X:DH)=>(show ((H.set (D.length+4) y).set (D.length+5) z++x0::x1::x2::X).set (H.length+2) v=(H.set (D.length+4) y).set (D.length+5) z++x0::x1::v::X by
   rw [List.set_append_right _ _ (by simp [-getElem?_pos,-List.map_set])];simp [-getElem?_pos,-List.map_set])
  have hb4:D.length+4<H.length:=by omega
  have hb5:D.length+5<H.length:=by omega
  have hb0:D.length<=H.length:=by omega
  have gC:=λX=>zzc (X:=X) hC;rcases hPJ.can with ⟨rfl,e4,c4⟩ | ⟨rfl,c4⟩
  .obtain rfl:j=0:=by omega
   obtain rfl:k=1:=by omega
   simp [-getElem?_pos,-List.map_set,hTl,zu8] at r1 r2;simp [-getElem?_pos,-List.map_set] at ih';have g4:=λX=>zzc (X:=X) c4;simp [-getElem?_pos,-List.map_set,t2,t3,t4,t8,t9,t10,t11,gC,g4,g5,gA2,hfzb,hbl,htkb,hb0,hb4,hb5,e4,r1,r2,r75,show ofV Value.nilFunc=rv .nilFunc from rfl,show zwz (rv .nilFunc)=true from rfl,hD3l,hcsl,gS2,gT2,show D.length<=H.length+2 by omega];exact ih'
  have hkj:(j:Int)+1=(k:Int):=by omega
  simp [-getElem?_pos,-List.map_set,hTl,zu8] at r1 r2;rw [hkj] at r2;simp [-getElem?_pos,-List.map_set] at ih';have g4:=λX=>zzc (X:=X) c4;simp [-getElem?_pos,-List.map_set,t2,t3,t4,t8,t9,t10,t11,gC,g4,g5,gA2,hfzb,hbl,htkb,hb0,hb4,hb5,hTl,r1,r2,r75,show ofV Value.nilFunc=rv .nilFunc from rfl,show zwz (rv .nilFunc)=true from rfl,hD3l,hcsl,show (j+1+1)*24<=1099511627776/\j+1<=1099511627775 by omega,show j<=1099511627774 by omega,kw,gS2,gT2,show D.length<=H.length+2 by omega];exact ih'
 obtain ⟨ov,g1,g2⟩:=hPH;have hfz:∀ (l:List (List Int)) b D,zsq (frz b D 3) (l.map zyq)=some (l.map zx2,[]):=λl b D=>zkn λ_=>rfl
 have htk:H.take D.length=D:=by
  refine ty8 λi=>?_;rw [tyb];split
  .rename_i hi;exact hpre i hi
  rename_i hi;rw [tzt (by omega)]
 rcases g2 with ⟨rfl,e2,g2⟩ | ⟨rfl,g2⟩
 .rw [e2];simp [-getElem?_pos,-List.map_set,g1,t8,g2,htk]
 .simp [-getElem?_pos,-List.map_set,g1,t8,g2,hfz,htk]
  done
end Go.Dv
namespace Go.Fsa
end Go.Fsa
namespace Go.Dv
open Go Go.Sim Go.Proofs Go.Fsa
attribute [local simp] zwo zxi zzn zz0 zz1 zya zzv zz5 zzf zz8 zz6 zzt zz4 zzq
attribute [local simp] yeh yei yej
attribute [local simp] zxv zxw zxk zxx
theorem w28 (u v:List Int) (hu:u.length<1152921504606846976) (hv:v.length<1152921504606846976) (o1 o2 base:Nat) (D:DH) (h1:D[o1]? =some (.arr 1 [zyq u])) (h2:D[o2]? =some (.arr 1 [zyq v])):zzg Q 28 [.row o1 0 1 1,.row o2 0 1 1] base D=some (zzr (decide (u=v)),D):=by
 rw [zzb (fn:=Tryz.f28) (show Q.P.funcs[28]? =some Tryz.f28 from Tryz.func28) rfl ykl rfl (by simp only [tzd,tze];decide) (by kernel_rfl)];have gp:=xn1;simp [ykl,Tryz.f28,zym] at gp;have h63:=λbb D'=>w63 u v hu hv bb D';simp only [zyq,zx2,zzr] at h63;have r63:(Q.ann 63).raw=false:=by rw [ykh]
 have l1:=zyr h1;have l2:=zyr h2;simp [-getElem?_pos,-List.map_set,gp,h1,h2,l1,l2];generalize hs58:SD.mk _ _=sd58;revert sd58;refine wl (λi:Nat=>⟨((Trie.leaf.put 5 (zze i)).put 1 (.row o2 0 1 1)).put 0 (.row o1 0 1 1),D⟩) (λi=>i<=1/\(i=1->u=v)) (λi=>1-i) ?_ 0 ⟨tz6 _,λh=>by omega⟩;intro i ⟨hi,ht⟩ ih;rw [zzj];by_cases h0:i=0
 .subst h0;by_cases huv:u=v
  .have ih':=ih 1 ⟨tzp _,λ_=>huv⟩ (by omega);subst huv;simp [-getElem?_pos,-List.map_set] at ih';simp [-getElem?_pos,-List.map_set] at h63;simp [-getElem?_pos,-List.map_set,gp,h1,h2,l1,l2,h63,r63];exact ih'
  .simp [-getElem?_pos,-List.map_set,gp,h1,h2,h63,r63,huv]
 .obtain rfl:i=1:=by omega
  rw [decide_eq_true (ht rfl)];simp [-getElem?_pos,-List.map_set,gp,h1,h2]
end Go.Dv
set_option maxHeartbeats 2000000
namespace Go.Dv
open Go Go.Sim Go.Proofs Go.Fsa
attribute [local simp] zxi zzn zz0 zz1 zz8 zz6 zzt zz4
theorem xky (l m:List (List Int)) (hl:l.length<1152921504606846976) (hwl:∀ w∈l,w.length<1152921504606846976) (hwm:∀ w∈m,w.length<1152921504606846976) (base:Nat) (D:DH) :
  zzg Q 28 [.f (.lst (l.map zx2)),.f (.lst (m.map zx2))] base D=some (zzr (decide (l=m)),D):=by
 rw [zzb (fn:=Tryz.f28) (show Q.P.funcs[28]? =some Tryz.f28 from Tryz.func28) rfl ykl rfl (by simp only [tzd,tze];decide) (by kernel_rfl)];have gp:=xn1;simp [ykl,Tryz.f28,zym] at gp;by_cases hlm:l.length=m.length
 case neg=>
  rw [decide_eq_false (λh=>hlm (by rw [h]))];simp [-getElem?_pos,-List.map_set,gp,hlm]
 simp [-getElem?_pos,-List.map_set,gp,hlm];generalize hs59:SD.mk _ _=sd59;revert sd59;refine wl (λi:Nat=>⟨((Trie.leaf.put 5 (zze i)).put 1 (.f (.lst (m.map zx2)))).put 0 (.f (.lst (l.map zx2))),D⟩) (λi=>i<=l.length/\l.take i=m.take i) (λi=>l.length-i) ?_ 0 ⟨tz6 _,rfl⟩;intro i ⟨hi,ht⟩ ih;rw [zzj];by_cases hlt:i<m.length
 case neg=>
  rw [tzk (by omega),tzk (by omega)] at ht;rw [decide_eq_true ht];simp [-getElem?_pos,-List.map_set,gp,hlt,hlm]
 obtain ⟨u,hu⟩:=zw1 (l:=l) (i:=i) (by omega);obtain ⟨v,hv⟩:=zw1 (l:=m) (i:=i) hlt;have h63:=λbb D'=>w63 u v (hwl u (tzg hu)) (hwm v (tzg hv)) bb D';simp only [zyq,zx2,zzr] at h63;have hww:=zzi (show i+1<=9223372036854775807 by omega);have r63:(Q.ann 63).raw=false:=by rw [ykh]
 by_cases huv:u=v
 .have ih':=ih (i+1) ⟨by omega,by rw [tz8,tz8,hu,hv,ht,huv]⟩ (by omega);subst huv;simp [-getElem?_pos,-List.map_set] at ih';simp [-getElem?_pos,-List.map_set] at h63;simp [-getElem?_pos,-List.map_set,gp,hlt,hlm,hu,hv,h63,r63,hww,zx2];exact ih'
 .have hne:l≠m:=λh=>huv (by rw [h,hv] at hu;exact (Option.some.inj hu).symm);rw [decide_eq_false hne];simp [-getElem?_pos,-List.map_set,gp,hlt,hlm,hu,hv,h63,r63,huv,zx2]
end Go.Dv
namespace Go.Dv
open Go Go.Sim Go.Proofs Go.Fsa
attribute [local simp] zxv zxw zxk zxx
attribute [local simp] zxi zzn zz0 zz1 zya zzv zz5 zzf zz8 zz6 zzt zz4
def xkz (sy:Int) (A:List Bool) (rows:List (List Int)) (fi bs:List Int):DV:=.agg [zze sy,zze 0,.f (.lst (A.map zxi)),.f (.lst (rows.map zx2)),zyq fi,zyq bs,zzr false]
end Go.Dv
namespace Go.Dv
open Go Go.Sim Go.Proofs Go.Fsa
attribute [local simp] zxv zxw zxk zxx
attribute [local simp] zxi zzn zz0 zz1 zya zzv zz5 zzf zz8 zz6 zzt zz4
end Go.Dv
set_option maxHeartbeats 4000000
namespace Go.Dv
open Go Go.Sim Go.Proofs Go.Fsa
attribute [local simp] zwo zxi zzn zz0 zz1 zya zzv zz5 zzf zz8 zz6 zzt zz4 zzq
attribute [local simp] zxv zxw zxk zxx
def xrr (a b:Aut):Int:=if a.valid/\b.valid then 1 else 60
theorem xk0 (a b:Aut) (ha:a.nxt.length<1152921504606846976) (hb:b.nxt.length<1152921504606846976) (h:¬(a.valid/\b.valid/\a.sy=b.sy)) (base:Nat) (D:DH):zzg Q 27 [zzn a,zzn b] base D=some (.tup [zyq [],zzr false,zze (xrr a b)],D):=by
 have h68:=λbb D'=>w68 a b ha hb bb D'
 have e:(if a.check=0/\b.check=0 then (if a.sy=b.sy then 0 else 1) else 60:Int)=xrr a b:=by
  unfold xrr;by_cases va:a.valid
  case neg=>simp [-List.map_set,va,Aut.check]
  by_cases vb:b.valid
  case neg=>simp [-List.map_set,vb,Aut.check]
  simp [-List.map_set,va,vb,Aut.check,show ¬a.sy=b.sy from λe=>h ⟨va,vb,e⟩]
 rw [e] at h68;have hne:¬xrr a b=0:=by unfold xrr;split<;>decide
 simp only [zzn,zze] at h68;have r68:(Q.ann 68).raw=false:=by rw [ys3]
 rw [zzb (fn:=Tryz.f27) (show Q.P.funcs[27]? =some Tryz.f27 from Tryz.func27) rfl yce rfl (by simp only [tzd,tze];decide) (by kernel_rfl)];simp [-List.map_set,h68,r68,hne]
end Go.Dv
namespace Go.Fsa
def zi1 (a b:Aut) (op:Int):Aut×Int:=if a.valid/\b.valid then (if a.sy=b.sy/\1<=op/\op<=4 then ((ymd (Dv.opB op.toNat) a b).canP,0) else (⟨0,0,[],[]⟩,1)) else (⟨0,0,[],[]⟩,60)
def ysk (a:Aut):Aut×Int:=if a.valid then ((zdv a).canP,0) else (⟨0,0,[],[]⟩,60)
end Go.Fsa
namespace Go.Dv
open Go Go.Sim Go.Proofs Go.Fsa
attribute [local simp] zwo zxi zzn zz0 zz1 zya zzv zz5 zzf zz8 zz6 zzt zz4
theorem w33 (a b:Aut) (op:Int) (ha:a.nxt.length<1152921504606846976) (hb:b.nxt.length<1152921504606846976) (hN:a.valid->b.valid->(a.nxt.length+1)*(b.nxt.length+1)<=20000) (base:Nat) (D:DH) :
  zzg Q 33 [zzn a,zzn b,zze op] base D=some (zu9 (zi1 a b op).1 (zi1 a b op).2,D):=by
 rw [zzb (fn:=Tryz.f33) (show Q.P.funcs[33]? =some Tryz.f33 from Tryz.func33) rfl xqo rfl (by simp only [tzd,tze];decide) (by kernel_rfl)];have h68:=λbb D'=>w68 a b ha hb bb D';simp only [zzn,zze] at h68;have r68:(Q.ann 68).raw=false:=by rw [ys3]
 by_cases hv:a.valid/\b.valid
 case neg=>
  rw [if_neg (by rw [Aut.check_valid,Aut.check_valid];exact hv)] at h68;have e:zi1 a b op=(⟨0,0,[],[]⟩,60):=by unfold zi1;rw [if_neg hv]
  rw [e];simp [-List.map_set,h68,r68,zu9]
 obtain ⟨va,vb⟩:=hv;have hN:=hN va vb;rw [if_pos ⟨Aut.check_valid.2 va,Aut.check_valid.2 vb⟩] at h68;by_cases hsy:a.sy=b.sy
 case neg=>
  rw [if_neg hsy] at h68;have e:zi1 a b op=(⟨0,0,[],[]⟩,1):=by unfold zi1;rw [if_pos ⟨va,vb⟩,if_neg λh=>hsy h.1]
  rw [e];simp [-List.map_set,h68,r68,zu9]
 rw [if_pos hsy] at h68;by_cases ho:1<=op/\op<=4
 case neg=>
  have e:zi1 a b op=(⟨0,0,[],[]⟩,1):=by unfold zi1;rw [if_pos ⟨va,vb⟩,if_neg λh=>ho h.2]
  rw [e];by_cases h1:op<1
  .simp [-List.map_set,h68,r68,zu9,h1]
  simp [-List.map_set,h68,r68,zu9,h1,show 4<op by omega]
 obtain ⟨n,rfl⟩:∃ n:Nat,op=n:=⟨op.toNat,by omega⟩;have e:zi1 a b n=((ymd (opB n) a b).canP,0):=by unfold zi1;rw [if_pos ⟨va,vb⟩,if_pos ⟨hsy,ho⟩,tym]
 rw [e];obtain ⟨m1,m2⟩:=xy1 va vb hsy hN (f:=opB n);obtain ⟨O1,O2,fi,bs,h69,hfb,hO⟩:=w69 n (by omega) (by omega) a b va vb hsy (by omega) D.length (D++[.arr 4 [zzn a],.arr 4 [zzn b],.arr 4 [.agg [zzf 0,zzf 0,zyf,zyf]]]) (by simp [-List.map_set]) (by rw [zy6];simp [-List.map_set,zys]);obtain ⟨m,hm⟩:∃ m,m=ymd (opB n) a b:=⟨_,rfl⟩;have hml:m.acc.length<=20000:=by have:=m1.most;rw [hm];omega
 have hm':zq3 a.sy (λp=>opB n (a.accB p.1) (b.accB p.2)) (a.exD b)=m:=hm.symm;rw [hm'] at h69;rw [<-hm] at m1 m2 ⊢;have h61:=λbb=>yd8 m m1 m2 (D.length+9) (D.length+14) (D.length+15) (qV (D.length+12) m.acc.length) (qV (D.length+13) m.acc.length) bb (D++[.arr 4 [zzn a],.arr 4 [zzn b],.arr 4 [.agg [zzf 0,zzf 0,zyf,zyf]]]++zu7 n a b++.arr 2 [prD (a.begin,b.begin)]::zxb (D.length+9) m O1 O2 fi bs) (by simp [-List.map_set,zxb,zu7]) (by simp [-List.map_set,zxb,zu7]) (by simp [-List.map_set,zxb,zu7]);obtain ⟨c,hc⟩:∃ c,c=m.canP:=⟨_,rfl⟩;rw [<-hc] at h61 ⊢;have r69:(Q.ann 69).raw=true:=by rw [ykk]
 simp [-List.map_set,zxb,zu9,zu7,yz6,prD] at h69 h61;simp [-List.map_set,h68,r68,r69,h69,h61,zu9,ho.1,ho.2,show ¬(n:Int)<1 by omega,show ¬4<(n:Int) by omega,show ¬n<1 by omega,show ¬4<n by omega]
theorem w35 (a:Aut) (ha:a.nxt.length<1152921504606846976) (hN:a.valid->a.nxt.length<20000) (base:Nat) (D:DH) :
  zzg Q 35 [zzn a] base D=some (zu9 (ysk a).1 (ysk a).2,D):=by
 rw [zzb (fn:=Tryz.f35) (show Q.P.funcs[35]? =some Tryz.f35 from Tryz.func35) rfl xwp rfl (by simp only [tzd,tze];decide) (by kernel_rfl)];have gp:=xmz;simp [xwp,Tryz.f35,zym] at gp;have h18:=λb D=>w18 a ha b D;simp only [zzn,zze] at h18;by_cases hv:a.valid
 case neg=>
  have hck:a.check=60:=by simp [-getElem?_pos,-List.map_set,Aut.check,hv]
  have e:ysk a=(⟨0,0,[],[]⟩,60):=by unfold ysk;rw [if_neg hv]
  rw [e];simp [-getElem?_pos,-List.map_set,gp,h18,hck,zu9]
 have hck:a.check=0:=Aut.check_valid.2 hv;have e:ysk a=((zdv a).canP,0):=by unfold ysk;rw [if_pos hv]
 rw [e];obtain ⟨m1,m2⟩:=xy2 hv (hN hv);have r62:(Q.ann 62).raw=true:=by rw [ycc]
 obtain ⟨O1,O2,fi,bs,h62,hO⟩:=w62 a hv D.length (D++[.arr 4 [zzn a],.arr 4 [.agg [zzf 0,zzf 0,zyf,zyf]]]) (by simp [-getElem?_pos,-List.map_set]) (by rw [zy6];simp [-getElem?_pos,-List.map_set,zys]);obtain ⟨w,hw⟩:∃ w,w=a.wh:=⟨_,rfl⟩;obtain ⟨m,hm⟩:∃ m,m=zdv a:=⟨_,rfl⟩;have hma:m.acc=w.acc.map (!·):=by rw [hm,hw];rfl
 have hmn:m.nxt=w.nxt:=by rw [hm,hw];rfl
 have hms:m.sy=w.sy:=by rw [hm,hw];rfl
 have hml:m.acc.length=w.acc.length:=by rw [hma,tyk]
 have hmo:m.acc.length<=20000:=by have:=m1.most;rw [hm];omega
 rw [<-hm] at m1 m2 ⊢;rw [<-hw] at h62;have h61:=λbb=>yd8 m m1 m2 (D.length+3) (D.length+8) (D.length+9) (qV (D.length+6) m.acc.length) (qV (D.length+7) m.acc.length) bb (D++[.arr 4 [zzn a],.arr 4 [.agg [zzf 0,zzf 0,zyf,zyf]],.arr 4 [zzn a]]++zxb (D.length+3) m O1 O2 fi bs) (by simp [-getElem?_pos,-List.map_set,zxb]) (by simp [-getElem?_pos,-List.map_set,zxb]) (by simp [-getElem?_pos,-List.map_set,zxb]);obtain ⟨c,hc⟩:∃ c,c=m.canP:=⟨_,rfl⟩;rw [<-hc] at h61 ⊢;simp [-getElem?_pos,-List.map_set,zxb,zu9,txq] at h62 h61;rw [hml,hmn,hms] at h61;simp [-getElem?_pos,-List.map_set,gp,h18,hck,h62,r62,zu9];have hO':=λL=>And.intro (hO L).1 (hO L).2;rw [if_pos ⟨(hO _).1,(hO _).2⟩];generalize hX:zxj _ _ _=X
 obtain ⟨tm,rfl,t2,t4⟩:∃ tm,X=some (.exit 0,⟨tm,D++[.arr 4 [zzn a],.arr 4 [.agg [zzf 0,zzf 0,zyf,zyf]],.arr 4 [zzn a],.arr 5 [.agg [zze w.sy,.apl (D.length+8) w.acc.length,.apl (D.length+9) w.acc.length,qV (D.length+6) w.acc.length,qV (D.length+7) w.acc.length]],O1,O2,qO 3 1 (fi.map zzf),qO 3 1 (bs.map zzf),.app 4 1 (m.acc.map zz8),.app 26 1 (w.nxt.map zyq)]⟩)/\tm.get 2=some (.ref (D.length+1) 0 0)/\tm.get 4=some (.ref (D.length+3) 0 0):=by
  rw [<-hX];clear hX h61;generalize hs66:SD.mk _ _=sd66;revert sd66;refine wl (λp:Nat×List Bool=>⟨(((Trie.leaf.put 17 (zze p.1)).put 16 (zze w.acc.length)).put 4 (.ref (D.length+3) 0 0)).put 2 (.ref (D.length+1) 0 0),D++[.arr 4 [zzn a],.arr 4 [.agg [zzf 0,zzf 0,zyf,zyf]],.arr 4 [zzn a],.arr 5 [.agg [zze w.sy,.apl (D.length+8) w.acc.length,.apl (D.length+9) w.acc.length,qV (D.length+6) w.acc.length,qV (D.length+7) w.acc.length]],O1,O2,qO 3 1 (fi.map zzf),qO 3 1 (bs.map zzf),.app 4 1 (p.2.map zz8),.app 26 1 (w.nxt.map zyq)]⟩) (λp=>p.1<=w.acc.length/\p.2.length=w.acc.length/\∀ j,p.2[j]? =if j<p.1 then m.acc[j]? else w.acc[j]?) (λp=>w.acc.length-p.1) ?_ (0,w.acc) ⟨tz6 _,rfl,λj=>by simp [-getElem?_pos,-List.map_set]⟩;rintro ⟨i,W⟩ ⟨hi,hWl,hW⟩ ih;simp only at hi hWl hW ih;rw [zzj];by_cases hlt:i<w.acc.length
  .obtain ⟨x,hx⟩:∃ x,w.acc[i]? =some x:=⟨_,tzb hlt⟩;have hx':W[i]? =some x:=by rw [hW,if_neg (by omega)];exact hx
   have ih':=ih (i+1,W.set i (!x)) ⟨by simp only;omega,by simp only [tz3];exact hWl,λj=>by
    simp only
    by_cases e:j=i
    .subst e
     rw [tz1 (by omega),if_pos (by omega),hma,tzr,hx];rfl
    .rw [tz4 (by omega),hW]
     by_cases g:j<i
     .rw [if_pos g,if_pos (by omega)]
     .rw [if_neg g,if_neg (by omega)]⟩ (by simp only;omega)
   simp [-getElem?_pos,-List.map_set] at ih';simp [-getElem?_pos,-List.map_set,gp,hlt,hx',hWl,hO,(hO _).1,(hO _).2,zqa,zy1,zzi (show i+1<=9223372036854775807 by omega)];exact ih'
  .have:W=m.acc:=by
    refine ty8 λj=>?_;rw [hW];by_cases g:j<i
    .rw [if_pos g]
    rw [if_neg g,tzt (by omega),tzt (by omega)]
   subst this;simp [-getElem?_pos,-List.map_set,gp,hlt]
 clear hX;simp [-getElem?_pos,-List.map_set,gp,t2,t4,h61]
 trace_state
end Go.Dv
namespace Go.Dv
open Go Go.Sim Go.Proofs Go.Fsa
attribute [local simp] zwo zxi zz0 zz1 zya zzv zz5 zzf zz8 zz6 zzt zz4
theorem xk1 (x:Int) (base:Nat) (D:DH):zzg Q 161 [zze x] base D=some (zzr false,D):=by
 rw [zzb (fn:=Tryz.f161) (show Q.P.funcs[161]? =some Tryz.f161 from Tryz.func161) rfl xw1 rfl (by simp only [tzd,tze];decide) (by kernel_rfl)];simp [-List.map_set]
theorem xk2 (x y:Int) (base:Nat) (D:DH):zzg Q 150 [zze x,zze y] base D=some (zzr (decide (x<y)),D):=by
 rw [zzb (fn:=Tryz.f150) (show Q.P.funcs[150]? =some Tryz.f150 from Tryz.func150) rfl ye5 rfl (by simp only [tzd,tze];decide) (by kernel_rfl)];have h161:=λx bb D'=>xk1 x bb D';simp only [zze,zzr] at h161;simp [-List.map_set,h161]
theorem ixS {b:ByteArray} {i:Nat} {k:IntKind} (h:i<b.data.toList.length):zvb Tryz.prog 9 (some (.f (.raw (.string b)))) (some (.f (.raw (.int k (i:Nat)))))=some (.f (.raw (.int .u8 ((((b.data.toList[i]?).getD 0).toNat:Nat):Int)))):=by
 have e:zmd Tryz.prog 9 (.string b) (.int k (i:Nat))=some (.int .u8 ((((b.data.toList[i]?).getD 0).toNat:Nat):Int)):=(by show (Tryz.prog.underlying 9).bind (zjd Tryz.prog (.string b) i)=_;rw [show Tryz.prog.underlying 9=some .string by kernel_rfl];show (b.data.toList[i]?).map ymp=_;rw [tzb h];rfl);unfold zvb;simp only;rw [if_pos (show zl5 _=true from rfl),e];rfl
theorem xk3 {H:Hp} {n:Nat} (hn:n<256):zx8 Tryz.prog H 178 5 (.int .u64 n)=some (.int .u8 n):=by
 rw [zhi (j:=.u64) (k:=.u8) (by kernel_rfl) (by kernel_rfl)];congr 2;show ((n:Int) % 256)=n;omega
theorem xnm {H:Hp} {n:Nat} (hn:n<256):zx8 Tryz.prog H 5 3 (.int .u8 n)=some (.int .i64 n):=by
 rw [zhi (j:=.u8) (k:=.i64) (by kernel_rfl) (by kernel_rfl),zy9 (by omega) (by omega)]
theorem xk4 (n:Nat) (hn:n<256) (base:Nat) (D:DH):∃ k:Int,zzg Q 154 [.f (.raw (.int .u64 n))] base D=some (zze k,D):=by
 rw [zzb (fn:=Tryz.f154) (show Q.P.funcs[154]? =some Tryz.f154 from Tryz.func154) rfl xw0 rfl (by simp only [tzd,tze];decide) (by kernel_rfl)];have h8:∀ c:UInt8,c.toNat<256:=λc=>c.toNat_lt;have cv58':∀ H,zx8 Tryz.prog H 178 5 (.int .u64 n)=some (.int .u8 n):=λH=>xk3 hn;have cv53':∀ H (c:UInt8),zx8 Tryz.prog H 5 3 (.int .u8 (c.toNat:Nat))=some (.int .i64 (c.toNat:Nat)):=λH c=>xnm (h8 c);simp [-List.map_set,show ¬(4294967296:Int)<=n by omega,show ¬(65536:Int)<=n by omega,show ¬(256:Int)<=n by omega,cv58',cv53',ixS,hn]
theorem xmo (n:Nat) (hn:n<256) (base:Nat) (D:DH):∃ k:Int,zzg Q 139 [.f (.raw (.int .u64 n))] base D=some (zze k,D):=by
 obtain ⟨k,hk⟩:=xk4 n hn D.length D;refine ⟨k,?_⟩;rw [zzb (fn:=Tryz.f139) (show Q.P.funcs[139]? =some Tryz.f139 from Tryz.func139) rfl xwy rfl (by simp only [tzd,tze];decide) (by kernel_rfl)];simp only [zze] at hk;simp [-List.map_set,hk]
structure AtApp (D:DH) (base o:Nat) (l:List Int):Prop where
 b:base<=o
 ob:(D.drop base).all (zza D.length)=true
 o:D[o]? =some (.app 3 1 (l.map zzf))
theorem AtApp.len {D:DH} {base o:Nat} {l:List Int} (h:AtApp D base o l):o<D.length:=zyr h.o
theorem AtApp.eq {D:DH} {base o:Nat} {l:List Int} (h:AtApp D base o l):D=D.set o (.app 3 1 (l.map zzf)):=by
 refine ty8 λt=>?_;by_cases e:t=o
 .subst e;rw [tz1 h.len,h.o]
 .rw [tz4 (by omega)]
theorem xnn {R:Option (DV×DH)} {f:List Int->DH} {p q:List Int->Prop} (W:List Int) (hp:p W) (hq:q W) (h:∃ v,R=some (v,f W)):∃ v W,R=some (v,f W)/\p W/\q W:=let ⟨v,h⟩:=h;⟨v,W,h,hp,hq⟩
theorem xmp {R:Option (BX×SD)} {G:List Int->Trie DV->Option (BX×SD)} {p:List Int->Prop} {T:Trie DV->Prop} (W:List Int) (hp:p W) (h:∃ tm,R=G W tm/\T tm):∃ (tm:Trie DV) (W:List Int),R=G W tm/\p W/\T tm:=let ⟨tm,h,ht⟩:=h;⟨tm,W,h,hp,ht⟩
theorem xk5 (l:List Int) (hl:l.length<1000000) (a b:Nat) (hab:a<=b) (hbl:b<=l.length) (o base:Nat) (D:DH) (hA:AtApp D base o l) :
  ∃ v W,zzg Q 144 [.apl o l.length,zze a,zze b] base D=some (v,D.set o (.app 3 1 (W.map zzf)))/\Sw a b l W/\Srt a b W:=by
 have hol:=hA.len;have hb:=hA.b;have ho:=hA.o;obtain ⟨L,hL⟩:∃ L,L=D.length:=⟨_,rfl⟩;have hOK:∀ W:List Int,zyg base L (D.set o (.app 3 1 (W.map zzf)))=true:=λW=>by rw [hL];exact zqd hA.ob W
 have hbL:base<=L:=by omega
 have hoL:o<L:=by omega
 have hLD:L<=D.length:=by omega
 have hts:∀ X:DObj,List.take L (D.set o X)=D.set o X:=λX=>tzk (by rw [tz3];omega);have h150:=λx y bb D'=>xk2 x y bb D';simp only [zze,zzr] at h150;have r150:(Q.ann 150).raw=false:=by rw [ye5]
 rw [zz2 (fn:=Tryz.f144) (show Q.P.funcs[144]? =some Tryz.f144 from Tryz.func144) rfl zi4 rfl (by simp only [tzd,tze];decide) (by kernel_rfl)];have gp:=xwz;simp [zi4,Tryz.f144,zym] at gp;simp [-getElem?_pos,-List.map_set,gp,ho,hb,hol,zzi (show a+1<=9223372036854775807 by omega)];rw [show D.length=L from hL.symm]
 conv=>enter [1,v,1,W,1,1];rw [hA.eq]
 rw [if_pos ⟨hOK l,hbL⟩];generalize hs67:SD.mk _ _=sd67;revert sd67;refine wl (λp:Nat×List Int=>⟨(((Trie.leaf.put 6 (zze p.1)).put 2 (zze b)).put 1 (zze a)).put 0 (.apl o l.length),D.set o (.app 3 1 (p.2.map zzf))⟩) (λp=>a+1<=p.1/\(p.1<=b∨p.1=a+1)/\Sw a b l p.2/\Srt a p.1 p.2) (λp=>b-p.1) ?_ (a+1,l) ⟨by simp [-getElem?_pos,-List.map_set],.inr rfl,.refl,λi j x y h1 h2 h3=>by simp only at h3;omega⟩;rintro ⟨i,W⟩ ⟨hi1,hi2,hsw,hsrt⟩ ih;simp only at hi1 hi2 hsw hsrt ih;have hWl:=hsw.len;have hget:∀ W:List Int,(D.set o (.app 3 1 (W.map zzf)))[o]? =some (.app 3 1 (W.map zzf)):=λW=>tz1 hol;have hsl:∀ W:List Int,(D.set o (.app 3 1 (W.map zzf))).length=L:=λW=>by rw [tz3,hL]
 rw [zzj];by_cases hlt:i<b
 case neg=>
  refine xnn (f:=λW=>D.set o (.app 3 1 (W.map zzf))) W hsw (λp q x y h1 h2 h3=>hsrt p q x y h1 h2 (by omega)) ?_;simp [-getElem?_pos,-List.map_set,gp,hget,hsl,hlt]
 simp [-getElem?_pos,-List.map_set,gp,hget,hsl,hlt,hb,hOK,hbL,hWl,hol,hoL,hLD,hts];generalize hX:zxj _ _ _=X
 obtain ⟨tm,V,rfl,⟨hsw',hsrt'⟩,t0,t1,t2,t6⟩:∃ (tm:Trie DV) (V:List Int),X=some (.exit 2,⟨tm,D.set o (.app 3 1 (V.map zzf))⟩)/\(Sw a b l V/\Srt a (i+1) V)/\tm.get 0=some (.apl o l.length)/\tm.get 1=some (zze a)/\tm.get 2=some (zze b)/\tm.get 6=some (zze i):=by
  rw [<-hX];clear hX ih;generalize hs68:SD.mk _ _=sd68;revert sd68;refine wl (λp:Nat×List Int=>⟨((((Trie.leaf.put 7 (zze p.1)).put 6 (zze i)).put 2 (zze b)).put 1 (zze a)).put 0 (.apl o l.length),D.set o (.app 3 1 (p.2.map zzf))⟩) (λp=>a<=p.1/\p.1<=i/\Sw a b l p.2/\Ins a p.1 i p.2) (λp=>p.1) ?_ (i,W) ⟨by simp only;omega,tzp _,hsw,.start hsrt⟩;rintro ⟨j,V⟩ ⟨hj1,hj2,hsw,hins⟩ ih;simp only at hj1 hj2 hsw hins ih;have hVl:=hsw.len;rw [zzj];obtain ⟨v,hv⟩:∃ v,V[j]? =some v:=⟨_,tzb (by omega)⟩;by_cases hja:a<j
  .obtain ⟨m,hm0⟩:∃ m,m=j-1:=⟨_,rfl⟩;have hm:(j:Int)-1=(m:Int):=by omega
   obtain ⟨u,hu⟩:∃ u,V[m]? =some u:=⟨_,tzb (by omega)⟩;by_cases hvu:v<u
   .have hst:=hins.step hja hj2 (by rw [<-hm0];exact hu) hv hvu;rw [<-hm0] at hst;have a3:(V.set j u)[m]? =some u:=by rw [tz4 (by omega)];exact hu
    have ih':=ih (m,(V.set j u).set m v) ⟨by simp only;omega,by simp only;omega,.swap hsw ⟨by omega,by omega⟩ ⟨by omega,by omega⟩ hv hu,hst⟩ (by simp only;omega);simp [-getElem?_pos,-List.map_set] at ih';simp [-getElem?_pos,-List.map_set,gp,hget,hsl,hb,hOK,hbL,hVl,hol,hoL,hLD,hts,hu,hv,hvu,h150,r150,a3,hm,zy9 (show -9223372036854775808<=(m:Int) by omega) (show (m:Int)<=9223372036854775807 by omega),hja,show (a:Int)<j by omega,show j<l.length by omega,show m<l.length by omega];exact ih'
   .refine xmp (G:=λV tm=>some (.exit 2,⟨tm,D.set o (.app 3 1 (V.map zzf))⟩)) V ⟨hsw,hins.done ⟨by omega,hj2⟩ (.inr λu' v' h1 h2=>by
     rw [<-hm0,hu,tza] at h1
     rw [hv,tza] at h2
     omega) (by omega)⟩ ?_
    simp [-getElem?_pos,-List.map_set,gp,hget,hsl,hb,hOK,hbL,hVl,hol,hoL,hLD,hts,hu,hv,hvu,h150,r150,hm,zy9 (show -9223372036854775808<=(m:Int) by omega) (show (m:Int)<=9223372036854775807 by omega),hja,show (a:Int)<j by omega,show j<l.length by omega,show m<l.length by omega]
  .refine xmp (G:=λV tm=>some (.exit 2,⟨tm,D.set o (.app 3 1 (V.map zzf))⟩)) V ⟨hsw,hins.done ⟨by omega,hj2⟩ (.inl (by omega)) (by omega)⟩ ?_;simp [-getElem?_pos,-List.map_set,gp,hget,hsl,hb,hja]
 clear hX;have ih':=ih (i+1,V) ⟨by simp only;omega,.inl (by simp only;omega),hsw',hsrt'⟩ (by simp only;omega);have hVl:=hsw'.len;simp [-getElem?_pos,-List.map_set] at ih';simp [-getElem?_pos,-List.map_set,gp,hget,hsl,hb,hOK,hbL,hVl,hol,hoL,hLD,hts,t0,t1,t2,t6,zzi (show i+1<=9223372036854775807 by omega)];exact ih'
end Go.Dv
namespace Go.Dv
open Go Go.Sim Go.Proofs Go.Fsa
attribute [local simp] zwo zxi zz0 zz1 zya zzv zz5 zzf zz8 zz6 zzt zz4
theorem xk6 (l:List Int) (hl:l.length<1000000) (a b:Nat) (hab:a<=b) (hbl:b<=l.length) (h12:b-a<=12) (lim:Int) (o base:Nat) (D:DH) (hA:AtApp D base o l) :
  ∃ v W,zzg Q 138 [.apl o l.length,zze a,zze b,zze lim] base D=some (v,D.set o (.app 3 1 (W.map zzf)))/\Sw a b l W/\Srt a b W:=by
 obtain ⟨v,W,h144,h1,h2⟩:=xk5 l hl a b hab hbl o base D hA;have hol:=hA.len;have hb:=hA.b;have ho:=hA.o;have hOK:zyg base D.length D=true:=by unfold zyg;rw [tzk (by rw [tyx];exact tzp _)];exact hA.ob
 have hbL:base<=D.length:=by omega
 have r144:(Q.ann 144).raw=true:=by rw [zi4]
 simp only [zze] at h144;refine xnn (f:=λW=>D.set o (.app 3 1 (W.map zzf))) W h1 h2 ?_;rw [zz2 (fn:=Tryz.f138) (show Q.P.funcs[138]? =some Tryz.f138 from Tryz.func138) rfl zi3 rfl (by simp only [tzd,tze];decide) (by kernel_rfl)];have gp:=xwx;simp [zi3,Tryz.f138,zym] at gp;simp [-List.map_set,gp,ho,hb,hol,hOK,hbL];rw [zzj];simp [-List.map_set,gp,ho,hb,hol,hOK,hbL,h144,r144,zy9 (show -9223372036854775808<=(b:Int)-a by omega) (show (b:Int)-a<=9223372036854775807 by omega),show (b:Int)-a<=12 by omega]
theorem xmq {H:Hp} {n:Nat} (hn:n<1000000):zx8 Tryz.prog H 3 147 (.int .i64 n)=some (.int .u64 n):=by
 rw [zhi (j:=.i64) (k:=.u64) (by kernel_rfl) (by kernel_rfl)];congr 2;show ((n:Int) % 18446744073709551616)=n;omega
theorem xk7 (l:List Int) (hl:l.length<=12) (o base:Nat) (D:DH) (hA:AtApp D base o l) :
  ∃ v W,zzg Q 122 [.apl o l.length] base D=some (v,D.set o (.app 3 1 (W.map zzf)))/\Sw 0 l.length l W/\Srt 0 l.length W:=by
 obtain ⟨k,h139⟩:=xmo l.length (by omega) base D;obtain ⟨v,W,h138,h1,h2⟩:=xk6 l (by omega) 0 l.length (tz6 _) (tzp _) (by omega) k o base D hA;refine xnn (f:=λW=>D.set o (.app 3 1 (W.map zzf))) W h1 h2 ?_;have hol:=hA.len;have hb:=hA.b;have ho:=hA.o;have r138:(Q.ann 138).raw=true:=by rw [zi3]
 have hcv:∀ H,zx8 Tryz.prog H 3 147 (.int .i64 l.length)=some (.int .u64 l.length):=λH=>xmq (by omega);simp only [zze] at h138 h139;rw [show ((0:Nat):Int)=0 from rfl] at h138;rw [zz2 (fn:=Tryz.f122) (show Q.P.funcs[122]? =some Tryz.f122 from Tryz.func122) rfl zf6 rfl (by simp only [tzd,tze];decide) (by kernel_rfl)];simp [-getElem?_pos,-List.map_set,ho,hb,hol,h138,h139,r138,hcv]
theorem xrs (d:DV) (b:Nat) (hb1:b<=1) (base:Nat) (D:DH) (hd:below D.length d=true) (hb:base<=D.length) (hob:(D.drop base).all (zza D.length)=true):∃ v,zzg Q 144 [d,zze 0,zze b] base D=some (v,D):=by
 have hOK:zyg base D.length D=true:=by unfold zyg;rw [tzk (by rw [tyx];exact tzp _)];exact hob
 rw [zz2 (fn:=Tryz.f144) (show Q.P.funcs[144]? =some Tryz.f144 from Tryz.func144) rfl zi4 rfl (by simp only [tzd,tze];decide) (by kernel_rfl)];have gp:=xwz;simp [zi4,Tryz.f144,zym] at gp;simp [-List.map_set,gp,hOK,hb,hd,show zvu .i64 1=1 by kernel_rfl];rw [zzj];simp [-List.map_set,gp,show ¬(1:Int)<b by omega]
theorem xrt (d:DV) (b:Nat) (hb1:b<=1) (lim:Int) (base:Nat) (D:DH) (hd:below D.length d=true) (hb:base<=D.length) (hob:(D.drop base).all (zza D.length)=true):∃ v,zzg Q 138 [d,zze 0,zze b,zze lim] base D=some (v,D):=by
 obtain ⟨v,h144⟩:=xrs d b hb1 base D hd hb hob;have hOK:zyg base D.length D=true:=by unfold zyg;rw [tzk (by rw [tyx];exact tzp _)];exact hob
 have r144:(Q.ann 144).raw=true:=by rw [zi4]
 simp only [zze] at h144;rw [zz2 (fn:=Tryz.f138) (show Q.P.funcs[138]? =some Tryz.f138 from Tryz.func138) rfl zi3 rfl (by simp only [tzd,tze];decide) (by kernel_rfl)];have gp:=xwx;simp [zi3,Tryz.f138,zym] at gp;simp [-List.map_set,gp,hOK,hb,hd];rw [zzj];simp [-List.map_set,gp,hOK,hb,hd,h144,r144,zy9 (show -9223372036854775808<=(b:Int) by omega) (show (b:Int)<=9223372036854775807 by omega),show (b:Int)<=12 by omega]
theorem yca (d:DV) (n:Nat) (hn:n<=1) (base:Nat) (D:DH) (hlen:zqf D d=some n) (hd:below D.length d=true) (hb:base<=D.length) (hob:(D.drop base).all (zza D.length)=true):∃ v,zzg Q 122 [d] base D=some (v,D):=by
 obtain ⟨k,h139⟩:=xmo n (by omega) base D;obtain ⟨v,h138⟩:=xrt d n hn k base D hd hb hob;have r138:(Q.ann 138).raw=true:=by rw [zi3]
 have hcv:∀ H,zx8 Tryz.prog H 3 147 (.int .i64 n)=some (.int .u64 n):=λH=>xmq (by omega);simp only [zze] at h138 h139;rw [zz2 (fn:=Tryz.f122) (show Q.P.funcs[122]? =some Tryz.f122 from Tryz.func122) rfl zf6 rfl (by simp only [tzd,tze];decide) (by kernel_rfl)];simp [-List.map_set,hlen,h138,h139,r138,hcv]
end Go.Dv
namespace Go.Dv
open Go Go.Sim Go.Proofs Go.Fsa
attribute [local simp] zwo zxi zz0 zz1 zya zzv zz5 zzf zz8 zz6 zzt zz4
def xno (o n k:Nat) (r:DV):Prop:=(r=.apl o n/\k=n)∨(r=.prt o n 0 k/\k<=n)
theorem xnp {R:Option (DV×DH)} {f:List Int->DH} {p:DV->Nat->List Int->Prop} (r:DV) (k:Nat) (X:List Int) (hp:p r k X) (h:R=some (r,f X)):∃ (r:DV) (k:Nat) (X:List Int),R=some (r,f X)/\p r k X:=⟨r,k,X,h,hp⟩
theorem xk8 (l:List Int) (hl:l.length<1000000) (hs:Srt 0 l.length l) (o base:Nat) (D:DH) (hA:AtApp D base o l) :
  ∃ (r:DV) (k:Nat) (X:List Int),zzg Q 124 [.apl o l.length] base D=some (r,D.set o (.app 3 1 (X.map zzf)))/\(X.length=l.length/\IsSet (X.take k) l/\xno o l.length k r):=by
 have hol:=hA.len;have hb:=hA.b;have ho:=hA.o;obtain ⟨L,hL⟩:∃ L,L=D.length:=⟨_,rfl⟩;have hOK:∀ W:List Int,zyg base L (D.set o (.app 3 1 (W.map zzf)))=true:=λW=>by rw [hL];exact zqd hA.ob W
 have hbL:base<=L:=by omega
 have hoL:o<L:=by omega
 have hLD:L<=D.length:=by omega
 have hts:∀ X:DObj,List.take L (D.set o X)=D.set o X:=λX=>tzk (by rw [tz3];omega);have hget:∀ W:List Int,(D.set o (.app 3 1 (W.map zzf)))[o]? =some (.app 3 1 (W.map zzf)):=λW=>tz1 hol;have hsl:∀ W:List Int,(D.set o (.app 3 1 (W.map zzf))).length=L:=λW=>by rw [tz3,hL]
 have full:(∀ j x y,j+1<l.length->l[j]? =some x->l[j+1]? =some y->x≠y)->l.length=l.length/\IsSet (l.take l.length) l/\xno o l.length l.length (.apl o l.length):=λh=>by
  have c:=Cmp.first hs (tzp _) h
  exact ⟨rfl,⟨c.up,λx=>by rw [ty0]⟩,.inl ⟨rfl,rfl⟩⟩
 rw [zz2 (fn:=Tryz.f124) (show Q.P.funcs[124]? =some Tryz.f124 from Tryz.func124) rfl zps rfl (by simp only [tzd,tze];decide) (by kernel_rfl)];have gp:=yck;simp [zps,Tryz.f124,zym] at gp;by_cases h2:l.length<2
 .refine xnp (f:=λX=>D.set o (.app 3 1 (X.map zzf))) (.apl o l.length) l.length l (full λj x y h=>by omega) ?_;rw [<-hA.eq];simp [-getElem?_pos,-List.map_set,gp,ho,hb,hol,show (l.length:Int)<2 by omega]
 simp [-getElem?_pos,-List.map_set,gp,ho,hb,hol,show ¬(l.length:Int)<2 by omega];rw [show D.length=L from hL.symm]
 conv=>enter [1,r,1,k,1,X,1,1];rw [hA.eq]
 rw [if_pos ⟨hOK l,hbL⟩];generalize hs69:SD.mk _ _=sd69;revert sd69;refine wl (λi:Nat=>⟨(Trie.leaf.put 3 (zze i)).put 0 (.apl o l.length),D.set o (.app 3 1 (l.map zzf))⟩) (λi=>1<=i/\i<=l.length/\∀ j x y,j+1<i->l[j]? =some x->l[j+1]? =some y->x≠y) (λi=>l.length-i) ?_ 1 ⟨tzp _,by omega,λj x y h=>by omega⟩;rintro i ⟨hi1,hil,hne⟩ ih;rw [zzj];by_cases hlt:i<l.length
 case neg=>
  have:i=l.length:=by omega
  subst this;refine xnp (f:=λX=>D.set o (.app 3 1 (X.map zzf))) (.apl o l.length) l.length l (full hne) ?_;simp [-getElem?_pos,-List.map_set,gp,hget,hsl]
 obtain ⟨y,hy⟩:∃ y,l[i]? =some y:=⟨_,tzb hlt⟩;obtain ⟨m,hm0⟩:∃ m,m=i-1:=⟨_,rfl⟩;have hm:(i:Int)-1=(m:Int):=by omega
 obtain ⟨x,hx⟩:∃ x,l[m]? =some x:=⟨_,tzb (by omega)⟩;have wm:=zy9 (show -9223372036854775808<=(m:Int) by omega) (show (m:Int)<=9223372036854775807 by omega);by_cases hxy:y=x
 case neg=>
  have ih':=ih (i+1) ⟨by omega,by omega,λj u v hj hu hv=>by
   by_cases e:j+1=i
   .have:j=m:=by omega
    subst this
    rw [hx,tza] at hu
    rw [e,hy,tza] at hv
    exact λg=>hxy (by omega)
   .exact hne j u v (by omega) hu hv⟩ (by omega)
  simp [-getElem?_pos,-List.map_set] at ih';simp [-getElem?_pos,-List.map_set,gp,hget,hsl,hb,hOK,hbL,hol,hoL,hLD,hts,hlt,hy,hx,hxy,hm,wm,show m<l.length by omega,zzi (show i+1<=9223372036854775807 by omega)];exact ih'
 subst hxy;clear ih;have hc:Cmp l l i (i+1):=(Cmp.first hs (by omega) hne).same hi1 (by rw [<-hm0];exact hx) hy;simp [-getElem?_pos,-List.map_set,gp,hget,hsl,hb,hOK,hbL,hol,hoL,hLD,hts,hlt,hy,hx,hm,wm,show m<l.length by omega,show 0<l.length by omega,show i<=l.length by omega];generalize hX:zxj _ _ _=X
 obtain ⟨tm,W,rfl,⟨k,hk,t3,hW⟩,t0⟩:∃ (tm:Trie DV) (W:List Int),X=some (.exit 2,⟨tm,D.set o (.app 3 1 (W.map zzf))⟩)/\(∃ k:Nat,k<=l.length/\tm.get 3=some (zze k)/\Cmp l W k l.length)/\tm.get 0=some (.apl o l.length):=by
  rw [<-hX];clear hX;generalize hs70:SD.mk _ _=sd70;revert sd70;refine wl (λp:Nat×Nat×List Int=>⟨(((Trie.leaf.put 5 (zze p.1)).put 4 (.prt o l.length i (l.length-i))).put 3 (zze p.2.1)).put 0 (.apl o l.length),D.set o (.app 3 1 (p.2.2.map zzf))⟩) (λp=>1<=p.1/\i+p.1<=l.length/\p.2.1+1<=i+p.1/\Cmp l p.2.2 p.2.1 (i+p.1)) (λp=>l.length-p.1) ?_ (1,i,l) ⟨tzp _,by simp only;omega,by simp only;omega,hc⟩;rintro ⟨q,k,W⟩ ⟨hq1,hql,hkq,hC⟩ ih;simp only at hq1 hql hkq hC ih;have hWl:=hC.len;rw [zzj];by_cases hqt:q<l.length-i
  case neg=>
   have hqe:i+q=l.length:=by omega
   simp [-getElem?_pos,-List.map_set,gp,hget,hsl,hb,hol,hWl,hqt];refine ⟨_,W,⟨rfl,rfl⟩,⟨k,by omega,?_,by rw [<-hqe];exact hC⟩,?_⟩<;>simp [-getElem?_pos,-List.map_set]
  obtain ⟨z,hz⟩:∃ z,l[i+q]? =some z:=⟨_,tzb (by omega)⟩;obtain ⟨u,hu⟩:∃ u,l[i+q-1]? =some u:=⟨_,tzb (by omega)⟩;have hz':W[i+q]? =some z:=by rw [hC.rest _ (by omega)];exact hz
  have hu':W[i+q-1]? =some u:=by rw [hC.rest _ (by omega)];exact hu
  obtain ⟨g,hg0⟩:∃ g,g=q-1:=⟨_,rfl⟩;have hg:(q:Int)-1=(g:Int):=by omega
  have wg:=zy9 (show -9223372036854775808<=(g:Int) by omega) (show (g:Int)<=9223372036854775807 by omega);have hu2:W[i+g]? =some u:=by rw [show i+g=i+q-1 by omega];exact hu'
  have hwq:=zzi (show q+1<=9223372036854775807 by omega);have hwk:=zzi (show k+1<=9223372036854775807 by omega);by_cases hzu:z=u
  .have ih':=ih (q+1,k,W) ⟨by simp only;omega,by simp only;omega,by simp only;omega,by simp only;exact hC.same (by omega) hu (by rw [hz,hzu])⟩ (by simp only;omega);simp [-getElem?_pos,-List.map_set] at ih';simp [-getElem?_pos,-List.map_set,gp,hget,hsl,hb,hOK,hbL,hol,hoL,hLD,hts,hWl,hqt,hz',hu2,hzu,hg,wg,hwq,hwk,show g<l.length-i by omega,show i+q<l.length by omega,show i+g<l.length by omega];exact ih'
  obtain ⟨wk,hwk0⟩:∃ x,W[k]? =some x:=⟨_,tzb (by omega)⟩;have ih':=ih (q+1,k+1,W.set k z) ⟨by simp only;omega,by simp only;omega,by simp only;omega,by simp only;exact hC.new hs (by omega) (by omega) hu hz hzu⟩ (by simp only;omega);simp [-getElem?_pos,-List.map_set] at ih';simp [-getElem?_pos,-List.map_set,gp,hget,hsl,hb,hOK,hbL,hol,hoL,hLD,hts,hWl,hqt,hz',hu2,hzu,hg,wg,hwq,hwk,show g<l.length-i by omega,show i+q<l.length by omega,show i+g<l.length by omega,hwk0,show k<l.length by omega];exact ih'
 clear hX;have hWl:=hW.len;refine xnp (f:=λX=>D.set o (.app 3 1 (X.map zzf))) (.prt o l.length 0 k) k (W.take k++List.replicate (l.length-k) 0) ⟨by simp [-getElem?_pos,-List.map_set];omega,⟨?_,?_⟩,.inr ⟨rfl,hk⟩⟩ ?_
 .rw [txi (by simp [-getElem?_pos,-List.map_set];omega),List.take_take,Nat.min_self];exact hW.up
 .intro x;rw [txi (by simp [-getElem?_pos,-List.map_set];omega),List.take_take,Nat.min_self,hW.mem,ty0]
 simp [-getElem?_pos,-List.map_set,gp,t0,t3,hget,hsl,hb,hOK,hbL,hol,hoL,hLD,hts,hWl,hk,show 0<l.length by omega];rw [List.drop_eq_nil_of_le (by simp [-getElem?_pos,-List.map_set,hWl]),tyv]
end Go.Dv
namespace Go.Dv
open Go Go.Sim Go.Proofs Go.Fsa
attribute [local simp] zwo zxi zz0 zz1 zya zzv zz5 zzf zz8 zz6 zzt zz4 zzq zwc
theorem yly {P:Program} {t:TypeId} {x y:Operand} {n:Nat}:zty P .shr t x y (.int .i64 (n:Nat)) (.int .u64 8)=some (.int .i64 ((n / 256:Nat):Int)):=by
 have e:zty P .shr t x y (.int .i64 (n:Nat)) (.int .u64 8)=some (.int .i64 (Int.fdiv (n:Nat) (2 ^ 8))):=rfl;rw [e,Int.fdiv_eq_ediv_of_nonneg _ (by decide)];congr 2
theorem xru {P:Program} {t:TypeId} {x y:Operand} {n:Nat} (h:n<256):zty P .shl t x y (.int .i64 (n:Nat)) (.int .u64 8)=some (.int .i64 ((n*256:Nat):Int)):=by
 have e:zty P .shl t x y (.int .i64 (n:Nat)) (.int .u64 8)=some (.int .i64 (IntKind.i64.wrap ((n:Nat)*2 ^ 8))):=rfl;rw [e];congr 2;unfold IntKind.wrap;simp [-List.map_set,IntKind.bits,IntKind.signed];omega
theorem xnq {P:Program} {t:TypeId} {x y:Operand} {a b:Nat} (ha:a<256) (hb:b<256):zty P .or t x y (.int .i64 (a:Nat)) (.int .i64 ((b*256:Nat):Int))=some (.int .i64 ((a+b*256:Nat):Int)):=by
 have e:zty P .or t x y (.int .i64 (a:Nat)) (.int .i64 ((b*256:Nat):Int))=some (.int .i64 (IntKind.i64.wrap ((BitVec.ofInt 64 (a:Nat) ||| BitVec.ofInt 64 ((b*256:Nat):Int)).toNat:Nat))):=rfl;have e2:(BitVec.ofInt 64 (a:Nat) ||| BitVec.ofInt 64 ((b*256:Nat):Int)).toNat=a+b*256:=(by rw [BitVec.toNat_or,BitVec.ofInt_natCast,BitVec.ofInt_natCast,BitVec.toNat_ofNat,BitVec.toNat_ofNat,txu (by omega),txu (by omega),Nat.or_comm,Nat.mul_comm b 256];have:=Nat.two_pow_add_eq_or_of_lt (i:=8) (b:=a) (by omega) b;rw [show (2:Nat) ^ 8=256 from rfl] at this;omega);rw [e,e2];congr 2;unfold IntKind.wrap;simp [-List.map_set,IntKind.bits,IntKind.signed];omega
theorem xmr {H:Hp} {n:Nat}:zx8 Tryz.prog H 3 5 (.int .i64 n)=some (.int .u8 ((n % 256:Nat):Int)):=by
 rw [zhi (j:=.i64) (k:=.u8) (by kernel_rfl) (by kernel_rfl)];congr 2
theorem xxq {H:Hp} {n:Nat}:zx8 Tryz.prog H 3 5 (.int .i64 ((n:Int) / 256))=some (.int .u8 ((n:Int) / 256 % 256)):=xmr (n:=n / 256)
theorem xxr {H:Hp} {n:Nat}:zx8 Tryz.prog H 3 5 (.int .i64 (n:Int))=some (.int .u8 ((n:Int) % 256)):=xmr
theorem xk9 (s l:List Int) (hs:∀ x∈s,0<=x/\x<65536) (hl:s.length<1000000) (o:Nat) (r:DV) (base:Nat) (D:DH) (ho:D[o]? =some (.app 3 1 (l.map zzf))) (hls:l.take s.length=s) (hr:xno o l.length s.length r) :
  zzg Q 123 [r] base D=some (rv (zxf (zw9 s)),D):=by
 have hol:=zyr ho
 have hget:∀ i x,s[i]? =some x->l[i]? =some x:=λi x hx=>by
  rw [<-hls,tyb] at hx;split at hx
  .exact hx
  cases hx
 have g:=λX=>zzc (X:=X) ho;have hol0:∀ k,o<D.length+k:=λk=>by omega
 rw [zzb (fn:=Tryz.f123) (show Q.P.funcs[123]? =some Tryz.f123 from Tryz.func123) rfl yyf rfl (by simp only [tzd,tze];decide) (by kernel_rfl)];rcases hr with ⟨rfl,hk⟩ | ⟨rfl,hk⟩
 .simp [-getElem?_pos,-List.map_set,g,hol,hol0,hk];generalize hX:zxj _ _ _=X
  obtain ⟨tm,B,rfl,hB,t3⟩:∃ (tm:Trie DV) (B:List Nat),X=some (.exit 0,⟨tm,D++[.app 5 1 (B.map zy2)]⟩)/\B=ytp s/\tm.get 3=some (.apl D.length B.length):=by
   rw [<-hX];clear hX;generalize hs71:SD.mk _ _=sd71;revert sd71;refine wl (λp:Nat×List Nat=>⟨(((Trie.leaf.put 8 (zze p.1)).put 7 (zze l.length)).put 6 (.apl o l.length)).put 3 (.apl D.length p.2.length),D++[.app 5 1 (p.2.map zy2)]⟩) (λp=>p.1<=s.length/\p.2=ytp (s.take p.1)) (λp=>s.length-p.1) ?_ (0,[]) ⟨tz6 _,rfl⟩;rintro ⟨i,B⟩ ⟨hi,hB⟩ ih;simp only at hi hB ih;rw [zzj];have hBl:B.length=2*i:=by rw [hB,zlq,tyw];omega
   by_cases hlt:i<s.length
   case neg=>
    rw [tzk (by omega)] at hB;simp [-getElem?_pos,-List.map_set,g,hol,hol0,hk,hlt,show ¬i<l.length by omega];refine ⟨_,B,⟨rfl,rfl⟩,hB,?_⟩;simp [-getElem?_pos,-List.map_set]
   obtain ⟨x,hx⟩:∃ x,s[i]? =some x:=⟨_,tzb hlt⟩;obtain ⟨x1,x2⟩:=hs x (tzg hx);obtain ⟨n,rfl⟩:∃ n:Nat,x=n:=⟨x.toNat,by omega⟩;have hlx:=hget i _ hx;have ih':=ih (i+1,B++[n % 256,n / 256 % 256]) ⟨by simp only;omega,by simp only;rw [tz8,hx,yxj,<-hB];rfl⟩ (by simp only;omega);simp [-getElem?_pos,-List.map_set,zy2,hBl] at ih';simp [-getElem?_pos,-List.map_set,g,hol,hol0,hk,hlt,hlx,xxq,xxr,yly,zy2,hBl,show i<l.length by omega,show 2*i+2<=1099511627776 by omega,show 2*i<=1099511627774 by omega,zzi (show i+1<=9223372036854775807 by omega)];exact ih'
  clear hX;have hfin:zw9 s=B.map UInt8.ofNat:=by rw [hB];rfl
  rw [hfin];simp [-getElem?_pos,-List.map_set,t3,zo0]
 .simp [-getElem?_pos,-List.map_set,g,hol,hol0,hk];generalize hX:zxj _ _ _=X
  obtain ⟨tm,B,rfl,hB,t3⟩:∃ (tm:Trie DV) (B:List Nat),X=some (.exit 0,⟨tm,D++[.app 5 1 (B.map zy2)]⟩)/\B=ytp s/\tm.get 3=some (.apl D.length B.length):=by
   rw [<-hX];clear hX;generalize hs72:SD.mk _ _=sd72;revert sd72;refine wl (λp:Nat×List Nat=>⟨(((Trie.leaf.put 8 (zze p.1)).put 7 (zze s.length)).put 6 (.prt o l.length 0 s.length)).put 3 (.apl D.length p.2.length),D++[.app 5 1 (p.2.map zy2)]⟩) (λp=>p.1<=s.length/\p.2=ytp (s.take p.1)) (λp=>s.length-p.1) ?_ (0,[]) ⟨tz6 _,rfl⟩;rintro ⟨i,B⟩ ⟨hi,hB⟩ ih;simp only at hi hB ih;rw [zzj];have hBl:B.length=2*i:=by rw [hB,zlq,tyw];omega
   by_cases hlt:i<s.length
   case neg=>
    rw [tzk (by omega)] at hB;simp [-getElem?_pos,-List.map_set,g,hol,hol0,hk,hlt];refine ⟨_,B,⟨rfl,rfl⟩,hB,?_⟩;simp [-getElem?_pos,-List.map_set]
   obtain ⟨x,hx⟩:∃ x,s[i]? =some x:=⟨_,tzb hlt⟩;obtain ⟨x1,x2⟩:=hs x (tzg hx);obtain ⟨n,rfl⟩:∃ n:Nat,x=n:=⟨x.toNat,by omega⟩;have hlx:=hget i _ hx;have ih':=ih (i+1,B++[n % 256,n / 256 % 256]) ⟨by simp only;omega,by simp only;rw [tz8,hx,yxj,<-hB];rfl⟩ (by simp only;omega);simp [-getElem?_pos,-List.map_set,zy2,hBl] at ih';simp [-getElem?_pos,-List.map_set,g,hol,hol0,hk,hlt,hlx,xxq,xxr,yly,zy2,hBl,show i<l.length by omega,show 2*i+2<=1099511627776 by omega,show 2*i<=1099511627774 by omega,zzi (show i+1<=9223372036854775807 by omega)];exact ih'
  clear hX;have hfin:zw9 s=B.map UInt8.ofNat:=by rw [hB];rfl
  rw [hfin];simp [-getElem?_pos,-List.map_set,t3,zo0]
theorem yep (d:DV) (hd:d=zyf∨d=.f (.lst [])) (base:Nat) (D:DH):zzg Q 123 [d] base D=some (rv (zxf (zw9 [])),D):=by
 have hb:zuc []=some []:=rfl;have hk:zw9 []=[]:=rfl;rcases hd with rfl | rfl
 .rw [zzb (fn:=Tryz.f123) (show Q.P.funcs[123]? =some Tryz.f123 from Tryz.func123) rfl yyf rfl (by simp only [tzd,tze];decide) (by kernel_rfl)];simp [-List.map_set];rw [zzj];simp [-List.map_set,hb,hk]
 rw [zzb (fn:=Tryz.f123) (show Q.P.funcs[123]? =some Tryz.f123 from Tryz.func123) rfl yyf rfl (by simp only [tzd,tze];decide) (by kernel_rfl)];simp [-List.map_set];rw [zzj];simp [-List.map_set,hb,hk]
theorem yeq (x:Int) (hx:0<=x/\x<65536) (o:Nat) (base:Nat) (D:DH) (ho:D[o]? =some (.arr 1 [zzf x])):zzg Q 123 [.row o 0 1 1] base D=some (rv (zxf (zw9 [x])),D):=by
 have hol:=zyr ho;have g:=λX=>zzc (X:=X) ho;have hol0:∀ k,o<D.length+k:=λk=>by omega
 obtain ⟨n,rfl⟩:∃ n:Nat,x=n:=⟨x.toNat,by omega⟩;have h1:zvu .i64 1=1:=by kernel_rfl
 have hby:zuc [DV.f (.raw (.int .u8 ((n:Int) % 256))),DV.f (.raw (.int .u8 ((n:Int) / 256 % 256)))]=some (zw9 [(n:Int)]):=zo0 (l:=[n % 256,n / 256 % 256]);rw [zzb (fn:=Tryz.f123) (show Q.P.funcs[123]? =some Tryz.f123 from Tryz.func123) rfl yyf rfl (by simp only [tzd,tze];decide) (by kernel_rfl)];simp [-getElem?_pos,-List.map_set,g,hol,hol0];rw [zzj];simp [-getElem?_pos,-List.map_set,g,hol,hol0,xxq,xxr,yly,h1];rw [zzj];simp [-getElem?_pos,-List.map_set,g,hol,hol0,hby]
theorem xnr (n:Nat) (hn:n<=65536) (l:List Int) (hl:∀ x∈l,0<=x/\x<(n:Int)) (h1:l.length<=1) (d:DV) (base:Nat) (D:DH) (hlen:zqf D d=some l.length) (hd:below D.length d=true) (hb:base<=D.length) (hob:(D.drop base).all (zza D.length)=true)
  (hn':zva d=d) (h123:∀ bb,zzg Q 123 [d] bb D=some (rv (zxf (zw9 l)),D)):zzg Q 87 [d] base D=some (rv (zxf (zw9 (zyu n l))),D):=by
 obtain ⟨v,h122⟩:=yca d l.length h1 base D hlen hd hb hob
 have hset:l=zyu n l:=by
  refine IsSet.eq ⟨?_,λx=>Iff.rfl⟩ hl
  match l,h1 with
  | [],_=>exact .nil
  | [x],_=>exact List.pairwise_singleton _ _
 have r122:(Q.ann 122).raw=true:=by rw [zf6]
 have r124:(Q.ann 124).raw=true:=by rw [zps]
 have h124:zzg Q 124 [d] base D=some (d,D):=(by rw [zz2 (fn:=Tryz.f124) (show Q.P.funcs[124]? =some Tryz.f124 from Tryz.func124) rfl zps rfl (by simp only [tzd,tze];decide) (by kernel_rfl)];have gp:=yck;simp [zps,Tryz.f124,zym] at gp;simp [-List.map_set,gp,hlen,show (l.length:Int)<2 by omega,hn']);rw [<-hset];rw [zz2 (fn:=Tryz.f87) (show Q.P.funcs[87]? =some Tryz.f87 from Tryz.func87) rfl zmx rfl (by simp only [tzd,tze];decide) (by kernel_rfl)];have gp:=xn0;simp [zmx,Tryz.f87,zym] at gp;simp [-List.map_set,gp,h122,h123,h124,hn',r122,r124]
theorem ylz (n:Nat) (hn:n<=65536) (base:Nat) (D:DH) (hb:base<=D.length) (hob:(D.drop base).all (zza D.length)=true):zzg Q 87 [zyf] base D=some (rv (zxf (zw9 (zyu n []))),D):=by
 obtain ⟨v,h122⟩:=yca zyf 0 (tz6 _) base D rfl xr3 hb hob;have hset:zyu n []=[]:=by simp [-List.map_set,zyu]
 have r122:(Q.ann 122).raw=true:=by rw [zf6]
 have r124:(Q.ann 124).raw=true:=by rw [zps]
 have h124:zzg Q 124 [zyf] base D=some (zyf,D):=(by rw [zz2 (fn:=Tryz.f124) (show Q.P.funcs[124]? =some Tryz.f124 from Tryz.func124) rfl zps rfl (by simp only [tzd,tze];decide) (by kernel_rfl)];have gp:=yck;simp [zps,Tryz.f124,zym] at gp;simp [-List.map_set,gp,]);have h123:=λbb=>yep zyf (.inl rfl) bb D;rw [hset];rw [zz2 (fn:=Tryz.f87) (show Q.P.funcs[87]? =some Tryz.f87 from Tryz.func87) rfl zmx rfl (by simp only [tzd,tze];decide) (by kernel_rfl)];have gp:=xn0;simp [zmx,Tryz.f87,zym] at gp;simp [-List.map_set,gp,h122,h123,h124,r122,r124]
theorem xxs (n:Nat) (hn:n<=65536) (x:Int) (hx:0<=x/\x<(n:Int)) (o:Nat) (base:Nat) (D:DH) (ho:D[o]? =some (.arr 1 [zzf x])) (hb:base<=D.length) (hob:(D.drop base).all (zza D.length)=true):zzg Q 87 [.row o 0 1 1] base D=some (rv (zxf (zw9 (zyu n [x]))),D):=
 xnr n hn [x] (λy h=>by rw [tzw] at h;rw [h];exact hx) (tzp _) (.row o 0 1 1) base D (by simp [-List.map_set,ho]) (by rw [zkl];exact decide_eq_true (zyr ho)) hb hob (by simp [-List.map_set]) λbb=>yeq x ⟨hx.1,by omega⟩ o bb D ho
theorem AtApp.set {D:DH} {base o:Nat} {l:List Int} (h:AtApp D base o l) (W:List Int):AtApp (D.set o (.app 3 1 (W.map zzf))) base o W:=by
 refine ⟨h.b,?_,tz1 h.len⟩;have:=zqd (o:=o) h.ob W;unfold zyg at this;rw [tzk (by rw [tyx,tz3];exact tzp _)] at this;rw [tz3];exact this
theorem w87 (n:Nat) (hn:n<=65536) (l:List Int) (hl:∀ x∈l,0<=x/\x<(n:Int)) (h12:l.length<=12) (o base:Nat) (D:DH) (hA:AtApp D base o l) :
  ∃ X:List Int,zzg Q 87 [.apl o l.length] base D=some (rv (zxf (zw9 (zyu n l))),D.set o (.app 3 1 (X.map zzf))):=by
 obtain ⟨v,W,h122,hsw,hsrt⟩:=xk7 l h12 o base D hA;have hWl:=hsw.len;rw [<-hWl] at hsrt;obtain ⟨r,k,X,h124,hXl,hset,hr⟩:=xk8 W (by omega) hsrt o base _ (hA.set W);rw [List.set_set] at h124;have hk:k<=X.length:=by rcases hr with ⟨_,h⟩ | ⟨_,h⟩<;>omega
 have hsl:(X.take k).length=k:=by rw [tyw];omega
 have hss:IsSet (X.take k) l:=⟨hset.up,λx=>(hset.mem x).trans (hsw.mem x)⟩;have h123:=λbb=>xk9 (X.take k) X (λx hx=>by have:=hl x ((hss.mem x).1 hx);omega) (by omega) o r bb (D.set o (.app 3 1 (X.map zzf))) (tz1 hA.len) (by rw [hsl]) (by rw [hsl,hXl];exact hr);rw [hss.eq hl] at h123;refine ⟨X,?_⟩;have r122:(Q.ann 122).raw=true:=by rw [zf6]
 have r124:(Q.ann 124).raw=true:=by rw [zps]
 rw [hWl] at h124;have hn':zva r=r:=by rcases hr with ⟨rfl,_⟩ | ⟨rfl,_⟩<;>rfl
 rw [zz2 (fn:=Tryz.f87) (show Q.P.funcs[87]? =some Tryz.f87 from Tryz.func87) rfl zmx rfl (by simp only [tzd,tze];decide) (by kernel_rfl)];simp [-List.map_set,h122,h123,h124,hn',r122,r124]
end Go.Dv
namespace Go.Dv
open Go Go.Sim Go.Proofs Go.Fsa
attribute [local simp] zwo zxi zz0 zz1 zya zzv zz5 zzf zz8 zz6 zzt zz4 zzq zwc
theorem ixB {l:List UInt8} {i:Nat} {k:IntKind} {c:UInt8} (h:l[i]? =some c):zvb Tryz.prog 9 (some (.f (.raw (zxf l)))) (some (.f (.raw (.int k (i:Nat)))))=some (.f (.raw (.int .u8 ((c.toNat:Nat):Int)))):=by
 have e:=ixS (b:=⟨l.toArray⟩) (i:=i) (k:=k) (by simpa [-List.map_set] using zzy h);have h':((⟨l.toArray⟩:ByteArray).data.toList)[i]? =some c:=by simpa [-List.map_set] using h
 rw [h',tye] at e;exact e
theorem zf0 {D:DH} {l:List UInt8}:zc4 D (.f (.raw (zxf l))) (some 0)=some (rv (zlt l.length)):=rfl
theorem zv2 {l:List UInt8}:zva (.f (.raw (zxf l)))=.f (.raw (zxf l)):=rfl
attribute [local simp] zv2
theorem xrv {P:Program} {t:TypeId} {x y:Operand} {n:Nat} (h:n<1000000):zty P .quo t x y (.int .i64 (2*(n:Int))) (.int .i64 2)=some (.int .i64 n):=by
 have e:zty P .quo t x y (.int .i64 (2*(n:Int))) (.int .i64 2)=some (.int .i64 (zvu .i64 ((2*(n:Int)).tdiv 2))):=rfl;have e2:(2*(n:Int)).tdiv 2=n:=by rw [Int.tdiv_eq_ediv_of_nonneg (by omega)];omega
 rw [e,e2,zy9 (by omega) (by omega)]
theorem xja (s:List Int) (hs:∀ x∈s,0<=x/\x<65536) (hl:s.length<1000000) (base:Nat) (D:DH):zzg Q 102 [rv (zxf (zw9 s))] base D=some (zyq s,D):=by
 have hk:=yfh (s:=s);have hq:=λ(t:TypeId) (x y:Operand)=>xrv (P:=Tryz.prog) (t:=t) (x:=x) (y:=y) hl;rw [zzb (fn:=Tryz.f102) (show Q.P.funcs[102]? =some Tryz.f102 from Tryz.func102) rfl yye rfl (by simp only [tzd,tze];decide) (by kernel_rfl)];have gp:=xqu;simp [yye,Tryz.f102,zym] at gp;simp [-List.map_set,gp,zf0,hk,hq,show s.length<=140737488355328 by omega,show s.length*8<=140737488355328 by omega,show s.length<9223372036854775808 by omega];have hrep:List.replicate s.length (DV.f (.raw (.int .i64 0)))=(List.replicate s.length (0:Int)).map zzf:=zn0;rw [hrep];generalize hs73:SD.mk _ _=sd73;revert sd73;refine wl (λp:Nat×List Int=>⟨((Trie.leaf.put 4 (zze ((2*p.1:Nat):Int))).put 3 (.row D.length 0 p.1 s.length)).put 0 (rv (zxf (zw9 s))),D++[.arr 1 (p.2.map zzf)]⟩) (λp=>p.1<=s.length/\p.2.length=s.length/\p.2.take p.1=s.take p.1) (λp=>s.length-p.1) ?_ (0,List.replicate s.length 0) ⟨tz6 _,by simp [-List.map_set],rfl⟩;rintro ⟨i,W⟩ ⟨hi,hWl,hW⟩ ih;simp only at hi hWl hW ih;rw [zzj];by_cases hlt:i<s.length
 case neg=>
  have:i=s.length:=by omega
  subst this;rw [ty0,tzk (by omega)] at hW;subst hW;simp [-List.map_set,gp,zf0,hk];rw [tzk (by simp [-List.map_set])];exact ⟨_,zz5⟩
 obtain ⟨x,hx⟩:∃ x,s[i]? =some x:=⟨_,tzb hlt⟩;obtain ⟨a,b,ha,hb,hab⟩:=yfi hs hx;subst hab;have ia:zvb Tryz.prog 9 (some (.f (.raw (zxf (zw9 s))))) (some (.f (.raw (.int .i64 (2*(i:Int))))))=some (.f (.raw (.int .u8 ((a.toNat:Nat):Int)))):=ixB (k:=.i64) ha;have ib:zvb Tryz.prog 9 (some (.f (.raw (zxf (zw9 s))))) (some (.f (.raw (.int .i64 (2*(i:Int)+1)))))=some (.f (.raw (.int .u8 ((b.toNat:Nat):Int)))):=ixB (k:=.i64) hb;have a8:=a.toNat_lt;have b8:=b.toNat_lt;have hor:∀ (t:TypeId) (x y:Operand),zty Tryz.prog .or t x y (.int .i64 (a.toNat:Nat)) (.int .i64 ((b.toNat:Int)*256))=some (.int .i64 ((a.toNat:Int)+(b.toNat:Int)*256)):=λ(t:TypeId) (x y:Operand)=>xnq (P:=Tryz.prog) (t:=t) (x:=x) (y:=y) (show a.toNat<256 from a8) (show b.toNat<256 from b8);have hshl:∀ (t:TypeId) (x y:Operand),zty Tryz.prog .shl t x y (.int .i64 (b.toNat:Nat)) (.int .u64 8)=some (.int .i64 ((b.toNat:Int)*256)):=λ(t:TypeId) (x y:Operand)=>xru (P:=Tryz.prog) (t:=t) (x:=x) (y:=y) (show b.toNat<256 from b8);have cva:∀ H,zx8 Tryz.prog H 5 3 (.int .u8 (a.toNat:Nat))=some (.int .i64 (a.toNat:Nat)):=λH=>xnm a8;have cvb:∀ H,zx8 Tryz.prog H 5 3 (.int .u8 (b.toNat:Nat))=some (.int .i64 (b.toNat:Nat)):=λH=>xnm b8;have ih':=ih (i+1,W.set i ((a.toNat+b.toNat*256:Nat):Int)) ⟨by simp only;omega,by simp only [tz3];exact hWl,by simp only;rw [zs1 (by omega),hW,tz8,hx];rfl⟩ (by simp only;omega);have hput:List.take i (W.map zzf)++DV.f (.raw (.int .i64 ((a.toNat:Int)+(b.toNat:Int)*256)))::List.drop (i+1) (W.map zzf)=(W.set i ((a.toNat:Int)+(b.toNat:Int)*256)).map zzf:=(by rw [List.set_eq_take_append_cons_drop,if_pos (by omega)];simp [-List.map_set]);simp [-List.map_set] at ih';simp [-List.map_set,gp,hput,show (i+1)*8<=1099511627776 by omega,show i<=1099511627775 by omega,show i<=s.length by omega,zf0,hk,hlt,ia,ib,cva,cvb,hor,hshl,hWl,show 2*(i:Int)<2*s.length by omega,show i+1<=s.length by omega,zy9 (show -9223372036854775808<=2*(i:Int)+1 by omega) (show 2*(i:Int)+1<=9223372036854775807 by omega),zy9 (show -9223372036854775808<=2*(i:Int)+2 by omega) (show 2*(i:Int)+2<=9223372036854775807 by omega)]
 exact ih'
end Go.Dv
namespace Go.Dv
open Go Go.Sim Go.Proofs Go.Fsa
attribute [local simp] zwo zxi zzn zz0 zz1 zya zzv zz5 zzf zz8 zz6 zzt zz4 zzq zwc zv2
theorem xqa {s:List Int} (hs:∀ x∈s,0<=x/\x<65536) (hl:s.length<1000000) {base:Nat} {D:DH}:zzg Q 102 [.f (.raw (zxf (zw9 s)))] base D=some (.f (.lst (s.map zf4)),D):=xja s hs hl base D
theorem w92 (a:Aut) (hv:a.valid) (s:List Int) (hs:inA a s) (hl:s.length<1000000) (c:Nat) (hc:(c:Int)<a.sy) (base:Nat) (D:DH) (hb:base<=D.length) (hob:(D.drop base).all (zza D.length)=true) :
  zzg Q 92 [zzn a,rv (zxf (zw9 s)),zze c] base D=some (.apl (D.length+1) (zik a s c).length,D++[.arr 4 [zzn a],.app 3 1 ((zik a s c).map zzf)]):=by
 have hbk:∀ k,base<=D.length+k:=λk=>by omega
 have hOK:∀ k X,zyg base (D.length+k) (D++X)=(X.take k).all (zza (D.length+k)):=λk X=>zwv hb hob;have h102:=λbb D'=>xqa (base:=bb) (D:=D') (hs.hi hv) hl;have r102:(Q.ann 102).raw=false:=by rw [yye]
 rw [zz2 (fn:=Tryz.f92) (show Q.P.funcs[92]? =some Tryz.f92 from Tryz.func92) rfl ycg rfl (by simp only [tzd,tze];decide) (by kernel_rfl)];simp [-getElem?_pos,-List.map_set,h102,hb,hbk,hOK];generalize hs74:SD.mk _ _=sd74;revert sd74;refine wl (λp:Nat×List Int=>⟨(((((Trie.leaf.put 14 (zze p.1)).put 13 (zze s.length)).put 12 (zyq s)).put 7 (.apl (D.length+1) p.2.length)).put 3 (.ref D.length 0 0)).put 2 (zze c),D++[.arr 4 [zzn a],.app 3 1 (p.2.map zzf)]⟩) (λp=>p.1<=s.length/\p.2=zik a (s.take p.1) c) (λp=>s.length-p.1) ?_ (0,[]) ⟨tz6 _,rfl⟩;rintro ⟨i,W⟩ ⟨hi,hW⟩ ih;simp only at hi hW ih;have hWl:W.length<=i:=by rw [hW];exact tys zfe (by rw [tyw];omega)
 rw [zzj];by_cases hlt:i<s.length
 case neg=>
  rw [tzk (by omega)] at hW;subst hW;simp [-getElem?_pos,-List.map_set,hb,hbk,hOK,hlt]
 obtain ⟨x,hx⟩:∃ x,s[i]? =some x:=⟨_,tzb hlt⟩;obtain ⟨x1,x2⟩:=hs x (tzg hx);obtain ⟨n,rfl⟩:∃ n:Nat,x=n:=⟨x.toNat,by omega⟩;obtain ⟨r,hr,ht⟩:=a.go_some hv x1 x2 hc;rw [tym] at hr;have hT:zik a (s.take (i+1)) c=W++if 0<=a.go n c then [a.go n c] else []:=by rw [tz8,hx,hW];exact yme
 by_cases hg:0<=a.go n c
 .have ih':=ih (i+1,W++[a.go n c]) ⟨by simp only;omega,by simp only;rw [hT,if_pos hg]⟩ (by simp only;omega);simp [-getElem?_pos,-List.map_set] at ih';simp [-getElem?_pos,-List.map_set,hb,hbk,hOK,hlt,hx,hr,ht,hg,show (W.length+1)*8<=1099511627776 by omega,show W.length<=1099511627775 by omega,zzi (show i+1<=9223372036854775807 by omega)];exact ih'
 .have ih':=ih (i+1,W) ⟨by simp only;omega,by simp only;rw [hT,if_neg hg,tyv]⟩ (by simp only;omega);simp [-getElem?_pos,-List.map_set] at ih';simp [-getElem?_pos,-List.map_set,hb,hbk,hOK,hlt,hx,hr,ht,hg,zzi (show i+1<=9223372036854775807 by omega)];exact ih'
theorem xjb (a:Aut) (hv:a.valid) (o:Nat) (x:Nat) (hx:x<a.nxt.length) (base:Nat) (D:DH) (ho:D[o]? =some (.arr 4 [zzn a])):zzg Q 125 [zze x,.ref o 0 0] base D=some (zzr (a.accB x),D):=by
 have hl:=hv.len;obtain ⟨b,hb⟩:∃ b,a.acc[x]? =some b:=⟨_,tzb (by omega)⟩;rw [zzb (fn:=Tryz.f125) (show Q.P.funcs[125]? =some Tryz.f125 from Tryz.func125) rfl xwv rfl (by simp only [tzd,tze];decide) (by kernel_rfl)];simp [-List.map_set,ho,hb,Aut.accB]
theorem w98 (a:Aut) (hv:a.valid) (o:Nat) (x:Nat) (hx:x<a.nxt.length) (base:Nat) (D:DH) (ho:D[o]? =some (.arr 4 [zzn a])):zzg Q 98 [zze x,.ref o 0 0] base D=some (zzr (a.accB x),D):=by
 have hl:=hv.len;obtain ⟨b,hb⟩:∃ b,a.acc[x]? =some b:=⟨_,tzb (by omega)⟩;rw [zzb (fn:=Tryz.f98) (show Q.P.funcs[98]? =some Tryz.f98 from Tryz.func98) rfl xqs rfl (by simp only [tzd,tze];decide) (by kernel_rfl)];simp [-List.map_set,ho,hb,Aut.accB]
theorem xns (l:List Int) (hl:l.length<1152921504606846976) (g:FuncId) (a b:List DV) (p:Int->Bool) (o base:Nat) (D:DH) (hp:FnB g a b D l p) (ho:D[o]? =some (.app 3 1 (l.map zzf))):zzg Q 120 [.apl o l.length,.fn g a b] base D=some (zze (((l.findIdx? p).map λn=>(n:Int)).getD (-1)),D):=by
 obtain ⟨ka,kb,hp⟩:=hp;have hol:=zyr ho;rw [zzb (fn:=Tryz.f120) (show Q.P.funcs[120]? =some Tryz.f120 from Tryz.func120) rfl yeu rfl (by simp only [tzd,tze];decide) (by kernel_rfl)];simp [-getElem?_pos,-List.map_set,ka,kb,ho,hol];generalize hs75:SD.mk _ _=sd75;revert sd75;refine wl (λi:Nat=>⟨(((Trie.leaf.put 8 (zze i)).put 7 (zze l.length)).put 1 (.fn g a b)).put 0 (.apl o l.length),D⟩) (λi=>i<=l.length/\∀ j x,j<i->l[j]? =some x->p x=false) (λi=>l.length-i) ?_ 0 ⟨by omega,λj x h=>by omega⟩;intro i ⟨hi,ht⟩ ih;rw [zzj];by_cases hlt:i<l.length
 .obtain ⟨x,hx⟩:∃ x,l[i]? =some x:=⟨_,tzb hlt⟩;have hp':=λbb=>hp x bb (tzg hx);cases hpx:p x with
  | false=>
   have ih':=ih (i+1) ⟨by omega,λj y hj hy=>by
    by_cases h:j=i
    .subst h;rw [hx] at hy;cases hy;exact hpx
    .exact ht j y (by omega) hy⟩ (by omega)
   simp [-getElem?_pos,-List.map_set] at ih';simp [-getElem?_pos,-List.map_set,ka,kb,ho,hol,hlt,hx,hp',hpx,zzi (show i+1<=9223372036854775807 by omega)];exact ih'
  | true=>
   have hf:l.findIdx? p=some i:=(by rw [List.findIdx?_eq_some_iff_getElem];rw [tzb hlt,tza] at hx;exact ⟨hlt,by rw [hx];exact hpx,λj hj=>by rw [ht j _ hj (tzb (by omega))];simp [-getElem?_pos,-List.map_set]⟩);simp [-getElem?_pos,-List.map_set,ka,kb,ho,hol,hlt,hx,hp',hpx,hf]
 .have hf:l.findIdx? p=none:=(by rw [ty6];intro x hx;obtain ⟨j,hj,rfl⟩:=tyn hx;exact ht j _ (by omega) (tzb hj));simp [-getElem?_pos,-List.map_set,ho,hol,hlt,hf]
theorem xjc (l:List Int) (hl:l.length<1152921504606846976) (g:FuncId) (a b:List DV) (p:Int->Bool) (o base:Nat) (D:DH) (hp:FnB g a b D l p) (ho:D[o]? =some (.app 3 1 (l.map zzf))):zzg Q 73 [.apl o l.length,.fn g a b] base D=some (zzr (l.any p),D):=by
 have h120:=λbb=>xns l hl g a b p o bb D hp ho;simp only [zze] at h120;rw [zzb (fn:=Tryz.f73) (show Q.P.funcs[73]? =some Tryz.f73 from Tryz.func73) rfl ykj rfl (by simp only [tzd,tze];decide) (by kernel_rfl)];cases h:l.findIdx? p with
 | none=>
  have:l.any p=false:=(by rw [ty6] at h;simpa [-List.map_set] using h);rw [h] at h120;simp [-List.map_set,h120,this]
 | some i=>
  have:l.any p=true:=(by rw [List.findIdx?_eq_some_iff_getElem] at h;obtain ⟨h1,h2,_⟩:=h;exact List.any_eq_true.2 ⟨_,List.getElem_mem h1,h2⟩);rw [h] at h120;simp [-List.map_set,h120,this]
theorem f125 (a:Aut) (hv:a.valid) (o:Nat) (D:DH) (ho:D[o]? =some (.arr 4 [zzn a])) (l:List Int) (hl:inA a l):FnB 125 [] [.ref o 0 0] D l a.accB:=
 ⟨by simp [-List.map_set],by simp [-List.map_set,zyr ho],λx base hx=>by
  obtain ⟨h1,h2⟩:=hl x hx
  obtain ⟨n,rfl⟩:∃ n:Nat,x=n:=⟨x.toNat,by omega⟩
  exact xjb a hv o n (by omega) base D ho⟩
theorem f98 (a:Aut) (hv:a.valid) (o:Nat) (D:DH) (ho:D[o]? =some (.arr 4 [zzn a])) (l:List Int) (hl:inA a l):FnB 98 [] [.ref o 0 0] D l a.accB:=
 ⟨by simp [-List.map_set],by simp [-List.map_set,zyr ho],λx base hx=>by
  obtain ⟨h1,h2⟩:=hl x hx
  obtain ⟨n,rfl⟩:∃ n:Nat,x=n:=⟨x.toNat,by omega⟩
  exact w98 a hv o n (by omega) base D ho⟩
theorem w94 (a:Aut) (hv:a.valid) (s:List Int) (hs:inA a s) (hl:s.length<1000000) (base:Nat) (D:DH):zzg Q 94 [zzn a,rv (zxf (zw9 s))] base D=some (zzr (s.any a.accB),D):=by
 have h102:=λbb D'=>xqa (base:=bb) (D:=D') (hs.hi hv) hl;have h73:=λbb=>w73 s (by omega) 125 [] [.ref D.length 0 0] a.accB bb (D++[.arr 4 [zzn a]]) (f125 a hv D.length _ (by simp [-List.map_set]) s hs);simp only [zzr,zzn,zyq,zx2] at h73;rw [zzb (fn:=Tryz.f94) (show Q.P.funcs[94]? =some Tryz.f94 from Tryz.func94) rfl xqq rfl (by simp only [tzd,tze];decide) (by kernel_rfl)];simp [-List.map_set,h102,h73]
theorem xjd (l:List Int) (hl:l.length<1152921504606846976) (x:Int) (base:Nat) (D:DH):∃ r:Int,zzg Q 126 [zyq l,zze x] base D=some (zze r,D)/\(0<=r↔x∈l):=by
 rw [zzb (fn:=Tryz.f126) (show Q.P.funcs[126]? =some Tryz.f126 from Tryz.func126) rfl xww rfl (by simp only [tzd,tze];decide) (by kernel_rfl)];simp [-getElem?_pos,-List.map_set];generalize hs76:SD.mk _ _=sd76;revert sd76;refine wl (λi:Nat=>⟨(((Trie.leaf.put 8 (zze i)).put 7 (zze l.length)).put 1 (zze x)).put 0 (zyq l),D⟩) (λi=>i<=l.length/\x∉l.take i) (λi=>l.length-i) ?_ 0 ⟨by omega,by simp [-getElem?_pos,-List.map_set]⟩;intro i ⟨hi,ht⟩ ih;rw [zzj];by_cases hlt:i<l.length
 .obtain ⟨y,hy⟩:∃ x,l[i]? =some x:=⟨_,tzb hlt⟩;by_cases hxy:x=y
  .subst hxy;simp [-getElem?_pos,-List.map_set,hlt,hy];exact tzg hy
  have ih':=ih (i+1) ⟨by omega,by
   rw [zv4 hy]
   rintro (h | h)
   .exact ht h
   .exact hxy h⟩ (by omega)
  simp [-getElem?_pos,-List.map_set] at ih';simp [-getElem?_pos,-List.map_set,hlt,hy,hxy,zzi (show i+1<=9223372036854775807 by omega)];exact ih'
 .rw [tzk (by omega)] at ht;simp [-getElem?_pos,-List.map_set,hlt];exact ht
theorem xje (l:List Int) (hl:l.length<1152921504606846976) (x:Int) (base:Nat) (D:DH):zzg Q 104 [zyq l,zze x] base D=some (zzr (decide (x∈l)),D):=by
 obtain ⟨r,h126,hr⟩:=xjd l hl x D.length D;simp only [zze,zyq,zx2] at h126;rw [zzb (fn:=Tryz.f104) (show Q.P.funcs[104]? =some Tryz.f104 from Tryz.func104) rfl ye4 rfl (by simp only [tzd,tze];decide) (by kernel_rfl)];simp [-List.map_set,h126,hr]
end Go.Dv
set_option maxHeartbeats 2000000
namespace Go.Dv
open Go Go.Sim Go.Proofs Go.Fsa
abbrev ysv (p:Int×List UInt8):Value:=.agg #[.int .i64 p.1,zxf p.2]
def spD (p:Int×List UInt8):DV:=.agg [.f (.raw (.int .i64 p.1)),.f (.raw (zxf p.2))]
abbrev ysw (p:Bool×List UInt8):Value:=.agg #[.bool p.1,zxf p.2]
def agD (p:Bool×List UInt8):DV:=.agg [.f (.raw (.bool p.1)),.f (.raw (zxf p.2))]
theorem xrw:zzs Tryz.prog (underlying 101)=some (.struct #[⟨ "first",3,0,false, "", "cayley/fsa",0⟩,⟨ "set",9,1,false, "", "cayley/fsa",8⟩]):=by kernel_rfl
theorem xrx:zzs Tryz.prog (underlying 112)=some (.struct #[⟨ "begin",4,0,false, "", "cayley/fsa",0⟩,⟨ "set",9,1,false, "", "cayley/fsa",8⟩]):=by kernel_rfl
theorem pu9:zzs Tryz.prog (underlying 9)=some .string:=by kernel_rfl
theorem pu4:zzs Tryz.prog (underlying 4)=some .bool:=by kernel_rfl
theorem pe9 (d:Nat) (a c:List UInt8):zzs Tryz.prog (Op.equalIn (d+1) 9 (zxf a) (zxf c))=some (decide (a=c)):=by
 rw [Op.equalIn];simp only [zzx,pu9,tzn,zxf,zyh,tza];have hbe:∀ x y:ByteArray,(x==y)=(x.data==y.data):=λx y=>by cases x;cases y;rfl
 rw [hbe];by_cases h:a=c<;>simp [-List.map_set,h]
theorem pe4 (d:Nat) (a c:Bool):zzs Tryz.prog (Op.equalIn (d+1) 4 (.bool a) (.bool c))=some (a==c):=by
 rw [Op.equalIn];simp only [zzx,pu4,tzn,zyh]
theorem pk9 (e:Bool) (d:Nat) (a:List UInt8):zzs Tryz.prog (Instr.checkKey e (d+1) 9 (zxf a))=some ():=by
 rw [Instr.checkKey];simp only [zzx,pu9,tzn,zxf,zyh]
theorem pk4 (e:Bool) (d:Nat) (a:Bool):zzs Tryz.prog (Instr.checkKey e (d+1) 4 (.bool a))=some ():=by
 rw [Instr.checkKey];simp only [zzx,pu4,tzn,zyh]
theorem xnt (x y:Int×List UInt8):ziq Tryz.prog 101 (ysv x) (ysv y)=some (decide (x=y)):=by
 obtain ⟨a,b⟩:=x;obtain ⟨c,d⟩:=y;have q0:∀ a b,zzs Tryz.prog (part 3 #[.int .i64 a,zxf b] 0)=some (.int .i64 a):=λa b=>rfl;have q1:∀ a b,zzs Tryz.prog (part 9 #[.int .i64 a,zxf b] 1)=some (zxf b):=λa b=>by rfl
 have hs:Tryz.prog.stoodInHeld 101=false:=by kernel_rfl
 have hp:zzs Tryz.prog program=some Tryz.prog:=rfl;unfold ziq Op.equal;show zzs Tryz.prog (Op.equalIn (9998+1+1) 101 _ _)=_;rw [Op.equalIn];simp only [zzx,xrw,tzn,hp,hs];simp [-List.map_set,zzx,q0,q1,pe3,pe9,zyh];by_cases h1:a=c<;>by_cases h2:b=d<;>simp [-List.map_set,h1,h2,zzx,zyh,q0,q1,pe3,pe9]
theorem xnu (x:Int×List UInt8) (es:List MapEntry):zx0 Tryz.prog 101 (ysv x) es=zti Tryz.prog 101 (ysv x) es 0:=by
 obtain ⟨a,b⟩:=x;have q0:∀ a b,zzs Tryz.prog (part 3 #[.int .i64 a,zxf b] 0)=some (.int .i64 a):=λa b=>rfl;have q1:∀ a b,zzs Tryz.prog (part 9 #[.int .i64 a,zxf b] 1)=some (zxf b):=λa b=>by rfl
 unfold zx0;rw [show Tryz.prog.underlying 101=some (.struct #[⟨ "first",3,0,false, "", "cayley/fsa",0⟩,⟨ "set",9,1,false, "", "cayley/fsa",8⟩]) by kernel_rfl]
 show (match zyj (ysv (a,b)) with
  | true=>match zzs Tryz.prog (Instr.checkKey false 10000 101 (ysv (a,b))) with
   | some ()=>match zzs Tryz.prog (Instr.checkKey true 10000 101 (ysv (a,b))) with
    | some ()=>zti Tryz.prog 101 (ysv (a,b)) es 0
    | none=>none
   | none=>none
  | false=>none)=_
 have hc:∀ e,zzs Tryz.prog (Instr.checkKey e 10000 101 (ysv (a,b)))=some ():=(by intro e;rw [show (10000:Nat)=9998+1+1 from rfl,Instr.checkKey];simp only [zzx,xrw,tzn];simp [-List.map_set,zzx,q0,q1,pk3,pk9,zyh]);rw [hc,hc,show zyj (ysv (a,b))=true from rfl]
theorem xry:KeyD Tryz.prog 101 ysv:=by
 refine ⟨λks x=>?_⟩;rw [xnu];rw [zsu (enc:=ysv) (λ_=>rfl) (λk y=>xnt k y)];cases List.findIdx? (λy=>decide (x=y)) ks<;>rfl
theorem xnv (x y:Bool×List UInt8):ziq Tryz.prog 112 (ysw x) (ysw y)=some (decide (x=y)):=by
 obtain ⟨a,b⟩:=x;obtain ⟨c,d⟩:=y;have q0:∀ a b,zzs Tryz.prog (part 4 #[.bool a,zxf b] 0)=some (.bool a):=λa b=>rfl;have q1:∀ a b,zzs Tryz.prog (part 9 #[.bool a,zxf b] 1)=some (zxf b):=λa b=>by rfl
 have hs:Tryz.prog.stoodInHeld 112=false:=by kernel_rfl
 have hp:zzs Tryz.prog program=some Tryz.prog:=rfl;unfold ziq Op.equal;show zzs Tryz.prog (Op.equalIn (9998+1+1) 112 _ _)=_;rw [Op.equalIn];simp only [zzx,xrx,tzn,hp,hs];simp [-List.map_set,zzx,q0,q1,pe4,pe9,zyh];by_cases h1:a=c<;>by_cases h2:b=d<;>simp [-List.map_set,h1,h2,zzx,zyh,q0,q1,pe4,pe9]
theorem xnw (x:Bool×List UInt8) (es:List MapEntry):zx0 Tryz.prog 112 (ysw x) es=zti Tryz.prog 112 (ysw x) es 0:=by
 obtain ⟨a,b⟩:=x;have q0:∀ a b,zzs Tryz.prog (part 4 #[.bool a,zxf b] 0)=some (.bool a):=λa b=>rfl;have q1:∀ a b,zzs Tryz.prog (part 9 #[.bool a,zxf b] 1)=some (zxf b):=λa b=>by rfl
 unfold zx0;rw [show Tryz.prog.underlying 112=some (.struct #[⟨ "begin",4,0,false, "", "cayley/fsa",0⟩,⟨ "set",9,1,false, "", "cayley/fsa",8⟩]) by kernel_rfl]
 show (match zyj (ysw (a,b)) with
  | true=>match zzs Tryz.prog (Instr.checkKey false 10000 112 (ysw (a,b))) with
   | some ()=>match zzs Tryz.prog (Instr.checkKey true 10000 112 (ysw (a,b))) with
    | some ()=>zti Tryz.prog 112 (ysw (a,b)) es 0
    | none=>none
   | none=>none
  | false=>none)=_
 have hc:∀ e,zzs Tryz.prog (Instr.checkKey e 10000 112 (ysw (a,b)))=some ():=(by intro e;rw [show (10000:Nat)=9998+1+1 from rfl,Instr.checkKey];simp only [zzx,xrx,tzn];simp [-List.map_set,zzx,q0,q1,pk4,pk9,zyh]);rw [hc,hc,show zyj (ysw (a,b))=true from rfl]
theorem xrz:KeyD Tryz.prog 112 ysw:=by
 refine ⟨λks x=>?_⟩;rw [xnw];rw [zsu (enc:=ysw) (λ_=>rfl) (λk y=>xnv k y)];cases List.findIdx? (λy=>decide (x=y)) ks<;>rfl
theorem zwq {l:List UInt8}:zwz (.f (.raw (zxf l)))=true:=rfl
def yl0 (b:List UInt8):DV:=.f (.raw (zxf b))
end Go.Dv
namespace Go.Dv
open Go Go.Sim Go.Proofs Go.Fsa
attribute [local simp] zwo zxi zzn zz0 zz1 zya zzv zz5 zzf zz8 zz6 zzt zz4 zzq zv2 zwq spD
theorem w88 (sy most:Nat) (s0:Int×List UInt8) (succ:Int×List UInt8->List (Option (Int×List UInt8))) (ac:Int×List UInt8->Bool) (dom:Int×List UInt8->Prop) (F:Nat) (qs:List (Int×List UInt8)) (rows:List (List Int))
  (g1 g2:FuncId) (a1 b1 a2 b2:List DV) (base:Nat) (D:DH)
  (hex:exR id succ most F 0 [s0]=some (qs,rows)) (h0:dom s0) (hdom:∀ s,dom s->∀ t,some t∈succ s->dom t) (hlen:∀ s,(succ s).length=sy)
  (hsy:sy<=400) (hmost:most<=200000) (h1m:1<=most) (hb:base<=D.length) (hob:(D.drop base).all (zza D.length)=true)
  (ha1:zzo D.length a1=true) (hb1:zzo D.length b1=true) (ha2:zzo D.length a2=true) (hb2:zzo D.length b2=true) (hraw:(Q.ann g2).raw=false)
  (hstep:∀ (x:Int×List UInt8) (c:Nat) (o:Option (Int×List UInt8)),dom x->(succ x)[c]? =some o->∃ y,(∀ X:DH,zzg Q g1 (a1++[spD x,zze c]++b1) base (D++X)=some (.tup [spD y,zzr o.isSome],D++X))/\(o=some y∨o=none))
  (hacc:∀ (X:DH) (x:Int×List UInt8),dom x->zzg Q g2 (a2++[spD x]++b2) base (D++X)=some (zzr (ac x),D++X)) :
  ∃ (O1 O2:DObj) (fi bs:List Int),zzg Q 88 [zze sy,zze most,spD s0,.fn g1 a1 b1,.fn g2 a2 b2] base D=some (.tup [.ref (D.length+1) 0 0,zzr true],D++[.arr 2 [spD s0],.arr 5 [.agg [zze sy,.apl (D.length+6) qs.length,.apl (D.length+7) qs.length,qV (D.length+4) qs.length,qV (D.length+5) qs.length]],O1,O2,qO 3 1 (fi.map zzf),qO 3 1 (bs.map zzf),.app 4 1 ((qs.map ac).map zz8),.app 26 1 (rows.map zyq)])/\FBL succ qs fi bs/\∀ L,zza L O1=true/\zza L O2=true:=by
 obtain ⟨qs',rows',e,O1,O2,fi,bs,h,h1,h2⟩ | ⟨e,_⟩:=wS (λx:Int×List UInt8=>.int .i64 x.1) (λx=>zxf x.2) (λ_=>⟨rfl,rfl,rfl⟩) (λ_=>⟨rfl,rfl,rfl⟩) 88 101 (by simp [-List.map_set]) xry sy most s0 succ ac dom (F+(most+1)) (by omega) g1 g2 a1 b1 a2 b2 base D h0 hdom hlen hsy hmost h1m hb hob ha1 hb1 ha2 hb2 hraw hstep hacc<;>rw [zrz hex] at e<;>cases e
 exact ⟨O1,O2,fi,bs,h,h1.toFBL,h2⟩
end Go.Dv
namespace Go.Dv
open Go Go.Sim Go.Proofs Go.Fsa
attribute [local simp] zwo zxi zzn zz0 zz1 zya zzv zz5 zzf zz8 zz6 zzt zz4 zzq zv2 zwq agD
theorem w96 (sy most:Nat) (s0:Bool×List UInt8) (succ:Bool×List UInt8->List (Option (Bool×List UInt8))) (ac:Bool×List UInt8->Bool) (dom:Bool×List UInt8->Prop) (F:Nat) (qs:List (Bool×List UInt8)) (rows:List (List Int))
  (g1 g2:FuncId) (a1 b1 a2 b2:List DV) (base:Nat) (D:DH)
  (hex:exR id succ most F 0 [s0]=some (qs,rows)) (h0:dom s0) (hdom:∀ s,dom s->∀ t,some t∈succ s->dom t) (hlen:∀ s,(succ s).length=sy)
  (hsy:sy<=400) (hmost:most<=200000) (h1m:1<=most) (hb:base<=D.length) (hob:(D.drop base).all (zza D.length)=true)
  (ha1:zzo D.length a1=true) (hb1:zzo D.length b1=true) (ha2:zzo D.length a2=true) (hb2:zzo D.length b2=true) (hraw:(Q.ann g2).raw=false)
  (hstep:∀ (x:Bool×List UInt8) (c:Nat) (o:Option (Bool×List UInt8)),dom x->(succ x)[c]? =some o->∃ y,(∀ X:DH,zzg Q g1 (a1++[agD x,zze c]++b1) base (D++X)=some (.tup [agD y,zzr o.isSome],D++X))/\(o=some y∨o=none))
  (hacc:∀ (X:DH) (x:Bool×List UInt8),dom x->zzg Q g2 (a2++[agD x]++b2) base (D++X)=some (zzr (ac x),D++X)) :
  ∃ (O1 O2:DObj) (fi bs:List Int),zzg Q 96 [zze sy,zze most,agD s0,.fn g1 a1 b1,.fn g2 a2 b2] base D=some (.tup [.ref (D.length+1) 0 0,zzr true],D++[.arr 2 [agD s0],.arr 5 [.agg [zze sy,.apl (D.length+6) qs.length,.apl (D.length+7) qs.length,qV (D.length+4) qs.length,qV (D.length+5) qs.length]],O1,O2,qO 3 1 (fi.map zzf),qO 3 1 (bs.map zzf),.app 4 1 ((qs.map ac).map zz8),.app 26 1 (rows.map zyq)])/\FBL succ qs fi bs/\∀ L,zza L O1=true/\zza L O2=true:=by
 obtain ⟨qs',rows',e,O1,O2,fi,bs,h,h1,h2⟩ | ⟨e,_⟩:=wS (λx:Bool×List UInt8=>.bool x.1) (λx=>zxf x.2) (λ_=>⟨rfl,rfl,rfl⟩) (λ_=>⟨rfl,rfl,rfl⟩) 96 112 (by simp [-List.map_set]) xrz sy most s0 succ ac dom (F+(most+1)) (by omega) g1 g2 a1 b1 a2 b2 base D h0 hdom hlen hsy hmost h1m hb hob ha1 hb1 ha2 hb2 hraw hstep hacc<;>rw [zrz hex] at e<;>cases e
 exact ⟨O1,O2,fi,bs,h,h1.toFBL,h2⟩
end Go.Dv
namespace Go.Dv
open Go Go.Sim Go.Proofs Go.Fsa
attribute [local simp] zwo zxi zzn zz0 zz1 zya zzv zz5 zzf zz8 zz6 zzt zz4 zzq zv2 zwq yl0
theorem xjf (sy most:Nat) (s0:List UInt8) (succ:List UInt8->List (Option (List UInt8))) (ac:List UInt8->Bool) (dom:List UInt8->Prop) (F:Nat) (qs:List (List UInt8)) (rows:List (List Int))
  (g1 g2:FuncId) (a1 b1 a2 b2:List DV) (base:Nat) (D:DH)
  (hex:exR id succ most F 0 [s0]=some (qs,rows)) (h0:dom s0) (hdom:∀ s,dom s->∀ t,some t∈succ s->dom t) (hlen:∀ s,(succ s).length=sy)
  (hsy:sy<=400) (hmost:most<=200000) (h1m:1<=most) (hb:base<=D.length) (hob:(D.drop base).all (zza D.length)=true)
  (ha1:zzo D.length a1=true) (hb1:zzo D.length b1=true) (ha2:zzo D.length a2=true) (hb2:zzo D.length b2=true) (hraw:(Q.ann g2).raw=false)
  (hstep:∀ (x:List UInt8) (c:Nat) (o:Option (List UInt8)),dom x->(succ x)[c]? =some o->∃ y,(∀ X:DH,zzg Q g1 (a1++[yl0 x,zze c]++b1) base (D++X)=some (.tup [yl0 y,zzr o.isSome],D++X))/\(o=some y∨o=none))
  (hacc:∀ (X:DH) (x:List UInt8),dom x->zzg Q g2 (a2++[yl0 x]++b2) base (D++X)=some (zzr (ac x),D++X)) :
  ∃ (O1 O2:DObj) (fi bs:List Int),zzg Q 100 [zze sy,zze most,yl0 s0,.fn g1 a1 b1,.fn g2 a2 b2] base D=some (.tup [.ref D.length 0 0,zzr true],D++[.arr 5 [.agg [zze sy,.apl (D.length+5) qs.length,.apl (D.length+6) qs.length,qV (D.length+3) qs.length,qV (D.length+4) qs.length]],O1,O2,qO 3 1 (fi.map zzf),qO 3 1 (bs.map zzf),.app 4 1 ((qs.map ac).map zz8),.app 26 1 (rows.map zyq)])/\∀ L,zza L O1=true/\zza L O2=true:=by
 obtain ⟨qs',rows',e,O1,O2,fi,bs,h,_,h2⟩ | ⟨e,_⟩:=wE (λx:List UInt8=>zxf x) (λ_=>⟨rfl,rfl,rfl⟩) 100 9 (by simp [-List.map_set]) xnh sy most s0 succ ac dom (F+(most+1)) (by omega) g1 g2 a1 b1 a2 b2 base D h0 hdom hlen hsy hmost h1m hb hob ha1 hb1 ha2 hb2 hraw hstep hacc<;>rw [zrz hex] at e<;>cases e
 exact ⟨O1,O2,fi,bs,h,h2⟩
end Go.Dv
set_option maxHeartbeats 4000000
namespace Go.Dv
open Go Go.Sim Go.Proofs Go.Fsa
attribute [local simp] zwo zxi zzn zz0 zz1 zya zzv zz5 zzf zz8 zz6 zzt zz4 zzq zv2 zwq
theorem zly {base:Nat} {D G:DH} (hb:base<=D.length) (hob:(D.drop base).all (zza D.length)=true) (hG:G.all (zza (D++G).length)=true):((D++G).drop base).all (zza (D++G).length)=true:=by
 rw [List.drop_append_of_le_length hb,List.all_append,tzc];refine ⟨?_,hG⟩;rw [tzx] at hob ⊢;intro x hx;exact zyo (by simp [-List.map_set]) x (hob x hx)
abbrev xx4:DV:=.agg [.f (.raw (.int .i64 0)),.f (.raw (.string ⟨⟨[]⟩⟩))]
theorem xnx (a b:Aut) (ha:a.valid) (hb':b.valid) (f:Int) (hf:f<(a.nxt.length:Nat)) (hacc:a.accB f=true/\0<b.acc.length) (oa ob base:Nat) (D:DH) (hoa:D[oa]? =some (.arr 4 [zzn a])) (hob:D[ob]? =some (.arr 4 [zzn b])) (hb:base<=D.length) (hobj:(D.drop base).all (zza D.length)=true) :
  ∃ X:List Int,zzg Q 86 [zze f,zyf,.ref oa 0 0,.ref ob 0 0] base D=some (spD (ztf a b f []),D++[.arr 2 [spD (ztf a b f [])],.arr 1 [zzf b.st],.app 3 1 (X.map zzf)]):=by
 have hla:=ha.len;have hlb:=hb'.len;have hmb:=hb'.most;have hbk:∀ k,base<=D.length+k:=λk=>by omega
 have ga:=λX=>zzc (X:=X) hoa;have gb:=λX=>zzc (X:=X) hob;have r87:(Q.ann 87).raw=true:=by rw [zmx]
 have e:ztf a b f []=(f,zw9 (zyu b.nxt.length [b.st])):=by unfold ztf ymf;rw [if_pos hacc];rfl
 rw [e];have hst0:=hb'.st0;have hst1:=hb'.st1
 obtain ⟨n,rfl⟩:∃ n:Nat,f=n:=⟨f.toNat,by
  have:=hacc.1
  unfold Aut.accB at this
  rw [tzc,decide_eq_true_eq] at this
  omega⟩
 have hn:a.acc[n]? =some true:=(by obtain ⟨x,hx⟩:∃ x,a.acc[n]? =some x:=⟨_,tzb (by omega)⟩;have:=hacc.1;simp [-List.map_set,Aut.accB,hx] at this;rw [hx,this]);have hA:AtApp (D++[.arr 2 [xx4],.arr 1 [zzf b.st],.app 3 1 ([b.st].map zzf)]) base (D.length+2) [b.st]:=⟨by omega,zly hb hobj (by simp [-List.map_set,zys,zvc]),by simp [-List.map_set]⟩;obtain ⟨X,h87⟩:=w87 b.nxt.length (by omega) [b.st] (λx hx=>by rw [tzw] at hx;subst hx;omega) (by simp [-List.map_set]) (D.length+2) base _ hA;refine ⟨X,?_⟩;simp [-List.map_set] at h87;rw [zz2 (fn:=Tryz.f86) (show Q.P.funcs[86]? =some Tryz.f86 from Tryz.func86) rfl yw7 rfl (by simp only [tzd,tze];decide) (by kernel_rfl)];simp [-List.map_set,ga,gb,hb,hbk,hn,hacc.2,h87,r87,show (0:Int)<=n by omega,show 1*8<=1099511627776 by omega];rfl
theorem xny (a b:Aut) (ha:a.valid) (hb':b.valid) (f:Int) (hf:f<(a.nxt.length:Nat)) (hacc:¬(a.accB f=true/\0<b.acc.length)) (oa ob base:Nat) (D:DH) (hoa:D[oa]? =some (.arr 4 [zzn a])) (hob:D[ob]? =some (.arr 4 [zzn b])) (hb:base<=D.length) (hobj:(D.drop base).all (zza D.length)=true) :
  zzg Q 86 [zze f,zyf,.ref oa 0 0,.ref ob 0 0] base D=some (spD (ztf a b f []),D++[.arr 2 [spD (ztf a b f [])]]):=by
 have hla:=ha.len;have hlb:=hb'.len;have hmb:=hb'.most;have hbk:∀ k,base<=D.length+k:=λk=>by omega
 have ga:=λX=>zzc (X:=X) hoa;have gb:=λX=>zzc (X:=X) hob;have r87:(Q.ann 87).raw=true:=by rw [zmx]
 have e:ztf a b f []=(f,zw9 (zyu b.nxt.length [])):=by unfold ztf ymf;rw [if_neg hacc]
 rw [e];have h87:=ylz b.nxt.length (by omega) base (D++[.arr 2 [xx4]]) (by simp [-List.map_set];omega) (zly hb hobj (by simp [-List.map_set,zys]));rw [zz2 (fn:=Tryz.f86) (show Q.P.funcs[86]? =some Tryz.f86 from Tryz.func86) rfl yw7 rfl (by simp only [tzd,tze];decide) (by kernel_rfl)];by_cases h0:0<=f
 .obtain ⟨n,rfl⟩:∃ n:Nat,f=n:=⟨f.toNat,by omega⟩;obtain ⟨x,hx⟩:∃ x,a.acc[n]? =some x:=⟨_,tzb (by omega)⟩;cases x with
  | false=>simp [-List.map_set,ga,gb,hb,hbk,h0,hx,h87,r87,spD]
  | true=>
   have hz:b.acc.length=0:=by
    rcases ty4 b.acc.length with g | g
    .exact g
    exact absurd ⟨by simp [-List.map_set,Aut.accB,hx],g⟩ hacc
   simp [-List.map_set,ga,gb,hb,hbk,h0,hx,h87,r87,hz,spD]
 .simp [-List.map_set,ga,gb,hb,hbk,h0,h87,r87,spD]
theorem gl0 {D G:DH} {o:Nat} {Y:DObj}:(D.set o Y++G)[D.length]? =G[0]?:=by
 rw [tzv (by rw [tz3];exact tzp _),tz3,Nat.sub_self]
theorem sl0 {D G:DH} {o:Nat} {Y z:DObj}:(D.set o Y++G).set D.length z=D.set o Y++G.set 0 z:=by
 rw [List.set_append_right _ _ (by rw [tz3];exact tzp _),tz3,Nat.sub_self]
theorem w86 (a b:Aut) (ha:a.valid) (hb':b.valid) (f:Int) (hf:f<(a.nxt.length:Nat)) (l:List Int) (hl:inA b l) (hl11:l.length<=11) (oa ob o base:Nat) (D:DH) (hoa:D[oa]? =some (.arr 4 [zzn a])) (hob:D[ob]? =some (.arr 4 [zzn b])) (hb:base<=D.length) (hA:AtApp D base o l) :
  ∃ (X:List Int) (G:DH),zzg Q 86 [zze f,.apl o l.length,.ref oa 0 0,.ref ob 0 0] base D=some (spD (ztf a b f l),D.set o (.app 3 1 (X.map zzf))++G):=by
 have hla:=ha.len;have hlb:=hb'.len;have hmb:=hb'.most;have hbk:∀ k,base<=D.length+k:=λk=>by omega
 have hol:=hA.len;have hbo:=hA.b;have ho:=hA.o;have ga:=λX=>zzc (X:=X) hoa;have gb:=λX=>zzc (X:=X) hob;have go:=λX=>zzc (X:=X) ho;have hoa':oa≠o:=λe=>by rw [e,ho] at hoa;cases hoa
 have hob':ob≠o:=λe=>by rw [e,ho] at hob;cases hob
 have hola:=zyr hoa;have holb:=zyr hob;have r87:(Q.ann 87).raw=true:=by rw [zmx]
 by_cases hacc:a.accB f=true/\0<b.acc.length;rotate_left
 .have e:ztf a b f l=(f,zw9 (zyu b.nxt.length l)):=by unfold ztf ymf;rw [if_neg hacc]
  rw [e];have hA':AtApp (D++[.arr 2 [xx4]]) base o l:=⟨hbo,zly hb hA.ob (by simp [-List.map_set,zys]),zzc ho⟩;obtain ⟨X,h87⟩:=w87 b.nxt.length (by omega) l hl (by omega) o base _ hA';refine ⟨X,[.arr 2 [spD (f,zw9 (zyu b.nxt.length l))]],?_⟩;rw [List.set_append_left _ _ hol] at h87;rw [zz2 (fn:=Tryz.f86) (show Q.P.funcs[86]? =some Tryz.f86 from Tryz.func86) rfl yw7 rfl (by simp only [tzd,tze];decide) (by kernel_rfl)];by_cases h0:0<=f
  .obtain ⟨n,rfl⟩:∃ n:Nat,f=n:=⟨f.toNat,by omega⟩;obtain ⟨x,hx⟩:∃ x,a.acc[n]? =some x:=⟨_,tzb (by omega)⟩;cases x with
   | false=>simp [-List.map_set,ga,gb,go,hb,hbk,h0,hx,h87,r87,spD,gl0,sl0]
   | true=>
    have hz:b.acc.length=0:=by
     rcases ty4 b.acc.length with g | g
     .exact g
     exact absurd ⟨by simp [-List.map_set,Aut.accB,hx],g⟩ hacc
    simp [-List.map_set,ga,gb,go,hb,hbk,h0,hx,h87,r87,hz,spD,gl0,sl0]
  .simp [-List.map_set,ga,gb,go,hb,hbk,h0,h87,r87,spD,gl0,sl0]
 have e:ztf a b f l=(f,zw9 (zyu b.nxt.length (l++[b.st]))):=by unfold ztf ymf;rw [if_pos hacc]
 rw [e];have hst0:=hb'.st0;have hst1:=hb'.st1
 obtain ⟨n,rfl⟩:∃ n:Nat,f=n:=⟨f.toNat,by
  have:=hacc.1
  unfold Aut.accB at this
  rw [tzc,decide_eq_true_eq] at this
  omega⟩
 have hn:a.acc[n]? =some true:=(by obtain ⟨x,hx⟩:∃ x,a.acc[n]? =some x:=⟨_,tzb (by omega)⟩;have:=hacc.1;simp [-List.map_set,Aut.accB,hx] at this;rw [hx,this]);have hA':AtApp (D.set o (.app 3 1 ((l++[b.st]).map zzf))++[.arr 2 [xx4],.arr 1 [zzf b.st]]) base o (l++[b.st]):=(by have h:=hA.set (l++[b.st]);exact ⟨h.b,zly (by rw [tz3];exact hb) h.ob (by simp [-List.map_set,zys]),zzc h.o⟩)
 obtain ⟨X,h87⟩:=w87 b.nxt.length (by omega) (l++[b.st]) (λx hx=>by
  rcases tyh.1 hx with h | h
  .exact hl x h
  .rw [tzw] at h;subst h;omega) (by simp [-List.map_set];omega) o base _ hA'
 refine ⟨X,[.arr 2 [spD ((n:Int),zw9 (zyu b.nxt.length (l++[b.st])))],.arr 1 [zzf b.st]],?_⟩;rw [List.set_append_left _ _ (by rw [tz3];exact hol),List.set_set] at h87;simp [-List.map_set] at h87;rw [zz2 (fn:=Tryz.f86) (show Q.P.funcs[86]? =some Tryz.f86 from Tryz.func86) rfl yw7 rfl (by simp only [tzd,tze];decide) (by kernel_rfl)];simp [-List.map_set,ga,gb,go,hb,hbk,hbo,hol,hn,hacc.2,h87,r87,spD,gl0,sl0,show (0:Int)<=n by omega,show (l.length+1)*8<=1099511627776 by omega,show l.length<=1099511627775 by omega]
 trace_state
end Go.Dv
namespace Go.Dv
open Go Go.Sim Go.Proofs Go.Fsa
attribute [local simp] zwo zxi zzn zz0 zz1 zya zzv zz5 zzf zz8 zz6 zzt zz4 zzq zv2 zwq spD
theorem zn1 {l:List UInt8}:zew (.f (.raw (zxf l)))=.f (.raw (zxf l)):=rfl
attribute [local simp] zn1 zxv zxw zxk zxx
theorem yl1 {l:List UInt8}:eqV (zxf l) (zxf l)=true:=by
 show eqB l l=true;rw [zgy];simp [-List.map_set]
theorem zn2 {D:DH} {l:List UInt8}:eqD D (.f (.raw (zxf l)))=true:=yl1
theorem zn3 {D:DH} {l:List UInt8}:zn6 D (.f (.raw (zxf l)))=true:=by
 show (yzc (zxf l) (zxf l)&&oneCell (zxf l))=true;rw [tzc];exact ⟨yl1,rfl⟩
attribute [local simp] zn2 zn3
theorem yz9 {D:DH} {o i k sz:Nat} {els:List DV} (h:D[o]? =some (.arr sz els)):zn6 D (.ref o i k)=true:=by
 show zut D (.ref o i k)=true;simp only [zut,h]
theorem yya {D:DH} {g:FuncId} {o o' sz sz':Nat} {els els':List DV} (h:D[o]? =some (.arr sz els)) (h':D[o']? =some (.arr sz' els')):eqD D (.fn g [] [.ref o 0 0,.ref o' 0 0])=true:=by
 show (([]:List DV).all (zn6 D)&&[DV.ref o 0 0,.ref o' 0 0].all (zn6 D))=true;simp [-List.map_set,yz9 h,yz9 h']
theorem w90 (a b:Aut) (ha:a.valid) (hb':b.valid) (hsy:a.sy=b.sy) (hn11:b.nxt.length<=11) (p:Int×List UInt8) (hp:yl8 a b p) (c:Nat) (hc:(c:Int)<a.sy) (o7 oa ob base:Nat) (D:DH) (ho7:D[o7]? =some (.arr 1 [.fn 86 [] [.ref oa 0 0,.ref ob 0 0]])) (hoa:D[oa]? =some (.arr 4 [zzn a])) (hob:D[ob]? =some (.arr 4 [zzn b])) :
  zzg Q 90 [spD p,zze c,.ref o7 0 0,.ref oa 0 0,.ref ob 0 0] base D=some (.tup [spD (ztf a b (a.go p.1 c) (zik b (stN p.2) c)),zzr true],D):=by
 obtain ⟨f,k⟩:=p;obtain ⟨hf,l0,hk⟩:=hp;simp only at hf hk;have hst:stN k=zyu b.nxt.length l0:=by rw [hk];exact znf hb'
 obtain ⟨s,hs⟩:∃ s,s=zyu b.nxt.length l0:=⟨_,rfl⟩;have hsl:s.length<=b.nxt.length:=by rw [hs];exact zte
 have hsin:inA b s:=λx hx=>ztv x (by rw [hs] at hx;exact hx);rw [<-hs] at hk hst;simp only [hst];have hlk:=zfe (a:=b) (s:=s) (c:=c);have g7:=λX=>zzc (X:=X) ho7;have ga:=λX=>zzc (X:=X) hoa;have gb:=λX=>zzc (X:=X) hob;have r91:(Q.ann 91).raw=false:=by rw [ycb]
 have r92:(Q.ann 92).raw=true:=by rw [ycg]
 have r86:(Q.ann 86).raw=true:=by rw [yw7]
 have h92:=w92 b hb' s hsin (by omega) c (by omega) D.length (D++[.arr 2 [spD (f,k)],.arr 2 [xx4]]) (by simp [-List.map_set]) (by rw [zy6];simp [-List.map_set,zys]);obtain ⟨X,G,h86⟩:=w86 a b ha hb' (a.go f c) (Aut.go_dom ha).2 (zik b s c) (inA.fol hb') (by omega) oa ob (D.length+3) (D.length+3) (D++[.arr 2 [spD (f,k)],.arr 2 [xx4],.arr 4 [zzn b],.app 3 1 ((zik b s c).map zzf)]) (zzc hoa) (zzc hob) (by simp [-List.map_set]) ⟨tzp _,by rw [List.drop_append,tyy (by omega)];simp [-List.map_set,zvc,zy1],by simp [-List.map_set]⟩;rw [hk] at h92 h86 ⊢;simp [-List.map_set,txq] at h92 h86;have hq:=λX=>yya (g:=86) (ga X) (gb X);rw [zzb (fn:=Tryz.f90) (show Q.P.funcs[90]? =some Tryz.f90 from Tryz.func90) rfl xwt rfl (by simp only [tzd,tze];decide) (by kernel_rfl)];have gp:=xm4;simp [xwt,Tryz.f90,zym] at gp;simp [-List.map_set,gp,hq,g7,ga,gb,zyr ho7,zyr hoa,zyr hob,r91,r92,r86,c91,ha,hf.2,hc,h92,h86]
theorem w93 (b:Aut) (hb':b.valid) (p:Int×List UInt8) (l0:List Int) (hp:p.2=zw9 (zyu b.nxt.length l0)) (ob base:Nat) (D:DH) (hob:D[ob]? =some (.arr 4 [zzn b])) :
  zzg Q 93 [spD p,.ref ob 0 0] base D=some (zzr (ydv b p),D):=by
 obtain ⟨f,k⟩:=p;simp only at hp;have hm:=hb'.most;have hl:=hb'.len;have hsl:=zte (n:=b.nxt.length) (l:=l0);have gb:=λX=>zzc (X:=X) hob;have h94:=λbb D'=>w94 b hb' (zyu b.nxt.length l0) (λx hx=>ztv x hx) (by omega) bb D';have e:ydv b (f,k)=(zyu b.nxt.length l0).any b.accB:=(by unfold ydv;rw [show (f,k).2=_ from hp,znf hb']);rw [e];subst hp;simp only [zzn,zzr] at h94;rw [zzb (fn:=Tryz.f93) (show Q.P.funcs[93]? =some Tryz.f93 from Tryz.func93) rfl ych rfl (by simp only [tzd,tze];decide) (by kernel_rfl)];simp [-List.map_set,gb,h94]
end Go.Dv
namespace Go.Fsa
def zc1 (a b:Aut):Aut×Int:=if a.valid/\b.valid then (if a.sy=b.sy then ((ymj a b).canP,0) else (⟨0,0,[],[]⟩,1)) else (⟨0,0,[],[]⟩,60)
end Go.Fsa
namespace Go.Dv
open Go Go.Sim Go.Proofs Go.Fsa
attribute [local simp] zwo zxi zzn zz0 zz1 zya zzv zz5 zzf zz8 zz6 zzt zz4 zzq zv2 zwq spD zn1 zxv zxw zxk zxx zn2 zn3
theorem w40 (a b:Aut) (ha:a.nxt.length<1152921504606846976) (hb:b.nxt.length<1152921504606846976) (hN:a.valid->b.valid->zil a b<=20000/\b.nxt.length<=11) (base:Nat) (D:DH) :
  zzg Q 40 [zzn a,zzn b] base D=some (zu9 (zc1 a b).1 (zc1 a b).2,D):=by
 rw [zzb (fn:=Tryz.f40) (show Q.P.funcs[40]? =some Tryz.f40 from Tryz.func40) rfl xwq rfl (by simp only [tzd,tze];decide) (by kernel_rfl)];have gp:=xm0;simp [xwq,Tryz.f40,zym] at gp;have h68:=λbb D'=>w68 a b ha hb bb D';simp only [zzn,zze] at h68;have r68:(Q.ann 68).raw=false:=by rw [ys3]
 by_cases hv:a.valid/\b.valid
 case neg=>
  rw [if_neg (by rw [Aut.check_valid,Aut.check_valid];exact hv)] at h68;have e:zc1 a b=(⟨0,0,[],[]⟩,60):=by unfold zc1;rw [if_neg hv]
  rw [e];simp [-List.map_set,gp,h68,r68,zu9]
 obtain ⟨va,vb⟩:=hv;obtain ⟨hN,hn11⟩:=hN va vb;rw [if_pos ⟨Aut.check_valid.2 va,Aut.check_valid.2 vb⟩] at h68;by_cases hsy:a.sy=b.sy
 case neg=>
  rw [if_neg hsy] at h68;have e:zc1 a b=(⟨0,0,[],[]⟩,1):=by unfold zc1;rw [if_pos ⟨va,vb⟩,if_neg hsy]
  rw [e];simp [-List.map_set,gp,h68,r68,zu9]
 rw [if_pos hsy] at h68;have e:zc1 a b=((ymj a b).canP,0):=by unfold zc1;rw [if_pos ⟨va,vb⟩,if_pos hsy]
 rw [e];obtain ⟨m1,m2⟩:=xy5 va vb hsy hN;obtain ⟨s0,hs0⟩:∃ s0,s0=ztf a b a.begin []:=⟨_,rfl⟩;have hlo:=va.lo;have hhi:=va.hi;have hla:=va.len;have hbeg:=zuf va;have h89:=λx bb D'=>w89 x bb D';simp only [zzn,zze] at h89;have r89:(Q.ann 89).raw=false:=by rw [ysy]
 have r86:(Q.ann 86).raw=true:=by rw [yw7]
 have r88:(Q.ann 88).raw=true:=by rw [ycf]
 obtain ⟨x1,x2⟩:=yxq (succ:=zog a b) (dom:=yl8 a b) (s0:=s0) (N:=zil a b) (by rw [hs0];exact zs3 hbeg) (λs hs t ht=>zoi va hs ht) (λq h1 h2=>yxm h1 h2) (by omega);obtain ⟨qs,hqs⟩:∃ q,q=(exN (zog a b) s0 (zil a b)).1:=⟨_,rfl⟩;obtain ⟨rows,hrows⟩:∃ q,q=(exN (zog a b) s0 (zil a b)).2:=⟨_,rfl⟩;have hx:exR id (zog a b) 100000 (zil a b+1) 0 [s0]=some (qs,rows):=x1.trans (by rw [hqs,hrows]);obtain ⟨m,hm⟩:∃ m,m=ymj a b:=⟨_,rfl⟩;have hm':m=⟨a.sy,0,qs.map (ydv b),rows⟩:=by rw [hm,hqs,hrows,hs0];rfl
 rw [<-hm] at m1 m2 ⊢;have hml:m.acc.length<=20000:=by have:=m1.most;omega
 have hql:m.acc.length=qs.length:=by rw [hm'];simp [-List.map_set]
 obtain ⟨c,hc⟩:∃ c,c=m.canP:=⟨_,rfl⟩;by_cases hacc:a.accB a.begin=true/\0<b.acc.length
 .obtain ⟨X,h86⟩:=xnx a b va vb a.begin hbeg.2 hacc D.length (D.length+1) (D.length+4) (D++[.arr 4 [zzn a],.arr 4 [zzn b],.arr 4 [.agg [zzf 0,zzf 0,zyf,zyf]],.arr 1 [.fn 86 [] [.ref D.length 0 0,.ref (D.length+1) 0 0]]]) (by simp [-List.map_set]) (by simp [-List.map_set]) (by simp [-List.map_set]) (by simp [-List.map_set]);rw [<-hs0] at h86;obtain ⟨D4,hD4⟩:∃ Y:DH,Y=[.arr 4 [zzn a],.arr 4 [zzn b],.arr 4 [.agg [zzf 0,zzf 0,zyf,zyf]],.arr 1 [.fn 86 [] [.ref D.length 0 0,.ref (D.length+1) 0 0]],.arr 2 [spD s0],.arr 1 [zzf b.st],.app 3 1 (X.map zzf)]:=⟨_,rfl⟩;have hL:(D++D4).length=D.length+7:=by rw [hD4];simp [-List.map_set]
  obtain ⟨O1,O2,fi,bs,hex,hfb,hO⟩:=w88 a.sy.toNat 100000 s0 (zog a b) (ydv b) (yl8 a b) (zil a b+1) qs rows 90 93 [] [.ref (D.length+3) 0 0,.ref D.length 0 0,.ref (D.length+1) 0 0] [] [.ref (D.length+1) 0 0] D.length (D++D4)
   hx (by rw [hs0];exact zs3 hbeg) (λs hs t ht=>zoi va hs ht) (λs=>zoh) (by omega) (by omega) (by omega) (by omega)
   (by rw [zy6,hD4];simp [-List.map_set,zys,zvc,zy1,spD]) (by simp [-List.map_set]) (by simp [-List.map_set,hL]) (by simp [-List.map_set]) (by simp [-List.map_set,hL]) (by rw [ych])
   (λx c' o hx' ho=>by
    obtain ⟨rfl,hc'⟩:=zdw ho
    refine ⟨_,λX=>?_,.inl rfl⟩
    exact w90 a b va vb hsy hn11 x hx' c' hc' (D.length+3) D.length (D.length+1) D.length (D++D4++X) (by rw [hD4];simp [-List.map_set]) (by rw [hD4];simp [-List.map_set]) (by rw [hD4];simp [-List.map_set]))
   (λX x hx'=>by
    obtain ⟨_,l0,h0⟩:=hx'
    exact w93 b vb x l0 h0 (D.length+1) D.length (D++D4++X) (by rw [hD4];simp [-List.map_set]))
  rw [hD4] at hex;have h61:=λbb=>yd8 m m1 m2 (D.length+8) (D.length+13) (D.length+14) (qV (D.length+11) m.acc.length) (qV (D.length+12) m.acc.length) bb (D++D4++.arr 2 [spD s0]::zxb (D.length+8) m O1 O2 fi bs) (by rw [hD4];simp [-List.map_set,zxb]) (by rw [hD4];simp [-List.map_set,zxb]) (by rw [hD4];simp [-List.map_set,zxb]);rw [<-hc,hD4] at h61;rw [<-hc];simp only [zxb,hql] at h61;rw [hm'] at h61;simp only [zze,zzr,zzn,spD,Int.toNat_of_nonneg (show 0<=a.sy by omega)] at hex h86;rw [show ((100000:Nat):Int)=100000 from rfl] at hex;simp [-List.map_set,txq,zu9] at hex h61 h86;have hOK4:∀ k X,zyg D.length (D.length+k) (D++X)=(X.take k).all (zza (D.length+k)):=λk X=>zwv (tzp _) (by rw [List.drop_length];rfl);have hq:∀ (X:DH) (u v:DV),eqD (D++.arr 4 [u]::.arr 4 [v]::X) (.fn 86 [] [.ref D.length 0 0,.ref (D.length+1) 0 0])=true:=λX u v=>yya (sz:=4) (els:=[u]) (sz':=4) (els':=[v]) (by simp [-List.map_set]) (by simp [-List.map_set]);simp [-List.map_set,gp,hq,h68,r68,r86,r88,r89,h89,h86,hex,h61,zu9,hOK4,zqb,zua,zqc]
 .have h86:=xny a b va vb a.begin hbeg.2 hacc D.length (D.length+1) (D.length+4) (D++[.arr 4 [zzn a],.arr 4 [zzn b],.arr 4 [.agg [zzf 0,zzf 0,zyf,zyf]],.arr 1 [.fn 86 [] [.ref D.length 0 0,.ref (D.length+1) 0 0]]]) (by simp [-List.map_set]) (by simp [-List.map_set]) (by simp [-List.map_set]) (by simp [-List.map_set]);rw [<-hs0] at h86;obtain ⟨D4,hD4⟩:∃ Y:DH,Y=[.arr 4 [zzn a],.arr 4 [zzn b],.arr 4 [.agg [zzf 0,zzf 0,zyf,zyf]],.arr 1 [.fn 86 [] [.ref D.length 0 0,.ref (D.length+1) 0 0]],.arr 2 [spD s0]]:=⟨_,rfl⟩;have hL:(D++D4).length=D.length+5:=by rw [hD4];simp [-List.map_set]
  obtain ⟨O1,O2,fi,bs,hex,hfb,hO⟩:=w88 a.sy.toNat 100000 s0 (zog a b) (ydv b) (yl8 a b) (zil a b+1) qs rows 90 93 [] [.ref (D.length+3) 0 0,.ref D.length 0 0,.ref (D.length+1) 0 0] [] [.ref (D.length+1) 0 0] D.length (D++D4)
   hx (by rw [hs0];exact zs3 hbeg) (λs hs t ht=>zoi va hs ht) (λs=>zoh) (by omega) (by omega) (by omega) (by omega)
   (by rw [zy6,hD4];simp [-List.map_set,zys,zvc,zy1,spD]) (by simp [-List.map_set]) (by simp [-List.map_set,hL]) (by simp [-List.map_set]) (by simp [-List.map_set,hL]) (by rw [ych])
   (λx c' o hx' ho=>by
    obtain ⟨rfl,hc'⟩:=zdw ho
    refine ⟨_,λX=>?_,.inl rfl⟩
    exact w90 a b va vb hsy hn11 x hx' c' hc' (D.length+3) D.length (D.length+1) D.length (D++D4++X) (by rw [hD4];simp [-List.map_set]) (by rw [hD4];simp [-List.map_set]) (by rw [hD4];simp [-List.map_set]))
   (λX x hx'=>by
    obtain ⟨_,l0,h0⟩:=hx'
    exact w93 b vb x l0 h0 (D.length+1) D.length (D++D4++X) (by rw [hD4];simp [-List.map_set]))
  rw [hD4] at hex;have h61:=λbb=>yd8 m m1 m2 (D.length+6) (D.length+11) (D.length+12) (qV (D.length+9) m.acc.length) (qV (D.length+10) m.acc.length) bb (D++D4++.arr 2 [spD s0]::zxb (D.length+6) m O1 O2 fi bs) (by rw [hD4];simp [-List.map_set,zxb]) (by rw [hD4];simp [-List.map_set,zxb]) (by rw [hD4];simp [-List.map_set,zxb]);rw [<-hc,hD4] at h61;rw [<-hc];simp only [zxb,hql] at h61;rw [hm'] at h61;simp only [zze,zzr,zzn,spD,Int.toNat_of_nonneg (show 0<=a.sy by omega)] at hex h86;rw [show ((100000:Nat):Int)=100000 from rfl] at hex;simp [-List.map_set,txq,zu9] at hex h61 h86;have hOK4:∀ k X,zyg D.length (D.length+k) (D++X)=(X.take k).all (zza (D.length+k)):=λk X=>zwv (tzp _) (by rw [List.drop_length];rfl);have hq:∀ (X:DH) (u v:DV),eqD (D++.arr 4 [u]::.arr 4 [v]::X) (.fn 86 [] [.ref D.length 0 0,.ref (D.length+1) 0 0])=true:=λX u v=>yya (sz:=4) (els:=[u]) (sz':=4) (els':=[v]) (by simp [-List.map_set]) (by simp [-List.map_set]);simp [-List.map_set,gp,hq,h68,r68,r86,r88,r89,h89,h86,hex,h61,zu9,hOK4,zqb,zua,zqc]
end Go.Dv
namespace Go.Dv
open Go Go.Sim Go.Proofs Go.Fsa
attribute [local simp] zwo zxi zzn zz0 zz1 zya zzv zz5 zzf zz8 zz6 zzt zz4 zzq zv2 zwq agD zn1 zxv zxw zxk zxx zn2 zn3
theorem xxt {D:DH} {g:FuncId} {o sz:Nat} {els:List DV} (h:D[o]? =some (.arr sz els)):eqD D (.fn g [] [.ref o 0 0])=true:=by
 show (([]:List DV).all (zn6 D)&&[DV.ref o 0 0].all (zn6 D))=true;simp [-List.map_set,yz9 h]
theorem w97 (a:Aut) (ha:a.valid) (hn11:a.nxt.length<=11) (p:Bool×List UInt8) (hp:yl9 a p) (c:Nat) (hc:(c:Int)<a.sy) (oa base:Nat) (D:DH) (hoa:D[oa]? =some (.arr 4 [zzn a])) :
  zzg Q 97 [agD p,zze c,.ref oa 0 0] base D=some (.tup [agD (yfm a (zik a (stN p.2) c)),zzr true],D):=by
 obtain ⟨f,k⟩:=p;obtain ⟨l0,hk⟩:=hp;simp only at hk;have hst:stN k=zyu a.nxt.length l0:=by rw [hk];exact znf ha
 obtain ⟨s,hs⟩:∃ s,s=zyu a.nxt.length l0:=⟨_,rfl⟩;have hsl:s.length<=a.nxt.length:=by rw [hs];exact zte
 have hsin:inA a s:=λx hx=>ztv x (by rw [hs] at hx;exact hx);rw [<-hs] at hk hst;simp only [hst];have hlk:=zfe (a:=a) (s:=s) (c:=c);have ga:=λX=>zzc (X:=X) hoa;have gr:=λX=>xxt (g:=98) (ga X);have r92:(Q.ann 92).raw=true:=by rw [ycg]
 have r87:(Q.ann 87).raw=true:=by rw [zmx]
 have r73:(Q.ann 73).raw=false:=by rw [ykj]
 have h92:=w92 a ha s hsin (by omega) c (by omega) D.length (D++[.arr 2 [agD (f,k)],.arr 2 [.agg [.f (.raw (.bool false)),.f (.raw (.string ⟨⟨[]⟩⟩))]]]) (by simp [-List.map_set]) (by rw [zy6];simp [-List.map_set,zys]);rw [hk] at h92 ⊢;simp [-List.map_set,txq] at h92;obtain ⟨l,hl⟩:∃ l,l=zik a s c:=⟨_,rfl⟩;have hlin:inA a l:=by rw [hl];exact inA.fol ha
 rw [<-hl] at h92 hlk ⊢;have h73:=λbb=>xjc l (by omega) 98 [] [.ref oa 0 0] a.accB (D.length+3) bb (D++[.arr 2 [agD (f,zw9 s)],.arr 2 [.agg [.f (.raw (.bool false)),.f (.raw (.string ⟨⟨[]⟩⟩))]],.arr 4 [zzn a],.app 3 1 (l.map zzf)]) (f98 a ha oa _ (zzc hoa) l hlin) (by simp [-List.map_set]);simp [-List.map_set,txq] at h73;have e:yfm a l=(false,zw9 (zyu a.nxt.length (ytr a l))):=rfl;rw [e];rw [zzb (fn:=Tryz.f97) (show Q.P.funcs[97]? =some Tryz.f97 from Tryz.func97) rfl xqr rfl (by simp only [tzd,tze];decide) (by kernel_rfl)];cases hany:l.any a.accB with
 | false=>
  rw [hany] at h73;have es:ytr a l=l:=by unfold ytr;rw [hany];rfl
  rw [es];obtain ⟨X,h87⟩:=w87 a.nxt.length (by omega) l hlin (by omega) (D.length+3) D.length (D++[.arr 2 [agD (f,zw9 s)],.arr 2 [.agg [.f (.raw (.bool false)),.f (.raw (.string ⟨⟨[]⟩⟩))]],.arr 4 [zzn a],.app 3 1 (l.map zzf)]) ⟨by omega,by rw [zy6];simp [-List.map_set,zvc,zys,zy1],by simp [-List.map_set]⟩;simp [-List.map_set] at h87;simp [-List.map_set,ga,gr,zyr hoa,r92,r87,r73,h92,h73,h87]
 | true=>
  rw [hany] at h73;have es:ytr a l=l++[a.st]:=by unfold ytr;rw [hany];rfl
  rw [es];have hst0:=ha.st0;have hst1:=ha.st1;have hap:(l.length+1)*8<=1099511627776/\l.length<=1099511627775:=by omega
  have hlin2:∀ x∈l++[a.st],0<=x/\x<(a.nxt.length:Int):=λx hx=>by
   rcases tyh.1 hx with h | h
   .exact hlin x h
   rw [tzw] at h;obtain ⟨y,hy,_⟩:=List.any_eq_true.1 hany;have:=hlin y hy;have:=ha.len;omega
  obtain ⟨X,h87⟩:=w87 a.nxt.length (by omega) (l++[a.st]) hlin2 (by simp [-List.map_set];omega) (D.length+3) D.length (D++[.arr 2 [agD (f,zw9 s)],.arr 2 [.agg [.f (.raw (.bool false)),.f (.raw (.string ⟨⟨[]⟩⟩))]],.arr 4 [zzn a],.app 3 1 ((l++[a.st]).map zzf),.arr 1 [zzf a.st]]) ⟨by omega,by rw [zy6];simp [-List.map_set,zvc,zys,zy1],by simp [-List.map_set]⟩;simp [-List.map_set] at h87;simp [-List.map_set,ga,gr,zyr hoa,r92,r87,r73,h92,h73,hap,h87]
theorem w99 (a:Aut) (ha:a.valid) (p:Bool×List UInt8) (hp:yl9 a p) (oa base:Nat) (D:DH) (hoa:D[oa]? =some (.arr 4 [zzn a])) :
  zzg Q 99 [agD p,.ref oa 0 0] base D=some (zzr (zdx a p),D):=by
 obtain ⟨f,k⟩:=p;obtain ⟨l0,hk⟩:=hp;simp only at hk;have hm:=ha.most;have hl:=ha.len;have hsl:=zte (n:=a.nxt.length) (l:=l0);have ga:=λX=>zzc (X:=X) hoa;have h94:=λbb D'=>w94 a ha (zyu a.nxt.length l0) (λx hx=>ztv x hx) (by omega) bb D';have e:zdx a (f,k)=(f||(zyu a.nxt.length l0).any a.accB):=(by unfold zdx;rw [show (f,k).2=_ from hk,znf ha]);rw [e];subst hk;simp only [zzn,zzr] at h94;rw [zzb (fn:=Tryz.f99) (show Q.P.funcs[99]? =some Tryz.f99 from Tryz.func99) rfl ycj rfl (by simp only [tzd,tze];decide) (by kernel_rfl)];cases f
 .simp [-List.map_set,ga,h94]
 simp [-List.map_set,ga,h94]
end Go.Dv
namespace Go.Fsa
def ysl (a:Aut):Aut×Int:=if a.valid then ((ymk a).canP,0) else (⟨0,0,[],[]⟩,60)
end Go.Fsa
namespace Go.Dv
open Go Go.Sim Go.Proofs Go.Fsa
attribute [local simp] zwo zxi zzn zz0 zz1 zya zzv zz5 zzf zz8 zz6 zzt zz4 zzq zv2 zwq agD zn1 zxv zxw zxk zxx zn2 zn3
theorem w42 (a:Aut) (ha:a.nxt.length<1152921504606846976) (hN:a.valid->zim a<=20000/\a.nxt.length<=11) (base:Nat) (D:DH) :
  zzg Q 42 [zzn a] base D=some (zu9 (ysl a).1 (ysl a).2,D):=by
 rw [zzb (fn:=Tryz.f42) (show Q.P.funcs[42]? =some Tryz.f42 from Tryz.func42) rfl xwr rfl (by simp only [tzd,tze];decide) (by kernel_rfl)];have gp:=xm1;simp [xwr,Tryz.f42,zym] at gp;have h18:=λbb D'=>w18 a ha bb D';simp only [zzn,zze] at h18;have r18:(Q.ann 18).raw=false:=by rw [yki]
 by_cases hv:a.valid
 case neg=>
  have hck:a.check=60:=by simp [-List.map_set,Aut.check,hv]
  have e:ysl a=(⟨0,0,[],[]⟩,60):=by unfold ysl;rw [if_neg hv]
  rw [e];simp [-List.map_set,gp,h18,hck,zu9]
 have hck:a.check=0:=Aut.check_valid.2 hv;have e:ysl a=((ymk a).canP,0):=by unfold ysl;rw [if_pos hv]
 rw [e];obtain ⟨hN,hn11⟩:=hN hv;obtain ⟨m1,m2⟩:=xy6 hv hN;obtain ⟨s0,hs0⟩:∃ s0,s0=zk1 a:=⟨_,rfl⟩;have hlo:=hv.lo;have hhi:=hv.hi;have hla:=hv.len;have hst0:=hv.st0;have hst1:=hv.st1;have r87:(Q.ann 87).raw=true:=by rw [zmx]
 have r96:(Q.ann 96).raw=true:=by rw [yci]
 have d0:yl9 a s0:=by rw [hs0];exact ⟨_,rfl⟩
 obtain ⟨x1,x2⟩:=yxq (succ:=zoj a) (dom:=yl9 a) (s0:=s0) (N:=zim a) d0 (λs hs t ht=>zol hs ht) (λq h1 h2=>yxn h1 h2) (by omega);obtain ⟨qs,hqs⟩:∃ q,q=(exN (zoj a) s0 (zim a)).1:=⟨_,rfl⟩;obtain ⟨rows,hrows⟩:∃ q,q=(exN (zoj a) s0 (zim a)).2:=⟨_,rfl⟩;have hx:exR id (zoj a) 100000 (zim a+1) 0 [s0]=some (qs,rows):=x1.trans (by rw [hqs,hrows]);obtain ⟨m,hm⟩:∃ m,m=ymk a:=⟨_,rfl⟩;have hm':m=⟨a.sy,0,qs.map (zdx a),rows⟩:=by rw [hm,hqs,hrows,hs0];rfl
 rw [<-hm] at m1 m2 ⊢;have hml:m.acc.length<=20000:=by have:=m1.most;omega
 have hql:m.acc.length=qs.length:=by rw [hm'];simp [-List.map_set]
 obtain ⟨c,hc⟩:∃ c,c=m.canP:=⟨_,rfl⟩;by_cases h0:0<a.acc.length;rotate_left
 .skip
  have es:zk1 a=(true,zw9 (zyu a.nxt.length [])):=by unfold zk1;rw [if_neg h0]
  have h87:=λbb hb hob=>ylz a.nxt.length (by omega) bb (D++[.arr 4 [zzn a],.arr 4 [.agg [zzf 0,zzf 0,zyf,zyf]]]) hb hob;obtain ⟨D4,hD4⟩:∃ Y:DH,Y=[.arr 4 [zzn a],.arr 4 [.agg [zzf 0,zzf 0,zyf,zyf]]]:=⟨_,rfl⟩;have hL:(D++D4).length=D.length+2:=by rw [hD4];simp [-List.map_set]
  have es':=(congrArg Prod.snd (hs0.trans es)).symm;simp only at es';rw [es'] at h87
  obtain ⟨O1,O2,fi,bs,hex,hfb,hO⟩:=w96 a.sy.toNat 100000 s0 (zoj a) (zdx a) (yl9 a) (zim a+1) qs rows 97 99 [] [.ref D.length 0 0] [] [.ref D.length 0 0] D.length (D++D4)
   hx d0 (λs hs t ht=>zol hs ht) (λs=>zok) (by omega) (by omega) (by omega) (by omega)
   (by rw [zy6,hD4];simp [-List.map_set,zys,zvc,zy1]) (by simp [-List.map_set]) (by simp [-List.map_set,hL]) (by simp [-List.map_set]) (by simp [-List.map_set,hL]) (by rw [ycj])
   (λx c' o hx' ho=>by
    obtain ⟨rfl,hc'⟩:=zdy ho
    refine ⟨_,λX=>?_,.inl rfl⟩
    exact w97 a hv hn11 x hx' c' hc' D.length D.length (D++D4++X) (by rw [hD4];simp [-List.map_set]))
   (λX x hx'=>w99 a hv x hx' D.length D.length (D++D4++X) (by rw [hD4];simp [-List.map_set]))
  rw [hD4] at hex;have h61:=λbb=>yd8 m m1 m2 (D.length+3) (D.length+8) (D.length+9) (qV (D.length+6) m.acc.length) (qV (D.length+7) m.acc.length) bb (D++D4++.arr 2 [agD s0]::zxb (D.length+3) m O1 O2 fi bs) (by rw [hD4];simp [-List.map_set,zxb]) (by rw [hD4];simp [-List.map_set,zxb]) (by rw [hD4];simp [-List.map_set,zxb]);rw [<-hc,hD4] at h61;rw [<-hc];simp only [zxb,hql] at h61;rw [hm'] at h61;simp only [zze,zzr,zzn,agD,Int.toNat_of_nonneg (show 0<=a.sy by omega)] at hex;rw [show ((100000:Nat):Int)=100000 from rfl] at hex;have h87':=h87 (D.length+2) (by simp [-List.map_set]) (by rw [List.drop_append,tyy (by omega)];simp [-List.map_set,zys]);simp [-List.map_set,txq,zu9] at hex h61 h87';have hs1:s0.1=true:=by rw [hs0];rfl
  rw [hs1] at hex h61;simp [-List.map_set,gp,hck,h0,h18,r18,r87,r96,h87',hex,h61,zu9,zqb,zua,zqc]
 skip
 have es:zk1 a=(true,zw9 (zyu a.nxt.length [a.st])):=by unfold zk1;rw [if_pos h0]
 have h87:=λbb hb hob=>xxs a.nxt.length (by omega) a.st (by omega) (D.length+2) bb (D++[.arr 4 [zzn a],.arr 4 [.agg [zzf 0,zzf 0,zyf,zyf]],.arr 1 [zzf a.st]]) (by simp [-List.map_set]) hb hob;obtain ⟨D4,hD4⟩:∃ Y:DH,Y=[.arr 4 [zzn a],.arr 4 [.agg [zzf 0,zzf 0,zyf,zyf]],.arr 1 [zzf a.st]]:=⟨_,rfl⟩;have hL:(D++D4).length=D.length+3:=by rw [hD4];simp [-List.map_set]
 have es':=(congrArg Prod.snd (hs0.trans es)).symm;simp only at es';rw [es'] at h87
 obtain ⟨O1,O2,fi,bs,hex,hfb,hO⟩:=w96 a.sy.toNat 100000 s0 (zoj a) (zdx a) (yl9 a) (zim a+1) qs rows 97 99 [] [.ref D.length 0 0] [] [.ref D.length 0 0] D.length (D++D4)
  hx d0 (λs hs t ht=>zol hs ht) (λs=>zok) (by omega) (by omega) (by omega) (by omega)
  (by rw [zy6,hD4];simp [-List.map_set,zys,zvc,zy1]) (by simp [-List.map_set]) (by simp [-List.map_set,hL]) (by simp [-List.map_set]) (by simp [-List.map_set,hL]) (by rw [ycj])
  (λx c' o hx' ho=>by
   obtain ⟨rfl,hc'⟩:=zdy ho
   refine ⟨_,λX=>?_,.inl rfl⟩
   exact w97 a hv hn11 x hx' c' hc' D.length D.length (D++D4++X) (by rw [hD4];simp [-List.map_set]))
  (λX x hx'=>w99 a hv x hx' D.length D.length (D++D4++X) (by rw [hD4];simp [-List.map_set]))
 rw [hD4] at hex;have h61:=λbb=>yd8 m m1 m2 (D.length+4) (D.length+9) (D.length+10) (qV (D.length+7) m.acc.length) (qV (D.length+8) m.acc.length) bb (D++D4++.arr 2 [agD s0]::zxb (D.length+4) m O1 O2 fi bs) (by rw [hD4];simp [-List.map_set,zxb]) (by rw [hD4];simp [-List.map_set,zxb]) (by rw [hD4];simp [-List.map_set,zxb]);rw [<-hc,hD4] at h61;rw [<-hc];simp only [zxb,hql] at h61;rw [hm'] at h61;simp only [zze,zzr,zzn,agD,Int.toNat_of_nonneg (show 0<=a.sy by omega)] at hex;rw [show ((100000:Nat):Int)=100000 from rfl] at hex;have h87':=h87 (D.length+2) (by simp [-List.map_set]) (by rw [List.drop_append,tyy (by omega)];simp [-List.map_set,zys]);simp [-List.map_set,txq,zu9] at hex h61 h87';have hs1:s0.1=true:=by rw [hs0];rfl
 rw [hs1] at hex h61;simp [-List.map_set,gp,hck,h0,h18,r18,r87,r96,h87',hex,h61,zu9,zqb,zua,zqc]
end Go.Dv
namespace Go.Dv
open Go Go.Sim Go.Proofs Go.Fsa
attribute [local simp] zwo zxi zzn zz0 zz1 zya zzv zz5 zzf zz8 zz6 zzt zz4 zzq zv2 zwq yl0 zn1 zxv zxw zxk zxx zn2 zn3
theorem xjg (a:Aut) (ha:a.valid) (p:List UInt8) (hp:yfn a p) (oa base:Nat) (D:DH) (hoa:D[oa]? =some (.arr 4 [zzn a])) :
  zzg Q 103 [yl0 p,.ref oa 0 0] base D=some (zzr (xy3 a p),D):=by
 obtain ⟨l0,hk⟩:=hp;have hm:=ha.most;have hl:=ha.len;have hsl:=zte (n:=a.nxt.length) (l:=l0);have ga:=λX=>zzc (X:=X) hoa;have h102:=λbb D'=>xqa (s:=zyu a.nxt.length l0) (base:=bb) (D:=D') (inA.hi ha λx hx=>ztv x hx) (by omega);have h104:=λbb D'=>xje (zyu a.nxt.length l0) (by omega) a.begin bb D';have h89:=λbb D'=>w89 a bb D';have e:xy3 a p=decide (a.begin∈zyu a.nxt.length l0):=(by unfold xy3;rw [hk,znf ha]);rw [e];subst hk;simp only [zzn,zzr,zyq,zx2,zze] at h89 h104;rw [zzb (fn:=Tryz.f103) (show Q.P.funcs[103]? =some Tryz.f103 from Tryz.func103) rfl ys5 rfl (by simp only [tzd,tze];decide) (by kernel_rfl)];have gp:=xqv;simp [ys5,Tryz.f103,zym] at gp;have r102:(Q.ann 102).raw=false:=by rw [yye]
 have r104:(Q.ann 104).raw=false:=by rw [ye4]
 have r89:(Q.ann 89).raw=false:=by rw [ysy]
 simp [-getElem?_pos,-List.map_set,gp,hoa,zyr hoa,r102,r104,r89,h102,h104,h89]
def xr0 (a:Aut) (o2:Nat) (D:DH):Prop:=∃ els:List DV,D[o2]? =some (.arr 1 els)/\els.length=a.nxt.length/\∀ s:Nat,s<a.nxt.length->∃ r cs,els[s]? =some (.row r 0 a.sy.toNat a.sy.toNat)/\D[r]? =some (.arr 1 cs)/\cs.length=a.sy.toNat/\∀ c:Nat,(c:Int)<a.sy->∃ q,cs[c]? =some (.apl q (yts a s c).length)/\D[q]? =some (.app 3 1 ((yts a s c).map zzf))
theorem xr0.app {a:Aut} {o2:Nat} {D:DH} (h:xr0 a o2 D) (X:DH):xr0 a o2 (D++X):=by
 obtain ⟨els,h1,h2,h3⟩:=h;refine ⟨els,zzc h1,h2,λs hs=>?_⟩;obtain ⟨r,cs,g1,g2,g3,g4⟩:=h3 s hs;refine ⟨r,cs,g1,zzc g2,g3,λc hc=>?_⟩;obtain ⟨q,k1,k2⟩:=g4 c hc;exact ⟨q,k1,zzc k2⟩
theorem xjh (a:Aut) (ha:a.valid) (hn11:a.nxt.length<=11) (p:List UInt8) (hp:yfn a p) (c:Nat) (hc:(c:Int)<a.sy) (ob o2 base:Nat) (D:DH) (hob:D[ob]? =some (.arr 1 [.row o2 0 a.nxt.length a.nxt.length])) (hT:xr0 a o2 D) :
  zzg Q 101 [yl0 p,zze c,.ref ob 0 0] base D=some (.tup [yl0 (zw9 (zyu a.nxt.length (zom a (stN p) c))),zzr true],D):=by
 obtain ⟨l0,hk⟩:=hp;have hst:stN p=zyu a.nxt.length l0:=by rw [hk];exact znf ha
 obtain ⟨s,hs⟩:∃ s,s=zyu a.nxt.length l0:=⟨_,rfl⟩;have hsl:s.length<=a.nxt.length:=by rw [hs];exact zte
 have hsin:inA a s:=λx hx=>ztv x (by rw [hs] at hx;exact hx);have hsn:s.Nodup:=by rw [hs];exact yza
 rw [<-hs] at hk hst;simp only [hst];subst hk;obtain ⟨els,t1,t2,t3⟩:=hT;have gb:=λX=>zzc (X:=X) hob;have g2:=λX=>zzc (X:=X) t1;have h102:=λbb D'=>xqa (s:=s) (base:=bb) (D:=D') (inA.hi ha hsin) (by omega);have r87:(Q.ann 87).raw=true:=by rw [zmx]
 have hlb:=zk5 (a:=a) (c:=c) hsn;rw [zzb (fn:=Tryz.f101) (show Q.P.funcs[101]? =some Tryz.f101 from Tryz.func101) rfl xwu rfl (by simp only [tzd,tze];decide) (by kernel_rfl)];simp [-getElem?_pos,-List.map_set,h102];generalize hX:zxj _ _ _=X
 obtain ⟨tm,W,rfl,hW,t7⟩:∃ (tm:Trie DV) (W:List Int),X=some (.exit 0,⟨tm,D++[.app 3 1 (W.map zzf)]⟩)/\W=zom a s c/\tm.get 7=some (.apl D.length W.length):=by
  rw [<-hX];clear hX hst r87 h102;have hob1:ob<D.length+1:=by have:=zyr hob;omega
  generalize hs77:SD.mk _ _=sd77;revert sd77;refine wl (λp:Nat×List Int=>⟨(((((Trie.leaf.put 13 (zze p.1)).put 12 (zze s.length)).put 11 (zyq s)).put 7 (.apl D.length p.2.length)).put 2 (.ref ob 0 0)).put 1 (zze c),D++[.app 3 1 (p.2.map zzf)]⟩) (λp=>p.1<=s.length/\p.2=zom a (s.take p.1) c) (λp=>s.length-p.1) ?_ (0,[]) ⟨tz6 _,rfl⟩;rintro ⟨i,W⟩ ⟨hi,hW⟩ ih;simp only at hi hW ih;have hWl:W.length<=a.nxt.length:=by rw [hW];exact zk5 (hsn.sublist (List.take_sublist _ _))
  rw [if_pos hob1];rw [zzj];by_cases hlt:i<s.length
  case neg=>
   rw [tzk (by omega)] at hW;simp [-getElem?_pos,-List.map_set,hlt,hob1];exact ⟨_,W,⟨rfl,rfl⟩,hW,by simp [-getElem?_pos,-List.map_set]⟩
  obtain ⟨x,hx⟩:∃ x,s[i]? =some x:=⟨_,tzb hlt⟩;obtain ⟨x1,x2⟩:=hsin x (tzg hx);obtain ⟨n,rfl⟩:∃ n:Nat,x=n:=⟨x.toNat,by omega⟩;obtain ⟨r,cs,e1,e2,e3,e4⟩:=t3 n (by omega);obtain ⟨q,e5,e6⟩:=e4 c hc;have gr:=λX=>zzc (X:=X) e2;have gq:=λX=>zzc (X:=X) e6;have hT:zom a (s.take (i+1)) c=W++yts a n c:=by rw [tz8,hx,hW];simp [-getElem?_pos,-List.map_set,zom]
  have hWl2:(W++yts a n c).length<=a.nxt.length:=by rw [<-hT];exact zk5 (hsn.sublist (List.take_sublist _ _))
  rw [tz5] at hWl2;have hlo:=ha.lo;have hcs:c<a.sy.toNat:=by omega
  have ih':=ih (i+1,W++yts a n c) ⟨by simp only;omega,by simp only;rw [hT]⟩ (by simp only;omega);rw [if_pos hob1] at ih';simp [-getElem?_pos,-List.map_set] at ih';simp [-getElem?_pos,-List.map_set,show (W.length+(yts a n c).length)*8<=1099511627776/\W.length+(yts a n c).length<=1099511627776 by omega,show n<a.nxt.length by omega,hlt,hob1,zyr hob,gb,g2,gr,gq,hx,e1,e5,t2,e3,hcs,zzi (show i+1<=9223372036854775807 by omega)];exact ih'
 subst hW;obtain ⟨X,h87⟩:=w87 a.nxt.length (by omega) (zom a s c) (λx hx=>(zk2.1 hx).1) (by omega) D.length D.length (D++[.app 3 1 ((zom a s c).map zzf)]) ⟨by omega,by rw [zy6];simp [-getElem?_pos,-List.map_set,zvc,zy1],by simp [-getElem?_pos,-List.map_set]⟩;simp [-getElem?_pos,-List.map_set] at h87;simp [-getElem?_pos,-List.map_set,t7,r87,h87]
end Go.Dv
set_option maxHeartbeats 2000000
namespace Go.Dv
open Go Go.Sim Go.Proofs Go.Fsa
def zf1 (r sy:Nat) (b:Nat->List Int):List DV:=(List.range sy).map λc=>.apl (r+(c+1)) (b c).length
theorem zqe {r sy:Nat} {b:Nat->List Int}:(zf1 r sy b).length=sy:=by simp [-List.map_set,zf1]
theorem zlz {r sy c:Nat} {b:Nat->List Int} (h:c<sy):(zf1 r sy b)[c]? =some (.apl (r+(c+1)) (b c).length):=by
 unfold zf1;rw [tzr,tz7 h];rfl
theorem yw5 {r sy c:Nat} {b:Nat->List Int} {l:List Int}:(zf1 r sy b).set c (.apl (r+(c+1)) l.length)=zf1 r sy (λd=>if d=c then l else b d):=by
 refine ty8 λj=>?_;rw [tya];rcases tz9 j sy with h | h
 .rw [zlz h,zlz h,zqe];by_cases e:c=j
  .subst e;simp [-List.map_set,h]
  .rw [if_neg e,if_neg (λe'=>e e'.symm)]
 rw [tzt (l:=zf1 r sy b) (by rw [zqe];exact h),tzt (l:=zf1 _ _ _) (by rw [zqe];exact h),zqe];split
 .rw [if_neg (by omega)]
 .rfl
theorem zh8 {r sy L:Nat} {b:Nat->List Int} (h:r+sy<L):(zf1 r sy b).all (below L)=true:=by
 unfold zf1;rw [List.all_map,tzx];intro i hi;rw [txc] at hi;show below L (.apl _ _)=true;rw [yyx,decide_eq_true_eq];omega
abbrev zA:DV:=.agg [rv (.int .i64 0),rv (.int .i64 0),rv (.slice none 0 0),rv (.slice none 0 0)]
structure RV (a:Aut) (D:DH) (R:Nat->Nat) (E:List Int) (m:Nat) (B:Nat->Nat->List Int) (els:List DV) (H:DH):Prop where
 hlen:D.length+4<H.length
 pre:∀ i,i<D.length->H[i]? =D[i]?
 bel:∀ i x,D.length<=i->H[i]? =some x->zza H.length x=true
 o0:H[D.length]? =some (.arr 4 [zzn a])
 o1:H[D.length+1]? =some (.arr 4 [zA])
 o2:H[D.length+2]? =some (.arr 1 els)
 o3:H[D.length+3]? =some (.arr 1 [.row (D.length+2) 0 a.acc.length a.acc.length])
 o4:H[D.length+4]? =some (.app 3 1 (E.map zzf))
 len:els.length=a.acc.length
 top:∀ s,s<m->els[s]? =some (.row (R s) 0 a.sy.toNat a.sy.toNat)
 row:∀ s,s<m->H[R s]? =some (.arr 1 (zf1 (R s) a.sy.toNat (B s)))
 cell:∀ s,s<m->∀ c,c<a.sy.toNat->H[R s+(c+1)]? =some (.app 3 1 ((B s c).map zzf))
 lo:∀ s,s<m->D.length+4<R s
 inc:∀ s t,s<t->t<m->R s+a.sy.toNat<R t
variable {a:Aut} {D:DH} {R:Nat->Nat} {E:List Int} {m:Nat} {B:Nat->Nat->List Int} {els:List DV} {H:DH}
theorem RV.app (h:RV a D R E m B els H) (g:DObj) (hg:zza (H.length+1) g=true):RV a D R E m B els (H++[g]) where
 hlen:=by have:=h.hlen;simp [-List.map_set];omega
 pre i hi:=by rw [tzs (by have:=h.hlen;omega)];exact h.pre i hi
 bel i x hi hx:=by
  rw [tz5]
  rcases tz9 i H.length with g1 | g1
  .rw [tzs g1] at hx
   exact zyo (tyt _ _) x (h.bel i x hi hx)
  .rw [tzv g1] at hx
   have e:x=g:=by
    rcases ty4 (i-H.length) with g2 | g2
    .rw [g2] at hx;simpa [-List.map_set] using hx.symm
    .rw [tzt (by simp [-List.map_set];omega)] at hx;cases hx
   rw [e];exact hg
 o0:=zzc h.o0
 o1:=zzc h.o1
 o2:=zzc h.o2
 o3:=zzc h.o3
 o4:=zzc h.o4
 len:=h.len
 top:=h.top
 row s hs:=zzc (h.row s hs)
 cell s hs c hc:=zzc (h.cell s hs c hc)
 lo:=h.lo
 inc:=h.inc
theorem yyb {H:DH} {L p:Nat} {y:DObj} (h:∀ i x,L<=i->H[i]? =some x->zza H.length x=true) (hy:zza H.length y=true):∀ i x,L<=i->(H.set p y)[i]? =some x->zza (H.set p y).length x=true:=by
 intro i x hi hx;rw [tz3];rw [tya] at hx;split at hx
 .split at hx
  .cases hx;exact hy
  .cases hx
 .exact h i x hi hx
theorem yl2 {L:Nat} {l:List Int}:zza L (.app 3 1 (l.map zzf))=true:=by
 rw [zvc,List.all_map,tzx];intro x _;show below L (zzf x)=true;exact xr3
theorem RV.ends (h:RV a D R E m B els H) (E':List Int):RV a D R E' m B els (H.set (D.length+4) (.app 3 1 (E'.map zzf))) where
 hlen:=by rw [tz3];exact h.hlen
 pre i hi:=by rw [tz4 (by omega)];exact h.pre i hi
 bel:=yyb h.bel yl2
 o0:=by rw [tz4 (by omega)];exact h.o0
 o1:=by rw [tz4 (by omega)];exact h.o1
 o2:=by rw [tz4 (by omega)];exact h.o2
 o3:=by rw [tz4 (by omega)];exact h.o3
 o4:=by rw [tz1 h.hlen]
 len:=h.len
 top:=h.top
 row s hs:=by rw [tz4 (by have:=h.lo s hs;omega)];exact h.row s hs
 cell s hs c hc:=by rw [tz4 (by have:=h.lo s hs;omega)];exact h.cell s hs c hc
 lo:=h.lo
 inc:=h.inc
theorem RV.far (h:RV a D R E m B els H) {s t:Nat} (hs:s<m) (ht:t<m) (hne:s≠t):R s+a.sy.toNat<R t∨R t+a.sy.toNat<R s:=by
 rcases Nat.lt_or_gt_of_ne hne with g | g
 .exact .inl (h.inc s t g ht)
 exact .inr (h.inc t s g hs)
theorem RV.put (h:RV a D R E m B els H) {t c:Nat} (ht:t<m) (hc:c<a.sy.toNat) (l:List Int) :
  RV a D R E m (λs d=>if s=t/\d=c then l else B s d) els ((H.set (R t+(c+1)) (.app 3 1 (l.map zzf))).set (R t) (.arr 1 (zf1 (R t) a.sy.toNat (λd=>if d=c then l else B t d)))):=by
 have hlo:=h.lo t ht;have hl1:R t+(c+1)<H.length:=zyr (h.cell t ht c hc);have hl2:R t<H.length:=zyr (h.row t ht);have hl3:R t+a.sy.toNat<H.length:=(by have:=zyr (h.cell t ht (a.sy.toNat-1) (by omega));omega)
 have low:∀ i,i<=D.length+4->((H.set (R t+(c+1)) (.app 3 1 (l.map zzf))).set (R t) (.arr 1 (zf1 (R t) a.sy.toNat (λd=>if d=c then l else B t d))))[i]? =H[i]?:=λi hi=>by
  rw [tz4 (by omega),tz4 (by omega)]
 refine ⟨by rw [tz3,tz3];exact h.hlen,λi hi=>by rw [low i (by omega)];exact h.pre i hi,?_,by rw [low _ (by omega)];exact h.o0,by rw [low _ (by omega)];exact h.o1,by rw [low _ (by omega)];exact h.o2,by rw [low _ (by omega)];exact h.o3,by rw [low _ (by omega)];exact h.o4,h.len,h.top,?_,?_,h.lo,h.inc⟩
 .refine yyb (yyb h.bel yl2) ?_;rw [zys,tz3];exact zh8 hl3
 .intro s hs;by_cases e:s=t
  .subst e;rw [tz1 (by rw [tz3];exact hl2)];simp [-List.map_set]
  have:=h.far hs ht e;rw [tz4 (by omega),tz4 (by omega),h.row s hs];simp [-List.map_set,e]
 intro s hs d hd;by_cases e:s=t
 .subst e;rw [tz4 (by omega)];by_cases e2:d=c
  .subst e2;rw [tz1 hl1];simp [-List.map_set]
  rw [tz4 (by omega),h.cell s hs d hd];simp [-List.map_set,e2]
 .have:=h.far hs ht e;rw [tz4 (by omega),tz4 (by omega),h.cell s hs d hd];simp [-List.map_set,e]
theorem RV.new (h:RV a D R E m (λ_ _=>[]) els H) (hm:m<a.acc.length) (x:DObj) (G:DH) (hG:G=List.replicate a.sy.toNat (.app 3 1 [])) :
  RV a D (λs=>if s=m then H.length else R s) E (m+1) (λ_ _=>[]) (els.set m (.row H.length 0 a.sy.toNat a.sy.toNat)) ((((H++[x]).set (D.length+2) (.arr 1 (els.set m (.row H.length 0 a.sy.toNat a.sy.toNat)))).set H.length (.arr 1 (zf1 H.length a.sy.toNat (λ_=>[]))))++G):=by
 have hh:=h.hlen;have hGl:G.length=a.sy.toNat:=by rw [hG,tyz]
 obtain ⟨K,hK⟩:∃ K,K=((H++[x]).set (D.length+2) (.arr 1 (els.set m (.row H.length 0 a.sy.toNat a.sy.toNat)))).set H.length (.arr 1 (zf1 H.length a.sy.toNat (λ_=>[]))):=⟨_,rfl⟩;have hKl:K.length=H.length+1:=by rw [hK,tz3,tz3,tz5];rfl
 have k0:∀ i,i<H.length->i≠D.length+2->K[i]? =H[i]?:=λi h1 h2=>by
  rw [hK,tz4 (by omega),tz4 (by omega),tzs h1]
 have k2:K[D.length+2]? =some (.arr 1 (els.set m (.row H.length 0 a.sy.toNat a.sy.toNat))):=(by rw [hK,tz4 (by omega),tz1 (by simp [-List.map_set];omega)]);have k3:K[H.length]? =some (.arr 1 (zf1 H.length a.sy.toNat (λ_=>[]))):=(by rw [hK,tz1 (by simp [-List.map_set])]);have kl:∀ i,i<H.length+1->(K++G)[i]? =K[i]?:=λi hi=>tzs (by omega)
 have hR:∀ s,s<m->R s+a.sy.toNat<H.length:=λs hs=>by
  rcases ty4 a.sy.toNat with e | e
  .have:=zyr (h.row s hs);omega
  have:=zyr (h.cell s hs (a.sy.toNat-1) (by omega));omega
 rw [<-hK];refine ⟨by simp [-List.map_set];omega,λi hi=>by rw [kl _ (by omega),k0 _ (by omega) (by omega)];exact h.pre i hi,?_,?_,?_,?_,?_,?_,by rw [tz3];exact h.len,?_,?_,?_,?_,?_⟩
 .intro i y hi hy;have hlen:(K++G).length=H.length+1+a.sy.toNat:=by rw [tz5,hKl,hGl]
  rw [hlen];rcases tz9 i (H.length+1) with g | g
  .rw [kl _ g] at hy;by_cases e1:i=D.length+2
   .rw [e1,k2] at hy;cases hy;rw [zys,tzx];intro d hd;rcases List.mem_or_eq_of_mem_set hd with q | q
    .have:=h.bel _ _ (by omega) h.o2;rw [zys,tzx] at this;exact (zy8 (by omega)).1 d (this d q)
    .rw [q,zkl,decide_eq_true_eq];omega
   .by_cases e2:i=H.length
    .rw [e2,k3] at hy;cases hy;rw [zys];exact zh8 (by omega)
    rw [k0 i (by omega) e1] at hy;exact zyo (by omega) y (h.bel i y hi hy)
  .rw [tzv (by omega),hG,tyq] at hy;split at hy
   .cases hy;rw [zvc];rfl
   .cases hy
 .rw [kl _ (by omega),k0 _ (by omega) (by omega)];exact h.o0
 .rw [kl _ (by omega),k0 _ (by omega) (by omega)];exact h.o1
 .rw [kl _ (by omega),k2]
 .rw [kl _ (by omega),k0 _ (by omega) (by omega)];exact h.o3
 .rw [kl _ (by omega),k0 _ (by omega) (by omega)];exact h.o4
 .intro s hs;by_cases e:s=m
  .subst e;rw [tz1 (by rw [h.len];exact hm),if_pos rfl]
  rw [tz4 (λe'=>e e'.symm),if_neg e];exact h.top s (by omega)
 .intro s hs;by_cases e:s=m
  .simp only [if_pos e];rw [kl _ (by omega),k3]
  simp only [if_neg e];have h1:=h.lo s (by omega);have h2:=zyr (h.row s (by omega));rw [kl _ (by omega),k0 _ h2 (by omega),h.row s (by omega)]
 .intro s hs c hc;by_cases e:s=m
  .simp only [if_pos e];rw [tzv (by omega),hG,tyq,if_pos (by omega)];rfl
  simp only [if_neg e];have h1:=h.lo s (by omega);have h2:=hR s (by omega);rw [kl _ (by omega),k0 _ (by omega) (by omega),h.cell s (by omega) c hc]
 .intro s hs;by_cases e:s=m
  .simp only [if_pos e];omega
  simp only [if_neg e];exact h.lo s (by omega)
 .intro s t hst ht;have e1:¬s=m:=by omega
  simp only [if_neg e1];by_cases e:t=m
  .simp only [if_pos e];exact hR s (by omega)
  simp only [if_neg e];exact h.inc s t hst (by omega)
theorem RV.pre' (h:RV a D R E m B els H):H.take D.length=D:=by
 refine ty8 λi=>?_;rw [tyb];split
 .rename_i g;exact h.pre i g
 rename_i g;rw [tzt (by omega)]
theorem RV.bel' (h:RV a D R E m B els H):(H.drop D.length).all (zza H.length)=true:=by
 rw [tzx];intro x hx;obtain ⟨i,hi⟩:=List.getElem?_of_mem hx;rw [tyj] at hi;exact h.bel _ x (by omega) hi
end Go.Dv
set_option maxHeartbeats 4000000
namespace Go.Fsa
def xx5 (a:Aut):Aut×Int:=if a.valid then ((xsy a).canP,0) else (⟨0,0,[],[]⟩,60)
def ysx (a:Aut) (x:Nat) (t c:Nat):List Int:=((List.range x).map λi:Nat=>(i:Int)).filter λy=>decide (a.go y c=t)
theorem zc2 {a:Aut} {x t c:Nat}:ysx a (x+1) t c=ysx a x t c++if a.go x c=t then [(x:Int)] else []:=by
 unfold ysx;rw [List.range_succ,txk,List.filter_append];congr 1;by_cases h:a.go x c=t<;>simp [h]
theorem yer {a:Aut} {x t c:Nat}:(ysx a x t c).length<=x:=by
 unfold ysx;exact tys (List.length_filter_le _ _) (by simp)
end Go.Fsa
namespace Go.Dv
open Go Go.Sim Go.Proofs Go.Fsa
attribute [local simp] zwo zxi zzn zz0 zz1 zya zzv zz5 zzf zz8 zz6 zzt zz4 zzq zv2 zwq yl0 zn1 zxv zxw zxk zxx zn2 zn3
theorem w44 (a:Aut) (ha:a.nxt.length<1152921504606846976) (hN:a.valid->zff a<=20000/\a.nxt.length<=11) (base:Nat) (D:DH) :
  zzg Q 44 [zzn a] base D=some (zu9 (xx5 a).1 (xx5 a).2,D):=by
 rw [zzb (fn:=Tryz.f44) (show Q.P.funcs[44]? =some Tryz.f44 from Tryz.func44) rfl xws rfl (by simp only [tzd,tze];decide) (by kernel_rfl)];have gp:=xm2;simp [xws,Tryz.f44,zym] at gp;have h18:=λbb D'=>w18 a ha bb D';simp only [zzn,zze] at h18;have r18:(Q.ann 18).raw=false:=by rw [yki]
 by_cases hv:a.valid
 case neg=>
  have hck:a.check=60:=by simp [-getElem?_pos,-List.map_set,Aut.check,hv]
  have e:xx5 a=(⟨0,0,[],[]⟩,60):=by unfold xx5;rw [if_neg hv]
  rw [e];simp [-getElem?_pos,-List.map_set,gp,h18,hck,zu9]
 have hck:a.check=0:=Aut.check_valid.2 hv;have e:xx5 a=((xsy a).canP,0):=by unfold xx5;rw [if_pos hv]
 rw [e];obtain ⟨hN,hn11⟩:=hN hv;have hla:=hv.len;simp [-getElem?_pos,-List.map_set,gp,h18,hck,show a.acc.length*24<=140737488355328 by omega,show a.acc.length<9223372036854775808 by omega];generalize hX:zxj _ _ _=X;have hlo:=hv.lo;have hhi:=hv.hi;obtain ⟨sy,hsy⟩:∃ sy:Nat,a.sy=sy:=⟨a.sy.toNat,by omega⟩;have hsyN:a.sy.toNat=sy:=by omega
 obtain ⟨tm,R,els,H,rfl,hRV,t1,t2,t4,t5⟩:∃ (tm:Trie DV) (R:Nat->Nat) (els:List DV) (H:DH),X=some (.exit 0,⟨tm,H⟩)/\RV a D R (ztg a) a.acc.length (λ_ _=>[]) els H/\tm.get 1=some (.ref D.length 0 0)/\tm.get 2=some (.ref (D.length+1) 0 0)/\tm.get 4=some (.ref (D.length+3) 0 0)/\tm.get 5=some (.apl (D.length+4) (ztg a).length):=by
  rw [<-hX];clear hX h18 r18;generalize hs78:SD.mk _ _=sd78;revert sd78;refine wl (λp:Nat×List Int×DH=>⟨(((((Trie.leaf.put 21 (zze p.1)).put 20 (zze a.acc.length)).put 5 (.apl (D.length+4) p.2.1.length)).put 4 (.ref (D.length+3) 0 0)).put 2 (.ref (D.length+1) 0 0)).put 1 (.ref D.length 0 0),p.2.2⟩) (λp=>p.1<=a.acc.length/\p.2.1=((List.range p.1).map λi:Nat=>(i:Int)).filter a.accB/\∃ R els,RV a D R p.2.1 p.1 (λ_ _=>[]) els p.2.2) (λp=>a.acc.length-p.1) ?_ (0,[],_) ⟨tz6 _,rfl,λ_=>0,List.replicate a.acc.length zyf,?_⟩;rotate_left
  .refine ⟨by simp [-getElem?_pos,-List.map_set],λi hi=>by rw [tzs hi],?_,by simp [-getElem?_pos,-List.map_set],by simp [-getElem?_pos,-List.map_set],by simp [-getElem?_pos,-List.map_set],by simp [-getElem?_pos,-List.map_set],by simp [-getElem?_pos,-List.map_set],by simp [-getElem?_pos,-List.map_set],λs hs=>absurd hs (txs s),λs hs=>absurd hs (txs s),λs hs=>absurd hs (txs s),λs hs=>absurd hs (txs s),λs t _ hs=>absurd hs (txs t)⟩;intro i x hi hx;rw [tzv hi] at hx;have hm:=tzg hx;simp [-getElem?_pos,-List.map_set] at hm;rcases hm with rfl | rfl | rfl | rfl | rfl<;>simp [-getElem?_pos,-List.map_set,zys,zvc]
  rintro ⟨i,E,H⟩ ⟨hi,hE,R,els,hRV⟩ ih;simp only at hi hE hRV ih;have q0:=hRV.o0;have q2:=hRV.o2;have q3:=hRV.o3;have q4:=hRV.o4;have g0:=λX=>zzc (X:=X) q0;have g2:=λX=>zzc (X:=X) q2;have g3:=λX=>zzc (X:=X) q3;have g4:=λX=>zzc (X:=X) q4;rw [zzj];by_cases hlt:i<a.acc.length
  case neg=>
   have hin:i=a.acc.length:=by omega
   subst hin;have hE2:E=ztg a:=by rw [hE];unfold ztg;rw [hla]
   subst hE2;simp [-getElem?_pos,-List.map_set,gp,];exact ⟨_,R,els,_,⟨rfl,rfl⟩,hRV,by simp [-getElem?_pos,-List.map_set]⟩
  obtain ⟨b,hb⟩:∃ b,a.acc[i]? =some b:=⟨_,tzb hlt⟩;have hh:=hRV.hlen;have hE':E.length<=i:=by rw [hE];exact tys (List.length_filter_le _ _) (by simp [-getElem?_pos,-List.map_set])
  have hiw:=zzi (show i+1<=9223372036854775807 by omega);have hEl:(E.length+1)*8<=1099511627776/\E.length<=1099511627775:=by omega
  have kS:∀ x y,(List.set (H++[x]) (D.length+2) y)[H.length]? =some x:=λx y=>by rw [tz4 (by omega),tzv (tzp _),Nat.sub_self];rfl
  have kK:∀ (x y z:DObj) (G:DH) (i:Nat),i<H.length->i≠D.length+2->(List.set (List.set (H++[x]) (D.length+2) y) H.length z++G)[i]? =H[i]?:=λx y z G i h1 h2=>by
   rw [tzs (by simp [-getElem?_pos,-List.map_set];omega),tz4 (by omega),tz4 (by omega),tzs h1]
  have k0:=λx y z G=>(kK x y z G D.length (by omega) (by omega)).trans q0;have k4:=λx y z G=>(kK x y z G (D.length+4) (by omega) (by omega)).trans q4;obtain ⟨x0,he⟩:∃ x,els[i]? =some x:=⟨_,tzb (by rw [hRV.len];exact hlt)⟩;simp [-getElem?_pos,-List.map_set,gp,show sy*24<=140737488355328 by omega,show sy<9223372036854775808 by omega,hsy,hlt,q0,q2,q3,q4,g0,g2,g3,g4,hRV.len,hb,he,kS,k0,k4,show D.length<=H.length by omega,hEl,hiw];obtain ⟨K,hK⟩:∃ K,K=(List.set (List.set (H++[.arr 1 (List.replicate sy (DV.f (FV.raw (.slice none 0 0))))]) (D.length+2) (.arr 1 (els.set i (.row H.length 0 sy sy)))) H.length (.arr 1 ((List.range sy).map λi=>.apl (H.length+1+i) 0))++List.replicate sy (.app 3 1 []):DH):=⟨_,rfl⟩;have hRK:RV a D (λs=>if s=i then H.length else R s) E (i+1) (λ_ _=>[]) (els.set i (.row H.length 0 sy sy)) K:=(by have h:=hRV.new hlt (.arr 1 (List.replicate sy (DV.f (FV.raw (.slice none 0 0))))) _ rfl;rw [hsyN] at h;have e:zf1 H.length sy (λ_=>[])=(List.range sy).map λi=>DV.apl (H.length+1+i) 0:=(by unfold zf1;refine List.map_congr_left λj _=>?_;rw [show H.length+(j+1)=H.length+1+j by omega];rfl);rw [e,<-hK] at h;exact h)
  have p4:=hRK.o4;have j4:=λX=>zzc (X:=X) p4
  have hsn:((List.range (i+1)).map λi:Nat=>(i:Int)).filter a.accB=E++if b=true then [(i:Int)] else []:=by
   rw [List.range_succ,txk,List.filter_append,<-hE];congr 1;have e2:a.accB (i:Int)=b:=by simp [-getElem?_pos,-List.map_set,Aut.accB,hb]
   cases b<;>simp [-getElem?_pos,-List.map_set,e2]
  cases b with
  | false=>
   rw [<-hK];clear hK;have ih':=ih (i+1,E,K) ⟨by simp only;omega,by simp only;rw [hsn];simp [-getElem?_pos,-List.map_set],_,_,hRK⟩ (by simp only;omega);simp [-getElem?_pos,-List.map_set] at ih';simp [-getElem?_pos,-List.map_set,gp,hiw];exact ih'
  | true=>
   have hb1:∀ x:Int,zza (K.length+1) (.arr 1 [zzf x])=true:=λx=>by rw [zys];rfl
   have hRG:=(hRK.app (.arr 1 [zzf i]) (hb1 i)).ends (E++[(i:Int)]);have ih':=ih (i+1,E++[(i:Int)],_) ⟨by simp only;omega,by simp only;rw [hsn];simp [-getElem?_pos,-List.map_set],_,_,hRG⟩ (by simp only;omega);rw [hK] at ih';simp [-getElem?_pos,-List.map_set] at ih'
   have kR:∀ (x y z g w:DObj),(List.set (List.set (H++[x]) (D.length+2) y) H.length z++(List.replicate sy g++[w]))[H.length+1+sy]? =some w:=λx y z g w=>by
    rw [tzv (by simp [-getElem?_pos,-List.map_set]),tzv (by simp [-getElem?_pos,-List.map_set])];simp [-getElem?_pos,-List.map_set]
   simp [-getElem?_pos,-List.map_set,gp,hiw,kR,k4,hEl];exact ih'
 have q0:=hRV.o0;simp [-getElem?_pos,-List.map_set,gp,q0,t1,t2,t4,t5];generalize hX:zxj _ _ _=X
 obtain ⟨tm',B,H',rfl,hRV',hB,u1,u2,u4,u5⟩:∃ (tm':Trie DV) (B:Nat->Nat->List Int) (H':DH),X=some (.exit 2,⟨tm',H'⟩)/\RV a D R (ztg a) a.acc.length B els H'/\(∀ t c,t<a.acc.length->c<sy->B t c=ysx a a.acc.length t c)/\tm'.get 1=some (.ref D.length 0 0)/\tm'.get 2=some (.ref (D.length+1) 0 0)/\tm'.get 4=some (.ref (D.length+3) 0 0)/\tm'.get 5=some (.apl (D.length+4) (ztg a).length):=by
  rw [<-hX];clear hX h18 r18 q0 t1 t2 t4 t5;generalize hs79:SD.mk _ _=sd79;revert sd79;refine wl (λp:Nat×(Nat->Nat->List Int)×DH=>⟨((((((Trie.leaf.put 43 (zze p.1)).put 42 (zze a.nxt.length)).put 41 (.f (.lst (a.nxt.map zx2)))).put 5 (.apl (D.length+4) (ztg a).length)).put 4 (.ref (D.length+3) 0 0)).put 2 (.ref (D.length+1) 0 0)).put 1 (.ref D.length 0 0),p.2.2⟩) (λp=>p.1<=a.acc.length/\RV a D R (ztg a) a.acc.length p.2.1 els p.2.2/\∀ t c,t<a.acc.length->c<sy->p.2.1 t c=ysx a p.1 t c) (λp=>a.acc.length-p.1) ?_ (0,(λ_ _=>[]),H) ⟨tz6 _,hRV,λt c _ _=>rfl⟩;clear hRV;rintro ⟨i,B,H⟩ ⟨hi,hRV,hB⟩ ih;simp only at hi hRV hB ih;rw [zzj];by_cases hlt:i<a.acc.length
  case neg=>
   have hin:i=a.acc.length:=by omega
   subst hin;simp [-getElem?_pos,-List.map_set,gp,hla];exact ⟨_,B,_,⟨rfl,rfl⟩,hRV,hB,by simp [-getElem?_pos,-List.map_set]⟩
  obtain ⟨r,hr⟩:∃ r,a.nxt[i]? =some r:=⟨_,tzb (by omega)⟩;have hlt':i<a.nxt.length:=by omega
  have hrl:r.length=sy:=(by have:=(hv.rows r (tzg hr)).1;omega);simp [-getElem?_pos,-List.map_set,gp,hlt',hr];generalize hX:zxj _ _ _=X
  obtain ⟨tm1,B1,H1,rfl,hRV1,hB1,s1,s2,s4,s5,s41,s42,s43⟩:∃ (tm1:Trie DV) (B1:Nat->Nat->List Int) (H1:DH),X=some (.exit 4,⟨tm1,H1⟩)/\RV a D R (ztg a) a.acc.length B1 els H1/\(∀ t c,t<a.acc.length->c<sy->B1 t c=ysx a (i+1) t c)/\tm1.get 1=some (.ref D.length 0 0)/\tm1.get 2=some (.ref (D.length+1) 0 0)/\tm1.get 4=some (.ref (D.length+3) 0 0)/\tm1.get 5=some (.apl (D.length+4) (ztg a).length)/\tm1.get 41=some (.f (.lst (a.nxt.map zx2)))/\tm1.get 42=some (zze a.nxt.length)/\tm1.get 43=some (zze i):=by
   rw [<-hX];clear hX ih;generalize hs80:SD.mk _ _=sd80;revert sd80;refine wl (λp:Nat×(Nat->Nat->List Int)×DH=>⟨((((((((((Trie.leaf.put 50 (zze p.1)).put 49 (zze r.length)).put 48 (zyq r)).put 43 (zze i)).put 42 (zze a.nxt.length)).put 41 (.f (.lst (a.nxt.map zx2)))).put 7 (zze i)).put 5 (.apl (D.length+4) (ztg a).length)).put 4 (.ref (D.length+3) 0 0)).put 2 (.ref (D.length+1) 0 0)).put 1 (.ref D.length 0 0),p.2.2⟩) (λp=>p.1<=sy/\RV a D R (ztg a) a.acc.length p.2.1 els p.2.2/\∀ t c,t<a.acc.length->c<sy->p.2.1 t c=ysx a (if c<p.1 then i+1 else i) t c) (λp=>sy-p.1) ?_ (0,B,H) ⟨tz6 _,hRV,λt c ht hc=>by rw [if_neg (txs c)];exact hB t c ht hc⟩;clear hRV hB;rintro ⟨k,B,H⟩ ⟨hk,hRV,hB⟩ ih;simp only at hk hRV hB ih;rw [zzj];by_cases hks:k<sy
   case neg=>
    have hkn:k=sy:=by omega
    subst hkn;simp [-getElem?_pos,-List.map_set,gp,hrl];exact ⟨_,B,_,⟨rfl,rfl⟩,hRV,λt c ht hc=>by rw [hB t c ht hc,if_pos hc],by simp [-getElem?_pos,-List.map_set]⟩
   obtain ⟨r',hr',ht⟩:=a.go_some hv (s:=(i:Int)) (c:=k) (by omega) (by omega) (by omega);rw [tym,hr,tza] at hr';subst hr';have hgo:=(Aut.go_dom (x:=(i:Int)) (c:=k) hv).2;have hrk:k<r.length:=by omega
   have hkw:=zzi (show k+1<=9223372036854775807 by omega);by_cases hg:0<=a.go i k
   case neg=>
    have ih':=ih (k+1,B,H) ⟨by simp only;omega,hRV,λt c ht hc=>by
     simp only
     rw [hB t c ht hc]
     by_cases e:c=k
     .subst e
      rw [if_neg (tyr _),if_pos (tyu _),zc2,if_neg (by omega),tyv]
     .simp only [show (c<k+1)=(c<k) from propext (by omega)]⟩ (by simp only;omega)
    simp [-getElem?_pos,-List.map_set] at ih';simp [-getElem?_pos,-List.map_set,gp,hrk,ht,hg,hkw];exact ih'
   obtain ⟨tn,htn⟩:∃ tn:Nat,a.go i k=tn:=⟨(a.go i k).toNat,by omega⟩;have htl:tn<a.acc.length:=by omega
   rw [htn] at ht hg;have q3:=hRV.o3;have c0:=hRV.o2;have c1:=hRV.top tn htl;have c2:=hRV.row tn htl;have c3:=hRV.cell tn htl k (by omega);rw [hsyN] at c1 c2;have hel:=hRV.len;have hqe:R tn+(k+1)<H.length:=zyr c3;have hqr:R tn<H.length:=zyr c2
   have hBl:(B tn k).length<=i+1:=by
    rw [hB tn k htl hks];split
    .omega
    exact tys yer (by omega)
   have f3:=λX=>zzc (X:=X) q3;have f0:=λX=>zzc (X:=X) c0;have f2:=λX=>zzc (X:=X) c2;have fc:=λX=>zzc (X:=X) c3;have hap:((B tn k).length+1)*8<=1099511627776/\(B tn k).length<=1099511627775:=by omega
   have hlw:=hRV.lo tn htl;have n2:¬(D.length+2=R tn+(k+1)):=by omega
   have n3:¬(D.length+3=R tn+(k+1)):=by omega
   have nR:¬(R tn=R tn+(k+1)):=by omega
   have nR2:¬(R tn+(k+1)=R tn):=by omega
   have nl:D.length<=R tn+(k+1):=by omega
   have nl2:D.length<=R tn:=by omega
   have hset:=λl:List Int=>yw5 (r:=R tn) (sy:=sy) (c:=k) (b:=B tn) (l:=l);have hrg:=zlz (r:=R tn) (b:=B tn) hks
   have hS:∀ x y:DObj,(List.set (H++[x]) (R tn+(k+1)) y)[R tn]? =some (.arr 1 (zf1 (R tn) sy (B tn))):=λx y=>by
    rw [tz4 (by omega)];exact f2 _
   have hS2:∀ x y:DObj,(List.set (H++[x]) (R tn+(k+1)) y)[D.length+2]? =some (.arr 1 els):=λx y=>by
    rw [tz4 (by omega)];exact f0 _
   have hS3:∀ x y:DObj,(List.set (H++[x]) (R tn+(k+1)) y)[D.length+3]? =some (.arr 1 [.row (D.length+2) 0 a.acc.length a.acc.length]):=λx y=>by
    rw [tz4 (by omega)];exact f3 _
   have hrl2:=zqe (r:=R tn) (sy:=sy) (b:=B tn);have hb1:zza (H.length+1) (.arr 1 [zzf (i:Int)])=true:=by rw [zys];rfl
   have hRG:=(hRV.app (.arr 1 [zzf i]) hb1).put htl (by omega:k<a.sy.toNat) (B tn k++[(i:Int)]);rw [hsyN,<-yw5] at hRG
   have ih':=ih (k+1,(λs d=>if s=tn/\d=k then B tn k++[(i:Int)] else B s d),_) ⟨by simp only;omega,hRG,λt c gt gc=>by
    show (if t=tn/\c=k then B tn k++[(i:Int)] else B t c)=ysx a (if c<k+1 then i+1 else i) t c
    have hk0:=hB t c gt gc
    by_cases e:c=k
    .rw [if_neg (by omega)] at hk0
     rw [if_pos (show c<k+1 by omega),zc2,e,htn]
     rw [e] at hk0
     by_cases e2:t=tn
     .rw [e2] at hk0 ⊢
      simp [-getElem?_pos,-List.map_set,hk0]
     .simp [-getElem?_pos,-List.map_set,e2,Ne.symm e2,hk0]
    .simp only [show (c<k+1)=(c<k) from propext (by omega)]
     simp [-getElem?_pos,-List.map_set,e,hk0]⟩ (by simp only;omega)
   simp [-getElem?_pos,-List.map_set] at ih';simp [-getElem?_pos,-List.map_set,gp,hrk,ht,hg,hkw,q3,c0,c1,c2,c3,f3,f0,f2,fc,hap,hrg,hel,htl,hks,hS,hS2,hS3,hrl2,n2,n3,nR,nR2,nl,nl2];exact ih'
  have ih':=ih (i+1,B1,H1) ⟨by simp only;omega,hRV1,hB1⟩ (by simp only;omega);have hiw:=zzi (show i+1<=9223372036854775807 by omega);simp [-getElem?_pos,-List.map_set] at ih';simp [-getElem?_pos,-List.map_set,gp,s1,s2,s4,s5,s41,s42,s43,hiw];exact ih'
 clear hX;clear hX;clear hRV t1 t2 t4 t5 q0 H tm;obtain ⟨m1,m2⟩:=xsz hv hN;have r87:(Q.ann 87).raw=true:=by rw [zmx]
 have r100:(Q.ann 100).raw=true:=by rw [ys4]
 have r61:(Q.ann 61).raw=false:=by rw [xwn]
 have hla4:∀ bb,bb<=D.length+4->D.length<=bb->(H'.drop bb).all (zza H'.length)=true:=λbb h1 h2=>by
  have:=hRV'.bel';rw [tzx] at this ⊢;intro x hx;refine this x ?_;rw [show bb=D.length+(bb-D.length) by omega,<-List.drop_drop] at hx;exact List.mem_of_mem_drop hx
 have hh':=hRV'.hlen;have hmin:min (D.length+4) H'.length=D.length+4:=by omega
 have hok1:zyg D.length (D.length+1) H'=true:=by
  unfold zyg;rw [show D.length+1-D.length=1 by omega,tzx];intro x hx;obtain ⟨i,hi⟩:=List.getElem?_of_mem hx;rw [tyb] at hi;split at hi
  .rename_i g;rw [tyj,show D.length+i=D.length by omega,hRV'.o0] at hi;cases hi;rfl
  .cases hi
 obtain ⟨bb,hbb,hb1,hb4⟩:∃ bb,bb=(if D.length+4<=H'.length/\zyg D.length (D.length+4) H'=true then D.length+4 else D.length+1)/\D.length<bb/\bb<=D.length+4:=(by refine ⟨_,rfl,?_,?_⟩<;>split<;>omega);obtain ⟨W,h87⟩:=w87 a.nxt.length (by omega) (ztg a) (λx hx=>(ymg.1 hx).1) (by have:=ymh (a:=a);omega) (D.length+4) bb H' ⟨hb4,hla4 bb hb4 (by omega),hRV'.o4⟩;have hRE:=hRV'.ends W;obtain ⟨H,hH⟩:∃ H,H=H'.set (D.length+4) (.app 3 1 (W.map zzf)):=⟨_,rfl⟩;rw [<-hH] at h87 hRE
 have hT:xr0 a (D.length+2) H:=by
  refine ⟨els,hRE.o2,by rw [hRE.len,hla],λs hs=>⟨R s,_,hRE.top s (by omega),hRE.row s (by omega),zqe,λc hc=>⟨R s+(c+1),?_,?_⟩⟩⟩
  .rw [zlz (by omega),hB s c (by omega) (by omega)];unfold ysx yts;rw [hla]
  rw [hRE.cell s (by omega) c (by omega),hB s c (by omega) (by omega)];unfold ysx yts;rw [hla]
 obtain ⟨s0,hs0⟩:∃ s0,s0=zw9 (zyu a.nxt.length (ztg a)):=⟨_,rfl⟩;have d0:yfn a s0:=⟨_,hs0⟩;rw [<-hs0] at h87;obtain ⟨x1,x2⟩:=yxq (succ:=zng a) (dom:=yfn a) (s0:=s0) (N:=zff a) d0 (λs hs t ht=>zk7 hs ht) (λq h1 h2=>yxp h1 h2) (by omega);obtain ⟨qs,hqs⟩:∃ q,q=(exN (zng a) s0 (zff a)).1:=⟨_,rfl⟩;obtain ⟨rows,hrows⟩:∃ q,q=(exN (zng a) s0 (zff a)).2:=⟨_,rfl⟩;have hx:exR id (zng a) 100000 (zff a+1) 0 [s0]=some (qs,rows):=x1.trans (by rw [hqs,hrows]);obtain ⟨m,hm⟩:∃ m,m=xsy a:=⟨_,rfl⟩;have hm':m=⟨a.sy,0,qs.map (xy3 a),rows⟩:=by rw [hm,hqs,hrows,hs0];rfl
 rw [<-hm] at m1 m2 ⊢;have hml:m.acc.length<=20000:=by have:=m1.most;omega
 have hql:m.acc.length=qs.length:=by rw [hm'];simp [-getElem?_pos,-List.map_set]
 obtain ⟨c,hc⟩:∃ c,c=m.canP:=⟨_,rfl⟩;have hh:=hRE.hlen;have e0:=hRE.o0;have e1:=hRE.o1;have e3:=hRE.o3
 obtain ⟨O1,O2,fi,bs,hex,hO⟩:=xjf a.sy.toNat 100000 s0 (zng a) (xy3 a) (yfn a) (zff a+1) qs rows 101 103 [] [.ref (D.length+3) 0 0] [] [.ref D.length 0 0] D.length H
   hx d0 (λs hs t ht=>zk7 hs ht) (λs=>zk6) (by omega) (by omega) (by omega) (by omega)
   hRE.bel' (by simp [-getElem?_pos,-List.map_set]) (by simp [-getElem?_pos,-List.map_set];omega) (by simp [-getElem?_pos,-List.map_set]) (by simp [-getElem?_pos,-List.map_set];omega) (by rw [ys5])
   (λx c' o hx' ho=>by
    obtain ⟨rfl,hc'⟩:=ymi ho
    refine ⟨_,λX=>?_,.inl rfl⟩
    exact xjh a hv hn11 x hx' c' hc' (D.length+3) (D.length+2) D.length (H++X) (by rw [hla];exact zzc e3) (hT.app X))
   (λX x hx'=>xjg a hv x hx' D.length D.length (H++X) (zzc e0))
 have h61:=λbb=>yd8 m m1 m2 H.length (H.length+5) (H.length+6) (qV (H.length+3) m.acc.length) (qV (H.length+4) m.acc.length) bb (H++zxb H.length m O1 O2 fi bs) (by simp [-getElem?_pos,-List.map_set,zxb]) (by simp [-getElem?_pos,-List.map_set,zxb]) (by simp [-getElem?_pos,-List.map_set,zxb]);rw [<-hc] at h61;rw [<-hc];simp only [zxb,hql] at h61;rw [hm'] at h61;simp only [zze,zzr,zzn,yl0,Int.toNat_of_nonneg (show 0<=a.sy by omega)] at hex;rw [show ((100000:Nat):Int)=100000 from rfl] at hex;simp [-getElem?_pos,-List.map_set,txq,zu9] at hex h61 h87;have p0:=hRV'.o0;have hs0':H[D.length]? =some (.arr 4 [zzn a]):=e0;have k1:=λX=>zzc (X:=X) e1;have kset:∀ (X:DH) (y:DObj),(List.set (H++X) (D.length+1) y)[D.length+1]? =some y:=λX y=>tz1 (by simp [-getElem?_pos,-List.map_set];omega)
 have ktake:∀ (X:DH) (y:DObj),(List.set (H++X) (D.length+1) y).take D.length=D:=λX y=>by
  rw [txx (by omega),txi (by omega)];exact hRE.pre'
 have hbb1:∀ x y:List (Nat×Option Nat),(if D.length<bb then x else y)=x:=λx y=>if_pos hb1;simp [-getElem?_pos,-List.map_set,gp,u1,u2,u4,u5,p0,hmin,hok1,show D.length+1<=H'.length by omega,<-hbb,hbb1,hb1,e0,e1,e3,hs0',r87,r100,r61,h87,hex,h61,k1,kset,ktake,zu9,zqb,zua,zqc]
end Go.Dv
namespace Go.Fsa
def Aut.tiny (a:Aut):Prop:=a.nxt.length<=7/\a.sy<=20
instance (a:Aut):Decidable a.tiny:=inferInstanceAs (Decidable (_/\_))
end Go.Fsa
namespace Go.Dv
open Go Go.Sim Go.Proofs Go.Fsa
attribute [local simp] zwo zxi zzn zz0 zz1 zya zzv zz5 zzf zz8 zz6 zzt zz4 zzq
theorem w38 (l:List Aut) (hl:l.length<=1000) (o base:Nat) (D:DH) (ho:D[o]? =some (.arr 4 (l.map zzn))) :
  zzg Q 38 [.row o 0 l.length l.length] base D=some (zzr (decide (∀ a∈l,a.tiny)),D):=by
 rw [zzb (fn:=Tryz.f38) (show Q.P.funcs[38]? =some Tryz.f38 from Tryz.func38) rfl xqp rfl (by simp only [tzd,tze];decide) (by kernel_rfl)];have hol0:=zyr ho;simp [-getElem?_pos,-List.map_set,hol0];generalize hs83:SD.mk _ _=sd83;revert sd83;refine wl (λi:Nat=>⟨(Trie.leaf.put 3 (zze i)).put 0 (.row o 0 l.length l.length),D⟩) (λi=>i<=l.length/\∀ a∈l.take i,a.tiny) (λi=>l.length-i) ?_ 0 ⟨tz6 _,λa h=>(by simp [-getElem?_pos,-List.map_set] at h)⟩;intro i ⟨hi,hs⟩ ih;rw [zzj];by_cases hlt:i<l.length
 case neg=>
  rw [tzk (by omega)] at hs;simp [-getElem?_pos,-List.map_set,ho,hlt];exact hs
 obtain ⟨a,ha⟩:∃ a,l[i]? =some a:=⟨_,tzb hlt⟩;have ham:=tzg ha;have hfail:¬a.tiny->(decide (∀ a∈l,a.tiny))=false:=λhn=>decide_eq_false λhh=>hn (hh a ham);have hww:=zzi (show i+1<=9223372036854775807 by omega);by_cases c1:a.nxt.length<=7
 case neg=>
  rw [hfail λhh=>c1 hh.1];simp [-getElem?_pos,-List.map_set,ho,hlt,ha,show (7:Int)<a.nxt.length by omega,show 7<a.nxt.length by omega]
 by_cases c2:a.sy<=20
 case neg=>
  rw [hfail λhh=>c2 hh.2];simp [-getElem?_pos,-List.map_set,ho,hlt,ha,show ¬(7:Int)<a.nxt.length by omega,show ¬7<a.nxt.length by omega,show (20:Int)<a.sy by omega]
 have ih':=ih (i+1) ⟨by omega,λb hb=>by
  rw [tz8,ha] at hb
  rcases tyh.1 hb with h | h
  .exact hs b h
  .simp only [Option.toList,tzw] at h;rw [h];exact ⟨c1,c2⟩⟩ (by omega)
 simp [-getElem?_pos,-List.map_set] at ih';simp [-getElem?_pos,-List.map_set,ho,hol0,hlt,ha,hww,show ¬(7:Int)<a.nxt.length by omega,show ¬7<a.nxt.length by omega,show ¬(20:Int)<a.sy by omega];exact ih'
end Go.Dv
namespace Go.Dv
open Go Go.Sim Go.Proofs Go.Fsa
attribute [local simp] zwo zxi zzn zz0 zz1 zya zzv zz5 zzf zz8 zz6 zzt zz4 zzq zwc
attribute [local simp] yeh yei yej
attribute [local simp] zxv zxw zxk zxx
def FrU (w:List Int) (L:Nat) (uO:DObj) (uV:DV):Prop:=zwz uV=true/\zzd uV=[uV]/\zva uV=uV/\∀ H:DH,H[L+6]? =some uO->zqx L H uV=some (.f (.lst (w.map zf4)),[L+6])
def zc3 (D:DH) (a b:Aut) (uO:DObj) (es:List DV) (X:DH):DH:=D++.arr 4 [zzn a]::.arr 4 [zzn b]::.arr 4 [zzn a,zzn b]::.arr 4 [zzn a,zzn b]::.arr 4 [zzn a]::.arr 4 [zzn b]::uO::.app 26 1 es::X
theorem w10 (a b:Aut) (how symbols n most:Int) (w:List Int) (l:List (List Int)) (ha:a.nxt.length<1152921504606846976) (hb:b.nxt.length<1152921504606846976) (hw:w.length<1152921504606846976) (hl:l.length<1152921504606846976) (base:Nat) (D:DH) :
  zzg Q 10 [zzn a,zzn b,zze how,zze symbols,zze n,zze most,zyq w,.f (.lst (l.map zx2))] base D=some (zzr true,D):=by
 rw [zzb (fn:=Tryz.f10) (show Q.P.funcs[10]? =some Tryz.f10 from Tryz.func10) rfl xq1 rfl (by simp only [tzd,tze];decide) (by kernel_rfl)];have h11:∀ b D,zzg Q 11 [] b D=some (rv (.bool true),D):=λb D=>yqg (by kernel_rfl);have h12:=λbb=>w12 [a,b] (by simp [-getElem?_pos,-List.map_set]) (by simp [-getElem?_pos,-List.map_set];exact ⟨ha,hb⟩) (D.length+2) bb (D++[.arr 4 [zzn a],.arr 4 [zzn b],.arr 4 [zzn a,zzn b]]) (by simp [-getElem?_pos,-List.map_set]);simp only [tzd,tze,txj,Nat.reduceAdd,zzr,zzn] at h12;by_cases hs:∀ x∈[a,b],x.small
 case neg=>
  rw [decide_eq_false hs] at h12;simp [-getElem?_pos,-List.map_set,h11,h12]
 rw [decide_eq_true hs] at h12;have h38:=λbb=>w38 [a,b] (by simp [-getElem?_pos,-List.map_set]) (D.length+3) bb (D++[.arr 4 [zzn a],.arr 4 [zzn b],.arr 4 [zzn a,zzn b],.arr 4 [zzn a,zzn b]]) (by simp [-getElem?_pos,-List.map_set]);simp only [tzd,tze,txj,Nat.reduceAdd,zzr,zzn] at h38;by_cases ht:∀ x∈[a,b],x.tiny
 case neg=>
  rw [decide_eq_false ht] at h38;simp [-getElem?_pos,-List.map_set,h11,h12,h38]
 rw [decide_eq_true ht] at h38;by_cases c1:(50:Int)<(w.length:Nat)
 .simp [-getElem?_pos,-List.map_set,h11,h12,h38,c1]
 by_cases c2:(20:Int)<(l.length:Nat)
 .simp [-getElem?_pos,-List.map_set,h11,h12,h38,c1,c2]
 by_cases c3:6<n
 .simp [-getElem?_pos,-List.map_set,h11,h12,h38,c1,c2,c3]
 by_cases c4:50<most
 .simp [-getElem?_pos,-List.map_set,h11,h12,h38,c1,c2,c3,c4]
 have ta:=ht a (by simp [-getElem?_pos,-List.map_set]);have tb:=ht b (by simp [-getElem?_pos,-List.map_set]);have sa:=hs a (by simp [-getElem?_pos,-List.map_set]);have sb:=hs b (by simp [-getElem?_pos,-List.map_set]);have h56a:=λbb D'=>w56 a (by have:=sa.1;omega) (by have:=ta.1;omega) (λr hr=>by have:=sa.2.2 r hr;omega) bb D';have h56b:=λbb D'=>w56 b (by have:=sb.1;omega) (by have:=tb.1;omega) (λr hr=>by have:=sb.2.2 r hr;omega) bb D';simp only [zzn] at h56a h56b;by_cases w0:w=[]
 case' pos=>
  have hU:FrU w D.length (.arr 1 []) (.row (D.length+6) 0 0 0):=⟨rfl,rfl,rfl,λH h=>by subst w0;rw [ypr];unfold zmz frz;simp [-getElem?_pos,-List.map_set,h,zsq]⟩;simp [-getElem?_pos,-List.map_set,h11,h12,h38,c1,c2,c3,c4,h56a,h56b,w0];rw [show FV.lst []=.lst (w.map zf4) by rw [w0];rfl];clear w0
 case' neg=>
  have hU:FrU w D.length (.app 3 1 (w.map zzf)) (.apl (D.length+6) w.length):=⟨rfl,rfl,rfl,λH h=>by rw [ydc];unfold zmz frz;simp [-getElem?_pos,-List.map_set,h]⟩;simp [-getElem?_pos,-List.map_set,h11,h12,h38,c1,c2,c3,c4,h56a,h56b,w0,show w.length*8<=1099511627776/\w.length<=1099511627776 by omega];clear w0
 all_goals
  generalize hX:zxj _ _ _=X
  obtain ⟨tm,H,rfl,t16,hH⟩ | ⟨tm,es,X',uO,uV,rfl,⟨hP1,hP2,hP3,hP⟩,he,hes,hl5,t2,t3,t4,t5,t6,t7,t8,t9,t17,t18,t19,t20⟩:(∃ (tm:Trie DV) (H:DH),X=some (.ret,⟨tm,H⟩)/\tm.get 16=some (zzr true)/\H.take D.length=D)∨∃ (tm:Trie DV) (es:List DV) (X':DH) (uO:DObj) (uV:DV),X=some (.exit 0,⟨tm,zc3 D a b uO es X'⟩)/\FrU w D.length uO uV/\es.length=l.length/\(∀ (i:Nat) (d:DV) (w:List Int),es[i]? =some d->l[i]? =some w->EX 3 8 D.length X' d (w.map zzf))/\(∀ w∈l,w.length<=50)/\tm.get 2=some (zze how)/\tm.get 3=some (zze symbols)/\tm.get 4=some (zze n)/\tm.get 5=some (zze most)/\tm.get 6=some (zyq w)/\tm.get 7=some (.f (.lst (l.map zx2)))/\tm.get 8=some (.ref D.length 0 0)/\tm.get 9=some (.ref (D.length+1) 0 0)/\tm.get 17=some (.ref (D.length+4) 0 0)/\tm.get 18=some (.ref (D.length+5) 0 0)/\tm.get 19=some uV/\tm.get 20=some (.apl (D.length+7) es.length):=by
   rw [<-hX]
   clear hX
   generalize hs84:SD.mk _ _=sd84
   revert sd84
   refine wl (λp:Nat×List DV×DH=>⟨((((((((((((Trie.leaf.put 21 (zze p.1)).put 20 (.apl (D.length+7) p.2.1.length)).put 19 _).put 18 (.ref (D.length+5) 0 0)).put 17 (.ref (D.length+4) 0 0)).put 9 (.ref (D.length+1) 0 0)).put 8 (.ref D.length 0 0)).put 7 (.f (.lst (l.map zx2)))).put 6 (zyq w)).put 5 (zze most)).put 4 (zze n)).put 3 (zze symbols)).put 2 (zze how),zc3 D a b _ p.2.1 p.2.2⟩)
    (λp=>p.1<=l.length/\p.2.1.length=p.1/\(∀ (i:Nat) (d:DV) (w:List Int),p.2.1[i]? =some d->l[i]? =some w->EX 3 8 D.length p.2.2 d (w.map zzf))/\∀ w∈l.take p.1,w.length<=50) (λp=>l.length-p.1) ?_ (0,[],[]) ⟨tz6 _,rfl,λi d w h=>by simp [-getElem?_pos,-List.map_set] at h,λw h=>by simp [-getElem?_pos,-List.map_set] at h⟩
   rintro ⟨i,es,X⟩ ⟨hi,hel,hes,hl5⟩ ih
   simp only at hi hel hes hl5 ih
   rw [zzj]
   unfold zc3 at ih ⊢
   by_cases hlt:i<l.length
   case neg=>
    rw [tzk (by omega)] at hl5
    simp [-getElem?_pos,-List.map_set,hlt]
    exact ⟨_,es,X,_,⟨rfl,rfl,rfl,rfl⟩,_,hU,by omega,hes,hl5,by simp [-getElem?_pos,-List.map_set]⟩
   obtain ⟨v,hv⟩:∃ w,l[i]? =some w:=⟨_,tzb hlt⟩
   by_cases c5:(50:Int)<(v.length:Nat)
   .simp [-getElem?_pos,-List.map_set,hlt,hv,c5]
    exact ⟨_,_,⟨rfl,rfl⟩,by simp [-getElem?_pos,-List.map_set],by simp [-getElem?_pos,-List.map_set]⟩
   have hl5':∀ w∈l.take (i+1),w.length<=50:=λw hw=>by
    rw [tz8,hv] at hw
    rcases tyh.1 hw with h | h
    .exact hl5 w h
    .simp only [Option.toList,tzw] at h;subst h;omega
   have hpush:∀ (d:DV) (Z:DH),EX 3 8 D.length (X++Z) d (v.map zzf)->∀ (j:Nat) (d':DV) (w':List Int),(es++[d])[j]? =some d'->l[j]? =some w'->EX 3 8 D.length (X++Z) d' (w'.map zzf):=λd Z hd j d' w' h1 h2=>by
    rcases tz9 j es.length with g | g
    .rw [tzs g] at h1
     exact (hes j d' w' h1 h2).app Z
    .rw [tzv g] at h1
     have e:j-es.length=0:=by have:=zzy h1;simp [-getElem?_pos,-List.map_set] at this;omega
     rw [e] at h1
     rw [show j=i by omega,hv] at h2
     cases h1;cases h2
     exact hd
   by_cases w0:v=[]
   .subst w0
    have ih':=ih (i+1,es++[.row (D.length+(X.length+8)) 0 0 0],X++[.arr 1 [],.arr 1 [.row (D.length+(X.length+8)) 0 0 0]]) ⟨by simp only;omega,by simp [-getElem?_pos,-List.map_set,hel],hpush _ _ (.em (by simp [-getElem?_pos,-List.map_set])),hl5'⟩ (by simp only;omega)
    simp [-getElem?_pos,-List.map_set] at ih'
    simp [-getElem?_pos,-List.map_set,hlt,hv,hel,zzi (show i+1<=9223372036854775807 by omega),show (i+1)*24<=1099511627776 by omega,show i<=1099511627775 by omega]
    simp only [hel] at ih'
    exact ih'
   .have ih':=ih (i+1,es++[.apl (D.length+(X.length+8)) v.length],X++[.app 3 1 (v.map zzf),.arr 1 [.apl (D.length+(X.length+8)) v.length]]) ⟨by simp only;omega,by simp [-getElem?_pos,-List.map_set,hel],hpush _ _ (by
     have:=EX.ap (e:=3) (c:=8) (L:=D.length) (X:=X++[.app 3 1 (v.map zzf),.arr 1 [.apl (D.length+(X.length+8)) v.length]]) (r:=X.length) (w:=v.map zzf) (by simpa [-getElem?_pos,-List.map_set] using w0) (by simp [-getElem?_pos,-List.map_set])
     simpa [-getElem?_pos,-List.map_set] using this),hl5'⟩ (by simp only;omega)
    simp [-getElem?_pos,-List.map_set] at ih'
    simp [-getElem?_pos,-List.map_set,hlt,hv,hel,c5,w0,zzi (show i+1<=9223372036854775807 by omega),show (i+1)*24<=1099511627776 by omega,show i<=1099511627775 by omega,show v.length*8<=1099511627776/\v.length<=1099511627776 by omega]
    simp only [hel] at ih'
    exact ih'
  .simp [-getElem?_pos,-List.map_set,t16,hH]
  clear hX hU
  have hsl:zie l<20000:=by
   have:∀ k:List (List Int),(∀ w∈k,w.length<=50)->zie k<=50*k.length:=λk=>by
    induction k with
    | nil=>intro _;simp [-getElem?_pos,-List.map_set,zie]
    | cons w k ih=>
     intro h
     have h1:=h w (by simp [-getElem?_pos,-List.map_set])
     have h2:=ih λv hv=>h v (by simp [-getElem?_pos,-List.map_set,hv])
     simp only [zie,txe,List.sum_cons,tzd] at h2 ⊢
     omega
   have:=this l hl5
   omega
  have hU:=hP (zc3 D a b uO es X') (by simp [-getElem?_pos,-List.map_set,zc3])
  obtain ⟨is,hF,his⟩:=yz8 (b:=D.length) (H:=zc3 D a b .dead es X') (tzp _) (λr x hx=>by simp [-getElem?_pos,-List.map_set,zc3,hx]) es l he hes
  obtain ⟨K,hK⟩:∃ K,K=zm0 (D++.arr 4 [zzn a]::.arr 4 [zzn b]::.arr 4 [zzn a,zzn b]::.arr 4 [zzn a,zzn b]::.arr 4 [zzn a]::.arr 4 [zzn b]::.dead::.dead::X') is:=⟨_,rfl⟩
  have hg:∀ i,i<D.length+8->K[i]? =(D++.arr 4 [zzn a]::.arr 4 [zzn b]::.arr 4 [zzn a,zzn b]::.arr 4 [zzn a,zzn b]::.arr 4 [zzn a]::.arr 4 [zzn b]::.dead::.dead::X')[i]?:=λi hi=>by
   rw [hK]
   exact yyp λo ho=>by have:=his o ho;omega
  have g0:K[D.length]? =some (.arr 4 [zzn a]):=by rw [hg _ (by omega)];simp [-getElem?_pos,-List.map_set]
  have g1:K[D.length+1]? =some (.arr 4 [zzn b]):=by rw [hg _ (by omega)];simp [-getElem?_pos,-List.map_set]
  have g4:K[D.length+4]? =some (.arr 4 [zzn a]):=by rw [hg _ (by omega)];simp [-getElem?_pos,-List.map_set]
  have g5:K[D.length+5]? =some (.arr 4 [zzn b]):=by rw [hg _ (by omega)];simp [-getElem?_pos,-List.map_set]
  have hkt:∀ Z:DH,(K++Z).take D.length=D:=λZ=>by
   have hkl:K.length=D.length+(X'.length+8):=by rw [hK,yyq];simp [-getElem?_pos,-List.map_set]
   refine ty8 λi=>?_
   rw [tyb]
   split
   .rename_i hi
    rw [tzs (by omega),hg i (by omega),tzs hi]
   .rename_i hi
    rw [tzt (by omega)]
  clear hg
  unfold zc3 at hU hF ⊢
  simp [-getElem?_pos,-List.map_set] at hU hF hK g0 g1 g4 g5
  have pa:2 ^ a.nxt.length<=2 ^ 7:=Nat.pow_le_pow_right (by omega) ta.1
  have pb:2 ^ b.nxt.length<=2 ^ 7:=Nat.pow_le_pow_right (by omega) tb.1
  have ta1:=ta.1
  have tb1:=tb.1
  have hD:(a.nxt.length+1)*(b.nxt.length+1)<=20000:=tys (Nat.mul_le_mul (show a.nxt.length+1<=8 by omega) (show b.nxt.length+1<=8 by omega)) (by decide)
  have hC:zil a b<=20000:=tys (Nat.mul_le_mul (show a.nxt.length+1<=8 by omega) pb) (by decide)
  have hS:zim a<=20000:=tys (Nat.mul_le_mul (tzp 2) pa) (by decide)
  have hV:zff a<=20000:=tys pa (by decide)
  have hla:∀ r∈a.nxt,r.length<1152921504606846976:=λr hr=>by have:=sa.2.2 r hr;omega
  have hlb:∀ r∈b.nxt,r.length<1152921504606846976:=λr hr=>by have:=sb.2.2 r hr;omega
  have haa:a.acc.length<1152921504606846976:=by have:=sa.1;omega
  have hba:b.acc.length<1152921504606846976:=by have:=sb.1;omega
  obtain ⟨v18,h18⟩:∃ v,∀ bb D,zzg Q 18 [zzn a] bb D=some (v,D):=⟨_,λbb D=>w18 a ha bb D⟩
  obtain ⟨v16,h16⟩:∃ v,∀ bb D,zzg Q 16 [zzn a,zze a.st,zyq w] bb D=some (v,D):=⟨_,λbb D=>w16 a a.st w ha hw bb D⟩
  obtain ⟨v20,h20⟩:∃ v,∀ bb D,zzg Q 20 [zzn a,zyq w] bb D=some (v,D):=⟨_,λbb D=>w20 a w ha hw bb D⟩
  obtain ⟨v17,h17⟩:∃ v,∀ bb D,zzg Q 17 [zzn a] bb D=some (v,D):=⟨_,λbb D=>xml a (by omega) bb D⟩
  obtain ⟨v23,h23⟩:=xkv a (by omega) D.length K
  obtain ⟨v25,h25⟩:∃ v,∀ bb D,zzg Q 25 [zzn a,zzn b] bb D=some (v,D):=⟨_,λbb D=>w25 a b haa hba ha hb hla hlb bb D⟩
  obtain ⟨v33,h33⟩:∃ v,∀ bb D,zzg Q 33 [zzn a,zzn b,zze how] bb D=some (v,D):=⟨_,λbb D=>w33 a b how ha hb (λ_ _=>hD) bb D⟩
  obtain ⟨v35,h35⟩:∃ v,∀ bb D,zzg Q 35 [zzn a] bb D=some (v,D):=⟨_,λbb D=>w35 a ha (λ_=>by omega) bb D⟩
  obtain ⟨v40,h40⟩:∃ v,∀ bb D,zzg Q 40 [zzn a,zzn b] bb D=some (v,D):=⟨_,λbb D=>w40 a b ha hb (λ_ _=>⟨hC,by omega⟩) bb D⟩
  obtain ⟨v42,h42⟩:∃ v,∀ bb D,zzg Q 42 [zzn a] bb D=some (v,D):=⟨_,λbb D=>w42 a ha (λ_=>⟨hS,by omega⟩) bb D⟩
  obtain ⟨v44,h44⟩:∃ v,∀ bb D,zzg Q 44 [zzn a] bb D=some (v,D):=⟨_,λbb D=>w44 a ha (λ_=>⟨hV,by omega⟩) bb D⟩
  obtain ⟨v37,h37⟩:∃ v,∀ bb D,zzg Q 37 [zze symbols,.f (.lst (l.map zx2))] bb D=some (v,D):=⟨_,λbb D=>w37 symbols l hl hsl bb D⟩
  have h27:∀ bb D,∃ v,zzg Q 27 [zzn a,zzn b] bb D=some (v,D):=λbb D=>by
   by_cases h:a.valid/\b.valid/\a.sy=b.sy
   .obtain ⟨va,vb,hs⟩:=h
    obtain ⟨is,w',l2,h27,_⟩:=xkt a b va vb hs (by omega) bb D
    exact ⟨_,h27⟩
   .exact ⟨_,xk0 a b ha hb h bb D⟩
  obtain ⟨v27,h27⟩:=h27 D.length K
  obtain ⟨v30,h30⟩:∃ v,∀ bb D,zzg Q 30 [zzn a,zze n,zze most] bb D=some (v,D):=⟨_,λbb D=>w30 a ha n most (.inl (by omega)) (.inl (by omega)) bb D⟩
  have h28l:=λbb D'=>xky l l hl (λu hu=>by have:=hl5 u hu;omega) (λu hu=>by have:=hl5 u hu;omega) bb D'
  have h22a:=λbb D'=>w22 a a haa ha hla hla bb D'
  have h22b:=λbb D'=>w22 b b hba hb hlb hlb bb D'
  have e22:∀ x,zrk x x=true:=λx=>by simp [-getElem?_pos,-List.map_set,zrk]
  have h28:=λbb=>w28 w w hw hw K.length (K.length+1) bb (K++[.arr 1 [zyq w],.arr 1 [zyq w]]) (by simp [-getElem?_pos,-List.map_set]) (by simp [-getElem?_pos,-List.map_set])
  rw [e22] at h22a h22b
  simp only [decide_true,zzn,zzr,zze,zyq,zx2] at h18 h16 h20 h17 h23 h25 h33 h35 h40 h42 h44 h37 h27 h30 h28l h22a h22b h28
  simp [-getElem?_pos,-List.map_set,t2,t3,t4,t5,t6,t7,t8,t9,t17,t18,t19,t20,hU,hF,<-hK,g0,g1,g4,g5,h18,h16,h20,h17,h23,h25,h33,h35,h40,h42,h44,h37,h27,h30,h28l,h22a,h22b,h28,hkt]
  done
end Go.Dv
