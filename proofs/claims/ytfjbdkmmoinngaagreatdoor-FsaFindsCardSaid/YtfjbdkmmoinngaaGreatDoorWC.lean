/- Texts of this proof, part WC. -/
import Derived.Test.YtfjbdkmmoinngaaGreatDoorWB
import Derived.Test.YtfjbdkmmoinngaaGreatDoorDvB
import Derived.Test.YtfjbdkmmoinngaaGreatDoorPure
set_option linter.unusedVariables false
set_option linter.unusedSimpArgs false
set_option linter.unusedSectionVars false
set_option maxRecDepth 100000
set_option maxHeartbeats 4000000
namespace Go.Dv
open Go Go.Sim Go.Proofs Go.Fsa
attribute [local simp] encI bitF autD b_neqB b_eqlB el_num set_num fz_num numD bitD el_bit set_bit fz_bit normF_strL
theorem w76e (base:Nat) (D:DH):callD Q 76 [.em] base D=some (rowD [],D):=by
 rw [call_pure (fn:=Tryz.f76) (show Q.P.funcs[76]? =some Tryz.f76 from Tryz.func76) rfl ann76 rfl (by simp only [List.length_cons,List.length_nil];decide) (by kernel_rfl)]
 simp (maxSteps:=2000000) [-getElem?_pos,-List.map_set,-objBelow,-depV]
theorem okEl_nums {l:List Int}:(l.map numD).all (okEl 1)=true:=by
 rw [List.all_map,List.all_eq_true];intro x _;rfl
theorem w76l (l:List Int) (hl:l.length<1000) (hne:l≠[]) (o ver ctr:Nat) (L:List (Nat×List DV)) (base:Nat) (D:DH) (hD:D[o]? =some (.chn 3 1 ctr L)) (hL:headL (cutL ver L)=some (l.map numD)):callD Q 76 [.lv o ver l.length] base D=some (rowD l,D):=by
 have ga:=fun X=>get_app (X:=X) hD
 have hN:=fun n=>elN_chn (v:=ver) (n:=n) (e:=3) (sz:=1) (ctr:=ctr) hL
 have hp:=List.length_pos_iff.2 hne
 have hk:=okEl_nums (l:=l)
 rw [call_pure (fn:=Tryz.f76) (show Q.P.funcs[76]? =some Tryz.f76 from Tryz.func76) rfl ann76 rfl (by simp only [List.length_cons,List.length_nil];decide) (by kernel_rfl)]
 simp (maxSteps:=2000000) [-getElem?_pos,-List.map_set,-objBelow,-depV,ga,hN,hk,show l.length*8≤1099511627776∧l.length≤1099511627776 by omega,show ¬l.length=0 by omega,hne]
def bitsD (l:List Bool):DV:=.f (.lst (l.map bitF))
def CanR (D:DH) (v:DV) (oc:Nat) (els:List (List Bool)):Prop:=(v=.row oc 0 1 1∧els.length=1∧D[oc]? =some (.arr 1 (els.map bitsD)))∨(v=.apl oc els.length∧D[oc]? =some (.app 22 1 (els.map bitsD)))
theorem CanR.ix {D:DH} {v:DV} {oc:Nat} {els:List (List Bool)} {k:Nat} {r:List Bool} (h:CanR D v oc els) (hk:els[k]? =some r):∃ p,(∀ (T:SlT) A,T.sz=1→dIndexA D (some T) A k v=some p)∧dLoad D none p=some (bitsD r):=by
 have hkl:=ltOf hk
 rcases h with ⟨rfl,h1,h2⟩ | ⟨rfl,h2⟩
 ·refine ⟨.ref oc (0+k) 0,fun T A hT=>?_,?_⟩
  ·simp [-getElem?_pos,-List.map_set,-objBelow,-depV,dIndexA,h2,hT];omega
  ·simp [-getElem?_pos,-List.map_set,-objBelow,-depV,dLoad,h2,ldEl,hk,partD,bitsD,cellsD]
 ·refine ⟨.rfa oc els.length k 0,fun T A hT=>?_,?_⟩
  ·simp [-getElem?_pos,-List.map_set,-objBelow,-depV,dIndexA,h2,hT,hkl]
  ·simp [-getElem?_pos,-List.map_set,-objBelow,-depV,dLoad,h2,ldEl,hk,partD,bitsD,cellsD]
theorem w74 (x:Int) (m:Nat) (hm:m<1000) (els:List (List Bool)) (r:List Bool) (hr:els[m]? =some r) (hx:x<(r.length:Nat)) (oc cC cS:Nat) (cv:DV) (D:DH) (hC:D[cC]? =some (.arr 1 [cv])) (hcv:CanR D cv oc els) (hS:D[cS]? =some (.arr 1 [intD ((m+1:Nat):Int)])) (hone:oneD cv=true∧cellsD cv=[cv]) (base:Nat) :
  callD Q 74 [intD x,.ref cC 0 0,.ref cS 0 0] base D=some (boolD (decide (0≤x)&&(r[x.toNat]?).getD false),D):=by
 obtain ⟨p,h1,h2⟩:=hcv.ix hr
 rw [call_pure (fn:=Tryz.f74) (show Q.P.funcs[74]? =some Tryz.f74 from Tryz.func74) rfl ann74 rfl (by simp only [List.length_cons,List.length_nil];decide) (by kernel_rfl)]
 by_cases h0:0≤x
 case neg=>simp (maxSteps:=2000000) [-getElem?_pos,-List.map_set,-objBelow,-depV,h0]
 obtain ⟨n,rfl⟩:∃ n:Nat,x=n:=⟨x.toNat,by omega⟩
 obtain ⟨b,hb⟩:=getOf (l:=r) (i:=n) (by omega)
 simp (maxSteps:=2000000) [-getElem?_pos,-List.map_set,-objBelow,-depV,hC,hS,hone.2,h1,h2,bitsD,hb,wrap_in (show -9223372036854775808≤(m:Int) by omega) (show (m:Int)≤9223372036854775807 by omega)]
end Go.Dv
namespace Go.Dv
open Go Go.Sim Go.Proofs Go.Fsa
theorem cutL_skip {v:Nat} {K:List (Nat×List DV)}:∀ {J:List (Nat×List DV)},(∀ x∈J,x.1≠v)→cutL v (J++K)=cutL v K
 | [],_=>rfl
 | (w,e)::l,h=>by
  have:=h (w,e) (by simp [-List.map_set,-objBelow,-depV])
  show cutL v ((w,e)::(l++K))=_
  simp only [cutL,if_neg this]
  exact cutL_skip fun x hx=>h x (List.mem_cons_of_mem _ hx)
def visF (b cs cv:Nat):DV:=.fn 75 [] [.ref cs 0 0,.ref (b+3) 0 0,.ref (b+1) 0 0,.ref (b+5) 0 0,.ref b 0 0,.ref cv 0 0]
def OutR (D:DH) (b:Nat) (v:DV) (acc:List (List Int)):Prop:=(v=.row (b+2) 0 0 0∧acc=[]∧D[b+2]? =some (.arr 1 []))∨(v=.apl (b+2) acc.length∧D[b+2]? =some (.app 26 1 (acc.map rowD)))
structure VH (a:Aut) (b L cs cv size n:Nat) (canV:DV) (els:List (List Bool)) (acc:List (List Int)) (D:DH):Prop where
 hL:L≤D.length
 ib:b+5<L
 ics:b+5<cs∧cs<L
 icv:b+5<cv∧cv<L
 A:D[b]? =some (.arr 4 [autD a])
 N:D[b+1]? =some (.arr 1 [intD n])
 O:∃ ov,D[b+3]? =some (.arr 1 [ov])∧OutR D b ov acc
 C:D[b+5]? =some (.arr 1 [canV])
 can:CanR D canV (b+4) els
 S:D[cs]? =some (.arr 1 [intD size])
 V:D[cv]? =some (.arr 1 [visF b cs cv])
 bel:∀ i x,b≤i→i<L→D[i]? =some x→objBelow L x=true
variable {a:Aut} {b L cs cv size n:Nat} {canV:DV} {els:List (List Bool)} {acc:List (List Int)} {D:DH}
theorem VH.same (h:VH a b L cs cv size n canV els acc D) {D':DH} {o:Nat} {acc':List (List Int)} (hL:L≤D'.length) (ho:b+5<o∧o≠cs∧o≠cv) (hf:∀ i,i<L→i≠b+2→i≠b+3→i≠o→D'[i]? =D[i]?)
  (hO:∃ ov,D'[b+3]? =some (.arr 1 [ov])∧OutR D' b ov acc') (hbo:∀ x,o<L→D'[o]? =some x→objBelow L x=true):VH a b L cs cv size n canV els acc' D' where
 hL:=hL
 ib:=h.ib
 ics:=h.ics
 icv:=h.icv
 A:=by rw [hf b (by have:=h.ib;omega) (by omega) (by omega) (by omega)];exact h.A
 N:=by rw [hf (b+1) (by have:=h.ib;omega) (by omega) (by omega) (by omega)];exact h.N
 O:=hO
 C:=by rw [hf (b+5) (by have:=h.ib;omega) (by omega) (by omega) (by omega)];exact h.C
 can:=by
  have e:D'[b+4]? =D[b+4]?:=hf (b+4) (by have:=h.ib;omega) (by omega) (by omega) (by omega)
  have:=h.can
  unfold CanR at this ⊢
  rw [e];exact this
 S:=by rw [hf cs (by have:=h.ics;omega) (by have:=h.ics;omega) (by have:=h.ics;omega) (by omega)];exact h.S
 V:=by rw [hf cv (by have:=h.icv;omega) (by have:=h.icv;omega) (by have:=h.icv;omega) (by omega)];exact h.V
 bel:=fun i x hb hi hx=>by
  by_cases e:i=o
  ·subst e;exact hbo x hi hx
  ·by_cases e2:i=b+2
   ·obtain ⟨ov,h1,h2⟩:=hO
    subst e2
    rcases h2 with ⟨_,_,h2⟩ | ⟨_,h2⟩<;>(rw [h2] at hx;cases hx)
    ·rfl
    ·simp [-List.map_set,-objBelow,-depV,objBelow,rowD,below,List.all_eq_true]
   ·by_cases e3:i=b+3
    ·obtain ⟨ov,h1,h2⟩:=hO
     subst e3
     rw [h1] at hx
     cases hx
     have:=h.ib
     rcases h2 with ⟨rfl,_,h2⟩ | ⟨rfl,h2⟩<;>(simp [-List.map_set,-objBelow,-depV,objBelow,below];omega)
    ·rw [hf i hi e2 e3 e] at hx
     exact h.bel i x hb hi hx
theorem VH.up (h:VH a b L cs cv size n canV els acc D) (hb:∀ i x,L≤i→D[i]? =some x→objBelow D.length x=true):VH a b D.length cs cv size n canV els acc D:=
 ⟨Nat.le_refl _,by have:=h.hL;have:=h.ib;omega,by have:=h.hL;have:=h.ics;omega,by have:=h.hL;have:=h.icv;omega,h.A,h.N,h.O,h.C,h.can,h.S,h.V,fun i x h1 h2 hx=>by
  rcases Nat.lt_or_ge i L with g | g
  ·exact objBelow_le h.hL x (h.bel i x h1 g hx)
  ·exact hb i x g hx⟩
theorem VH.app (h:VH a b L cs cv size n canV els acc D) (X:DH):VH a b L cs cv size n canV els acc (D++X):=by
 have e:∀ i,i<L→(D++X)[i]? =D[i]?:=fun i hi=>List.getElem?_append_left (by have:=h.hL;omega)
 have hib:=h.ib
 exact ⟨by have:=h.hL;simp [-List.map_set,-objBelow,-depV];omega,h.ib,h.ics,h.icv,by rw [e _ (by omega)];exact h.A,by rw [e _ (by omega)];exact h.N,by
  obtain ⟨ov,h1,h2⟩:=h.O
  refine ⟨ov,by rw [e _ (by omega)];exact h1,?_⟩
  unfold OutR at h2 ⊢
  rw [e _ (by omega)];exact h2,by rw [e _ (by omega)];exact h.C,by
  have:=h.can
  unfold CanR at this ⊢
  rw [e _ (by omega)];exact this,by rw [e _ h.ics.2];exact h.S,by rw [e _ h.icv.2];exact h.V,fun i x h1 h2 hx=>by rw [e i h2] at hx;exact h.bel i x h1 h2 hx⟩
theorem VH.take (h:VH a b L cs cv size n canV els acc D):VH a b L cs cv size n canV els acc (D.take L):=by
 have e:∀ i,i<L→(D.take L)[i]? =D[i]?:=fun i hi=>by rw [List.getElem?_take,if_pos hi]
 have hib:=h.ib
 exact ⟨by have:=h.hL;simp [-List.map_set,-objBelow,-depV];omega,h.ib,h.ics,h.icv,by rw [e _ (by omega)];exact h.A,by rw [e _ (by omega)];exact h.N,by
  obtain ⟨ov,h1,h2⟩:=h.O
  refine ⟨ov,by rw [e _ (by omega)];exact h1,?_⟩
  unfold OutR at h2 ⊢
  rw [e _ (by omega)];exact h2,by rw [e _ (by omega)];exact h.C,by
  have:=h.can
  unfold CanR at this ⊢
  rw [e _ (by omega)];exact this,by rw [e _ h.ics.2];exact h.S,by rw [e _ h.icv.2];exact h.V,fun i x h1 h2 hx=>by rw [e i h2] at hx;exact h.bel i x h1 h2 hx⟩
theorem VH.objs (h:VH a b L cs cv size n canV els acc D):objsOK b L D=true:=by
 unfold objsOK
 rw [List.all_eq_true]
 intro x hx
 obtain ⟨i,hi⟩:=List.getElem?_of_mem hx
 rw [List.getElem?_take] at hi
 split at hi
 ·rw [List.getElem?_drop] at hi
  exact h.bel (b+i) x (by omega) (by omega) hi
 ·cases hi
def excW (w:DV) (i:Nat):Prop:=match w with
 | .lv o _ _=>i=o
 | .row o _ _ _=>i=o
 | _=>False
def FrP (b:Nat) (D D':DH) (w:DV):Prop:=∀ i,i<D.length→i≠b+2→i≠b+3→¬excW w i→D'[i]? =D[i]?
def ChP (D D':DH) (w:DV) (k:Nat):Prop:=match w with
 | .lv o ver _=>∀ ctr Lv,D[o]? =some (.chn 3 1 ctr Lv)→∃ ctr' J,D'[o]? =some (.chn 3 1 ctr' (J++cutL ver Lv))∧ctr≤ctr'∧(∀ x∈J,ctr≤x.1∧∃ l:List Int,x.2=l.map numD)∧J.length≤k
 | _=>True
inductive WR (b cs cv size:Nat) (D:DH):DV→List Int→Prop
 | row {o:Nat} (h1:b+5<o∧o≠cs∧o≠cv) (h2:D[o]? =some (.arr 1 [])):WR b cs cv size D (.row o 0 0 0) []
 | lv {o ver ctr:Nat} {Lv:List (Nat×List DV)} {wl:List Int} (hne:wl≠[]) (h1:b+5<o∧o≠cs∧o≠cv) (h2:D[o]? =some (.chn 3 1 ctr Lv)) (hc:cutL ver Lv=Lv) (h3:headL (cutL ver Lv)=some (wl.map numD)) (h4:ver<ctr) (h5:(cutL ver Lv).length=wl.length) (h6:∀ x∈Lv,∃ l:List Int,x.2=l.map numD) (h7:Lv.length≤size):WR b cs cv size D (.lv o ver wl.length) wl
theorem ob_chnN {L e sz ctr:Nat} {l:List (Nat×List DV)} (h:∀ x∈l,∃ q:List Int,x.2=q.map numD):objBelow L (.chn e sz ctr l)=true:=by
 rw [ob_chn,List.all_eq_true]
 intro x hx
 obtain ⟨q,hq⟩:=h x hx
 rw [hq,List.all_eq_true]
 intro d hd
 obtain ⟨z,_,rfl⟩:=List.mem_map.1 hd
 simp [-List.map_set,-objBelow,-depV,numD,below]
def addH (b:Nat) (acc:List (List Int)) (w:List Int) (D:DH):DH:=(D.set (b+2) (.app 26 1 ((acc++[w]).map rowD))).set (b+3) (.arr 1 [.apl (b+2) (acc.length+1)])
theorem addH_get {w:List Int} {i:Nat} (h2:i≠b+2) (h3:i≠b+3):(addH b acc w D)[i]? =D[i]?:=by
 unfold addH
 rw [List.getElem?_set_ne (Ne.symm h3),List.getElem?_set_ne (Ne.symm h2)]
theorem addH_len {w:List Int}:(addH b acc w D).length=D.length:=by simp [-List.map_set,-objBelow,-depV,addH]
theorem VH.add (h:VH a b L cs cv size n canV els acc D) (w:List Int):VH a b L cs cv size n canV els (acc++[w]) (addH b acc w D):=by
 have hib:=h.ib
 have hL:=h.hL
 refine h.same (o:=L) (by rw [addH_len];exact hL) ⟨by omega,by have:=h.ics;omega,by have:=h.icv;omega⟩ (fun i _ h2 h3 _=>addH_get h2 h3) ⟨.apl (b+2) (acc.length+1),?_,.inr ⟨by simp [-List.map_set,-objBelow,-depV],?_⟩⟩ (fun x hx=>absurd hx (Nat.lt_irrefl _))
 ·unfold addH;rw [List.getElem?_set_self (by simp [-List.map_set,-objBelow,-depV];omega)]
 ·unfold addH;rw [List.getElem?_set_ne (by omega),List.getElem?_set_self (by omega)]
theorem VH.round (h:VH a b L cs cv size n canV els acc D) {D3:DH} {L' o:Nat} {acc':List (List Int)} (h3:VH a b L' cs cv size n canV els acc' D3) (hLL:L≤L') (ho:b+5<o∧o≠cs∧o≠cv) (hf:∀ i,i<L→i≠b+2→i≠b+3→i≠o→D3[i]? =D[i]?)
  (hbo:∀ x,o<L→D3[o]? =some x→objBelow L x=true):VH a b L cs cv size n canV els acc' (D3.take L):=by
 have e:∀ i,i<L→(D3.take L)[i]? =D3[i]?:=fun i hi=>by rw [List.getElem?_take,if_pos hi]
 have hib:=h.ib
 have:=h3.hL
 refine h.same (o:=o) (by simp [-List.map_set,-objBelow,-depV];omega) ho (fun i hi a1 a2 a3=>by rw [e i hi];exact hf i hi a1 a2 a3) ?_ (fun x hx=>by rw [e o hx];exact hbo x hx)
 obtain ⟨ov,g1,g2⟩:=h3.O
 refine ⟨ov,by rw [e _ (by omega)];exact g1,?_⟩
 unfold OutR at g2 ⊢
 rw [e _ (by omega)];exact g2
theorem VH.objsT (h:VH a b L cs cv size n canV els acc (D.take L)):objsOK b L D=true:=by
 have:=h.objs
 unfold objsOK at this ⊢
 rw [List.drop_take,List.take_take,Nat.min_self] at this
 exact this
theorem VH.more (h:VH a b L cs cv size n canV els acc D) (hl:D.length=L) {X:DH} (hX:∀ x∈X,objBelow (D++X).length x=true):VH a b (D++X).length cs cv size n canV els acc (D++X):=
 (h.app X).up fun i x hi hx=>by
  rw [List.getElem?_append_right (by omega)] at hx
  exact hX x (List.mem_of_getElem? hx)
theorem eq1_rf {D:DH} {o i k sz:Nat} {els:List DV} (h:D[o]? =some (.arr sz els)):eq1D D (.ref o i k)=true:=by
 show isRef D (.ref o i k)=true
 simp only [isRef,h]
theorem VH.eqF (h:VH a b L cs cv size n canV els acc D):eqD D (.fn 75 [] [.ref cs 0 0,.ref (b+3) 0 0,.ref (b+1) 0 0,.ref (b+5) 0 0,.ref b 0 0,.ref cv 0 0])=true:=by
 obtain ⟨ov,h3,_⟩:=h.O
 show (([]:List DV).all (eq1D D)&&[DV.ref cs 0 0,.ref (b+3) 0 0,.ref (b+1) 0 0,.ref (b+5) 0 0,.ref b 0 0,.ref cv 0 0].all (eq1D D))=true
 simp [-List.map_set,-objBelow,-depV,eq1_rf h.S,eq1_rf h3,eq1_rf h.N,eq1_rf h.C,eq1_rf h.A,eq1_rf h.V]
def GB (D D':DH):Prop:=∀ i x,D.length≤i→D'[i]? =some x→objBelow D'.length x=true
theorem GB.of {D D':DH} (h:D'.length=D.length):GB D D':=fun i x hi hx=>by
 rw [List.getElem?_eq_none (by omega)] at hx;cases hx
end Go.Dv
namespace Go.Dv
open Go Go.Sim Go.Proofs Go.Fsa
attribute [local simp] encI bitF autD b_neqB b_eqlB el_num set_num fz_num numD bitD el_bit set_bit fz_bit normF_strL
inductive WQ (b cs cv size:Nat) (D:DH):DV→List Int→Prop
 | em:WQ b cs cv size D .em []
 | lv {w:DV} {ww:List Int} {o v n:Nat} (hw:w=.lv o v n) (h:WR b cs cv size D w ww):WQ b cs cv size D w ww
theorem WQ.len {b cs cv size:Nat} {D:DH} {w:DV} {ww:List Int} (h:WQ b cs cv size D w ww):lenV D w=some ww.length:=by
 cases h with
 | em=>rfl
 | lv hw h=>cases h with
  | row=>cases hw
  | lv=>rfl
theorem WQ.one {b cs cv size:Nat} {D:DH} {w:DV} {ww:List Int} (h:WQ b cs cv size D w ww):cellsD w=[w]:=by
 cases h with
 | em=>rfl
 | lv hw h=>subst hw;rfl
theorem WQ.clone {b cs cv size:Nat} {D:DH} {w:DV} {ww:List Int} (h:WQ b cs cv size D w ww) (hl:ww.length<1000) (bb:Nat):callD Q 76 [w] bb D=some (rowD ww,D):=by
 cases h with
 | em=>exact w76e bb D
 | lv hw h=>cases h with
  | row=>cases hw
  | lv hne h1 h2 hc h3=>exact w76l _ hl hne _ _ _ _ bb D h2 h3
theorem WQ.refl {b cs cv size k:Nat} {D:DH} {w:DV} {ww:List Int} (h:WQ b cs cv size D w ww):ChP D D w k:=by
 cases h with
 | em=>exact trivial
 | lv hw h=>cases h with
  | row=>cases hw
  | lv hne h1 h2 hc h3=>
   intro ctr' Lv' hD
   rw [h2] at hD
   cases hD
   exact ⟨_,[],by rw [hc];exact h2,Nat.le_refl _,(fun x hx=>absurd hx List.not_mem_nil),Nat.zero_le _⟩
theorem WQ.same {b cs cv size k:Nat} {D D':DH} {w:DV} {ww:List Int} (h:WQ b cs cv size D w ww) (hs:∀ o v n,w=.lv o v n→D'[o]? =D[o]?):ChP D D' w k:=by
 cases h with
 | em=>exact trivial
 | lv hw h=>cases h with
  | row=>cases hw
  | lv hne h1 h2 hc h3=>
   intro ctr' Lv' hD
   rw [h2] at hD
   cases hD
   exact ⟨_,[],by rw [hc,hs _ _ _ rfl];exact h2,Nat.le_refl _,(fun x hx=>absurd hx List.not_mem_nil),Nat.zero_le _⟩
theorem FrP.refl {b:Nat} {D:DH} {w:DV}:FrP b D D w:=fun _ _ _ _ _=>rfl
theorem WR.emp {a:Aut} {b cs cv size n:Nat} {canV:DV} {els:List (List Bool)} {acc:List (List Int)} {D:DH} {w:DV} {ww:List Int} (hV:VH a b D.length cs cv size n canV els acc D) (h:WR b cs cv size D w ww) (x0 x2 x3 x4 x5 x6 x7:DV) :
  ∃ T D1 w1,ghostD b ⟨((((((((Trie.leaf.put 0 x0).put 1 w).put 2 x2).put 3 x3).put 4 x4).put 5 x5).put 6 x6).put 7 x7),D⟩ (.emp 1)=some ⟨T,D1⟩∧D1.length=D.length∧T.get 0=some x0∧T.get 1=some w1∧T.get 2=some x2∧T.get 3=some x3∧T.get 4=some x4∧T.get 5=some x5∧T.get 6=some x6∧T.get 7=some x7 ∧
   VH a b D.length cs cv size n canV els acc D1∧WQ b cs cv size D1 w1 ww∧(∀ i,¬excW w i→D1[i]? =D[i]?)∧(∀ k D',ChP D1 D' w1 k→ChP D D' w k)∧(∀ D',FrP b D1 D' w1→FrP b D D' w):=by
 cases h with
 | @row o h1 h2=>
  have hol:=ltOf h2
  have hs:∀ i,i≠o→(D.set o .dead)[i]? =D[i]?:=fun i hi=>List.getElem?_set_ne (Ne.symm hi)
  refine ⟨((((((((Trie.leaf.put 0 x0).put 1 (.row o 0 0 0)).put 2 x2).put 3 x3).put 4 x4).put 5 x5).put 6 x6).put 7 x7).put 1 .em,D.set o .dead,.em,by simp [-getElem?_pos,-List.map_set,-objBelow,-depV,h2,show b≤o by omega],by simp [-getElem?_pos,-List.map_set,-objBelow,-depV],by simp [-getElem?_pos,-List.map_set,-objBelow,-depV],by simp [-getElem?_pos,-List.map_set,-objBelow,-depV],by simp [-getElem?_pos,-List.map_set,-objBelow,-depV],by simp [-getElem?_pos,-List.map_set,-objBelow,-depV],by simp [-getElem?_pos,-List.map_set,-objBelow,-depV],by simp [-getElem?_pos,-List.map_set,-objBelow,-depV],by simp [-getElem?_pos,-List.map_set,-objBelow,-depV],by simp [-getElem?_pos,-List.map_set,-objBelow,-depV],?_,.em,fun i hi=>hs i (fun e=>hi e),fun _ _ _=>trivial,fun D' hf i hi e2 e3 he=>?_⟩
  ·refine hV.same (o:=o) (by simp [-getElem?_pos,-List.map_set,-objBelow,-depV]) h1 (fun i _ _ _ hi=>hs i hi) ?_ (fun x _ hx=>by simp [-getElem?_pos,-List.map_set,-objBelow,-depV,hol] at hx;subst hx;rfl)
   obtain ⟨ov,g1,g2⟩:=hV.O
   refine ⟨ov,by rw [hs _ (by omega)];exact g1,?_⟩
   unfold OutR at g2 ⊢
   rw [hs _ (by omega)];exact g2
  ·rw [hf i (by simpa [-getElem?_pos,-List.map_set,-objBelow,-depV] using hi) e2 e3 (fun h=>h),hs i (fun e=>he e)]
 | @lv o ver ctr Lv ww hne h1 h2 hc h3 h4 h5 h6 h7=>
  exact ⟨(((((((Trie.leaf.put 0 x0).put 1 (.lv o ver ww.length)).put 2 x2).put 3 x3).put 4 x4).put 5 x5).put 6 x6).put 7 x7,D,.lv o ver ww.length,by simp [-getElem?_pos,-List.map_set,-objBelow,-depV],rfl,by simp [-getElem?_pos,-List.map_set,-objBelow,-depV],by simp [-getElem?_pos,-List.map_set,-objBelow,-depV],by simp [-getElem?_pos,-List.map_set,-objBelow,-depV],by simp [-getElem?_pos,-List.map_set,-objBelow,-depV],by simp [-getElem?_pos,-List.map_set,-objBelow,-depV],by simp [-getElem?_pos,-List.map_set,-objBelow,-depV],by simp [-getElem?_pos,-List.map_set,-objBelow,-depV],by simp [-getElem?_pos,-List.map_set,-objBelow,-depV],hV,.lv rfl (.lv hne h1 h2 hc h3 h4 h5 h6 h7),fun _ _=>rfl,fun _ _ h=>h,fun _ h=>h⟩
theorem w75 {a:Aut} (hv:a.valid) {b cs cv size n:Nat} {canV:DV} {els:List (List Bool)} (hsz:size≤60) (hn:n≤300)
  (hels:∀ k,k≤size→∃ r,els[k]? =some r∧r.length=a.acc.length∧∀ s:Nat,s<a.acc.length→r[s]? =some (a.fulW k s)) (hone:cellsD canV=[canV]) :
  ∀ (k s:Nat) (ww:List Int) (w:DV) (acc:List (List Int)) (D:DH),s<a.acc.length→ww.length+k=size→acc.length≤n→VH a b D.length cs cv size n canV els acc D→WR b cs cv size D w ww →
   ∃ D',callD Q 75 [intD s,w,.ref cs 0 0,.ref (b+3) 0 0,.ref (b+1) 0 0,.ref (b+5) 0 0,.ref b 0 0,.ref cv 0 0] b D=some (.tup [],D')∧VH a b D.length cs cv size n canV els (addW n acc ww (a.wds k s)) D'∧ChP D D' w k∧FrP b D D' w∧GB D D':=by
 intro k
 induction k with
 | zero=>
  intro s ww w acc D hs hwk hacc hV hW
  obtain ⟨T,D1,w1,hgh,hD1,t0,t1,t2,t3,t4,t5,t6,t7,hV1,hW1,hfr,hch,hfp⟩:=hW.emp hV (.f (.raw (.int .i64 ((s:Nat):Int)))) (.ref cs 0 0) (.ref (b+3) 0 0) (.ref (b+1) 0 0) (.ref (b+5) 0 0) (.ref b 0 0) (.ref cv 0 0)
  obtain ⟨r,hr,hrl,hrs⟩:=hels 0 (Nat.zero_le _)
  obtain ⟨p,hp1,hp2⟩:=hV1.can.ix hr
  have hrs:=hrs s hs
  obtain ⟨ov,hO1,hO2⟩:=hV1.O
  have hov:lenV D1 ov=some acc.length∧cellsD ov=[ov]:=by
   rcases hO2 with ⟨rfl,rfl,h⟩ | ⟨rfl,h⟩<;>simp [-getElem?_pos,-List.map_set,-objBelow,-depV,lenV,h,cellsD]
  have hS:=hV1.S
  have hN:=hV1.N
  have hC:=hV1.C
  have hA:=hV1.A
  have hwk':size=ww.length:=by omega
  have hwl:=hW1.len
  have hwr:wrapF .i64 ((size:Int)-(ww.length:Int))=((0:Nat):Int):=by rw [wrap_in (by omega) (by omega)];omega
  simp only [intD] at hS hN
  rw [call_raw (fn:=Tryz.f75) (show Q.P.funcs[75]? =some Tryz.f75 from Tryz.func75) rfl ann75 rfl (by simp only [List.length_cons,List.length_nil];decide) (by kernel_rfl)]
  have gp:=gp75
  simp only [ann75,Tryz.f75,gpB_some,gpC_draw,gpC_reg,gpC_seq,gpC_cond,gpC_block,gpC_loop,gpC_range,gpC_skip,gpC_ret,gpC_exit,gpC_label,gpO_some,gpO_none,findN,Bool.and_eq_true,Bool.and_true,Bool.true_and,reduceIte,Nat.reduceEqDiff,true_and,and_true] at gp
  by_cases hfull:n≤acc.length
  ·refine ⟨D1,?_⟩
   rw [addW_full hfull]
   simp (maxSteps:=2000000) [-getElem?_pos,-List.map_set,-objBelow,-depV,gp,-g_emp,hgh,t0,t1,t2,t3,t4,t5,t6,t7,hS,hN,hC,hO1,hov.1,hov.2,hwl,hwr,hp1,hp2,hone,bitsD,hrs,hfull]
   exact ⟨rfl,hV1,hch _ _ hW1.refl,hfp _ .refl,.of hD1⟩
  cases hac:a.fulW 0 s with
  | false=>
   rw [hac] at hrs
   have:a.wds 0 s=[]:=by simpa [-getElem?_pos,-List.map_set,-objBelow,-depV,Aut.fulW] using hac
   rw [this,addW_nil]
   refine ⟨D1,?_⟩
   simp (maxSteps:=2000000) [-getElem?_pos,-List.map_set,-objBelow,-depV,gp,-g_emp,hgh,t0,t1,t2,t3,t4,t5,t6,t7,hS,hN,hC,hO1,hov.1,hov.2,hwl,hwr,hp1,hp2,hone,bitsD,hrs,hfull]
   exact ⟨rfl,hV1,hch _ _ hW1.refl,hfp _ .refl,.of hD1⟩
  | true=>
   rw [hac] at hrs
   have hw0:a.wds 0 s=[[]]:=by
    unfold Aut.fulW Aut.wds at hac
    unfold Aut.wds
    by_cases h:a.accB s
    ·simp [-getElem?_pos,-List.map_set,-objBelow,-depV,h]
    ·simp [-getElem?_pos,-List.map_set,-objBelow,-depV,h] at hac
   have hadd:addW n acc ww (a.wds 0 s)=acc++[ww]:=by
    rw [hw0];unfold addW
    obtain ⟨m,hm⟩:∃ m,n-acc.length=m+1:=⟨n-acc.length-1,by omega⟩
    simp [-getElem?_pos,-List.map_set,-objBelow,-depV,hm]
   rw [hadd]
   have h76:=fun bb=>hW1.clone (by omega) bb
   have r76:(Q.ann 76).raw=false:=by rw [ann76]
   have hib:=hV1.ib
   have hLD:=hV1.hL
   have g1:=fun X=>get_app (X:=X) hO1
   have l1:=ltOf hO1
   have g3:=fun y X=>get_app (X:=X) (show (D1.set (b+2) y)[b+3]? =some (.arr 1 [ov]) by rw [List.getElem?_set_ne (by omega)];exact hO1)
   refine ⟨((D1++[DObj.arr 1 [rowD ww]]).set (b+2) (.app 26 1 ((acc++[ww]).map rowD))).set (b+3) (.arr 1 [.apl (b+2) (acc.length+1)]),?_,?_,?_,?_,?_⟩
   ·rcases hO2 with ⟨rfl,rfl,hO2⟩ | ⟨rfl,hO2⟩
    ·have g2:=fun X=>get_app (X:=X) hO2
     have l2:=ltOf hO2
     simp (maxSteps:=2000000) [-getElem?_pos,-List.map_set,-objBelow,-depV,gp,-g_emp,hgh,t0,t1,t2,t3,t4,t5,t6,t7,hS,hN,hC,hO1,hov.1,hov.2,hwl,hwr,hp1,hp2,hone,bitsD,hrs,hfull,h76,r76,hO2,show ¬n=0 by simpa [-getElem?_pos,-List.map_set,-objBelow,-depV] using hfull,g1,g2,g3,l1,l2]
     rfl
     done
    ·have g2:=fun X=>get_app (X:=X) hO2
     have l2:=ltOf hO2
     simp (maxSteps:=2000000) [-getElem?_pos,-List.map_set,-objBelow,-depV,gp,-g_emp,hgh,t0,t1,t2,t3,t4,t5,t6,t7,hS,hN,hC,hO1,hov.1,hov.2,hwl,hwr,hp1,hp2,hone,bitsD,hrs,hfull,h76,r76,hO2,g1,g2,g3,l1,l2,show (acc.length+1)*24≤1099511627776∧acc.length≤1099511627775 by omega]
     rfl
     done
   ·exact (hV1.app [.arr 1 [rowD ww]]).add ww
   ·refine hch _ _ (hW1.same fun o v m e=>?_)
    subst e
    cases hW1 with
    | lv hw h=>cases h with
     | lv hne h1 h2=>
      show (addH b acc ww (D1++[DObj.arr 1 [rowD ww]]))[o]? =_
      rw [addH_get (by omega) (by omega),List.getElem?_append_left (ltOf h2)]
   ·refine hfp _ fun i hi h2 h3 _=>?_
    show (addH b acc ww (D1++[DObj.arr 1 [rowD ww]]))[i]? =_
    rw [addH_get h2 h3,List.getElem?_append_left hi]
   ·intro i x hi hx
    change (addH b acc ww (D1++[DObj.arr 1 [rowD ww]]))[i]? =some x at hx
    rw [addH_get (by omega) (by omega),List.getElem?_append_right (by omega)] at hx
    have:=List.mem_of_getElem? hx
    simp [-getElem?_pos,-List.map_set,-objBelow,-depV] at this
    subst this
    rfl
 | succ k IH=>
  intro s ww w acc D hs hwk hacc hV hW
  obtain ⟨T,D1,w1,hgh,hD1,t0,t1,t2,t3,t4,t5,t6,t7,hV1,hW1,hfr,hch,hfp⟩:=hW.emp hV (.f (.raw (.int .i64 ((s:Nat):Int)))) (.ref cs 0 0) (.ref (b+3) 0 0) (.ref (b+1) 0 0) (.ref (b+5) 0 0) (.ref b 0 0) (.ref cv 0 0)
  obtain ⟨m,hm⟩:∃ m,m=k+1:=⟨_,rfl⟩
  obtain ⟨r,hr,hrl,hrs⟩:=hels m (by omega)
  obtain ⟨p,hp1,hp2⟩:=hV1.can.ix hr
  have hrs:=hrs s hs
  obtain ⟨ov,hO1,hO2⟩:=hV1.O
  have hov:lenV D1 ov=some acc.length∧cellsD ov=[ov]:=by
   rcases hO2 with ⟨rfl,rfl,h⟩ | ⟨rfl,h⟩<;>simp [-getElem?_pos,-List.map_set,-objBelow,-depV,lenV,h,cellsD]
  have hS:=hV1.S
  have hN:=hV1.N
  have hC:=hV1.C
  have hA:=hV1.A
  have hwl:=hW1.len
  have hwr:wrapF .i64 ((size:Int)-(ww.length:Int))=((m:Nat):Int):=by rw [wrap_in (by omega) (by omega)];omega
  simp only [intD] at hS hN
  rw [call_raw (fn:=Tryz.f75) (show Q.P.funcs[75]? =some Tryz.f75 from Tryz.func75) rfl ann75 rfl (by simp only [List.length_cons,List.length_nil];decide) (by kernel_rfl)]
  have gp:=gp75
  simp only [ann75,Tryz.f75,gpB_some,gpC_draw,gpC_reg,gpC_seq,gpC_cond,gpC_block,gpC_loop,gpC_range,gpC_skip,gpC_ret,gpC_exit,gpC_label,gpO_some,gpO_none,findN,Bool.and_eq_true,Bool.and_true,Bool.true_and,reduceIte,Nat.reduceEqDiff,true_and,and_true] at gp
  by_cases hfull:n≤acc.length
  ·refine ⟨D1,?_⟩
   rw [addW_full hfull]
   simp (maxSteps:=2000000) [-getElem?_pos,-List.map_set,-objBelow,-depV,gp,-g_emp,hgh,t0,t1,t2,t3,t4,t5,t6,t7,hS,hN,hC,hO1,hov.1,hov.2,hwl,hwr,hp1,hp2,hone,bitsD,hrs,hfull]
   exact ⟨rfl,hV1,hch _ _ hW1.refl,hfp _ .refl,.of hD1⟩
  rw [hm] at hrs
  cases hac:a.fulW (k+1) s with
  | false=>
   rw [hac] at hrs
   have:a.wds (k+1) s=[]:=by simpa [-getElem?_pos,-List.map_set,-objBelow,-depV,Aut.fulW] using hac
   rw [this,addW_nil]
   refine ⟨D1,?_⟩
   simp (maxSteps:=2000000) [-getElem?_pos,-List.map_set,-objBelow,-depV,gp,-g_emp,hgh,t0,t1,t2,t3,t4,t5,t6,t7,hS,hN,hC,hO1,hov.1,hov.2,hwl,hwr,hp1,hp2,hone,bitsD,hrs,hfull]
   exact ⟨rfl,hV1,hch _ _ hW1.refl,hfp _ .refl,.of hD1⟩
  | true=>
   rw [hac] at hrs
   have hla:=hv.len
   obtain ⟨r0,hr0⟩:=getOf (l:=a.nxt) (i:=s) (by omega)
   have hrow:=hv.rows r0 (List.mem_of_getElem? hr0)
   obtain ⟨sy,hsy⟩:∃ sy:Nat,a.sy=sy:=⟨a.sy.toNat,by have:=hv.lo;omega⟩
   have hr0l:r0.length=sy:=by have:=hrow.1;omega
   have hgo:∀ c:Nat,c<sy→r0[c]? =some (a.go s c):=fun c hc=>by
    obtain ⟨r',h1,h2⟩:=Aut.go_some hv (s:=(s:Int)) (by omega) (by omega) (c:=c) (by omega)
    simp only [Int.toNat_natCast] at h1
    rw [hr0] at h1;cases h1;exact h2
   have hm0:¬m=0:=by omega
   have hbw:below D1.length w1=true:=by
    cases hW1 with
    | em=>rfl
    | lv hw h=>cases h with
     | row=>cases hw
     | lv hne h1 h2=>simp [-getElem?_pos,-List.map_set,-objBelow,-depV,below];exact ltOf h2
   have hobj:objsOK b D1.length D1=true:=by rw [hD1];exact hV1.objs
   have hcvl:cv<D1.length:=by rw [hD1];exact hV1.icv.2
   have hbl:b≤D1.length:=by rw [hD1];have:=hV1.ib;omega
   simp (maxSteps:=2000000) [-getElem?_pos,-List.map_set,-objBelow,-depV,gp,-g_emp,hgh,t0,t1,t2,t3,t4,t5,t6,t7,hS,hN,hC,hO1,hov.1,hov.2,hwl,hwr,hp1,hp2,hone,bitsD,hrs,hfull,hA,hm0,hr0,hr0l,hbw,hobj,hcvl,hbl]
   generalize hX:loopG _ _ _=X
   obtain ⟨tm,H,rfl,hVH,hCh,hFr,hHl⟩:∃ (tm:Trie DV) (H:DH),X=some (.exit 0,⟨tm,H⟩)∧VH a b D.length cs cv size n canV els (addW n acc ww (a.wds (k+1) s)) H∧ChP D1 H w1 (k+1)∧FrP b D1 H w1∧H.length=D1.length:=by
    rw [← hX]
    clear hX
    generalize hs48:SD.mk _ _=sd48
    revert sd48
    refine wl (fun p:Nat×DH=>⟨((((Trie.leaf.put 44 (intD p.1)).put 43 (intD sy)).put 42 (rowD r0)).put 7 (.ref cv 0 0)).put 1 w1,p.2⟩) (fun p=>p.1≤sy∧p.2.length=D1.length∧VH a b D.length cs cv size n canV els (addW n acc ww (a.wdsTo k s p.1)) p.2∧ChP D1 p.2 w1 (k+1)∧FrP b D1 p.2 w1) (fun p=>sy-p.1) ?_ (0,D1) ⟨Nat.zero_le _,rfl,by simpa [-getElem?_pos,-List.map_set,-objBelow,-depV,Aut.wdsTo,addW_nil] using hV1,hW1.refl,.refl⟩
    rintro ⟨c,H⟩ ⟨hc,hHl,hVH,hCh,hFr⟩ ih
    simp only at hc hHl hVH hCh hFr ih
    rw [loopG_eq]
    have hobjH:objsOK b D1.length H=true:=by rw [hD1];exact hVH.objs
    have htk:H.take D1.length=H:=List.take_of_length_le (by omega)
    have hV':=hVH.V
    simp only [visF] at hV'
    by_cases hlt:c<sy
    case neg=>
     have:c=sy:=by omega
     subst this
     simp (maxSteps:=2000000) [-getElem?_pos,-List.map_set,-objBelow,-depV,gp,hr0l]
     refine ⟨_,_,⟨rfl,rfl⟩,?_,hCh,hFr,hHl⟩
     rw [show a.wds (k+1) s=a.wdsTo k s c by unfold Aut.wds Aut.wdsTo;rw [hsy];rfl]
     exact hVH
    obtain ⟨t,ht⟩:∃ t,t=a.go s c:=⟨_,rfl⟩
    have hrc:=hgo c hlt
    rw [← ht] at hrc
    have hcw:=wrap_succ (show c+1≤9223372036854775807 by have:=hv.hi;omega)
    by_cases ht0:0≤t
    case neg=>
     have e:a.wdsTo k s (c+1)=a.wdsTo k s c:=by rw [Aut.wdsTo_succ,← ht,if_neg ht0,List.append_nil]
     have ih':=ih (c+1,H) ⟨by simp only;omega,hHl,by simp only;rw [e];exact hVH,hCh,hFr⟩ (by simp only;omega)
     simp (maxSteps:=2000000) [-getElem?_pos,-List.map_set,-objBelow,-depV] at ih'
     simp (maxSteps:=2000000) [-getElem?_pos,-List.map_set,-objBelow,-depV,gp,hr0l,hlt,hrc,ht0,hbw,hcvl,hobjH,hHl,htk,hbl,hcw]
     exact ih'
    obtain ⟨t',rfl⟩:∃ t':Nat,t=t':=⟨t.toNat,by omega⟩
    have htl:t'<a.acc.length:=by
     have:=(Aut.go_dom (x:=(s:Int)) (c:=c) hv).2
     rw [← ht] at this;omega
    have r75:(Q.ann 75).raw=true:=by rw [ann75]
    have hac1:=addW_len (w:=ww) (l:=a.wdsTo k s c) hacc
    have gV:=fun X=>get_app (X:=X) hV'
    have gE:=fun X=>(hVH.app X).eqF
    cases hW1 with
    | em=>
     have hib:=hVH.ib
     have hVb:=hVH.more (X:=[.arr 1 [numD c],.chn 3 1 1 [(0,[numD c])]]) (by omega) (fun x hx=>by
      simp [-getElem?_pos,-List.map_set,-objBelow,-depV] at hx
      rcases hx with rfl | rfl<;>simp [-getElem?_pos,-List.map_set,-objBelow,-depV,objBelow,below])
     have hWb:WR b cs cv size (H++[.arr 1 [numD c],.chn 3 1 1 [(0,[numD c])]]) (.lv (H.length+1) 0 [(c:Int)].length) [(c:Int)]:=by
      refine .lv (ver:=0) (ctr:=1) (Lv:=[(0,[numD c])]) (by simp [-getElem?_pos,-List.map_set,-objBelow,-depV]) ?_ (by simp [-getElem?_pos,-List.map_set,-objBelow,-depV]) rfl rfl (by omega) rfl (fun x hx=>⟨[(c:Int)],by simp [-getElem?_pos,-List.map_set,-objBelow,-depV] at hx;subst hx;rfl⟩) (by simp [-getElem?_pos,-List.map_set,-objBelow,-depV];omega)
      have:=hVH.ics;have:=hVH.icv;omega
     obtain ⟨D3,q1,q2,q3,q4,-⟩:=IH t' _ _ _ _ htl (by simp [-getElem?_pos,-List.map_set,-objBelow,-depV] at hwk ⊢;omega) hac1 hVb hWb
     have hfx:∀ i,i<D.length→i≠b+2→i≠b+3→D3[i]? =H[i]?:=fun i hi h2 h3=>by
      rw [q4 i (by simp [-getElem?_pos,-List.map_set,-objBelow,-depV];omega) h2 h3 (fun e=>by have e:i=H.length+1:=e;omega),List.getElem?_append_left (by omega)]
     have e1:addW n (addW n acc [] (a.wdsTo k s c)) [(c:Int)] (a.wds k t')=addW n acc [] (a.wdsTo k s (c+1)):=by
      have:=addW_cons (n:=n) (acc:=addW n acc [] (a.wdsTo k s c)) (w:=[]) (c:=(c:Int)) (l:=a.wds k t')
      rw [List.nil_append] at this
      rw [this,addW_app,Aut.wdsTo_succ,← ht,if_pos (by omega)]
     rw [e1] at q2
     have hl3:D1.length≤D3.length:=by have:=q2.hL;simp [-getElem?_pos,-List.map_set,-objBelow,-depV] at this;omega
     have hVn:VH a b D.length cs cv size n canV els (addW n acc [] (a.wdsTo k s (c+1))) (D3.take D1.length):=by
      rw [hD1]
      exact hVH.round (o:=H.length+1) q2 (by simp [-getElem?_pos,-List.map_set,-objBelow,-depV];omega) (by have:=hVH.ics;have:=hVH.icv;omega) (fun i hi h2 h3 _=>hfx i hi h2 h3) (fun x hx=>by omega)
     have ih':=ih (c+1,D3.take D1.length) ⟨by simp only;omega,by simp only [List.length_take];omega,hVn,trivial,fun i hi h2 h3 _=>by
      simp only [List.getElem?_take,if_pos hi]
      rw [hfx i (by omega) h2 h3,hFr i hi h2 h3 (fun h=>h)]⟩ (by simp only;omega)
     have hobj3:objsOK b D1.length D3=true:=by rw [hD1] at hVn ⊢;exact hVn.objsT
     simp only [intD] at q1
     simp [-getElem?_pos,-List.map_set,-objBelow,-depV] at q1
     simp (maxSteps:=2000000) [-getElem?_pos,-List.map_set,-objBelow,-depV] at ih'
     simp (maxSteps:=2000000) [-getElem?_pos,-List.map_set,-objBelow,-depV,gp,hr0l,hlt,hrc,hbw,hcvl,hbl,hcw,gV,gE,q1,r75,hobj3,hl3,hV',ltOf hV']
     exact ih'
    | lv hw h=>cases h with
     | row=>cases hw
     | @lv o ver ctr Lv _ hne h1 h2 hc' h3 h4 h5 h6 h7=>
      have hib:=hVH.ib
      obtain ⟨ctr',J,hHo,hcc,hJ,hJk⟩:=hCh _ _ h2
      rw [hc'] at h3 h5 hHo
      have hol:=ltOf hHo
      have hcut:cutL ver (J++Lv)=Lv:=by
       rw [cutL_skip (fun x hx=>by have:=(hJ x hx).1;omega),hc']
      have hhd:headL (cutL ver (J++Lv))=some (ww.map numD):=by rw [hcut];exact h3
      have hN:=fun (DD:DH) (bb:Nat) (TT:SlT) (oo m:Nat) (new:List DV)=>apN_chn (D:=DD) (base:=bb) (T:=TT) (o:=oo) (v:=ver) (n:=m) (e:=3) (sz:=1) (ctr:=ctr') (new:=new) hhd
      rw [hcut] at hN
      have hlv:∀ (x:Nat×List DV),x∈((ctr',(ww++[(c:Int)]).map numD)::Lv)→∃ l:List Int,x.2=l.map numD:=fun x hx=>by
       rcases List.mem_cons.1 hx with rfl | hx
       ·exact ⟨_,rfl⟩
       ·exact h6 x hx
      have hVs:VH a b D.length cs cv size n canV els (addW n acc ww (a.wdsTo k s c)) (H.set o (.chn 3 1 (ctr'+1) ((ctr',(ww++[(c:Int)]).map numD)::Lv))):=by
       refine hVH.same (o:=o) (by simp [-getElem?_pos,-List.map_set,-objBelow,-depV];omega) h1 (fun i _ _ _ hi=>List.getElem?_set_ne (Ne.symm hi)) ?_ (fun x _ hx=>?_)
       ·obtain ⟨ov,g1,g2⟩:=hVH.O
        refine ⟨ov,by rw [List.getElem?_set_ne (by omega)];exact g1,?_⟩
        unfold OutR at g2 ⊢
        rw [List.getElem?_set_ne (by omega)];exact g2
       ·rw [List.getElem?_set_self hol] at hx
        cases hx
        exact ob_chnN hlv
      have hVb:=hVs.more (X:=[.arr 1 [numD c]]) (by simp [-getElem?_pos,-List.map_set,-objBelow,-depV];omega) (fun x hx=>by
       simp [-getElem?_pos,-List.map_set,-objBelow,-depV] at hx
       subst hx
       simp [-getElem?_pos,-List.map_set,-objBelow,-depV,objBelow,below])
      have hWb:WR b cs cv size (H.set o (.chn 3 1 (ctr'+1) ((ctr',(ww++[(c:Int)]).map numD)::Lv))++[.arr 1 [numD c]]) (.lv o ctr' (ww++[(c:Int)]).length) (ww++[(c:Int)]):=by
       refine .lv (ver:=ctr') (ctr:=ctr'+1) (Lv:=(ctr',(ww++[(c:Int)]).map numD)::Lv) (by simp [-getElem?_pos,-List.map_set,-objBelow,-depV]) h1 ?_ (by simp [-getElem?_pos,-List.map_set,-objBelow,-depV,cutL]) (by simp [-getElem?_pos,-List.map_set,-objBelow,-depV,cutL,headL]) (by omega) (by simp [-getElem?_pos,-List.map_set,-objBelow,-depV,cutL,h5]) hlv (by simp [-getElem?_pos,-List.map_set,-objBelow,-depV,h5];omega)
       rw [List.getElem?_append_left (by simpa [-getElem?_pos,-List.map_set,-objBelow,-depV] using hol),List.getElem?_set_self hol]
      obtain ⟨D3,q1,q2,q3,q4,-⟩:=IH t' _ _ _ _ htl (by simp [-getElem?_pos,-List.map_set,-objBelow,-depV];omega) hac1 hVb hWb
      have hfx:∀ i,i<D.length→i≠b+2→i≠b+3→i≠o→D3[i]? =H[i]?:=fun i hi g2 g3 g4=>by
       rw [q4 i (by simp [-getElem?_pos,-List.map_set,-objBelow,-depV];omega) g2 g3 g4,List.getElem?_append_left (by simp [-getElem?_pos,-List.map_set,-objBelow,-depV];omega),List.getElem?_set_ne (Ne.symm g4)]
      have e1:addW n (addW n acc ww (a.wdsTo k s c)) (ww++[(c:Int)]) (a.wds k t')=addW n acc ww (a.wdsTo k s (c+1)):=by
       rw [addW_cons,addW_app,Aut.wdsTo_succ,← ht,if_pos (by omega)]
      rw [e1] at q2
      obtain ⟨ctr2,J2,q5,q6,q7,q8⟩:=q3 (ctr'+1) ((ctr',(ww++[(c:Int)]).map numD)::Lv) (by rw [List.getElem?_append_left (by simpa [-getElem?_pos,-List.map_set,-objBelow,-depV] using hol),List.getElem?_set_self hol])
      rw [show cutL ctr' ((ctr',(ww++[(c:Int)]).map numD)::Lv)=(ctr',(ww++[(c:Int)]).map numD)::Lv by simp [-getElem?_pos,-List.map_set,-objBelow,-depV,cutL]] at q5
      have hl3:D1.length≤D3.length:=by have:=q2.hL;simp [-getElem?_pos,-List.map_set,-objBelow,-depV] at this;omega
      have hVn:VH a b D.length cs cv size n canV els (addW n acc ww (a.wdsTo k s (c+1))) (D3.take D1.length):=by
       rw [hD1]
       refine hVH.round (o:=o) q2 (by simp [-getElem?_pos,-List.map_set,-objBelow,-depV];omega) h1 (fun i hi g2 g3 g4=>hfx i hi g2 g3 g4) (fun x _ hx=>?_)
       rw [q5] at hx
       cases hx
       exact ob_chnN fun x hx=>by
        rcases List.mem_append.1 hx with hx | hx
        ·exact (q7 x hx).2
        ·exact hlv x hx
      have ih':=ih (c+1,D3.take D1.length) ⟨by simp only;omega,by simp only [List.length_take];omega,hVn,fun ctr0 Lv0 hD0=>by
       rw [h2] at hD0
       cases hD0
       refine ⟨ctr2,J2++[(ctr',(ww++[(c:Int)]).map numD)],?_,by omega,fun x hx=>?_,by simp [-getElem?_pos,-List.map_set,-objBelow,-depV];omega⟩
       ·show (D3.take D1.length)[o]? =_
        rw [List.getElem?_take,if_pos (by omega),q5,hc',List.append_assoc];rfl
       ·rcases List.mem_append.1 hx with hx | hx
        ·exact ⟨by have:=(q7 x hx).1;omega,(q7 x hx).2⟩
        ·rw [List.mem_singleton] at hx
         subst hx
         exact ⟨hcc,_,rfl⟩,fun i hi g2 g3 g4=>by
       show (D3.take D1.length)[i]? =_
       rw [List.getElem?_take,if_pos hi,hfx i (by omega) g2 g3 g4,hFr i hi g2 g3 g4]⟩ (by simp only;omega)
      have hobj3:objsOK b D1.length D3=true:=by rw [hD1] at hVn ⊢;exact hVn.objsT
      have gE2:=fun X=>(hVs.app X).eqF
      have gH:=fun X=>get_app (X:=X) hHo
      have hJL:J.length+Lv.length<99:=by omega
      have hb8:(ww.length+1)*8≤1099511627776∧ww.length≤1099511627775:=by omega
      have hbo:b≤o:=by omega
      have hcvo:=h1.2.2
      simp only [intD] at q1
      simp [-getElem?_pos,-List.map_set,-objBelow,-depV] at q1 gE2
      simp (maxSteps:=2000000) [-getElem?_pos,-List.map_set,-objBelow,-depV] at ih'
      simp (maxSteps:=2000000) [-getElem?_pos,-List.map_set,-objBelow,-depV,gp,hr0l,hlt,hrc,hbw,hcvl,hbl,hcw,gV,gE,q1,r75,hobj3,hl3,hV',ltOf hV',gE2,gH,hol,hN,hJL,hb8,hbo,hcvo,Ne.symm hcvo]
      exact ih'
   refine ⟨H,?_⟩
   simp (maxSteps:=2000000) [-getElem?_pos,-List.map_set,-objBelow,-depV,gp,]
   exact ⟨rfl,hVH,hch _ _ hCh,hfp _ hFr,.of (hHl.trans hD1)⟩
end Go.Dv
namespace Go.Fsa
def Aut.tab (a:Aut) (k:Nat):List (List Bool):=(List.range (k+1)).map fun j=>(List.range a.acc.length).map fun s:Nat=>a.fulW j s
theorem Aut.tab_len {a:Aut} {k:Nat}:(a.tab k).length=k+1:=by simp [Aut.tab]
theorem Aut.tab_get {a:Aut} {k j:Nat} (h:j≤k):(a.tab k)[j]? =some ((List.range a.acc.length).map fun s:Nat=>a.fulW j s):=by
 unfold Aut.tab
 rw [List.getElem?_map,List.getElem?_range (by omega)];rfl
theorem Aut.tab_succ {a:Aut} {k:Nat}:a.tab (k+1)=a.tab k++[(List.range a.acc.length).map fun s:Nat=>a.fulW (k+1) s]:=by
 unfold Aut.tab
 rw [List.range_succ,List.map_append];rfl
theorem Aut.tab_row {a:Aut} {k s:Nat} (hs:s<a.acc.length):((List.range a.acc.length).map fun s:Nat=>a.fulW k s)[s]? =some (a.fulW k s):=by
 rw [List.getElem?_map,List.getElem?_range hs];rfl
theorem Aut.tab0 {a:Aut}:a.tab 0=[a.acc]:=by
 unfold Aut.tab
 simp only [Nat.zero_add,List.range_one,List.map_cons,List.map_nil,List.cons.injEq,and_true]
 refine List.ext_getElem? fun j=>?_
 rcases Nat.lt_or_ge j a.acc.length with h | h
 ·rw [Aut.tab_row h,List.getElem?_eq_getElem h]
  unfold Aut.fulW Aut.wds Aut.accB
  rw [Int.toNat_natCast,List.getElem?_eq_getElem h]
  cases a.acc[j]<;>simp
 ·rw [List.getElem?_eq_none (by simpa using h),List.getElem?_eq_none h]
def Aut.anyW (a:Aut) (k:Nat) (x:Int):Bool:=decide (0≤x)&&a.fulW k x
theorem Aut.any_row {a:Aut} (hv:a.valid) {k s:Nat} {r:List Int} (hr:a.nxt[s]? =some r):r.any (a.anyW k)=a.fulW (k+1) s:=by
 have hla:=hv.len
 have hsl:s<a.nxt.length:=by
  rcases Nat.lt_or_ge s a.nxt.length with g | g
  ·exact g
  ·rw [List.getElem?_eq_none g] at hr;cases hr
 have hrow:=hv.rows r (List.mem_of_getElem? hr)
 have hlo:=hv.lo
 rw [Aut.fulW_succ,Bool.eq_iff_iff,List.any_eq_true,List.any_eq_true]
 have hgo:∀ c:Nat,c<a.sy.toNat→r[c]? =some (a.go s c):=fun c hc=>by
  obtain ⟨r',h1,h2⟩:=Aut.go_some hv (s:=(s:Int)) (by omega) (by omega) (c:=c) (by omega)
  simp only [Int.toNat_natCast] at h1
  rw [hr] at h1;cases h1;exact h2
 constructor
 ·rintro ⟨x,hx,h⟩
  obtain ⟨c,hc⟩:=List.getElem?_of_mem hx
  have hcl:c<a.sy.toNat:=by
   have:=hrow.1
   rcases Nat.lt_or_ge c r.length with g | g
   ·omega
   ·rw [List.getElem?_eq_none g] at hc;cases hc
  refine ⟨c,List.mem_range.2 hcl,?_⟩
  have:=hgo c hcl
  rw [hc] at this;cases this
  exact h
 ·rintro ⟨c,hc,h⟩
  rw [List.mem_range] at hc
  exact ⟨a.go s c,List.mem_of_getElem? (hgo c hc),h⟩
noncomputable def listR (a:Aut) (n most:Int):List (List Int)×Int:=
 if ¬a.valid then ([],60) else if n<0∨10000<n∨most<0∨1000<most then ([],1) else (a.list n.toNat (most.toNat+1),0)
theorem Aut.wds_none {a:Aut} (h:a.acc=[]) (hn:a.nxt=[]) {k:Nat} {s:Int}:a.wds k s=[]:=by
 have ha:∀ s,a.accB s=false:=fun s=>by simp [Aut.accB,h]
 cases k with
 | zero=>simp [Aut.wds,ha]
 | succ k=>
  unfold Aut.wds
  rw [List.flatMap_eq_nil_iff]
  intro c _
  rw [if_neg]
  unfold Aut.go
  split
  ·omega
  ·simp [hn]
theorem Aut.list_none {a:Aut} (h:a.acc=[]) (hn:a.nxt=[]) {n:Nat}:∀ {k:Nat},a.list n k=[]
 | 0=>rfl
 | k+1=>by
  unfold Aut.list
  rw [Aut.list_none h hn,Aut.wds_none h hn,addW_nil]
theorem Aut.list_le {a:Aut} {n:Nat}:∀ {k:Nat},(a.list n k).length≤n
 | 0=>Nat.zero_le _
 | k+1=>addW_len Aut.list_le
theorem Aut.list_full {a:Aut} {n j:Nat} (h:n≤(a.list n j).length):∀ {k:Nat},j≤k→a.list n k=a.list n j
 | k,hk=>by
  induction k with
  | zero=>
   obtain rfl:j=0:=by omega
   rfl
  | succ k ih=>
   rcases Nat.lt_or_ge k j with g | g
   ·obtain rfl:j=k+1:=by omega
    rfl
   ·show addW n (a.list n k) [] (a.wds k a.st)=_
    rw [ih g,addW_full h]
end Go.Fsa
namespace Go.Dv
open Go Go.Sim Go.Proofs Go.Fsa
structure PH (a:Aut) (b cs size n:Nat) (canV:DV) (els:List (List Bool)) (acc:List (List Int)) (D:DH):Prop where
 ib:b+5<D.length
 ics:b+5<cs∧cs<D.length
 A:D[b]? =some (.arr 4 [autD a])
 N:D[b+1]? =some (.arr 1 [intD n])
 O:∃ ov,D[b+3]? =some (.arr 1 [ov])∧OutR D b ov acc
 C:D[b+5]? =some (.arr 1 [canV])
 can:CanR D canV (b+4) els
 S:D[cs]? =some (.arr 1 [intD size])
 bel:∀ i x,b≤i→D[i]? =some x→objBelow D.length x=true
variable {a:Aut} {b cs cv size n:Nat} {canV:DV} {els:List (List Bool)} {acc:List (List Int)} {D:DH}
theorem PH.app (h:PH a b cs size n canV els acc D) {X:DH} (hX:∀ x∈X,objBelow (D++X).length x=true):PH a b cs size n canV els acc (D++X):=by
 have e:∀ i,i<D.length→(D++X)[i]? =D[i]?:=fun i hi=>List.getElem?_append_left hi
 have hib:=h.ib
 refine ⟨by simp [-List.map_set,-objBelow,-depV];omega,by have:=h.ics;simp [-List.map_set,-objBelow,-depV];omega,by rw [e _ (by omega)];exact h.A,by rw [e _ (by omega)];exact h.N,?_,by rw [e _ (by omega)];exact h.C,?_,by rw [e _ h.ics.2];exact h.S,fun i x h1 hx=>?_⟩
 ·obtain ⟨ov,h1,h2⟩:=h.O
  refine ⟨ov,by rw [e _ (by omega)];exact h1,?_⟩
  unfold OutR at h2 ⊢
  rw [e _ (by omega)];exact h2
 ·have:=h.can
  unfold CanR at this ⊢
  rw [e _ (by omega)];exact this
 ·rcases Nat.lt_or_ge i D.length with g | g
  ·rw [e i g] at hx
   exact objBelow_le (by simp [-List.map_set,-objBelow,-depV]) x (h.bel i x h1 hx)
  ·rw [List.getElem?_append_right g] at hx
   exact hX x (List.mem_of_getElem? hx)
theorem PH.vh (h:PH a b cs size n canV els acc D) {cv:Nat} (hcv:b+5<cv) (hV:D[cv]? =some (.arr 1 [visF b cs cv])):VH a b D.length cs cv size n canV els acc D:=
 ⟨Nat.le_refl _,h.ib,h.ics,⟨hcv,ltOf hV⟩,h.A,h.N,h.O,h.C,h.can,h.S,hV,fun i x h1 _ hx=>h.bel i x h1 hx⟩
def tabH (b k:Nat) (els:List (List Bool)) (D:DH):DH:=(D.set (b+4) (.app 22 1 (els.map bitsD))).set (b+5) (.arr 1 [.apl (b+4) k])
theorem PH.tab (h:PH a b cs size n canV els acc D) (els':List (List Bool)):PH a b cs size n (.apl (b+4) els'.length) els' acc (tabH b els'.length els' D):=by
 have hib:=h.ib
 have hics:=h.ics
 have e:∀ i,i≠b+4→i≠b+5→(tabH b els'.length els' D)[i]? =D[i]?:=fun i h1 h2=>by
  unfold tabH
  rw [List.getElem?_set_ne (Ne.symm h2),List.getElem?_set_ne (Ne.symm h1)]
 have h4:(tabH b els'.length els' D)[b+4]? =some (.app 22 1 (els'.map bitsD)):=by
  unfold tabH;rw [List.getElem?_set_ne (by omega),List.getElem?_set_self (by omega)]
 have h5:(tabH b els'.length els' D)[b+5]? =some (.arr 1 [.apl (b+4) els'.length]):=by
  unfold tabH;rw [List.getElem?_set_self (by simp [-List.map_set,-objBelow,-depV];omega)]
 have hl:(tabH b els'.length els' D).length=D.length:=by simp [-List.map_set,-objBelow,-depV,tabH]
 refine ⟨by omega,by omega,by rw [e _ (by omega) (by omega)];exact h.A,by rw [e _ (by omega) (by omega)];exact h.N,?_,h5,.inr ⟨rfl,h4⟩,by rw [e _ (by omega) (by omega)];exact h.S,fun i x h1 hx=>?_⟩
 ·obtain ⟨ov,h1,h2⟩:=h.O
  refine ⟨ov,by rw [e _ (by omega) (by omega)];exact h1,?_⟩
  unfold OutR at h2 ⊢
  rw [e _ (by omega) (by omega)];exact h2
 ·rw [hl]
  by_cases e4:i=b+4
  ·subst e4
   rw [h4] at hx;cases hx
   simp [-List.map_set,-objBelow,-depV,objBelow,bitsD,below]
  ·by_cases e5:i=b+5
   ·subst e5
    rw [h5] at hx;cases hx
    simp [-List.map_set,-objBelow,-depV,objBelow,below];omega
   ·rw [e i e4 e5] at hx
    exact h.bel i x h1 hx
end Go.Dv
namespace Go.Dv
open Go Go.Sim Go.Proofs Go.Fsa
attribute [local simp] encI bitF autD b_neqB b_eqlB el_num set_num fz_num numD bitD el_bit set_bit fz_bit normF_strL
theorem w75t {a:Aut} (hv:a.valid) (hz:¬a.acc.length=0) {b cs k n:Nat} {canV:DV} {acc:List (List Int)} {H:DH} (hk:k≤60) (hn:n≤300) (hacc:acc.length≤n) (h:PH a b cs k n canV (a.tab k) acc H) :
  ∃ D3,callD Q 75 [intD a.st,.row (H.length+1) 0 0 0,.ref cs 0 0,.ref (b+3) 0 0,.ref (b+1) 0 0,.ref (b+5) 0 0,.ref b 0 0,.ref H.length 0 0] b (H++[.arr 1 [visF b cs H.length],.arr 1 []])=some (.tup [],D3) ∧
   D3[cs]? =some (.arr 1 [intD k])∧PH a b D3.length (k+1) n canV (a.tab k) (addW n acc [] (a.wds k a.st)) (D3++[.arr 1 [intD ((k+1:Nat):Int)]])∧∀ i,i<b→D3[i]? =H[i]?:=by
 have hst0:=hv.st0
 have hst1:=hv.st1
 obtain ⟨s,hs⟩:∃ s:Nat,a.st=s:=⟨a.st.toNat,by omega⟩
 have hib:=h.ib
 have hics:=h.ics
 have h1:=h.app (X:=[.arr 1 [visF b cs H.length],.arr 1 []]) (fun x hx=>by
  simp [-getElem?_pos,-List.map_set,-objBelow,-depV] at hx
  rcases hx with rfl | rfl
  ·simp [-getElem?_pos,-List.map_set,-objBelow,-depV,objBelow,below,belows,visF];omega
  ·rfl)
 have hV:=h1.vh (cv:=H.length) (by omega) (by simp [-getElem?_pos,-List.map_set,-objBelow,-depV])
 have hone:cellsD canV=[canV]:=by
  rcases h.can with ⟨rfl,_,_⟩ | ⟨rfl,_⟩<;>rfl
 rw [hs]
 obtain ⟨D3,q1,q2,q3,q4,q5⟩:=w75 hv hk hn (fun j hj=>⟨_,Aut.tab_get hj,by simp [-getElem?_pos,-List.map_set,-objBelow,-depV],fun s hs=>Aut.tab_row hs⟩) hone k s [] (.row (H.length+1) 0 0 0) acc _ (by omega) (by simp [-getElem?_pos,-List.map_set,-objBelow,-depV]) hacc hV (.row ⟨by omega,by omega,by omega⟩ (by simp [-getElem?_pos,-List.map_set,-objBelow,-depV]))
 have hl:=q2.hL
 simp [-getElem?_pos,-List.map_set,-objBelow,-depV] at hl
 refine ⟨D3,q1,q2.S,?_,fun i hi=>?_⟩
 ·have e:∀ i,i<D3.length→(D3++[DObj.arr 1 [intD ((k+1:Nat):Int)]])[i]? =D3[i]?:=fun i hi=>List.getElem?_append_left hi
  refine ⟨by simp [-getElem?_pos,-List.map_set,-objBelow,-depV];omega,by simp [-getElem?_pos,-List.map_set,-objBelow,-depV];omega,by rw [e _ (by omega)];exact q2.A,by rw [e _ (by omega)];exact q2.N,?_,by rw [e _ (by omega)];exact q2.C,?_,by simp [-getElem?_pos,-List.map_set,-objBelow,-depV],fun i x hi hx=>?_⟩
  ·obtain ⟨ov,g1,g2⟩:=q2.O
   refine ⟨ov,by rw [e _ (by omega)];exact g1,?_⟩
   unfold OutR at g2 ⊢
   rw [e _ (by omega)];exact g2
  ·have:=q2.can
   unfold CanR at this ⊢
   rw [e _ (by omega)];exact this
  ·rw [List.length_append]
   rcases Nat.lt_or_ge i D3.length with g | g
   ·rw [e i g] at hx
    rcases Nat.lt_or_ge i (H++[DObj.arr 1 [visF b cs H.length],.arr 1 []]).length with g2 | g2
    ·exact objBelow_le (by simp [-getElem?_pos,-List.map_set,-objBelow,-depV] at hl ⊢;omega) x (q2.bel i x hi g2 hx)
    ·exact objBelow_le (Nat.le_add_right _ _) x (q5 i x g2 hx)
   ·rw [List.getElem?_append_right g] at hx
    have:=List.mem_of_getElem? hx
    simp [-getElem?_pos,-List.map_set,-objBelow,-depV] at this
    subst this
    rfl
 ·rw [q4 i (by simp [-getElem?_pos,-List.map_set,-objBelow,-depV];omega) (by omega) (by omega) (fun e=>by have e:i=H.length+1:=e;omega),List.getElem?_append_left (by omega)]
theorem f74 {a:Aut} (hv:a.valid) {b cs k n:Nat} {canV:DV} {acc:List (List Int)} {X:DH} (h:PH a b cs (k+1) n canV (a.tab k) acc X) (hk:k<1000) {r:List Int} (hr:r∈a.nxt):FnB 74 [] [.ref (b+5) 0 0,.ref cs 0 0] X r (a.anyW k):=by
 have hib:=h.ib
 have hics:=h.ics
 refine ⟨rfl,by simp [-getElem?_pos,-List.map_set,-objBelow,-depV,belows,below];omega,fun x base hx=>?_⟩
 have hrow:=(hv.rows r hr).2 x hx
 have hone:oneD canV=true∧cellsD canV=[canV]:=by
  rcases h.can with ⟨rfl,_,_⟩ | ⟨rfl,_⟩<;>exact ⟨rfl,rfl⟩
 have:=w74 x k hk (a.tab k) _ (Aut.tab_get (Nat.le_refl k)) (by simp [-getElem?_pos,-List.map_set,-objBelow,-depV];omega) (b+4) (b+5) cs canV X h.C h.can h.S hone base
 rw [show (decide (0≤x)&&(((List.range a.acc.length).map fun s:Nat=>a.fulW k s)[x.toNat]?).getD false)=a.anyW k x by
  unfold Aut.anyW
  by_cases h0:0≤x
  ·rw [Aut.tab_row (by omega),Option.getD_some,Int.toNat_of_nonneg h0]
  ·simp [-getElem?_pos,-List.map_set,-objBelow,-depV,h0]] at this
 exact this
theorem w30 (a:Aut) (ha:a.nxt.length<1152921504606846976) (n most:Int) (hn:n≤300∨10000<n) (hm:most≤60∨1000<most) (base:Nat) (D:DH) :
  callD Q 30 [autD a,intD n,intD most] base D=some (.tup [.f (.lst ((listR a n most).1.map rowF)),intD (listR a n most).2],D):=by
 have h18:=fun bb D'=>w18 a ha bb D'
 simp only [autD,intD] at h18
 have r18:(Q.ann 18).raw=false:=by rw [ann18]
 rw [call_pure (fn:=Tryz.f30) (show Q.P.funcs[30]? =some Tryz.f30 from Tryz.func30) rfl ann30 rfl (by simp only [List.length_cons,List.length_nil];decide) (by kernel_rfl)]
 by_cases hv:a.valid
 case neg=>
  have hck:a.check=60:=by simp [-getElem?_pos,-List.map_set,-objBelow,-depV,Aut.check,hv]
  have e:listR a n most=([],60):=by unfold listR;rw [if_pos hv]
  rw [e]
  simp (maxSteps:=2000000) [-getElem?_pos,-List.map_set,-objBelow,-depV,h18,hck]
 have hck:a.check=0:=Aut.check_valid.2 hv
 by_cases hbad:n<0∨10000<n∨most<0∨1000<most
 ·have e:listR a n most=([],1):=by unfold listR;rw [if_neg (fun h=>h hv),if_pos hbad]
  rw [e]
  by_cases h1:n<0
  ·simp (maxSteps:=2000000) [-getElem?_pos,-List.map_set,-objBelow,-depV,h18,hck,h1]
  by_cases h2:10000<n
  ·simp (maxSteps:=2000000) [-getElem?_pos,-List.map_set,-objBelow,-depV,h18,hck,h1,h2]
  by_cases h3:most<0
  ·simp (maxSteps:=2000000) [-getElem?_pos,-List.map_set,-objBelow,-depV,h18,hck,h1,h2,h3]
  have h4:1000<most:=by omega
  simp (maxSteps:=2000000) [-getElem?_pos,-List.map_set,-objBelow,-depV,h18,hck,h1,h2,h3,h4]
 have e:listR a n most=(a.list n.toNat (most.toNat+1),0):=by unfold listR;rw [if_neg (fun h=>h hv),if_neg hbad]
 rw [e]
 obtain ⟨n,rfl⟩:∃ m:Nat,n=m:=⟨n.toNat,by omega⟩
 obtain ⟨q,rfl⟩:∃ m:Nat,most=m:=⟨most.toNat,by omega⟩
 simp only [Int.toNat_natCast]
 have hla:=hv.len
 by_cases hz:a.acc.length=0
 ·have e1:a.acc=[]:=List.eq_nil_of_length_eq_zero hz
  have e2:a.nxt=[]:=List.eq_nil_of_length_eq_zero (by omega)
  rw [Aut.list_none e1 e2]
  simp (maxSteps:=2000000) [-getElem?_pos,-List.map_set,-objBelow,-depV,h18,hck,show ¬10000<(n:Int) by omega,show ¬1000<(q:Int) by omega,show ¬(n:Int)<0 by omega,show ¬(q:Int)<0 by omega,hz]
 simp (maxSteps:=2000000) [-getElem?_pos,-List.map_set,-objBelow,-depV,h18,hck,show ¬10000<(n:Int) by omega,show ¬1000<(q:Int) by omega,show ¬(n:Int)<0 by omega,show ¬(q:Int)<0 by omega,hz]
 generalize hX:loopG _ _ _=X
 obtain ⟨tm,H,rfl,hPH,hpre,t8⟩:∃ (tm:Trie DV) (H:DH),X=some (.exit 0,⟨tm,H⟩)∧(∃ ov,H[D.length+3]? =some (.arr 1 [ov])∧OutR H D.length ov (a.list n (q+1)))∧(∀ i,i<D.length→H[i]? =D[i]?)∧tm.get 8=some (.ref (D.length+3) 0 0):=by
  rw [← hX]
  clear hX h18 r18
  generalize hs49:SD.mk _ _=sd49
  revert sd49
  refine wl (fun p:Nat×Nat×DH=>⟨((((((Trie.leaf.put 10 (.ref p.2.1 0 0)).put 9 (.ref (D.length+5) 0 0)).put 8 (.ref (D.length+3) 0 0)).put 4 (.ref (D.length+1) 0 0)).put 3 (.ref D.length 0 0)).put 2 (intD q)),p.2.2⟩) (fun p=>p.1≤q+1∧(∃ canV,PH a D.length p.2.1 p.1 n canV (a.tab (p.1-1)) (a.list n p.1) p.2.2)∧∀ i,i<D.length→p.2.2[i]? =D[i]?) (fun p=>q+1-p.1) ?_ (0,D.length+6,_) ⟨Nat.zero_le _,⟨.row (D.length+4) 0 1 1,?_⟩,fun i hi=>List.getElem?_append_left hi⟩
  rotate_left
  ·have hb8:∀ (X:DH) (i:Nat),(D++X)[D.length+i]? =X[i]?:=fun X i=>by rw [List.getElem?_append_right (by omega),Nat.add_sub_cancel_left]
   have hb0:∀ (X:DH),(D++X)[D.length]? =X[0]?:=fun X=>hb8 X 0
   refine ⟨by simp [-getElem?_pos,-List.map_set,-objBelow,-depV],by simp [-getElem?_pos,-List.map_set,-objBelow,-depV],by rw [hb0];rfl,by rw [hb8];rfl,⟨.row (D.length+2) 0 0 0,by rw [hb8];rfl,.inl ⟨rfl,rfl,by rw [hb8];rfl⟩⟩,by rw [hb8];rfl,.inl ⟨rfl,by simp [-getElem?_pos,-List.map_set,-objBelow,-depV,Aut.tab_len],by rw [hb8];show _=some (DObj.arr 1 ((a.tab 0).map bitsD));rw [Aut.tab0];rfl⟩,by rw [hb8];rfl,fun i x hi hx=>?_⟩
   rw [List.getElem?_append_right hi] at hx
   have:=List.mem_of_getElem? hx
   simp [-getElem?_pos,-List.map_set,-objBelow,-depV] at this
   rcases this with rfl | rfl | rfl | rfl | rfl | rfl | rfl<;>simp [-getElem?_pos,-List.map_set,-objBelow,-depV,objBelow,below,belows]
  rintro ⟨k,cs,H⟩ ⟨hk,⟨canV,hPH⟩,hpre⟩ ih
  simp only at hk hPH hpre ih
  rw [loopG_eq]
  obtain ⟨ov,hO1,hO2⟩:=hPH.O
  have hov:lenV H ov=some (a.list n k).length∧cellsD ov=[ov]:=by
   rcases hO2 with ⟨rfl,e2,h⟩ | ⟨rfl,h⟩
   ·simp [-getElem?_pos,-List.map_set,-objBelow,-depV,lenV,h,cellsD,e2]
   ·simp [-getElem?_pos,-List.map_set,-objBelow,-depV,lenV,h,cellsD]
  have hS:=hPH.S
  have hN:=hPH.N
  have hC:=hPH.C
  have hA:=hPH.A
  have hib:=hPH.ib
  simp only [intD] at hS hN
  by_cases hkq:k≤q
  case neg=>
   obtain rfl:k=q+1:=by omega
   simp (maxSteps:=2000000) [-getElem?_pos,-List.map_set,-objBelow,-depV,hS,show ¬(q:Int)+1≤q by omega]
   exact ⟨_,_,⟨rfl,rfl⟩,⟨ov,hO1,hO2⟩,hpre,by simp [-getElem?_pos,-List.map_set,-objBelow,-depV]⟩
  by_cases hfull:n≤(a.list n k).length
  ·simp (maxSteps:=2000000) [-getElem?_pos,-List.map_set,-objBelow,-depV,hS,hkq,hO1,hov.1,hov.2,hN,hfull,show ¬(a.list n k).length<n by omega]
   exact ⟨_,_,⟨rfl,rfl⟩,⟨ov,hO1,by rw [Aut.list_full hfull (by omega)];exact hO2⟩,hpre,by simp [-getElem?_pos,-List.map_set,-objBelow,-depV]⟩
  have hq60:q≤60:=by omega
  have hn300:n≤300:=by omega
  have hacc:=Aut.list_le (a:=a) (n:=n) (k:=k)
  have r75:(Q.ann 75).raw=true:=by rw [ann75]
  have kw:=wrap_succ (show k+1≤9223372036854775807 by omega)
  by_cases hk0:k=0
  ·subst hk0
   obtain ⟨D3,r1,r2,r3,r4⟩:=w75t hv hz (by omega) hn300 hacc hPH
   have hcsl:=ltOf r2
   have hD3l:D.length≤D3.length:=by have:=r3.ics;omega
   have ih':=ih (0+1,D3.length,D3++[DObj.arr 1 [intD ((0+1:Nat):Int)]]) ⟨by simp only;omega,⟨canV,r3⟩,fun i hi=>by
    show (D3++[DObj.arr 1 [intD ((0+1:Nat):Int)]])[i]? =_
    have:=r3.ib
    simp [-getElem?_pos,-List.map_set,-objBelow,-depV] at this
    rw [List.getElem?_append_left (by omega),r4 i hi,hpre i hi]⟩ (by simp only;omega)
   simp only [intD,visF] at r1 r2
   simp [-getElem?_pos,-List.map_set,-objBelow,-depV] at r1 r2
   simp (maxSteps:=2000000) [-getElem?_pos,-List.map_set,-objBelow,-depV] at ih'
   have gA:=fun X=>get_app (X:=X) hA
   have gS:=fun X=>get_app (X:=X) hS
   simp (maxSteps:=2000000) [-getElem?_pos,-List.map_set,-objBelow,-depV,hS,hkq,hO1,hov.1,hov.2,hN,show (a.list n 0).length<n by omega,gA,gS,r1,r2,r75,show ofV Value.nilFunc=rv .nilFunc from rfl,show oneD (rv .nilFunc)=true from rfl,show D.length≤H.length by omega,hD3l,hcsl]
   exact ih'
  obtain ⟨j,hj⟩:∃ j,j+1=k:=⟨k-1,by omega⟩
  have hPJ:PH a D.length cs (j+1) n canV (a.tab j) (a.list n k) H:=by
   rw [hj,show j=k-1 by omega];exact hPH
  obtain ⟨m,hm⟩:∃ m,m=a.acc.length:=⟨_,rfl⟩
  have hmost:=hv.most
  obtain ⟨bits,hbits⟩:∃ l,l=(List.range a.acc.length).map fun s:Nat=>a.fulW (j+1) s:=⟨_,rfl⟩
  have hbl:bits.length=m:=by rw [hbits,hm];simp [-getElem?_pos,-List.map_set,-objBelow,-depV]
  have gA:=fun X=>get_app (X:=X) hA
  have gS:=fun X=>get_app (X:=X) hS
  have r73:(Q.ann 73).raw=false:=by rw [ann73]
  have h73:=fun (bb:Nat) (W:List Bool) (r:List Int) (hr:r∈a.nxt)=>w73 r (by have:=(hv.rows r hr).1;have:=hv.hi;omega) 74 [] [.ref (D.length+5) 0 0,.ref cs 0 0] (a.anyW j) bb (H++[DObj.arr 1 (W.map bitD)]) (f74 hv (hPJ.app (X:=[DObj.arr 1 (W.map bitD)]) (fun x hx=>by
   simp [-getElem?_pos,-List.map_set,-objBelow,-depV] at hx
   subst hx
   simp [-getElem?_pos,-List.map_set,-objBelow,-depV,objBelow,List.all_eq_true,below])) (by omega) hr)
  simp (maxSteps:=2000000) [-getElem?_pos,-List.map_set,-objBelow,-depV,hS,hkq,hO1,hov.1,hov.2,hN,show (a.list n k).length<n by omega,gA,gS,hA,← hm,show m≤140737488355328 by omega,show m<9223372036854775808 by omega,show 0<k by omega]
  generalize hX:loopG _ _ _=X
  have gO:=fun X=>get_app (X:=X) hO1
  obtain ⟨tm,rfl,t2,t3,t4,t8,t9,t10,t11⟩:∃ (tm:Trie DV),X=some (.exit 2,⟨tm,H++[.arr 1 (bits.map bitD)]⟩)∧tm.get 2=some (intD q)∧tm.get 3=some (.ref D.length 0 0)∧tm.get 4=some (.ref (D.length+1) 0 0)∧tm.get 8=some (.ref (D.length+3) 0 0)∧tm.get 9=some (.ref (D.length+5) 0 0)∧tm.get 10=some (.ref cs 0 0)∧tm.get 11=some (.row H.length 0 m m):=by
   rw [← hX]
   clear hX ih
   have hrep:List.replicate m (DV.f (.raw (.bool false)))=(List.replicate m false).map bitD:=by rw [List.map_replicate];rfl
   simp only [hrep]
   generalize hs50:SD.mk _ _=sd50
   revert sd50
   refine wl (fun p:Nat×List Bool=>⟨(((((((((Trie.leaf.put 59 (intD p.1)).put 58 (intD m)).put 11 (.row H.length 0 m m)).put 10 (.ref cs 0 0)).put 9 (.ref (D.length+5) 0 0)).put 8 (.ref (D.length+3) 0 0)).put 4 (.ref (D.length+1) 0 0)).put 3 (.ref D.length 0 0)).put 2 (intD q)),H++[.arr 1 (p.2.map bitD)]⟩) (fun p=>p.1≤m∧p.2.length=m∧p.2.take p.1=bits.take p.1) (fun p=>m-p.1) ?_ (0,List.replicate m false) ⟨Nat.zero_le _,by simp [-getElem?_pos,-List.map_set,-objBelow,-depV],rfl⟩
   rintro ⟨i,W⟩ ⟨hi,hWl,hW⟩ ih
   simp only at hi hWl hW ih
   rw [loopG_eq]
   by_cases hlt:i<m
   case neg=>
    obtain rfl:i=m:=by omega
    rw [List.take_of_length_le (by omega),List.take_of_length_le (by omega)] at hW
    subst hW
    simp (maxSteps:=2000000) [-getElem?_pos,-List.map_set,-objBelow,-depV]
    done
   obtain ⟨r,hr⟩:=getOf (l:=a.nxt) (i:=i) (by omega)
   have hrm:=List.mem_of_getElem? hr
   have h73:=fun bb=>h73 bb W r hrm
   rw [Aut.any_row hv hr] at h73
   have hbi:bits[i]? =some (a.fulW (j+1) i):=by rw [hbits];exact Aut.tab_row (by omega)
   have ih':=ih (i+1,W.set i (a.fulW (j+1) i)) ⟨by simp only;omega,by simp only [List.length_set];exact hWl,by
    simp only
    rw [List.take_add_one,List.take_set_of_le (Nat.le_refl _),List.getElem?_set_self (by omega),hW,List.take_add_one,hbi]⟩ (by simp only;omega)
   have iw:=wrap_succ (show i+1≤9223372036854775807 by omega)
   simp only [rowD,rowF,boolD] at h73
   simp (maxSteps:=2000000) [-getElem?_pos,-List.map_set,-objBelow,-depV] at ih'
   obtain ⟨wi,hwi⟩:=getOf (l:=W) (i:=i) (by omega)
   simp (maxSteps:=2000000) [-getElem?_pos,-List.map_set,-objBelow,-depV,hlt,gA,hr,h73,r73,hWl,iw,hwi,show D.length≤H.length by omega]
   exact ih'
  have hfzb:∀ b X,frzL (frz b X 3) (bits.map bitD)=some (bits.map bitF,[]):=fun b X=>fz_bit
  have htkb:List.take m (bits.map bitD)=bits.map bitD:=List.take_of_length_le (by simp [-getElem?_pos,-List.map_set,-objBelow,-depV];omega)
  have hT:a.tab (j+1)=a.tab j++[bits]:=by rw [Aut.tab_succ,hbits]
  have hTl:(a.tab j).length=j+1:=Aut.tab_len
  have hP2:=(hPJ.tab (a.tab (j+1))).app (X:=[.dead,.arr 1 [bitsD bits]]) (fun x hx=>by
   simp [-getElem?_pos,-List.map_set,-objBelow,-depV] at hx
   rcases hx with rfl | rfl
   ·rfl
   ·simp [-getElem?_pos,-List.map_set,-objBelow,-depV,objBelow,bitsD,below])
  obtain ⟨D3,r1,r2,r3,r4⟩:=w75t hv hz (by omega) hn300 hacc hP2
  have hcsl:=ltOf r2
  have hD3l:D.length≤D3.length:=by have:=r3.ics;omega
  have hk1:k-1=j:=by omega
  have ih':=ih (k+1,D3.length,D3++[DObj.arr 1 [intD ((k+1:Nat):Int)]]) ⟨by simp only;omega,⟨.apl (D.length+4) (a.tab (j+1)).length,by
    simp only
    rw [show k+1-1=j+1 by omega,← hj]
    exact hj▸r3⟩,fun i hi=>by
   show (D3++[DObj.arr 1 [intD ((k+1:Nat):Int)]])[i]? =_
   rw [List.getElem?_append_left (by omega),r4 i hi,List.getElem?_append_left (by simp [-getElem?_pos,-List.map_set,-objBelow,-depV,tabH];omega)]
   unfold tabH
   rw [List.getElem?_set_ne (by omega),List.getElem?_set_ne (by omega),hpre i hi]⟩ (by simp only;omega)
  simp only [intD,visF,tabH,hT] at r1 r2
  have g5:=fun (y:DObj) (X:DH)=>get_app (X:=X) (show (H.set (D.length+4) y)[D.length+5]? =some (.arr 1 [canV]) by rw [List.getElem?_set_ne (by omega)];exact hC)
  have gA2:=fun (y z:DObj) (X:DH)=>get_app (X:=X) (show ((H.set (D.length+4) y).set (D.length+5) z)[D.length]? =some (.arr 4 [autD a]) by rw [List.getElem?_set_ne (by omega),List.getElem?_set_ne (by omega)];exact hA)
  have gS2:=fun (y z x0 x1 x2:DObj) (X:DH)=>(show ((H.set (D.length+4) y).set (D.length+5) z++x0::x1::x2::X)[H.length+2]? =some x2 by
   rw [List.getElem?_append_right (by simp [-getElem?_pos,-List.map_set,-objBelow,-depV])];simp [-getElem?_pos,-List.map_set,-objBelow,-depV])
  have gT2:=fun (y z x0 x1 x2 v:DObj) (X:DH)=>(show ((H.set (D.length+4) y).set (D.length+5) z++x0::x1::x2::X).set (H.length+2) v=(H.set (D.length+4) y).set (D.length+5) z++x0::x1::v::X by
   rw [List.set_append_right _ _ (by simp [-getElem?_pos,-List.map_set,-objBelow,-depV])];simp [-getElem?_pos,-List.map_set,-objBelow,-depV])
  have hb4:D.length+4<H.length:=by omega
  have hb5:D.length+5<H.length:=by omega
  have hb0:D.length≤H.length:=by omega
  have gC:=fun X=>get_app (X:=X) hC
  rcases hPJ.can with ⟨rfl,e4,c4⟩ | ⟨rfl,c4⟩
  ·obtain rfl:j=0:=by omega
   obtain rfl:k=1:=by omega
   simp [-getElem?_pos,-List.map_set,-objBelow,-depV,hTl,bitsD] at r1 r2
   simp (maxSteps:=2000000) [-getElem?_pos,-List.map_set,-objBelow,-depV] at ih'
   have g4:=fun X=>get_app (X:=X) c4
   simp (maxSteps:=2000000) [-getElem?_pos,-List.map_set,-objBelow,-depV,t2,t3,t4,t8,t9,t10,t11,gC,g4,g5,gA2,hfzb,hbl,htkb,hb0,hb4,hb5,e4,r1,r2,r75,show ofV Value.nilFunc=rv .nilFunc from rfl,show oneD (rv .nilFunc)=true from rfl,hD3l,hcsl,gS2,gT2,show D.length≤H.length+2 by omega]
   exact ih'
  ·have hkj:(j:Int)+1=(k:Int):=by omega
   simp [-getElem?_pos,-List.map_set,-objBelow,-depV,hTl,bitsD] at r1 r2
   rw [hkj] at r2
   simp (maxSteps:=2000000) [-getElem?_pos,-List.map_set,-objBelow,-depV] at ih'
   have g4:=fun X=>get_app (X:=X) c4
   simp (maxSteps:=2000000) [-getElem?_pos,-List.map_set,-objBelow,-depV,t2,t3,t4,t8,t9,t10,t11,gC,g4,g5,gA2,hfzb,hbl,htkb,hb0,hb4,hb5,hTl,r1,r2,r75,show ofV Value.nilFunc=rv .nilFunc from rfl,show oneD (rv .nilFunc)=true from rfl,hD3l,hcsl,show (j+1+1)*24≤1099511627776∧j+1≤1099511627775 by omega,show j≤1099511627774 by omega,kw,gS2,gT2,show D.length≤H.length+2 by omega]
   exact ih'
 obtain ⟨ov,g1,g2⟩:=hPH
 have hfz:∀ (l:List (List Int)) b D,frzL (frz b D 3) (l.map rowD)=some (l.map rowF,[]):=fun l b D=>fzL_map fun _=>rfl
 have htk:H.take D.length=D:=by
  refine List.ext_getElem? fun i=>?_
  rw [List.getElem?_take]
  split
  ·rename_i hi;exact hpre i hi
  ·rename_i hi;rw [List.getElem?_eq_none (by omega)]
 rcases g2 with ⟨rfl,e2,g2⟩ | ⟨rfl,g2⟩
 ·rw [e2]
  simp (maxSteps:=2000000) [-getElem?_pos,-List.map_set,-objBelow,-depV,g1,t8,g2,htk]
 ·simp (maxSteps:=2000000) [-getElem?_pos,-List.map_set,-objBelow,-depV,g1,t8,g2,hfz,htk]
  done
end Go.Dv
namespace Go.Fsa
end Go.Fsa
namespace Go.Dv
open Go Go.Sim Go.Proofs Go.Fsa
attribute [local simp] encI bitF autD b_neqB b_eqlB el_num set_num fz_num numD bitD el_bit set_bit fz_bit normF_strL
attribute [local simp] agO_g agW_t agW_f
attribute [local simp] eqD_agg eq1_int eq1_bool eq1_lst
theorem w28 (u v:List Int) (hu:u.length<1152921504606846976) (hv:v.length<1152921504606846976) (o1 o2 base:Nat) (D:DH) (h1:D[o1]? =some (.arr 1 [rowD u])) (h2:D[o2]? =some (.arr 1 [rowD v])):callD Q 28 [.row o1 0 1 1,.row o2 0 1 1] base D=some (boolD (decide (u=v)),D):=by
 rw [call_pure (fn:=Tryz.f28) (show Q.P.funcs[28]? =some Tryz.f28 from Tryz.func28) rfl ann28 rfl (by simp only [List.length_cons,List.length_nil];decide) (by kernel_rfl)]
 have gp:=gp28
 simp only [ann28,Tryz.f28,gpB_some,gpC_draw,gpC_reg,gpC_seq,gpC_cond,gpC_block,gpC_loop,gpC_range,gpC_skip,gpC_ret,gpC_exit,gpC_label,gpO_some,gpO_none,findN,Bool.and_eq_true,Bool.and_true,Bool.true_and,reduceIte,Nat.reduceEqDiff,true_and,and_true] at gp
 have h63:=fun bb D'=>w63 u v hu hv bb D'
 simp only [rowD,rowF,boolD] at h63
 have r63:(Q.ann 63).raw=false:=by rw [ann63]
 have l1:=ltOf h1
 have l2:=ltOf h2
 simp (maxSteps:=2000000) [-getElem?_pos,-List.map_set,-objBelow,-depV,gp,h1,h2,l1,l2]
 generalize hs52:SD.mk _ _=sd52
 revert sd52
 refine wl (fun i:Nat=>⟨((Trie.leaf.put 5 (intD i)).put 1 (.row o2 0 1 1)).put 0 (.row o1 0 1 1),D⟩) (fun i=>i≤1∧(i=1→u=v)) (fun i=>1-i) ?_ 0 ⟨Nat.zero_le _,fun h=>by omega⟩
 intro i ⟨hi,ht⟩ ih
 rw [loopG_eq]
 by_cases h0:i=0
 ·subst h0
  by_cases huv:u=v
  ·have ih':=ih 1 ⟨Nat.le_refl _,fun _=>huv⟩ (by omega)
   subst huv
   simp (maxSteps:=2000000) [-getElem?_pos,-List.map_set,-objBelow,-depV] at ih'
   simp [-getElem?_pos,-List.map_set,-objBelow,-depV] at h63
   simp (maxSteps:=2000000) [-getElem?_pos,-List.map_set,-objBelow,-depV,gp,h1,h2,l1,l2,h63,r63]
   exact ih'
  ·simp (maxSteps:=2000000) [-getElem?_pos,-List.map_set,-objBelow,-depV,gp,h1,h2,h63,r63,huv]
 ·obtain rfl:i=1:=by omega
  rw [decide_eq_true (ht rfl)]
  simp (maxSteps:=2000000) [-getElem?_pos,-List.map_set,-objBelow,-depV,gp,h1,h2]
end Go.Dv
set_option maxHeartbeats 2000000
namespace Go.Dv
open Go Go.Sim Go.Proofs Go.Fsa
attribute [local simp] bitF autD b_neqB b_eqlB bitD el_bit set_bit fz_bit
theorem w85 (a:Aut) (hv:a.valid) (base:Nat) (D:DH):callD Q 85 [autD a] base D=some (intD a.begin,D):=by
 rw [call_pure (fn:=Tryz.f85) (show Q.P.funcs[85]? =some Tryz.f85 from Tryz.func85) rfl ann85 rfl (by simp only [List.length_cons,List.length_nil];decide) (by kernel_rfl)]
 have hl:=hv.len
 by_cases h:a.acc.length=0
 ·simp (maxSteps:=2000000) [-getElem?_pos,-List.map_set,-objBelow,-depV,Aut.begin,h,hl,show a.nxt.length=0 by omega]
 ·simp (maxSteps:=2000000) [-getElem?_pos,-List.map_set,-objBelow,-depV,Aut.begin,h,hl,show a.nxt.length≠0 by omega]
theorem w114 (a:Aut) (s:Int) (hs:s<(a.acc.length:Nat)) (base:Nat) (D:DH):callD Q 114 [autD a,intD s] base D=some (boolD (a.accB s),D):=by
 rw [call_pure (fn:=Tryz.f114) (show Q.P.funcs[114]? =some Tryz.f114 from Tryz.func114) rfl ann114 rfl (by simp only [List.length_cons,List.length_nil];decide) (by kernel_rfl)]
 by_cases h:0≤s
 ·obtain ⟨n,rfl⟩:∃ n:Nat,s=n:=⟨s.toNat,by omega⟩
  obtain ⟨b,hb⟩:∃ b,a.acc[n]? =some b:=⟨_,List.getElem?_eq_getElem (by omega)⟩
  simp (maxSteps:=2000000) [-getElem?_pos,-List.map_set,-objBelow,-depV,hb,h,Aut.accB,show (0:Int)≤n by omega]
 ·simp (maxSteps:=2000000) [-getElem?_pos,-List.map_set,-objBelow,-depV,h,Aut.accB]
theorem w46n (x y:Bool) (base:Nat) (D:DH):callD Q 46 [intD 4,boolD x,boolD y] base D=some (boolD (x != y),D):=by
 rw [call_pure (fn:=Tryz.f46) (show Q.P.funcs[46]? =some Tryz.f46 from Tryz.func46) rfl ann46 rfl (by simp only [List.length_cons,List.length_nil];decide) (by kernel_rfl)]
 cases x<;>cases y<;>simp (maxSteps:=2000000) [-getElem?_pos,-List.map_set,-objBelow,-depV]
theorem w113 (a b:Aut) (hN:(a.nxt.length+1)*(b.nxt.length+1)≤100000) (p:Int×Int) (hp:domD a b p) (base:Nat) (D:DH) :
  callD Q 113 [autD a,autD b,intD p.1,intD p.2] base D=some (intD (keyP b.nxt.length p:Nat),D):=by
 rw [call_pure (fn:=Tryz.f113) (show Q.P.funcs[113]? =some Tryz.f113 from Tryz.func113) rfl ann113 rfl (by simp only [List.length_cons,List.length_nil];decide) (by kernel_rfl)]
 obtain ⟨e1,e2,e3⟩:=keyP_eq hp
 have hb:b.nxt.length+1≤100000:=Nat.le_trans (Nat.le_mul_of_pos_left _ (by omega)) hN
 have ha:a.nxt.length+1≤100000:=Nat.le_trans (Nat.le_mul_of_pos_right _ (by omega)) hN
 have hd:=hp
 unfold domD Aut.dom at hd
 have f1:wrapF .i64 (p.1+1)=p.1+1:=wrap_in (by omega) (by omega)
 have f2:wrapF .i64 ((b.nxt.length:Int)+1)=(b.nxt.length:Int)+1:=wrap_in (by omega) (by omega)
 have e0:((b.nxt.length+1:Nat):Int)=(b.nxt.length:Int)+1:=by omega
 rw [e0] at e1 e3
 have f3:wrapF .i64 ((p.1+1)*((b.nxt.length:Int)+1))=(p.1+1)*((b.nxt.length:Int)+1):=wrap_in (by omega) (by omega)
 have f4:wrapF .i64 ((p.1+1)*((b.nxt.length:Int)+1)+p.2)=(p.1+1)*((b.nxt.length:Int)+1)+p.2:=wrap_in (by omega) (by omega)
 have f5:wrapF .i64 ((p.1+1)*((b.nxt.length:Int)+1)+p.2+1)=((keyP b.nxt.length p:Nat):Int):=by rw [e1];exact wrap_in (by omega) (by omega)
 simp (maxSteps:=2000000) [-getElem?_pos,-List.map_set,-objBelow,-depV,f1,f2,f3,f4,f5]
theorem w28l (l m:List (List Int)) (hl:l.length<1152921504606846976) (hwl:∀ w∈l,w.length<1152921504606846976) (hwm:∀ w∈m,w.length<1152921504606846976) (base:Nat) (D:DH) :
  callD Q 28 [.f (.lst (l.map rowF)),.f (.lst (m.map rowF))] base D=some (boolD (decide (l=m)),D):=by
 rw [call_pure (fn:=Tryz.f28) (show Q.P.funcs[28]? =some Tryz.f28 from Tryz.func28) rfl ann28 rfl (by simp only [List.length_cons,List.length_nil];decide) (by kernel_rfl)]
 have gp:=gp28
 simp only [ann28,Tryz.f28,gpB_some,gpC_draw,gpC_reg,gpC_seq,gpC_cond,gpC_block,gpC_loop,gpC_range,gpC_skip,gpC_ret,gpC_exit,gpC_label,gpO_some,gpO_none,findN,Bool.and_eq_true,Bool.and_true,Bool.true_and,reduceIte,Nat.reduceEqDiff,true_and,and_true] at gp
 by_cases hlm:l.length=m.length
 case neg=>
  rw [decide_eq_false (fun h=>hlm (by rw [h]))]
  simp (maxSteps:=2000000) [-getElem?_pos,-List.map_set,-objBelow,-depV,gp,hlm]
 simp (maxSteps:=2000000) [-getElem?_pos,-List.map_set,-objBelow,-depV,gp,hlm]
 generalize hs53:SD.mk _ _=sd53
 revert sd53
 refine wl (fun i:Nat=>⟨((Trie.leaf.put 5 (intD i)).put 1 (.f (.lst (m.map rowF)))).put 0 (.f (.lst (l.map rowF))),D⟩) (fun i=>i≤l.length∧l.take i=m.take i) (fun i=>l.length-i) ?_ 0 ⟨Nat.zero_le _,rfl⟩
 intro i ⟨hi,ht⟩ ih
 rw [loopG_eq]
 by_cases hlt:i<m.length
 case neg=>
  rw [List.take_of_length_le (by omega),List.take_of_length_le (by omega)] at ht
  rw [decide_eq_true ht]
  simp (maxSteps:=2000000) [-getElem?_pos,-List.map_set,-objBelow,-depV,gp,hlt,hlm]
 obtain ⟨u,hu⟩:=getOf (l:=l) (i:=i) (by omega)
 obtain ⟨v,hv⟩:=getOf (l:=m) (i:=i) hlt
 have h63:=fun bb D'=>w63 u v (hwl u (List.mem_of_getElem? hu)) (hwm v (List.mem_of_getElem? hv)) bb D'
 simp only [rowD,rowF,boolD] at h63
 have hww:=wrap_succ (show i+1≤9223372036854775807 by omega)
 have r63:(Q.ann 63).raw=false:=by rw [ann63]
 by_cases huv:u=v
 ·have ih':=ih (i+1) ⟨by omega,by rw [List.take_add_one,List.take_add_one,hu,hv,ht,huv]⟩ (by omega)
  subst huv
  simp (maxSteps:=2000000) [-getElem?_pos,-List.map_set,-objBelow,-depV] at ih'
  simp [-getElem?_pos,-List.map_set,-objBelow,-depV] at h63
  simp (maxSteps:=2000000) [-getElem?_pos,-List.map_set,-objBelow,-depV,gp,hlt,hlm,hu,hv,h63,r63,hww,rowF]
  exact ih'
 ·have hne:l≠m:=fun h=>huv (by rw [h,hv] at hu;exact (Option.some.inj hu).symm)
  rw [decide_eq_false hne]
  simp (maxSteps:=2000000) [-getElem?_pos,-List.map_set,-objBelow,-depV,gp,hlt,hlm,hu,hv,h63,r63,huv,rowF]
end Go.Dv
namespace Go.Dv
open Go Go.Sim Go.Proofs Go.Fsa
attribute [local simp] eqD_agg eq1_int eq1_bool eq1_lst
attribute [local simp] bitF autD b_neqB b_eqlB el_num set_num fz_num numD bitD el_bit set_bit fz_bit
theorem c85 {sa ta:Int} {aa:List Bool} {na:List (List Int)} {base:Nat} {D:DH} (hv:Aut.valid ⟨sa,ta,aa,na⟩):callD Q 85 [.agg [.f (.raw (.int .i64 sa)),.f (.raw (.int .i64 ta)),.f (.lst (aa.map bitF)),.f (.lst (na.map rowF))]] base D=some (.f (.raw (.int .i64 (Aut.begin ⟨sa,ta,aa,na⟩))),D):=w85 ⟨sa,ta,aa,na⟩ hv base D
theorem c114 {sa ta:Int} {aa:List Bool} {na:List (List Int)} {s:Int} {base:Nat} {D:DH} (hs:s<(aa.length:Nat)):callD Q 114 [.agg [.f (.raw (.int .i64 sa)),.f (.raw (.int .i64 ta)),.f (.lst (aa.map bitF)),.f (.lst (na.map rowF))],.f (.raw (.int .i64 s))] base D=some (.f (.raw (.bool (Aut.accB ⟨sa,ta,aa,na⟩ s))),D):=w114 ⟨sa,ta,aa,na⟩ s hs base D
theorem c46 {x y:Bool} {base:Nat} {D:DH}:callD Q 46 [.f (.raw (.int .i64 4)),.f (.raw (.bool x)),.f (.raw (.bool y))] base D=some (.f (.raw (.bool (x != y))),D):=w46n x y base D
theorem c113 {sa ta sb tb:Int} {aa ab:List Bool} {na nb:List (List Int)} {x y:Int} {base:Nat} {D:DH} (hN:(na.length+1)*(nb.length+1)≤100000) (hp:domD ⟨sa,ta,aa,na⟩ ⟨sb,tb,ab,nb⟩ (x,y)):callD Q 113 [.agg [.f (.raw (.int .i64 sa)),.f (.raw (.int .i64 ta)),.f (.lst (aa.map bitF)),.f (.lst (na.map rowF))],.agg [.f (.raw (.int .i64 sb)),.f (.raw (.int .i64 tb)),.f (.lst (ab.map bitF)),.f (.lst (nb.map rowF))],.f (.raw (.int .i64 x)),.f (.raw (.int .i64 y))] base D=some (.f (.raw (.int .i64 (keyP nb.length (x,y):Nat))),D):=w113 ⟨sa,ta,aa,na⟩ ⟨sb,tb,ab,nb⟩ hN (x,y) hp base D
def prodD (sy:Int) (A:List Bool) (rows:List (List Int)) (fi bs:List Int):DV:=.agg [intD sy,intD 0,.f (.lst (A.map bitF)),.f (.lst (rows.map rowF)),rowD fi,rowD bs,boolD false]
theorem w67 (a b:Aut) (ha:a.valid) (hb:b.valid) (hs:a.sy=b.sy) (hM:(a.nxt.length+1)*(b.nxt.length+1)≤100000) (F:Nat) (qs:List (Int×Int)) (rows:List (List Int)) (hex:exR id (a.succD b) 100000 F 0 [(a.begin,b.begin)]=some (qs,rows)) (base:Nat) (D:DH) :
  ∃ fi bs,callD Q 67 [autD a,autD b,intD 4] base D=some (prodD a.sy (qs.map fun p=>a.accB p.1 != b.accB p.2) rows fi bs,D)∧fi[0]? =some (-1)∧FBC (a.succD b) qs.length 0 qs fi bs:=by
 rw [call_pure (fn:=Tryz.f67) (show Q.P.funcs[67]? =some Tryz.f67 from Tryz.func67) rfl ann67 rfl (by simp only [List.length_cons,List.length_nil];decide) (by kernel_rfl)]
 have gp:=gp67
 simp only [ann67,Tryz.f67,gpB_some,gpC_draw,gpC_reg,gpC_seq,gpC_cond,gpC_block,gpC_loop,gpC_range,gpC_skip,gpC_ret,gpC_exit,gpC_label,gpO_some,gpO_none,findN,Bool.and_eq_true,Bool.and_true,Bool.true_and,reduceIte,Nat.reduceEqDiff,true_and,and_true] at gp
 have hdb:=begin_domD ha hb
 have hdom:∀ s,domD a b s→∀ t,some t∈a.succD b s→domD a b t:=fun s hs t ht=>domD_succ ha hb hs ht
 have hlenS:=fun p=>succD_len (a:=a) (b:=b) (p:=p)
 have hsg:=fun p k h=>succD_at (a:=a) (b:=b) (p:=p) (k:=k) h
 have hdl:=fun q h1 h2=>domD_len (a:=a) (b:=b) (q:=q) h1 h2
 have hkl:=fun p h=>(keyP_eq (a:=a) (b:=b) (p:=p) h).2.1
 have hki:=fun p p' h h' e=>keyP_inj (a:=a) (b:=b) (p:=p) (p':=p') h h' e
 have hla:=ha.len
 have hlb:=hb.len
 have hlo:=ha.lo
 have hhi:=ha.hi
 obtain ⟨M,hMe⟩:∃ M,M=(a.nxt.length+1)*(b.nxt.length+1):=⟨_,rfl⟩
 have na1:a.nxt.length+1≤100000:=Nat.le_trans (Nat.le_mul_of_pos_right _ (by omega)) hM
 have nb1:b.nxt.length+1≤100000:=Nat.le_trans (Nat.le_mul_of_pos_left _ (by omega)) hM
 have f1:wrapF .i64 ((a.nxt.length:Int)+1)=(a.nxt.length:Int)+1:=wrap_in (by omega) (by omega)
 have f2:wrapF .i64 ((b.nxt.length:Int)+1)=(b.nxt.length:Int)+1:=wrap_in (by omega) (by omega)
 have f3:wrapF .i64 (((a.nxt.length:Int)+1)*((b.nxt.length:Int)+1))=(M:Nat):=by
  have e:((a.nxt.length:Int)+1)*((b.nxt.length:Int)+1)=(M:Nat):=by rw [hMe,Int.natCast_mul];rfl
  rw [e];exact wrap_in (by omega) (by omega)
 rw [← hMe] at hM hdl hkl
 obtain ⟨sa,ta,aa,na⟩:=a
 obtain ⟨sb,tb,ab,nb⟩:=b
 simp only at hs hla hlb hlo hhi hMe na1 nb1 f1 f2 f3 hkl hki hlenS hsg
 subst hs
 obtain ⟨sy,rfl⟩:∃ s:Nat,sa=s:=⟨sa.toNat,by omega⟩
 simp only [Int.toNat_natCast] at hlenS
 have h113:∀ {x y:Int} {base:Nat} {D:DH},domD ⟨sy,ta,aa,na⟩ ⟨sy,tb,ab,nb⟩ (x,y)→callD Q 113 [.agg [.f (.raw (.int .i64 sy)),.f (.raw (.int .i64 ta)),.f (.lst (aa.map bitF)),.f (.lst (na.map rowF))],.agg [.f (.raw (.int .i64 sy)),.f (.raw (.int .i64 tb)),.f (.lst (ab.map bitF)),.f (.lst (nb.map rowF))],.f (.raw (.int .i64 x)),.f (.raw (.int .i64 y))] base D=some (.f (.raw (.int .i64 (keyP nb.length (x,y):Nat))),D):=fun h=>c113 (by rw [← hMe];exact hM) h
 obtain ⟨K,hK⟩:∃ K,K=keyP nb.length:=⟨_,rfl⟩
 rw [← hK] at hkl hki h113
 have hb0:=hex
 obtain ⟨x0,hx0⟩:∃ x,x=Aut.begin ⟨sy,ta,aa,na⟩:=⟨_,rfl⟩
 obtain ⟨y0,hy0⟩:∃ x,x=Aut.begin ⟨sy,tb,ab,nb⟩:=⟨_,rfl⟩
 rw [← hx0,← hy0] at hex hdb
 have h85a:∀ D',callD Q 85 [.agg [.f (.raw (.int .i64 sy)),.f (.raw (.int .i64 ta)),.f (.lst (aa.map bitF)),.f (.lst (na.map rowF))]] D.length D'=some (.f (.raw (.int .i64 x0)),D'):=fun D'=>by rw [hx0];exact c85 ha
 have h85b:∀ D',callD Q 85 [.agg [.f (.raw (.int .i64 sy)),.f (.raw (.int .i64 tb)),.f (.lst (ab.map bitF)),.f (.lst (nb.map rowF))]] D.length D'=some (.f (.raw (.int .i64 y0)),D'):=fun D'=>by rw [hy0];exact c85 hb
 have h113s:=fun D'=>h113 (base:=D.length) (D:=D') hdb
 have hk0:=hkl _ hdb
 obtain ⟨succ,hsu⟩:∃ f,f=(Aut.succD ⟨sy,ta,aa,na⟩ ⟨sy,tb,ab,nb⟩):=⟨_,rfl⟩
 rw [← hsu] at hex hdom hlenS hsg
 obtain ⟨ac,hac⟩:∃ f,f=(fun p:Int×Int=>Aut.accB ⟨sy,ta,aa,na⟩ p.1 != Aut.accB ⟨sy,tb,ab,nb⟩ p.2):=⟨_,rfl⟩
 rw [← hac,← hsu]
 have r46:(Q.ann 46).raw=false:=by rw [ann46]
 have r58:(Q.ann 58).raw=false:=by rw [ann58]
 have r113:(Q.ann 113).raw=false:=by rw [ann113]
 have r114:(Q.ann 114).raw=false:=by rw [ann114]
 simp (maxSteps:=2000000) [-getElem?_pos,-List.map_set,-objBelow,-depV,gp,r113,h85a,h85b,f1,f2,f3,h113s,show M*8≤140737488355328 by omega,show M<9223372036854775808 by omega]
 obtain ⟨N0,hN0⟩:∃ N:List Int,N=List.replicate M 0:=⟨_,rfl⟩
 have hNQ:NumQ K (domD ⟨sy,ta,aa,na⟩ ⟨sy,tb,ab,nb⟩) M (N0.set (K (x0,y0)) 1) [(x0,y0)]:=by rw [hN0];exact .one hki hkl hdb
 have hNl:N0.length=M:=by rw [hN0];simp [-getElem?_pos,-List.map_set,-objBelow,-depV]
 obtain ⟨n0,hn0⟩:∃ x,N0[K (x0,y0)]? =some x:=⟨_,List.getElem?_eq_getElem (by omega)⟩
 rw [rep_num,← hN0]
 simp (maxSteps:=2000000) [-getElem?_pos,-List.map_set,-objBelow,-depV,gp,r113,hn0,hNl,hk0]
 obtain ⟨N1,hN1⟩:∃ N,N=N0.set (K (x0,y0)) 1:=⟨_,rfl⟩
 rw [← hN1] at hNQ ⊢
 generalize hX:loopG _ _ _=X
 obtain ⟨tm,xs,ys,N,fi,bs,rfl,t6,t7,hbs',hf0,hfbl⟩:∃ (tm:Trie DV) (xs ys N fi bs:List Int),X=some (.exit 0,⟨tm,D++[.arr 4 [autD ⟨sy,ta,aa,na⟩],.arr 4 [autD ⟨sy,tb,ab,nb⟩],.arr 7 [.agg [numD 0,numD 0,nilS,nilS,nilS,nilS,boolD false]],.arr 7 [.agg [intD sy,numD 0,.apl (D.length+9) qs.length,.apl (D.length+10) qs.length,qV (D.length+7) qs.length,qV (D.length+8) qs.length,boolD false]],.arr 1 (N.map numD),qO 3 1 (xs.map numD),qO 3 1 (ys.map numD),qO 3 1 (fi.map numD),qO 3 1 (bs.map numD),.app 4 1 ((qs.map ac).map bitD),.app 26 1 (rows.map rowD)]⟩)∧tm.get 6=some (.ref (D.length+2) 0 0)∧tm.get 7=some (.ref (D.length+3) 0 0)∧bs.length=qs.length∧fi[0]? =some (-1)∧FBC succ qs.length 0 qs fi bs:=by
  rw [← hX]
  clear hX
  generalize hs54:SD.mk _ _=sd54
  revert sd54
  refine wl (fun p:Nat×Nat×List (Int×Int)×List Int×List Int×List Int×List Int×List Int×List (List Int)×List Bool=>⟨(((((((((Trie.leaf.put 11 (intD p.2.1)).put 10 (qV (D.length+6) p.2.2.1.length)).put 9 (qV (D.length+5) p.2.2.1.length)).put 8 (.row (D.length+4) 0 M M)).put 7 (.ref (D.length+3) 0 0)).put 6 (.ref (D.length+2) 0 0)).put 4 (.ref (D.length+1) 0 0)).put 3 (.ref D.length 0 0)).put 2 (intD 4)),D++[.arr 4 [autD ⟨sy,ta,aa,na⟩],.arr 4 [autD ⟨sy,tb,ab,nb⟩],.arr 7 [.agg [numD 0,numD 0,nilS,nilS,nilS,nilS,boolD false]],.arr 7 [.agg [intD sy,numD 0,.apl (D.length+9) p.2.1,.apl (D.length+10) p.2.1,qV (D.length+7) p.2.2.1.length,qV (D.length+8) p.2.2.1.length,boolD false]],.arr 1 (p.2.2.2.2.2.1.map numD),qO 3 1 (p.2.2.2.1.map numD),qO 3 1 (p.2.2.2.2.1.map numD),qO 3 1 (p.2.2.2.2.2.2.1.map numD),qO 3 1 (p.2.2.2.2.2.2.2.1.map numD),.app 4 1 (p.2.2.2.2.2.2.2.2.2.map bitD),.app 26 1 (p.2.2.2.2.2.2.2.2.1.map rowD)]⟩)
   (fun p=>p.2.1≤p.2.2.1.length∧1≤p.2.2.1.length∧p.2.2.2.1=p.2.2.1.map (·.1)∧p.2.2.2.2.1=p.2.2.1.map (·.2)∧NumQ K (domD ⟨sy,ta,aa,na⟩ ⟨sy,tb,ab,nb⟩) M p.2.2.2.2.2.1 p.2.2.1∧(FBC succ p.2.1 0 p.2.2.1 p.2.2.2.2.2.2.1 p.2.2.2.2.2.2.2.1∧p.2.2.2.2.2.2.1[0]? =some (-1))∧p.2.2.2.2.2.2.2.1.length=p.2.2.1.length∧p.2.2.2.2.2.2.2.2.1.length=p.2.1∧p.2.2.2.2.2.2.2.2.2=(p.2.2.1.take p.2.1).map ac∧p.2.2.1.Nodup∧(∀ t∈p.2.2.1,domD ⟨sy,ta,aa,na⟩ ⟨sy,tb,ab,nb⟩ t)∧∃ R,exR id succ 100000 p.1 p.2.1 p.2.2.1=some (qs,R)∧p.2.2.2.2.2.2.2.2.1++R=rows)
   (fun p=>p.1) ?_ (F,0,[(x0,y0)],[x0],[y0],N1,[-1],[-1],[],[]) ⟨Nat.zero_le _,Nat.le_refl _,rfl,rfl,hNQ,⟨FBC.one,rfl⟩,rfl,rfl,rfl,by simp [-getElem?_pos,-List.map_set,-objBelow,-depV],fun t ht=>by rw [List.mem_singleton] at ht;rw [ht];exact hdb,rows,hex,rfl⟩
  clear hex hNQ hN1 hn0 hN0
  rintro ⟨F,i,q,xs,ys,N,fi,bs,R0,A⟩ ⟨hi,hq1,hxs,hys,hNQ,⟨hfb,hf0⟩,hbs,hR0,hA,hnd,hdq,R,hex,hR⟩ ih
  have hfi:=hfb.lf
  simp only at hi hq1 hxs hys hNQ hfb hf0 hfi hbs hR0 hA hnd hdq hex hR ih
  have hqM:=hdl q hdq hnd
  rw [loopG_eq]
  obtain ⟨F,rfl⟩:∃ F',F=F'+1:=by
   cases F with
   | zero=>simp [-getElem?_pos,-List.map_set,-objBelow,-depV,exR] at hex
   | succ F=>exact ⟨F,rfl⟩
  simp only [exR] at hex
  have hxl:xs.length=q.length:=by rw [hxs];simp [-getElem?_pos,-List.map_set,-objBelow,-depV]
  have hyl:ys.length=q.length:=by rw [hys];simp [-getElem?_pos,-List.map_set,-objBelow,-depV]
  by_cases hlt:i<q.length
  ·obtain ⟨t,ht⟩:∃ t,q[i]? =some t:=⟨_,List.getElem?_eq_getElem hlt⟩
   have htd:=hdq t (List.mem_of_getElem? ht)
   have htx:xs[i]? =some t.1:=by rw [hxs,List.getElem?_map,ht];rfl
   have hty:ys[i]? =some t.2:=by rw [hys,List.getElem?_map,ht];rfl
   have htl:t.1<(na.length:Nat)∧t.2<(nb.length:Nat):=⟨htd.1.2,htd.2.2⟩
   rw [ht] at hex
   simp only at hex
   split at hex
   ·cases hex
   rename_i hqm'
   obtain ⟨⟨qf,R2⟩,hex2,heq⟩:=Option.map_eq_some_iff.1 hex
   simp only [Prod.mk.injEq] at heq
   obtain ⟨rfl,rfl⟩:=heq
   have hAl:A.length=i:=by rw [hA];simp [-getElem?_pos,-List.map_set,-objBelow,-depV];omega
   obtain ⟨bt,hbt⟩:∃ x,x=ac t:=⟨_,rfl⟩
   have hbt':(Aut.accB ⟨sy,ta,aa,na⟩ t.1 != Aut.accB ⟨sy,tb,ab,nb⟩ t.2)=bt:=by rw [hbt,hac]
   have h1a:∀ D',callD Q 114 [.agg [.f (.raw (.int .i64 sy)),.f (.raw (.int .i64 ta)),.f (.lst (aa.map bitF)),.f (.lst (na.map rowF))],.f (.raw (.int .i64 t.1))] D.length D'=some (.f (.raw (.bool (Aut.accB ⟨sy,ta,aa,na⟩ t.1))),D'):=fun D'=>c114 (by omega)
   have h1b:∀ D',callD Q 114 [.agg [.f (.raw (.int .i64 sy)),.f (.raw (.int .i64 tb)),.f (.lst (ab.map bitF)),.f (.lst (nb.map rowF))],.f (.raw (.int .i64 t.2))] D.length D'=some (.f (.raw (.bool (Aut.accB ⟨sy,tb,ab,nb⟩ t.2))),D'):=fun D'=>c114 (by omega)
   obtain ⟨q',hq'⟩:∃ q',q'=addS id q (succ t):=⟨_,rfl⟩
   simp (maxSteps:=2000000) [-getElem?_pos,-List.map_set,-objBelow,-depV,gp,hlt,htx,hty,hxl,hyl,h1a,h1b,r114,r46,c46,hbt',hAl,hR0,show ¬(100000:Int)<(q.length:Int) by omega,show i+1≤1099511627776 by omega,show i≤1099511627775 by omega,show sy*8≤140737488355328 by omega,show sy<9223372036854775808 by omega]
   have hre:succ t=(succ t).take sy:=(List.take_of_length_le (by rw [hlenS];exact Nat.le_refl _)).symm
   rw [← hq'] at hex2 hqm'
   have hpre:∀ k,addS id q ((succ t).take k) <+: q':=fun k=>by
    rw [hq']
    conv=>rhs;rw [← List.take_append_drop k (succ t),addS_app]
    exact addS_prefix
   have hq'd:∀ s∈q',domD ⟨sy,ta,aa,na⟩ ⟨sy,tb,ab,nb⟩ s:=by rw [hq'];exact addS_dom hdq (hdom t htd)
   have hq'n:q'.Nodup:=by
    have:=addS_nodup (key:=(id:Int×Int→Int×Int)) (l:=succ t) (qs:=q) (by simpa [-getElem?_pos,-List.map_set,-objBelow,-depV] using hnd)
    rw [← hq'] at this;simpa [-getElem?_pos,-List.map_set,-objBelow,-depV] using this
   have hq'M:=hdl q' hq'd hq'n
   generalize hX:loopG _ _ _=X
   obtain ⟨tm,xs',ys',N',fi',bs',rfl,⟨hxs',hys',hNQ',hfb',hf0',hbs'⟩,t2,t3,t4,t6,t7,t8,t9,t10,t11,t12⟩:∃ (tm:Trie DV) (xs' ys' N' fi' bs':List Int),X=some (.exit 2,⟨tm,D++[.arr 4 [autD ⟨sy,ta,aa,na⟩],.arr 4 [autD ⟨sy,tb,ab,nb⟩],.arr 7 [.agg [numD 0,numD 0,nilS,nilS,nilS,nilS,boolD false]],.arr 7 [.agg [intD sy,numD 0,.apl (D.length+9) (i+1),.apl (D.length+10) i,qV (D.length+7) q'.length,qV (D.length+8) q'.length,boolD false]],.arr 1 (N'.map numD),qO 3 1 (xs'.map numD),qO 3 1 (ys'.map numD),qO 3 1 (fi'.map numD),qO 3 1 (bs'.map numD),.app 4 1 (A.map bitD++[bitD bt]),.app 26 1 (R0.map rowD),.arr 1 [bitD bt],.arr 1 ((rowS id q (succ t)).map numD)]⟩)∧(xs'=q'.map (·.1)∧ys'=q'.map (·.2)∧NumQ K (domD ⟨sy,ta,aa,na⟩ ⟨sy,tb,ab,nb⟩) M N' q'∧FBC succ i sy q' fi' bs'∧fi'[0]? =some (-1)∧bs'.length=q'.length)∧tm.get 2=some (intD 4)∧tm.get 3=some (.ref D.length 0 0)∧tm.get 4=some (.ref (D.length+1) 0 0)∧tm.get 6=some (.ref (D.length+2) 0 0)∧tm.get 7=some (.ref (D.length+3) 0 0)∧tm.get 8=some (.row (D.length+4) 0 M M)∧tm.get 9=some (qV (D.length+5) q'.length)∧tm.get 10=some (qV (D.length+6) q'.length)∧tm.get 11=some (intD i)∧tm.get 12=some (.row (D.length+12) 0 sy sy):=by
    rw [← hX]
    clear hX ih hex2
    obtain ⟨W0,hW0⟩:∃ L:List Int,L=List.replicate sy 0:=⟨_,rfl⟩
    rw [rep_num,← hW0]
    generalize hs55:SD.mk _ _=sd55
    revert sd55
    refine wl (fun p:Nat×List (Int×Int)×List Int×List Int×List Int×List Int×List Int×List Int=>⟨(((((((((((Trie.leaf.put 13 (intD p.1)).put 12 (.row (D.length+12) 0 sy sy)).put 11 (intD i)).put 10 (qV (D.length+6) p.2.1.length)).put 9 (qV (D.length+5) p.2.1.length)).put 8 (.row (D.length+4) 0 M M)).put 7 (.ref (D.length+3) 0 0)).put 6 (.ref (D.length+2) 0 0)).put 4 (.ref (D.length+1) 0 0)).put 3 (.ref D.length 0 0)).put 2 (intD 4)),D++[.arr 4 [autD ⟨sy,ta,aa,na⟩],.arr 4 [autD ⟨sy,tb,ab,nb⟩],.arr 7 [.agg [numD 0,numD 0,nilS,nilS,nilS,nilS,boolD false]],.arr 7 [.agg [intD sy,numD 0,.apl (D.length+9) (i+1),.apl (D.length+10) i,qV (D.length+7) p.2.1.length,qV (D.length+8) p.2.1.length,boolD false]],.arr 1 (p.2.2.2.2.1.map numD),qO 3 1 (p.2.2.1.map numD),qO 3 1 (p.2.2.2.1.map numD),qO 3 1 (p.2.2.2.2.2.1.map numD),qO 3 1 (p.2.2.2.2.2.2.1.map numD),.app 4 1 (A.map bitD++[bitD bt]),.app 26 1 (R0.map rowD),.arr 1 [bitD bt],.arr 1 (p.2.2.2.2.2.2.2.map numD)]⟩)
     (fun p=>p.1≤sy∧p.2.1=addS id q ((succ t).take p.1)∧p.2.2.1=p.2.1.map (·.1)∧p.2.2.2.1=p.2.1.map (·.2)∧NumQ K (domD ⟨sy,ta,aa,na⟩ ⟨sy,tb,ab,nb⟩) M p.2.2.2.2.1 p.2.1∧(FBC succ i p.1 p.2.1 p.2.2.2.2.2.1 p.2.2.2.2.2.2.1∧p.2.2.2.2.2.1[0]? =some (-1))∧p.2.2.2.2.2.2.1.length=p.2.1.length∧p.2.2.2.2.2.2.2.length=sy∧p.2.2.2.2.2.2.2.take p.1=rowS id q ((succ t).take p.1)) (fun p=>sy-p.1) ?_ (0,q,xs,ys,N,fi,bs,W0) ⟨Nat.zero_le _,rfl,hxs,hys,hNQ,⟨hfb,hf0⟩,hbs,by simp [-getElem?_pos,-List.map_set,-objBelow,-depV,hW0],rfl⟩
    clear hfi hbs hfb hf0 hNQ hxs hys hxl hyl htx hty
    rintro ⟨k,q1,xs,ys,N,fi,bs,W⟩ ⟨hk,hq1',hxs,hys,hNQ,⟨hfb,hf0⟩,hbs,hWl,hW⟩ ihK
    have hfi:=hfb.lf
    simp only at hk hq1' hxs hys hNQ hfb hf0 hfi hbs hWl hW ihK
    have hxl:xs.length=q1.length:=by rw [hxs];simp [-getElem?_pos,-List.map_set,-objBelow,-depV]
    have hyl:ys.length=q1.length:=by rw [hys];simp [-getElem?_pos,-List.map_set,-objBelow,-depV]
    rw [loopG_eq]
    by_cases hks:k<sy
    case neg=>
     have hk':k=sy:=by omega
     subst hk'
     rw [← hre] at hq1' hW
     rw [List.take_of_length_le (by omega)] at hW
     subst hW
     rw [← hq'] at hq1'
     subst hq1'
     simp (maxSteps:=2000000) [-getElem?_pos,-List.map_set,-objBelow,-depV,gp,hks]
     refine ⟨_,xs,ys,N,fi,bs,⟨rfl,rfl,rfl,rfl,rfl,rfl⟩,⟨hxs,hys,hNQ,hfb,hf0,hbs⟩,?_⟩
     simp [-getElem?_pos,-List.map_set,-objBelow,-depV]
    obtain ⟨u,hu⟩:∃ u,u=Aut.go ⟨sy,ta,aa,na⟩ t.1 k:=⟨_,rfl⟩
    obtain ⟨v,hv⟩:∃ u,u=Aut.go ⟨sy,tb,ab,nb⟩ t.2 k:=⟨_,rfl⟩
    have ho:(succ t)[k]? =some (some (u,v)):=by rw [hsg t k (by omega),hu,hv]
    have hL:(succ t).take (k+1)=(succ t).take k++[some (u,v)]:=by rw [List.take_add_one,ho];rfl
    have hset:∀ v,(W.set k v).take (k+1)=W.take k++[v]:=fun v=>by
     rw [List.take_add_one,List.take_set_of_le (Nat.le_refl _),List.getElem?_set_self (by omega)];rfl
    obtain ⟨w0,hw0⟩:∃ x,W[k]? =some x:=⟨_,List.getElem?_eq_getElem (by omega)⟩
    have hws:∀ v,(W.set k v)[k]? =some v:=fun v=>List.getElem?_set_self (by omega)
    have hww:=wrap_succ (show k+1≤9223372036854775807 by omega)
    have hqt:q1[i]? =some t:=by rw [hq1'];exact prefix_getS addS_prefix ht
    have hqi:i<q1.length:=lt_of_get hqt
    have htx:xs[i]? =some t.1:=by rw [hxs,List.getElem?_map,hqt];rfl
    have hty:ys[i]? =some t.2:=by rw [hys,List.getElem?_map,hqt];rfl
    have h58a:∀ D',callD Q 58 [.agg [.f (.raw (.int .i64 sy)),.f (.raw (.int .i64 ta)),.f (.lst (aa.map bitF)),.f (.lst (na.map rowF))],.f (.raw (.int .i64 t.1)),.f (.raw (.int .i64 k))] D.length D'=some (.f (.raw (.int .i64 u)),D'):=fun D'=>by rw [hu];exact c58 ha (by omega) (by omega)
    have h58b:∀ D',callD Q 58 [.agg [.f (.raw (.int .i64 sy)),.f (.raw (.int .i64 tb)),.f (.lst (ab.map bitF)),.f (.lst (nb.map rowF))],.f (.raw (.int .i64 t.2)),.f (.raw (.int .i64 k))] D.length D'=some (.f (.raw (.int .i64 v)),D'):=fun D'=>by rw [hv];exact c58 hb (by omega) (by omega)
    have hyd:domD ⟨sy,ta,aa,na⟩ ⟨sy,tb,ab,nb⟩ (u,v):=hdom t htd _ (List.mem_of_getElem? ho)
    have h113t:=fun D'=>h113 (base:=D.length) (D:=D') hyd
    have hky:=hkl _ hyd
    have hNl:=hNQ.len
    have hq1d:∀ s∈q1,domD ⟨sy,ta,aa,na⟩ ⟨sy,tb,ab,nb⟩ s:=fun s hs=>hq'd s ((hpre k).subset (by rw [← hq1'];exact hs))
    have hnow:=(hpre k).length_le
    rw [← hq1'] at hnow
    have hnew:=(hpre (k+1)).length_le
    rw [hL,addS_some,← hq1',List.map_id,id] at hnew
    by_cases hm:(u,v)∈q1
    ·obtain ⟨m,hm2⟩:∃ m,m=numK q1 (u,v):=⟨_,rfl⟩
     have hmn:m<q1.length:=by rw [hm2];exact numK_lt hm
     have hg:=hNQ.yes _ hm
     rw [← hm2] at hg
     have ih':=ihK (k+1,q1,xs,ys,N,fi,bs,W.set k (m:Int)) ⟨by simp only;omega,by simp only;rw [hL,addS_some,← hq1',List.map_id,id,if_pos hm],hxs,hys,hNQ,⟨hfb.known hqt ho hm,hf0⟩,hbs,by simp only [List.length_set];exact hWl,by simp only;rw [hset,hL,rowS_some,hW,← hq1',List.map_id,id,hm2]⟩ (by simp only;omega)
     simp (maxSteps:=2000000) [-getElem?_pos,-List.map_set,-objBelow,-depV] at ih'
     simp (maxSteps:=2000000) [-getElem?_pos,-List.map_set,-objBelow,-depV,gp,hks,htx,hty,hxl,hyl,h58a,h58b,r58,h113t,hg,hNl,hky,hqi,hw0,hws,hWl,hww,hAl,hR0,hfi,hbs,show ¬(m:Int)+1=0 by omega,show wrapF .i64 (m:Int)=m from wrap_in (by omega) (by omega),show wrapF .i64 ((m:Int)+1-1)=m by rw [wrap_in (by omega) (by omega)];omega]
     exact ih'
    ·have hg:=hNQ.no _ hyd hm
     rw [if_neg hm,List.length_append] at hnew
     simp only [List.length_cons,List.length_nil] at hnew
     have hadd:=hNQ.add hki hq1d hyd hky hm
     have hgs:(N.set (K (u,v)) ((q1.length+1:Nat):Int))[K (u,v)]? =some ((q1.length+1:Nat):Int):=List.getElem?_set_self (by omega)
     have ih':=ihK (k+1,q1++[(u,v)],xs++[u],ys++[v],N.set (K (u,v)) ((q1.length+1:Nat):Int),fi++[(i:Int)],bs++[(k:Int)],W.set k (q1.length:Int)) ⟨by simp only;omega,by simp only;rw [hL,addS_some,← hq1',List.map_id,id,if_neg hm],by simp [-getElem?_pos,-List.map_set,-objBelow,-depV,hxs],by simp [-getElem?_pos,-List.map_set,-objBelow,-depV,hys],hadd,⟨hfb.new hqt ho,by simp only;rw [List.getElem?_append_left (by omega)];exact hf0⟩,by simp [-getElem?_pos,-List.map_set,-objBelow,-depV,hbs],by simp only [List.length_set];exact hWl,by simp only;rw [hset,hL,rowS_some,hW,← hq1',List.map_id,id,numK_none hm]⟩ (by simp only;omega)
     simp (maxSteps:=2000000) [-getElem?_pos,-List.map_set,-objBelow,-depV] at ih'
     simp (maxSteps:=2000000) [-getElem?_pos,-List.map_set,-objBelow,-depV,gp,hks,htx,hty,hxl,hyl,h58a,h58b,r58,h113t,hg,hgs,hNl,hky,hqi,hw0,hws,hWl,hww,hAl,hR0,hfi,hbs,show 1≤q1.length by omega,show (q1.length+1)*8≤1099511627776 by omega,show q1.length≤1099511627775 by omega,show wrapF .i64 (q1.length:Int)=q1.length from wrap_in (by omega) (by omega),show wrapF .i64 ((q1.length:Int)+1-1)=q1.length by rw [wrap_in (by omega) (by omega)];omega]
     exact ih'
   clear hX
   have hfi':=hfb'.lf
   obtain ⟨S,hS⟩:∃ S,S=rowS id q (succ t):=⟨_,rfl⟩
   have hSl:S.length=sy:=by rw [hS,rowS_len,hlenS]
   rw [← hS] at hR
   have hpre':q <+: q':=by rw [hq'];exact addS_prefix
   have hpl:=hpre'.length_le
   have hqt:q'.take (i+1)=q.take i++[t]:=by
    rw [List.take_add_one,prefix_getS hpre' ht]
    obtain ⟨z,rfl⟩:=hpre'
    rw [List.take_append_of_le_length (by omega)];rfl
   have htk:List.take sy (S.map numD)=S.map numD:=List.take_of_length_le (by simp [-getElem?_pos,-List.map_set,-objBelow,-depV,hSl])
   have ih':=ih (F,i+1,q',xs',ys',N',fi',bs',R0++[S],A++[bt]) ⟨by simp only;omega,by simp only;omega,hxs',hys',hNQ',⟨hfb'.next hlenS,hf0'⟩,hbs',by simp [-getElem?_pos,-List.map_set,-objBelow,-depV,hR0],by simp only;rw [hqt,List.map_append,List.map_cons,List.map_nil,hA,hbt],hq'n,hq'd,R2,hex2,by simp only;rw [List.append_assoc];exact hR⟩ (by simp only;omega)
   simp (maxSteps:=2000000) [-getElem?_pos,-List.map_set,-objBelow,-depV] at ih'
   rw [← hS]
   simp (maxSteps:=2000000) [-getElem?_pos,-List.map_set,-objBelow,-depV,gp,t2,t3,t4,t6,t7,t8,t9,t10,t11,t12,hSl,htk,hR0,hAl,show i+1≤1099511627776 by omega,show i≤1099511627775 by omega,show (i+1)*24≤1099511627776 by omega,wrap_succ (show i+1≤9223372036854775807 by omega)]
   exact ih'
  ·rw [List.getElem?_eq_none (by omega)] at hex
   simp only [Option.some.injEq,Prod.mk.injEq] at hex
   obtain ⟨rfl,rfl⟩:=hex
   rw [List.append_nil] at hR
   subst hR
   have hie:i=q.length:=by omega
   subst hie
   rw [List.take_length] at hA
   subst hA
   simp (maxSteps:=2000000) [-getElem?_pos,-List.map_set,-objBelow,-depV,gp,hlt,hR0,hxl,hyl]
   exact ⟨_,xs,ys,N,fi,bs,⟨rfl,rfl,rfl,rfl,rfl,rfl⟩,by simp [-getElem?_pos,-List.map_set,-objBelow,-depV],by simp [-getElem?_pos,-List.map_set,-objBelow,-depV],hbs,hf0,hfb⟩
 clear hX
 have hfi:=hfbl.lf
 have hrl:rows.length=qs.length:=by simpa [-getElem?_pos,-List.map_set,-objBelow,-depV] using (exR_spec hex).2.1 (Nat.zero_le _)
 obtain ⟨A1,hA1⟩:∃ A,A=qs.map ac:=⟨_,rfl⟩
 have hAl:A1.length=qs.length:=by rw [hA1];simp [-getElem?_pos,-List.map_set,-objBelow,-depV]
 rw [← hA1]
 have hfz:∀ b D,frzL (frz b D 3) (rows.map rowD)=some (rows.map rowF,[]):=fun b D=>fzL_map fun _=>rfl
 simp (maxSteps:=2000000) [-getElem?_pos,-List.map_set,-objBelow,-depV,gp,t6,t7,hrl,hfz,hAl,hfi,hbs']
 exact ⟨fi,bs,rfl,hf0,hfbl⟩
end Go.Dv
namespace Go.Dv
open Go Go.Sim Go.Proofs Go.Fsa
attribute [local simp] eqD_agg eq1_int eq1_bool eq1_lst
attribute [local simp] bitF autD b_neqB b_eqlB el_num set_num fz_num numD bitD el_bit set_bit fz_bit
theorem w26x (a b:Aut) (ha:a.valid) (hb:b.valid) (hsy:a.sy=b.sy) (hN:(a.nxt.length+1)*(b.nxt.length+1)≤100000) (base:Nat) (D:DH) :
  ∃ (is:Bool) (w:List Int),w.length≤100000∧callD Q 26 [autD a,autD b] base D=some (.tup [rowD w,boolD is,intD 0],D)∧(is=false→w=[]∧∀ u,a.accepts u=b.accepts u)∧(is=true→a.accepts w≠b.accepts w∧∀ u,a.accepts u≠b.accepts u→lessB u w=false):=by
 have hca:=Aut.check_valid.2 ha
 have hcb:=Aut.check_valid.2 hb
 have h19a:=fun D'=>w19 a D.length D'
 have h19b:=fun D'=>w19 b D.length D'
 rw [hca] at h19a
 rw [hcb] at h19b
 obtain ⟨fi,bs,h67,hf0,hfb0⟩:=w67 a b ha hb hsy hN (fuelD a b) (a.exD b).1 (a.exD b).2 (exD_spec ha hb hN) D.length (D++[.arr 4 [autD a],.arr 4 [autD b]])
 have hfb:=hfb0.first
 obtain ⟨l,hl⟩:∃ l,l=(a.exD b).1.map fun p:Int×Int=>a.accB p.1 != b.accB p.2:=⟨_,rfl⟩
 have hll:l.length=(a.exD b).1.length:=by rw [hl];simp [-getElem?_pos,-List.map_set,-objBelow,-depV]
 have hlen:(a.exD b).1.length≤100000:=by
  obtain ⟨d1,d2⟩:=exR_dom (dom:=domD a b) (fun s hs t ht=>domD_succ ha hb hs ht) (fun s hs=>by rw [List.mem_singleton] at hs;rw [hs];exact begin_domD ha hb) (by simp [-getElem?_pos,-List.map_set,-objBelow,-depV]) (exD_spec ha hb hN)
  exact Nat.le_trans (domD_len d1 (by simpa [-getElem?_pos,-List.map_set,-objBelow,-depV] using d2)) hN
 have hfl:=hfb.lf
 have hbl:=hfb.lb
 rw [← hl] at h67
 simp only [prodD,autD,intD,boolD,rowD,rowF,hsy] at h67 h19a h19b
 have hget:∀ (n:Nat) (p:Int×Int),(a.exD b).1[n]? =some p→l[n]? =some (a.accB p.1 != b.accB p.2):=fun n p hp=>by rw [hl,List.getElem?_map,hp];rfl
 rcases first_true l with hall | ⟨n,hn,hf⟩
 ·have hall':∀ p∈(a.exD b).1,a.accB p.1=b.accB p.2:=fun p hp=>by
   have:=hall (a.accB p.1 != b.accB p.2) (by rw [hl];exact List.mem_map_of_mem hp)
   simpa [-getElem?_pos,-List.map_set,-objBelow,-depV] using this
  refine ⟨false,[],by simp [-getElem?_pos,-List.map_set,-objBelow,-depV],?_,fun _=>⟨rfl,differ_all ha hb hsy hN hall'⟩,fun h=>by cases h⟩
  rw [call_pure (fn:=Tryz.f26) (show Q.P.funcs[26]? =some Tryz.f26 from Tryz.func26) rfl ann26 rfl (by simp only [List.length_cons,List.length_nil];decide) (by kernel_rfl)]
  simp (maxSteps:=2000000) [-getElem?_pos,-List.map_set,-objBelow,-depV,h19a,h19b,hsy,h67]
  generalize hs56:SD.mk _ _=sd56
  revert sd56
  refine wl (fun i:Nat=>⟨(Trie.leaf.put 8 (intD i)).put 7 (.ref (D.length+2) 0 0),D++[.arr 4 [.agg [intD b.sy,intD a.st,.f (.lst (a.acc.map bitF)),.f (.lst (a.nxt.map rowF))]],.arr 4 [autD b],.arr 7 [prodD b.sy l (a.exD b).2 fi bs]]⟩) (fun i=>i≤l.length) (fun i=>l.length-i) ?_ 0 (Nat.zero_le _)
  intro i hi ih
  rw [loopG_eq]
  by_cases hlt:i<l.length
  ·obtain ⟨x,hx⟩:=getOf (l:=l) (i:=i) hlt
   obtain rfl:=hall x (List.mem_of_getElem? hx)
   have ih':=ih (i+1) (by omega) (by omega)
   simp only [prodD] at ih' ⊢
   simp (maxSteps:=2000000) [-getElem?_pos,-List.map_set,-objBelow,-depV] at ih'
   simp (maxSteps:=2000000) [-getElem?_pos,-List.map_set,-objBelow,-depV,hlt,hx,wrap_succ (show i+1≤9223372036854775807 by omega)]
   exact ih'
  ·simp (maxSteps:=2000000) [-getElem?_pos,-List.map_set,-objBelow,-depV,hlt,prodD]
 ·have hnl:=lt_of_get hn
  obtain ⟨p,hp⟩:∃ p,(a.exD b).1[n]? =some p:=⟨_,List.getElem?_eq_getElem (by omega)⟩
  have hd:a.accB p.1≠b.accB p.2:=by
   have:=hget n p hp
   rw [hn] at this
   simpa [-getElem?_pos,-List.map_set,-objBelow,-depV] using this
  refine ⟨true,(wordTo fi bs n n).reverse,by rw [List.length_reverse];have:=wordTo_len fi bs n n;omega,?_,(fun h=>by cases h),fun _=>⟨differ_some ha hb hsy hN hfb hp hd (Nat.le_refl _),fun u hu=>differ_min ha hb hsy hN hfb (by omega) (fun m p' hm hp'=>?_) (Nat.le_refl _) hu⟩⟩
  rotate_left
  ·have:=hget m p' hp'
   rw [hf m hm] at this
   simpa [-getElem?_pos,-List.map_set,-objBelow,-depV] using this
  rw [call_pure (fn:=Tryz.f26) (show Q.P.funcs[26]? =some Tryz.f26 from Tryz.func26) rfl ann26 rfl (by simp only [List.length_cons,List.length_nil];decide) (by kernel_rfl)]
  simp (maxSteps:=2000000) [-getElem?_pos,-List.map_set,-objBelow,-depV,h19a,h19b,hsy,h67]
  have hw0:∀ F,wordTo fi bs F 0=[]:=fun F=>by cases F<;>simp [-getElem?_pos,-List.map_set,-objBelow,-depV,wordTo]
  have hw1:∀ F m i c,0<m→fi[m]? =some (i:Int)→bs[m]? =some (c:Int)→wordTo fi bs (F+1) m=(c:Int)::wordTo fi bs F i.toNat:=fun F m i c h1 h2 h3=>by
   simp only [wordTo,if_neg (show ¬m=0 by omega),h2,h3,Option.getD_some]
  obtain ⟨w,hw⟩:∃ w,w=wordTo fi bs n n:=⟨_,rfl⟩
  have hwl:w.length≤n:=by rw [hw];exact wordTo_len fi bs n n
  rw [← hw]
  generalize hs57:SD.mk _ _=sd57
  revert sd57
  refine wl (fun i:Nat=>⟨(Trie.leaf.put 8 (intD i)).put 7 (.ref (D.length+2) 0 0),D++[.arr 4 [.agg [intD b.sy,intD a.st,.f (.lst (a.acc.map bitF)),.f (.lst (a.nxt.map rowF))]],.arr 4 [autD b],.arr 7 [prodD b.sy l (a.exD b).2 fi bs]]⟩) (fun i=>i≤n) (fun i=>n-i) ?_ 0 (Nat.zero_le _)
  intro i hi ih
  rw [loopG_eq]
  by_cases hin:i=n
  case neg=>
   have hx:=hf i (by omega)
   have ih':=ih (i+1) (by omega) (by omega)
   simp only [prodD] at ih' ⊢
   simp (maxSteps:=2000000) [-getElem?_pos,-List.map_set,-objBelow,-depV] at ih'
   simp (maxSteps:=2000000) [-getElem?_pos,-List.map_set,-objBelow,-depV,show i<l.length by omega,hx,wrap_succ (show i+1≤9223372036854775807 by omega)]
   exact ih'
  subst hin
  clear ih
  simp (maxSteps:=2000000) [-getElem?_pos,-List.map_set,-objBelow,-depV,hnl,hn,prodD]
  generalize hX:loopG _ _ _=X
  obtain ⟨tm,rfl,t9⟩:∃ tm,X=some (.exit 2,⟨tm,D++[.arr 4 [.agg [intD b.sy,intD a.st,.f (.lst (a.acc.map bitF)),.f (.lst (a.nxt.map rowF))]],.arr 4 [autD b],.arr 7 [prodD b.sy l (a.exD b).2 fi bs],.app 3 1 (w.map numD)]⟩)∧tm.get 9=some (.apl (D.length+3) w.length):=by
   rw [← hX]
   clear hX
   generalize hs58:SD.mk _ _=sd58
   revert sd58
   refine wl (fun p:Nat×List Int=>⟨((Trie.leaf.put 10 (intD p.1)).put 9 (.apl (D.length+3) p.2.length)).put 7 (.ref (D.length+2) 0 0),D++[.arr 4 [.agg [intD b.sy,intD a.st,.f (.lst (a.acc.map bitF)),.f (.lst (a.nxt.map rowF))]],.arr 4 [autD b],.arr 7 [prodD b.sy l (a.exD b).2 fi bs],.app 3 1 (p.2.map numD)]⟩) (fun p=>p.2.length+p.1≤i∧∃ F,p.1≤F∧p.2++wordTo fi bs F p.1=w) (fun p=>p.1) ?_ (i,[]) ⟨by simp [-getElem?_pos,-List.map_set,-objBelow,-depV],i,Nat.le_refl _,by simp [-getElem?_pos,-List.map_set,-objBelow,-depV,hw]⟩
   rintro ⟨s,out⟩ ⟨ho2,F,hF,hwo⟩ ih
   simp only at ho2 hF hwo ih
   rw [loopG_eq]
   by_cases hs:s=0
   ·subst hs
    rw [hw0,List.append_nil] at hwo
    subst hwo
    simp (maxSteps:=2000000) [-getElem?_pos,-List.map_set,-objBelow,-depV,hf0,prodD]
   ·obtain ⟨i0,c,q,e1,e2,e3,_⟩:=hfb.get s (by omega) (by omega)
    obtain ⟨F,rfl⟩:∃ F',F=F'+1:=⟨F-1,by omega⟩
    rw [hw1 F s i0 c (by omega) e1 e2,Int.toNat_natCast] at hwo
    have ih':=ih (i0,out++[(c:Int)]) ⟨by simp [-getElem?_pos,-List.map_set,-objBelow,-depV];omega,F,by simp only;omega,by simp only;rw [List.append_assoc];exact hwo⟩ e3
    simp only [prodD] at ih' ⊢
    simp (maxSteps:=2000000) [-getElem?_pos,-List.map_set,-objBelow,-depV] at ih'
    simp (maxSteps:=2000000) [-getElem?_pos,-List.map_set,-objBelow,-depV,e1,e2,show (out.length+1)*8≤1099511627776 by omega,show out.length+1≤1099511627776 by omega,show out.length≤1099511627775 by omega]
    exact ih'
  clear hX
  simp (maxSteps:=2000000) [-getElem?_pos,-List.map_set,-objBelow,-depV,t9,prodD,wrap_pred (show w.length≤9223372036854775807 by omega)]
  generalize hX:loopG _ _ _=X
  obtain ⟨tm',rfl,t11⟩:∃ tm',X=some (.exit 4,⟨tm',D++[.arr 4 [.agg [intD b.sy,intD a.st,.f (.lst (a.acc.map bitF)),.f (.lst (a.nxt.map rowF))]],.arr 4 [autD b],.arr 7 [prodD b.sy l (a.exD b).2 fi bs],.app 3 1 (w.map numD),.app 3 1 (w.reverse.map numD)]⟩)∧tm'.get 11=some (.apl (D.length+4) w.length):=by
   rw [← hX]
   clear hX
   generalize hs59:SD.mk _ _=sd59
   revert sd59
   refine wl (fun p:Nat×List Int=>⟨((Trie.leaf.put 12 (intD ((p.1:Int)-1))).put 11 (.apl (D.length+4) p.2.length)).put 9 (.apl (D.length+3) w.length),D++[.arr 4 [.agg [intD b.sy,intD a.st,.f (.lst (a.acc.map bitF)),.f (.lst (a.nxt.map rowF))]],.arr 4 [autD b],.arr 7 [prodD b.sy l (a.exD b).2 fi bs],.app 3 1 (w.map numD),.app 3 1 (p.2.map numD)]⟩) (fun p=>p.1≤w.length∧p.2=(w.drop p.1).reverse) (fun p=>p.1) ?_ (w.length,[]) ⟨Nat.le_refl _,by simp [-getElem?_pos,-List.map_set,-objBelow,-depV]⟩
   rintro ⟨j,o2⟩ ⟨hj,ho2⟩ ih
   simp only at hj ho2 ih
   rw [loopG_eq]
   cases j with
   | zero=>
    subst ho2
    simp (maxSteps:=2000000) [-getElem?_pos,-List.map_set,-objBelow,-depV,prodD]
   | succ j=>
    obtain ⟨x,hx⟩:=getOf (l:=w) (i:=j) (by omega)
    have hd:w.drop j=x::w.drop (j+1):=by
     rw [List.drop_eq_getElem_cons (by omega)]
     rw [List.getElem?_eq_getElem (by omega),Option.some.injEq] at hx
     rw [hx]
    have ih':=ih (j,o2++[x]) ⟨by simp only;omega,by simp only;rw [hd,List.reverse_cons,ho2]⟩ (by simp only;omega)
    have hol:o2.length≤w.length:=by rw [ho2];simp [-getElem?_pos,-List.map_set,-objBelow,-depV]
    rw [show (((j+1:Nat):Int)-1)=(j:Int) by omega]
    simp only [prodD] at ih' ⊢
    simp (maxSteps:=2000000) [-getElem?_pos,-List.map_set,-objBelow,-depV] at ih'
    simp (maxSteps:=2000000) [-getElem?_pos,-List.map_set,-objBelow,-depV,hx,show j<w.length by omega,wrap_pred (show j≤9223372036854775807 by omega),show (o2.length+1)*8≤1099511627776 by omega,show o2.length+1≤1099511627776 by omega,show o2.length≤1099511627775 by omega]
    exact ih'
  clear hX
  simp (maxSteps:=2000000) [-getElem?_pos,-List.map_set,-objBelow,-depV,t11,fz_numR,prodD]
end Go.Dv
set_option maxHeartbeats 4000000
namespace Go.Dv
open Go Go.Sim Go.Proofs Go.Fsa
attribute [local simp] eqD_agg eq1_int eq1_bool eq1_lst bitsD
attribute [local simp] encI bitF autD b_neqB b_eqlB el_num set_num fz_num numD bitD el_bit set_bit fz_bit
inductive EL (oo:Nat) (D:DH):DV→List Int→Prop
 | em {o:Nat} (ho:oo≤o) (h:D[o]? =some (.arr 1 [])):EL oo D (.row o 0 0 0) []
 | ap {o:Nat} {w:List Int} (ho:oo≤o) (hne:w≠[]) (h:D[o]? =some (.app 3 1 (w.map numD))):EL oo D (.apl o w.length) w
inductive WL (D:DH):DV→List Int→Prop
 | no:WL D nilS []
 | ap {o:Nat} {w:List Int} (hne:w≠[]) (h:D[o]? =some (.app 3 1 (w.map numD))):WL D (.apl o w.length) w
structure LO (b oo ot:Nat) (els:List (List Bool)) (acc:List (List Int)) (es:List DV) (D:DH):Prop where
 hb:b≤oo
 hot:oo<ot
 low:∀ (i:Nat) (x:DObj),b≤i→i<oo→D[i]? =some x→objBelow oo x=true
 T:D[ot]? =some (.arr 1 (els.map bitsD))
 O:D[oo]? =some (.app 26 1 es)
 len:es.length=acc.length
 el:∀ (i:Nat) (d:DV) (w:List Int),es[i]? =some d→acc[i]? =some w→EL oo D d w
 bel:∀ (i:Nat) (x:DObj),b≤i→D[i]? =some x→objBelow D.length x=true
variable {b oo ot:Nat} {els:List (List Bool)} {acc:List (List Int)} {es:List DV} {D D':DH} {d:DV} {w:List Int}
theorem EL.same (h:EL oo D d w) (hO:D[oo]? =some (.app 26 1 es)) (hf:∀ i,i<D.length→i≠oo→D'[i]? =D[i]?):EL oo D' d w:=by
 cases h with
 | em ho h=>exact .em ho (by rw [hf _ (ltOf h) (by rintro rfl;rw [hO] at h;cases h)];exact h)
 | ap ho hne h=>exact .ap ho hne (by rw [hf _ (ltOf h) (by rintro rfl;rw [hO] at h;simp [-getElem?_pos,-List.map_set,-objBelow,-depV] at h)];exact h)
theorem WL.same (h:WL D d w) (hO:D[oo]? =some (.app 26 1 es)) (hf:∀ i,i<D.length→i≠oo→D'[i]? =D[i]?):WL D' d w:=by
 cases h with
 | no=>exact .no
 | ap hne h=>exact .ap hne (by rw [hf _ (ltOf h) (by rintro rfl;rw [hO] at h;simp [-getElem?_pos,-List.map_set,-objBelow,-depV] at h)];exact h)
theorem LO.same (h:LO b oo ot els acc es D) (hf:∀ i,i<D.length→i≠oo→D'[i]? =D[i]?) (hO:D'[oo]? =some (.app 26 1 es)) (hbel:∀ (i:Nat) (x:DObj),b≤i→D'[i]? =some x→objBelow D'.length x=true):LO b oo ot els acc es D':=
 ⟨h.hb,h.hot,fun i x h1 h2 hx=>by rw [hf i (by have:=ltOf h.O;omega) (by omega)] at hx;exact h.low i x h1 h2 hx,by rw [hf _ (ltOf h.T) (by rintro rfl;have:=h.T;rw [h.O] at this;cases this)];exact h.T,hO,h.len,fun i d w h1 h2=>(h.el i d w h1 h2).same h.O hf,hbel⟩
theorem LO.app (h:LO b oo ot els acc es D) (X:DH) (hX:∀ x∈X,objBelow (D++X).length x=true):LO b oo ot els acc es (D++X):=
 h.same (fun i hi _=>List.getElem?_append_left hi) (get_app h.O) fun i x hi hx=>by
  rcases Nat.lt_or_ge i D.length with g | g
  ·rw [List.getElem?_append_left g] at hx
   exact objBelow_le (by simp [-getElem?_pos,-List.map_set,-objBelow,-depV]) x (h.bel i x hi hx)
  ·rw [List.getElem?_append_right g] at hx
   exact hX x (List.mem_of_getElem? hx)
theorem LO.push (h:LO b oo ot els acc es D) (hd:EL oo D d w) (hbd:below D.length d=true):LO b oo ot els (acc++[w]) (es++[d]) (D.set oo (.app 26 1 (es++[d]))):=by
 have hol:=ltOf h.O
 have hf:∀ i,i<D.length→i≠oo→(D.set oo (.app 26 1 (es++[d])))[i]? =D[i]?:=fun i _ hi=>List.getElem?_set_ne (Ne.symm hi)
 refine ⟨h.hb,h.hot,fun i x h1 h2 hx=>by rw [hf i (by omega) (by omega)] at hx;exact h.low i x h1 h2 hx,by rw [hf _ (ltOf h.T) (by rintro rfl;have:=h.T;rw [h.O] at this;cases this)];exact h.T,List.getElem?_set_self hol,by simp [-getElem?_pos,-List.map_set,-objBelow,-depV,h.len],fun i d' w' h1 h2=>?_,fun i x hi hx=>?_⟩
 ·rcases Nat.lt_or_ge i es.length with g | g
  ·rw [List.getElem?_append_left g] at h1
   rw [List.getElem?_append_left (by rw [← h.len];exact g)] at h2
   exact (h.el i d' w' h1 h2).same h.O hf
  ·rw [List.getElem?_append_right g] at h1
   rw [List.getElem?_append_right (by rw [← h.len];exact g),← h.len] at h2
   have e:i-es.length=0:=by have:=lt_of_get h1;simp [-getElem?_pos,-List.map_set,-objBelow,-depV] at this;omega
   rw [e] at h1 h2
   cases h1;cases h2
   exact hd.same h.O hf
 ·rw [List.length_set]
  by_cases e:i=oo
  ·subst e
   rw [List.getElem?_set_self hol] at hx
   cases hx
   have:=h.bel _ _ hi h.O
   simp only [objBelow,List.all_append,Bool.and_eq_true] at this ⊢
   exact ⟨this,by simpa [-getElem?_pos,-List.map_set,-objBelow,-depV] using hbd⟩
  ·rw [hf i (by have:=ltOf hx;simpa [-getElem?_pos,-List.map_set,-objBelow,-depV] using this) e] at hx
   exact h.bel i x hi hx
theorem LO.objs (h:LO b oo ot els acc es D):objsOK b D.length D=true:=by
 unfold objsOK
 rw [List.all_eq_true]
 intro x hx
 obtain ⟨i,hi⟩:=List.getElem?_of_mem hx
 rw [List.getElem?_take] at hi
 split at hi
 ·rw [List.getElem?_drop] at hi
  exact h.bel (b+i) x (by omega) hi
 ·cases hi
theorem LO.objsL (h:LO b oo ot els acc es D) (X:DH):objsOK b oo (D++X)=true:=by
 unfold objsOK
 rw [List.all_eq_true]
 intro x hx
 obtain ⟨i,hi⟩:=List.getElem?_of_mem hx
 rw [List.getElem?_take] at hi
 split at hi
 ·rw [List.getElem?_drop,List.getElem?_append_left (by have:=ltOf h.O;omega)] at hi
  exact h.low (b+i) x (by omega) (by omega) hi
 ·cases hi
theorem LO.from (h:LO b oo ot els acc es D):LO oo oo ot els acc es D:=
 ⟨Nat.le_refl _,h.hot,fun i x h1 h2=>by omega,h.T,h.O,h.len,h.el,fun i x hi hx=>h.bel i x (Nat.le_trans h.hb hi) hx⟩
theorem LO.back {acc':List (List Int)} {es':List DV} (h:LO b oo ot els acc es D) (h':LO oo oo ot els acc' es' D') (hl:D.length≤D'.length) (hf:∀ i,i<D.length→i≠oo→D'[i]? =D[i]?):LO b oo ot els acc' es' D':=
 ⟨h.hb,h.hot,fun i x h1 h2 hx=>by rw [hf i (by have:=ltOf h.O;omega) (by omega)] at hx;exact h.low i x h1 h2 hx,h'.T,h'.O,h'.len,h'.el,fun i x hi hx=>by
  rcases Nat.lt_or_ge i oo with g | g
  ·rw [hf i (by have:=ltOf h.O;omega) (by omega)] at hx
   exact objBelow_le hl x (h.bel i x hi hx)
  ·exact h'.bel i x g hx⟩
def WTab (a:Aut) (els:List (List Bool)):Prop:=∀ k,k<els.length→∃ r,els[k]? =some r∧r.length=a.acc.length∧∀ s:Nat,s<a.acc.length→r[s]? =some (a.fulW k s)
theorem w72 {a:Aut} (hv:a.valid) (n:Nat) (hn:n≤300) (hels:WTab a els) (m:Nat) (hm:els.length=m) :
  ∀ (k b s:Nat) (ww:List Int) (w:DV) (acc:List (List Int)) (es:List DV) (D:DH),s<a.acc.length→k<m→ww.length+k≤60→acc.length≤n→LO b oo ot els acc es D→WL D w ww →
   ∃ es' D',callD Q 72 [autD a,.row ot 0 m m,intD s,intD k,w,.apl oo acc.length,intD n] b D=some (.apl oo (addW n acc ww (a.wds k s)).length,D')∧LO b oo ot els (addW n acc ww (a.wds k s)) es' D'∧D.length≤D'.length∧∀ i,i<D.length→i≠oo→D'[i]? =D[i]?:=by
 intro k
 induction k with
 | zero=>
  intro b s ww w acc es D hs hkm hwk hacc hL hW
  obtain ⟨r,hr,hrl,hrs⟩:=hels 0 (by omega)
  have hrs:=hrs s hs
  have gT:=fun X=>get_app (X:=X) hL.T
  have gO:=fun X=>get_app (X:=X) hL.O
  have hlen:=hL.len
  have hbo:=hL.hb
  have hol:=ltOf hL.O
  have hbD:b≤D.length:=by omega
  have hobj:=hL.objs
  have hLa:LO b oo ot els acc es (D++[.arr 4 [autD a]]):=hL.app _ (fun x hx=>by simp [-getElem?_pos,-List.map_set,-objBelow,-depV] at hx;subst hx;simp [-getElem?_pos,-List.map_set,-objBelow,-depV,objBelow,below])
  rw [call_raw (fn:=Tryz.f72) (show Q.P.funcs[72]? =some Tryz.f72 from Tryz.func72) rfl ann72 rfl (by simp only [List.length_cons,List.length_nil];decide) (by kernel_rfl)]
  have gp:=gp72
  simp only [ann72,Tryz.f72,gpB_some,gpC_draw,gpC_reg,gpC_seq,gpC_cond,gpC_block,gpC_loop,gpC_range,gpC_skip,gpC_ret,gpC_exit,gpC_label,gpO_some,gpO_none,findN,Bool.and_eq_true,Bool.and_true,Bool.true_and,reduceIte,Nat.reduceEqDiff,true_and,and_true] at gp
  by_cases hfull:n≤acc.length
  ·refine ⟨es,D++[.arr 4 [autD a]],?_⟩
   rw [addW_full hfull]
   simp (maxSteps:=2000000) [-getElem?_pos,-List.map_set,-objBelow,-depV,gp,gT,gO,hkm,hm,hr,hrs,hlen,hfull,hbD,hobj]
   exact ⟨hLa,fun i hi _=>List.getElem?_append_left hi⟩
  cases hac:a.fulW 0 s with
  | false=>
   rw [hac] at hrs
   have:a.wds 0 s=[]:=by simpa [-getElem?_pos,-List.map_set,-objBelow,-depV,Aut.fulW] using hac
   rw [this,addW_nil]
   refine ⟨es,D++[.arr 4 [autD a]],?_⟩
   simp (maxSteps:=2000000) [-getElem?_pos,-List.map_set,-objBelow,-depV,gp,gT,gO,hkm,hm,hr,hrs,hlen,hfull,hbD,hobj]
   exact ⟨hLa,fun i hi _=>List.getElem?_append_left hi⟩
  | true=>
   rw [hac] at hrs
   have hw0:a.wds 0 s=[[]]:=by
    unfold Aut.fulW Aut.wds at hac
    unfold Aut.wds
    by_cases h:a.accB s
    ·simp [-getElem?_pos,-List.map_set,-objBelow,-depV,h]
    ·simp [-getElem?_pos,-List.map_set,-objBelow,-depV,h] at hac
   have hadd:addW n acc ww (a.wds 0 s)=acc++[ww]:=by
    rw [hw0];unfold addW
    obtain ⟨m,hm⟩:∃ m,n-acc.length=m+1:=⟨n-acc.length-1,by omega⟩
    simp [-getElem?_pos,-List.map_set,-objBelow,-depV,hm]
   rw [hadd]
   have hfin:∀ (d:DV) (o:DObj),below (D.length+3) d=true→objBelow (D.length+3) o=true→EL oo (D++[.arr 4 [autD a],o,.arr 1 [d]]) d ww →
     LO b oo ot els (acc++[ww]) (es++[d]) ((D++[.arr 4 [autD a],o,.arr 1 [d]]).set oo (.app 26 1 (es++[d])))∧D.length≤((D++[.arr 4 [autD a],o,.arr 1 [d]]).set oo (.app 26 1 (es++[d]))).length∧∀ i,i<D.length→i≠oo→((D++[.arr 4 [autD a],o,.arr 1 [d]]).set oo (.app 26 1 (es++[d])))[i]? =D[i]?:=fun d o h1 h2 h3=>
    ⟨(hL.app _ (fun x hx=>by
     simp only [List.length_append,List.length_cons,List.length_nil]
     simp only [List.mem_cons,List.not_mem_nil,or_false] at hx
     rcases hx with rfl | rfl | rfl
     ·simp [-getElem?_pos,-List.map_set,-objBelow,-depV,objBelow,below]
     ·exact h2
     ·simpa [-getElem?_pos,-List.map_set,-objBelow,-depV,objBelow] using h1)).push h3 (by simpa [-getElem?_pos,-List.map_set,-objBelow,-depV] using h1),by simp [-getElem?_pos,-List.map_set,-objBelow,-depV],fun i hi hne=>by rw [List.getElem?_set_ne (Ne.symm hne),List.getElem?_append_left hi]⟩
   cases hW with
   | no=>
    refine ⟨es++[.row (D.length+1) 0 0 0],(D++[DObj.arr 4 [autD a],.arr 1 [],.arr 1 [.row (D.length+1) 0 0 0]]).set oo (.app 26 1 (es++[.row (D.length+1) 0 0 0])),?_,hfin _ _ (by simp [-getElem?_pos,-List.map_set,-objBelow,-depV,below]) (by simp [-getElem?_pos,-List.map_set,-objBelow,-depV,objBelow]) (.em (by omega) (by simp [-getElem?_pos,-List.map_set,-objBelow,-depV]))⟩
    simp (maxSteps:=2000000) [-getElem?_pos,-List.map_set,-objBelow,-depV,gp,gT,gO,hkm,hm,hr,hrs,hlen,hfull,hbD,hobj,hbo,hol,show b≤D.length+1 by omega,show (acc.length+1)*24≤1099511627776∧acc.length≤1099511627775 by omega]
    done
   | @ap ow _ hne hwo=>
    have gW:=fun X=>get_app (X:=X) hwo
    refine ⟨es++[.apl (D.length+1) ww.length],(D++[DObj.arr 4 [autD a],.app 3 1 (ww.map numD),.arr 1 [.apl (D.length+1) ww.length]]).set oo (.app 26 1 (es++[.apl (D.length+1) ww.length])),?_,hfin _ _ (by simp [-getElem?_pos,-List.map_set,-objBelow,-depV,below]) (by simp [-getElem?_pos,-List.map_set,-objBelow,-depV,objBelow,below]) (.ap (by omega) hne (by simp [-getElem?_pos,-List.map_set,-objBelow,-depV]))⟩
    simp (maxSteps:=2000000) [-getElem?_pos,-List.map_set,-objBelow,-depV,gp,gT,gO,gW,hkm,hm,hr,hrs,hlen,hfull,hbD,hobj,hbo,hol,hne,show b≤D.length+1 by omega,show ww.length*8≤1099511627776∧ww.length≤1099511627776 by omega,show (acc.length+1)*24≤1099511627776∧acc.length≤1099511627775 by omega]
    done
 | succ k IH=>
  intro b s ww w acc es D hs hkm hwk hacc hL hW
  obtain ⟨m0,hm0⟩:∃ m,m=k+1:=⟨_,rfl⟩
  obtain ⟨r,hr,hrl,hrs⟩:=hels (k+1) (by omega)
  rw [← hm0] at hr hkm ⊢
  have hrs:=hrs s hs
  have gT:=fun X=>get_app (X:=X) hL.T
  have gO:=fun X=>get_app (X:=X) hL.O
  have hlen:=hL.len
  have hbo:=hL.hb
  have hol:=ltOf hL.O
  have hbD:b≤D.length:=by omega
  have hobj:=hL.objs
  have hLa:LO b oo ot els acc es (D++[.arr 4 [autD a]]):=hL.app _ (fun x hx=>by simp [-getElem?_pos,-List.map_set,-objBelow,-depV] at hx;subst hx;simp [-getElem?_pos,-List.map_set,-objBelow,-depV,objBelow,below])
  rw [call_raw (fn:=Tryz.f72) (show Q.P.funcs[72]? =some Tryz.f72 from Tryz.func72) rfl ann72 rfl (by simp only [List.length_cons,List.length_nil];decide) (by kernel_rfl)]
  have gp:=gp72
  simp only [ann72,Tryz.f72,gpB_some,gpC_draw,gpC_reg,gpC_seq,gpC_cond,gpC_block,gpC_loop,gpC_range,gpC_skip,gpC_ret,gpC_exit,gpC_label,gpO_some,gpO_none,findN,Bool.and_eq_true,Bool.and_true,Bool.true_and,reduceIte,Nat.reduceEqDiff,true_and,and_true] at gp
  by_cases hfull:n≤acc.length
  ·refine ⟨es,D++[.arr 4 [autD a]],?_⟩
   rw [addW_full hfull]
   simp (maxSteps:=2000000) [-getElem?_pos,-List.map_set,-objBelow,-depV,gp,gT,gO,hkm,hm,hr,hrs,hlen,hfull,hbD,hobj]
   exact ⟨hLa,fun i hi _=>List.getElem?_append_left hi⟩
  cases hac:a.fulW (k+1) s with
  | false=>
   rw [hac] at hrs
   have:a.wds (k+1) s=[]:=by simpa [-getElem?_pos,-List.map_set,-objBelow,-depV,Aut.fulW] using hac
   rw [hm0,this,addW_nil,← hm0]
   refine ⟨es,D++[.arr 4 [autD a]],?_⟩
   simp (maxSteps:=2000000) [-getElem?_pos,-List.map_set,-objBelow,-depV,gp,gT,gO,hkm,hm,hr,hrs,hlen,hfull,hbD,hobj]
   exact ⟨hLa,fun i hi _=>List.getElem?_append_left hi⟩
  | true=>
   rw [hac] at hrs
   have hla:=hv.len
   obtain ⟨r0,hr0⟩:=getOf (l:=a.nxt) (i:=s) (by omega)
   have hrow:=hv.rows r0 (List.mem_of_getElem? hr0)
   obtain ⟨sy,hsy⟩:∃ sy:Nat,a.sy=sy:=⟨a.sy.toNat,by have:=hv.lo;omega⟩
   have hr0l:r0.length=sy:=by have:=hrow.1;omega
   have hgo:∀ c:Nat,c<sy→r0[c]? =some (a.go s c):=fun c hc=>by
    obtain ⟨r',h1,h2⟩:=Aut.go_some hv (s:=(s:Int)) (by omega) (by omega) (c:=c) (by omega)
    simp only [Int.toNat_natCast] at h1
    rw [hr0] at h1;cases h1;exact h2
   have hmz:¬m0=0:=by omega
   obtain ⟨D1,hD1⟩:∃ D1,D1=D++[DObj.arr 4 [autD a]]:=⟨_,rfl⟩
   have hD1l:D1.length=D.length+1:=by rw [hD1];simp [-getElem?_pos,-List.map_set,-objBelow,-depV]
   have hbox:D1[D.length]? =some (.arr 4 [autD a]):=by rw [hD1];simp [-getElem?_pos,-List.map_set,-objBelow,-depV]
   rw [← hD1] at hLa
   have hW1:WL D1 w ww:=hW.same hL.O (fun i hi _=>by rw [hD1,List.getElem?_append_left hi])
   have hbw:below (D.length+1) w=true:=by
    cases hW with
    | no=>rfl
    | ap hne h=>simp [-getElem?_pos,-List.map_set,-objBelow,-depV,below];have:=ltOf h;omega
   simp (maxSteps:=2000000) [-getElem?_pos,-List.map_set,-objBelow,-depV,gp,gT,gO,hkm,hm,hr,hrs,hlen,hfull,hbD,hobj,hmz,hbw]
   simp only [autD] at hD1
   rw [← hD1]
   generalize hX:loopG _ _ _=X
   obtain ⟨tm,es',H,rfl,t5,hLH,hle,hfr⟩:∃ tm es' H,X=some (.exit 0,⟨tm,H⟩)∧tm.get 5=some (.apl oo (addW n acc ww (a.wds (k+1) s)).length)∧LO b oo ot els (addW n acc ww (a.wds (k+1) s)) es' H∧D1.length≤H.length∧∀ i,i<D1.length→i≠oo→H[i]? =D1[i]?:=by
    rw [← hX]
    clear hX
    generalize hs60:SD.mk _ _=sd60
    revert sd60
    refine wl (fun p:Nat×List (List Int)×List DV×DH=>⟨(((((((Trie.leaf.put 15 (intD p.1)).put 7 (.ref D.length 0 0)).put 6 (intD n)).put 5 (.apl oo p.2.1.length)).put 4 w).put 3 (intD (m0:Nat))).put 2 (intD s)).put 1 (.row ot 0 m m),p.2.2.2⟩) (fun p=>p.1≤sy∧p.2.1=addW n acc ww (a.wdsTo k s p.1)∧LO b oo ot els p.2.1 p.2.2.1 p.2.2.2∧D1.length≤p.2.2.2.length∧∀ i,i<D1.length→i≠oo→p.2.2.2[i]? =D1[i]?) (fun p=>sy-p.1) ?_ (0,acc,es,D1) ⟨Nat.zero_le _,by simp [-getElem?_pos,-List.map_set,-objBelow,-depV,Aut.wdsTo,addW_nil],hLa,Nat.le_refl _,fun _ _ _=>rfl⟩
    rintro ⟨c,ac,eh,H⟩ ⟨hc,hac',hLH,hle,hfr⟩ ih
    simp only at hc hac' hLH hle hfr ih
    rw [loopG_eq]
    have hbH:H[D.length]? =some (.arr 4 [autD a]):=by rw [hfr _ (by omega) (by omega)];exact hbox
    have gB:=fun X=>get_app (X:=X) hbH
    by_cases hlt:c<sy
    case neg=>
     have:c=sy:=by omega
     subst this
     have e:addW n acc ww (a.wds (k+1) s)=ac:=by
      rw [hac',show a.wds (k+1) s=a.wdsTo k s c by unfold Aut.wds Aut.wdsTo;rw [hsy];rfl]
     rw [e]
     simp (maxSteps:=2000000) [-getElem?_pos,-List.map_set,-objBelow,-depV,gp,hsy,hbH]
     exact ⟨_,eh,_,⟨rfl,rfl⟩,by simp [-getElem?_pos,-List.map_set,-objBelow,-depV],hLH,hle,hfr⟩
    obtain ⟨t,ht⟩:∃ t,t=a.go s c:=⟨_,rfl⟩
    have hrc:=hgo c hlt
    rw [← ht] at hrc
    have hcw:=wrap_succ (show c+1≤9223372036854775807 by have:=hv.hi;omega)
    by_cases ht0:0≤t
    case neg=>
     have ih':=ih (c+1,ac,eh,H) ⟨by simp only;omega,by simp only;rw [Aut.wdsTo_succ,← ht,if_neg ht0,List.append_nil];exact hac',hLH,hle,hfr⟩ (by simp only;omega)
     simp only [autD] at gB
     simp (maxSteps:=2000000) [-getElem?_pos,-List.map_set,-objBelow,-depV] at ih'
     simp (maxSteps:=2000000) [-getElem?_pos,-List.map_set,-objBelow,-depV,gp,hsy,hlt,gB,hbH,hr0,hr0l,hrc,ht0,hcw]
     exact ih'
    obtain ⟨t',rfl⟩:∃ t':Nat,t=t':=⟨t.toNat,by omega⟩
    have htl:t'<a.acc.length:=by
     have:=(Aut.go_dom (x:=(s:Int)) (c:=c) hv).2
     rw [← ht] at this;omega
    have r72:(Q.ann 72).raw=true:=by rw [ann72]
    have hacl:ac.length≤n:=by rw [hac'];exact addW_len hacc
    have hWH:WL H w ww:=hW1.same hLa.O hfr
    obtain ⟨H1,hH1⟩:∃ H1,H1=H++[DObj.app 3 1 ((ww++[(c:Int)]).map numD),.arr 1 [numD c]]:=⟨_,rfl⟩
    have hLH1:LO b oo ot els ac eh H1:=by
     rw [hH1]
     exact hLH.app _ (fun x hx=>by simp [-getElem?_pos,-List.map_set,-objBelow,-depV] at hx;rcases hx with rfl | rfl<;>simp [-getElem?_pos,-List.map_set,-objBelow,-depV,objBelow,below])
    have hWn:WL H1 (.apl H.length (ww++[(c:Int)]).length) (ww++[(c:Int)]):=.ap (by simp [-getElem?_pos,-List.map_set,-objBelow,-depV]) (by rw [hH1];simp [-getElem?_pos,-List.map_set,-objBelow,-depV])
    obtain ⟨e2,D3,q1,q2,q3,q4⟩:=IH oo t' _ _ _ _ _ htl (by omega) (by simp [-getElem?_pos,-List.map_set,-objBelow,-depV] at hwk ⊢;omega) hacl hLH1.from hWn
    have hH1l:H1.length=H.length+2:=by rw [hH1];simp [-getElem?_pos,-List.map_set,-objBelow,-depV]
    have hfrn:∀ i,i<D1.length→i≠oo→D3[i]? =D1[i]?:=fun i hi hne=>by
     rw [q4 i (by omega) hne,hH1,List.getElem?_append_left (by omega),hfr i hi hne]
    have e1:addW n ac (ww++[(c:Int)]) (a.wds k t')=addW n acc ww (a.wdsTo k s (c+1)):=by
     rw [addW_cons,hac',addW_app,Aut.wdsTo_succ,← ht,if_pos (by omega)]
    rw [e1] at q1 q2
    have ih':=ih (c+1,addW n acc ww (a.wdsTo k s (c+1)),e2,D3) ⟨by simp only;omega,rfl,hLH1.back q2 q3 q4,by simp only;omega,hfrn⟩ (by simp only;omega)
    have hlH:=hLH.len
    simp only [autD,intD] at q1
    rw [hH1] at q1
    simp [-getElem?_pos,-List.map_set,-objBelow,-depV] at q1
    have hot:=hLH.hot
    have hoT:=ltOf hLH.T
    have hoo:=hLH.objsL
    cases hWH with
    | no=>
     simp only [List.length_nil,List.map_nil,List.nil_append,Nat.zero_add,hsy] at q1
     simp (maxSteps:=2000000) [-getElem?_pos,-List.map_set,-objBelow,-depV] at ih'
     simp (maxSteps:=2000000) [-getElem?_pos,-List.map_set,-objBelow,-depV,gp,hsy,hlt,gB,hbH,hr0,hr0l,hrc,hcw,q1,r72,hbw,show ¬D.length=H.length by omega,show b≤H.length by omega,show min ot (min H.length oo)=oo by omega,hoo,hbo,show ¬D.length<oo by omega,show oo≤H.length+2 by omega,show wrapF .i64 ((m0:Int)-1)=k by rw [wrap_in (by omega) (by omega)];omega]
     exact ih'
    | @ap ow _ hne hwo=>
     have gW:=fun X=>get_app (X:=X) hwo
     simp only [hsy] at q1
     simp (maxSteps:=2000000) [-getElem?_pos,-List.map_set,-objBelow,-depV] at ih'
     simp (maxSteps:=2000000) [-getElem?_pos,-List.map_set,-objBelow,-depV,gp,hsy,hlt,gB,hbH,hr0,hr0l,hrc,hcw,q1,r72,hbw,gW,hne,show ¬D.length=H.length by omega,show b≤H.length by omega,show ww.length*8≤1099511627776∧ww.length≤1099511627776 by omega,show (ww.length+1)*8≤1099511627776∧ww.length≤1099511627775 by omega,show min ot (min H.length oo)=oo by omega,hoo,hbo,show ¬D.length<oo by omega,show oo≤H.length+2 by omega,show wrapF .i64 ((m0:Int)-1)=k by rw [wrap_in (by omega) (by omega)];omega]
     exact ih'
   clear hX
   refine ⟨es',H,?_⟩
   simp (maxSteps:=2000000) [-getElem?_pos,-List.map_set,-objBelow,-depV,gp,t5]
   rw [hm0]
   exact ⟨rfl,hLH,by omega,fun i hi hne=>by rw [hfr i (by omega) hne,hD1,List.getElem?_append_left hi]⟩
end Go.Dv
namespace Go.Dv
open Go Go.Sim Go.Proofs Go.Fsa
attribute [local simp] encI bitF autD b_neqB b_eqlB el_num set_num fz_num numD bitD el_bit set_bit fz_bit normF_strL
attribute [local simp] eqD_agg eq1_int eq1_bool eq1_lst
noncomputable def errD (a b:Aut):Int:=if a.valid∧b.valid then 1 else 60
theorem w26e (a b:Aut) (h:¬(a.valid∧b.valid∧a.sy=b.sy)) (base:Nat) (D:DH):callD Q 26 [autD a,autD b] base D=some (.tup [rowD [],boolD false,intD (errD a b)],D):=by
 have h19a:=fun bb D'=>w19 a bb D'
 have h19b:=fun bb D'=>w19 b bb D'
 simp only [autD,intD] at h19a h19b
 rw [call_pure (fn:=Tryz.f26) (show Q.P.funcs[26]? =some Tryz.f26 from Tryz.func26) rfl ann26 rfl (by simp only [List.length_cons,List.length_nil];decide) (by kernel_rfl)]
 by_cases va:a.valid
 case neg=>
  have:a.check=60:=by simp [-getElem?_pos,-List.map_set,-objBelow,-depV,Aut.check,va]
  rw [this] at h19a
  simp (maxSteps:=2000000) [-getElem?_pos,-List.map_set,-objBelow,-depV,h19a,errD,va]
 rw [Aut.check_valid.2 va] at h19a
 by_cases vb:b.valid
 case neg=>
  have:b.check=60:=by simp [-getElem?_pos,-List.map_set,-objBelow,-depV,Aut.check,vb]
  rw [this] at h19b
  simp (maxSteps:=2000000) [-getElem?_pos,-List.map_set,-objBelow,-depV,h19a,h19b,errD,va,vb]
 rw [Aut.check_valid.2 vb] at h19b
 simp (maxSteps:=2000000) [-getElem?_pos,-List.map_set,-objBelow,-depV,h19a,h19b,errD,va,vb,show ¬a.sy=b.sy from fun e=>h ⟨va,vb,e⟩]
theorem w27e (a b:Aut) (ha:a.nxt.length<1152921504606846976) (hb:b.nxt.length<1152921504606846976) (h:¬(a.valid∧b.valid∧a.sy=b.sy)) (base:Nat) (D:DH):callD Q 27 [autD a,autD b] base D=some (.tup [rowD [],boolD false,intD (errD a b)],D):=by
 have h68:=fun bb D'=>w68 a b ha hb bb D'
 have e:(if a.check=0∧b.check=0 then (if a.sy=b.sy then 0 else 1) else 60:Int)=errD a b:=by
  unfold errD
  by_cases va:a.valid
  case neg=>simp [-getElem?_pos,-List.map_set,-objBelow,-depV,va,Aut.check]
  by_cases vb:b.valid
  case neg=>simp [-getElem?_pos,-List.map_set,-objBelow,-depV,vb,Aut.check]
  simp [-getElem?_pos,-List.map_set,-objBelow,-depV,va,vb,Aut.check,show ¬a.sy=b.sy from fun e=>h ⟨va,vb,e⟩]
 rw [e] at h68
 have hne:¬errD a b=0:=by unfold errD;split<;>decide
 simp only [autD,intD] at h68
 have r68:(Q.ann 68).raw=false:=by rw [ann68]
 rw [call_pure (fn:=Tryz.f27) (show Q.P.funcs[27]? =some Tryz.f27 from Tryz.func27) rfl ann27 rfl (by simp only [List.length_cons,List.length_nil];decide) (by kernel_rfl)]
 simp (maxSteps:=2000000) [-getElem?_pos,-List.map_set,-objBelow,-depV,h68,r68,hne]
theorem differ_same (a b:Aut) (ha:a.nxt.length<1152921504606846976) (hb:b.nxt.length<1152921504606846976) (hN:(a.nxt.length+1)*(b.nxt.length+1)≤100000) (base:Nat) (D:DH) :
  ∃ (is:Bool) (w:List Int) (e:Int),w.length≤100000∧callD Q 26 [autD a,autD b] base D=some (.tup [rowD w,boolD is,intD e],D)∧callD Q 27 [autD a,autD b] base D=some (.tup [rowD w,boolD is,intD e],D):=by
 by_cases h:a.valid∧b.valid∧a.sy=b.sy
 case neg=>exact ⟨false,[],_,by simp [-getElem?_pos,-List.map_set,-objBelow,-depV],w26e a b h base D,w27e a b ha hb h base D⟩
 obtain ⟨va,vb,hs⟩:=h
 obtain ⟨is,w,l1,h26,f1,t1⟩:=w26x a b va vb hs hN base D
 obtain ⟨is',w',l2,h27,_,t2,f2,t3,f3⟩:=w27y a b va vb hs hN base D
 cases is with
 | false=>
  obtain ⟨rfl,fa⟩:=f1 rfl
  cases is' with
  | false=>
   obtain rfl:=f3 rfl
   exact ⟨false,[],0,by simp [-getElem?_pos,-List.map_set,-objBelow,-depV],h26,h27⟩
  | true=>exact absurd (fa w') (t2 rfl)
 | true=>
  obtain ⟨d1,m1⟩:=t1 rfl
  cases is' with
  | false=>exact absurd (f2 rfl w) d1
  | true=>
   obtain rfl:w=w':=lessB_total (t3 rfl w d1) (m1 w' (t2 rfl))
   exact ⟨true,w,0,l1,h26,h27⟩
end Go.Dv
namespace Go.Dv
open Go Go.Sim Go.Proofs Go.Fsa
attribute [local simp] eqD_agg eq1_int eq1_bool eq1_lst bitsD
attribute [local simp] encI bitF autD b_neqB b_eqlB el_num set_num fz_num numD bitD el_bit set_bit fz_bit
structure TH (a c:Aut) (L q j:Nat) (H:DH):Prop where
 A:H[L]? =some (.arr 4 [autD a])
 B:H[L+1]? =some (.arr 4 [autD c])
 O:H[L+2]? =some (.app 26 1 [])
 T:H[L+3]? =some (.arr 1 ((c.tab j).map bitsD++List.replicate (q-j) nilS))
 bel:∀ (i:Nat) (x:DObj),L≤i→H[i]? =some x→objBelow H.length x=true
theorem frzL_EL {b oo:Nat} {H:DH} (hb:b≤oo):∀ (es:List DV) (acc:List (List Int)),es.length=acc.length→(∀ (i:Nat) (d:DV) (w:List Int),es[i]? =some d→acc[i]? =some w→EL oo H d w)→∃ is,frzL (frz b H 3) es=some (acc.map rowF,is)
 | [],[],_,_=>⟨[],rfl⟩
 | [],_::_,h,_=>by simp [-getElem?_pos,-List.map_set,-objBelow,-depV] at h
 | _::_,[],h,_=>by simp [-getElem?_pos,-List.map_set,-objBelow,-depV] at h
 | d::es,w::acc,hl,h=>by
  obtain ⟨is,e⟩:=frzL_EL hb es acc (by simpa [-getElem?_pos,-List.map_set,-objBelow,-depV] using hl) fun i d w h1 h2=>h (i+1) d w (by simpa [-getElem?_pos,-List.map_set,-objBelow,-depV] using h1) (by simpa [-getElem?_pos,-List.map_set,-objBelow,-depV] using h2)
  have h0:=h 0 d w rfl rfl
  have hd:∃ js,frz b H 3 d=some (rowF w,js):=by
   cases h0 with
   | @em o ho hh=>exact ⟨[o],by unfold frz;simp only [hh];simp [-getElem?_pos,-List.map_set,-objBelow,-depV,Nat.le_trans hb ho,frzL,rowF]⟩
   | @ap o _ ho hne hh=>exact ⟨[o],by unfold frz;simp only [hh];rw [if_pos ⟨Nat.le_trans hb ho,by simp [-getElem?_pos,-List.map_set,-objBelow,-depV],by omega⟩,fz_num];rfl⟩
  obtain ⟨js,e2⟩:=hd
  exact ⟨js++is,by simp [-getElem?_pos,-List.map_set,-objBelow,-depV,frzL,e2,e]⟩
theorem w29 (a:Aut) (ha:a.nxt.length<1152921504606846976) (n q:Int) (hn:n≤300∨10000<n) (hq:q≤60∨1000<q) (base:Nat) (D:DH) :
  callD Q 29 [autD a,intD n,intD q] base D=some (.tup [.f (.lst ((listR a n q).1.map rowF)),intD (listR a n q).2],D):=by
 have h19:=fun D'=>w19 a D.length D'
 have h15:=fun D'=>w15_all a D.length D'
 simp only [autD,intD] at h19
 rw [call_pure (fn:=Tryz.f29) (show Q.P.funcs[29]? =some Tryz.f29 from Tryz.func29) rfl ann29 rfl (by simp only [List.length_cons,List.length_nil];decide) (by kernel_rfl)]
 have gp:=gp29
 simp only [ann29,Tryz.f29,gpB_some,gpC_draw,gpC_reg,gpC_seq,gpC_cond,gpC_block,gpC_loop,gpC_range,gpC_skip,gpC_ret,gpC_exit,gpC_label,gpO_some,gpO_none,findN,Bool.and_eq_true,Bool.and_true,Bool.true_and,reduceIte,Nat.reduceEqDiff,true_and,and_true] at gp
 by_cases hv:a.valid
 case neg=>
  have hc:a.check=60:=by simp [-getElem?_pos,-List.map_set,-objBelow,-depV,Aut.check,hv]
  rw [hc] at h19
  unfold listR
  rw [if_pos hv]
  simp (maxSteps:=2000000) [-getElem?_pos,-List.map_set,-objBelow,-depV,gp,h19]
 have hck:=Aut.check_valid.2 hv
 rw [hck] at h19
 unfold listR
 rw [if_neg (fun h=>h hv)]
 by_cases hbad:n<0∨10000<n∨q<0∨1000<q
 ·rw [if_pos hbad]
  by_cases b1:n<0
  ·simp (maxSteps:=2000000) [-getElem?_pos,-List.map_set,-objBelow,-depV,gp,h19,b1]
  by_cases b2:10000<n
  ·simp (maxSteps:=2000000) [-getElem?_pos,-List.map_set,-objBelow,-depV,gp,h19,b1,b2]
  by_cases b3:q<0
  ·simp (maxSteps:=2000000) [-getElem?_pos,-List.map_set,-objBelow,-depV,gp,h19,b1,b2,b3]
  ·simp (maxSteps:=2000000) [-getElem?_pos,-List.map_set,-objBelow,-depV,gp,h19,b1,b2,b3,show 1000<q by omega]
 rw [if_neg hbad]
 obtain ⟨n,rfl⟩:∃ m:Nat,n=m:=⟨n.toNat,by omega⟩
 obtain ⟨q,rfl⟩:∃ m:Nat,q=m:=⟨q.toNat,by omega⟩
 have hcv:=can_valid hv
 have hst:=can_st (a:=a)
 rw [canon_1 hv,canon_ok.2 hv] at h15
 simp only [Int.toNat_natCast]
 rw [← list_can hv]
 obtain ⟨c,hc⟩:∃ c,c=a.can:=⟨_,rfl⟩
 rw [← hc] at h15 hcv hst ⊢
 simp only [autD,autO,intD] at h15
 have hcl:=hcv.len
 obtain ⟨q1,hq1⟩:∃ q1:Nat,q1=q+1:=⟨_,rfl⟩
 have hqw:wrapF .i64 ((q:Int)+1)=(q1:Int):=by rw [wrap_in (by omega) (by omega)];omega
 by_cases hz:c.nxt.length=0
 ·rw [Aut.list_none (List.eq_nil_of_length_eq_zero (by omega)) (List.eq_nil_of_length_eq_zero hz)]
  simp (maxSteps:=2000000) [-getElem?_pos,-List.map_set,-objBelow,-depV,gp,h19,h15,show ¬10000<(n:Int) by omega,show ¬1000<(q:Int) by omega,show ¬(n:Int)<0 by omega,show ¬(q:Int)<0 by omega,hz]
 simp (maxSteps:=2000000) [-getElem?_pos,-List.map_set,-objBelow,-depV,gp,h19,h15,show ¬10000<(n:Int) by omega,show ¬1000<(q:Int) by omega,show ¬(n:Int)<0 by omega,show ¬(q:Int)<0 by omega,hz,hqw,show q1*24≤140737488355328 by omega,show q1<9223372036854775808 by omega,show 0<q1 by omega]
 rw [show (List.replicate q1 (DV.f (FV.raw (Value.slice none 0 0)))).set 0 (DV.f (FV.lst (List.map bitF c.acc)))=bitsD c.acc::List.replicate q nilS from by rw [hq1];rfl]
 generalize hX:loopG _ _ _=X
 obtain ⟨tm,H,rfl,hTH,hpre,t1,t2,t8,t10,t11⟩:∃ (tm:Trie DV) (H:DH),X=some (.exit 0,⟨tm,H⟩)∧TH a c D.length q q H∧(∀ i,i<D.length→H[i]? =D[i]?)∧tm.get 1=some (intD n)∧tm.get 2=some (intD q)∧tm.get 8=some (.ref (D.length+1) 0 0)∧tm.get 10=some (.apl (D.length+2) 0)∧tm.get 11=some (.row (D.length+3) 0 q1 q1):=by
  rw [← hX]
  clear hX
  generalize hs61:SD.mk _ _=sd61
  revert sd61
  have hbel0:∀ (i:Nat) (x:DObj),D.length≤i→(D++[DObj.arr 4 [autD a],.arr 4 [autD c],.app 26 1 [],.arr 1 (bitsD c.acc::List.replicate q nilS)])[i]? =some x→objBelow (D++[DObj.arr 4 [autD a],.arr 4 [autD c],.app 26 1 [],.arr 1 (bitsD c.acc::List.replicate q nilS)]).length x=true:=fun i x hi hx=>by
   rw [List.getElem?_append_right hi] at hx
   have:=List.mem_of_getElem? hx
   simp only [List.mem_cons,List.not_mem_nil,or_false] at this
   rcases this with rfl | rfl | rfl | rfl<;>simp [-getElem?_pos,-List.map_set,-objBelow,-depV,objBelow,below]
  refine wl (fun p:Nat×DH=>⟨(((((Trie.leaf.put 12 (intD ((p.1+1:Nat):Int))).put 11 (.row (D.length+3) 0 q1 q1)).put 10 (.apl (D.length+2) 0)).put 8 (.ref (D.length+1) 0 0)).put 2 (intD q)).put 1 (intD n),p.2⟩) (fun p=>p.1≤q∧TH a c D.length q p.1 p.2∧∀ i,i<D.length→p.2[i]? =D[i]?) (fun p=>q-p.1) ?_ (0,D++[.arr 4 [autD a],.arr 4 [autD c],.app 26 1 [],.arr 1 (bitsD c.acc::List.replicate q nilS)]) ⟨Nat.zero_le _,⟨by simp [-getElem?_pos,-List.map_set,-objBelow,-depV],by simp [-getElem?_pos,-List.map_set,-objBelow,-depV],by simp [-getElem?_pos,-List.map_set,-objBelow,-depV],by simp [-getElem?_pos,-List.map_set,-objBelow,-depV,Aut.tab0],hbel0⟩,fun i hi=>List.getElem?_append_left hi⟩
  rintro ⟨j,H⟩ ⟨hj,hTH,hpre⟩ ih
  simp only at hj hTH hpre ih
  rw [loopG_eq]
  have gB:=fun X=>get_app (X:=X) hTH.B
  have hB:=hTH.B
  have hT:=hTH.T
  have hTl:=ltOf hT
  obtain ⟨k,hk⟩:∃ k,k=j+1:=⟨_,rfl⟩
  simp only [← hk]
  by_cases hlt:j<q
  case neg=>
   obtain rfl:j=q:=by omega
   simp (maxSteps:=2000000) [-getElem?_pos,-List.map_set,-objBelow,-depV,gp,show ¬(k:Int)≤j by omega]
   exact ⟨_,_,⟨rfl,rfl⟩,hTH,hpre,by simp [-getElem?_pos,-List.map_set,-objBelow,-depV]⟩
  have hqk:q-j=(q-k)+1:=by omega
  obtain ⟨T,hTT⟩:∃ T,T=(c.tab j).map bitsD++List.replicate (q-j) nilS:=⟨_,rfl⟩
  have hTl1:T.length=q1:=by rw [hTT];simp [-getElem?_pos,-List.map_set,-objBelow,-depV,Aut.tab_len];omega
  rw [← hTT] at hT
  have hTk:T[k]? =some nilS:=by
   rw [hTT,List.getElem?_append_right (by simp [-getElem?_pos,-List.map_set,-objBelow,-depV,Aut.tab_len];omega),List.getElem?_replicate,if_pos (by simp [-getElem?_pos,-List.map_set,-objBelow,-depV,Aut.tab_len];omega)]
  have hTj:T[j]? =some (bitsD ((List.range c.acc.length).map fun s:Nat=>c.fulW j s)):=by
   rw [hTT,List.getElem?_append_left (by simp [-getElem?_pos,-List.map_set,-objBelow,-depV,Aut.tab_len]),List.getElem?_map,Aut.tab_get (Nat.le_refl _)];rfl
  have gT:=fun X=>get_app (X:=X) hT
  have hbl:D.length+3<H.length:=hTl
  have hcm:c.acc.length≤200000:=by have:=hcv.most;omega
  simp (maxSteps:=2000000) [-getElem?_pos,-List.map_set,-objBelow,-depV,gp,show (k:Int)≤q by omega,hB,gB,hT,gT,hTl1,hTk,hbl,show D.length≤H.length by omega,hcl,show c.acc.length≤140737488355328 by omega,show c.acc.length<9223372036854775808 by omega,show k<q1 by omega]
  obtain ⟨m,hm⟩:∃ m,m=c.acc.length:=⟨_,rfl⟩
  obtain ⟨Hb,hHb⟩:∃ Hb,Hb=H.set (D.length+3) (.arr 1 (T.set k (.row H.length 0 m m))):=⟨_,rfl⟩
  have hHbl:H.length=Hb.length:=by rw [hHb];simp [-getElem?_pos,-List.map_set,-objBelow,-depV]
  have hbB:Hb[D.length+1]? =some (.arr 4 [autD c]):=by rw [hHb,List.getElem?_set_ne (by omega)];exact hB
  have hbT:Hb[D.length+3]? =some (.arr 1 (T.set k (.row H.length 0 m m))):=by rw [hHb,List.getElem?_set_self (by omega)]
  have hTkj:(T.set k (.row H.length 0 m m))[j]? =some (bitsD ((List.range c.acc.length).map fun s:Nat=>c.fulW j s)):=by rw [List.getElem?_set_ne (by omega)];exact hTj
  have hTkk:(T.set k (.row H.length 0 m m))[k]? =some (.row H.length 0 m m):=List.getElem?_set_self (by omega)
  have hTkl:(T.set k (.row H.length 0 m m)).length=q1:=by rw [List.length_set];exact hTl1
  obtain ⟨Rk,hRk⟩:∃ R,R=(List.range c.acc.length).map fun s:Nat=>c.fulW k s:=⟨_,rfl⟩
  obtain ⟨Rj,hRj⟩:∃ R,R=(List.range c.acc.length).map fun s:Nat=>c.fulW j s:=⟨_,rfl⟩
  have hRjl:Rj.length=m:=by rw [hRj];simp [-getElem?_pos,-List.map_set,-objBelow,-depV,hm]
  have hRjg:∀ g:Nat,g<m→Rj[g]? =some (c.fulW j g):=fun g h=>by rw [hRj];exact Aut.tab_row (by omega)
  rw [← hRj] at hTkj
  have hwk:wrapF .i64 ((k:Int)-1)=(j:Int):=by rw [wrap_in (by omega) (by omega)];omega
  obtain ⟨T1,hT1⟩:∃ T1,T1=T.set k (.row H.length 0 m m):=⟨_,rfl⟩
  rw [← hT1] at hbT hTkj hTkk hTkl
  have gbB:=fun X=>get_app (X:=X) hbB
  have gbT:=fun X=>get_app (X:=X) hbT
  rw [← hm,← hHb,show List.replicate m (DV.f (FV.raw (Value.bool false)))=(List.replicate m false).map bitD by simp [-getElem?_pos,-List.map_set,-objBelow,-depV,bitD]]
  generalize hX:loopG _ _ _=X
  obtain ⟨tm,rfl,t1,t2,t8,t10,t11,t12⟩:∃ tm,X=some (.exit 2,⟨tm,Hb++[.arr 1 (Rk.map bitD)]⟩)∧tm.get 1=some (intD n)∧tm.get 2=some (intD q)∧tm.get 8=some (.ref (D.length+1) 0 0)∧tm.get 10=some (.apl (D.length+2) 0)∧tm.get 11=some (.row (D.length+3) 0 q1 q1)∧tm.get 12=some (intD k):=by
   rw [← hX]
   clear hX ih
   generalize hs62:SD.mk _ _=sd62
   revert sd62
   refine wl (fun p:Nat×List Bool=>⟨((((((Trie.leaf.put 13 (intD p.1)).put 12 (intD k)).put 11 (.row (D.length+3) 0 q1 q1)).put 10 (.apl (D.length+2) 0)).put 8 (.ref (D.length+1) 0 0)).put 2 (intD q)).put 1 (intD n),Hb++[.arr 1 (p.2.map bitD)]⟩) (fun p=>p.1≤m∧p.2.length=m∧(∀ i:Nat,i<p.1→p.2[i]? =some (c.fulW k i))∧∀ i,p.1≤i→i<m→p.2[i]? =some false) (fun p=>m-p.1) ?_ (0,List.replicate m false) ⟨Nat.zero_le _,by simp [-getElem?_pos,-List.map_set,-objBelow,-depV],fun i h=>absurd h (Nat.not_lt_zero _),fun i _ h=>by rw [List.getElem?_replicate,if_pos h]⟩
   rintro ⟨s,l⟩ ⟨hs,hll,hl1,hl2⟩ ih
   simp only at hs hll hl1 hl2 ih
   rw [loopG_eq]
   by_cases hsm:s<m
   case neg=>
    have hle:l=Rk:=by
     rw [hRk]
     refine List.ext_getElem? fun i=>?_
     rcases Nat.lt_or_ge i m with g | g
     ·rw [hl1 i (by omega),List.getElem?_map,List.getElem?_range (by omega)];rfl
     ·rw [List.getElem?_eq_none (by omega),List.getElem?_eq_none (by simp [-getElem?_pos,-List.map_set,-objBelow,-depV];omega)]
    subst hle
    simp (maxSteps:=2000000) [-getElem?_pos,-List.map_set,-objBelow,-depV,gp,hbB,gbB,hcl,← hm,hsm]
   simp (maxSteps:=2000000) [-getElem?_pos,-List.map_set,-objBelow,-depV,gp,hbB,gbB,hcl,← hm,hsm]
   obtain ⟨sy,hsy⟩:∃ sy:Nat,c.sy=sy:=⟨c.sy.toNat,by have:=hcv.lo;omega⟩
   obtain ⟨r0,hr0⟩:=getOf (l:=c.nxt) (i:=s) (by omega)
   have hrow:=hcv.rows r0 (List.mem_of_getElem? hr0)
   have hr0l:r0.length=sy:=by have:=hrow.1;omega
   have hgo:∀ x:Nat,x<sy→r0[x]? =some (c.go s x):=fun x hx=>by
    obtain ⟨r',h1,h2⟩:=Aut.go_some hcv (s:=(s:Int)) (by omega) (by omega) (c:=x) (by omega)
    simp only [Int.toNat_natCast] at h1
    rw [hr0] at h1;cases h1;exact h2
   obtain ⟨An,hAn⟩:∃ An:Nat→Bool,An=fun y=>(List.range y).any fun x=>decide (0≤c.go s x)&&c.fulW j (c.go s x):=⟨_,rfl⟩
   have hAS:∀ y,An (y+1)=(An y||(decide (0≤c.go s y)&&c.fulW j (c.go s y))):=fun y=>by rw [hAn];simp [-getElem?_pos,-List.map_set,-objBelow,-depV,List.range_succ]
   have hAk:c.fulW k s=An sy:=by rw [hk,Aut.fulW_succ,hAn,hsy];rfl
   have hA0:An 0=false:=by rw [hAn];rfl
   have hls:l.set s false=l:=by
    refine List.ext_getElem? fun i=>?_
    by_cases e:i=s
    ·subst e;rw [List.getElem?_set_self (by omega),hl2 _ (Nat.le_refl _) hsm]
    ·rw [List.getElem?_set_ne (Ne.symm e)]
   rw [show List.map bitD l=List.map bitD (l.set s false) by rw [hls]]
   generalize hX:loopG _ _ _=X
   obtain ⟨tm,rfl,t1,t2,t8,t10,t11,t12,t13⟩:∃ tm,X=some (.exit 4,⟨tm,Hb++[.arr 1 ((l.set s (An sy)).map bitD)]⟩)∧tm.get 1=some (intD n)∧tm.get 2=some (intD q)∧tm.get 8=some (.ref (D.length+1) 0 0)∧tm.get 10=some (.apl (D.length+2) 0)∧tm.get 11=some (.row (D.length+3) 0 q1 q1)∧tm.get 12=some (intD k)∧tm.get 13=some (intD s):=by
    rw [← hX]
    clear hX ih
    generalize hs63:SD.mk _ _=sd63
    revert sd63
    refine wl (fun p:Nat×Bool=>⟨(((((((Trie.leaf.put 14 (intD p.1)).put 13 (intD s)).put 12 (intD k)).put 11 (.row (D.length+3) 0 q1 q1)).put 10 (.apl (D.length+2) 0)).put 8 (.ref (D.length+1) 0 0)).put 2 (intD q)).put 1 (intD n),Hb++[.arr 1 ((l.set s p.2).map bitD)]⟩) (fun p=>p.1≤sy∧p.2=An p.1) (fun p=>sy-p.1) ?_ (0,false) ⟨Nat.zero_le _,hA0.symm⟩
    rintro ⟨x,v⟩ ⟨hx,hv'⟩ ih
    simp only at hx hv' ih
    rw [loopG_eq]
    by_cases hxs:x<sy
    case neg=>
     obtain rfl:x=sy:=by omega
     subst hv'
     simp (maxSteps:=2000000) [-getElem?_pos,-List.map_set,-objBelow,-depV,gp,hsy,hbB,gbB]
    have hgx:=hgo x hxs
    have hAx:=hAS x
    obtain ⟨g,hg⟩:∃ g,g=c.go s x:=⟨_,rfl⟩
    rw [← hg] at hgx hAx
    have hww:=wrap_succ (show x+1≤9223372036854775807 by have:=hcv.hi;omega)
    by_cases g0:0≤g
    case neg=>
     have ih':=ih (x+1,v) ⟨by simp only;omega,by simp only;rw [hAx,hv'];simp [-getElem?_pos,-List.map_set,-objBelow,-depV,g0]⟩ (by simp only;omega)
     simp (maxSteps:=2000000) [-getElem?_pos,-List.map_set,-objBelow,-depV] at ih'
     simp (maxSteps:=2000000) [-getElem?_pos,-List.map_set,-objBelow,-depV,gp,hsy,hbB,gbB,hxs,gbT,hbT,hTkj,hTkl,hr0,hr0l,hgx,g0,hww]
     exact ih'
    obtain ⟨g',rfl⟩:∃ y:Nat,g=y:=⟨g.toNat,by omega⟩
    have hgm:g'<m:=by
     have:=(Aut.go_dom (x:=(s:Int)) (c:=x) hcv).2
     rw [← hg] at this;omega
    have hRg:=hRjg g' hgm
    have hsl:s<(l.set s v).length:=by rw [List.length_set];omega
    have hsv:(l.set s v)[s]? =some v:=List.getElem?_set_self (by omega)
    cases hfu:c.fulW j g' with
    | false=>
     rw [hfu] at hRg
     have ih':=ih (x+1,v) ⟨by simp only;omega,by simp only;rw [hAx,hv',hfu];simp [-getElem?_pos,-List.map_set,-objBelow,-depV]⟩ (by simp only;omega)
     simp (maxSteps:=2000000) [-getElem?_pos,-List.map_set,-objBelow,-depV] at ih'
     simp (maxSteps:=2000000) [-getElem?_pos,-List.map_set,-objBelow,-depV,gp,hsy,hbB,gbB,hxs,gbT,hbT,hTkj,hTkl,hr0,hr0l,hgx,hww,hwk,hRjl,hRg,show j<q1 by omega,hgm]
     exact ih'
    | true=>
     rw [hfu] at hRg
     have ih':=ih (x+1,true) ⟨by simp only;omega,by simp only;rw [hAx,hfu];simp [-getElem?_pos,-List.map_set,-objBelow,-depV]⟩ (by simp only;omega)
     simp (maxSteps:=2000000) [-getElem?_pos,-List.map_set,-objBelow,-depV] at ih'
     simp (maxSteps:=2000000) [-getElem?_pos,-List.map_set,-objBelow,-depV,gp,hsy,hbB,gbB,hxs,gbT,hbT,hTkj,hTkl,hr0,hr0l,hgx,hww,hwk,hRjl,hRg,show j<q1 by omega,hgm,hTkk,show k<q1 by omega,hHbl,hsl,hll,hsv,hsm,show D.length≤Hb.length by omega]
     exact ih'
   clear hX
   have hlv:(l.set s (An sy)).length=m:=by rw [List.length_set];exact hll
   have ih':=ih (s+1,l.set s (An sy)) ⟨by simp only;omega,hlv,fun i hi=>by
    simp only
    by_cases e:i=s
    ·subst e;rw [List.getElem?_set_self (by omega),← hAk]
    ·rw [List.getElem?_set_ne (Ne.symm e)];exact hl1 i (by simp only at hi;omega),fun i h1 h2=>by
    simp only at h1 ⊢
    rw [List.getElem?_set_ne (by omega)];exact hl2 i (by omega) h2⟩ (by simp only;omega)
   simp (maxSteps:=2000000) [-getElem?_pos,-List.map_set,-objBelow,-depV] at ih'
   simp (maxSteps:=2000000) [-getElem?_pos,-List.map_set,-objBelow,-depV,gp,t1,t2,t8,t10,t11,t12,t13,hHbl,wrap_succ (show s+1≤9223372036854775807 by omega)]
   exact ih'
  clear hX
  have hRkl:Rk.length=m:=by rw [hRk];simp [-getElem?_pos,-List.map_set,-objBelow,-depV,hm]
  have htk:List.take m (Rk.map bitD)=Rk.map bitD:=List.take_of_length_le (by simp [-getElem?_pos,-List.map_set,-objBelow,-depV,hRkl])
  simp (maxSteps:=2000000) [-getElem?_pos,-List.map_set,-objBelow,-depV,gp,t1,t2,t8,t10,t11,t12,gbT,hbT,hTkk,hTkl,hHbl,hRkl,htk,show D.length≤Hb.length by omega,show D.length≤D.length+3 by omega,show ¬Hb.length=D.length+3 by omega,wrap_succ (show k+1≤9223372036854775807 by omega)]
  have hset:T1.set k (bitsD Rk)=(c.tab k).map bitsD++List.replicate (q-k) nilS:=by
   rw [hT1,List.set_set,hTT,hqk,List.replicate_succ,List.set_append_right _ _ (by simp [-getElem?_pos,-List.map_set,-objBelow,-depV,Aut.tab_len];omega),hk,Aut.tab_succ,List.map_append,← hk,← hRk]
   simp [-getElem?_pos,-List.map_set,-objBelow,-depV,Aut.tab_len,hk]
  obtain ⟨H',hH'⟩:∃ H',H'=(Hb++[DObj.dead]).set (D.length+3) (.arr 1 (T1.set k (bitsD Rk))):=⟨_,rfl⟩
  have hH'l:H'.length=H.length+1:=by rw [hH'];simp [-getElem?_pos,-List.map_set,-objBelow,-depV];omega
  have hget:∀ i,i<H.length→i≠D.length+3→H'[i]? =H[i]?:=fun i h1 h2=>by
   rw [hH',List.getElem?_set_ne (Ne.symm h2),List.getElem?_append_left (by omega),hHb,List.getElem?_set_ne (Ne.symm h2)]
  have hTH':TH a c D.length q k H':=⟨by rw [hget _ (by omega) (by omega)];exact hTH.A,by rw [hget _ (by omega) (by omega)];exact hTH.B,by rw [hget _ (by omega) (by omega)];exact hTH.O,by rw [hH',List.getElem?_set_self (by simp [-getElem?_pos,-List.map_set,-objBelow,-depV];omega),hset],fun i x hi hx=>by
   by_cases e:i=D.length+3
   ·subst e
    rw [hH',List.getElem?_set_self (by simp [-getElem?_pos,-List.map_set,-objBelow,-depV];omega),hset] at hx
    cases hx
    simp [-getElem?_pos,-List.map_set,-objBelow,-depV,objBelow,below]
   ·rcases Nat.lt_or_ge i H.length with g | g
    ·rw [hget i g e] at hx
     exact objBelow_le (by omega) x (hTH.bel i x hi hx)
    ·rw [hH',List.getElem?_set_ne (Ne.symm e),List.getElem?_append_right (by omega)] at hx
     have:=List.mem_of_getElem? hx
     simp [-getElem?_pos,-List.map_set,-objBelow,-depV] at this
     subst this
     rfl⟩
  have ih':=ih (k,H') ⟨by simp only;omega,hTH',fun i hi=>by simp only;rw [hget i (by omega) (by omega)];exact hpre i hi⟩ (by simp only;omega)
  simp only [bitsD] at hH'
  rw [← hH']
  exact ih'
 clear hX
 have hLO0:LO D.length (D.length+2) (D.length+3) (c.tab q) [] [] H:=⟨by omega,by omega,fun i x h1 h2 hx=>by
  by_cases e:i=D.length
  ·subst e;rw [hTH.A] at hx;cases hx;simp [-getElem?_pos,-List.map_set,-objBelow,-depV,objBelow,below]
  ·obtain rfl:i=D.length+1:=by omega
   rw [hTH.B] at hx;cases hx;simp [-getElem?_pos,-List.map_set,-objBelow,-depV,objBelow,below],by rw [hTH.T];simp [-getElem?_pos,-List.map_set,-objBelow,-depV],hTH.O,rfl,fun i d w h=>by simp [-getElem?_pos,-List.map_set,-objBelow,-depV] at h,hTH.bel⟩
 have hWT:WTab c (c.tab q):=fun k hk=>⟨_,Aut.tab_get (by rw [Aut.tab_len] at hk;omega),by simp [-getElem?_pos,-List.map_set,-objBelow,-depV],fun s hs=>Aut.tab_row hs⟩
 simp (maxSteps:=2000000) [-getElem?_pos,-List.map_set,-objBelow,-depV,gp,t1,t2,t8,t10,t11]
 generalize hX:loopG _ _ _=X
 obtain ⟨tm',es,H',rfl,hLO,hpre',t10'⟩:∃ (tm':Trie DV) (es:List DV) (H':DH),X=some (.exit 6,⟨tm',H'⟩)∧LO D.length (D.length+2) (D.length+3) (c.tab q) (c.list n (q+1)) es H'∧(∀ i,i<D.length→H'[i]? =D[i]?)∧tm'.get 10=some (.apl (D.length+2) (c.list n (q+1)).length):=by
  rw [← hX]
  clear hX
  generalize hs64:SD.mk _ _=sd64
  revert sd64
  refine wl (fun p:Nat×List DV×DH=>⟨(((((Trie.leaf.put 15 (intD p.1)).put 11 (.row (D.length+3) 0 q1 q1)).put 10 (.apl (D.length+2) (c.list n p.1).length)).put 8 (.ref (D.length+1) 0 0)).put 2 (intD q)).put 1 (intD n),p.2.2⟩) (fun p=>p.1≤q+1∧LO D.length (D.length+2) (D.length+3) (c.tab q) (c.list n p.1) p.2.1 p.2.2∧p.2.2[D.length+1]? =some (.arr 4 [autD c])∧∀ i,i<D.length→p.2.2[i]? =D[i]?) (fun p=>q+1-p.1) ?_ (0,[],H) ⟨Nat.zero_le _,hLO0,hTH.B,hpre⟩
  rintro ⟨k,es,H1⟩ ⟨hk,hLO,hB,hpr⟩ ih
  simp only at hk hLO hB hpr ih
  rw [loopG_eq]
  have hll:(c.list n k).length≤n:=Aut.list_le
  have hO:=hLO.O
  have hlen:=hLO.len
  have hbl:D.length≤H1.length:=by have:=ltOf hO;omega
  by_cases hkq:k≤q
  case neg=>
   obtain rfl:k=q+1:=by omega
   simp (maxSteps:=2000000) [-getElem?_pos,-List.map_set,-objBelow,-depV,gp,show ¬((q:Int)+1≤q) by omega]
   exact ⟨_,es,_,⟨rfl,rfl⟩,hLO,hpr,by simp [-getElem?_pos,-List.map_set,-objBelow,-depV]⟩
  by_cases hful:(c.list n k).length<n
  case neg=>
   rw [Aut.list_full (k:=q+1) (Nat.le_of_not_lt hful) (by omega)]
   simp (maxSteps:=2000000) [-getElem?_pos,-List.map_set,-objBelow,-depV,gp,show (k:Int)≤q by omega,hO,hlen,hful]
   exact ⟨_,es,_,⟨rfl,rfl⟩,hLO,hpr,by simp [-getElem?_pos,-List.map_set,-objBelow,-depV]⟩
  obtain ⟨es',H2,g1,g2,g3,g4⟩:=w72 hcv n (by omega) hWT q1 (by rw [Aut.tab_len,hq1]) k D.length 0 [] nilS _ es H1 (by omega) (by omega) (by simp [-getElem?_pos,-List.map_set,-objBelow,-depV];omega) hll hLO .no
  have el:addW n (c.list n k) [] (c.wds k ((0:Nat):Int))=c.list n (k+1):=by
   show _=addW n (c.list n k) [] (c.wds k c.st)
   rw [hst];rfl
  rw [el] at g1 g2
  have ih':=ih (k+1,es',H2) ⟨by simp only;omega,g2,by simp only;rw [g4 _ (ltOf hB) (by omega)];exact hB,fun i hi=>by simp only;rw [g4 i (by omega) (by omega)];exact hpr i hi⟩ (by simp only;omega)
  have r72:(Q.ann 72).raw=true:=by rw [ann72]
  simp only [autD,intD] at g1
  simp [-getElem?_pos,-List.map_set,-objBelow,-depV] at g1
  simp (maxSteps:=2000000) [-getElem?_pos,-List.map_set,-objBelow,-depV] at ih'
  simp (maxSteps:=2000000) [-getElem?_pos,-List.map_set,-objBelow,-depV,gp,show (k:Int)≤q by omega,hO,hlen,hful,hB,g1,r72,hLO.objs,hbl,wrap_succ (show k+1≤9223372036854775807 by omega)]
  exact ih'
 clear hX
 obtain ⟨is,hfz⟩:=frzL_EL (b:=D.length) (oo:=D.length+2) (by omega) es _ hLO.len hLO.el
 have hO:=hLO.O
 have hlen:=hLO.len
 have htk:H'.take D.length=D:=by
  refine List.ext_getElem? fun i=>?_
  rw [List.getElem?_take]
  by_cases g:i<D.length
  ·rw [if_pos g];exact hpre' i g
  ·rw [if_neg g,List.getElem?_eq_none (by omega)]
 simp (maxSteps:=2000000) [-getElem?_pos,-List.map_set,-objBelow,-depV,gp,t10',hO,hfz,hlen,htk]
end Go.Dv
namespace Go.Dv
open Go Go.Sim Go.Proofs Go.Fsa
attribute [local simp] encI bitF autD b_neqB b_eqlB el_num set_num fz_num numD bitD el_bit set_bit fz_bit normF_strL bl_byte
attribute [local simp] agO_g agW_t agW_f
attribute [local simp] eqD_agg eq1_int eq1_bool eq1_lst
theorem w4 (a b:Aut) (n q:Int) (ha:a.nxt.length<1152921504606846976) (hb:b.nxt.length<1152921504606846976) (base:Nat) (D:DH) :
  callD Q 4 [autD a,autD b,intD n,intD q] base D=some (boolD true,D):=by
 rw [call_pure (fn:=Tryz.f4) (show Q.P.funcs[4]? =some Tryz.f4 from Tryz.func4) rfl ann4 rfl (by simp only [List.length_cons,List.length_nil];decide) (by kernel_rfl)]
 have h11:∀ b D,callD Q 11 [] b D=some (rv (.bool true),D):=fun b D=>call_told (by kernel_rfl)
 have h12:=fun bb=>w12 [a,b] (by simp [-getElem?_pos,-List.map_set,-objBelow,-depV]) (by simp [-getElem?_pos,-List.map_set,-objBelow,-depV];exact ⟨ha,hb⟩) (D.length+2) bb (D++[.arr 4 [autD a],.arr 4 [autD b],.arr 4 [autD a,autD b]]) (by simp [-getElem?_pos,-List.map_set,-objBelow,-depV])
 simp only [List.length_cons,List.length_nil,Nat.zero_add,Nat.reduceAdd,boolD,autD] at h12
 by_cases hs:∀ x∈[a,b],x.small
 case neg=>
  rw [decide_eq_false hs] at h12
  simp (maxSteps:=2000000) [-getElem?_pos,-List.map_set,-objBelow,-depV,h11,h12]
 rw [decide_eq_true hs] at h12
 have hsa:=hs a (by simp [-getElem?_pos,-List.map_set,-objBelow,-depV])
 have hsb:=hs b (by simp [-getElem?_pos,-List.map_set,-objBelow,-depV])
 have hN:(a.nxt.length+1)*(b.nxt.length+1)≤100000:=Nat.le_trans (Nat.mul_le_mul (by have:=hsa.2.1;omega) (by have:=hsb.2.1;omega):_≤42*42) (by decide)
 by_cases n1:300<n∧n≤10000
 ·simp (maxSteps:=2000000) [-getElem?_pos,-List.map_set,-objBelow,-depV,h11,h12,n1.1,n1.2]
 by_cases q1:60<q∧q≤1000
 ·by_cases n2:300<n
  ·simp (maxSteps:=2000000) [-getElem?_pos,-List.map_set,-objBelow,-depV,h11,h12,n2,show ¬n≤10000 by omega,q1.1,q1.2]
  ·simp (maxSteps:=2000000) [-getElem?_pos,-List.map_set,-objBelow,-depV,h11,h12,n2,q1.1,q1.2]
 obtain ⟨is,w,e,hwl,h26,h27⟩:=differ_same a b ha hb hN D.length (D++[.arr 4 [autD a],.arr 4 [autD b],.arr 4 [autD a,autD b]])
 have h28:=fun bb=>w28 w w (by omega) (by omega) (D.length+3) (D.length+4) bb (D++[.arr 4 [autD a],.arr 4 [autD b],.arr 4 [autD a,autD b],.arr 1 [rowD w],.arr 1 [rowD w]]) (by simp [-getElem?_pos,-List.map_set,-objBelow,-depV]) (by simp [-getElem?_pos,-List.map_set,-objBelow,-depV])
 have h29:=fun bb D'=>w29 a ha n q (by omega) (by omega) bb D'
 have h30:=fun bb D'=>w30 a ha n q (by omega) (by omega) bb D'
 have hll:∀ u∈(listR a n q).1,u.length<1152921504606846976:=fun u hu=>by
  unfold listR at hu
  split at hu
  ·simp [-getElem?_pos,-List.map_set,-objBelow,-depV] at hu
  ·rename_i hv
   split at hu
   ·simp [-getElem?_pos,-List.map_set,-objBelow,-depV] at hu
   ·have:=(list_acc (by simpa [-getElem?_pos,-List.map_set,-objBelow,-depV] using hv) hu).2
    omega
 have hlm:(listR a n q).1.length<1152921504606846976:=by
  unfold listR
  split
  ·simp [-getElem?_pos,-List.map_set,-objBelow,-depV]
  ·split
   ·simp [-getElem?_pos,-List.map_set,-objBelow,-depV]
   ·have:=Aut.list_le (a:=a) (n:=n.toNat) (k:=q.toNat+1)
    simp only
    omega
 have h28l:=fun bb D'=>w28l (listR a n q).1 (listR a n q).1 hlm hll hll bb D'
 have r28:(Q.ann 28).raw=false:=by rw [ann28]
 simp only [autD,intD,boolD,rowD,rowF] at h26 h27 h28 h29 h30 h28l
 generalize (listR a n q).1=L at *
 generalize (listR a n q).2=E at *
 by_cases n2:300<n
 ·by_cases q2:60<q
  ·simp (maxSteps:=2000000) [-getElem?_pos,-List.map_set,-objBelow,-depV,h11,h12,n2,q2,show ¬n≤10000 by omega,show ¬q≤1000 by omega,h26,h27,h28,h29,h30,h28l,r28]
  ·simp (maxSteps:=2000000) [-getElem?_pos,-List.map_set,-objBelow,-depV,h11,h12,n2,q2,show ¬n≤10000 by omega,h26,h27,h28,h29,h30,h28l,r28]
 ·by_cases q2:60<q
  ·simp (maxSteps:=2000000) [-getElem?_pos,-List.map_set,-objBelow,-depV,h11,h12,n2,q2,show ¬q≤1000 by omega,h26,h27,h28,h29,h30,h28l,r28]
  ·simp (maxSteps:=2000000) [-getElem?_pos,-List.map_set,-objBelow,-depV,h11,h12,n2,q2,h26,h27,h28,h29,h30,h28l,r28]
end Go.Dv
