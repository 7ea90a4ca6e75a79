/- Texts of this proof, part WC. -/
import Derived.Test.YtfjbdkmmoinngaaGreatDoorWB
import Derived.Test.YtfjbdkmmoinngaaGreatDoorDvB
import Derived.Test.YtfjbdkmmoinngaaGreatDoorPure
set_option linter.unusedVariables false
set_option linter.unusedSimpArgs false
set_option linter.unusedSectionVars false
set_option maxRecDepth 100000
set_option maxHeartbeats 4000000
namespace Go.Dv
open Go Go.Sim Go.Proofs Go.Fsa
attribute [local simp] encI bitF autD b_neqB b_eqlB el_num set_num fz_num numD bitD el_bit set_bit fz_bit normF_strL
theorem w76e (base:Nat) (D:DH):callD Q 76 [.em] base D=some (rowD [],D):=by
 rw [call_pure (fn:=Tryz.f76) (show Q.P.funcs[76]? =some Tryz.f76 from Tryz.func76) rfl ann76 rfl (by simp only [List.length_cons,List.length_nil];decide) (by kernel_rfl)]
 simp (maxSteps:=2000000) [-getElem?_pos,-List.map_set,-objBelow,-depV]
theorem okEl_nums {l:List Int}:(l.map numD).all (okEl 1)=true:=by
 rw [List.all_map,List.all_eq_true];intro x _;rfl
theorem w76l (l:List Int) (hl:l.length<1000) (hne:l≠[]) (o ver ctr:Nat) (L:List (Nat×List DV)) (base:Nat) (D:DH) (hD:D[o]? =some (.chn 3 1 ctr L)) (hL:headL (cutL ver L)=some (l.map numD)):callD Q 76 [.lv o ver l.length] base D=some (rowD l,D):=by
 have ga:=fun X=>get_app (X:=X) hD
 have hN:=fun n=>elN_chn (v:=ver) (n:=n) (e:=3) (sz:=1) (ctr:=ctr) hL
 have hp:=List.length_pos_iff.2 hne
 have hk:=okEl_nums (l:=l)
 rw [call_pure (fn:=Tryz.f76) (show Q.P.funcs[76]? =some Tryz.f76 from Tryz.func76) rfl ann76 rfl (by simp only [List.length_cons,List.length_nil];decide) (by kernel_rfl)]
 simp (maxSteps:=2000000) [-getElem?_pos,-List.map_set,-objBelow,-depV,ga,hN,hk,show l.length*8≤1099511627776∧l.length≤1099511627776 by omega,show ¬l.length=0 by omega,hne]
def bitsD (l:List Bool):DV:=.f (.lst (l.map bitF))
def CanR (D:DH) (v:DV) (oc:Nat) (els:List (List Bool)):Prop:=(v=.row oc 0 1 1∧els.length=1∧D[oc]? =some (.arr 1 (els.map bitsD)))∨(v=.apl oc els.length∧D[oc]? =some (.app 22 1 (els.map bitsD)))
theorem CanR.ix {D:DH} {v:DV} {oc:Nat} {els:List (List Bool)} {k:Nat} {r:List Bool} (h:CanR D v oc els) (hk:els[k]? =some r):∃ p,(∀ (T:SlT) A,T.sz=1→dIndexA D (some T) A k v=some p)∧dLoad D none p=some (bitsD r):=by
 have hkl:=ltOf hk
 rcases h with ⟨rfl,h1,h2⟩ | ⟨rfl,h2⟩
 ·refine ⟨.ref oc (0+k) 0,fun T A hT=>?_,?_⟩
  ·simp [-getElem?_pos,-List.map_set,-objBelow,-depV,dIndexA,h2,hT];omega
  ·simp [-getElem?_pos,-List.map_set,-objBelow,-depV,dLoad,h2,ldEl,hk,partD,bitsD,cellsD]
 ·refine ⟨.rfa oc els.length k 0,fun T A hT=>?_,?_⟩
  ·simp [-getElem?_pos,-List.map_set,-objBelow,-depV,dIndexA,h2,hT,hkl]
  ·simp [-getElem?_pos,-List.map_set,-objBelow,-depV,dLoad,h2,ldEl,hk,partD,bitsD,cellsD]
theorem w74 (x:Int) (m:Nat) (hm:m<1000) (els:List (List Bool)) (r:List Bool) (hr:els[m]? =some r) (hx:x<(r.length:Nat)) (oc cC cS:Nat) (cv:DV) (D:DH) (hC:D[cC]? =some (.arr 1 [cv])) (hcv:CanR D cv oc els) (hS:D[cS]? =some (.arr 1 [intD ((m+1:Nat):Int)])) (hone:oneD cv=true∧cellsD cv=[cv]) (base:Nat) :
  callD Q 74 [intD x,.ref cC 0 0,.ref cS 0 0] base D=some (boolD (decide (0≤x)&&(r[x.toNat]?).getD false),D):=by
 obtain ⟨p,h1,h2⟩:=hcv.ix hr
 rw [call_pure (fn:=Tryz.f74) (show Q.P.funcs[74]? =some Tryz.f74 from Tryz.func74) rfl ann74 rfl (by simp only [List.length_cons,List.length_nil];decide) (by kernel_rfl)]
 by_cases h0:0≤x
 case neg=>simp (maxSteps:=2000000) [-getElem?_pos,-List.map_set,-objBelow,-depV,h0]
 obtain ⟨n,rfl⟩:∃ n:Nat,x=n:=⟨x.toNat,by omega⟩
 obtain ⟨b,hb⟩:=getOf (l:=r) (i:=n) (by omega)
 simp (maxSteps:=2000000) [-getElem?_pos,-List.map_set,-objBelow,-depV,hC,hS,hone.2,h1,h2,bitsD,hb,wrap_in (show -9223372036854775808≤(m:Int) by omega) (show (m:Int)≤9223372036854775807 by omega)]
end Go.Dv
namespace Go.Dv
open Go Go.Sim Go.Proofs Go.Fsa
theorem cutL_skip {v:Nat} {K:List (Nat×List DV)}:∀ {J:List (Nat×List DV)},(∀ x∈J,x.1≠v)→cutL v (J++K)=cutL v K
 | [],_=>rfl
 | (w,e)::l,h=>by
  have:=h (w,e) (by simp [-List.map_set,-objBelow,-depV])
  show cutL v ((w,e)::(l++K))=_
  simp only [cutL,if_neg this]
  exact cutL_skip fun x hx=>h x (List.mem_cons_of_mem _ hx)
def visF (b cs cv:Nat):DV:=.fn 75 [] [.ref cs 0 0,.ref (b+3) 0 0,.ref (b+1) 0 0,.ref (b+5) 0 0,.ref b 0 0,.ref cv 0 0]
def OutR (D:DH) (b:Nat) (v:DV) (acc:List (List Int)):Prop:=(v=.row (b+2) 0 0 0∧acc=[]∧D[b+2]? =some (.arr 1 []))∨(v=.apl (b+2) acc.length∧D[b+2]? =some (.app 26 1 (acc.map rowD)))
structure VH (a:Aut) (b L cs cv size n:Nat) (canV:DV) (els:List (List Bool)) (acc:List (List Int)) (D:DH):Prop where
 hL:L≤D.length
 ib:b+5<L
 ics:b+5<cs∧cs<L
 icv:b+5<cv∧cv<L
 A:D[b]? =some (.arr 4 [autD a])
 N:D[b+1]? =some (.arr 1 [intD n])
 O:∃ ov,D[b+3]? =some (.arr 1 [ov])∧OutR D b ov acc
 C:D[b+5]? =some (.arr 1 [canV])
 can:CanR D canV (b+4) els
 S:D[cs]? =some (.arr 1 [intD size])
 V:D[cv]? =some (.arr 1 [visF b cs cv])
 bel:∀ i x,b≤i→i<L→D[i]? =some x→objBelow L x=true
variable {a:Aut} {b L cs cv size n:Nat} {canV:DV} {els:List (List Bool)} {acc:List (List Int)} {D:DH}
theorem VH.same (h:VH a b L cs cv size n canV els acc D) {D':DH} {o:Nat} {acc':List (List Int)} (hL:L≤D'.length) (ho:b+5<o∧o≠cs∧o≠cv) (hf:∀ i,i<L→i≠b+2→i≠b+3→i≠o→D'[i]? =D[i]?)
  (hO:∃ ov,D'[b+3]? =some (.arr 1 [ov])∧OutR D' b ov acc') (hbo:∀ x,o<L→D'[o]? =some x→objBelow L x=true):VH a b L cs cv size n canV els acc' D' where
 hL:=hL
 ib:=h.ib
 ics:=h.ics
 icv:=h.icv
 A:=by rw [hf b (by have:=h.ib;omega) (by omega) (by omega) (by omega)];exact h.A
 N:=by rw [hf (b+1) (by have:=h.ib;omega) (by omega) (by omega) (by omega)];exact h.N
 O:=hO
 C:=by rw [hf (b+5) (by have:=h.ib;omega) (by omega) (by omega) (by omega)];exact h.C
 can:=by
  have e:D'[b+4]? =D[b+4]?:=hf (b+4) (by have:=h.ib;omega) (by omega) (by omega) (by omega)
  have:=h.can
  unfold CanR at this ⊢
  rw [e];exact this
 S:=by rw [hf cs (by have:=h.ics;omega) (by have:=h.ics;omega) (by have:=h.ics;omega) (by omega)];exact h.S
 V:=by rw [hf cv (by have:=h.icv;omega) (by have:=h.icv;omega) (by have:=h.icv;omega) (by omega)];exact h.V
 bel:=fun i x hb hi hx=>by
  by_cases e:i=o
  ·subst e;exact hbo x hi hx
  ·by_cases e2:i=b+2
   ·obtain ⟨ov,h1,h2⟩:=hO
    subst e2
    rcases h2 with ⟨_,_,h2⟩ | ⟨_,h2⟩<;>(rw [h2] at hx;cases hx)
    ·rfl
    ·simp [-List.map_set,-objBelow,-depV,objBelow,rowD,below,List.all_eq_true]
   ·by_cases e3:i=b+3
    ·obtain ⟨ov,h1,h2⟩:=hO
     subst e3
     rw [h1] at hx
     cases hx
     have:=h.ib
     rcases h2 with ⟨rfl,_,h2⟩ | ⟨rfl,h2⟩<;>(simp [-List.map_set,-objBelow,-depV,objBelow,below];omega)
    ·rw [hf i hi e2 e3 e] at hx
     exact h.bel i x hb hi hx
theorem VH.up (h:VH a b L cs cv size n canV els acc D) (hb:∀ i x,L≤i→D[i]? =some x→objBelow D.length x=true):VH a b D.length cs cv size n canV els acc D:=
 ⟨Nat.le_refl _,by have:=h.hL;have:=h.ib;omega,by have:=h.hL;have:=h.ics;omega,by have:=h.hL;have:=h.icv;omega,h.A,h.N,h.O,h.C,h.can,h.S,h.V,fun i x h1 h2 hx=>by
  rcases Nat.lt_or_ge i L with g | g
  ·exact objBelow_le h.hL x (h.bel i x h1 g hx)
  ·exact hb i x g hx⟩
theorem VH.app (h:VH a b L cs cv size n canV els acc D) (X:DH):VH a b L cs cv size n canV els acc (D++X):=by
 have e:∀ i,i<L→(D++X)[i]? =D[i]?:=fun i hi=>List.getElem?_append_left (by have:=h.hL;omega)
 have hib:=h.ib
 exact ⟨by have:=h.hL;simp [-List.map_set,-objBelow,-depV];omega,h.ib,h.ics,h.icv,by rw [e _ (by omega)];exact h.A,by rw [e _ (by omega)];exact h.N,by
  obtain ⟨ov,h1,h2⟩:=h.O
  refine ⟨ov,by rw [e _ (by omega)];exact h1,?_⟩
  unfold OutR at h2 ⊢
  rw [e _ (by omega)];exact h2,by rw [e _ (by omega)];exact h.C,by
  have:=h.can
  unfold CanR at this ⊢
  rw [e _ (by omega)];exact this,by rw [e _ h.ics.2];exact h.S,by rw [e _ h.icv.2];exact h.V,fun i x h1 h2 hx=>by rw [e i h2] at hx;exact h.bel i x h1 h2 hx⟩
theorem VH.take (h:VH a b L cs cv size n canV els acc D):VH a b L cs cv size n canV els acc (D.take L):=by
 have e:∀ i,i<L→(D.take L)[i]? =D[i]?:=fun i hi=>by rw [List.getElem?_take,if_pos hi]
 have hib:=h.ib
 exact ⟨by have:=h.hL;simp [-List.map_set,-objBelow,-depV];omega,h.ib,h.ics,h.icv,by rw [e _ (by omega)];exact h.A,by rw [e _ (by omega)];exact h.N,by
  obtain ⟨ov,h1,h2⟩:=h.O
  refine ⟨ov,by rw [e _ (by omega)];exact h1,?_⟩
  unfold OutR at h2 ⊢
  rw [e _ (by omega)];exact h2,by rw [e _ (by omega)];exact h.C,by
  have:=h.can
  unfold CanR at this ⊢
  rw [e _ (by omega)];exact this,by rw [e _ h.ics.2];exact h.S,by rw [e _ h.icv.2];exact h.V,fun i x h1 h2 hx=>by rw [e i h2] at hx;exact h.bel i x h1 h2 hx⟩
theorem VH.objs (h:VH a b L cs cv size n canV els acc D):objsOK b L D=true:=by
 unfold objsOK
 rw [List.all_eq_true]
 intro x hx
 obtain ⟨i,hi⟩:=List.getElem?_of_mem hx
 rw [List.getElem?_take] at hi
 split at hi
 ·rw [List.getElem?_drop] at hi
  exact h.bel (b+i) x (by omega) (by omega) hi
 ·cases hi
def excW (w:DV) (i:Nat):Prop:=match w with
 | .lv o _ _=>i=o
 | .row o _ _ _=>i=o
 | _=>False
def FrP (b:Nat) (D D':DH) (w:DV):Prop:=∀ i,i<D.length→i≠b+2→i≠b+3→¬excW w i→D'[i]? =D[i]?
def ChP (D D':DH) (w:DV) (k:Nat):Prop:=match w with
 | .lv o ver _=>∀ ctr Lv,D[o]? =some (.chn 3 1 ctr Lv)→∃ ctr' J,D'[o]? =some (.chn 3 1 ctr' (J++cutL ver Lv))∧ctr≤ctr'∧(∀ x∈J,ctr≤x.1∧∃ l:List Int,x.2=l.map numD)∧J.length≤k
 | _=>True
inductive WR (b cs cv size:Nat) (D:DH):DV→List Int→Prop
 | row {o:Nat} (h1:b+5<o∧o≠cs∧o≠cv) (h2:D[o]? =some (.arr 1 [])):WR b cs cv size D (.row o 0 0 0) []
 | lv {o ver ctr:Nat} {Lv:List (Nat×List DV)} {wl:List Int} (hne:wl≠[]) (h1:b+5<o∧o≠cs∧o≠cv) (h2:D[o]? =some (.chn 3 1 ctr Lv)) (hc:cutL ver Lv=Lv) (h3:headL (cutL ver Lv)=some (wl.map numD)) (h4:ver<ctr) (h5:(cutL ver Lv).length=wl.length) (h6:∀ x∈Lv,∃ l:List Int,x.2=l.map numD) (h7:Lv.length≤size):WR b cs cv size D (.lv o ver wl.length) wl
theorem ob_chnN {L e sz ctr:Nat} {l:List (Nat×List DV)} (h:∀ x∈l,∃ q:List Int,x.2=q.map numD):objBelow L (.chn e sz ctr l)=true:=by
 rw [ob_chn,List.all_eq_true]
 intro x hx
 obtain ⟨q,hq⟩:=h x hx
 rw [hq,List.all_eq_true]
 intro d hd
 obtain ⟨z,_,rfl⟩:=List.mem_map.1 hd
 simp [-List.map_set,-objBelow,-depV,numD,below]
def addH (b:Nat) (acc:List (List Int)) (w:List Int) (D:DH):DH:=(D.set (b+2) (.app 26 1 ((acc++[w]).map rowD))).set (b+3) (.arr 1 [.apl (b+2) (acc.length+1)])
theorem addH_get {w:List Int} {i:Nat} (h2:i≠b+2) (h3:i≠b+3):(addH b acc w D)[i]? =D[i]?:=by
 unfold addH
 rw [List.getElem?_set_ne (Ne.symm h3),List.getElem?_set_ne (Ne.symm h2)]
theorem addH_len {w:List Int}:(addH b acc w D).length=D.length:=by simp [-List.map_set,-objBelow,-depV,addH]
theorem VH.add (h:VH a b L cs cv size n canV els acc D) (w:List Int):VH a b L cs cv size n canV els (acc++[w]) (addH b acc w D):=by
 have hib:=h.ib
 have hL:=h.hL
 refine h.same (o:=L) (by rw [addH_len];exact hL) ⟨by omega,by have:=h.ics;omega,by have:=h.icv;omega⟩ (fun i _ h2 h3 _=>addH_get h2 h3) ⟨.apl (b+2) (acc.length+1),?_,.inr ⟨by simp [-List.map_set,-objBelow,-depV],?_⟩⟩ (fun x hx=>absurd hx (Nat.lt_irrefl _))
 ·unfold addH;rw [List.getElem?_set_self (by simp [-List.map_set,-objBelow,-depV];omega)]
 ·unfold addH;rw [List.getElem?_set_ne (by omega),List.getElem?_set_self (by omega)]
theorem VH.round (h:VH a b L cs cv size n canV els acc D) {D3:DH} {L' o:Nat} {acc':List (List Int)} (h3:VH a b L' cs cv size n canV els acc' D3) (hLL:L≤L') (ho:b+5<o∧o≠cs∧o≠cv) (hf:∀ i,i<L→i≠b+2→i≠b+3→i≠o→D3[i]? =D[i]?)
  (hbo:∀ x,o<L→D3[o]? =some x→objBelow L x=true):VH a b L cs cv size n canV els acc' (D3.take L):=by
 have e:∀ i,i<L→(D3.take L)[i]? =D3[i]?:=fun i hi=>by rw [List.getElem?_take,if_pos hi]
 have hib:=h.ib
 have:=h3.hL
 refine h.same (o:=o) (by simp [-List.map_set,-objBelow,-depV];omega) ho (fun i hi a1 a2 a3=>by rw [e i hi];exact hf i hi a1 a2 a3) ?_ (fun x hx=>by rw [e o hx];exact hbo x hx)
 obtain ⟨ov,g1,g2⟩:=h3.O
 refine ⟨ov,by rw [e _ (by omega)];exact g1,?_⟩
 unfold OutR at g2 ⊢
 rw [e _ (by omega)];exact g2
theorem VH.objsT (h:VH a b L cs cv size n canV els acc (D.take L)):objsOK b L D=true:=by
 have:=h.objs
 unfold objsOK at this ⊢
 rw [List.drop_take,List.take_take,Nat.min_self] at this
 exact this
theorem VH.more (h:VH a b L cs cv size n canV els acc D) (hl:D.length=L) {X:DH} (hX:∀ x∈X,objBelow (D++X).length x=true):VH a b (D++X).length cs cv size n canV els acc (D++X):=
 (h.app X).up fun i x hi hx=>by
  rw [List.getElem?_append_right (by omega)] at hx
  exact hX x (List.mem_of_getElem? hx)
theorem eq1_rf {D:DH} {o i k sz:Nat} {els:List DV} (h:D[o]? =some (.arr sz els)):eq1D D (.ref o i k)=true:=by
 show isRef D (.ref o i k)=true
 simp only [isRef,h]
theorem VH.eqF (h:VH a b L cs cv size n canV els acc D):eqD D (.fn 75 [] [.ref cs 0 0,.ref (b+3) 0 0,.ref (b+1) 0 0,.ref (b+5) 0 0,.ref b 0 0,.ref cv 0 0])=true:=by
 obtain ⟨ov,h3,_⟩:=h.O
 show (([]:List DV).all (eq1D D)&&[DV.ref cs 0 0,.ref (b+3) 0 0,.ref (b+1) 0 0,.ref (b+5) 0 0,.ref b 0 0,.ref cv 0 0].all (eq1D D))=true
 simp [-List.map_set,-objBelow,-depV,eq1_rf h.S,eq1_rf h3,eq1_rf h.N,eq1_rf h.C,eq1_rf h.A,eq1_rf h.V]
def GB (D D':DH):Prop:=∀ i x,D.length≤i→D'[i]? =some x→objBelow D'.length x=true
theorem GB.of {D D':DH} (h:D'.length=D.length):GB D D':=fun i x hi hx=>by
 rw [List.getElem?_eq_none (by omega)] at hx;cases hx
end Go.Dv
namespace Go.Dv
open Go Go.Sim Go.Proofs Go.Fsa
attribute [local simp] encI bitF autD b_neqB b_eqlB el_num set_num fz_num numD bitD el_bit set_bit fz_bit normF_strL
inductive WQ (b cs cv size:Nat) (D:DH):DV→List Int→Prop
 | em:WQ b cs cv size D .em []
 | lv {w:DV} {ww:List Int} {o v n:Nat} (hw:w=.lv o v n) (h:WR b cs cv size D w ww):WQ b cs cv size D w ww
theorem WQ.len {b cs cv size:Nat} {D:DH} {w:DV} {ww:List Int} (h:WQ b cs cv size D w ww):lenV D w=some ww.length:=by
 cases h with
 | em=>rfl
 | lv hw h=>cases h with
  | row=>cases hw
  | lv=>rfl
theorem WQ.one {b cs cv size:Nat} {D:DH} {w:DV} {ww:List Int} (h:WQ b cs cv size D w ww):cellsD w=[w]:=by
 cases h with
 | em=>rfl
 | lv hw h=>subst hw;rfl
theorem WQ.clone {b cs cv size:Nat} {D:DH} {w:DV} {ww:List Int} (h:WQ b cs cv size D w ww) (hl:ww.length<1000) (bb:Nat):callD Q 76 [w] bb D=some (rowD ww,D):=by
 cases h with
 | em=>exact w76e bb D
 | lv hw h=>cases h with
  | row=>cases hw
  | lv hne h1 h2 hc h3=>exact w76l _ hl hne _ _ _ _ bb D h2 h3
theorem WQ.refl {b cs cv size k:Nat} {D:DH} {w:DV} {ww:List Int} (h:WQ b cs cv size D w ww):ChP D D w k:=by
 cases h with
 | em=>exact trivial
 | lv hw h=>cases h with
  | row=>cases hw
  | lv hne h1 h2 hc h3=>
   intro ctr' Lv' hD
   rw [h2] at hD
   cases hD
   exact ⟨_,[],by rw [hc];exact h2,Nat.le_refl _,(fun x hx=>absurd hx List.not_mem_nil),Nat.zero_le _⟩
theorem WQ.same {b cs cv size k:Nat} {D D':DH} {w:DV} {ww:List Int} (h:WQ b cs cv size D w ww) (hs:∀ o v n,w=.lv o v n→D'[o]? =D[o]?):ChP D D' w k:=by
 cases h with
 | em=>exact trivial
 | lv hw h=>cases h with
  | row=>cases hw
  | lv hne h1 h2 hc h3=>
   intro ctr' Lv' hD
   rw [h2] at hD
   cases hD
   exact ⟨_,[],by rw [hc,hs _ _ _ rfl];exact h2,Nat.le_refl _,(fun x hx=>absurd hx List.not_mem_nil),Nat.zero_le _⟩
theorem FrP.refl {b:Nat} {D:DH} {w:DV}:FrP b D D w:=fun _ _ _ _ _=>rfl
theorem WR.emp {a:Aut} {b cs cv size n:Nat} {canV:DV} {els:List (List Bool)} {acc:List (List Int)} {D:DH} {w:DV} {ww:List Int} (hV:VH a b D.length cs cv size n canV els acc D) (h:WR b cs cv size D w ww) (x0 x2 x3 x4 x5 x6 x7:DV) :
  ∃ T D1 w1,ghostD b ⟨((((((((Trie.leaf.put 0 x0).put 1 w).put 2 x2).put 3 x3).put 4 x4).put 5 x5).put 6 x6).put 7 x7),D⟩ (.emp 1)=some ⟨T,D1⟩∧D1.length=D.length∧T.get 0=some x0∧T.get 1=some w1∧T.get 2=some x2∧T.get 3=some x3∧T.get 4=some x4∧T.get 5=some x5∧T.get 6=some x6∧T.get 7=some x7 ∧
   VH a b D.length cs cv size n canV els acc D1∧WQ b cs cv size D1 w1 ww∧(∀ i,¬excW w i→D1[i]? =D[i]?)∧(∀ k D',ChP D1 D' w1 k→ChP D D' w k)∧(∀ D',FrP b D1 D' w1→FrP b D D' w):=by
 cases h with
 | @row o h1 h2=>
  have hol:=ltOf h2
  have hs:∀ i,i≠o→(D.set o .dead)[i]? =D[i]?:=fun i hi=>List.getElem?_set_ne (Ne.symm hi)
  refine ⟨((((((((Trie.leaf.put 0 x0).put 1 (.row o 0 0 0)).put 2 x2).put 3 x3).put 4 x4).put 5 x5).put 6 x6).put 7 x7).put 1 .em,D.set o .dead,.em,by simp [-getElem?_pos,-List.map_set,-objBelow,-depV,h2,show b≤o by omega],by simp [-getElem?_pos,-List.map_set,-objBelow,-depV],by simp [-getElem?_pos,-List.map_set,-objBelow,-depV],by simp [-getElem?_pos,-List.map_set,-objBelow,-depV],by simp [-getElem?_pos,-List.map_set,-objBelow,-depV],by simp [-getElem?_pos,-List.map_set,-objBelow,-depV],by simp [-getElem?_pos,-List.map_set,-objBelow,-depV],by simp [-getElem?_pos,-List.map_set,-objBelow,-depV],by simp [-getElem?_pos,-List.map_set,-objBelow,-depV],by simp [-getElem?_pos,-List.map_set,-objBelow,-depV],?_,.em,fun i hi=>hs i (fun e=>hi e),fun _ _ _=>trivial,fun D' hf i hi e2 e3 he=>?_⟩
  ·refine hV.same (o:=o) (by simp [-getElem?_pos,-List.map_set,-objBelow,-depV]) h1 (fun i _ _ _ hi=>hs i hi) ?_ (fun x _ hx=>by simp [-getElem?_pos,-List.map_set,-objBelow,-depV,hol] at hx;subst hx;rfl)
   obtain ⟨ov,g1,g2⟩:=hV.O
   refine ⟨ov,by rw [hs _ (by omega)];exact g1,?_⟩
   unfold OutR at g2 ⊢
   rw [hs _ (by omega)];exact g2
  ·rw [hf i (by simpa [-getElem?_pos,-List.map_set,-objBelow,-depV] using hi) e2 e3 (fun h=>h),hs i (fun e=>he e)]
 | @lv o ver ctr Lv ww hne h1 h2 hc h3 h4 h5 h6 h7=>
  exact ⟨(((((((Trie.leaf.put 0 x0).put 1 (.lv o ver ww.length)).put 2 x2).put 3 x3).put 4 x4).put 5 x5).put 6 x6).put 7 x7,D,.lv o ver ww.length,by simp [-getElem?_pos,-List.map_set,-objBelow,-depV],rfl,by simp [-getElem?_pos,-List.map_set,-objBelow,-depV],by simp [-getElem?_pos,-List.map_set,-objBelow,-depV],by simp [-getElem?_pos,-List.map_set,-objBelow,-depV],by simp [-getElem?_pos,-List.map_set,-objBelow,-depV],by simp [-getElem?_pos,-List.map_set,-objBelow,-depV],by simp [-getElem?_pos,-List.map_set,-objBelow,-depV],by simp [-getElem?_pos,-List.map_set,-objBelow,-depV],by simp [-getElem?_pos,-List.map_set,-objBelow,-depV],hV,.lv rfl (.lv hne h1 h2 hc h3 h4 h5 h6 h7),fun _ _=>rfl,fun _ _ h=>h,fun _ h=>h⟩
theorem w75 {a:Aut} (hv:a.valid) {b cs cv size n:Nat} {canV:DV} {els:List (List Bool)} (hsz:size≤60) (hn:n≤300)
  (hels:∀ k,k≤size→∃ r,els[k]? =some r∧r.length=a.acc.length∧∀ s:Nat,s<a.acc.length→r[s]? =some (a.fulW k s)) (hone:cellsD canV=[canV]) :
  ∀ (k s:Nat) (ww:List Int) (w:DV) (acc:List (List Int)) (D:DH),s<a.acc.length→ww.length+k=size→acc.length≤n→VH a b D.length cs cv size n canV els acc D→WR b cs cv size D w ww →
   ∃ D',callD Q 75 [intD s,w,.ref cs 0 0,.ref (b+3) 0 0,.ref (b+1) 0 0,.ref (b+5) 0 0,.ref b 0 0,.ref cv 0 0] b D=some (.tup [],D')∧VH a b D.length cs cv size n canV els (addW n acc ww (a.wds k s)) D'∧ChP D D' w k∧FrP b D D' w∧GB D D':=by
 intro k
 induction k with
 | zero=>
  intro s ww w acc D hs hwk hacc hV hW
  obtain ⟨T,D1,w1,hgh,hD1,t0,t1,t2,t3,t4,t5,t6,t7,hV1,hW1,hfr,hch,hfp⟩:=hW.emp hV (.f (.raw (.int .i64 ((s:Nat):Int)))) (.ref cs 0 0) (.ref (b+3) 0 0) (.ref (b+1) 0 0) (.ref (b+5) 0 0) (.ref b 0 0) (.ref cv 0 0)
  obtain ⟨r,hr,hrl,hrs⟩:=hels 0 (Nat.zero_le _)
  obtain ⟨p,hp1,hp2⟩:=hV1.can.ix hr
  have hrs:=hrs s hs
  obtain ⟨ov,hO1,hO2⟩:=hV1.O
  have hov:lenV D1 ov=some acc.length∧cellsD ov=[ov]:=by
   rcases hO2 with ⟨rfl,rfl,h⟩ | ⟨rfl,h⟩<;>simp [-getElem?_pos,-List.map_set,-objBelow,-depV,lenV,h,cellsD]
  have hS:=hV1.S
  have hN:=hV1.N
  have hC:=hV1.C
  have hA:=hV1.A
  have hwk':size=ww.length:=by omega
  have hwl:=hW1.len
  have hwr:wrapF .i64 ((size:Int)-(ww.length:Int))=((0:Nat):Int):=by rw [wrap_in (by omega) (by omega)];omega
  simp only [intD] at hS hN
  rw [call_raw (fn:=Tryz.f75) (show Q.P.funcs[75]? =some Tryz.f75 from Tryz.func75) rfl ann75 rfl (by simp only [List.length_cons,List.length_nil];decide) (by kernel_rfl)]
  have gp:=gp75
  simp only [ann75,Tryz.f75,gpB_some,gpC_draw,gpC_reg,gpC_seq,gpC_cond,gpC_block,gpC_loop,gpC_range,gpC_skip,gpC_ret,gpC_exit,gpC_label,gpO_some,gpO_none,findN,Bool.and_eq_true,Bool.and_true,Bool.true_and,reduceIte,Nat.reduceEqDiff,true_and,and_true] at gp
  by_cases hfull:n≤acc.length
  ·refine ⟨D1,?_⟩
   rw [addW_full hfull]
   simp (maxSteps:=2000000) [-getElem?_pos,-List.map_set,-objBelow,-depV,gp,-g_emp,hgh,t0,t1,t2,t3,t4,t5,t6,t7,hS,hN,hC,hO1,hov.1,hov.2,hwl,hwr,hp1,hp2,hone,bitsD,hrs,hfull]
   exact ⟨rfl,hV1,hch _ _ hW1.refl,hfp _ .refl,.of hD1⟩
  cases hac:a.fulW 0 s with
  | false=>
   rw [hac] at hrs
   have:a.wds 0 s=[]:=by simpa [-getElem?_pos,-List.map_set,-objBelow,-depV,Aut.fulW] using hac
   rw [this,addW_nil]
   refine ⟨D1,?_⟩
   simp (maxSteps:=2000000) [-getElem?_pos,-List.map_set,-objBelow,-depV,gp,-g_emp,hgh,t0,t1,t2,t3,t4,t5,t6,t7,hS,hN,hC,hO1,hov.1,hov.2,hwl,hwr,hp1,hp2,hone,bitsD,hrs,hfull]
   exact ⟨rfl,hV1,hch _ _ hW1.refl,hfp _ .refl,.of hD1⟩
  | true=>
   rw [hac] at hrs
   have hw0:a.wds 0 s=[[]]:=by
    unfold Aut.fulW Aut.wds at hac
    unfold Aut.wds
    by_cases h:a.accB s
    ·simp [-getElem?_pos,-List.map_set,-objBelow,-depV,h]
    ·simp [-getElem?_pos,-List.map_set,-objBelow,-depV,h] at hac
   have hadd:addW n acc ww (a.wds 0 s)=acc++[ww]:=by
    rw [hw0];unfold addW
    obtain ⟨m,hm⟩:∃ m,n-acc.length=m+1:=⟨n-acc.length-1,by omega⟩
    simp [-getElem?_pos,-List.map_set,-objBelow,-depV,hm]
   rw [hadd]
   have h76:=fun bb=>hW1.clone (by omega) bb
   have r76:(Q.ann 76).raw=false:=by rw [ann76]
   have hib:=hV1.ib
   have hLD:=hV1.hL
   have g1:=fun X=>get_app (X:=X) hO1
   have l1:=ltOf hO1
   have g3:=fun y X=>get_app (X:=X) (show (D1.set (b+2) y)[b+3]? =some (.arr 1 [ov]) by rw [List.getElem?_set_ne (by omega)];exact hO1)
   refine ⟨((D1++[DObj.arr 1 [rowD ww]]).set (b+2) (.app 26 1 ((acc++[ww]).map rowD))).set (b+3) (.arr 1 [.apl (b+2) (acc.length+1)]),?_,?_,?_,?_,?_⟩
   ·rcases hO2 with ⟨rfl,rfl,hO2⟩ | ⟨rfl,hO2⟩
    ·have g2:=fun X=>get_app (X:=X) hO2
     have l2:=ltOf hO2
     simp (maxSteps:=2000000) [-getElem?_pos,-List.map_set,-objBelow,-depV,gp,-g_emp,hgh,t0,t1,t2,t3,t4,t5,t6,t7,hS,hN,hC,hO1,hov.1,hov.2,hwl,hwr,hp1,hp2,hone,bitsD,hrs,hfull,h76,r76,hO2,show ¬n=0 by simpa [-getElem?_pos,-List.map_set,-objBelow,-depV] using hfull,g1,g2,g3,l1,l2]
     rfl
     done
    ·have g2:=fun X=>get_app (X:=X) hO2
     have l2:=ltOf hO2
     simp (maxSteps:=2000000) [-getElem?_pos,-List.map_set,-objBelow,-depV,gp,-g_emp,hgh,t0,t1,t2,t3,t4,t5,t6,t7,hS,hN,hC,hO1,hov.1,hov.2,hwl,hwr,hp1,hp2,hone,bitsD,hrs,hfull,h76,r76,hO2,g1,g2,g3,l1,l2,show (acc.length+1)*24≤1099511627776∧acc.length≤1099511627775 by omega]
     rfl
     done
   ·exact (hV1.app [.arr 1 [rowD ww]]).add ww
   ·refine hch _ _ (hW1.same fun o v m e=>?_)
    subst e
    cases hW1 with
    | lv hw h=>cases h with
     | lv hne h1 h2=>
      show (addH b acc ww (D1++[DObj.arr 1 [rowD ww]]))[o]? =_
      rw [addH_get (by omega) (by omega),List.getElem?_append_left (ltOf h2)]
   ·refine hfp _ fun i hi h2 h3 _=>?_
    show (addH b acc ww (D1++[DObj.arr 1 [rowD ww]]))[i]? =_
    rw [addH_get h2 h3,List.getElem?_append_left hi]
   ·intro i x hi hx
    change (addH b acc ww (D1++[DObj.arr 1 [rowD ww]]))[i]? =some x at hx
    rw [addH_get (by omega) (by omega),List.getElem?_append_right (by omega)] at hx
    have:=List.mem_of_getElem? hx
    simp [-getElem?_pos,-List.map_set,-objBelow,-depV] at this
    subst this
    rfl
 | succ k IH=>
  intro s ww w acc D hs hwk hacc hV hW
  obtain ⟨T,D1,w1,hgh,hD1,t0,t1,t2,t3,t4,t5,t6,t7,hV1,hW1,hfr,hch,hfp⟩:=hW.emp hV (.f (.raw (.int .i64 ((s:Nat):Int)))) (.ref cs 0 0) (.ref (b+3) 0 0) (.ref (b+1) 0 0) (.ref (b+5) 0 0) (.ref b 0 0) (.ref cv 0 0)
  obtain ⟨m,hm⟩:∃ m,m=k+1:=⟨_,rfl⟩
  obtain ⟨r,hr,hrl,hrs⟩:=hels m (by omega)
  obtain ⟨p,hp1,hp2⟩:=hV1.can.ix hr
  have hrs:=hrs s hs
  obtain ⟨ov,hO1,hO2⟩:=hV1.O
  have hov:lenV D1 ov=some acc.length∧cellsD ov=[ov]:=by
   rcases hO2 with ⟨rfl,rfl,h⟩ | ⟨rfl,h⟩<;>simp [-getElem?_pos,-List.map_set,-objBelow,-depV,lenV,h,cellsD]
  have hS:=hV1.S
  have hN:=hV1.N
  have hC:=hV1.C
  have hA:=hV1.A
  have hwl:=hW1.len
  have hwr:wrapF .i64 ((size:Int)-(ww.length:Int))=((m:Nat):Int):=by rw [wrap_in (by omega) (by omega)];omega
  simp only [intD] at hS hN
  rw [call_raw (fn:=Tryz.f75) (show Q.P.funcs[75]? =some Tryz.f75 from Tryz.func75) rfl ann75 rfl (by simp only [List.length_cons,List.length_nil];decide) (by kernel_rfl)]
  have gp:=gp75
  simp only [ann75,Tryz.f75,gpB_some,gpC_draw,gpC_reg,gpC_seq,gpC_cond,gpC_block,gpC_loop,gpC_range,gpC_skip,gpC_ret,gpC_exit,gpC_label,gpO_some,gpO_none,findN,Bool.and_eq_true,Bool.and_true,Bool.true_and,reduceIte,Nat.reduceEqDiff,true_and,and_true] at gp
  by_cases hfull:n≤acc.length
  ·refine ⟨D1,?_⟩
   rw [addW_full hfull]
   simp (maxSteps:=2000000) [-getElem?_pos,-List.map_set,-objBelow,-depV,gp,-g_emp,hgh,t0,t1,t2,t3,t4,t5,t6,t7,hS,hN,hC,hO1,hov.1,hov.2,hwl,hwr,hp1,hp2,hone,bitsD,hrs,hfull]
   exact ⟨rfl,hV1,hch _ _ hW1.refl,hfp _ .refl,.of hD1⟩
  rw [hm] at hrs
  cases hac:a.fulW (k+1) s with
  | false=>
   rw [hac] at hrs
   have:a.wds (k+1) s=[]:=by simpa [-getElem?_pos,-List.map_set,-objBelow,-depV,Aut.fulW] using hac
   rw [this,addW_nil]
   refine ⟨D1,?_⟩
   simp (maxSteps:=2000000) [-getElem?_pos,-List.map_set,-objBelow,-depV,gp,-g_emp,hgh,t0,t1,t2,t3,t4,t5,t6,t7,hS,hN,hC,hO1,hov.1,hov.2,hwl,hwr,hp1,hp2,hone,bitsD,hrs,hfull]
   exact ⟨rfl,hV1,hch _ _ hW1.refl,hfp _ .refl,.of hD1⟩
  | true=>
   rw [hac] at hrs
   have hla:=hv.len
   obtain ⟨r0,hr0⟩:=getOf (l:=a.nxt) (i:=s) (by omega)
   have hrow:=hv.rows r0 (List.mem_of_getElem? hr0)
   obtain ⟨sy,hsy⟩:∃ sy:Nat,a.sy=sy:=⟨a.sy.toNat,by have:=hv.lo;omega⟩
   have hr0l:r0.length=sy:=by have:=hrow.1;omega
   have hgo:∀ c:Nat,c<sy→r0[c]? =some (a.go s c):=fun c hc=>by
    obtain ⟨r',h1,h2⟩:=Aut.go_some hv (s:=(s:Int)) (by omega) (by omega) (c:=c) (by omega)
    simp only [Int.toNat_natCast] at h1
    rw [hr0] at h1;cases h1;exact h2
   have hm0:¬m=0:=by omega
   have hbw:below D1.length w1=true:=by
    cases hW1 with
    | em=>rfl
    | lv hw h=>cases h with
     | row=>cases hw
     | lv hne h1 h2=>simp [-getElem?_pos,-List.map_set,-objBelow,-depV,below];exact ltOf h2
   have hobj:objsOK b D1.length D1=true:=by rw [hD1];exact hV1.objs
   have hcvl:cv<D1.length:=by rw [hD1];exact hV1.icv.2
   have hbl:b≤D1.length:=by rw [hD1];have:=hV1.ib;omega
   simp (maxSteps:=2000000) [-getElem?_pos,-List.map_set,-objBelow,-depV,gp,-g_emp,hgh,t0,t1,t2,t3,t4,t5,t6,t7,hS,hN,hC,hO1,hov.1,hov.2,hwl,hwr,hp1,hp2,hone,bitsD,hrs,hfull,hA,hm0,hr0,hr0l,hbw,hobj,hcvl,hbl]
   generalize hX:loopG _ _ _=X
   obtain ⟨tm,H,rfl,hVH,hCh,hFr,hHl⟩:∃ (tm:Trie DV) (H:DH),X=some (.exit 0,⟨tm,H⟩)∧VH a b D.length cs cv size n canV els (addW n acc ww (a.wds (k+1) s)) H∧ChP D1 H w1 (k+1)∧FrP b D1 H w1∧H.length=D1.length:=by
    rw [← hX]
    clear hX
    generalize hs48:SD.mk _ _=sd48
    revert sd48
    refine wl (fun p:Nat×DH=>⟨((((Trie.leaf.put 44 (intD p.1)).put 43 (intD sy)).put 42 (rowD r0)).put 7 (.ref cv 0 0)).put 1 w1,p.2⟩) (fun p=>p.1≤sy∧p.2.length=D1.length∧VH a b D.length cs cv size n canV els (addW n acc ww (a.wdsTo k s p.1)) p.2∧ChP D1 p.2 w1 (k+1)∧FrP b D1 p.2 w1) (fun p=>sy-p.1) ?_ (0,D1) ⟨Nat.zero_le _,rfl,by simpa [-getElem?_pos,-List.map_set,-objBelow,-depV,Aut.wdsTo,addW_nil] using hV1,hW1.refl,.refl⟩
    rintro ⟨c,H⟩ ⟨hc,hHl,hVH,hCh,hFr⟩ ih
    simp only at hc hHl hVH hCh hFr ih
    rw [loopG_eq]
    have hobjH:objsOK b D1.length H=true:=by rw [hD1];exact hVH.objs
    have htk:H.take D1.length=H:=List.take_of_length_le (by omega)
    have hV':=hVH.V
    simp only [visF] at hV'
    by_cases hlt:c<sy
    case neg=>
     have:c=sy:=by omega
     subst this
     simp (maxSteps:=2000000) [-getElem?_pos,-List.map_set,-objBelow,-depV,gp,hr0l]
     refine ⟨_,_,⟨rfl,rfl⟩,?_,hCh,hFr,hHl⟩
     rw [show a.wds (k+1) s=a.wdsTo k s c by unfold Aut.wds Aut.wdsTo;rw [hsy];rfl]
     exact hVH
    obtain ⟨t,ht⟩:∃ t,t=a.go s c:=⟨_,rfl⟩
    have hrc:=hgo c hlt
    rw [← ht] at hrc
    have hcw:=wrap_succ (show c+1≤9223372036854775807 by have:=hv.hi;omega)
    by_cases ht0:0≤t
    case neg=>
     have e:a.wdsTo k s (c+1)=a.wdsTo k s c:=by rw [Aut.wdsTo_succ,← ht,if_neg ht0,List.append_nil]
     have ih':=ih (c+1,H) ⟨by simp only;omega,hHl,by simp only;rw [e];exact hVH,hCh,hFr⟩ (by simp only;omega)
     simp (maxSteps:=2000000) [-getElem?_pos,-List.map_set,-objBelow,-depV] at ih'
     simp (maxSteps:=2000000) [-getElem?_pos,-List.map_set,-objBelow,-depV,gp,hr0l,hlt,hrc,ht0,hbw,hcvl,hobjH,hHl,htk,hbl,hcw]
     exact ih'
    obtain ⟨t',rfl⟩:∃ t':Nat,t=t':=⟨t.toNat,by omega⟩
    have htl:t'<a.acc.length:=by
     have:=(Aut.go_dom (x:=(s:Int)) (c:=c) hv).2
     rw [← ht] at this;omega
    have r75:(Q.ann 75).raw=true:=by rw [ann75]
    have hac1:=addW_len (w:=ww) (l:=a.wdsTo k s c) hacc
    have gV:=fun X=>get_app (X:=X) hV'
    have gE:=fun X=>(hVH.app X).eqF
    cases hW1 with
    | em=>
     have hib:=hVH.ib
     have hVb:=hVH.more (X:=[.arr 1 [numD c],.chn 3 1 1 [(0,[numD c])]]) (by omega) (fun x hx=>by
      simp [-getElem?_pos,-List.map_set,-objBelow,-depV] at hx
      rcases hx with rfl | rfl<;>simp [-getElem?_pos,-List.map_set,-objBelow,-depV,objBelow,below])
     have hWb:WR b cs cv size (H++[.arr 1 [numD c],.chn 3 1 1 [(0,[numD c])]]) (.lv (H.length+1) 0 [(c:Int)].length) [(c:Int)]:=by
      refine .lv (ver:=0) (ctr:=1) (Lv:=[(0,[numD c])]) (by simp [-getElem?_pos,-List.map_set,-objBelow,-depV]) ?_ (by simp [-getElem?_pos,-List.map_set,-objBelow,-depV]) rfl rfl (by omega) rfl (fun x hx=>⟨[(c:Int)],by simp [-getElem?_pos,-List.map_set,-objBelow,-depV] at hx;subst hx;rfl⟩) (by simp [-getElem?_pos,-List.map_set,-objBelow,-depV];omega)
      have:=hVH.ics;have:=hVH.icv;omega
     obtain ⟨D3,q1,q2,q3,q4,-⟩:=IH t' _ _ _ _ htl (by simp [-getElem?_pos,-List.map_set,-objBelow,-depV] at hwk ⊢;omega) hac1 hVb hWb
     have hfx:∀ i,i<D.length→i≠b+2→i≠b+3→D3[i]? =H[i]?:=fun i hi h2 h3=>by
      rw [q4 i (by simp [-getElem?_pos,-List.map_set,-objBelow,-depV];omega) h2 h3 (fun e=>by have e:i=H.length+1:=e;omega),List.getElem?_append_left (by omega)]
     have e1:addW n (addW n acc [] (a.wdsTo k s c)) [(c:Int)] (a.wds k t')=addW n acc [] (a.wdsTo k s (c+1)):=by
      have:=addW_cons (n:=n) (acc:=addW n acc [] (a.wdsTo k s c)) (w:=[]) (c:=(c:Int)) (l:=a.wds k t')
      rw [List.nil_append] at this
      rw [this,addW_app,Aut.wdsTo_succ,← ht,if_pos (by omega)]
     rw [e1] at q2
     have hl3:D1.length≤D3.length:=by have:=q2.hL;simp [-getElem?_pos,-List.map_set,-objBelow,-depV] at this;omega
     have hVn:VH a b D.length cs cv size n canV els (addW n acc [] (a.wdsTo k s (c+1))) (D3.take D1.length):=by
      rw [hD1]
      exact hVH.round (o:=H.length+1) q2 (by simp [-getElem?_pos,-List.map_set,-objBelow,-depV];omega) (by have:=hVH.ics;have:=hVH.icv;omega) (fun i hi h2 h3 _=>hfx i hi h2 h3) (fun x hx=>by omega)
     have ih':=ih (c+1,D3.take D1.length) ⟨by simp only;omega,by simp only [List.length_take];omega,hVn,trivial,fun i hi h2 h3 _=>by
      simp only [List.getElem?_take,if_pos hi]
      rw [hfx i (by omega) h2 h3,hFr i hi h2 h3 (fun h=>h)]⟩ (by simp only;omega)
     have hobj3:objsOK b D1.length D3=true:=by rw [hD1] at hVn ⊢;exact hVn.objsT
     simp only [intD] at q1
     simp [-getElem?_pos,-List.map_set,-objBelow,-depV] at q1
     simp (maxSteps:=2000000) [-getElem?_pos,-List.map_set,-objBelow,-depV] at ih'
     simp (maxSteps:=2000000) [-getElem?_pos,-List.map_set,-objBelow,-depV,gp,hr0l,hlt,hrc,hbw,hcvl,hbl,hcw,gV,gE,q1,r75,hobj3,hl3,hV',ltOf hV']
     exact ih'
    | lv hw h=>cases h with
     | row=>cases hw
     | @lv o ver ctr Lv _ hne h1 h2 hc' h3 h4 h5 h6 h7=>
      have hib:=hVH.ib
      obtain ⟨ctr',J,hHo,hcc,hJ,hJk⟩:=hCh _ _ h2
      rw [hc'] at h3 h5 hHo
      have hol:=ltOf hHo
      have hcut:cutL ver (J++Lv)=Lv:=by
       rw [cutL_skip (fun x hx=>by have:=(hJ x hx).1;omega),hc']
      have hhd:headL (cutL ver (J++Lv))=some (ww.map numD):=by rw [hcut];exact h3
      have hN:=fun (DD:DH) (bb:Nat) (TT:SlT) (oo m:Nat) (new:List DV)=>apN_chn (D:=DD) (base:=bb) (T:=TT) (o:=oo) (v:=ver) (n:=m) (e:=3) (sz:=1) (ctr:=ctr') (new:=new) hhd
      rw [hcut] at hN
      have hlv:∀ (x:Nat×List DV),x∈((ctr',(ww++[(c:Int)]).map numD)::Lv)→∃ l:List Int,x.2=l.map numD:=fun x hx=>by
       rcases List.mem_cons.1 hx with rfl | hx
       ·exact ⟨_,rfl⟩
       ·exact h6 x hx
      have hVs:VH a b D.length cs cv size n canV els (addW n acc ww (a.wdsTo k s c)) (H.set o (.chn 3 1 (ctr'+1) ((ctr',(ww++[(c:Int)]).map numD)::Lv))):=by
       refine hVH.same (o:=o) (by simp [-getElem?_pos,-List.map_set,-objBelow,-depV];omega) h1 (fun i _ _ _ hi=>List.getElem?_set_ne (Ne.symm hi)) ?_ (fun x _ hx=>?_)
       ·obtain ⟨ov,g1,g2⟩:=hVH.O
        refine ⟨ov,by rw [List.getElem?_set_ne (by omega)];exact g1,?_⟩
        unfold OutR at g2 ⊢
        rw [List.getElem?_set_ne (by omega)];exact g2
       ·rw [List.getElem?_set_self hol] at hx
        cases hx
        exact ob_chnN hlv
      have hVb:=hVs.more (X:=[.arr 1 [numD c]]) (by simp [-getElem?_pos,-List.map_set,-objBelow,-depV];omega) (fun x hx=>by
       simp [-getElem?_pos,-List.map_set,-objBelow,-depV] at hx
       subst hx
       simp [-getElem?_pos,-List.map_set,-objBelow,-depV,objBelow,below])
      have hWb:WR b cs cv size (H.set o (.chn 3 1 (ctr'+1) ((ctr',(ww++[(c:Int)]).map numD)::Lv))++[.arr 1 [numD c]]) (.lv o ctr' (ww++[(c:Int)]).length) (ww++[(c:Int)]):=by
       refine .lv (ver:=ctr') (ctr:=ctr'+1) (Lv:=(ctr',(ww++[(c:Int)]).map numD)::Lv) (by simp [-getElem?_pos,-List.map_set,-objBelow,-depV]) h1 ?_ (by simp [-getElem?_pos,-List.map_set,-objBelow,-depV,cutL]) (by simp [-getElem?_pos,-List.map_set,-objBelow,-depV,cutL,headL]) (by omega) (by simp [-getElem?_pos,-List.map_set,-objBelow,-depV,cutL,h5]) hlv (by simp [-getElem?_pos,-List.map_set,-objBelow,-depV,h5];omega)
       rw [List.getElem?_append_left (by simpa [-getElem?_pos,-List.map_set,-objBelow,-depV] using hol),List.getElem?_set_self hol]
      obtain ⟨D3,q1,q2,q3,q4,-⟩:=IH t' _ _ _ _ htl (by simp [-getElem?_pos,-List.map_set,-objBelow,-depV];omega) hac1 hVb hWb
      have hfx:∀ i,i<D.length→i≠b+2→i≠b+3→i≠o→D3[i]? =H[i]?:=fun i hi g2 g3 g4=>by
       rw [q4 i (by simp [-getElem?_pos,-List.map_set,-objBelow,-depV];omega) g2 g3 g4,List.getElem?_append_left (by simp [-getElem?_pos,-List.map_set,-objBelow,-depV];omega),List.getElem?_set_ne (Ne.symm g4)]
      have e1:addW n (addW n acc ww (a.wdsTo k s c)) (ww++[(c:Int)]) (a.wds k t')=addW n acc ww (a.wdsTo k s (c+1)):=by
       rw [addW_cons,addW_app,Aut.wdsTo_succ,← ht,if_pos (by omega)]
      rw [e1] at q2
      obtain ⟨ctr2,J2,q5,q6,q7,q8⟩:=q3 (ctr'+1) ((ctr',(ww++[(c:Int)]).map numD)::Lv) (by rw [List.getElem?_append_left (by simpa [-getElem?_pos,-List.map_set,-objBelow,-depV] using hol),List.getElem?_set_self hol])
      rw [show cutL ctr' ((ctr',(ww++[(c:Int)]).map numD)::Lv)=(ctr',(ww++[(c:Int)]).map numD)::Lv by simp [-getElem?_pos,-List.map_set,-objBelow,-depV,cutL]] at q5
      have hl3:D1.length≤D3.length:=by have:=q2.hL;simp [-getElem?_pos,-List.map_set,-objBelow,-depV] at this;omega
      have hVn:VH a b D.length cs cv size n canV els (addW n acc ww (a.wdsTo k s (c+1))) (D3.take D1.length):=by
       rw [hD1]
       refine hVH.round (o:=o) q2 (by simp [-getElem?_pos,-List.map_set,-objBelow,-depV];omega) h1 (fun i hi g2 g3 g4=>hfx i hi g2 g3 g4) (fun x _ hx=>?_)
       rw [q5] at hx
       cases hx
       exact ob_chnN fun x hx=>by
        rcases List.mem_append.1 hx with hx | hx
        ·exact (q7 x hx).2
        ·exact hlv x hx
      have ih':=ih (c+1,D3.take D1.length) ⟨by simp only;omega,by simp only [List.length_take];omega,hVn,fun ctr0 Lv0 hD0=>by
       rw [h2] at hD0
       cases hD0
       refine ⟨ctr2,J2++[(ctr',(ww++[(c:Int)]).map numD)],?_,by omega,fun x hx=>?_,by simp [-getElem?_pos,-List.map_set,-objBelow,-depV];omega⟩
       ·show (D3.take D1.length)[o]? =_
        rw [List.getElem?_take,if_pos (by omega),q5,hc',List.append_assoc];rfl
       ·rcases List.mem_append.1 hx with hx | hx
        ·exact ⟨by have:=(q7 x hx).1;omega,(q7 x hx).2⟩
        ·rw [List.mem_singleton] at hx
         subst hx
         exact ⟨hcc,_,rfl⟩,fun i hi g2 g3 g4=>by
       show (D3.take D1.length)[i]? =_
       rw [List.getElem?_take,if_pos hi,hfx i (by omega) g2 g3 g4,hFr i hi g2 g3 g4]⟩ (by simp only;omega)
      have hobj3:objsOK b D1.length D3=true:=by rw [hD1] at hVn ⊢;exact hVn.objsT
      have gE2:=fun X=>(hVs.app X).eqF
      have gH:=fun X=>get_app (X:=X) hHo
      have hJL:J.length+Lv.length<99:=by omega
      have hb8:(ww.length+1)*8≤1099511627776∧ww.length≤1099511627775:=by omega
      have hbo:b≤o:=by omega
      have hcvo:=h1.2.2
      simp only [intD] at q1
      simp [-getElem?_pos,-List.map_set,-objBelow,-depV] at q1 gE2
      simp (maxSteps:=2000000) [-getElem?_pos,-List.map_set,-objBelow,-depV] at ih'
      simp (maxSteps:=2000000) [-getElem?_pos,-List.map_set,-objBelow,-depV,gp,hr0l,hlt,hrc,hbw,hcvl,hbl,hcw,gV,gE,q1,r75,hobj3,hl3,hV',ltOf hV',gE2,gH,hol,hN,hJL,hb8,hbo,hcvo,Ne.symm hcvo]
      exact ih'
   refine ⟨H,?_⟩
   simp (maxSteps:=2000000) [-getElem?_pos,-List.map_set,-objBelow,-depV,gp,]
   exact ⟨rfl,hVH,hch _ _ hCh,hfp _ hFr,.of (hHl.trans hD1)⟩
end Go.Dv
namespace Go.Fsa
def Aut.tab (a:Aut) (k:Nat):List (List Bool):=(List.range (k+1)).map fun j=>(List.range a.acc.length).map fun s:Nat=>a.fulW j s
theorem Aut.tab_len {a:Aut} {k:Nat}:(a.tab k).length=k+1:=by simp [Aut.tab]
theorem Aut.tab_get {a:Aut} {k j:Nat} (h:j≤k):(a.tab k)[j]? =some ((List.range a.acc.length).map fun s:Nat=>a.fulW j s):=by
 unfold Aut.tab
 rw [List.getElem?_map,List.getElem?_range (by omega)];rfl
theorem Aut.tab_succ {a:Aut} {k:Nat}:a.tab (k+1)=a.tab k++[(List.range a.acc.length).map fun s:Nat=>a.fulW (k+1) s]:=by
 unfold Aut.tab
 rw [List.range_succ,List.map_append];rfl
theorem Aut.tab_row {a:Aut} {k s:Nat} (hs:s<a.acc.length):((List.range a.acc.length).map fun s:Nat=>a.fulW k s)[s]? =some (a.fulW k s):=by
 rw [List.getElem?_map,List.getElem?_range hs];rfl
theorem Aut.tab0 {a:Aut}:a.tab 0=[a.acc]:=by
 unfold Aut.tab
 simp only [Nat.zero_add,List.range_one,List.map_cons,List.map_nil,List.cons.injEq,and_true]
 refine List.ext_getElem? fun j=>?_
 rcases Nat.lt_or_ge j a.acc.length with h | h
 ·rw [Aut.tab_row h,List.getElem?_eq_getElem h]
  unfold Aut.fulW Aut.wds Aut.accB
  rw [Int.toNat_natCast,List.getElem?_eq_getElem h]
  cases a.acc[j]<;>simp
 ·rw [List.getElem?_eq_none (by simpa using h),List.getElem?_eq_none h]
def Aut.anyW (a:Aut) (k:Nat) (x:Int):Bool:=decide (0≤x)&&a.fulW k x
theorem Aut.any_row {a:Aut} (hv:a.valid) {k s:Nat} {r:List Int} (hr:a.nxt[s]? =some r):r.any (a.anyW k)=a.fulW (k+1) s:=by
 have hla:=hv.len
 have hsl:s<a.nxt.length:=by
  rcases Nat.lt_or_ge s a.nxt.length with g | g
  ·exact g
  ·rw [List.getElem?_eq_none g] at hr;cases hr
 have hrow:=hv.rows r (List.mem_of_getElem? hr)
 have hlo:=hv.lo
 rw [Aut.fulW_succ,Bool.eq_iff_iff,List.any_eq_true,List.any_eq_true]
 have hgo:∀ c:Nat,c<a.sy.toNat→r[c]? =some (a.go s c):=fun c hc=>by
  obtain ⟨r',h1,h2⟩:=Aut.go_some hv (s:=(s:Int)) (by omega) (by omega) (c:=c) (by omega)
  simp only [Int.toNat_natCast] at h1
  rw [hr] at h1;cases h1;exact h2
 constructor
 ·rintro ⟨x,hx,h⟩
  obtain ⟨c,hc⟩:=List.getElem?_of_mem hx
  have hcl:c<a.sy.toNat:=by
   have:=hrow.1
   rcases Nat.lt_or_ge c r.length with g | g
   ·omega
   ·rw [List.getElem?_eq_none g] at hc;cases hc
  refine ⟨c,List.mem_range.2 hcl,?_⟩
  have:=hgo c hcl
  rw [hc] at this;cases this
  exact h
 ·rintro ⟨c,hc,h⟩
  rw [List.mem_range] at hc
  exact ⟨a.go s c,List.mem_of_getElem? (hgo c hc),h⟩
noncomputable def listR (a:Aut) (n most:Int):List (List Int)×Int:=
 if ¬a.valid then ([],60) else if n<0∨10000<n∨most<0∨1000<most then ([],1) else (a.list n.toNat (most.toNat+1),0)
theorem Aut.wds_none {a:Aut} (h:a.acc=[]) (hn:a.nxt=[]) {k:Nat} {s:Int}:a.wds k s=[]:=by
 have ha:∀ s,a.accB s=false:=fun s=>by simp [Aut.accB,h]
 cases k with
 | zero=>simp [Aut.wds,ha]
 | succ k=>
  unfold Aut.wds
  rw [List.flatMap_eq_nil_iff]
  intro c _
  rw [if_neg]
  unfold Aut.go
  split
  ·omega
  ·simp [hn]
theorem Aut.list_none {a:Aut} (h:a.acc=[]) (hn:a.nxt=[]) {n:Nat}:∀ {k:Nat},a.list n k=[]
 | 0=>rfl
 | k+1=>by
  unfold Aut.list
  rw [Aut.list_none h hn,Aut.wds_none h hn,addW_nil]
theorem Aut.list_le {a:Aut} {n:Nat}:∀ {k:Nat},(a.list n k).length≤n
 | 0=>Nat.zero_le _
 | k+1=>addW_len Aut.list_le
theorem Aut.list_full {a:Aut} {n j:Nat} (h:n≤(a.list n j).length):∀ {k:Nat},j≤k→a.list n k=a.list n j
 | k,hk=>by
  induction k with
  | zero=>
   obtain rfl:j=0:=by omega
   rfl
  | succ k ih=>
   rcases Nat.lt_or_ge k j with g | g
   ·obtain rfl:j=k+1:=by omega
    rfl
   ·show addW n (a.list n k) [] (a.wds k a.st)=_
    rw [ih g,addW_full h]
end Go.Fsa
namespace Go.Dv
open Go Go.Sim Go.Proofs Go.Fsa
structure PH (a:Aut) (b cs size n:Nat) (canV:DV) (els:List (List Bool)) (acc:List (List Int)) (D:DH):Prop where
 ib:b+5<D.length
 ics:b+5<cs∧cs<D.length
 A:D[b]? =some (.arr 4 [autD a])
 N:D[b+1]? =some (.arr 1 [intD n])
 O:∃ ov,D[b+3]? =some (.arr 1 [ov])∧OutR D b ov acc
 C:D[b+5]? =some (.arr 1 [canV])
 can:CanR D canV (b+4) els
 S:D[cs]? =some (.arr 1 [intD size])
 bel:∀ i x,b≤i→D[i]? =some x→objBelow D.length x=true
variable {a:Aut} {b cs cv size n:Nat} {canV:DV} {els:List (List Bool)} {acc:List (List Int)} {D:DH}
theorem PH.app (h:PH a b cs size n canV els acc D) {X:DH} (hX:∀ x∈X,objBelow (D++X).length x=true):PH a b cs size n canV els acc (D++X):=by
 have e:∀ i,i<D.length→(D++X)[i]? =D[i]?:=fun i hi=>List.getElem?_append_left hi
 have hib:=h.ib
 refine ⟨by simp [-List.map_set,-objBelow,-depV];omega,by have:=h.ics;simp [-List.map_set,-objBelow,-depV];omega,by rw [e _ (by omega)];exact h.A,by rw [e _ (by omega)];exact h.N,?_,by rw [e _ (by omega)];exact h.C,?_,by rw [e _ h.ics.2];exact h.S,fun i x h1 hx=>?_⟩
 ·obtain ⟨ov,h1,h2⟩:=h.O
  refine ⟨ov,by rw [e _ (by omega)];exact h1,?_⟩
  unfold OutR at h2 ⊢
  rw [e _ (by omega)];exact h2
 ·have:=h.can
  unfold CanR at this ⊢
  rw [e _ (by omega)];exact this
 ·rcases Nat.lt_or_ge i D.length with g | g
  ·rw [e i g] at hx
   exact objBelow_le (by simp [-List.map_set,-objBelow,-depV]) x (h.bel i x h1 hx)
  ·rw [List.getElem?_append_right g] at hx
   exact hX x (List.mem_of_getElem? hx)
theorem PH.vh (h:PH a b cs size n canV els acc D) {cv:Nat} (hcv:b+5<cv) (hV:D[cv]? =some (.arr 1 [visF b cs cv])):VH a b D.length cs cv size n canV els acc D:=
 ⟨Nat.le_refl _,h.ib,h.ics,⟨hcv,ltOf hV⟩,h.A,h.N,h.O,h.C,h.can,h.S,hV,fun i x h1 _ hx=>h.bel i x h1 hx⟩
def tabH (b k:Nat) (els:List (List Bool)) (D:DH):DH:=(D.set (b+4) (.app 22 1 (els.map bitsD))).set (b+5) (.arr 1 [.apl (b+4) k])
theorem PH.tab (h:PH a b cs size n canV els acc D) (els':List (List Bool)):PH a b cs size n (.apl (b+4) els'.length) els' acc (tabH b els'.length els' D):=by
 have hib:=h.ib
 have hics:=h.ics
 have e:∀ i,i≠b+4→i≠b+5→(tabH b els'.length els' D)[i]? =D[i]?:=fun i h1 h2=>by
  unfold tabH
  rw [List.getElem?_set_ne (Ne.symm h2),List.getElem?_set_ne (Ne.symm h1)]
 have h4:(tabH b els'.length els' D)[b+4]? =some (.app 22 1 (els'.map bitsD)):=by
  unfold tabH;rw [List.getElem?_set_ne (by omega),List.getElem?_set_self (by omega)]
 have h5:(tabH b els'.length els' D)[b+5]? =some (.arr 1 [.apl (b+4) els'.length]):=by
  unfold tabH;rw [List.getElem?_set_self (by simp [-List.map_set,-objBelow,-depV];omega)]
 have hl:(tabH b els'.length els' D).length=D.length:=by simp [-List.map_set,-objBelow,-depV,tabH]
 refine ⟨by omega,by omega,by rw [e _ (by omega) (by omega)];exact h.A,by rw [e _ (by omega) (by omega)];exact h.N,?_,h5,.inr ⟨rfl,h4⟩,by rw [e _ (by omega) (by omega)];exact h.S,fun i x h1 hx=>?_⟩
 ·obtain ⟨ov,h1,h2⟩:=h.O
  refine ⟨ov,by rw [e _ (by omega) (by omega)];exact h1,?_⟩
  unfold OutR at h2 ⊢
  rw [e _ (by omega) (by omega)];exact h2
 ·rw [hl]
  by_cases e4:i=b+4
  ·subst e4
   rw [h4] at hx;cases hx
   simp [-List.map_set,-objBelow,-depV,objBelow,bitsD,below]
  ·by_cases e5:i=b+5
   ·subst e5
    rw [h5] at hx;cases hx
    simp [-List.map_set,-objBelow,-depV,objBelow,below];omega
   ·rw [e i e4 e5] at hx
    exact h.bel i x h1 hx
end Go.Dv
namespace Go.Dv
open Go Go.Sim Go.Proofs Go.Fsa
attribute [local simp] encI bitF autD b_neqB b_eqlB el_num set_num fz_num numD bitD el_bit set_bit fz_bit normF_strL
theorem w75t {a:Aut} (hv:a.valid) (hz:¬a.acc.length=0) {b cs k n:Nat} {canV:DV} {acc:List (List Int)} {H:DH} (hk:k≤60) (hn:n≤300) (hacc:acc.length≤n) (h:PH a b cs k n canV (a.tab k) acc H) :
  ∃ D3,callD Q 75 [intD a.st,.row (H.length+1) 0 0 0,.ref cs 0 0,.ref (b+3) 0 0,.ref (b+1) 0 0,.ref (b+5) 0 0,.ref b 0 0,.ref H.length 0 0] b (H++[.arr 1 [visF b cs H.length],.arr 1 []])=some (.tup [],D3) ∧
   D3[cs]? =some (.arr 1 [intD k])∧PH a b D3.length (k+1) n canV (a.tab k) (addW n acc [] (a.wds k a.st)) (D3++[.arr 1 [intD ((k+1:Nat):Int)]])∧∀ i,i<b→D3[i]? =H[i]?:=by
 have hst0:=hv.st0
 have hst1:=hv.st1
 obtain ⟨s,hs⟩:∃ s:Nat,a.st=s:=⟨a.st.toNat,by omega⟩
 have hib:=h.ib
 have hics:=h.ics
 have h1:=h.app (X:=[.arr 1 [visF b cs H.length],.arr 1 []]) (fun x hx=>by
  simp [-getElem?_pos,-List.map_set,-objBelow,-depV] at hx
  rcases hx with rfl | rfl
  ·simp [-getElem?_pos,-List.map_set,-objBelow,-depV,objBelow,below,belows,visF];omega
  ·rfl)
 have hV:=h1.vh (cv:=H.length) (by omega) (by simp [-getElem?_pos,-List.map_set,-objBelow,-depV])
 have hone:cellsD canV=[canV]:=by
  rcases h.can with ⟨rfl,_,_⟩ | ⟨rfl,_⟩<;>rfl
 rw [hs]
 obtain ⟨D3,q1,q2,q3,q4,q5⟩:=w75 hv hk hn (fun j hj=>⟨_,Aut.tab_get hj,by simp [-getElem?_pos,-List.map_set,-objBelow,-depV],fun s hs=>Aut.tab_row hs⟩) hone k s [] (.row (H.length+1) 0 0 0) acc _ (by omega) (by simp [-getElem?_pos,-List.map_set,-objBelow,-depV]) hacc hV (.row ⟨by omega,by omega,by omega⟩ (by simp [-getElem?_pos,-List.map_set,-objBelow,-depV]))
 have hl:=q2.hL
 simp [-getElem?_pos,-List.map_set,-objBelow,-depV] at hl
 refine ⟨D3,q1,q2.S,?_,fun i hi=>?_⟩
 ·have e:∀ i,i<D3.length→(D3++[DObj.arr 1 [intD ((k+1:Nat):Int)]])[i]? =D3[i]?:=fun i hi=>List.getElem?_append_left hi
  refine ⟨by simp [-getElem?_pos,-List.map_set,-objBelow,-depV];omega,by simp [-getElem?_pos,-List.map_set,-objBelow,-depV];omega,by rw [e _ (by omega)];exact q2.A,by rw [e _ (by omega)];exact q2.N,?_,by rw [e _ (by omega)];exact q2.C,?_,by simp [-getElem?_pos,-List.map_set,-objBelow,-depV],fun i x hi hx=>?_⟩
  ·obtain ⟨ov,g1,g2⟩:=q2.O
   refine ⟨ov,by rw [e _ (by omega)];exact g1,?_⟩
   unfold OutR at g2 ⊢
   rw [e _ (by omega)];exact g2
  ·have:=q2.can
   unfold CanR at this ⊢
   rw [e _ (by omega)];exact this
  ·rw [List.length_append]
   rcases Nat.lt_or_ge i D3.length with g | g
   ·rw [e i g] at hx
    rcases Nat.lt_or_ge i (H++[DObj.arr 1 [visF b cs H.length],.arr 1 []]).length with g2 | g2
    ·exact objBelow_le (by simp [-getElem?_pos,-List.map_set,-objBelow,-depV] at hl ⊢;omega) x (q2.bel i x hi g2 hx)
    ·exact objBelow_le (Nat.le_add_right _ _) x (q5 i x g2 hx)
   ·rw [List.getElem?_append_right g] at hx
    have:=List.mem_of_getElem? hx
    simp [-getElem?_pos,-List.map_set,-objBelow,-depV] at this
    subst this
    rfl
 ·rw [q4 i (by simp [-getElem?_pos,-List.map_set,-objBelow,-depV];omega) (by omega) (by omega) (fun e=>by have e:i=H.length+1:=e;omega),List.getElem?_append_left (by omega)]
theorem f74 {a:Aut} (hv:a.valid) {b cs k n:Nat} {canV:DV} {acc:List (List Int)} {X:DH} (h:PH a b cs (k+1) n canV (a.tab k) acc X) (hk:k<1000) {r:List Int} (hr:r∈a.nxt):FnB 74 [] [.ref (b+5) 0 0,.ref cs 0 0] X r (a.anyW k):=by
 have hib:=h.ib
 have hics:=h.ics
 refine ⟨rfl,by simp [-getElem?_pos,-List.map_set,-objBelow,-depV,belows,below];omega,fun x base hx=>?_⟩
 have hrow:=(hv.rows r hr).2 x hx
 have hone:oneD canV=true∧cellsD canV=[canV]:=by
  rcases h.can with ⟨rfl,_,_⟩ | ⟨rfl,_⟩<;>exact ⟨rfl,rfl⟩
 have:=w74 x k hk (a.tab k) _ (Aut.tab_get (Nat.le_refl k)) (by simp [-getElem?_pos,-List.map_set,-objBelow,-depV];omega) (b+4) (b+5) cs canV X h.C h.can h.S hone base
 rw [show (decide (0≤x)&&(((List.range a.acc.length).map fun s:Nat=>a.fulW k s)[x.toNat]?).getD false)=a.anyW k x by
  unfold Aut.anyW
  by_cases h0:0≤x
  ·rw [Aut.tab_row (by omega),Option.getD_some,Int.toNat_of_nonneg h0]
  ·simp [-getElem?_pos,-List.map_set,-objBelow,-depV,h0]] at this
 exact this
theorem w30 (a:Aut) (ha:a.nxt.length<1152921504606846976) (n most:Int) (hn:n≤300∨10000<n) (hm:most≤60∨1000<most) (base:Nat) (D:DH) :
  callD Q 30 [autD a,intD n,intD most] base D=some (.tup [.f (.lst ((listR a n most).1.map rowF)),intD (listR a n most).2],D):=by
 have h18:=fun bb D'=>w18 a ha bb D'
 simp only [autD,intD] at h18
 have r18:(Q.ann 18).raw=false:=by rw [ann18]
 rw [call_pure (fn:=Tryz.f30) (show Q.P.funcs[30]? =some Tryz.f30 from Tryz.func30) rfl ann30 rfl (by simp only [List.length_cons,List.length_nil];decide) (by kernel_rfl)]
 by_cases hv:a.valid
 case neg=>
  have hck:a.check=60:=by simp [-getElem?_pos,-List.map_set,-objBelow,-depV,Aut.check,hv]
  have e:listR a n most=([],60):=by unfold listR;rw [if_pos hv]
  rw [e]
  simp (maxSteps:=2000000) [-getElem?_pos,-List.map_set,-objBelow,-depV,h18,hck]
 have hck:a.check=0:=Aut.check_valid.2 hv
 by_cases hbad:n<0∨10000<n∨most<0∨1000<most
 ·have e:listR a n most=([],1):=by unfold listR;rw [if_neg (fun h=>h hv),if_pos hbad]
  rw [e]
  by_cases h1:n<0
  ·simp (maxSteps:=2000000) [-getElem?_pos,-List.map_set,-objBelow,-depV,h18,hck,h1]
  by_cases h2:10000<n
  ·simp (maxSteps:=2000000) [-getElem?_pos,-List.map_set,-objBelow,-depV,h18,hck,h1,h2]
  by_cases h3:most<0
  ·simp (maxSteps:=2000000) [-getElem?_pos,-List.map_set,-objBelow,-depV,h18,hck,h1,h2,h3]
  have h4:1000<most:=by omega
  simp (maxSteps:=2000000) [-getElem?_pos,-List.map_set,-objBelow,-depV,h18,hck,h1,h2,h3,h4]
 have e:listR a n most=(a.list n.toNat (most.toNat+1),0):=by unfold listR;rw [if_neg (fun h=>h hv),if_neg hbad]
 rw [e]
 obtain ⟨n,rfl⟩:∃ m:Nat,n=m:=⟨n.toNat,by omega⟩
 obtain ⟨q,rfl⟩:∃ m:Nat,most=m:=⟨most.toNat,by omega⟩
 simp only [Int.toNat_natCast]
 have hla:=hv.len
 by_cases hz:a.acc.length=0
 ·have e1:a.acc=[]:=List.eq_nil_of_length_eq_zero hz
  have e2:a.nxt=[]:=List.eq_nil_of_length_eq_zero (by omega)
  rw [Aut.list_none e1 e2]
  simp (maxSteps:=2000000) [-getElem?_pos,-List.map_set,-objBelow,-depV,h18,hck,show ¬10000<(n:Int) by omega,show ¬1000<(q:Int) by omega,show ¬(n:Int)<0 by omega,show ¬(q:Int)<0 by omega,hz]
 simp (maxSteps:=2000000) [-getElem?_pos,-List.map_set,-objBelow,-depV,h18,hck,show ¬10000<(n:Int) by omega,show ¬1000<(q:Int) by omega,show ¬(n:Int)<0 by omega,show ¬(q:Int)<0 by omega,hz]
 generalize hX:loopG _ _ _=X
 obtain ⟨tm,H,rfl,hPH,hpre,t8⟩:∃ (tm:Trie DV) (H:DH),X=some (.exit 0,⟨tm,H⟩)∧(∃ ov,H[D.length+3]? =some (.arr 1 [ov])∧OutR H D.length ov (a.list n (q+1)))∧(∀ i,i<D.length→H[i]? =D[i]?)∧tm.get 8=some (.ref (D.length+3) 0 0):=by
  rw [← hX]
  clear hX h18 r18
  generalize hs49:SD.mk _ _=sd49
  revert sd49
  refine wl (fun p:Nat×Nat×DH=>⟨((((((Trie.leaf.put 10 (.ref p.2.1 0 0)).put 9 (.ref (D.length+5) 0 0)).put 8 (.ref (D.length+3) 0 0)).put 4 (.ref (D.length+1) 0 0)).put 3 (.ref D.length 0 0)).put 2 (intD q)),p.2.2⟩) (fun p=>p.1≤q+1∧(∃ canV,PH a D.length p.2.1 p.1 n canV (a.tab (p.1-1)) (a.list n p.1) p.2.2)∧∀ i,i<D.length→p.2.2[i]? =D[i]?) (fun p=>q+1-p.1) ?_ (0,D.length+6,_) ⟨Nat.zero_le _,⟨.row (D.length+4) 0 1 1,?_⟩,fun i hi=>List.getElem?_append_left hi⟩
  rotate_left
  ·have hb8:∀ (X:DH) (i:Nat),(D++X)[D.length+i]? =X[i]?:=fun X i=>by rw [List.getElem?_append_right (by omega),Nat.add_sub_cancel_left]
   have hb0:∀ (X:DH),(D++X)[D.length]? =X[0]?:=fun X=>hb8 X 0
   refine ⟨by simp [-getElem?_pos,-List.map_set,-objBelow,-depV],by simp [-getElem?_pos,-List.map_set,-objBelow,-depV],by rw [hb0];rfl,by rw [hb8];rfl,⟨.row (D.length+2) 0 0 0,by rw [hb8];rfl,.inl ⟨rfl,rfl,by rw [hb8];rfl⟩⟩,by rw [hb8];rfl,.inl ⟨rfl,by simp [-getElem?_pos,-List.map_set,-objBelow,-depV,Aut.tab_len],by rw [hb8];show _=some (DObj.arr 1 ((a.tab 0).map bitsD));rw [Aut.tab0];rfl⟩,by rw [hb8];rfl,fun i x hi hx=>?_⟩
   rw [List.getElem?_append_right hi] at hx
   have:=List.mem_of_getElem? hx
   simp [-getElem?_pos,-List.map_set,-objBelow,-depV] at this
   rcases this with rfl | rfl | rfl | rfl | rfl | rfl | rfl<;>simp [-getElem?_pos,-List.map_set,-objBelow,-depV,objBelow,below,belows]
  rintro ⟨k,cs,H⟩ ⟨hk,⟨canV,hPH⟩,hpre⟩ ih
  simp only at hk hPH hpre ih
  rw [loopG_eq]
  obtain ⟨ov,hO1,hO2⟩:=hPH.O
  have hov:lenV H ov=some (a.list n k).length∧cellsD ov=[ov]:=by
   rcases hO2 with ⟨rfl,e2,h⟩ | ⟨rfl,h⟩
   ·simp [-getElem?_pos,-List.map_set,-objBelow,-depV,lenV,h,cellsD,e2]
   ·simp [-getElem?_pos,-List.map_set,-objBelow,-depV,lenV,h,cellsD]
  have hS:=hPH.S
  have hN:=hPH.N
  have hC:=hPH.C
  have hA:=hPH.A
  have hib:=hPH.ib
  simp only [intD] at hS hN
  by_cases hkq:k≤q
  case neg=>
   obtain rfl:k=q+1:=by omega
   simp (maxSteps:=2000000) [-getElem?_pos,-List.map_set,-objBelow,-depV,hS,show ¬(q:Int)+1≤q by omega]
   exact ⟨_,_,⟨rfl,rfl⟩,⟨ov,hO1,hO2⟩,hpre,by simp [-getElem?_pos,-List.map_set,-objBelow,-depV]⟩
  by_cases hfull:n≤(a.list n k).length
  ·simp (maxSteps:=2000000) [-getElem?_pos,-List.map_set,-objBelow,-depV,hS,hkq,hO1,hov.1,hov.2,hN,hfull,show ¬(a.list n k).length<n by omega]
   exact ⟨_,_,⟨rfl,rfl⟩,⟨ov,hO1,by rw [Aut.list_full hfull (by omega)];exact hO2⟩,hpre,by simp [-getElem?_pos,-List.map_set,-objBelow,-depV]⟩
  have hq60:q≤60:=by omega
  have hn300:n≤300:=by omega
  have hacc:=Aut.list_le (a:=a) (n:=n) (k:=k)
  have r75:(Q.ann 75).raw=true:=by rw [ann75]
  have kw:=wrap_succ (show k+1≤9223372036854775807 by omega)
  by_cases hk0:k=0
  ·subst hk0
   obtain ⟨D3,r1,r2,r3,r4⟩:=w75t hv hz (by omega) hn300 hacc hPH
   have hcsl:=ltOf r2
   have hD3l:D.length≤D3.length:=by have:=r3.ics;omega
   have ih':=ih (0+1,D3.length,D3++[DObj.arr 1 [intD ((0+1:Nat):Int)]]) ⟨by simp only;omega,⟨canV,r3⟩,fun i hi=>by
    show (D3++[DObj.arr 1 [intD ((0+1:Nat):Int)]])[i]? =_
    have:=r3.ib
    simp [-getElem?_pos,-List.map_set,-objBelow,-depV] at this
    rw [List.getElem?_append_left (by omega),r4 i hi,hpre i hi]⟩ (by simp only;omega)
   simp only [intD,visF] at r1 r2
   simp [-getElem?_pos,-List.map_set,-objBelow,-depV] at r1 r2
   simp (maxSteps:=2000000) [-getElem?_pos,-List.map_set,-objBelow,-depV] at ih'
   have gA:=fun X=>get_app (X:=X) hA
   have gS:=fun X=>get_app (X:=X) hS
   simp (maxSteps:=2000000) [-getElem?_pos,-List.map_set,-objBelow,-depV,hS,hkq,hO1,hov.1,hov.2,hN,show (a.list n 0).length<n by omega,gA,gS,r1,r2,r75,show ofV Value.nilFunc=rv .nilFunc from rfl,show oneD (rv .nilFunc)=true from rfl,show D.length≤H.length by omega,hD3l,hcsl]
   exact ih'
  obtain ⟨j,hj⟩:∃ j,j+1=k:=⟨k-1,by omega⟩
  have hPJ:PH a D.length cs (j+1) n canV (a.tab j) (a.list n k) H:=by
   rw [hj,show j=k-1 by omega];exact hPH
  obtain ⟨m,hm⟩:∃ m,m=a.acc.length:=⟨_,rfl⟩
  have hmost:=hv.most
  obtain ⟨bits,hbits⟩:∃ l,l=(List.range a.acc.length).map fun s:Nat=>a.fulW (j+1) s:=⟨_,rfl⟩
  have hbl:bits.length=m:=by rw [hbits,hm];simp [-getElem?_pos,-List.map_set,-objBelow,-depV]
  have gA:=fun X=>get_app (X:=X) hA
  have gS:=fun X=>get_app (X:=X) hS
  have r73:(Q.ann 73).raw=false:=by rw [ann73]
  have h73:=fun (bb:Nat) (W:List Bool) (r:List Int) (hr:r∈a.nxt)=>w73 r (by have:=(hv.rows r hr).1;have:=hv.hi;omega) 74 [] [.ref (D.length+5) 0 0,.ref cs 0 0] (a.anyW j) bb (H++[DObj.arr 1 (W.map bitD)]) (f74 hv (hPJ.app (X:=[DObj.arr 1 (W.map bitD)]) (fun x hx=>by
   simp [-getElem?_pos,-List.map_set,-objBelow,-depV] at hx
   subst hx
   simp [-getElem?_pos,-List.map_set,-objBelow,-depV,objBelow,List.all_eq_true,below])) (by omega) hr)
  simp (maxSteps:=2000000) [-getElem?_pos,-List.map_set,-objBelow,-depV,hS,hkq,hO1,hov.1,hov.2,hN,show (a.list n k).length<n by omega,gA,gS,hA,← hm,show m≤140737488355328 by omega,show m<9223372036854775808 by omega,show 0<k by omega]
  generalize hX:loopG _ _ _=X
  have gO:=fun X=>get_app (X:=X) hO1
  obtain ⟨tm,rfl,t2,t3,t4,t8,t9,t10,t11⟩:∃ (tm:Trie DV),X=some (.exit 2,⟨tm,H++[.arr 1 (bits.map bitD)]⟩)∧tm.get 2=some (intD q)∧tm.get 3=some (.ref D.length 0 0)∧tm.get 4=some (.ref (D.length+1) 0 0)∧tm.get 8=some (.ref (D.length+3) 0 0)∧tm.get 9=some (.ref (D.length+5) 0 0)∧tm.get 10=some (.ref cs 0 0)∧tm.get 11=some (.row H.length 0 m m):=by
   rw [← hX]
   clear hX ih
   have hrep:List.replicate m (DV.f (.raw (.bool false)))=(List.replicate m false).map bitD:=by rw [List.map_replicate];rfl
   simp only [hrep]
   generalize hs50:SD.mk _ _=sd50
   revert sd50
   refine wl (fun p:Nat×List Bool=>⟨(((((((((Trie.leaf.put 59 (intD p.1)).put 58 (intD m)).put 11 (.row H.length 0 m m)).put 10 (.ref cs 0 0)).put 9 (.ref (D.length+5) 0 0)).put 8 (.ref (D.length+3) 0 0)).put 4 (.ref (D.length+1) 0 0)).put 3 (.ref D.length 0 0)).put 2 (intD q)),H++[.arr 1 (p.2.map bitD)]⟩) (fun p=>p.1≤m∧p.2.length=m∧p.2.take p.1=bits.take p.1) (fun p=>m-p.1) ?_ (0,List.replicate m false) ⟨Nat.zero_le _,by simp [-getElem?_pos,-List.map_set,-objBelow,-depV],rfl⟩
   rintro ⟨i,W⟩ ⟨hi,hWl,hW⟩ ih
   simp only at hi hWl hW ih
   rw [loopG_eq]
   by_cases hlt:i<m
   case neg=>
    obtain rfl:i=m:=by omega
    rw [List.take_of_length_le (by omega),List.take_of_length_le (by omega)] at hW
    subst hW
    simp (maxSteps:=2000000) [-getElem?_pos,-List.map_set,-objBelow,-depV]
    done
   obtain ⟨r,hr⟩:=getOf (l:=a.nxt) (i:=i) (by omega)
   have hrm:=List.mem_of_getElem? hr
   have h73:=fun bb=>h73 bb W r hrm
   rw [Aut.any_row hv hr] at h73
   have hbi:bits[i]? =some (a.fulW (j+1) i):=by rw [hbits];exact Aut.tab_row (by omega)
   have ih':=ih (i+1,W.set i (a.fulW (j+1) i)) ⟨by simp only;omega,by simp only [List.length_set];exact hWl,by
    simp only
    rw [List.take_add_one,List.take_set_of_le (Nat.le_refl _),List.getElem?_set_self (by omega),hW,List.take_add_one,hbi]⟩ (by simp only;omega)
   have iw:=wrap_succ (show i+1≤9223372036854775807 by omega)
   simp only [rowD,rowF,boolD] at h73
   simp (maxSteps:=2000000) [-getElem?_pos,-List.map_set,-objBelow,-depV] at ih'
   obtain ⟨wi,hwi⟩:=getOf (l:=W) (i:=i) (by omega)
   simp (maxSteps:=2000000) [-getElem?_pos,-List.map_set,-objBelow,-depV,hlt,gA,hr,h73,r73,hWl,iw,hwi,show D.length≤H.length by omega]
   exact ih'
  have hfzb:∀ b X,frzL (frz b X 3) (bits.map bitD)=some (bits.map bitF,[]):=fun b X=>fz_bit
  have htkb:List.take m (bits.map bitD)=bits.map bitD:=List.take_of_length_le (by simp [-getElem?_pos,-List.map_set,-objBelow,-depV];omega)
  have hT:a.tab (j+1)=a.tab j++[bits]:=by rw [Aut.tab_succ,hbits]
  have hTl:(a.tab j).length=j+1:=Aut.tab_len
  have hP2:=(hPJ.tab (a.tab (j+1))).app (X:=[.dead,.arr 1 [bitsD bits]]) (fun x hx=>by
   simp [-getElem?_pos,-List.map_set,-objBelow,-depV] at hx
   rcases hx with rfl | rfl
   ·rfl
   ·simp [-getElem?_pos,-List.map_set,-objBelow,-depV,objBelow,bitsD,below])
  obtain ⟨D3,r1,r2,r3,r4⟩:=w75t hv hz (by omega) hn300 hacc hP2
  have hcsl:=ltOf r2
  have hD3l:D.length≤D3.length:=by have:=r3.ics;omega
  have hk1:k-1=j:=by omega
  have ih':=ih (k+1,D3.length,D3++[DObj.arr 1 [intD ((k+1:Nat):Int)]]) ⟨by simp only;omega,⟨.apl (D.length+4) (a.tab (j+1)).length,by
    simp only
    rw [show k+1-1=j+1 by omega,← hj]
    exact hj▸r3⟩,fun i hi=>by
   show (D3++[DObj.arr 1 [intD ((k+1:Nat):Int)]])[i]? =_
   rw [List.getElem?_append_left (by omega),r4 i hi,List.getElem?_append_left (by simp [-getElem?_pos,-List.map_set,-objBelow,-depV,tabH];omega)]
   unfold tabH
   rw [List.getElem?_set_ne (by omega),List.getElem?_set_ne (by omega),hpre i hi]⟩ (by simp only;omega)
  simp only [intD,visF,tabH,hT] at r1 r2
  have g5:=fun (y:DObj) (X:DH)=>get_app (X:=X) (show (H.set (D.length+4) y)[D.length+5]? =some (.arr 1 [canV]) by rw [List.getElem?_set_ne (by omega)];exact hC)
  have gA2:=fun (y z:DObj) (X:DH)=>get_app (X:=X) (show ((H.set (D.length+4) y).set (D.length+5) z)[D.length]? =some (.arr 4 [autD a]) by rw [List.getElem?_set_ne (by omega),List.getElem?_set_ne (by omega)];exact hA)
  have gS2:=fun (y z x0 x1 x2:DObj) (X:DH)=>(show ((H.set (D.length+4) y).set (D.length+5) z++x0::x1::x2::X)[H.length+2]? =some x2 by
   rw [List.getElem?_append_right (by simp [-getElem?_pos,-List.map_set,-objBelow,-depV])];simp [-getElem?_pos,-List.map_set,-objBelow,-depV])
  have gT2:=fun (y z x0 x1 x2 v:DObj) (X:DH)=>(show ((H.set (D.length+4) y).set (D.length+5) z++x0::x1::x2::X).set (H.length+2) v=(H.set (D.length+4) y).set (D.length+5) z++x0::x1::v::X by
   rw [List.set_append_right _ _ (by simp [-getElem?_pos,-List.map_set,-objBelow,-depV])];simp [-getElem?_pos,-List.map_set,-objBelow,-depV])
  have hb4:D.length+4<H.length:=by omega
  have hb5:D.length+5<H.length:=by omega
  have hb0:D.length≤H.length:=by omega
  have gC:=fun X=>get_app (X:=X) hC
  rcases hPJ.can with ⟨rfl,e4,c4⟩ | ⟨rfl,c4⟩
  ·obtain rfl:j=0:=by omega
   obtain rfl:k=1:=by omega
   simp [-getElem?_pos,-List.map_set,-objBelow,-depV,hTl,bitsD] at r1 r2
   simp (maxSteps:=2000000) [-getElem?_pos,-List.map_set,-objBelow,-depV] at ih'
   have g4:=fun X=>get_app (X:=X) c4
   simp (maxSteps:=2000000) [-getElem?_pos,-List.map_set,-objBelow,-depV,t2,t3,t4,t8,t9,t10,t11,gC,g4,g5,gA2,hfzb,hbl,htkb,hb0,hb4,hb5,e4,r1,r2,r75,show ofV Value.nilFunc=rv .nilFunc from rfl,show oneD (rv .nilFunc)=true from rfl,hD3l,hcsl,gS2,gT2,show D.length≤H.length+2 by omega]
   exact ih'
  ·have hkj:(j:Int)+1=(k:Int):=by omega
   simp [-getElem?_pos,-List.map_set,-objBelow,-depV,hTl,bitsD] at r1 r2
   rw [hkj] at r2
   simp (maxSteps:=2000000) [-getElem?_pos,-List.map_set,-objBelow,-depV] at ih'
   have g4:=fun X=>get_app (X:=X) c4
   simp (maxSteps:=2000000) [-getElem?_pos,-List.map_set,-objBelow,-depV,t2,t3,t4,t8,t9,t10,t11,gC,g4,g5,gA2,hfzb,hbl,htkb,hb0,hb4,hb5,hTl,r1,r2,r75,show ofV Value.nilFunc=rv .nilFunc from rfl,show oneD (rv .nilFunc)=true from rfl,hD3l,hcsl,show (j+1+1)*24≤1099511627776∧j+1≤1099511627775 by omega,show j≤1099511627774 by omega,kw,gS2,gT2,show D.length≤H.length+2 by omega]
   exact ih'
 obtain ⟨ov,g1,g2⟩:=hPH
 have hfz:∀ (l:List (List Int)) b D,frzL (frz b D 3) (l.map rowD)=some (l.map rowF,[]):=fun l b D=>fzL_map fun _=>rfl
 have htk:H.take D.length=D:=by
  refine List.ext_getElem? fun i=>?_
  rw [List.getElem?_take]
  split
  ·rename_i hi;exact hpre i hi
  ·rename_i hi;rw [List.getElem?_eq_none (by omega)]
 rcases g2 with ⟨rfl,e2,g2⟩ | ⟨rfl,g2⟩
 ·rw [e2]
  simp (maxSteps:=2000000) [-getElem?_pos,-List.map_set,-objBelow,-depV,g1,t8,g2,htk]
 ·simp (maxSteps:=2000000) [-getElem?_pos,-List.map_set,-objBelow,-depV,g1,t8,g2,hfz,htk]
  done
end Go.Dv
namespace Go.Fsa
theorem lexB_drop:∀ {u v:List Int} {i:Nat} {x y:Int},u[i]? =some x→v[i]? =some y→u.take i=v.take i→lexB u v=if x=y then lexB (u.drop (i+1)) (v.drop (i+1)) else decide (x<y)
 | [],_,_,_,_,h,_,_=>by simp at h
 | _::_,[],_,_,_,_,h,_=>by simp at h
 | a::u,b::v,0,x,y,h1,h2,_=>by
  simp at h1 h2
  subst h1 h2
  rfl
 | a::u,b::v,i+1,x,y,h1,h2,h3=>by
  simp only [List.take_succ_cons,List.cons.injEq] at h3
  simp only [List.getElem?_cons_succ] at h1 h2
  simp only [lexB,if_pos h3.1,List.drop_succ_cons]
  exact lexB_drop h1 h2 h3.2
theorem lexB_diff {u v:List Int} {i:Nat} {x y:Int} (h1:u[i]? =some x) (h2:v[i]? =some y) (h3:u.take i=v.take i) (hne:x≠y):lexB u v=decide (x<y):=by
 rw [lexB_drop h1 h2 h3,if_neg hne]
end Go.Fsa
namespace Go.Dv
open Go Go.Sim Go.Proofs Go.Fsa
attribute [local simp] encI bitF autD b_neqB b_eqlB el_num set_num fz_num numD bitD el_bit set_bit fz_bit normF_strL
attribute [local simp] agO_g agW_t agW_f
attribute [local simp] eqD_agg eq1_int eq1_bool eq1_lst
theorem w31 (u v:List Int) (hu:u.length<1152921504606846976) (hv:v.length<1152921504606846976) (base:Nat) (D:DH):callD Q 31 [rowD u,rowD v] base D=some (boolD (lessB u v),D):=by
 rw [call_pure (fn:=Tryz.f31) (show Q.P.funcs[31]? =some Tryz.f31 from Tryz.func31) rfl ann31 rfl (by simp only [List.length_cons,List.length_nil];decide) (by kernel_rfl)]
 have gp:=gp31
 simp only [ann31,Tryz.f31,gpB_some,gpC_draw,gpC_reg,gpC_seq,gpC_cond,gpC_block,gpC_loop,gpC_range,gpC_skip,gpC_ret,gpC_exit,gpC_label,gpO_some,gpO_none,findN,Bool.and_eq_true,Bool.and_true,Bool.true_and,reduceIte,Nat.reduceEqDiff,true_and,and_true] at gp
 by_cases hl:u.length=v.length
 case neg=>
  rw [show lessB u v=decide (u.length<v.length) by unfold lessB;rw [if_neg hl]]
  simp (maxSteps:=2000000) [-getElem?_pos,-List.map_set,-objBelow,-depV,gp,hl]
 rw [show lessB u v=lexB u v by unfold lessB;rw [if_pos hl]]
 simp (maxSteps:=2000000) [-getElem?_pos,-List.map_set,-objBelow,-depV,gp,hl]
 generalize hs51:SD.mk _ _=sd51
 revert sd51
 refine wl (fun i:Nat=>⟨((Trie.leaf.put 5 (intD i)).put 1 (rowD v)).put 0 (rowD u),D⟩) (fun i=>i≤u.length∧u.take i=v.take i) (fun i=>u.length-i) ?_ 0 ⟨Nat.zero_le _,rfl⟩
 intro i ⟨hi,ht⟩ ih
 rw [loopG_eq]
 by_cases hlt:i<u.length
 case neg=>
  rw [List.take_of_length_le (by omega),List.take_of_length_le (by omega)] at ht
  subst ht
  rw [lexB_self]
  simp (maxSteps:=2000000) [-getElem?_pos,-List.map_set,-objBelow,-depV,gp,hlt]
 obtain ⟨x,hx⟩:=getOf (l:=u) (i:=i) hlt
 obtain ⟨y,hy⟩:=getOf (l:=v) (i:=i) (by omega)
 have hww:=wrap_succ (show i+1≤9223372036854775807 by omega)
 by_cases hxy:x=y
 ·subst hxy
  have ih':=ih (i+1) ⟨by omega,by rw [List.take_add_one,List.take_add_one,hx,hy,ht]⟩ (by omega)
  simp (maxSteps:=2000000) [-getElem?_pos,-List.map_set,-objBelow,-depV] at ih'
  simp (maxSteps:=2000000) [-getElem?_pos,-List.map_set,-objBelow,-depV,gp,hlt,hx,hy,hww]
  exact ih'
 ·rw [lexB_diff hx hy ht hxy]
  simp (maxSteps:=2000000) [-getElem?_pos,-List.map_set,-objBelow,-depV,gp,hlt,hx,hy,hxy]
theorem w28 (u v:List Int) (hu:u.length<1152921504606846976) (hv:v.length<1152921504606846976) (o1 o2 base:Nat) (D:DH) (h1:D[o1]? =some (.arr 1 [rowD u])) (h2:D[o2]? =some (.arr 1 [rowD v])):callD Q 28 [.row o1 0 1 1,.row o2 0 1 1] base D=some (boolD (decide (u=v)),D):=by
 rw [call_pure (fn:=Tryz.f28) (show Q.P.funcs[28]? =some Tryz.f28 from Tryz.func28) rfl ann28 rfl (by simp only [List.length_cons,List.length_nil];decide) (by kernel_rfl)]
 have gp:=gp28
 simp only [ann28,Tryz.f28,gpB_some,gpC_draw,gpC_reg,gpC_seq,gpC_cond,gpC_block,gpC_loop,gpC_range,gpC_skip,gpC_ret,gpC_exit,gpC_label,gpO_some,gpO_none,findN,Bool.and_eq_true,Bool.and_true,Bool.true_and,reduceIte,Nat.reduceEqDiff,true_and,and_true] at gp
 have h63:=fun bb D'=>w63 u v hu hv bb D'
 simp only [rowD,rowF,boolD] at h63
 have r63:(Q.ann 63).raw=false:=by rw [ann63]
 have l1:=ltOf h1
 have l2:=ltOf h2
 simp (maxSteps:=2000000) [-getElem?_pos,-List.map_set,-objBelow,-depV,gp,h1,h2,l1,l2]
 generalize hs52:SD.mk _ _=sd52
 revert sd52
 refine wl (fun i:Nat=>⟨((Trie.leaf.put 5 (intD i)).put 1 (.row o2 0 1 1)).put 0 (.row o1 0 1 1),D⟩) (fun i=>i≤1∧(i=1→u=v)) (fun i=>1-i) ?_ 0 ⟨Nat.zero_le _,fun h=>by omega⟩
 intro i ⟨hi,ht⟩ ih
 rw [loopG_eq]
 by_cases h0:i=0
 ·subst h0
  by_cases huv:u=v
  ·have ih':=ih 1 ⟨Nat.le_refl _,fun _=>huv⟩ (by omega)
   subst huv
   simp (maxSteps:=2000000) [-getElem?_pos,-List.map_set,-objBelow,-depV] at ih'
   simp [-getElem?_pos,-List.map_set,-objBelow,-depV] at h63
   simp (maxSteps:=2000000) [-getElem?_pos,-List.map_set,-objBelow,-depV,gp,h1,h2,l1,l2,h63,r63]
   exact ih'
  ·simp (maxSteps:=2000000) [-getElem?_pos,-List.map_set,-objBelow,-depV,gp,h1,h2,h63,r63,huv]
 ·obtain rfl:i=1:=by omega
  rw [decide_eq_true (ht rfl)]
  simp (maxSteps:=2000000) [-getElem?_pos,-List.map_set,-objBelow,-depV,gp,h1,h2]
end Go.Dv
namespace Go.Dv
open Go Go.Sim Go.Proofs Go.Fsa
attribute [local simp] encI bitF autD b_neqB b_eqlB el_num set_num fz_num numD bitD el_bit set_bit fz_bit normF_strL bl_byte
attribute [local simp] agO_g agW_t agW_f
attribute [local simp] eqD_agg eq1_int eq1_bool eq1_lst
theorem w6 (a b:Aut) (n q:Int) (l:List (List Int)) (ha:a.nxt.length<1152921504606846976) (hb:b.nxt.length<1152921504606846976) (hl:l.length<1152921504606846976) (base:Nat) (D:DH) :
  callD Q 6 [autD a,autD b,intD n,intD q,.f (.lst (l.map rowF))] base D=some (boolD true,D):=by
 rw [call_pure (fn:=Tryz.f6) (show Q.P.funcs[6]? =some Tryz.f6 from Tryz.func6) rfl ann6 rfl (by simp only [List.length_cons,List.length_nil];decide) (by kernel_rfl)]
 have gp:=gp6
 simp only [ann6,Tryz.f6,gpB_some,gpC_draw,gpC_reg,gpC_seq,gpC_cond,gpC_block,gpC_loop,gpC_range,gpC_skip,gpC_ret,gpC_exit,gpC_label,gpO_some,gpO_none,findN,Bool.and_eq_true,Bool.and_true,Bool.true_and,reduceIte,Nat.reduceEqDiff,true_and,and_true] at gp
 have h11:∀ b D,callD Q 11 [] b D=some (rv (.bool true),D):=fun b D=>call_told (by kernel_rfl)
 have h12:=fun bb=>w12 [a,b] (by simp [-getElem?_pos,-List.map_set,-objBelow,-depV]) (by simp [-getElem?_pos,-List.map_set,-objBelow,-depV];exact ⟨ha,hb⟩) (D.length+2) bb (D++[.arr 4 [autD a],.arr 4 [autD b],.arr 4 [autD a,autD b]]) (by simp [-getElem?_pos,-List.map_set,-objBelow,-depV])
 simp only [List.length_cons,List.length_nil,Nat.zero_add,Nat.reduceAdd,boolD,autD] at h12
 by_cases hs:∀ x∈[a,b],x.small
 case neg=>
  rw [decide_eq_false hs] at h12
  simp (maxSteps:=2000000) [-getElem?_pos,-List.map_set,-objBelow,-depV,gp,h11,h12]
 rw [decide_eq_true hs] at h12
 obtain ⟨k,hk⟩:∃ k,k=decide ((∀ r∈l,r.length≤40)∧l.length≤40):=⟨_,rfl⟩
 have h13:=fun bb D'=>w13l l hl bb D' k hk
 simp only [boolD] at h13
 cases k with
 | false=>simp (maxSteps:=2000000) [-getElem?_pos,-List.map_set,-objBelow,-depV,gp,h11,h12,h13]
 | true=>
 have h19a:=fun bb D=>w19 a bb D
 have h19b:=fun bb D=>w19 b bb D
 simp only [autD,intD] at h19a h19b
 have hsa:=hs a (by simp [-getElem?_pos,-List.map_set,-objBelow,-depV])
 have hsb:=hs b (by simp [-getElem?_pos,-List.map_set,-objBelow,-depV])
 by_cases va:a.valid
 case neg=>
  have:a.check=60:=by simp [-getElem?_pos,-List.map_set,-objBelow,-depV,Aut.check,va]
  rw [this] at h19a
  simp (maxSteps:=2000000) [-getElem?_pos,-List.map_set,-objBelow,-depV,gp,h11,h12,h13,h19a]
 by_cases vb:b.valid
 case neg=>
  have:b.check=60:=by simp [-getElem?_pos,-List.map_set,-objBelow,-depV,Aut.check,vb]
  rw [this] at h19b
  rw [Aut.check_valid.2 va] at h19a
  simp (maxSteps:=2000000) [-getElem?_pos,-List.map_set,-objBelow,-depV,gp,h11,h12,h13,h19a,h19b]
 rw [Aut.check_valid.2 va] at h19a
 rw [Aut.check_valid.2 vb] at h19b
 have hbr:=of_decide_eq_true hk.symm
 by_cases hsy:a.sy=b.sy
 case neg=>simp (maxSteps:=2000000) [-getElem?_pos,-List.map_set,-objBelow,-depV,gp,h11,h12,h13,h19a,h19b,hsy]
 simp only [hsy] at h12 h19a h19b
 by_cases n0:n<0
 ·simp (maxSteps:=2000000) [-getElem?_pos,-List.map_set,-objBelow,-depV,gp,h11,h12,h13,h19a,h19b,hsy,n0]
 by_cases n1:300<n
 ·simp (maxSteps:=2000000) [-getElem?_pos,-List.map_set,-objBelow,-depV,gp,h11,h12,h13,h19a,h19b,hsy,n0,n1]
 by_cases q0:q<0
 ·simp (maxSteps:=2000000) [-getElem?_pos,-List.map_set,-objBelow,-depV,gp,h11,h12,h13,h19a,h19b,hsy,n0,n1,q0]
 by_cases q1:60<q
 ·simp (maxSteps:=2000000) [-getElem?_pos,-List.map_set,-objBelow,-depV,gp,h11,h12,h13,h19a,h19b,hsy,n0,n1,q0,q1]
 obtain ⟨n,rfl⟩:∃ m:Nat,n=m:=⟨n.toNat,by omega⟩
 obtain ⟨q,rfl⟩:∃ m:Nat,q=m:=⟨q.toNat,by omega⟩
 have hN:(a.nxt.length+1)*(b.nxt.length+1)≤100000:=Nat.le_trans (Nat.mul_le_mul (by have:=hsa.2.1;omega) (by have:=hsb.2.1;omega):_≤42*42) (by decide)
 obtain ⟨is,w,hwl,h27,hno,hyes,hno2,hmin⟩:=w27x a b va vb hsy hN (D.length) (D++[.arr 4 [autD a],.arr 4 [autD b],.arr 4 [autD a,autD b]])
 have h30:=fun bb D'=>w30 a ha n q (by omega) (by omega) bb D'
 have e30:listR a n q=(a.list n (q+1),0):=by
  unfold listR
  rw [if_neg (fun h=>h va),if_neg (by omega)]
  simp [-getElem?_pos,-List.map_set,-objBelow,-depV]
 rw [e30] at h30
 obtain ⟨m,hm⟩:∃ m,m=a.list n (q+1):=⟨_,rfl⟩
 rw [← hm] at h30
 have h21a:=fun w hw bb D=>w21 a w hw bb D
 have h21b:=fun w hw bb D=>w21 b w hw bb D
 have h31:=fun u v hu hv bb D=>w31 u v hu hv bb D
 have r21:(Q.ann 21).raw=false:=by rw [ann21]
 have r31:(Q.ann 31).raw=false:=by rw [ann31]
 have r28:(Q.ann 28).raw=false:=by rw [ann28]
 have hwa:=fun bb D=>h21a w (by omega) bb D
 have hwb:=fun bb D=>h21b w (by omega) bb D
 simp only [autD,intD,rowD,rowF,boolD,hsy] at h27 h30 h21a h21b h31 hwa hwb
 have hml:m.length≤n:=by rw [hm];exact Aut.list_le
 have hacc:a.accepts w≠b.accepts w∨is=false:=by
  cases is with
  | false=>exact .inr rfl
  | true=>exact .inl (hyes rfl)
 have hLa:∀ (u:List Int),a.accepts u≠b.accepts u→is=true∧lessB u w=false:=fun u hu=>by
  cases is with
  | false=>exact absurd (hno2 rfl u) hu
  | true=>exact ⟨rfl,hmin rfl u hu⟩
 have hr6:(is&&(a.accepts w==b.accepts w))=false:=by
  rcases hacc with h | h
  ·simp [-getElem?_pos,-List.map_set,-objBelow,-depV,h]
  ·simp [-getElem?_pos,-List.map_set,-objBelow,-depV,h]
 cases is
 case' false=>
  simp (maxSteps:=2000000) [-getElem?_pos,-List.map_set,-objBelow,-depV,gp,h11,h12,h13,h19a,h19b,hsy,n0,n1,q0,q1,h27,r21]
  generalize hX:loopG _ _ _=X
  obtain ⟨tm,rfl,t2,t3,t4,t5⟩:∃ tm,X=some (.exit 0,⟨tm,D++[.arr 4 [.agg [intD b.sy,intD a.st,.f (.lst (a.acc.map bitF)),.f (.lst (a.nxt.map rowF))]],.arr 4 [autD b],.arr 4 [.agg [intD b.sy,intD a.st,.f (.lst (a.acc.map bitF)),.f (.lst (a.nxt.map rowF))],autD b]]⟩)∧tm.get 2=some (intD n)∧tm.get 3=some (intD q)∧tm.get 4=some (.f (.lst (l.map rowF)))∧tm.get 5=some (.ref D.length 0 0):=by
   rw [← hX]
   clear hX
   generalize hs53:SD.mk _ _=sd53
   revert sd53
   refine wl (fun i:Nat=>⟨(((((((Trie.leaf.put 14 (intD i)).put 12 (boolD false)).put 11 (rowD w)).put 6 (.ref (D.length+1) 0 0)).put 5 (.ref D.length 0 0)).put 4 (.f (.lst (l.map rowF)))).put 3 (intD q)).put 2 (intD n),D++[.arr 4 [.agg [intD b.sy,intD a.st,.f (.lst (a.acc.map bitF)),.f (.lst (a.nxt.map rowF))]],.arr 4 [autD b],.arr 4 [.agg [intD b.sy,intD a.st,.f (.lst (a.acc.map bitF)),.f (.lst (a.nxt.map rowF))],autD b]]⟩) (fun i=>i≤l.length) (fun i=>l.length-i) ?_ 0 (Nat.zero_le _)
   intro i hi ih
   rw [loopG_eq]
   by_cases hlt:i<l.length
   case neg=>simp (maxSteps:=2000000) [-getElem?_pos,-List.map_set,-objBelow,-depV,gp,hlt]
   obtain ⟨r,hr⟩:=getOf (l:=l) (i:=i) hlt
   have hrl:=hbr.1 r (List.mem_of_getElem? hr)
   have h1:=fun bb D=>h21a r (by omega) bb D
   have h2:=fun bb D=>h21b r (by omega) bb D
   have h3:=fun bb D=>h31 r w (by omega) (by omega) bb D
   have hri:=hLa r
   have ih':=ih (i+1) (by omega) (by omega)
   simp (maxSteps:=2000000) [-getElem?_pos,-List.map_set,-objBelow,-depV] at ih'
   have hww:=wrap_succ (show i+1≤9223372036854775807 by omega)
   by_cases hac:a.accepts r=b.accepts r
   ·simp (maxSteps:=2000000) [-getElem?_pos,-List.map_set,-objBelow,-depV,gp,hlt,hr,h1,h2,h3,r21,r31,hac,hww]
    exact ih'
   ·exact absurd (hri hac).1 (by simp [-getElem?_pos,-List.map_set,-objBelow,-depV])
 case' true=>
  have hne:=hyes rfl
  simp (maxSteps:=2000000) [-getElem?_pos,-List.map_set,-objBelow,-depV,gp,h11,h12,h13,h19a,h19b,hsy,n0,n1,q0,q1,h27,r21,hwa,hwb,hne]
  generalize hX:loopG _ _ _=X
  obtain ⟨tm,rfl,t2,t3,t4,t5⟩:∃ tm,X=some (.exit 0,⟨tm,D++[.arr 4 [.agg [intD b.sy,intD a.st,.f (.lst (a.acc.map bitF)),.f (.lst (a.nxt.map rowF))]],.arr 4 [autD b],.arr 4 [.agg [intD b.sy,intD a.st,.f (.lst (a.acc.map bitF)),.f (.lst (a.nxt.map rowF))],autD b]]⟩)∧tm.get 2=some (intD n)∧tm.get 3=some (intD q)∧tm.get 4=some (.f (.lst (l.map rowF)))∧tm.get 5=some (.ref D.length 0 0):=by
   rw [← hX]
   clear hX
   generalize hs54:SD.mk _ _=sd54
   revert sd54
   refine wl (fun i:Nat=>⟨(((((((Trie.leaf.put 14 (intD i)).put 12 (boolD true)).put 11 (rowD w)).put 6 (.ref (D.length+1) 0 0)).put 5 (.ref D.length 0 0)).put 4 (.f (.lst (l.map rowF)))).put 3 (intD q)).put 2 (intD n),D++[.arr 4 [.agg [intD b.sy,intD a.st,.f (.lst (a.acc.map bitF)),.f (.lst (a.nxt.map rowF))]],.arr 4 [autD b],.arr 4 [.agg [intD b.sy,intD a.st,.f (.lst (a.acc.map bitF)),.f (.lst (a.nxt.map rowF))],autD b]]⟩) (fun i=>i≤l.length) (fun i=>l.length-i) ?_ 0 (Nat.zero_le _)
   intro i hi ih
   rw [loopG_eq]
   by_cases hlt:i<l.length
   case neg=>simp (maxSteps:=2000000) [-getElem?_pos,-List.map_set,-objBelow,-depV,gp,hlt]
   obtain ⟨r,hr⟩:=getOf (l:=l) (i:=i) hlt
   have hrl:=hbr.1 r (List.mem_of_getElem? hr)
   have h1:=fun bb D=>h21a r (by omega) bb D
   have h2:=fun bb D=>h21b r (by omega) bb D
   have h3:=fun bb D=>h31 r w (by omega) (by omega) bb D
   have hri:=hLa r
   have ih':=ih (i+1) (by omega) (by omega)
   simp (maxSteps:=2000000) [-getElem?_pos,-List.map_set,-objBelow,-depV] at ih'
   have hww:=wrap_succ (show i+1≤9223372036854775807 by omega)
   by_cases hac:a.accepts r=b.accepts r
   ·simp (maxSteps:=2000000) [-getElem?_pos,-List.map_set,-objBelow,-depV,gp,hlt,hr,h1,h2,h3,r21,r31,hac,hww]
    exact ih'
   ·have hlf:=(hri hac).2
    have hbn:(a.accepts r != b.accepts r)=true:=by simpa [-getElem?_pos,-List.map_set,-objBelow,-depV] using hac
    simp (maxSteps:=2000000) [-getElem?_pos,-List.map_set,-objBelow,-depV,gp,hlt,hr,h1,h2,h3,r21,r31,hbn,hlf,hww]
    exact ih'
 all_goals
  clear hX
  simp (maxSteps:=2000000) [-getElem?_pos,-List.map_set,-objBelow,-depV,gp,t2,t3,t4,t5,h30,show ¬n<m.length by omega]
  generalize hX:loopG _ _ _=X
  obtain ⟨tm,rfl,t2,t3,t4,t5,t15⟩:∃ tm,X=some (.exit 2,⟨tm,D++[.arr 4 [.agg [intD b.sy,intD a.st,.f (.lst (a.acc.map bitF)),.f (.lst (a.nxt.map rowF))]],.arr 4 [autD b],.arr 4 [.agg [intD b.sy,intD a.st,.f (.lst (a.acc.map bitF)),.f (.lst (a.nxt.map rowF))],autD b]]⟩)∧tm.get 2=some (intD n)∧tm.get 3=some (intD q)∧tm.get 4=some (.f (.lst (l.map rowF)))∧tm.get 5=some (.ref D.length 0 0)∧tm.get 15=some (.f (.lst (m.map rowF))):=by
   rw [← hX]
   clear hX
   generalize hs55:SD.mk _ _=sd55
   revert sd55
   refine wl (fun i:Nat=>⟨(((((Trie.leaf.put 16 (intD i)).put 15 (.f (.lst (m.map rowF)))).put 5 (.ref D.length 0 0)).put 4 (.f (.lst (l.map rowF)))).put 3 (intD q)).put 2 (intD n),D++[.arr 4 [.agg [intD b.sy,intD a.st,.f (.lst (a.acc.map bitF)),.f (.lst (a.nxt.map rowF))]],.arr 4 [autD b],.arr 4 [.agg [intD b.sy,intD a.st,.f (.lst (a.acc.map bitF)),.f (.lst (a.nxt.map rowF))],autD b]]⟩) (fun i=>i≤m.length) (fun i=>m.length-i) ?_ 0 (Nat.zero_le _)
   intro i hi ih
   rw [loopG_eq]
   by_cases hlt:i<m.length
   case neg=>simp (maxSteps:=2000000) [-getElem?_pos,-List.map_set,-objBelow,-depV,gp,hlt]
   obtain ⟨r,hr⟩:=getOf (l:=m) (i:=i) hlt
   have hra:=list_acc va (n:=n) (k:=q+1) (by rw [← hm];exact List.mem_of_getElem? hr)
   have h1:=fun bb D=>h21a r (by omega) bb D
   rw [hra.1] at h1
   have ih':=ih (i+1) (by omega) (by omega)
   simp (maxSteps:=2000000) [-getElem?_pos,-List.map_set,-objBelow,-depV] at ih'
   have hww:=wrap_succ (show i+1≤9223372036854775807 by omega)
   by_cases hi0:i=0
   ·subst hi0
    simp (maxSteps:=2000000) [-getElem?_pos,-List.map_set,-objBelow,-depV,gp,hlt,hr,h1,r21,r31,show ¬(q:Int)<r.length by omega,show ¬q<r.length by omega]
    exact ih'
   ·obtain ⟨j,hj⟩:∃ j,j+1=i:=⟨i-1,by omega⟩
    obtain ⟨r0,hr0⟩:=getOf (l:=m) (i:=j) (by omega)
    have hr0a:=list_acc va (n:=n) (k:=q+1) (by rw [← hm];exact List.mem_of_getElem? hr0)
    have h3:=fun bb D=>h31 r0 r (by omega) (by omega) bb D
    rw [list_up (a:=a) (n:=n) (k:=q+1) (i:=j) (by rw [← hm];exact hr0) (by rw [← hm,hj];exact hr)] at h3
    have hw1:wrapF .i64 ((i:Int)-1)=(j:Int):=by rw [wrap_in (by omega) (by omega)];omega
    simp (maxSteps:=2000000) [-getElem?_pos,-List.map_set,-objBelow,-depV,gp,hlt,hr,hr0,h1,h3,hw1,r21,r31,show 0<i by omega,show (0:Int)<i by omega,show j<m.length by omega,show ¬(q:Int)<r.length by omega,show ¬q<r.length by omega,hww]
    exact ih'
  clear hX
  simp (maxSteps:=2000000) [-getElem?_pos,-List.map_set,-objBelow,-depV,gp,t2,t3,t4,t5,t15]
  generalize hX:loopG _ _ _=X
  obtain ⟨tm,rfl⟩:∃ tm,X=some (.exit 4,⟨tm,D++[.arr 4 [.agg [intD b.sy,intD a.st,.f (.lst (a.acc.map bitF)),.f (.lst (a.nxt.map rowF))]],.arr 4 [autD b],.arr 4 [.agg [intD b.sy,intD a.st,.f (.lst (a.acc.map bitF)),.f (.lst (a.nxt.map rowF))],autD b]]⟩):=by
   rw [← hX]
   clear hX
   generalize hs56:SD.mk _ _=sd56
   revert sd56
   refine wl (fun i:Nat=>⟨(((((Trie.leaf.put 17 (intD i)).put 15 (.f (.lst (m.map rowF)))).put 5 (.ref D.length 0 0)).put 4 (.f (.lst (l.map rowF)))).put 3 (intD q)).put 2 (intD n),D++[.arr 4 [.agg [intD b.sy,intD a.st,.f (.lst (a.acc.map bitF)),.f (.lst (a.nxt.map rowF))]],.arr 4 [autD b],.arr 4 [.agg [intD b.sy,intD a.st,.f (.lst (a.acc.map bitF)),.f (.lst (a.nxt.map rowF))],autD b]]⟩) (fun i=>i≤l.length) (fun i=>l.length-i) ?_ 0 (Nat.zero_le _)
   intro i hi ih
   rw [loopG_eq]
   by_cases hlt:i<l.length
   case neg=>simp (maxSteps:=2000000) [-getElem?_pos,-List.map_set,-objBelow,-depV,gp,hlt]
   obtain ⟨r,hr⟩:=getOf (l:=l) (i:=i) hlt
   have hrl:=hbr.1 r (List.mem_of_getElem? hr)
   have h1:=fun bb D=>h21a r (by omega) bb D
   have ih':=ih (i+1) (by omega) (by omega)
   simp (maxSteps:=2000000) [-getElem?_pos,-List.map_set,-objBelow,-depV] at ih'
   have hww:=wrap_succ (show i+1≤9223372036854775807 by omega)
   by_cases c1:q<r.length
   ·simp (maxSteps:=2000000) [-getElem?_pos,-List.map_set,-objBelow,-depV,gp,hlt,hr,c1,hww]
    exact ih'
   cases c2:a.accepts r with
   | false=>
    rw [c2] at h1
    simp (maxSteps:=2000000) [-getElem?_pos,-List.map_set,-objBelow,-depV,gp,hlt,hr,c1,h1,r21,hww]
    exact ih'
   | true=>
   rw [c2] at h1
   have hhas:=list_has va (n:=n) (k:=q+1) c2 (by omega)
   rw [← hm] at hhas
   by_cases c3:m.length=n∧n=0
   ·obtain ⟨c3,c4⟩:=c3
    simp [-getElem?_pos,-List.map_set,-objBelow,-depV,c4] at ih'
    simp (maxSteps:=2000000) [-getElem?_pos,-List.map_set,-objBelow,-depV,gp,hlt,hr,c1,h1,r21,hww,c3,c4]
    exact ih'
   by_cases c5:m.length=n∧∃ u,m[n-1]? =some u∧lessB u r=true
   ·obtain ⟨c5,u,hu,hlu⟩:=c5
    have hn0:¬n=0:=fun h=>c3 ⟨c5,h⟩
    obtain ⟨j,hj⟩:∃ j,j+1=n:=⟨n-1,by omega⟩
    rw [show n-1=j by omega] at hu
    have hua:=list_acc va (n:=n) (k:=q+1) (by rw [← hm];exact List.mem_of_getElem? hu)
    have h3:=fun bb D=>h31 u r (by omega) (by omega) bb D
    rw [hlu] at h3
    have hw1:wrapF .i64 ((n:Int)-1)=(j:Int):=by rw [wrap_in (by omega) (by omega)];omega
    simp (maxSteps:=2000000) [-getElem?_pos,-List.map_set,-objBelow,-depV,gp,hlt,hr,c1,h1,r21,r31,hww,c5,hn0,hu,h3,hw1]
    exact ih'
   have hmem:r∈m:=by
    rcases hhas with h | ⟨h1,h2 | ⟨u,hu,hlu⟩⟩
    ·exact h
    ·exact absurd ⟨h1,h2⟩ c3
    ·exact absurd ⟨h1,u,hu,hlu⟩ c5
   by_cases c6:m.length=n
   ·have hn0:¬n=0:=fun h=>c3 ⟨c6,h⟩
    obtain ⟨j,hj⟩:∃ j,j+1=n:=⟨n-1,by omega⟩
    obtain ⟨u,hu⟩:=getOf (l:=m) (i:=j) (by omega)
    have hlu:lessB u r=false:=by
     cases h:lessB u r with
     | false=>rfl
     | true=>exact absurd ⟨c6,u,by rw [show n-1=j by omega];exact hu,h⟩ c5
    have hua:=list_acc va (n:=n) (k:=q+1) (by rw [← hm];exact List.mem_of_getElem? hu)
    have h3:=fun bb D=>h31 u r (by omega) (by omega) bb D
    rw [hlu] at h3
    have hw1:wrapF .i64 ((n:Int)-1)=(j:Int):=by rw [wrap_in (by omega) (by omega)];omega
    simp (maxSteps:=2000000) [-getElem?_pos,-List.map_set,-objBelow,-depV,gp,hlt,hr,c1,h1,r21,r31,hww,c6,hn0,hu,h3,hw1]
    generalize hX:loopG _ _ _=X
    obtain ⟨tm,rfl,t2,t3,t4,t5,t15,t17,t18⟩:∃ tm,X=some (.exit 6,⟨tm,D++[.arr 4 [.agg [intD b.sy,intD a.st,.f (.lst (a.acc.map bitF)),.f (.lst (a.nxt.map rowF))]],.arr 4 [autD b],.arr 4 [.agg [intD b.sy,intD a.st,.f (.lst (a.acc.map bitF)),.f (.lst (a.nxt.map rowF))],autD b]]⟩)∧tm.get 2=some (intD n)∧tm.get 3=some (intD q)∧tm.get 4=some (.f (.lst (l.map rowF)))∧tm.get 5=some (.ref D.length 0 0)∧tm.get 15=some (.f (.lst (m.map rowF)))∧tm.get 17=some (intD i)∧tm.get 18=some (boolD true):=by
     rw [← hX]
     clear hX ih ih'
     generalize hs57:SD.mk _ _=sd57
     revert sd57
     refine wl (fun k:Nat=>⟨(((((((Trie.leaf.put 19 (intD k)).put 18 (boolD (decide (r∈m.take k)))).put 17 (intD i)).put 15 (.f (.lst (m.map rowF)))).put 5 (.ref D.length 0 0)).put 4 (.f (.lst (l.map rowF)))).put 3 (intD q)).put 2 (intD n),D++[.arr 4 [.agg [intD b.sy,intD a.st,.f (.lst (a.acc.map bitF)),.f (.lst (a.nxt.map rowF))]],.arr 4 [autD b],.arr 4 [.agg [intD b.sy,intD a.st,.f (.lst (a.acc.map bitF)),.f (.lst (a.nxt.map rowF))],autD b]]⟩) (fun k=>k≤m.length) (fun k=>m.length-k) ?_ 0 (Nat.zero_le _)
     intro k hk ih
     rw [loopG_eq]
     by_cases hlt2:k<m.length
     case neg=>
      have e:m.take k=m:=List.take_of_length_le (by omega)
      rw [e,decide_eq_true hmem]
      simp (maxSteps:=2000000) [-getElem?_pos,-List.map_set,-objBelow,-depV,gp,hlt2]
     obtain ⟨z,hz⟩:=getOf (l:=m) (i:=k) hlt2
     have hza:=list_acc va (n:=n) (k:=q+1) (by rw [← hm];exact List.mem_of_getElem? hz)
     have ih':=ih (k+1) (by omega) (by omega)
     have htk:decide (r∈m.take (k+1))=(decide (r∈m.take k)||decide (z=r)):=by
      rw [List.take_add_one,hz]
      by_cases e1:r∈m.take k
      ·simp [-getElem?_pos,-List.map_set,-objBelow,-depV,e1]
      ·by_cases e2:z=r
       ·subst e2;simp [-getElem?_pos,-List.map_set,-objBelow,-depV]
       ·simp [-getElem?_pos,-List.map_set,-objBelow,-depV,e1,e2,Ne.symm e2]
     rw [htk] at ih'
     have h28:=w28 z r (by omega) (by omega) (D.length+3) (D.length+4) D.length (D++[.arr 4 [.agg [intD b.sy,intD a.st,.f (.lst (a.acc.map bitF)),.f (.lst (a.nxt.map rowF))]],.arr 4 [autD b],.arr 4 [.agg [intD b.sy,intD a.st,.f (.lst (a.acc.map bitF)),.f (.lst (a.nxt.map rowF))],autD b]]++[.arr 1 [rowD z],.arr 1 [rowD r]]) (by simp [-getElem?_pos,-List.map_set,-objBelow,-depV]) (by simp [-getElem?_pos,-List.map_set,-objBelow,-depV])
     simp only [boolD,rowD,rowF,intD,autD] at h28
     simp [-getElem?_pos,-List.map_set,-objBelow,-depV] at h28
     have hk2:=wrap_succ (show k+1≤9223372036854775807 by omega)
     by_cases e1:r∈m.take k
     ·rw [decide_eq_true e1] at ih' ⊢
      simp (maxSteps:=2000000) [-getElem?_pos,-List.map_set,-objBelow,-depV] at ih'
      simp (maxSteps:=2000000) [-getElem?_pos,-List.map_set,-objBelow,-depV,gp,hlt2,hz,hr,r28,hk2]
      exact ih'
     ·rw [decide_eq_false e1] at ih' ⊢
      simp (maxSteps:=2000000) [-getElem?_pos,-List.map_set,-objBelow,-depV] at ih'
      simp (maxSteps:=2000000) [-getElem?_pos,-List.map_set,-objBelow,-depV,gp,hlt2,hz,hr,hlt,h28,r28,hk2]
      exact ih'
    simp (maxSteps:=2000000) [-getElem?_pos,-List.map_set,-objBelow,-depV,gp,t2,t3,t4,t5,t15,t17,t18,hww]
    exact ih'
   ·simp (maxSteps:=2000000) [-getElem?_pos,-List.map_set,-objBelow,-depV,gp,hlt,hr,c1,h1,r21,r31,hww,c6]
    generalize hX:loopG _ _ _=X
    obtain ⟨tm,rfl,t2,t3,t4,t5,t15,t17,t18⟩:∃ tm,X=some (.exit 6,⟨tm,D++[.arr 4 [.agg [intD b.sy,intD a.st,.f (.lst (a.acc.map bitF)),.f (.lst (a.nxt.map rowF))]],.arr 4 [autD b],.arr 4 [.agg [intD b.sy,intD a.st,.f (.lst (a.acc.map bitF)),.f (.lst (a.nxt.map rowF))],autD b]]⟩)∧tm.get 2=some (intD n)∧tm.get 3=some (intD q)∧tm.get 4=some (.f (.lst (l.map rowF)))∧tm.get 5=some (.ref D.length 0 0)∧tm.get 15=some (.f (.lst (m.map rowF)))∧tm.get 17=some (intD i)∧tm.get 18=some (boolD true):=by
     rw [← hX]
     clear hX ih ih'
     generalize hs58:SD.mk _ _=sd58
     revert sd58
     refine wl (fun k:Nat=>⟨(((((((Trie.leaf.put 19 (intD k)).put 18 (boolD (decide (r∈m.take k)))).put 17 (intD i)).put 15 (.f (.lst (m.map rowF)))).put 5 (.ref D.length 0 0)).put 4 (.f (.lst (l.map rowF)))).put 3 (intD q)).put 2 (intD n),D++[.arr 4 [.agg [intD b.sy,intD a.st,.f (.lst (a.acc.map bitF)),.f (.lst (a.nxt.map rowF))]],.arr 4 [autD b],.arr 4 [.agg [intD b.sy,intD a.st,.f (.lst (a.acc.map bitF)),.f (.lst (a.nxt.map rowF))],autD b]]⟩) (fun k=>k≤m.length) (fun k=>m.length-k) ?_ 0 (Nat.zero_le _)
     intro k hk ih
     rw [loopG_eq]
     by_cases hlt2:k<m.length
     case neg=>
      have e:m.take k=m:=List.take_of_length_le (by omega)
      rw [e,decide_eq_true hmem]
      simp (maxSteps:=2000000) [-getElem?_pos,-List.map_set,-objBelow,-depV,gp,hlt2]
     obtain ⟨z,hz⟩:=getOf (l:=m) (i:=k) hlt2
     have hza:=list_acc va (n:=n) (k:=q+1) (by rw [← hm];exact List.mem_of_getElem? hz)
     have ih':=ih (k+1) (by omega) (by omega)
     have htk:decide (r∈m.take (k+1))=(decide (r∈m.take k)||decide (z=r)):=by
      rw [List.take_add_one,hz]
      by_cases e1:r∈m.take k
      ·simp [-getElem?_pos,-List.map_set,-objBelow,-depV,e1]
      ·by_cases e2:z=r
       ·subst e2;simp [-getElem?_pos,-List.map_set,-objBelow,-depV]
       ·simp [-getElem?_pos,-List.map_set,-objBelow,-depV,e1,e2,Ne.symm e2]
     rw [htk] at ih'
     have h28:=w28 z r (by omega) (by omega) (D.length+3) (D.length+4) D.length (D++[.arr 4 [.agg [intD b.sy,intD a.st,.f (.lst (a.acc.map bitF)),.f (.lst (a.nxt.map rowF))]],.arr 4 [autD b],.arr 4 [.agg [intD b.sy,intD a.st,.f (.lst (a.acc.map bitF)),.f (.lst (a.nxt.map rowF))],autD b]]++[.arr 1 [rowD z],.arr 1 [rowD r]]) (by simp [-getElem?_pos,-List.map_set,-objBelow,-depV]) (by simp [-getElem?_pos,-List.map_set,-objBelow,-depV])
     simp only [boolD,rowD,rowF,intD,autD] at h28
     simp [-getElem?_pos,-List.map_set,-objBelow,-depV] at h28
     have hk2:=wrap_succ (show k+1≤9223372036854775807 by omega)
     by_cases e1:r∈m.take k
     ·rw [decide_eq_true e1] at ih' ⊢
      simp (maxSteps:=2000000) [-getElem?_pos,-List.map_set,-objBelow,-depV] at ih'
      simp (maxSteps:=2000000) [-getElem?_pos,-List.map_set,-objBelow,-depV,gp,hlt2,hz,hr,r28,hk2]
      exact ih'
     ·rw [decide_eq_false e1] at ih' ⊢
      simp (maxSteps:=2000000) [-getElem?_pos,-List.map_set,-objBelow,-depV] at ih'
      simp (maxSteps:=2000000) [-getElem?_pos,-List.map_set,-objBelow,-depV,gp,hlt2,hz,hr,hlt,h28,r28,hk2]
      exact ih'
    simp (maxSteps:=2000000) [-getElem?_pos,-List.map_set,-objBelow,-depV,gp,t2,t3,t4,t5,t15,t17,t18,hww]
    exact ih'
  clear hX
  simp (maxSteps:=2000000) [-getElem?_pos,-List.map_set,-objBelow,-depV,gp,]
  done
end Go.Dv
