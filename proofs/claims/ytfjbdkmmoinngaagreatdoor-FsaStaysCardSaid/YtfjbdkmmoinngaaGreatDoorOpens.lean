/- What a law's row says of automata and rows of whole numbers, as deep values. -/
import Derived.Test.YtfjbdkmmoinngaaGreatDoorDvB
import Derived.Test.YtfjbdkmmoinngaaGreatDoorWA
import Derived.Deep.Grids
import Derived.Lib.SmallJoins
import Derived.SizedLaws
set_option linter.unusedVariables false
set_option linter.unusedSimpArgs false
set_option linter.unusedSectionVars false
namespace Go.Dv
open Go Go.Sim Go.Proofs Go.Fsa Go.ChangeShapes Go.WideShapes Go.Deep Go.Joins
variable {T:Type} {enc:TypeId×Value->T} {P:Program} {w:World} {held:Bool}
theorem yg4:maxLen<U:=by decide
theorem zg1 {n:Nat} {x:Addr} {cap:Nat} (F:Nat->FV) (V:Nat->Value) (hc:n<=cap) (hU:cap<=maxLen) (hv:∀ i,i<cap->w.cell? (x.add i)=some (V i)) (hf:∀ i,i<n->FW w (F i) (V i)) :
  FW w (.lst ((List.range n).map F)) (.slice (some x) n cap):=by
 rcases Nat.eq_zero_or_pos cap with h | h
 .subst h;have:n=0:=by omega
  subst this;exact .empty x
 have key:∀ (i:Nat) (y:FV),((List.range n).map F)[i]? =some y->i<n/\y=F i:=(by intro i y hy;have hi:=zyr hy;simp at hi;refine ⟨hi,?_⟩;simp [hi] at hy;exact hy.symm);refine .lst V (by simp) hc (Nat.lt_of_le_of_lt hU yg4) ⟨_,by have:=hv 0 h;simpa [Addr.add] using this⟩ (λi y hy=>hv i (Nat.lt_of_lt_of_le (key i y hy).1 hc)) (λi y hy=>?_);obtain ⟨h1,rfl⟩:=key i y hy;exact hf i h1
theorem yg5 {t e:TypeId} {fuel:Nat} {v:Value} {x:DataW T×List MemPlace} (ht:P.underlying t=some (.slice e)) (he:P.underlying e=some .bool) (hc:P.cellsOf e=1)
  (h:DataW.trod enc P w 0 (λ_=>true) held fuel t [v]=some x):∃ l:List Bool,FW w (.lst (l.map zxi)) v:=by
 rcases open_bools ht he hc h with ⟨h1,_⟩ | ⟨a,len,cap,B,h1,_,hl,hm,_,hv⟩
 .simp only [List.cons.injEq,and_true] at h1;subst h1;exact ⟨[],.nil⟩
 simp only [List.cons.injEq,and_true] at h1;subst h1;refine ⟨(List.range len).map B,?_⟩;rw [List.map_map];exact zg1 _ (λi=>.bool (B i)) hl hm hv λi _=>.bool _
theorem ynz {t e:TypeId} {fuel:Nat} {v:Value} {x:DataW T×List MemPlace} (ht:P.underlying t=some (.slice e)) (he:P.underlying e=some (.int .i64)) (hc:P.cellsOf e=1)
  (h:DataW.trod enc P w 0 (λ_=>true) held fuel t [v]=some x):∃ l:List Int,FW w (zx2 l) v/\∃ es sp,(x.1=.nil/\l=[])∨(x.1=.slice es sp/\l.length=es.length):=by
 rcases open_ints ht he hc h with ⟨h1,h2⟩ | ⟨a,len,cap,zs,h1,_,hl,hm,hz,hx,hv,_⟩
 .simp only [List.cons.injEq,and_true] at h1;subst h1;subst h2;exact ⟨[],.nil,[],[],.inl ⟨rfl,rfl⟩⟩
 simp only [List.cons.injEq,and_true] at h1;subst h1;subst hx;rw [if_pos rfl] at hz;refine ⟨(List.range len).map λi=>zs.getD i 0,?_,_,_,.inr ⟨rfl,by simp [lits];omega⟩⟩;unfold zx2;rw [List.map_map];exact zg1 _ (λi=>.int .i64 (zs.getD i 0)) hl hm (λi hi=>hv i (by omega)) λi _=>.int _ _
theorem yn0 {t q e:TypeId} {fuel:Nat} {v:Value} {x:DataW T×List MemPlace} (ht:P.underlying t=some (.slice q)) (hq:P.underlying q=some (.slice e)) (cq:P.cellsOf q=1) (he:P.underlying e=some (.int .i64)) (hc:P.cellsOf e=1)
  (h:DataW.trod enc P w 0 (λ_=>true) held fuel t [v]=some x):∃ l:List (List Int),FW w (.lst (l.map zx2)) v/\∃ es sp,(x.1=.nil/\l=[])∨(x.1=.slice es sp/\l.length=es.length):=by
 rcases open_slice1 ht cq h with ⟨h1,h2⟩ | ⟨a,len,cap,m,n,V,D,Pl,h1,_,hl,hm,hmm,hx,hv⟩
 .simp only [List.cons.injEq,and_true] at h1;subst h1;subst h2;exact ⟨[],.nil,[],[],.inl ⟨rfl,rfl⟩⟩
 simp only [List.cons.injEq,and_true] at h1;subst h1;subst hx;simp only [if_true] at hmm;subst hmm;have hr:∀ i,i<m->∃ l:List Int,FW w (zx2 l) (V i):=λi hi=>let ⟨l,g,_⟩:=ynz hq he hc (hv i hi).2;⟨l,g⟩
 obtain ⟨R,hR⟩:=choose_lt (α:=List Int) (p:=λi l=>FW w (zx2 l) (V i)) hr;refine ⟨(List.range len).map R,?_,_,_,.inr ⟨rfl,by simp⟩⟩;rw [List.map_map];exact zg1 _ V hl hm (λi hi=>(hv i hi).1) λi hi=>hR i (by omega)
theorem xst {t t0 t1 t2 t3 b q:TypeId} {f0 f1 f2 f3:Field} {r:Reach} {b0:Nat} {v:Value} {d:DataW T} {p:List MemPlace} (hs:P.underlying t=some (.struct #[f0,f1,f2,f3])) (hone:oneCellFields P #[f0,f1,f2,f3]=true) (hC:P.cellsOf t=4)
  (u0:P.underlying f0.type=some (.int .i64)) (u1:P.underlying f1.type=some (.int .i64)) (u2:P.underlying f2.type=some (.slice b)) (u3:P.underlying f3.type=some (.slice q)) (ub:P.underlying b=some .bool) (cb:P.cellsOf b=1)
  (uq:P.underlying q=some (.slice f0.type)) (cq:P.cellsOf q=1) (ci:P.cellsOf f0.type=1) (hv:Value.okWide P w r b0 t v) (h:DataW.Trod enc P w 0 (λ_=>true) held t v d p) (by_:8<=P.bytesOf q)
  (hw:(d.weights P t).all (·<=reachBytes)=true):∃ a:Aut,DW w (zzn a) v/\a.nxt.length<1152921504606846976:=by
 obtain ⟨v0,v1,v2,v3,y0,y1,y2,y3,n,rfl,rfl,rfl,h0,h1,h2,h3⟩:=open_agg4 hs hone hC hv h;obtain ⟨z0,e0,_⟩:=DataW.trod_int u0 h0;obtain ⟨z1,e1,_⟩:=DataW.trod_int u1 h1;simp only [List.cons.injEq,and_true] at e0 e1;subst e0;subst e1;obtain ⟨la,ha⟩:=yg5 u2 ub cb h2;obtain ⟨ln,hn,es,sp,hx⟩:=yn0 u3 uq cq u0 ci h3;refine ⟨⟨z0,z1,la,ln⟩,?_,?_⟩
 .show DW w (.agg ([.raw (.int .i64 z0),.raw (.int .i64 z1),.lst (la.map zxi),.lst (ln.map zx2)].map .f)) (.agg ⟨[.int .i64 z0,.int .i64 z1,v2,v3]⟩);refine .agg rfl λi x u hx hu=>?_
  match i with
  | 0=>simp at hx hu;subst hx hu;exact .int _ _
  | 1=>simp at hx hu;subst hx hu;exact .int _ _
  | 2=>simp at hx hu;subst hx hu;exact ha
  | 3=>simp at hx hu;subst hx hu;exact hn
  | i+4=>simp at hx
 show ln.length<1152921504606846976;rcases hx with ⟨_,rfl⟩ | ⟨hx,hl⟩
 .decide
 rw [hl];have hm:(es.length+sp.length)*P.bytesOf q∈(DataW.agg [y0.1,y1.1,y2.1,y3.1]).weights P t:=(by simp only [DataW.weights,hs];refine DataW.weights_mem_each (j:=3) (t:=f3.type) (d:=y3.1) rfl rfl _ ?_;rw [hx];simp [DataW.weights,u3]);have:=List.all_eq_true.1 hw _ hm;simp only [decide_eq_true_eq] at this;have h47:=reachBytes_lt;have:es.length*8<=(es.length+sp.length)*P.bytesOf q:=Nat.mul_le_mul (Nat.le_add_right _ _) by_;omega
end Go.Dv
