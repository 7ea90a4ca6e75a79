/- The row of the law FsaStays: whatever the input, the law answers true, and its arguments read as they did. -/
import Derived.Test.YtfjbdkmmoinngaaGreatDoorRows
import Derived.Test.YtfjbdkmmoinngaaGreatDoorWC
import Derived.Test.YtfjbdkmmoinngaaGreatDoorOpens
import Derived.Test.YtfjbdkmmoinngaaGreatDoorSane
import Derived.WalkKit
import Derived.ProofKit
import Derived.OpenShut
import Derived.ShutString
import Derived.ChangeOld
import Derived.Below
import Derived.SizedLaws
import Derived.LaidMore
import Derived.Handed
set_option linter.unusedVariables false
set_option linter.unusedSimpArgs false
set_option linter.unusedSectionVars false
namespace Go.Proofs.YtfjbdkmmoinngaaGreatDoor.fsaStays
open Go.ChangeShapes Go.WideShapes Go.ChangeAt Go.RowKit Go.Dv Go.Sim Go.Fsa
set_option maxRecDepth 100000
theorem own:ownKnob Tryz.prog.godebug=none:=by kernel_rfl
theorem zg0:laidOutB Tryz.prog=true:=by kernel_rfl
theorem yny:Tryz.prog.funcs.toList.all (λfn=>!(fn.name== "runtime.NumGoroutine"))=true:=by kernel_rfl
theorem names (g:FuncId) (fn:Func) (h:Q.P.funcs[g]? =some fn):(fn.name== "runtime.NumGoroutine")=false:=by
 have hm:fn∈Tryz.prog.funcs.toList:=(by rw [Array.mem_toList_iff];exact Array.mem_of_getElem? h);simpa using List.all_eq_true.1 yny fn hm
theorem told (g:FuncId):Q.tv g=Nat.beq g 11:=by
 show (Nat.beq g 11||false)=Nat.beq g 11;simp
theorem xsr:Tryz.f11.body.isSome=true:=by kernel_rfl
theorem good:zbo Q.P 11:=⟨Tryz.f11,_,Tryz.func11,(Option.eq_some_of_isSome xsr),names 11 _ Tryz.func11⟩
theorem xlq (W:World) (x0:Aut) (x1:Aut) (x2:Int) (x3:Int) (x4:Int) (x5:Int) (x6:List Int) (x7:List (List Int)) {v0 v1 v6 v7:Value} (h0:DW W (zzn x0) v0) (h1:DW W (zzn x1) v1) (h6:FW W (zx2 x6) v6) (h7:FW W (.lst (x7.map zx2)) v7) (l0:x0.nxt.length<1152921504606846976) (l1:x1.nxt.length<1152921504606846976) (l6:x6.length<1152921504606846976) (l7:x7.length<1152921504606846976) :
  Calls Tryz.prog 10 #[v0,v1,.int .i64 x2,.int .i64 x3,.int .i64 x4,.int .i64 x5,v6,v7] W λe w'=>e=.returned (.bool true)/\Below W.heap.size W w':=
 yug (Q:=Q) (QOK.of names told good) Sane.follows (ygg Sane.calls11) (w10 x0 x1 x2 x3 x4 x5 x6 x7 l0 l1 l6 l7 0 []) (.cons h0 (.cons h1 (.cons (.f (.int _ _)) (.cons (.f (.int _ _)) (.cons (.f (.int _ _)) (.cons (.f (.int _ _)) (.cons (.f h6) (.cons (.f h7) .nil)))))))) (Nat.zero_le _)
def zlm:List (String×DataW Unit):=[("math/bits.deBruijn32tab",Rows.laid_math_bits_deBruijn32tab),("math/bits.deBruijn64tab",Rows.laid_math_bits_deBruijn64tab),("internal/strconv.uint64pow10",Rows.laid_internal_strconv_uint64pow10)]
theorem yg3 (os:Os) (args:Array Value):laidMetH Tryz.prog zlm ((World.doorLaid Tryz.prog 400 os).forCall (λ_ _=>0) ⟨#[],args,[]⟩).memory:=
 laidMetH_of_parts3 (fuel:=8) (laidMet_of_run' 8 (by kernel_rfl) (by kernel_rfl)) (by kernel_rfl) (by kernel_rfl)
theorem aut {T:Type} {enc:TypeId×Value->T} {W:World} {base:Nat} {v:Value} {d:DataW T} {p:List MemPlace} (hv:Value.okWide Tryz.prog W .any base 25 v) (h:DataW.Trod enc Tryz.prog W 0 (λ_=>true) true 25 v d p)
  (hw:(d.weights Tryz.prog 25).all (·<=reachBytes)=true):∃ a:Aut,DW W (zzn a) v/\a.nxt.length<1152921504606846976:=
 xst (t0:=3) (t1:=3) (t2:=22) (t3:=23) Tryz.underlying25 (by kernel_rfl) (by kernel_rfl) Tryz.underlying3 Tryz.underlying3 Tryz.underlying22 Tryz.underlying23 Tryz.underlying4 (by kernel_rfl) Tryz.underlying26 (by kernel_rfl) (by kernel_rfl) hv h (Nat.le_of_ble_eq_true (by kernel_rfl)) hw
theorem row {T:Type} {enc:TypeId×Value->T} {W:World} {base:Nat} {v:Value} {d:DataW T} {p:List MemPlace} (hv:Value.okWide Tryz.prog W .any base 26 v) (h:DataW.Trod enc Tryz.prog W 0 (λ_=>true) true 26 v d p)
  (hw:(d.weights Tryz.prog 26).all (·<=reachBytes)=true):∃ r:List Int,FW W (zx2 r) v/\r.length<1152921504606846976:=by
 obtain ⟨a,len,cap,rfl⟩:=okWide_slice Tryz.underlying26 hv;obtain ⟨fuel,hf⟩:=h;obtain ⟨l,hl,es,sp,hx⟩:=ynz Tryz.underlying26 Tryz.underlying3 (by kernel_rfl) (show DataW.trod enc Tryz.prog W 0 (λ_=>true) true fuel 26 [.slice a len cap]=some (d,p) from hf);refine ⟨l,hl,?_⟩;rcases hx with ⟨_,rfl⟩ | ⟨hx,hlen⟩
 .decide
 simp only at hx;subst hx;have hm:(es.length+sp.length)*Tryz.prog.bytesOf 3∈(DataW.slice es sp).weights Tryz.prog 26:=by simp [DataW.weights,Tryz.underlying26]
 have:=List.all_eq_true.1 hw _ hm;simp only [decide_eq_true_eq] at this;have h8:8<=Tryz.prog.bytesOf 3:=Nat.le_of_ble_eq_true (by kernel_rfl);have h47:=reachBytes_lt;have:es.length*8<=(es.length+sp.length)*Tryz.prog.bytesOf 3:=Nat.mul_le_mul (Nat.le_add_right _ _) h8;omega
theorem rows {T:Type} {enc:TypeId×Value->T} {W:World} {base:Nat} {v:Value} {d:DataW T} {p:List MemPlace} (hv:Value.okWide Tryz.prog W .any base 23 v) (h:DataW.Trod enc Tryz.prog W 0 (λ_=>true) true 23 v d p)
  (hw:(d.weights Tryz.prog 23).all (·<=reachBytes)=true):∃ l:List (List Int),FW W (.lst (l.map zx2)) v/\l.length<1152921504606846976:=by
 obtain ⟨a,len,cap,rfl⟩:=okWide_slice Tryz.underlying23 hv;obtain ⟨fuel,hf⟩:=h;obtain ⟨l,hl,es,sp,hx⟩:=yn0 Tryz.underlying23 Tryz.underlying26 (by kernel_rfl) Tryz.underlying3 (by kernel_rfl) (show DataW.trod enc Tryz.prog W 0 (λ_=>true) true fuel 23 [.slice a len cap]=some (d,p) from hf);refine ⟨l,hl,?_⟩;rcases hx with ⟨_,rfl⟩ | ⟨hx,hlen⟩
 .decide
 simp only at hx;subst hx;have hm:(es.length+sp.length)*Tryz.prog.bytesOf 26∈(DataW.slice es sp).weights Tryz.prog 23:=by simp [DataW.weights,Tryz.underlying23]
 have:=List.all_eq_true.1 hw _ hm;simp only [decide_eq_true_eq] at this;have h8:8<=Tryz.prog.bytesOf 26:=Nat.le_of_ble_eq_true (by kernel_rfl);have h47:=reachBytes_lt;have:es.length*8<=(es.length+sp.length)*Tryz.prog.bytesOf 26:=Nat.mul_le_mul (Nat.le_add_right _ _) h8;omega
theorem xss (os:Os) (started:os.Started) (H:Type) (enc:TypeId×Value->H) :
  ReturnsInHanded {} Tryz.checked os 10 .any (λw args=>(Rows.fsaStaysSpec.pre enc Tryz.prog Tryz.f10 [] false w args/\laidMetH Tryz.prog zlm w)/\sizedMet enc Tryz.prog Tryz.f10 (OpenSpec.ofChange Rows.fsaStaysSpec) false w args)
   (Rows.fsaStaysSpec.post enc Tryz.prog Tryz.f10 false true false false):=by
 refine returnsInHanded_of_change_and (C:=Tryz.checked) (X:=λw _=>laidMetH Tryz.prog zlm w) (λ_ _ _ hh h=>h.of_heap hh) own started (by kernel_rfl) Tryz.func10
  (ChangeSpec.witness_shaped (enc:=enc) (C:=Tryz.checked) (os:=os) (X:=λw _=>laidMetH Tryz.prog zlm w) false (World.doorLaid Tryz.prog 400 os) #[.agg #[.int .i64 0,.int .i64 0,.slice none 0 0,.slice none 0 0],.agg #[.int .i64 0,.int .i64 0,.slice none 0 0,.slice none 0 0],.int .i64 0,.int .i64 0,.int .i64 0,.int .i64 0,.slice none 0 0,.slice none 0 0] 6 rfl (World.shaped_of_RefB (by kernel_rfl) (by kernel_rfl)) (by kernel_rfl) (by kernel_rfl) (by kernel_rfl) (yg3 os _)) ?_
 intro W base args ds gs before hval0 hW hcnd hsz0 _ _;have hsz:(DataW.weightsEach Tryz.prog (Tryz.f10.params.toList++Rows.fsaStaysSpec.plain.varTypes Tryz.prog) (ds++gs)).all (·<=reachBytes)=true:=hsz0;have hval:∀ (j:Nat) t v,Tryz.f10.params[j]? =some t->args[j]? =some v->Value.okWide Tryz.prog W .any base t v:=hval0;have hW':=hW;obtain ⟨p,q,hA0,hV,rfl,hfz,hnd⟩:=hW;have hA:DataW.TrodAll enc Tryz.prog W 0 (λ_=>true) true Tryz.f10.params.toList args.toList ds p:=hA0;rw [Tryz.params10] at hA hval hsz;obtain ⟨v0,vs0,d0,ds0,p0,q0,hargs,rfl,rfl,h0,r0⟩:=trodAll_cons hA;obtain ⟨v1,vs1,d1,ds1,p1,q1,rfl,rfl,rfl,h1,r1⟩:=trodAll_cons r0;obtain ⟨v2,vs2,d2,ds2,p2,q2,rfl,rfl,rfl,h2,r2⟩:=trodAll_cons r1;obtain ⟨v3,vs3,d3,ds3,p3,q3,rfl,rfl,rfl,h3,r3⟩:=trodAll_cons r2;obtain ⟨v4,vs4,d4,ds4,p4,q4,rfl,rfl,rfl,h4,r4⟩:=trodAll_cons r3;obtain ⟨v5,vs5,d5,ds5,p5,q5,rfl,rfl,rfl,h5,r5⟩:=trodAll_cons r4;obtain ⟨v6,vs6,d6,ds6,p6,q6,rfl,rfl,rfl,h6,r6⟩:=trodAll_cons r5;obtain ⟨v7,vs7,d7,ds7,p7,q7,rfl,rfl,rfl,h7,r7⟩:=trodAll_cons r6;obtain ⟨rfl,rfl,rfl⟩:=trodAll_nil r7;obtain rfl:args=#[v0,v1,v2,v3,v4,v5,v6,v7]:=by cases args;simp_all
 obtain ⟨rfl,rfl⟩:=trodVars_none hV
 have part:∀ (j:Nat) (t:TypeId) (d:DataW H),([25,25,3,3,3,3,26,23]++Rows.fsaStaysSpec.plain.varTypes Tryz.prog)[j]? =some t->([d0,d1,d2,d3,d4,d5,d6,d7]++([]:List (DataW H)))[j]? =some d->(d.weights Tryz.prog t).all (·<=reachBytes)=true:=λj t d ht hd=>
  List.all_eq_true.2 λn hn=>List.all_eq_true.1 hsz n (DataW.weights_mem_each ht hd n hn)
 have k0:=h0;have lt0:∀ x∈p0,x.block<W.heap.size:=by obtain ⟨m,hm⟩:=k0;exact DataW.trod_lt m _ _ _ hm
 obtain ⟨x0,hx0,lx0⟩:=aut (hval 0 25 v0 rfl rfl) h0 (part 0 25 d0 rfl rfl);have k1:=h1;have lt1:∀ x∈p1,x.block<W.heap.size:=by obtain ⟨m,hm⟩:=k1;exact DataW.trod_lt m _ _ _ hm
 obtain ⟨x1,hx1,lx1⟩:=aut (hval 1 25 v1 rfl rfl) h1 (part 1 25 d1 rfl rfl);obtain ⟨x2,rfl,rfl,rfl,w2⟩:=open_int Tryz.underlying3 (hval 2 3 v2 rfl rfl) h2;obtain ⟨x3,rfl,rfl,rfl,w3⟩:=open_int Tryz.underlying3 (hval 3 3 v3 rfl rfl) h3;obtain ⟨x4,rfl,rfl,rfl,w4⟩:=open_int Tryz.underlying3 (hval 4 3 v4 rfl rfl) h4;obtain ⟨x5,rfl,rfl,rfl,w5⟩:=open_int Tryz.underlying3 (hval 5 3 v5 rfl rfl) h5;have k6:=h6;have lt6:∀ x∈p6,x.block<W.heap.size:=by obtain ⟨m,hm⟩:=k6;exact DataW.trod_lt m _ _ _ hm
 obtain ⟨x6,hx6,lx6⟩:=row (hval 6 26 v6 rfl rfl) h6 (part 6 26 d6 rfl rfl);have k7:=h7;have lt7:∀ x∈p7,x.block<W.heap.size:=by obtain ⟨m,hm⟩:=k7;exact DataW.trod_lt m _ _ _ hm
 obtain ⟨x7,hx7,lx7⟩:=rows (hval 7 23 v7 rfl rfl) h7 (part 7 23 d7 rfl rfl);clear hA0 hval0 hsz0 hsz;refine (xlq W x0 x1 x2 x3 x4 x5 x6 x7 hx0 hx1 hx6 hx7 lx0 lx1 lx6 lx7).mono λe W' ⟨he,bel⟩=>?_;subst he;exact ⟨_,rfl,_,_,_,[],_,[],hW',trodAll_mk1 (shut_bool Tryz.underlying4 _),(trodAll_cons_mk (Below.trod zg0 (by kernel_rfl) (of_decide_eq_true (by kernel_rfl)) k0 bel lt0) (trodAll_cons_mk (Below.trod zg0 (by kernel_rfl) (of_decide_eq_true (by kernel_rfl)) k1 bel lt1) (trodAll_cons_mk (shut_int Tryz.underlying3 w2) (trodAll_cons_mk (shut_int Tryz.underlying3 w3) (trodAll_cons_mk (shut_int Tryz.underlying3 w4) (trodAll_cons_mk (shut_int Tryz.underlying3 w5) (trodAll_cons_mk (Below.trod zg0 (by kernel_rfl) (of_decide_eq_true (by kernel_rfl)) k6 bel lt6) (trodAll_cons_mk (Below.trod zg0 (by kernel_rfl) (of_decide_eq_true (by kernel_rfl)) k7 bel lt7) trodAll_mk0)))))))),rfl,bel.frame _,λh=>by cases h⟩
theorem xo6:Rows.fsaStaysRow.holds Tryz.pinned (OpenSpec.ofChange Rows.fsaStaysSpec):=
 OpenClaim.holds_of_wide 10 Tryz.f10 rfl rfl rfl rfl rfl rfl rfl ⟨rfl,rfl,rfl,rfl,rfl⟩ rfl rfl rfl rfl rfl (by kernel_rfl) Tryz.func10 (by kernel_rfl)
  (of_decide_eq_true (by kernel_rfl)) (by unfold Func.isWrapper;first | (rw [if_pos (by decide +kernel)];kernel_rfl) | (rw [if_neg (by decide +kernel)];exact ⟨rfl,rfl⟩))
  (λos started H enc _=>xss os started H enc)
theorem proved:Rows.FsaStaysSaid:=xo6
#print axioms proved
end Go.Proofs.YtfjbdkmmoinngaaGreatDoor.fsaStays
namespace Go.Proofs.YtfjbdkmmoinngaaGreatDoor
theorem fsaStays_holds:Rows.FsaStaysSaid:=fsaStays.proved
end Go.Proofs.YtfjbdkmmoinngaaGreatDoor
