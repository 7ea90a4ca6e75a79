/- The row of the law FsaWitness: whatever the input, the law answers true, and its arguments read as they did. -/
import Derived.Test.YtfjbdkmmoinngaaGreatDoorRows
import Derived.Test.YtfjbdkmmoinngaaGreatDoorWC
import Derived.Test.YtfjbdkmmoinngaaGreatDoorOpens
import Derived.Test.YtfjbdkmmoinngaaGreatDoorSane
import Derived.WalkKit
import Derived.ProofKit
import Derived.OpenShut
import Derived.ShutString
import Derived.ChangeOld
import Derived.Below
import Derived.SizedLaws
import Derived.LaidMore
import Derived.Handed
set_option linter.unusedVariables false
set_option linter.unusedSimpArgs false
set_option linter.unusedSectionVars false
namespace Go.Proofs.YtfjbdkmmoinngaaGreatDoor.fsaWitness
open Go.ChangeShapes Go.WideShapes Go.ChangeAt Go.RowKit Go.Dv Go.Sim Go.Fsa
set_option maxRecDepth 100000
theorem own:ownKnob Tryz.prog.godebug=none:=by kernel_rfl
theorem laidOut:laidOutB Tryz.prog=true:=by kernel_rfl
theorem names_all:Tryz.prog.funcs.toList.all (fun fn=>!(fn.name== "runtime.NumGoroutine"))=true:=by kernel_rfl
theorem names (g:FuncId) (fn:Func) (h:Q.P.funcs[g]? =some fn):(fn.name== "runtime.NumGoroutine")=false:=by
 have hm:fn∈Tryz.prog.funcs.toList:=by
  rw [Array.mem_toList_iff]
  exact Array.mem_of_getElem? h
 simpa using List.all_eq_true.1 names_all fn hm
theorem told (g:FuncId):Q.tv g=Nat.beq g 11:=by
 show (Nat.beq g 11||false)=Nat.beq g 11
 simp
theorem body11:Tryz.f11.body.isSome=true:=by kernel_rfl
theorem good:GoodF Q.P 11:=⟨Tryz.f11,_,Tryz.func11,(Option.eq_some_of_isSome body11),names 11 _ Tryz.func11⟩
theorem walk (W:World) (a b:Aut) (f g:Int) (l:List (List Int)) {v0 v1 v3:Value} (h0:DW W (autD a) v0) (h1:DW W (autD b) v1) (h3:FW W (.lst (l.map rowF)) v3) (l0:a.nxt.length<1152921504606846976) (l1:b.nxt.length<1152921504606846976) (l3:l.length<1152921504606846976) :
  Calls Tryz.prog 6 #[v0,v1,.int .i64 f,.int .i64 g,v3] W fun e w'=>e=.returned (.bool true)∧Below W.heap.size W w':=
 calls_deep (Q:=Q) (QOK.of names told good) Sane.follows (tellS_ok Sane.calls11) (w6 a b f g l l0 l1 l3 0 []) (.cons h0 (.cons h1 (.cons (.f (.int _ _)) (.cons (.f (.int _ _)) (.cons (.f h3) .nil))))) (Nat.zero_le _)
def laidList:List (String×DataW Unit):=[("math/bits.deBruijn32tab",Rows.laid_math_bits_deBruijn32tab),("math/bits.deBruijn64tab",Rows.laid_math_bits_deBruijn64tab),("internal/strconv.uint64pow10",Rows.laid_internal_strconv_uint64pow10)]
theorem door_met (os:Os) (args:Array Value):laidMetH Tryz.prog laidList ((World.doorLaid Tryz.prog 400 os).forCall (fun _ _=>0) ⟨#[],args,[]⟩).memory:=
 laidMetH_of_parts3 (fuel:=8) (laidMet_of_run' 8 (by kernel_rfl) (by kernel_rfl)) (by kernel_rfl) (by kernel_rfl)
theorem aut {T:Type} {enc:TypeId×Value→T} {W:World} {base:Nat} {v:Value} {d:DataW T} {p:List MemPlace} (hv:Value.okWide Tryz.prog W .any base 25 v) (h:DataW.Trod enc Tryz.prog W 0 (fun _=>true) true 25 v d p)
  (hw:(d.weights Tryz.prog 25).all (·≤reachBytes)=true):∃ a:Aut,DW W (autD a) v∧a.nxt.length<1152921504606846976:=
 dw_aut (t0:=3) (t1:=3) (t2:=22) (t3:=23) Tryz.underlying25 (by kernel_rfl) (by kernel_rfl) Tryz.underlying3 Tryz.underlying3 Tryz.underlying22 Tryz.underlying23 Tryz.underlying4 (by kernel_rfl) Tryz.underlying26 (by kernel_rfl) (by kernel_rfl) hv h (Nat.le_of_ble_eq_true (by kernel_rfl)) hw
theorem rows {T:Type} {enc:TypeId×Value→T} {W:World} {base:Nat} {v:Value} {d:DataW T} {p:List MemPlace} (hv:Value.okWide Tryz.prog W .any base 23 v) (h:DataW.Trod enc Tryz.prog W 0 (fun _=>true) true 23 v d p)
  (hw:(d.weights Tryz.prog 23).all (·≤reachBytes)=true):∃ l:List (List Int),FW W (.lst (l.map rowF)) v∧l.length<1152921504606846976:=by
 obtain ⟨a,len,cap,rfl⟩:=okWide_slice Tryz.underlying23 hv
 obtain ⟨fuel,hf⟩:=h
 obtain ⟨l,hl,es,sp,hx⟩:=fw_rows Tryz.underlying23 Tryz.underlying26 (by kernel_rfl) Tryz.underlying3 (by kernel_rfl) (show DataW.trod enc Tryz.prog W 0 (fun _=>true) true fuel 23 [.slice a len cap]=some (d,p) from hf)
 refine ⟨l,hl,?_⟩
 rcases hx with ⟨_,rfl⟩ | ⟨hx,hlen⟩
 ·decide
 ·simp only at hx
  subst hx
  have hm:(es.length+sp.length)*Tryz.prog.bytesOf 26∈(DataW.slice es sp).weights Tryz.prog 23:=by simp [DataW.weights,Tryz.underlying23]
  have:=List.all_eq_true.1 hw _ hm
  simp only [decide_eq_true_eq] at this
  have h8:8≤Tryz.prog.bytesOf 26:=Nat.le_of_ble_eq_true (by kernel_rfl)
  have h47:=reachBytes_lt
  have:es.length*8≤(es.length+sp.length)*Tryz.prog.bytesOf 26:=Nat.mul_le_mul (Nat.le_add_right _ _) h8
  omega
theorem lifted (os:Os) (started:os.Started) (H:Type) (enc:TypeId×Value→H) :
  ReturnsInHanded {} Tryz.checked os 6 .any (fun w args=>(Rows.fsaWitnessSpec.pre enc Tryz.prog Tryz.f6 [] false w args∧laidMetH Tryz.prog laidList w)∧sizedMet enc Tryz.prog Tryz.f6 (OpenSpec.ofChange Rows.fsaWitnessSpec) false w args)
   (Rows.fsaWitnessSpec.post enc Tryz.prog Tryz.f6 false true false false):=by
 refine returnsInHanded_of_change_and (C:=Tryz.checked) (X:=fun w _=>laidMetH Tryz.prog laidList w) (fun _ _ _ hh h=>h.of_heap hh) own started (by kernel_rfl) Tryz.func6
  (ChangeSpec.witness_shaped (enc:=enc) (C:=Tryz.checked) (os:=os) (X:=fun w _=>laidMetH Tryz.prog laidList w) false (World.doorLaid Tryz.prog 400 os) #[.agg #[.int .i64 0,.int .i64 0,.slice none 0 0,.slice none 0 0],.agg #[.int .i64 0,.int .i64 0,.slice none 0 0,.slice none 0 0],.int .i64 0,.int .i64 0,.slice none 0 0] 6 rfl (World.shaped_of_RefB (by kernel_rfl) (by kernel_rfl)) (by kernel_rfl) (by kernel_rfl) (by kernel_rfl) (door_met os _)) ?_
 intro W base args ds gs before hval0 hW hcnd hsz0 _ _
 have hsz:(DataW.weightsEach Tryz.prog (Tryz.f6.params.toList++Rows.fsaWitnessSpec.plain.varTypes Tryz.prog) (ds++gs)).all (·≤reachBytes)=true:=hsz0
 have hval:∀ (j:Nat) t v,Tryz.f6.params[j]? =some t→args[j]? =some v→Value.okWide Tryz.prog W .any base t v:=hval0
 have hW':=hW
 obtain ⟨p,q,hA0,hV,rfl,hfz,hnd⟩:=hW
 have hA:DataW.TrodAll enc Tryz.prog W 0 (fun _=>true) true Tryz.f6.params.toList args.toList ds p:=hA0
 rw [Tryz.params6] at hA hval hsz
 obtain ⟨v0,vs0,d0,ds0,p0,q0,hargs,rfl,rfl,h0,r0⟩:=trodAll_cons hA
 obtain ⟨v1,vs1,d1,ds1,p1,q1,rfl,rfl,rfl,h1,r1⟩:=trodAll_cons r0
 obtain ⟨v2,vs2,d2,ds2,p2,q2,rfl,rfl,rfl,h2,r2⟩:=trodAll_cons r1
 obtain ⟨v3,vs3,d3,ds3,p3,q3,rfl,rfl,rfl,h3,r3⟩:=trodAll_cons r2
 obtain ⟨v4,vs4,d4,ds4,p4,q4,rfl,rfl,rfl,h4,r4⟩:=trodAll_cons r3
 obtain ⟨rfl,rfl,rfl⟩:=trodAll_nil r4
 obtain rfl:args=#[v0,v1,v2,v3,v4]:=by cases args;simp_all
 obtain ⟨rfl,rfl⟩:=trodVars_none hV
 have part:∀ (j:Nat) (t:TypeId) (d:DataW H),([25,25,3,3,23]++Rows.fsaWitnessSpec.plain.varTypes Tryz.prog)[j]? =some t→([d0,d1,d2,d3,d4]++([]:List (DataW H)))[j]? =some d→(d.weights Tryz.prog t).all (·≤reachBytes)=true:=fun j t d ht hd=>
  List.all_eq_true.2 fun n hn=>List.all_eq_true.1 hsz n (DataW.weights_mem_each ht hd n hn)
 have k0:=h0
 have lt0:∀ x∈p0,x.block<W.heap.size:=by obtain ⟨m,hm⟩:=k0;exact DataW.trod_lt m _ _ _ hm
 obtain ⟨a,ha,la⟩:=aut (hval 0 25 v0 rfl rfl) h0 (part 0 25 d0 rfl rfl)
 have k1:=h1
 have lt1:∀ x∈p1,x.block<W.heap.size:=by obtain ⟨m,hm⟩:=k1;exact DataW.trod_lt m _ _ _ hm
 obtain ⟨b,hb,lb⟩:=aut (hval 1 25 v1 rfl rfl) h1 (part 1 25 d1 rfl rfl)
 obtain ⟨a2,rfl,rfl,rfl,w2⟩:=open_int Tryz.underlying3 (hval 2 3 v2 rfl rfl) h2
 obtain ⟨a3,rfl,rfl,rfl,w3⟩:=open_int Tryz.underlying3 (hval 3 3 v3 rfl rfl) h3
 have k4:=h4
 have lt4:∀ x∈p4,x.block<W.heap.size:=by obtain ⟨m,hm⟩:=k4;exact DataW.trod_lt m _ _ _ hm
 obtain ⟨l,hl,ll⟩:=rows (hval 4 23 v4 rfl rfl) h4 (part 4 23 d4 rfl rfl)
 clear hA0 hval0 hsz0 hsz
 refine (walk W a b a2 a3 l ha hb hl la lb ll).mono fun e W' ⟨he,bel⟩=>?_
 subst he
 exact ⟨_,rfl,_,_,_,[],_,[],hW',trodAll_mk1 (shut_bool Tryz.underlying4 _),(trodAll_cons_mk (Below.trod laidOut (by kernel_rfl) (of_decide_eq_true (by kernel_rfl)) k0 bel lt0) (trodAll_cons_mk (Below.trod laidOut (by kernel_rfl) (of_decide_eq_true (by kernel_rfl)) k1 bel lt1) (trodAll_cons_mk (shut_int Tryz.underlying3 w2) (trodAll_cons_mk (shut_int Tryz.underlying3 w3) (trodAll_cons_mk (Below.trod laidOut (by kernel_rfl) (of_decide_eq_true (by kernel_rfl)) k4 bel lt4) trodAll_mk0))))),rfl,bel.frame _,fun h=>by cases h⟩
theorem over:Rows.fsaWitnessRow.holds Tryz.pinned (OpenSpec.ofChange Rows.fsaWitnessSpec):=
 OpenClaim.holds_of_wide 6 Tryz.f6 rfl rfl rfl rfl rfl rfl rfl ⟨rfl,rfl,rfl,rfl,rfl⟩ rfl rfl rfl rfl rfl (by kernel_rfl) Tryz.func6 (by kernel_rfl)
  (of_decide_eq_true (by kernel_rfl)) (by unfold Func.isWrapper;first | (rw [if_pos (by decide +kernel)];kernel_rfl) | (rw [if_neg (by decide +kernel)];exact ⟨rfl,rfl⟩))
  (fun os started H enc _=>lifted os started H enc)
theorem proved:Rows.FsaWitnessSaid:=over
#print axioms proved
end Go.Proofs.YtfjbdkmmoinngaaGreatDoor.fsaWitness
namespace Go.Proofs.YtfjbdkmmoinngaaGreatDoor
theorem fsaWitness_holds:Rows.FsaWitnessSaid:=fsaWitness.proved
end Go.Proofs.YtfjbdkmmoinngaaGreatDoor
