/- The row of the law FsaFinds: whatever the input, the law answers true, and its arguments read as they did. -/
import Derived.Test.YtfjbdkmmoinngaaGreatDoorRows
import Derived.Test.YtfjbdkmmoinngaaGreatDoorWC
import Derived.Test.YtfjbdkmmoinngaaGreatDoorOpens
import Derived.Test.YtfjbdkmmoinngaaGreatDoorSane
import Derived.WalkKit
import Derived.ProofKit
import Derived.OpenShut
import Derived.ShutString
import Derived.ChangeOld
import Derived.Below
import Derived.SizedLaws
import Derived.LaidMore
import Derived.Handed
set_option linter.unusedVariables false
set_option linter.unusedSimpArgs false
set_option linter.unusedSectionVars false
namespace Go.Proofs.YtfjbdkmmoinngaaGreatDoor.fsaFinds
open Go.ChangeShapes Go.WideShapes Go.ChangeAt Go.RowKit Go.Dv Go.Sim Go.Fsa
set_option maxRecDepth 100000
theorem own:ownKnob Tryz.prog.godebug=none:=by kernel_rfl
theorem laidOut:laidOutB Tryz.prog=true:=by kernel_rfl
theorem names_all:Tryz.prog.funcs.toList.all (fun fn=>!(fn.name== "runtime.NumGoroutine"))=true:=by kernel_rfl
theorem names (g:FuncId) (fn:Func) (h:Q.P.funcs[g]? =some fn):(fn.name== "runtime.NumGoroutine")=false:=by
 have hm:fn∈Tryz.prog.funcs.toList:=by
  rw [Array.mem_toList_iff]
  exact Array.mem_of_getElem? h
 simpa using List.all_eq_true.1 names_all fn hm
theorem told (g:FuncId):Q.tv g=Nat.beq g 11:=by
 show (Nat.beq g 11||false)=Nat.beq g 11
 simp
theorem body11:Tryz.f11.body.isSome=true:=by kernel_rfl
theorem good:GoodF Q.P 11:=⟨Tryz.f11,_,Tryz.func11,(Option.eq_some_of_isSome body11),names 11 _ Tryz.func11⟩
theorem walk (W:World) (a b:Aut) (f g:Int) {v0 v1:Value} (h0:DW W (autD a) v0) (h1:DW W (autD b) v1) (l0:a.nxt.length<1152921504606846976) (l1:b.nxt.length<1152921504606846976) :
  Calls Tryz.prog 4 #[v0,v1,.int .i64 f,.int .i64 g] W fun e w'=>e=.returned (.bool true)∧Below W.heap.size W w':=
 calls_deep (Q:=Q) (QOK.of names told good) Sane.follows (tellS_ok Sane.calls11) (w4 a b f g l0 l1 0 []) (.cons h0 (.cons h1 (.cons (.f (.int _ _)) (.cons (.f (.int _ _)) .nil)))) (Nat.zero_le _)
def laidList:List (String×DataW Unit):=[("math/bits.deBruijn32tab",Rows.laid_math_bits_deBruijn32tab),("math/bits.deBruijn64tab",Rows.laid_math_bits_deBruijn64tab),("internal/strconv.uint64pow10",Rows.laid_internal_strconv_uint64pow10)]
theorem door_met (os:Os) (args:Array Value):laidMetH Tryz.prog laidList ((World.doorLaid Tryz.prog 400 os).forCall (fun _ _=>0) ⟨#[],args,[]⟩).memory:=
 laidMetH_of_parts3 (fuel:=8) (laidMet_of_run' 8 (by kernel_rfl) (by kernel_rfl)) (by kernel_rfl) (by kernel_rfl)
theorem aut {T:Type} {enc:TypeId×Value→T} {W:World} {base:Nat} {v:Value} {d:DataW T} {p:List MemPlace} (hv:Value.okWide Tryz.prog W .any base 25 v) (h:DataW.Trod enc Tryz.prog W 0 (fun _=>true) true 25 v d p)
  (hw:(d.weights Tryz.prog 25).all (·≤reachBytes)=true):∃ a:Aut,DW W (autD a) v∧a.nxt.length<1152921504606846976:=
 dw_aut (t0:=3) (t1:=3) (t2:=22) (t3:=23) Tryz.underlying25 (by kernel_rfl) (by kernel_rfl) Tryz.underlying3 Tryz.underlying3 Tryz.underlying22 Tryz.underlying23 Tryz.underlying4 (by kernel_rfl) Tryz.underlying26 (by kernel_rfl) (by kernel_rfl) hv h (Nat.le_of_ble_eq_true (by kernel_rfl)) hw
theorem lifted (os:Os) (started:os.Started) (H:Type) (enc:TypeId×Value→H) :
  ReturnsInHanded {} Tryz.checked os 4 .any (fun w args=>(Rows.fsaFindsSpec.pre enc Tryz.prog Tryz.f4 [] false w args∧laidMetH Tryz.prog laidList w)∧sizedMet enc Tryz.prog Tryz.f4 (OpenSpec.ofChange Rows.fsaFindsSpec) false w args)
   (Rows.fsaFindsSpec.post enc Tryz.prog Tryz.f4 false true false false):=by
 refine returnsInHanded_of_change_and (C:=Tryz.checked) (X:=fun w _=>laidMetH Tryz.prog laidList w) (fun _ _ _ hh h=>h.of_heap hh) own started (by kernel_rfl) Tryz.func4
  (ChangeSpec.witness_shaped (enc:=enc) (C:=Tryz.checked) (os:=os) (X:=fun w _=>laidMetH Tryz.prog laidList w) false (World.doorLaid Tryz.prog 400 os) #[.agg #[.int .i64 0,.int .i64 0,.slice none 0 0,.slice none 0 0],.agg #[.int .i64 0,.int .i64 0,.slice none 0 0,.slice none 0 0],.int .i64 0,.int .i64 0] 6 rfl (World.shaped_of_RefB (by kernel_rfl) (by kernel_rfl)) (by kernel_rfl) (by kernel_rfl) (by kernel_rfl) (door_met os _)) ?_
 intro W base args ds gs before hval0 hW hcnd hsz0 _ _
 have hsz:(DataW.weightsEach Tryz.prog (Tryz.f4.params.toList++Rows.fsaFindsSpec.plain.varTypes Tryz.prog) (ds++gs)).all (·≤reachBytes)=true:=hsz0
 have hval:∀ (j:Nat) t v,Tryz.f4.params[j]? =some t→args[j]? =some v→Value.okWide Tryz.prog W .any base t v:=hval0
 have hW':=hW
 obtain ⟨p,q,hA0,hV,rfl,hfz,hnd⟩:=hW
 have hA:DataW.TrodAll enc Tryz.prog W 0 (fun _=>true) true Tryz.f4.params.toList args.toList ds p:=hA0
 rw [Tryz.params4] at hA hval hsz
 obtain ⟨v0,vs0,d0,ds0,p0,q0,hargs,rfl,rfl,h0,r0⟩:=trodAll_cons hA
 obtain ⟨v1,vs1,d1,ds1,p1,q1,rfl,rfl,rfl,h1,r1⟩:=trodAll_cons r0
 obtain ⟨v2,vs2,d2,ds2,p2,q2,rfl,rfl,rfl,h2,r2⟩:=trodAll_cons r1
 obtain ⟨v3,vs3,d3,ds3,p3,q3,rfl,rfl,rfl,h3,r3⟩:=trodAll_cons r2
 obtain ⟨rfl,rfl,rfl⟩:=trodAll_nil r3
 obtain rfl:args=#[v0,v1,v2,v3]:=by cases args;simp_all
 obtain ⟨rfl,rfl⟩:=trodVars_none hV
 have part:∀ (j:Nat) (t:TypeId) (d:DataW H),([25,25,3,3]++Rows.fsaFindsSpec.plain.varTypes Tryz.prog)[j]? =some t→([d0,d1,d2,d3]++([]:List (DataW H)))[j]? =some d→(d.weights Tryz.prog t).all (·≤reachBytes)=true:=fun j t d ht hd=>
  List.all_eq_true.2 fun n hn=>List.all_eq_true.1 hsz n (DataW.weights_mem_each ht hd n hn)
 have k0:=h0
 have lt0:∀ x∈p0,x.block<W.heap.size:=by obtain ⟨m,hm⟩:=k0;exact DataW.trod_lt m _ _ _ hm
 obtain ⟨a,ha,la⟩:=aut (hval 0 25 v0 rfl rfl) h0 (part 0 25 d0 rfl rfl)
 have k1:=h1
 have lt1:∀ x∈p1,x.block<W.heap.size:=by obtain ⟨m,hm⟩:=k1;exact DataW.trod_lt m _ _ _ hm
 obtain ⟨b,hb,lb⟩:=aut (hval 1 25 v1 rfl rfl) h1 (part 1 25 d1 rfl rfl)
 obtain ⟨a2,rfl,rfl,rfl,w2⟩:=open_int Tryz.underlying3 (hval 2 3 v2 rfl rfl) h2
 obtain ⟨a3,rfl,rfl,rfl,w3⟩:=open_int Tryz.underlying3 (hval 3 3 v3 rfl rfl) h3
 clear hA0 hval0 hsz0 hsz
 refine (walk W a b a2 a3 ha hb la lb).mono fun e W' ⟨he,bel⟩=>?_
 subst he
 exact ⟨_,rfl,_,_,_,[],_,[],hW',trodAll_mk1 (shut_bool Tryz.underlying4 _),(trodAll_cons_mk (Below.trod laidOut (by kernel_rfl) (of_decide_eq_true (by kernel_rfl)) k0 bel lt0) (trodAll_cons_mk (Below.trod laidOut (by kernel_rfl) (of_decide_eq_true (by kernel_rfl)) k1 bel lt1) (trodAll_cons_mk (shut_int Tryz.underlying3 w2) (trodAll_cons_mk (shut_int Tryz.underlying3 w3) trodAll_mk0)))),rfl,bel.frame _,fun h=>by cases h⟩
theorem over:Rows.fsaFindsRow.holds Tryz.pinned (OpenSpec.ofChange Rows.fsaFindsSpec):=
 OpenClaim.holds_of_wide 4 Tryz.f4 rfl rfl rfl rfl rfl rfl rfl ⟨rfl,rfl,rfl,rfl,rfl⟩ rfl rfl rfl rfl rfl (by kernel_rfl) Tryz.func4 (by kernel_rfl)
  (of_decide_eq_true (by kernel_rfl)) (by unfold Func.isWrapper;first | (rw [if_pos (by decide +kernel)];kernel_rfl) | (rw [if_neg (by decide +kernel)];exact ⟨rfl,rfl⟩))
  (fun os started H enc _=>lifted os started H enc)
theorem proved:Rows.FsaFindsSaid:=over
#print axioms proved
end Go.Proofs.YtfjbdkmmoinngaaGreatDoor.fsaFinds
namespace Go.Proofs.YtfjbdkmmoinngaaGreatDoor
theorem fsaFinds_holds:Rows.FsaFindsSaid:=fsaFinds.proved
end Go.Proofs.YtfjbdkmmoinngaaGreatDoor
