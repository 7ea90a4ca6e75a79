/- Texts of this proof, part WB. -/
import Derived.Test.YtfjbdkmmoinngaaGreatDoorWA
import Derived.Test.YtfjbdkmmoinngaaGreatDoorDvB
import Derived.Test.YtfjbdkmmoinngaaGreatDoorPure
set_option linter.unusedVariables false
set_option linter.unusedSimpArgs false
set_option linter.unusedSectionVars false
set_option maxRecDepth 100000
set_option maxHeartbeats 2000000
namespace Go.Dv
open Go Go.Sim Go.Proofs Go.Fsa
attribute [local simp] encI bitF autD b_neqB b_eqlB el_num set_num fz_num numD bitD el_bit set_bit fz_bit
def byteD (n:Nat):DV:=.f (.raw (.int .u8 n))
def byteF (n:Nat):FV:=.raw (.int .u8 n)
def digS:ByteArray:=⟨#[48,49,50,51,52,53,54,55,56,57,97,98,99,100,101,102,103,104,105,106,107,108,109,110,111,112,113,114,115,116,117,118,119,120,121,122]⟩
theorem digS_list:digS.data.toList=(List.range 36).map fun d=>UInt8.ofNat (dgt d):=by decide
theorem digS_at {d:Nat} (h:d<36):indexA Tryz.prog 9 (.string digS) (.int .u64 (d:Nat))=some (.int .u8 ((dgt d:Nat):Int)):=by
 show (Tryz.prog.underlying 9).bind (indexVD Tryz.prog (.string digS) d)=_
 rw [show Tryz.prog.underlying 9=some .string by kernel_rfl]
 show (digS.data.toList[d]?).map byteV=_
 rw [digS_list,List.getElem?_map,List.getElem?_range h]
 show some (Value.int .u8 (Int.ofNat (UInt8.ofNat (dgt d)).toNat))=_
 rw [UInt8.toNat_ofNat']
 have:dgt d<256:=by unfold dgt;split<;>omega
 rw [Nat.mod_eq_of_lt this];rfl
theorem dg_at {d:Nat} (h:d<36):dIndex Tryz.prog 9 (some (.f (.raw (.string ⟨#[48,49,50,51,52,53,54,55,56,57,97,98,99,100,101,102,103,104,105,106,107,108,109,110,111,112,113,114,115,116,117,118,119,120,121,122]⟩)))) (some (.f (.raw (.int .u64 (d:Nat)))))=some (.f (.raw (.int .u8 ((dgt d:Nat):Int)))):=by
 have:=digS_at h
 unfold digS at this
 unfold dIndex
 simp only
 rw [if_pos (show noAddr _=true from rfl),this]
 rfl
theorem al197 {D:DH}:alR D (zeroT Tryz.prog 197)=some (.val (.ref D.length 0 0) (D++[.arr 65 [.agg ((List.replicate 65 0).map byteD)]])):=by
 rw [show zeroT Tryz.prog 197=some (.agg (List.replicate 65 (.int .u8 0)).toArray) by kernel_rfl,alR_some,ofV_agg]
 simp [-getElem?_pos,-List.map_set,-objBelow,-depV,-q_zeroT_197,okEl_eq,byteD,cellsD,oneD,oneF,oneCell]
theorem w169 (base:Nat) (D:DH):callD Q 169 [intD 36] base D=some (boolD false,D):=by
 rw [call_pure (fn:=Tryz.f169) (show Q.P.funcs[169]? =some Tryz.f169 from Tryz.func169) rfl ann169 rfl (by simp only [List.length_cons,List.length_nil];decide) (by kernel_rfl)]
 have gp:=gp169
 simp only [ann169,Tryz.f169,gpB_some,gpC_draw,gpC_reg,gpC_seq,gpC_cond,gpC_block,gpC_loop,gpC_range,gpC_skip,gpC_ret,gpC_exit,gpC_label,gpO_some,gpO_none,findN,Bool.and_eq_true,Bool.and_true,Bool.true_and,reduceIte,Nat.reduceEqDiff,true_and,and_true] at gp
 have h1:wrapF .i64 35=35:=by kernel_rfl
 have h2:∀ x y,binA Tryz.prog .and 3 x y (.int .i64 36) (.int .i64 35)=some (.int .i64 32):=by intro x y;kernel_rfl
 simp (maxSteps:=2000000) [-getElem?_pos,-List.map_set,-objBelow,-depV,-q_zeroT_197,gp,h1,h2]
theorem bls_byte {L:Nat} {Z:List Nat}:belows L (Z.map byteD)=true:=by rw [belows_all];simp [-getElem?_pos,-List.map_set,-objBelow,-depV,-q_zeroT_197,byteD]
theorem put_byte {Z:List Nat} {j n:Nat}:List.take j (List.map byteD Z)++(DV.f (FV.raw (.int .u8 ((n:Nat):Int)))::List.drop (j+1) (List.map byteD Z))=(Z.take j++n::Z.drop (j+1)).map byteD:=by simp [-getElem?_pos,-List.map_set,-objBelow,-depV,-q_zeroT_197,byteD]
theorem w165 (d d':DV) (u:Nat) (hu:u<9223372036854775808) (base:Nat) (D D':DH) (hb:base≤D.length) (hob:(D.drop base).all (objBelow D.length)=true) (hd:below D.length d=true)
  (happ:apR (D++[.dead]) base d (some ⟨5,1,1,byteD 0⟩) true (some ((dig 13 u).map byteD))=some (.val d' D')) :
  callD Q 165 [d,.f (.raw (.int .u64 (u:Nat))),intD 36,boolD false,boolD true] base D=some (.tup [d',.f (.raw (.string ⟨#[]⟩))],D'):=by
 rw [call_raw (fn:=Tryz.f165) (show Q.P.funcs[165]? =some Tryz.f165 from Tryz.func165) rfl ann165 rfl (by simp only [List.length_cons,List.length_nil];decide) (by kernel_rfl)]
 have gp:=gp165
 simp only [ann165,Tryz.f165,gpB_some,gpC_draw,gpC_reg,gpC_seq,gpC_cond,gpC_block,gpC_loop,gpC_range,gpC_skip,gpC_ret,gpC_exit,gpC_label,gpO_some,gpO_none,findN,Bool.and_eq_true,Bool.and_true,Bool.true_and,reduceIte,Nat.reduceEqDiff,true_and,and_true] at gp
 have hbk:∀ k,base≤D.length+k:=fun k=>by omega
 have hOK:∀ k X,objsOK base (D.length+k) (D++X)=(X.take k).all (objBelow (D.length+k)):=fun k X=>objsOK_raw hb hob
 have hdk:∀ k,below (D.length+k) d=true:=fun k=>(below_le (Nat.le_add_right _ _)).1 d hd
 have h169:=fun b D=>w169 b D
 simp only [intD,boolD] at h169
 have hcv:∀ H,convA Tryz.prog H 3 178 (.int .i64 36)=some (.int .u64 36):=fun H=>by rw [cv_int (j:=.i64) (k:=.u64) (by kernel_rfl) (by kernel_rfl)];rfl
 obtain ⟨Z0,hZ0⟩:∃ Z,Z=List.replicate 65 0:=⟨_,rfl⟩
 have al:∀ D,alR D (zeroT Tryz.prog 197)=some (.val (.ref D.length 0 0) (D++[.arr 65 [.agg (Z0.map byteD)]])):=fun D=>by rw [hZ0];exact al197
 simp (maxSteps:=2000000) [-getElem?_pos,-List.map_set,-objBelow,-depV,-q_zeroT_197,gp,hb,hbk,hOK,hdk,al,h169,hcv,bls_byte]
 generalize hX:loopG _ _ _=X
 obtain ⟨tm,Z,i,v,rfl,⟨hZl,hi0,hi,hv,hdg⟩,t0,t1,t3,t4,t10,t11,t12,t13⟩:∃ (tm:Trie DV) (Z:List Nat) (i v:Nat),X=some (.exit 2,⟨tm,D++[.arr 65 [.agg (Z.map byteD)]]⟩)∧(Z.length=65∧53≤i∧i≤65∧v<36∧dgt v::Z.drop i=dig 13 u)∧tm.get 0=some d∧tm.get 1=some (.f (.raw (.int .u64 (v:Nat))))∧tm.get 3=some (boolD false)∧tm.get 4=some (boolD true)∧tm.get 10=some nilS∧tm.get 11=some (.f (.raw (.string ⟨#[]⟩)))∧tm.get 12=some (.ref D.length 0 0)∧tm.get 13=some (intD i):=by
  rw [← hX]
  clear hX happ
  generalize hs26:SD.mk _ _=sd26
  revert sd26
  refine wl (fun p:Nat×Nat×List Nat=>⟨((((((((Trie.leaf.put 17 (.f (.raw (.int .u64 36)))).put 13 (intD (p.1:Nat))).put 12 (.ref D.length 0 0)).put 11 (.f (.raw (.string ⟨#[]⟩)))).put 10 nilS).put 4 (boolD true)).put 3 (boolD false)).put 1 (.f (.raw (.int .u64 (p.2.1:Nat))))).put 0 d,D++[.arr 65 [.agg (p.2.2.map byteD)]]⟩) (fun p=>52<p.1∧p.1≤65∧p.2.2.length=65∧p.2.1<9223372036854775808∧p.2.1<36 ^ (p.1-52)∧dig (p.1-52) p.2.1++p.2.2.drop p.1=dig 13 u) (fun p=>p.1) ?_ (65,u,Z0) ⟨by omega,by omega,by rw [hZ0];simp [-getElem?_pos,-List.map_set,-objBelow,-depV,-q_zeroT_197],hu,Nat.lt_of_lt_of_le hu (show 9223372036854775808≤36 ^ 13 by decide),by rw [hZ0];simp [-getElem?_pos,-List.map_set,-objBelow,-depV,-q_zeroT_197]⟩
  rintro ⟨i,v,Z⟩ ⟨hf0,hf,hZl,hv64,hv,hdg⟩ ih
  simp only at hf0 hf hZl hv64 hv hdg ih
  rw [loopG_eq]
  obtain ⟨f,hif⟩:∃ f,i-52=f+1:=⟨i-53,by omega⟩
  rw [hif] at hv hdg
  by_cases hlt:v<36
  ·rw [dig_small hlt] at hdg
   simp (maxSteps:=2000000) [-getElem?_pos,-List.map_set,-objBelow,-depV,-q_zeroT_197,gp,show ¬36≤(v:Int) by omega]
   refine ⟨_,Z,⟨rfl,rfl⟩,i,v,⟨hZl,by omega,by omega,hlt,hdg⟩,?_⟩
   simp [-getElem?_pos,-List.map_set,-objBelow,-depV,-q_zeroT_197]
  ·rw [dig_big hlt] at hdg
   have hf1:0<f:=by
    cases f with
    | zero=>simp [-getElem?_pos,-List.map_set,-objBelow,-depV,-q_zeroT_197] at hv;omega
    | succ f=>omega
   obtain ⟨j,rfl⟩:∃ j,i=j+1:=⟨i-1,by omega⟩
   obtain ⟨q,hq⟩:∃ q,q=v / 36:=⟨_,rfl⟩
   obtain ⟨m,hm⟩:∃ m,m=q*36:=⟨_,rfl⟩
   obtain ⟨r,hr⟩:∃ r,r=v % 36:=⟨_,rfl⟩
   rw [← hq,← hr] at hdg
   have e1:∀ x y,binA Tryz.prog .quo 178 x y (.int .u64 (v:Nat)) (.int .u64 36)=some (.int .u64 (q:Nat)):=fun x y=>by rw [hq];exact u_quo (b:=36) (by omega) (by omega)
   have e2:∀ x y,binA Tryz.prog .mul 178 x y (.int .u64 (q:Nat)) (.int .u64 36)=some (.int .u64 (m:Nat)):=fun x y=>by rw [hm];exact u_mul (b:=36) (by omega)
   have e3:∀ x y,binA Tryz.prog .sub 178 x y (.int .u64 (v:Nat)) (.int .u64 (m:Nat))=some (.int .u64 (r:Nat)):=fun x y=>by rw [show r=v-m by omega];exact u_sub (by omega) (by omega)
   have e4:=dg_at (d:=r) (by omega)
   obtain ⟨Z2,hZ2⟩:∃ Z2,Z2=Z.take j++dgt r::Z.drop (j+1):=⟨_,rfl⟩
   have hst:=put_byte (Z:=Z) (j:=j) (n:=dgt r)
   rw [← hZ2] at hst
   have ih':=ih (j,q,Z2) ⟨by simp only;omega,by simp only;omega,by rw [hZ2];simp only [List.length_append,List.length_take,List.length_cons,List.length_drop];omega,by simp only;omega,by simp only;rw [show j-52=f by omega,hq];rw [Nat.pow_succ] at hv;omega,by
    simp only
    rw [hZ2,show j-52=f by omega,List.drop_append_of_le_length (by rw [List.length_take];omega),List.drop_of_length_le (by rw [List.length_take];omega),List.nil_append,← hdg]
    simp [-getElem?_pos,-List.map_set,-objBelow,-depV,-q_zeroT_197]⟩ (by simp only;omega)
   simp (maxSteps:=2000000) [-getElem?_pos,-List.map_set,-objBelow,-depV,-q_zeroT_197] at ih'
   have hjw:wrapF .i64 (j:Int)=j:=wrap_in (by omega) (by omega)
   simp (maxSteps:=2000000) [-getElem?_pos,-List.map_set,-objBelow,-depV,-q_zeroT_197,gp,hb,hbk,hOK,hdk,bls_byte,hst,hZl,e1,e2,e3,e4,hjw,show (36:Int)≤v by omega,show (j:Int)+1-1=j by omega,show j<65 by omega,show j+1≤65 by omega]
   exact ih'
 clear hX
 obtain ⟨j,rfl⟩:∃ j,i=j+1:=⟨i-1,by omega⟩
 have e4:=dg_at (d:=v) hv
 obtain ⟨Z2,hZ2⟩:∃ Z2,Z2=Z.take j++dgt v::Z.drop (j+1):=⟨_,rfl⟩
 have hst:=put_byte (Z:=Z) (j:=j) (n:=dgt v)
 rw [← hZ2] at hst
 have hZ2l:Z2.length=65:=by rw [hZ2];simp only [List.length_append,List.length_take,List.length_cons,List.length_drop];omega
 have hd2:Z2.drop j=dig 13 u:=by
  rw [hZ2,List.drop_append_of_le_length (by rw [List.length_take];omega),List.drop_of_length_le (by rw [List.length_take];omega),List.nil_append];exact hdg
 have hjw:wrapF .i64 (j:Int)=j:=wrap_in (by omega) (by omega)
 have htf:toFs (Z2.map byteD)=some (Z2.map byteF):=toFs_map fun _=>rfl
 have hdf:List.map elD (List.drop j (List.map byteF Z2))=(dig 13 u).map byteD:=by rw [← List.map_drop,hd2,List.map_map];rfl
 have hall:(List.map byteF Z2).all oneF=true:=by simp [-getElem?_pos,-List.map_set,-objBelow,-depV,-q_zeroT_197,byteF,oneF,oneCell]
 have htk:List.take 65 (List.map byteF Z2)=List.map byteF Z2:=List.take_of_length_le (by simp [-getElem?_pos,-List.map_set,-objBelow,-depV,-q_zeroT_197,hZ2l])
 have hnew:((dig 13 u).map byteD).all (okEl 1)=true:=by simp [-getElem?_pos,-List.map_set,-objBelow,-depV,-q_zeroT_197,byteD,okEl_eq,cellsD,oneD,oneF,oneCell]
 rw [apR_some,if_pos hnew] at happ
 have hby:byteD 0=DV.f (.raw (.int .u8 0)):=rfl
 rw [hby] at happ
 simp (maxSteps:=2000000) [-getElem?_pos,-List.map_set,-objBelow,-depV,-q_zeroT_197,gp,-List.all_map,-List.all_eq_true,hb,hbk,t0,t1,t3,t4,t10,t11,t12,t13,hZl,hZ2l,e4,hst,hjw,htf,hdf,hall,htk,hnew,happ,show (j:Int)+1-1=j by omega,show j<65 by omega,show j+1≤65 by omega]
 trace_state
end Go.Dv
namespace Go.Dv
open Go Go.Sim Go.Proofs Go.Fsa
attribute [local simp] encI bitF autD b_neqB b_eqlB el_num set_num fz_num numD bitD el_bit set_bit fz_bit
theorem w155 (d d':DV) (u:Nat) (hu:u<9223372036854775808) (base:Nat) (D D':DH) (hb:base≤D.length) (hob:(D.drop base).all (objBelow D.length)=true) (hd:below D.length d=true)
  (happ:apR (D++[.dead]) base d (some ⟨5,1,1,byteD 0⟩) true (some ((dig 13 u).map byteD))=some (.val d' D')) :
  callD Q 155 [d,.f (.raw (.int .u64 (u:Nat))),intD 36] base D=some (d',D'):=by
 rw [call_raw (fn:=Tryz.f155) (show Q.P.funcs[155]? =some Tryz.f155 from Tryz.func155) rfl ann155 rfl (by simp only [List.length_cons,List.length_nil];decide) (by kernel_rfl)]
 have gp:=gp155
 simp only [ann155,Tryz.f155,gpB_some,gpC_draw,gpC_reg,gpC_seq,gpC_cond,gpC_block,gpC_loop,gpC_range,gpC_skip,gpC_ret,gpC_exit,gpC_label,gpO_some,gpO_none,findN,Bool.and_eq_true,Bool.and_true,Bool.true_and,reduceIte,Nat.reduceEqDiff,true_and,and_true] at gp
 have h:=w165 d d' u hu base D D' hb hob hd happ
 simp only [intD,boolD] at h
 simp (maxSteps:=2000000) [-getElem?_pos,-List.map_set,-objBelow,-depV,-q_zeroT_197,gp,h]
theorem w143 (d d':DV) (u:Nat) (hu:u<9223372036854775808) (base:Nat) (D D':DH) (hb:base≤D.length) (hob:(D.drop base).all (objBelow D.length)=true) (hd:below D.length d=true)
  (happ:apR (D++[.dead]) base d (some ⟨5,1,1,byteD 0⟩) true (some ((dig 13 u).map byteD))=some (.val d' D')) :
  callD Q 143 [d,intD u,intD 36] base D=some (d',D'):=by
 rw [call_raw (fn:=Tryz.f143) (show Q.P.funcs[143]? =some Tryz.f143 from Tryz.func143) rfl ann143 rfl (by simp only [List.length_cons,List.length_nil];decide) (by kernel_rfl)]
 have gp:=gp143
 simp only [ann143,Tryz.f143,gpB_some,gpC_draw,gpC_reg,gpC_seq,gpC_cond,gpC_block,gpC_loop,gpC_range,gpC_skip,gpC_ret,gpC_exit,gpC_label,gpO_some,gpO_none,findN,Bool.and_eq_true,Bool.and_true,Bool.true_and,reduceIte,Nat.reduceEqDiff,true_and,and_true] at gp
 have h:=w155 d d' u hu base D D' hb hob hd happ
 simp only [intD,boolD] at h
 have hcv:∀ H,convA Tryz.prog H 2 178 (.int .i64 (u:Nat))=some (.int .u64 (u:Nat)):=fun H=>by
  rw [cv_int (j:=.i64) (k:=.u64) (by kernel_rfl) (by kernel_rfl)]
  show some (Value.int .u64 (Int.ofNat (u % 18446744073709551616)))=_
  rw [Nat.mod_eq_of_lt (by omega)];rfl
 simp (maxSteps:=2000000) [-getElem?_pos,-List.map_set,-objBelow,-depV,-q_zeroT_197,gp,h,hcv,show ¬(u:Int)<0 by omega]
theorem w131 (d d':DV) (u:Nat) (hu:u<9223372036854775808) (base:Nat) (D D':DH) (hb:base≤D.length) (hob:(D.drop base).all (objBelow D.length)=true) (hd:below D.length d=true)
  (happ:apR (D++[.dead]) base d (some ⟨5,1,1,byteD 0⟩) true (some ((dig 13 u).map byteD))=some (.val d' D')) :
  callD Q 131 [d,intD u,intD 36] base D=some (d',D'):=by
 rw [call_raw (fn:=Tryz.f131) (show Q.P.funcs[131]? =some Tryz.f131 from Tryz.func131) rfl ann131 rfl (by simp only [List.length_cons,List.length_nil];decide) (by kernel_rfl)]
 have gp:=gp131
 simp only [ann131,Tryz.f131,gpB_some,gpC_draw,gpC_reg,gpC_seq,gpC_cond,gpC_block,gpC_loop,gpC_range,gpC_skip,gpC_ret,gpC_exit,gpC_label,gpO_some,gpO_none,findN,Bool.and_eq_true,Bool.and_true,Bool.true_and,reduceIte,Nat.reduceEqDiff,true_and,and_true] at gp
 have h:=w143 d d' u hu base D D' hb hob hd happ
 simp only [intD,boolD] at h
 simp (maxSteps:=2000000) [-getElem?_pos,-List.map_set,-objBelow,-depV,-q_zeroT_197,gp,h]
end Go.Dv
namespace Go.Dv
open Go Go.Sim Go.Proofs Go.Fsa
attribute [local simp] encI bitF autD b_neqB b_eqlB el_num set_num fz_num numD bitD el_bit set_bit fz_bit
theorem normF_strL {l:List UInt8}:normF (.raw (strL l))=.raw (strL l):=rfl
attribute [local simp] normF_strL
theorem bl_byte {L n:Nat}:below L (byteD n)=true:=bl_f
attribute [local simp] bl_byte
theorem get_app {D X:DH} {o:Nat} {x:DObj} (h:D[o]? =some x):(D++X)[o]? =some x:=by
 rw [List.getElem?_append_left (ltOf h)];exact h
structure MachAt (D:DH) (o1 om oa on:Nat) (x y:DV) (m:Aut):Prop where
 box:D[o1]? =some (.arr 1 [.ref om 0 0])
 mach:D[om]? =some (.arr 5 [.agg [intD m.sy,.apl oa m.acc.length,.apl on m.acc.length,x,y]])
 acc:D[oa]? =some (.app 4 1 (m.acc.map bitD))
 nxt:D[on]? =some (.app 26 1 (m.nxt.map rowD))
theorem MachAt.app {D X:DH} {o1 om oa on:Nat} {x y:DV} {m:Aut} (h:MachAt D o1 om oa on x y m):MachAt (D++X) o1 om oa on x y m:=⟨get_app h.1,get_app h.2,get_app h.3,get_app h.4⟩
def natD (l:List Nat):DV:=rowD (l.map fun c:Nat=>(c:Int))
theorem bytes_u8:∀ {l:List Nat},bytesD (l.map byteD)=some (l.map UInt8.ofNat)
 | []=>rfl
 | x::l=>by
  show (bytesD (l.map byteD)).map (UInt8.ofNat x::·)=_
  rw [bytes_u8 (l:=l)];rfl
noncomputable def keyD (m:Aut) (lv:List Bool) (cl:List Nat) (i:Nat):DV:=rv (strL ((keyAt lv m.nxt cl i).map UInt8.ofNat))
theorem w130 (m:Aut) (hm:m.fine) (hsy:m.sy≤400) (lv:List Bool) (hlv:lv.length=m.acc.length) (cl:List Nat) (hcl:cl.length=m.acc.length) (hcb:∀ c∈cl,c<1000000) (i:Nat) (hi:i<m.acc.length)
  (o1 om oa on o5 ol:Nat) (x y:DV) (base:Nat) (D:DH) (hM:MachAt D o1 om oa on x y m) (h5:D[o5]? =some (.arr 1 [.row ol 0 m.acc.length m.acc.length])) (hl:D[ol]? =some (.arr 1 (lv.map bitD))) :
  callD Q 130 [natD cl,intD i,.ref o5 0 0,.ref o1 0 0] base D=some (keyD m lv cl i,D):=by
 rw [call_pure (fn:=Tryz.f130) (show Q.P.funcs[130]? =some Tryz.f130 from Tryz.func130) rfl ann130 rfl (by simp only [List.length_cons,List.length_nil];decide) (by kernel_rfl)]
 have gp:=gp130
 simp only [ann130,Tryz.f130,gpB_some,gpC_draw,gpC_reg,gpC_seq,gpC_cond,gpC_block,gpC_loop,gpC_range,gpC_skip,gpC_ret,gpC_exit,gpC_label,gpO_some,gpO_none,findN,Bool.and_eq_true,Bool.and_true,Bool.true_and,reduceIte,Nat.reduceEqDiff,true_and,and_true] at gp
 obtain ⟨b,hb⟩:∃ b,lv[i]? =some b:=⟨_,List.getElem?_eq_getElem (by omega)⟩
 obtain ⟨cI,hcI⟩:∃ l,l=cl.map fun c:Nat=>(c:Int):=⟨_,rfl⟩
 have hcg:∀ j c:Nat,cl[j]? =some c→cI[j]? =some (c:Int):=fun j c h=>by rw [hcI,List.getElem?_map,h];rfl
 have ho5:∀ k,o5<D.length+k:=fun k=>by have:=ltOf h5;omega
 unfold natD
 rw [← hcI]
 cases b with
 | false=>
  have e:keyD m lv cl i=rv (strL [45]):=by unfold keyD keyAt;rw [if_neg (by rw [hb];simp [-getElem?_pos,-List.map_set,-objBelow,-depV,-q_zeroT_197])];rfl
  rw [e]
  simp (maxSteps:=2000000) [-getElem?_pos,-List.map_set,-objBelow,-depV,-q_zeroT_197,gp,h5,hl,hb,hi]
  rfl
 | true=>
  obtain ⟨c,hc⟩:∃ c,cl[i]? =some c:=⟨_,List.getElem?_eq_getElem (by omega)⟩
  obtain ⟨r,hr,hrl,hrg⟩:=row_go hm hi
  have hcc:=hcb c (List.mem_of_getElem? hc)
  have h131:=w131 nilS (.apl (D.length+1) (dig 13 c).length) c (by omega) D.length D (D++[.dead,.app 5 1 ((dig 13 c).map byteD)]) (Nat.le_refl _) (by simp [-getElem?_pos,-List.map_set,-objBelow,-depV,-q_zeroT_197]) rfl (by
   have hnew:((dig 13 c).map byteD).all (okEl 1)=true:=by simp [-getElem?_pos,-List.map_set,-objBelow,-depV,-q_zeroT_197,byteD,okEl_eq,cellsD,oneD,oneF,oneCell]
   have:=dig_len (f:=13) (u:=c)
   rw [apR_some,if_pos hnew,ap_nil,if_pos (by rw [bnd_eq];simp [-getElem?_pos,-List.map_set,-objBelow,-depV,-q_zeroT_197];omega)]
   simp [-getElem?_pos,-List.map_set,-objBelow,-depV,-q_zeroT_197])
  simp only [intD] at h131
  obtain ⟨fo,hfo⟩:∃ fo:Int→Option Nat,fo=fun t=>if 0≤t∧lv[t.toNat]? =some true then some ((cl[t.toNat]?).getD 0) else none:=⟨_,rfl⟩
  have hkey:keyAt lv m.nxt cl i=dig 13 c++((r.map fo).map kpart).flatten:=by
   unfold keyAt
   rw [if_pos hb,hc,hr,hfo];rfl
  obtain ⟨sy,hsy'⟩:∃ sy:Nat,m.sy=sy:=⟨m.sy.toNat,by omega⟩
  rw [hsy'] at hrl hsy
  have hrl':r.length=sy:=by omega
  obtain ⟨B0,hB0⟩:∃ B,B=dig 13 c:=⟨_,rfl⟩
  rw [← hB0] at h131
  have g5:∀ X,(D++X)[o5]? =some (.arr 1 [.row ol 0 m.acc.length m.acc.length]):=fun X=>get_app h5
  have gl:∀ X,(D++X)[ol]? =some (.arr 1 (lv.map bitD)):=fun X=>get_app hl
  have gM:=fun X=>hM.app (X:=X)
  have hc':=hcg _ _ hc
  simp (maxSteps:=2000000) [-getElem?_pos,-List.map_set,-objBelow,-depV,-q_zeroT_197,gp,ho5,h5,hl,hb,hi,hc',h131,(gM _).1,(gM _).2,(gM _).3,(gM _).4,hr,hm.len,hrl']
  generalize hX:loopG _ _ _=X
  obtain ⟨tm,B,rfl,hB,t7⟩:∃ (tm:Trie DV) (B:List Nat),X=some (.exit 0,⟨tm,D++[.dead,.app 5 1 (B.map byteD)]⟩)∧B=keyAt lv m.nxt cl i∧tm.get 7=some (.apl (D.length+1) B.length):=by
   rw [← hX]
   clear hX
   generalize hs27:SD.mk _ _=sd27
   revert sd27
   refine wl (fun p:Nat×List Nat=>⟨((((((Trie.leaf.put 28 (intD p.1)).put 27 (intD sy)).put 26 (rowD r)).put 7 (.apl (D.length+1) p.2.length)).put 2 (.ref o5 0 0)).put 0 (rowD cI)),D++[.dead,.app 5 1 (p.2.map byteD)]⟩) (fun p=>p.1≤sy∧p.2=dig 13 c++(((r.take p.1).map fo).map kpart).flatten) (fun p=>sy-p.1) ?_ (0,B0) ⟨Nat.zero_le _,by rw [hB0];simp [-getElem?_pos,-List.map_set,-objBelow,-depV,-q_zeroT_197]⟩
   rintro ⟨k,B⟩ ⟨hk,hB⟩ ih
   simp only at hk hB ih
   rw [loopG_eq]
   have hBl:B.length≤14+14*k:=by
    rw [hB,List.length_append]
    have h1:=dig_len (f:=13) (u:=c)
    have h2:=flat_len (l:=(r.take k).map fo)
    simp only [List.length_map,List.length_take] at h2
    omega
   by_cases hks:k<sy
   case neg=>
    have hk':k=sy:=by omega
    subst hk'
    rw [List.take_of_length_le (by omega),← hkey] at hB
    simp (maxSteps:=2000000) [-getElem?_pos,-List.map_set,-objBelow,-depV,-q_zeroT_197,gp]
    refine ⟨_,B,⟨rfl,rfl⟩,hB,?_⟩
    simp [-getElem?_pos,-List.map_set,-objBelow,-depV,-q_zeroT_197]
   obtain ⟨t,ht⟩:∃ t,r[k]? =some t:=⟨_,List.getElem?_eq_getElem (by omega)⟩
   have hrt:=(hm.rows r (List.mem_of_getElem? hr)).2 t (List.mem_of_getElem? ht)
   have hnx:∀ o,fo t=o→B++kpart o=dig 13 c++(((r.take (k+1)).map fo).map kpart).flatten:=fun o ho=>by
    rw [hB,List.take_add_one,ht];simp [-getElem?_pos,-List.map_set,-objBelow,-depV,-q_zeroT_197,ho]
   have hww:=wrap_succ (show k+1≤9223372036854775807 by omega)
   by_cases hlt:0≤t∧lv[t.toNat]? =some true
   ·obtain ⟨t,rfl⟩:∃ u:Nat,t=u:=⟨t.toNat,by omega⟩
    rw [Int.toNat_natCast] at hlt
    obtain ⟨c2,hc2⟩:∃ c,cl[t]? =some c:=⟨_,List.getElem?_eq_getElem (by omega)⟩
    have hcc2:=hcb c2 (List.mem_of_getElem? hc2)
    have hdl:=dig_len (f:=13) (u:=c2)
    obtain ⟨N2,hN2⟩:∃ N,N=dig 13 c2:=⟨_,rfl⟩
    have hnew:(N2.map byteD).all (okEl 1)=true:=by simp [-getElem?_pos,-List.map_set,-objBelow,-depV,-q_zeroT_197,byteD,okEl_eq,cellsD,oneD,oneF,oneCell]
    have hft:fo t=some c2:=by rw [hfo];simp only;rw [if_pos (by rw [Int.toNat_natCast];exact hlt),Int.toNat_natCast,hc2];rfl
    have happ:apR ((D++[.dead,.app 5 1 (B.map byteD++[.f (.raw (.int .u8 32))]),.arr 1 [.f (.raw (.int .u8 32))]])++[.dead]) D.length (.apl (D.length+1) (B.length+1)) (some ⟨5,1,1,byteD 0⟩) true (some ((dig 13 c2).map byteD))=some (.val (.apl (D.length+1) (B.length+1+N2.length)) (D++[.dead,.app 5 1 (B.map byteD++[.f (.raw (.int .u8 32))]++N2.map byteD),.arr 1 [.f (.raw (.int .u8 32))],.dead])):=by
     rw [← hN2,apR_some,if_pos hnew]
     rw [← hN2] at hdl
     simp [-getElem?_pos,-List.map_set,-objBelow,-depV,-q_zeroT_197,show B.length+1+N2.length≤1099511627776 by omega]
    have h2:=w131 (.apl (D.length+1) (B.length+1)) _ c2 (by omega) D.length (D++[.dead,.app 5 1 (B.map byteD++[.f (.raw (.int .u8 32))]),.arr 1 [.f (.raw (.int .u8 32))]]) _ (by simp [-getElem?_pos,-List.map_set,-objBelow,-depV,-q_zeroT_197]) (by simp [-getElem?_pos,-List.map_set,-objBelow,-depV,-q_zeroT_197,byteD]) (by simp [-getElem?_pos,-List.map_set,-objBelow,-depV,-q_zeroT_197]) happ
    simp only [intD] at h2
    have ih':=ih (k+1,(B++[32])++N2) ⟨by simp only;omega,by simp only;rw [← hnx _ hft,hN2,List.append_assoc];rfl⟩ (by simp only;omega)
    simp (maxSteps:=2000000) [-getElem?_pos,-List.map_set,-objBelow,-depV,-q_zeroT_197] at ih'
    have hc2':=hcg _ _ hc2
    simp (maxSteps:=2000000) [-getElem?_pos,-List.map_set,-objBelow,-depV,-q_zeroT_197,gp,ho5,hks,ht,hc2',h2,g5,gl,hlt.2,show t<m.acc.length by omega,show B.length+1≤1099511627776 by omega,show B.length≤1099511627775 by omega,hww]
    simp only [byteD] at ih'
    rw [show B.length+1+N2.length=B.length+(N2.length+1) by omega]
    exact ih'
   ·have hft:fo t=none:=by rw [hfo];simp only;rw [if_neg hlt]
    have ih':=ih (k+1,B++[32]) ⟨by simp only;omega,by simp only;rw [← hnx _ hft];rfl⟩ (by simp only;omega)
    simp (maxSteps:=2000000) [-getElem?_pos,-List.map_set,-objBelow,-depV,-q_zeroT_197] at ih'
    by_cases ht0:0≤t
    ·obtain ⟨t,rfl⟩:∃ u:Nat,t=u:=⟨t.toNat,by omega⟩
     obtain ⟨b,hbt⟩:∃ b,lv[t]? =some b:=⟨_,List.getElem?_eq_getElem (by omega)⟩
     cases b with
     | true=>exact absurd ⟨ht0,by rw [Int.toNat_natCast];exact hbt⟩ hlt
     | false=>
      simp (maxSteps:=2000000) [-getElem?_pos,-List.map_set,-objBelow,-depV,-q_zeroT_197,gp,ho5,hks,ht,hbt,g5,gl,show t<m.acc.length by omega,show B.length+1≤1099511627776 by omega,show B.length≤1099511627775 by omega,hww]
      exact ih'
    ·simp (maxSteps:=2000000) [-getElem?_pos,-List.map_set,-objBelow,-depV,-q_zeroT_197,gp,ho5,hks,ht,ht0,show B.length+1≤1099511627776 by omega,show B.length≤1099511627775 by omega,hww]
     exact ih'
  clear hX
  have hfin:keyD m lv cl i=rv (strL (B.map UInt8.ofNat)):=by unfold keyD;rw [hB]
  rw [hfin]
  simp (maxSteps:=2000000) [-getElem?_pos,-List.map_set,-objBelow,-depV,-q_zeroT_197,gp,t7,bytes_u8]
  trace_state
end Go.Dv
namespace Go.Dv
open Go Go.Sim Go.Proofs Go.Fsa
attribute [local simp] encI bitF autD b_neqB b_eqlB el_num set_num fz_num numD bitD el_bit set_bit fz_bit normF_strL bl_byte
theorem key9:KeyD Tryz.prog 9 strL:=keyS (by kernel_rfl)
abbrev encB (p:Bool×Bool):Value:=.agg #[.bool p.1,.bool p.2]
theorem key153:KeyD Tryz.prog 153 encB:=by
 refine ⟨fun ks x=>?_⟩
 have hs:∀ k,simple (encB k)=true:=fun ⟨a,b⟩=>by cases a<;>cases b<;>rfl
 have he:∀ k y,keyEq Tryz.prog 153 (encB k) (encB y)=some (decide (k=y)):=fun ⟨a,b⟩ ⟨c,d⟩=>by cases a<;>cases b<;>cases c<;>cases d<;>kernel_rfl
 have h1:∀ k es,findT Tryz.prog 153 (encB k) es=findA Tryz.prog 153 (encB k) es 0:=fun ⟨a,b⟩ es=>by
  cases a<;>cases b<;>kernel_rfl
 rw [h1,findA_map hs he]
 cases List.findIdx? (fun y=>decide (x=y)) ks<;>rfl
theorem w129 (m:Aut) (lv:List Bool) (hlv:lv.length=m.acc.length) (i:Nat) (hi:i<m.acc.length) (o1 om oa on o5 ol:Nat) (x y:DV) (base:Nat) (D:DH) (hM:MachAt D o1 om oa on x y m)
  (h5:D[o5]? =some (.arr 1 [.row ol 0 m.acc.length m.acc.length])) (hl:D[ol]? =some (.arr 1 (lv.map bitD))) :
  ∃ b b',lv[i]? =some b∧m.acc[i]? =some b'∧callD Q 129 [intD i,.ref o5 0 0,.ref o1 0 0] base D=some (.agg [bitD b,bitD b'],D):=by
 obtain ⟨b,hb⟩:∃ b,lv[i]? =some b:=⟨_,List.getElem?_eq_getElem (by omega)⟩
 obtain ⟨b',hb'⟩:∃ b,m.acc[i]? =some b:=⟨_,List.getElem?_eq_getElem hi⟩
 refine ⟨b,b',hb,hb',?_⟩
 rw [call_pure (fn:=Tryz.f129) (show Q.P.funcs[129]? =some Tryz.f129 from Tryz.func129) rfl ann129 rfl (by simp only [List.length_cons,List.length_nil];decide) (by kernel_rfl)]
 have gp:=gp129
 simp only [ann129,Tryz.f129,gpB_some,gpC_draw,gpC_reg,gpC_seq,gpC_cond,gpC_block,gpC_loop,gpC_range,gpC_skip,gpC_ret,gpC_exit,gpC_label,gpO_some,gpO_none,findN,Bool.and_eq_true,Bool.and_true,Bool.true_and,reduceIte,Nat.reduceEqDiff,true_and,and_true] at gp
 have g5:∀ X,(D++X)[o5]? =some (.arr 1 [.row ol 0 m.acc.length m.acc.length]):=fun X=>get_app h5
 have gl:∀ X,(D++X)[ol]? =some (.arr 1 (lv.map bitD)):=fun X=>get_app hl
 have gM:=fun X=>hM.app (X:=X)
 simp (maxSteps:=2000000) [-getElem?_pos,-List.map_set,-objBelow,-depV,-q_zeroT_197,gp,g5,gl,(gM _).1,(gM _).2,(gM _).3,(gM _).4,hb,hb',hi]
 trace_state
theorem w142 (ks:List (List UInt8)) (k:List UInt8) (o base:Nat) (D:DH) (hb:base≤o) (ho:D[o]? =some (.map (ks.map strL) ((idxL ks.length).map numD))) (hn:ks.length<1000000) :
  callD Q 142 [.mp o,rv (strL k)] base D=some (intD (numK ks k),D.set o (.map ((addK ks k).map strL) ((idxL (addK ks k).length).map numD))):=by
 rw [call_raw (fn:=Tryz.f142) (show Q.P.funcs[142]? =some Tryz.f142 from Tryz.func142) rfl ann142 rfl (by simp only [List.length_cons,List.length_nil];decide) (by kernel_rfl)]
 have gp:=gp142
 simp only [ann142,Tryz.f142,gpB_some,gpC_draw,gpC_reg,gpC_seq,gpC_cond,gpC_block,gpC_loop,gpC_range,gpC_skip,gpC_ret,gpC_exit,gpC_label,gpO_some,gpO_none,findN,Bool.and_eq_true,Bool.and_true,Bool.true_and,reduceIte,Nat.reduceEqDiff,true_and,and_true] at gp
 have hol:=ltOf ho
 by_cases hm:k∈ks
 ·have hf:findT Tryz.prog 9 (strL k) (keyEs (ks.map strL))=some (some (numK ks k)):=(key9.find ks k).trans (by rw [find_in hm])
  have hg:(idxL ks.length)[numK ks k]? =some (numK ks k:Int):=idxL_get (numK_lt hm)
  unfold addK
  rw [if_pos hm,set_same ho]
  simp (maxSteps:=2000000) [-getElem?_pos,-List.map_set,-objBelow,-depV,-q_zeroT_197,gp,ho,hf,hg]
  trace_state
 ·have hf:findT Tryz.prog 9 (strL k) (keyEs (ks.map strL))=some none:=(key9.find ks k).trans (by rw [find_out hm])
  unfold addK
  rw [if_neg hm,List.length_append,List.length_cons,List.length_nil,idxL_succ,List.map_append,List.map_append,numK_none hm]
  simp (maxSteps:=2000000) [-getElem?_pos,-List.map_set,-objBelow,-depV,-q_zeroT_197,gp,ho,hf,hb]
  trace_state
end Go.Dv
namespace Go.Dv
open Go Go.Sim Go.Proofs Go.Fsa
attribute [local simp] encI bitF autD b_neqB b_eqlB el_num set_num fz_num numD bitD el_bit set_bit fz_bit normF_strL bl_byte
theorem numAll_snoc {K:Type} [DecidableEq K]:∀ {l ks:List K} {k:K},numAll ks (l++[k])=((numAll ks l).1++[numK (numAll ks l).2 k],addK (numAll ks l).2 k)
 | [],ks,k=>rfl
 | x::l,ks,k=>by simp only [List.cons_append,numAll,numAll_snoc (l:=l)]
theorem take_range {α:Type} {n i:Nat} (h:i<n) {f:Nat→α}:((List.range n).map f).take (i+1)=((List.range n).map f).take i++[f i]:=by
 rw [List.take_add_one,List.getElem?_map,List.getElem?_range h];rfl
theorem numAll_lens {K:Type} [DecidableEq K] {l ks:List K}:(numAll ks l).2.length≤ks.length+l.length:=by
 induction l generalizing ks with
 | nil=>simp [-getElem?_pos,-List.map_set,-objBelow,-depV,-q_zeroT_197,numAll]
 | cons k l ih=>
  have:=ih (ks:=addK ks k)
  have h2:(addK ks k).length≤ks.length+1:=by unfold addK;split<;>simp [-getElem?_pos,-List.map_set,-objBelow,-depV,-q_zeroT_197]
  simp only [numAll,List.length_cons];omega
theorem w128 (n:Nat) (hn:n≤200000) (b:Nat→Bool×Bool) (key:List Nat→Nat→List UInt8) (clF:List Nat) (F0:Nat) (g1 g2:FuncId) (a1 b1 a2 b2:List DV) (base:Nat) (D:DH)
  (ha1:belows D.length a1=true) (hb1:belows D.length b1=true) (ha2:belows D.length a2=true) (hb2:belows D.length b2=true)
  (h1:∀ (X:DH) (i:Nat),i<n→callD Q g1 (a1++[intD i]++b1) D.length (D++X)=some (.agg [bitD (b i).1,bitD (b i).2],D++X))
  (h2:∀ (X:DH) (cl:List Nat) (i:Nat),cl.length=n→(∀ c∈cl,c<n)→i<n→callD Q g2 (a2++[natD cl,intD i]++b2) D.length (D++X)=some (rv (strL (key cl i)),D++X))
  (hF:iter (fun cl=>(List.range n).map (key cl)) F0 (numAll [] ((List.range n).map b)).2.length (numAll [] ((List.range n).map b)).1=some clF) :
  callD Q 128 [intD n,.fn g1 a1 b1,.fn g2 a2 b2] base D=some (natD clF,D):=by
 rw [call_pure (fn:=Tryz.f128) (show Q.P.funcs[128]? =some Tryz.f128 from Tryz.func128) rfl ann128 rfl (by simp only [List.length_cons,List.length_nil];decide) (by kernel_rfl)]
 have gp:=gp128
 simp only [ann128,Tryz.f128,gpB_some,gpC_draw,gpC_reg,gpC_seq,gpC_cond,gpC_block,gpC_loop,gpC_range,gpC_skip,gpC_ret,gpC_exit,gpC_label,gpO_some,gpO_none,findN,Bool.and_eq_true,Bool.and_true,Bool.true_and,reduceIte,Nat.reduceEqDiff,true_and,and_true] at gp
 have hbl:∀ k,belows (D.length+k) a1=true∧belows (D.length+k) b1=true∧belows (D.length+k) a2=true∧belows (D.length+k) b2=true:=fun k=>⟨(below_le (Nat.le_add_right _ _)).2 a1 ha1,(below_le (Nat.le_add_right _ _)).2 b1 hb1,(below_le (Nat.le_add_right _ _)).2 a2 ha2,(below_le (Nat.le_add_right _ _)).2 b2 hb2⟩
 obtain ⟨W0,hW0⟩:∃ L:List Int,L=List.replicate n 0:=⟨_,rfl⟩
 simp (maxSteps:=2000000) [-getElem?_pos,-List.map_set,-objBelow,-depV,-q_zeroT_197,gp,hbl,show n*8≤140737488355328 by omega,show n<9223372036854775808 by omega]
 rw [rep_num,← hW0]
 obtain ⟨K0,hK0⟩:∃ K,K=(List.range n).map b:=⟨_,rfl⟩
 rw [← hK0] at hF
 have hK0l:K0.length=n:=by rw [hK0];simp [-getElem?_pos,-List.map_set,-objBelow,-depV,-q_zeroT_197]
 obtain ⟨C0,hC0⟩:∃ C,C=(numAll [] K0).1.map fun c:Nat=>(c:Int):=⟨_,rfl⟩
 have hC0l:C0.length=n:=by rw [hC0,List.length_map,numAll_len,hK0l]
 generalize hX:loopG _ _ _=X
 obtain ⟨tm,rfl,t0,t2,t7,t8,t9⟩:∃ (tm:Trie DV),X=some (.exit 0,⟨tm,D++[.arr 1 (C0.map numD),.map ((numAll [] K0).2.map encB) ((idxL (numAll [] K0).2.length).map numD)]⟩)∧tm.get 0=some (intD n)∧tm.get 2=some (.fn g2 a2 b2)∧tm.get 7=some (.fn 142 [] [])∧tm.get 8=some (.row D.length 0 n n)∧tm.get 9=some (.mp (D.length+1)):=by
  rw [← hX]
  clear hX hF
  generalize hs28:SD.mk _ _=sd28
  revert sd28
  refine wl (fun p:Nat×List Int×List (Bool×Bool)=>⟨(((((((Trie.leaf.put 22 (intD p.1)).put 21 (intD n)).put 9 (.mp (D.length+1))).put 8 (.row D.length 0 n n)).put 7 (.fn 142 [] [])).put 2 (.fn g2 a2 b2)).put 1 (.fn g1 a1 b1)).put 0 (intD n),D++[.arr 1 (p.2.1.map numD),.map (p.2.2.map encB) ((idxL p.2.2.length).map numD)]⟩) (fun p=>p.1≤n∧p.2.1.length=n∧p.2.1.take p.1=((numAll [] (K0.take p.1)).1.map fun c:Nat=>(c:Int))∧p.2.2=(numAll [] (K0.take p.1)).2) (fun p=>n-p.1) ?_ (0,W0,[]) ⟨Nat.zero_le _,by simp [-getElem?_pos,-List.map_set,-objBelow,-depV,-q_zeroT_197,hW0],rfl,rfl⟩
  rintro ⟨i,W,ks⟩ ⟨hi,hWl,hW,hks⟩ ih
  simp only at hi hWl hW hks ih
  rw [loopG_eq]
  by_cases hlt:i<n
  case neg=>
   have hi':i=n:=by omega
   subst hi'
   rw [List.take_of_length_le (by omega),List.take_of_length_le (by omega)] at hW
   rw [List.take_of_length_le (by omega)] at hks
   rw [← hC0] at hW
   subst hW hks
   simp (maxSteps:=2000000) [-getElem?_pos,-List.map_set,-objBelow,-depV,-q_zeroT_197,gp]
  obtain ⟨w0,hw0⟩:∃ x,W[i]? =some x:=⟨_,List.getElem?_eq_getElem (by omega)⟩
  have hset:∀ v,(W.set i v).take (i+1)=W.take i++[v]:=fun v=>by
   rw [List.take_add_one,List.take_set_of_le (Nat.le_refl _),List.getElem?_set_self (by omega)];rfl
  have hww:=wrap_succ (show i+1≤9223372036854775807 by omega)
  have h1':=fun X=>h1 X i hlt
  simp only [intD,bitD,List.append_assoc,List.cons_append,List.nil_append] at h1'
  have hKt:K0.take (i+1)=K0.take i++[b i]:=by rw [hK0];exact take_range hlt
  have hksl:ks.length≤i:=by
   rw [hks]
   have:=numAll_lens (ks:=[]) (l:=K0.take i)
   simp only [List.length_nil,List.length_take] at this;omega
  have hfnd:=key153.find ks (b i)
  simp only [encB] at hfnd
  by_cases hm:b i∈ks
  ·rw [find_in hm] at hfnd
   obtain ⟨c,hc⟩:∃ c,c=numK ks (b i):=⟨_,rfl⟩
   have hcl:c<ks.length:=by rw [hc];exact numK_lt hm
   rw [← hc] at hfnd
   have hg:=idxL_get hcl
   have ih':=ih (i+1,W.set i (c:Int),ks) ⟨by simp only;omega,by simp only [List.length_set];exact hWl,by simp only;rw [hset,hKt,numAll_snoc,hW,List.map_append,← hks,hc];rfl,by simp only;rw [hKt,numAll_snoc,← hks];unfold addK;rw [if_pos hm]⟩ (by simp only;omega)
   simp (maxSteps:=2000000) [-getElem?_pos,-List.map_set,-objBelow,-depV,-q_zeroT_197] at ih'
   simp (maxSteps:=2000000) [-getElem?_pos,-List.map_set,-objBelow,-depV,-q_zeroT_197,gp,hbl,h1',hlt,hw0,hWl,hww,hfnd,hg]
   exact ih'
  ·rw [find_out hm] at hfnd
   have ih':=ih (i+1,W.set i (ks.length:Int),ks++[b i]) ⟨by simp only;omega,by simp only [List.length_set];exact hWl,by simp only;rw [hset,hKt,numAll_snoc,hW,List.map_append,← hks,numK_none hm];rfl,by simp only;rw [hKt,numAll_snoc,← hks];unfold addK;rw [if_neg hm]⟩ (by simp only;omega)
   simp only [List.length_append,List.length_cons,List.length_nil,idxL_succ] at ih'
   simp (maxSteps:=2000000) [-getElem?_pos,-List.map_set,-objBelow,-depV,-q_zeroT_197] at ih'
   simp (maxSteps:=2000000) [-getElem?_pos,-List.map_set,-objBelow,-depV,-q_zeroT_197,gp,hbl,h1',hlt,hw0,hWl,hww,hfnd]
   exact ih'
 clear hX
 obtain ⟨OM,hOM⟩:∃ O,O=DObj.map ((numAll [] K0).2.map encB) ((idxL (numAll [] K0).2.length).map numD):=⟨_,rfl⟩
 have hOMl:lnM (some OM)=some (rv (natV (numAll [] K0).2.length)):=by rw [hOM,lnM_map,List.length_map]
 have hOMb:∀ k,objBelow (D.length+k) OM=true:=fun k=>by rw [hOM];simp [-getElem?_pos,-List.map_set,-objBelow,-depV,-q_zeroT_197]
 have htk:List.take n (C0.map numD)=C0.map numD:=List.take_of_length_le (by simp [-getElem?_pos,-List.map_set,-objBelow,-depV,-q_zeroT_197,hC0l])
 have hc0:∀ c∈(numAll [] K0).1,c<n:=fun c hc=>by
  obtain ⟨i,hi,rfl⟩:=List.getElem_of_mem hc
  have h:=numAll_lt (l:=K0) (i:=i) (a:=(numAll [] K0).1[i]) (List.getElem?_eq_getElem hi)
  have:=numAll_lens (ks:=[]) (l:=K0)
  simp only [List.length_nil] at this;omega
 rw [← hOM]
 obtain ⟨c0,hcc0⟩:∃ c,c=(numAll [] K0).1:=⟨_,rfl⟩
 rw [← hcc0] at hF hc0 hC0
 have hc0l:c0.length=n:=by rw [hcc0,numAll_len,hK0l]
 obtain ⟨cn0,hcn0⟩:∃ c,c=(numAll [] K0).2.length:=⟨_,rfl⟩
 rw [← hcn0] at hF hOMl
 simp (maxSteps:=2000000) [-getElem?_pos,-List.map_set,-objBelow,-depV,-q_zeroT_197,gp,hbl,hOMb,t0,t2,t7,t8,t9,hC0l,htk,hOMl]
 clear t0 t2 t7 t8 t9 tm hOM
 generalize hX:loopG _ _ _=X
 obtain ⟨tm,E,rfl,t6⟩:∃ (tm:Trie DV) (E:DH),X=some (.ret,⟨tm,D++E⟩)∧tm.get 6=some (natD clF):=by
  rw [← hX]
  clear hX
  generalize hs29:SD.mk _ _=sd29
  revert sd29
  refine wl (fun p:Nat×Nat×List Nat×List Int=>⟨((((Trie.leaf.put 14 (intD p.2.1)).put 8 (rowD p.2.2.2)).put 7 (.fn 142 [] [])).put 2 (.fn g2 a2 b2)).put 0 (intD n),D++[.dead,OM]⟩) (fun p=>p.2.2.1.length=n∧(∀ c∈p.2.2.1,c<n)∧p.2.2.2=(p.2.2.1.map fun c:Nat=>(c:Int))∧iter (fun cl=>(List.range n).map (key cl)) p.1 p.2.1 p.2.2.1=some clF) (fun p=>p.1) ?_ (F0,cn0,c0,C0) ⟨hc0l,hc0,hC0,hF⟩
  clear hF hC0l htk hc0 hC0
  rintro ⟨F,cnt,cl,cI⟩ ⟨hcl,hcb,hcI,hF⟩ ihM
  simp only at hcl hcb hcI hF ihM
  rw [loopG_eq]
  obtain ⟨F,rfl⟩:∃ F',F=F'+1:=by
   cases F with
   | zero=>simp [-getElem?_pos,-List.map_set,-objBelow,-depV,-q_zeroT_197,iter] at hF
   | succ F=>exact ⟨F,rfl⟩
  simp only [iter] at hF
  obtain ⟨Kc,hKc⟩:∃ K,K=(List.range n).map (key cl):=⟨_,rfl⟩
  rw [← hKc] at hF
  have hKl:Kc.length=n:=by rw [hKc];simp [-getElem?_pos,-List.map_set,-objBelow,-depV,-q_zeroT_197]
  obtain ⟨W0,hW0⟩:∃ L:List Int,L=List.replicate n 0:=⟨_,rfl⟩
  simp (maxSteps:=2000000) [-getElem?_pos,-List.map_set,-objBelow,-depV,-q_zeroT_197,gp,hbl,hOMb,show n*8≤140737488355328 by omega,show n<9223372036854775808 by omega]
  rw [rep_num,← hW0]
  obtain ⟨C1,hC1⟩:∃ C,C=(numAll [] Kc).1.map fun c:Nat=>(c:Int):=⟨_,rfl⟩
  have hC1l:C1.length=n:=by rw [hC1,List.length_map,numAll_len,hKl]
  generalize hX:loopG _ _ _=X
  obtain ⟨tm,ks,rfl,hks,t0,t2,t7,t14,t15,t16⟩:∃ (tm:Trie DV) (ks:List (List UInt8)),X=some (.exit 4,⟨tm,D++[.dead,OM,.arr 1 (C1.map numD),.map (ks.map strL) ((idxL ks.length).map numD)]⟩)∧ks=(numAll [] Kc).2∧tm.get 0=some (intD n)∧tm.get 2=some (.fn g2 a2 b2)∧tm.get 7=some (.fn 142 [] [])∧tm.get 14=some (intD cnt)∧tm.get 15=some (.row (D.length+2) 0 n n)∧tm.get 16=some (.mp (D.length+3)):=by
   rw [← hX]
   clear hX hF ihM
   generalize hs30:SD.mk _ _=sd30
   revert sd30
   refine wl (fun p:Nat×List Int×List (List UInt8)=>⟨((((((((Trie.leaf.put 52 (intD p.1)).put 51 (intD n)).put 16 (.mp (D.length+3))).put 15 (.row (D.length+2) 0 n n)).put 14 (intD cnt)).put 8 (rowD cI)).put 7 (.fn 142 [] [])).put 2 (.fn g2 a2 b2)).put 0 (intD n),D++[.dead,OM,.arr 1 (p.2.1.map numD),.map (p.2.2.map strL) ((idxL p.2.2.length).map numD)]⟩) (fun p=>p.1≤n∧p.2.1.length=n∧p.2.1.take p.1=((numAll [] (Kc.take p.1)).1.map fun c:Nat=>(c:Int))∧p.2.2=(numAll [] (Kc.take p.1)).2) (fun p=>n-p.1) ?_ (0,W0,[]) ⟨Nat.zero_le _,by simp [-getElem?_pos,-List.map_set,-objBelow,-depV,-q_zeroT_197,hW0],rfl,rfl⟩
   rintro ⟨i,W,ks⟩ ⟨hi,hWl,hW,hks⟩ ih
   simp only at hi hWl hW hks ih
   rw [loopG_eq]
   by_cases hlt:i<n
   case neg=>
    have hi':i=n:=by omega
    subst hi'
    rw [List.take_of_length_le (by omega),List.take_of_length_le (by omega)] at hW
    rw [List.take_of_length_le (by omega)] at hks
    rw [← hC1] at hW
    subst hW
    simp (maxSteps:=2000000) [-getElem?_pos,-List.map_set,-objBelow,-depV,-q_zeroT_197,gp]
    refine ⟨_,ks,⟨rfl,rfl,rfl⟩,hks,?_⟩
    simp [-getElem?_pos,-List.map_set,-objBelow,-depV,-q_zeroT_197]
   obtain ⟨w0,hw0⟩:∃ x,W[i]? =some x:=⟨_,List.getElem?_eq_getElem (by omega)⟩
   have hset:∀ v,(W.set i v).take (i+1)=W.take i++[v]:=fun v=>by
    rw [List.take_add_one,List.take_set_of_le (Nat.le_refl _),List.getElem?_set_self (by omega)];rfl
   have hww:=wrap_succ (show i+1≤9223372036854775807 by omega)
   have h2':=fun X=>h2 X cl i hcl hcb hlt
   unfold natD at h2'
   rw [← hcI] at h2'
   simp only [intD,rowD,rowF,List.append_assoc,List.cons_append,List.nil_append] at h2'
   have hKt:Kc.take (i+1)=Kc.take i++[key cl i]:=by rw [hKc];exact take_range hlt
   have hksl:ks.length≤i:=by
    rw [hks]
    have:=numAll_lens (ks:=[]) (l:=Kc.take i)
    simp only [List.length_nil,List.length_take] at this;omega
   have h142:=w142 ks (key cl i) (D.length+3) D.length (D++[.dead,OM,.arr 1 (W.map numD),.map (ks.map strL) ((idxL ks.length).map numD)]) (by omega) (by simp [-getElem?_pos,-List.map_set,-objBelow,-depV,-q_zeroT_197]) (by omega)
   simp only [intD] at h142
   obtain ⟨k2,hk2⟩:∃ K,K=addK ks (key cl i):=⟨_,rfl⟩
   obtain ⟨c,hc⟩:∃ c,c=numK ks (key cl i):=⟨_,rfl⟩
   rw [← hk2,← hc] at h142
   have ih':=ih (i+1,W.set i (c:Int),k2) ⟨by simp only;omega,by simp only [List.length_set];exact hWl,by simp only;rw [hset,hKt,numAll_snoc,hW,List.map_append,← hks,hc];rfl,by simp only;rw [hKt,numAll_snoc,← hks];exact hk2⟩ (by simp only;omega)
   simp (maxSteps:=2000000) [-getElem?_pos,-List.map_set,-objBelow,-depV,-q_zeroT_197] at ih'
   simp (maxSteps:=2000000) [-getElem?_pos,-List.map_set,-objBelow,-depV,-q_zeroT_197,gp,hbl,hOMb,h2',h142,hlt,hw0,hWl,hww]
   exact ih'
  clear hX
  have htk:List.take n (C1.map numD)=C1.map numD:=List.take_of_length_le (by simp [-getElem?_pos,-List.map_set,-objBelow,-depV,-q_zeroT_197,hC1l])
  have hksl:=congrArg List.length hks
  rw [← hksl] at hF
  by_cases he:ks.length=cnt
  ·rw [if_pos he,Option.some.injEq] at hF
   subst hF
   unfold natD
   rw [← hC1]
   simp (maxSteps:=2000000) [-getElem?_pos,-List.map_set,-objBelow,-depV,-q_zeroT_197,gp,hbl,hOMb,t0,t2,t7,t14,t15,t16,htk,hC1l,he]
  ·rw [if_neg he] at hF
   have ih':=ihM (F,ks.length,(numAll [] Kc).1,C1) ⟨by simp only;rw [numAll_len,hKl],fun c hc=>by
    simp only at hc
    obtain ⟨i,hi,rfl⟩:=List.getElem_of_mem hc
    have h:=numAll_lt (l:=Kc) (i:=i) (a:=(numAll [] Kc).1[i]) (List.getElem?_eq_getElem hi)
    have:=numAll_lens (ks:=[]) (l:=Kc)
    simp only [List.length_nil] at this;omega,hC1,hF⟩ (by simp only;omega)
   simp (maxSteps:=2000000) [-getElem?_pos,-List.map_set,-objBelow,-depV,-q_zeroT_197] at ih'
   simp (maxSteps:=2000000) [-getElem?_pos,-List.map_set,-objBelow,-depV,-q_zeroT_197,gp,hbl,hOMb,t0,t2,t7,t14,t15,t16,htk,hC1l,he]
   exact ih'
 simp (maxSteps:=2000000) [-getElem?_pos,-List.map_set,-objBelow,-depV,-q_zeroT_197,gp,t6,natD]
end Go.Dv
namespace Go.Dv
open Go Go.Sim Go.Proofs Go.Fsa
attribute [local simp] encI bitF autD b_neqB b_eqlB el_num set_num fz_num numD bitD el_bit set_bit fz_bit normF_strL bl_byte
def aplsD (o:Nat) (B:List (List Int)):List DV:=(List.range B.length).map fun i=>.apl (o+(i+1)) ((B[i]?).getD []).length
def appsD (B:List (List Int)):DH:=B.map fun l=>.app 3 1 (l.map numD)
theorem apls_len {o:Nat} {B:List (List Int)}:(aplsD o B).length=B.length:=by simp [-getElem?_pos,-List.map_set,-objBelow,-depV,-q_zeroT_197,aplsD]
theorem apps_len {B:List (List Int)}:(appsD B).length=B.length:=by simp [-getElem?_pos,-List.map_set,-objBelow,-depV,-q_zeroT_197,appsD]
theorem apls_get {o i:Nat} {B:List (List Int)} {l:List Int} (h:B[i]? =some l):(aplsD o B)[i]? =some (.apl (o+(i+1)) l.length):=by
 unfold aplsD
 rw [List.getElem?_map,List.getElem?_range (lt_of_get h),Option.map_some,h];rfl
theorem apps_get {i:Nat} {B:List (List Int)} {l:List Int} (h:B[i]? =some l):(appsD B)[i]? =some (.app 3 1 (l.map numD)):=by
 unfold appsD
 rw [List.getElem?_map,h];rfl
theorem apls_set {o i:Nat} {B:List (List Int)} {l:List Int} (h:i<B.length):(aplsD o B).set i (.apl (o+(i+1)) l.length)=aplsD o (B.set i l):=by
 refine List.ext_getElem? fun j=>?_
 rw [List.getElem?_set]
 unfold aplsD
 rw [List.length_set,List.length_map,List.length_range,List.getElem?_map,List.getElem?_map]
 split
 ·rename_i e
  subst e
  rw [List.getElem?_range h,Option.map_some,List.getElem?_set_self h]
  try rw [if_pos h]
  rfl
 ·rename_i e
  rcases Nat.lt_or_ge j B.length with g | g
  ·rw [List.getElem?_range g,Option.map_some,Option.map_some,List.getElem?_set_ne e]
  ·rw [List.getElem?_eq_none (by simpa [-getElem?_pos,-List.map_set,-objBelow,-depV,-q_zeroT_197] using g)];rfl
theorem apps_set {i:Nat} {B:List (List Int)} {l:List Int}:(appsD B).set i (.app 3 1 (l.map numD))=appsD (B.set i l):=by
 unfold appsD
 exact set_map (f:=fun l:List Int=>DObj.app 3 1 (l.map numD))
theorem frzL_of {g:DV→Option (FV×List Nat)}:∀ {l:List DV} {xs:List FV},xs.length=l.length→(∀ (i:Nat) d x,l[i]? =some d→xs[i]? =some x→∃ is,g d=some (x,is))→∃ is,frzL g l=some (xs,is)
 | [],[],_,_=>⟨[],rfl⟩
 | [],_::_,h,_=>by simp [-getElem?_pos,-List.map_set,-objBelow,-depV,-q_zeroT_197] at h
 | _::_,[],h,_=>by simp [-getElem?_pos,-List.map_set,-objBelow,-depV,-q_zeroT_197] at h
 | d::l,x::xs,h,k=>by
  obtain ⟨i1,e1⟩:=k 0 d x rfl rfl
  obtain ⟨i2,e2⟩:=frzL_of (l:=l) (xs:=xs) (by simpa [-getElem?_pos,-List.map_set,-objBelow,-depV,-q_zeroT_197] using h) fun i d x h1 h2=>k (i+1) d x (by simpa [-getElem?_pos,-List.map_set,-objBelow,-depV,-q_zeroT_197] using h1) (by simpa [-getElem?_pos,-List.map_set,-objBelow,-depV,-q_zeroT_197] using h2)
  exact ⟨i1++i2,by simp only [frzL,e1,e2]⟩
theorem bls_apls {o L:Nat} {B:List (List Int)} (h:o+B.length<L):(aplsD o B).all (below L)=true:=by
 unfold aplsD
 rw [List.all_map,List.all_eq_true]
 intro i hi
 rw [List.mem_range] at hi
 show below L (.apl _ _)=true
 rw [bl_apl,decide_eq_true_eq];omega
theorem bls_apps {L:Nat} {B:List (List Int)}:(appsD B).all (objBelow L)=true:=by
 unfold appsD
 rw [List.all_map,List.all_eq_true]
 intro l hl
 show objBelow L (.app _ _ _)=true
 rw [ob_app];simp [-getElem?_pos,-List.map_set,-objBelow,-depV,-q_zeroT_197]
theorem w141 (m:Aut) (hm:m.fine) (hsy:m.sy≤400) (hn:m.acc.length≤200000) (om oa on:Nat) (x y:DV) (base:Nat) (D:DH)
  (h2:D[om]? =some (.arr 5 [.agg [intD m.sy,.apl oa m.acc.length,.apl on m.acc.length,x,y]])) (h3:D[oa]? =some (.app 4 1 (m.acc.map bitD))) (h4:D[on]? =some (.app 26 1 (m.nxt.map rowD))) :
  callD Q 141 [.ref om 0 0] base D=some (.f (.lst ((backAll 0 m.nxt (List.replicate m.acc.length [])).map rowF)),D):=by
 rw [call_pure (fn:=Tryz.f141) (show Q.P.funcs[141]? =some Tryz.f141 from Tryz.func141) rfl ann141 rfl (by simp only [List.length_cons,List.length_nil];decide) (by kernel_rfl)]
 have gp:=gp141
 simp only [ann141,Tryz.f141,gpB_some,gpC_draw,gpC_reg,gpC_seq,gpC_cond,gpC_block,gpC_loop,gpC_range,gpC_skip,gpC_ret,gpC_exit,gpC_label,gpO_some,gpO_none,findN,Bool.and_eq_true,Bool.and_true,Bool.true_and,reduceIte,Nat.reduceEqDiff,true_and,and_true] at gp
 have hlen:=hm.len
 have g2:∀ X,(D++X)[om]? =some (.arr 5 [.agg [intD m.sy,.apl oa m.acc.length,.apl on m.acc.length,x,y]]):=fun X=>get_app h2
 have g3:∀ X,(D++X)[oa]? =some (.app 4 1 (m.acc.map bitD)):=fun X=>get_app h3
 have g4:∀ X,(D++X)[on]? =some (.app 26 1 (m.nxt.map rowD)):=fun X=>get_app h4
 obtain ⟨n,hnn⟩:∃ n,n=m.acc.length:=⟨_,rfl⟩
 rw [← hnn] at hn hlen h2 g2 ⊢
 have hacc:(m.acc.map bitD).length=n:=by rw [List.length_map,hnn]
 obtain ⟨A,hA⟩:∃ A,A=m.acc.map bitD:=⟨_,rfl⟩
 rw [← hA] at h3 g3 hacc
 have hin1:(fun i=>DV.apl (D.length+1+i) 0)=fun i=>DV.apl (D.length+(i+1)) 0:=by funext i;rw [show D.length+1+i=D.length+(i+1) by omega]
 have hin2:(List.range n).map (fun i=>DV.apl (D.length+(i+1)) 0)=aplsD D.length (List.replicate n []):=by
  unfold aplsD
  rw [List.length_replicate]
  refine List.map_congr_left fun i hi=>?_
  rw [List.mem_range] at hi
  rw [List.getElem?_replicate,if_pos hi];rfl
 have hin3:List.replicate n (DObj.app 3 1 [])=appsD (List.replicate n []):=by unfold appsD;rw [List.map_replicate];rfl
 have hon:∀ k,on<D.length+k:=fun k=>by have:=ltOf h4;omega
 obtain ⟨sy,hsy'⟩:∃ s,s=m.sy.toNat:=⟨_,rfl⟩
 obtain ⟨B0,hB0⟩:∃ B:List (List Int),B=List.replicate n []:=⟨_,rfl⟩
 have hB0l:B0.length=n:=by rw [hB0];simp [-getElem?_pos,-List.map_set,-objBelow,-depV,-q_zeroT_197]
 rw [← hB0] at hin2 hin3
 have hap:∀ B:List (List Int),B.length=n→(appsD B).length=n:=fun B h=>by rw [apps_len,h]
 have hapt:∀ B:List (List Int),B.length=n→(appsD B).take n=appsD B:=fun B h=>List.take_of_length_le (by rw [apps_len,h];exact Nat.le_refl _)
 have hc1:∀ (B:List (List Int)),B.length=n→∀ x,x∈aplsD D.length B→below (D.length+(n+1)) x=true:=fun B h=>List.all_eq_true.1 (bls_apls (by omega))
 have hc2:∀ (B:List (List Int)),∀ x,x∈appsD B→objBelow (D.length+(n+1)) x=true:=fun B=>List.all_eq_true.1 bls_apps
 simp (maxSteps:=2000000) [-getElem?_pos,-List.map_set,-objBelow,-depV,-q_zeroT_197,gp,g2,g3,g4,h2,h3,h4,hacc,hlen,hin1,hin2,hin3,hap _ hB0l,hapt _ hB0l,show n*24≤140737488355328 by omega,show n<9223372036854775808 by omega]
 rw [if_pos ⟨hon _,hc1 _ hB0l,hc2 _⟩]
 generalize hX:loopG _ _ _=X
 obtain ⟨tm,B,rfl,⟨hBl,hB⟩,t3⟩:∃ (tm:Trie DV) (B:List (List Int)),X=some (.exit 0,⟨tm,D++.arr 1 (aplsD D.length B)::appsD B⟩)∧(B.length=n∧B=backAll 0 m.nxt B0)∧tm.get 3=some (.row D.length 0 n n):=by
  rw [← hX]
  clear hX
  generalize hs31:SD.mk _ _=sd31
  revert sd31
  refine wl (fun p:Nat×List (List Int)=>⟨(((Trie.leaf.put 19 (intD p.1)).put 18 (intD n)).put 17 (.apl on n)).put 3 (.row D.length 0 n n),D++.arr 1 (aplsD D.length p.2)::appsD p.2⟩) (fun p=>p.1≤n∧p.2.length=n∧(∀ u,(at_ p.2 u).length≤p.1*sy)∧backAll p.1 (m.nxt.drop p.1) p.2=backAll 0 m.nxt B0) (fun p=>n-p.1) ?_ (0,B0) ⟨Nat.zero_le _,hB0l,fun u=>by rw [hB0];unfold at_;rw [List.getElem?_replicate];split<;>simp [-getElem?_pos,-List.map_set,-objBelow,-depV,-q_zeroT_197],rfl⟩
  rintro ⟨i,B⟩ ⟨hi,hBl,hBa,hB⟩ ih
  simp only at hi hBl hBa hB ih
  rw [loopG_eq]
  by_cases hlt:i<n
  case neg=>
   rw [List.drop_of_length_le (by omega)] at hB
   simp (maxSteps:=2000000) [-getElem?_pos,-List.map_set,-objBelow,-depV,-q_zeroT_197,gp,hlt]
   exact ⟨_,B,⟨rfl,rfl,rfl⟩,⟨hBl,hB⟩,by simp [-getElem?_pos,-List.map_set,-objBelow,-depV,-q_zeroT_197]⟩
  obtain ⟨r,hr⟩:∃ r,m.nxt[i]? =some r:=⟨_,List.getElem?_eq_getElem (by omega)⟩
  have hrl:=(hm.rows r (List.mem_of_getElem? hr)).1
  have hrt:=(hm.rows r (List.mem_of_getElem? hr)).2
  rw [← hnn] at hrt
  have hdr:m.nxt.drop i=r::m.nxt.drop (i+1):=by
   rw [List.drop_eq_getElem_cons (by omega)]
   rw [List.getElem?_eq_getElem (by omega),Option.some.injEq] at hr
   rw [hr]
  rw [hdr] at hB
  simp only [backAll] at hB
  simp (maxSteps:=2000000) [-getElem?_pos,-List.map_set,-objBelow,-depV,-q_zeroT_197,gp,hlt,g4,hr,hlen,hap _ hBl,hapt _ hBl]
  rw [if_pos ⟨hon _,hc1 _ hBl,hc2 _⟩]
  have hrl':r.length=sy:=by omega
  have hisy:i*sy≤80000000:=Nat.le_trans (Nat.mul_le_mul (show i≤200000 by omega) (show sy≤400 by omega)) (by decide)
  generalize hX:loopG _ _ _=X
  obtain ⟨tm,B1,rfl,⟨hB1l,hB1⟩,t3,t17,t18,t19⟩:∃ (tm:Trie DV) (B1:List (List Int)),X=some (.exit 2,⟨tm,D++.arr 1 (aplsD D.length B1)::appsD B1⟩)∧(B1.length=n∧B1=backRow i r B)∧tm.get 3=some (.row D.length 0 n n)∧tm.get 17=some (.apl on n)∧tm.get 18=some (intD n)∧tm.get 19=some (intD i):=by
   rw [← hX]
   clear hX ih hB
   generalize hs32:SD.mk _ _=sd32
   revert sd32
   refine wl (fun p:Nat×List (List Int)=>⟨(((((((Trie.leaf.put 26 (intD p.1)).put 25 (intD r.length)).put 24 (rowD r)).put 19 (intD i)).put 18 (intD n)).put 17 (.apl on n)).put 4 (intD i)).put 3 (.row D.length 0 n n),D++.arr 1 (aplsD D.length p.2)::appsD p.2⟩) (fun p=>p.1≤sy∧p.2.length=n∧(∀ u,(at_ p.2 u).length≤i*sy+p.1)∧backRow i (r.drop p.1) p.2=backRow i r B) (fun p=>sy-p.1) ?_ (0,B) ⟨Nat.zero_le _,hBl,hBa,rfl⟩
   clear hBa hBl
   rintro ⟨k,B⟩ ⟨hk,hBl,hBa,hB⟩ ih
   simp only at hk hBl hBa hB ih
   rw [loopG_eq]
   by_cases hks:k<sy
   case neg=>
    rw [List.drop_of_length_le (by omega)] at hB
    simp (maxSteps:=2000000) [-getElem?_pos,-List.map_set,-objBelow,-depV,-q_zeroT_197,gp,hrl',hks]
    exact ⟨_,B,⟨rfl,rfl,rfl⟩,⟨hBl,hB⟩,by simp [-getElem?_pos,-List.map_set,-objBelow,-depV,-q_zeroT_197]⟩
   obtain ⟨t,ht⟩:∃ t,r[k]? =some t:=⟨_,List.getElem?_eq_getElem (by omega)⟩
   have htr:=hrt t (List.mem_of_getElem? ht)
   have hdr:r.drop k=t::r.drop (k+1):=by
    rw [List.drop_eq_getElem_cons (by omega)]
    rw [List.getElem?_eq_getElem (by omega),Option.some.injEq] at ht
    rw [ht]
   rw [hdr] at hB
   have hww:=wrap_succ (show k+1≤9223372036854775807 by omega)
   have ih':=ih (k+1,pushAt i B t) ⟨by simp only;omega,by simp only;rw [pushAt_len];exact hBl,fun u=>by
    have:=pushAt_at (s:=i) (u:=t) (B:=B) (t:=u)
    have:=hBa u
    simp only;omega,hB⟩ (by simp only;omega)
   by_cases ht0:0≤t
   ·obtain ⟨u,rfl⟩:∃ u:Nat,t=u:=⟨t.toNat,by omega⟩
    obtain ⟨l,hl⟩:∃ l,B[u]? =some l:=⟨_,List.getElem?_eq_getElem (by omega)⟩
    have hll:l.length≤i*sy+k:=by have:=hBa u;unfold at_ at this;rw [hl] at this;exact this
    have hpu:pushAt i B u=B.set u (l++[(i:Int)]):=by unfold pushAt;rw [if_pos (by omega),Int.toNat_natCast,hl];rfl
    rw [hpu] at ih'
    simp (maxSteps:=2000000) [-getElem?_pos,-List.map_set,-objBelow,-depV,-q_zeroT_197] at ih'
    have ha1:=apls_get (o:=D.length) hl
    have ha2:∀ Y,(appsD B++Y)[u]? =some (.app 3 1 (l.map numD)):=fun Y=>get_app (apps_get hl)
    have ha3:∀ x:DObj,(appsD B++[x])[n]? =some x:=fun x=>by
     have:=get_snoc_len (l:=appsD B) (x:=x)
     rw [hap _ hBl] at this;exact this
    have ha4:∀ (Y:DH) (x:DObj),(appsD B++Y).set u x=(appsD B).set u x++Y:=fun Y x=>List.set_append_left _ _ (by rw [hap _ hBl];omega)
    have ha5:(appsD B).set u (.app 3 1 (l.map numD++[.f (.raw (.int .i64 (i:Nat)))]))=appsD (B.set u (l++[(i:Int)])):=by
     rw [← apps_set];simp [-getElem?_pos,-List.map_set,-objBelow,-depV,-q_zeroT_197]
    have ha6:(aplsD D.length B).set u (.apl (D.length+(u+1)) (l.length+1))=aplsD D.length (B.set u (l++[(i:Int)])):=by
     rw [← apls_set (by omega)];simp [-getElem?_pos,-List.map_set,-objBelow,-depV,-q_zeroT_197]
    have hBl2:(B.set u (l++[(i:Int)])).length=n:=by rw [List.length_set];exact hBl
    simp (maxSteps:=2000000) [-getElem?_pos,-List.map_set,-objBelow,-depV,-q_zeroT_197,gp,hrl',hks,ht,ha1,ha2,ha3,ha4,ha5,ha6,hap _ hBl,hap _ hBl2,hapt _ hBl2,show u<n by omega,show l.length+1≤1099511627776 by omega,show l.length≤1099511627775 by omega,show (l.length+1)*8≤1099511627776 by omega,hww]
    rw [if_pos ⟨hon _,hc1 _ hBl2,hc2 _⟩]
    simp only [hrl'] at ih'
    exact ih'
   ·have hpu:pushAt i B t=B:=by unfold pushAt;rw [if_neg ht0]
    rw [hpu] at ih'
    simp (maxSteps:=2000000) [-getElem?_pos,-List.map_set,-objBelow,-depV,-q_zeroT_197] at ih'
    simp (maxSteps:=2000000) [-getElem?_pos,-List.map_set,-objBelow,-depV,-q_zeroT_197,gp,hrl',hks,ht,ht0,hap _ hBl,hapt _ hBl,hww]
    rw [if_pos ⟨hon _,hc1 _ hBl,hc2 _⟩]
    simp only [hrl'] at ih'
    exact ih'
  clear hX
  have ih':=ih (i+1,B1) ⟨by simp only;omega,hB1l,fun u=>by
   have h1:=backRow_at (s:=(i:Int)) (r:=r) (B:=B) (t:=u)
   have h2:=hBa u
   rw [← hB1] at h1
   simp only
   rw [Nat.succ_mul];omega,by simp only;rw [hB1];exact hB⟩ (by simp only;omega)
  simp (maxSteps:=2000000) [-getElem?_pos,-List.map_set,-objBelow,-depV,-q_zeroT_197] at ih'
  simp (maxSteps:=2000000) [-getElem?_pos,-List.map_set,-objBelow,-depV,-q_zeroT_197,gp,t3,t17,t18,t19,hap _ hB1l,hapt _ hB1l,wrap_succ (show i+1≤9223372036854775807 by omega)]
  rw [if_pos ⟨hon _,hc1 _ hB1l,hc2 _⟩]
  exact ih'
 clear hX
 have hfz:∃ is,frzL (frz D.length (D++.arr 1 (aplsD D.length B)::appsD B) 3) (aplsD D.length B)=some (B.map rowF,is):=by
  refine frzL_of (by rw [apls_len,List.length_map]) fun j d x hd hx=>?_
  rw [List.getElem?_map] at hx
  obtain ⟨l,hl,rfl⟩:=Option.map_eq_some_iff.1 hx
  rw [apls_get hl,Option.some.injEq] at hd
  subst hd
  refine ⟨[D.length+(j+1)],?_⟩
  simp only [frz]
  rw [app_get,List.getElem?_cons_succ,apps_get hl]
  simp only
  rw [if_pos ⟨by omega,by simp [-getElem?_pos,-List.map_set,-objBelow,-depV,-q_zeroT_197],by omega⟩,fz_num]
  simp [-getElem?_pos,-List.map_set,-objBelow,-depV,-q_zeroT_197,rowF]
 obtain ⟨is,hfz⟩:=hfz
 have htk:List.take n (aplsD D.length B)=aplsD D.length B:=List.take_of_length_le (by rw [apls_len];omega)
 rw [← hB0,← hB]
 simp (maxSteps:=2000000) [-getElem?_pos,-List.map_set,-objBelow,-depV,-q_zeroT_197,gp,t3,htk,hfz,apls_len,hBl]
 trace_state
end Go.Dv
namespace Go.Dv
open Go Go.Sim Go.Proofs Go.Fsa
attribute [local simp] encI bitF autD b_neqB b_eqlB el_num set_num fz_num numD bitD el_bit set_bit fz_bit normF_strL bl_byte
theorem w127 (om base:Nat) (D:DH):callD Q 127 [.ref om 0 0] base D=some (.fn 140 [] [.ref D.length 0 0],D++[.arr 1 [.ref om 0 0]]):=by
 rw [call_raw (fn:=Tryz.f127) (show Q.P.funcs[127]? =some Tryz.f127 from Tryz.func127) rfl ann127 rfl (by simp only [List.length_cons,List.length_nil];decide) (by kernel_rfl)]
 have gp:=gp127
 simp only [ann127,Tryz.f127,gpB_some,gpC_draw,gpC_reg,gpC_seq,gpC_cond,gpC_block,gpC_loop,gpC_range,gpC_skip,gpC_ret,gpC_exit,gpC_label,gpO_some,gpO_none,findN,Bool.and_eq_true,Bool.and_true,Bool.true_and,reduceIte,Nat.reduceEqDiff,true_and,and_true] at gp
 simp (maxSteps:=2000000) [-getElem?_pos,-List.map_set,-objBelow,-depV,-q_zeroT_197,gp]
theorem w140 (m:Aut) (hm:m.fine) (hsy:m.sy≤400) (hn:m.acc.length≤200000) (o1 om oa on:Nat) (x y:DV) (l L base:Nat) (P:List Bool→DH) (st:LoopState) (p:Option Code) (K:KD) (tmL:Trie DV) (ps:Array Tmp) (asg body:Code)
  (hL:∀ lv,(P lv).length=L) (hbL:base≤L) (hob:∀ lv,((P lv).drop base).all (objBelow L)=true) (hM:∀ lv,MachAt (P lv) o1 om oa on x y m) (hl:∀ lv,(P lv)[l]? =some (.loop st p K tmL ps asg body))
  (hy:∀ lv (s:Nat) X,s<m.acc.length→lv.length=m.acc.length→roundD (evalC Q) l [intD s] base (P lv++X)=some (boolD true,P (lv.set s true)++X)) :
  ∃ e0 e1,objBelow L e0=true∧objBelow L e1=true∧callD Q 140 [.yl l,.ref o1 0 0] base (P (List.replicate m.acc.length false))=some (.tup [],P m.liveL++[e0,e1]):=by
 rw [call_raw (fn:=Tryz.f140) (show Q.P.funcs[140]? =some Tryz.f140 from Tryz.func140) rfl ann140 rfl (by simp only [List.length_cons,List.length_nil];decide) (by kernel_rfl)]
 have gp:=gp140
 simp only [ann140,Tryz.f140,gpB_some,gpC_draw,gpC_reg,gpC_seq,gpC_cond,gpC_block,gpC_loop,gpC_range,gpC_skip,gpC_ret,gpC_exit,gpC_label,gpO_some,gpO_none,findN,Bool.and_eq_true,Bool.and_true,Bool.true_and,reduceIte,Nat.reduceEqDiff,true_and,and_true] at gp
 have g2:∀ lv X,MachAt (P lv++X) o1 om oa on x y m:=fun lv X=>(hM lv).app
 have gl:∀ lv X,(P lv++X)[l]? =some (.loop st p K tmL ps asg body):=fun lv X=>get_app (hl lv)
 have i0:∀ lv X,(P lv++X)[L]? =X[0]?:=fun lv X=>by rw [← hL lv];exact app_get0
 have i1:∀ lv X k,(P lv++X)[L+k]? =X[k]?:=fun lv X k=>by rw [← hL lv];exact app_get
 have s0:∀ lv X x,(P lv++X).set L x=P lv++X.set 0 x:=fun lv X x=>by rw [← hL lv];exact app_set0
 have s1:∀ lv X k x,(P lv++X).set (L+k) x=P lv++X.set k x:=fun lv X k x=>by rw [← hL lv];exact app_set
 have k1:∀ lv X k,(P lv++X).take (L+k)=P lv++X.take k:=fun lv X k=>by rw [← hL lv];exact app_take
 have hOK:∀ lv k X,objsOK base (L+k) (P lv++X)=(X.take k).all (objBelow (L+k)):=fun lv k X=>by
  rw [← hL lv];exact objsOK_raw (by rw [hL];exact hbL) (by rw [hL];exact hob lv)
 have hbk:∀ k,base≤L+k:=fun k=>by omega
 have lo:∀ k,on<L+k∧oa<L+k∧l<L+k:=fun k=>by
  have h1:=ltOf (hM []).4
  have h2:=ltOf (hM []).3
  have h3:=ltOf (hl [])
  rw [hL] at h1 h2 h3;omega
 obtain ⟨n,hnn⟩:∃ n,n=m.acc.length:=⟨_,rfl⟩
 obtain ⟨B,hB⟩:∃ B,B=backAll 0 m.nxt (List.replicate m.acc.length []):=⟨_,rfl⟩
 have h141:∀ lv,callD Q 141 [.ref om 0 0] base (P lv)=some (.f (.lst (B.map rowF)),P lv):=fun lv=>by
  rw [hB];exact w141 m hm hsy hn om oa on x y base (P lv) (hM lv).2 (hM lv).3 (hM lv).4
 obtain ⟨lv0,hlv0⟩:∃ lv,lv=List.replicate m.acc.length false:=⟨_,rfl⟩
 have hBl:B.length=n:=by rw [hB,backAll_len,List.length_replicate,hnn]
 rw [← hlv0]
 obtain ⟨A,hA⟩:∃ A,A=m.acc:=⟨_,rfl⟩
 have hAl:A.length=n:=by rw [hA,hnn]
 have gA:∀ lv X,(P lv++X)[oa]? =some (.app 4 1 (A.map bitD)):=fun lv X=>by rw [hA];exact (g2 lv X).3
 have gM:∀ lv X,(P lv++X)[om]? =some (.arr 5 [.agg [intD m.sy,.apl oa n,.apl on n,x,y]]):=fun lv X=>by rw [hnn];exact (g2 lv X).2
 have hA0:∀ lv,(P lv)[oa]? =some (.app 4 1 (A.map bitD)):=fun lv=>by rw [hA];exact (hM lv).3
 have hM0:∀ lv,(P lv)[om]? =some (.arr 5 [.agg [intD m.sy,.apl oa n,.apl on n,x,y]]):=fun lv=>by rw [hnn];exact (hM lv).2
 rw [← hnn] at hn hy
 simp (maxSteps:=2000000) [-getElem?_pos,-List.map_set,-objBelow,-depV,-q_zeroT_197,gp,hL,(g2 _ _).1,gM,gA,(hM _).1,hA0,hM0,hAl,h141,hbk,hOK,i0,i1,s0,s1,k1,lo,hbL,show n≤140737488355328 by omega,show n<9223372036854775808 by omega]
 obtain ⟨S0,hS0⟩:∃ S,S=List.replicate n false:=⟨_,rfl⟩
 have hrep:List.replicate n (DV.f (.raw (.bool false)))=S0.map bitD:=by rw [hS0,List.map_replicate];rfl
 rw [hrep]
 have hq0:LiveQ A m.nxt n 0 [] S0:=⟨by rw [hS0];simp [-getElem?_pos,-List.map_set,-objBelow,-depV,-q_zeroT_197],fun j hj=>by rw [hS0,List.getElem?_replicate,if_pos hj];simp [-getElem?_pos,-List.map_set,-objBelow,-depV,-q_zeroT_197],List.nodup_nil,fun x h=>(by cases h),fun x h=>(by cases h)⟩
 have hql:∀ q seen,LiveQ A m.nxt n 0 q seen→q.length≤n:=fun q seen h=>nodup_le h.nodup h.dom
 generalize hX:loopG _ _ _=X
 obtain ⟨tm,q,seen,rfl,⟨hq,hqa⟩,t0,t3,t4,t5⟩:∃ (tm:Trie DV) (q:List Int) (seen:List Bool),X=some (.exit 0,⟨tm,P lv0++[.arr 1 (seen.map bitD),.app 3 1 (q.map numD)]⟩)∧(LiveQ A m.nxt n 0 q seen∧∀ j:Nat,A[j]? =some true→(j:Int)∈q)∧tm.get 0=some (.yl l)∧tm.get 3=some (.f (.lst (B.map rowF)))∧tm.get 4=some (.row L 0 n n)∧tm.get 5=some (.apl (L+1) q.length):=by
  rw [← hX]
  clear hX
  generalize hs33:SD.mk _ _=sd33
  revert sd33
  refine wl (fun p:Nat×List Int×List Bool=>⟨((((((Trie.leaf.put 24 (intD p.1)).put 23 (intD n)).put 22 (.apl oa n)).put 5 (.apl (L+1) p.2.1.length)).put 4 (.row L 0 n n)).put 3 (.f (.lst (B.map rowF)))).put 0 (.yl l),P lv0++[.arr 1 (p.2.2.map bitD),.app 3 1 (p.2.1.map numD)]⟩) (fun p=>p.1≤n∧LiveQ A m.nxt n 0 p.2.1 p.2.2∧(∀ j:Nat,j<p.1→A[j]? =some true→(j:Int)∈p.2.1)∧∀ x∈p.2.1,x<(p.1:Nat)) (fun p=>n-p.1) ?_ (0,[],S0) ⟨Nat.zero_le _,hq0,fun j h=>absurd h (Nat.not_lt_zero _),fun x h=>by cases h⟩
  rintro ⟨i,q,seen⟩ ⟨hi,hq,hqa,hqi⟩ ih
  simp only at hi hq hqa hqi ih
  rw [loopG_eq]
  have hqn:=hql _ _ hq
  by_cases hlt:i<n
  case neg=>
   simp (maxSteps:=2000000) [-getElem?_pos,-List.map_set,-objBelow,-depV,-q_zeroT_197,gp,hlt]
   refine ⟨_,q,seen,⟨rfl,rfl,rfl⟩,⟨hq,fun j hj=>hqa j (by have:=lt_of_get hj;omega) hj⟩,?_⟩
   simp [-getElem?_pos,-List.map_set,-objBelow,-depV,-q_zeroT_197]
  obtain ⟨b,hb⟩:∃ b,A[i]? =some b:=⟨_,List.getElem?_eq_getElem (by omega)⟩
  have hww:=wrap_succ (show i+1≤9223372036854775807 by omega)
  cases b with
  | false=>
   have ih':=ih (i+1,q,seen) ⟨by simp only;omega,hq,fun j hj hj2=>by
    by_cases e:j=i
    ·subst e;rw [hb] at hj2;cases hj2
    ·exact hqa j (by simp only at hj;omega) hj2,fun x hx=>by have:=hqi x hx;simp only;omega⟩ (by simp only;omega)
   simp (maxSteps:=2000000) [-getElem?_pos,-List.map_set,-objBelow,-depV,-q_zeroT_197] at ih'
   simp (maxSteps:=2000000) [-getElem?_pos,-List.map_set,-objBelow,-depV,-q_zeroT_197,gp,hL,hbL,hlt,hb,gA,hAl,hbk,hOK,i0,i1,s0,s1,k1,lo,hww]
   exact ih'
  | true=>
   obtain ⟨w0,hw0⟩:∃ x,seen[i]? =some x:=⟨_,List.getElem?_eq_getElem (by rw [hq.len];exact hlt)⟩
   have hns:seen[i]?≠some true:=fun h=>by
    have:=hqi _ ((hq.seen i hlt).1 h)
    omega
   have ih':=ih (i+1,q++[(i:Int)],seen.set i true) ⟨by simp only;omega,hq.add (i:=0) hlt hns (.acc hb),fun j hj hj2=>by
    by_cases e:j=i
    ·subst e;simp [-getElem?_pos,-List.map_set,-objBelow,-depV,-q_zeroT_197]
    ·exact List.mem_append_left _ (hqa j (by simp only at hj;omega) hj2),fun x hx=>by
     rcases List.mem_append.1 hx with h | h
     ·have:=hqi x h;simp only;omega
     ·rw [List.mem_singleton] at h;simp only;omega⟩ (by simp only;omega)
   simp (maxSteps:=2000000) [-getElem?_pos,-List.map_set,-objBelow,-depV,-q_zeroT_197] at ih'
   simp (maxSteps:=2000000) [-getElem?_pos,-List.map_set,-objBelow,-depV,-q_zeroT_197,gp,hL,hbL,hlt,hb,hw0,gA,hAl,hq.len,hbk,hOK,i0,i1,s0,s1,k1,lo,hww,show q.length≤1099511627775 by omega,show (q.length+1)*8≤1099511627776 by omega]
   exact ih'
 clear hX
 have hlv0l:lv0.length=n:=by rw [hlv0,List.length_replicate,hnn]
 simp (maxSteps:=2000000) [-getElem?_pos,-List.map_set,-objBelow,-depV,-q_zeroT_197,gp,hL,hbL,t0,t3,t4,t5,gA,gM,hbk,hOK,i0,i1,s0,s1,k1,lo]
 clear t0 t3 t4 t5 tm
 generalize hX:loopG _ _ _=X
 obtain ⟨tm,q,seen,lv,rfl,hlv⟩:∃ (tm:Trie DV) (q:List Int) (seen lv:List Bool),X=some (.exit 2,⟨tm,P lv++[.arr 1 (seen.map bitD),.app 3 1 (q.map numD)]⟩)∧lv=m.liveL:=by
  rw [← hX]
  clear hX
  generalize hs34:SD.mk _ _=sd34
  revert sd34
  refine wl (fun p:Nat×List Int×List Bool×List Bool=>⟨((((Trie.leaf.put 8 (intD p.1)).put 5 (.apl (L+1) p.2.1.length)).put 4 (.row L 0 n n)).put 3 (.f (.lst (B.map rowF)))).put 0 (.yl l),P p.2.2.2++[.arr 1 (p.2.2.1.map bitD),.app 3 1 (p.2.1.map numD)]⟩) (fun p=>p.1≤p.2.1.length∧LiveQ A m.nxt n 0 p.2.1 p.2.2.1∧(∀ j:Nat,A[j]? =some true→(j:Int)∈p.2.1)∧(∀ x∈p.2.1.take p.1,∀ z∈at_ B x.toNat,z∈p.2.1)∧p.2.2.2.length=n∧∀ j:Nat,j<n→(p.2.2.2[j]? =some true↔(j:Int)∈p.2.1.take p.1)) (fun p=>n-p.1) ?_ (0,q,seen,lv0) ⟨Nat.zero_le _,hq,hqa,fun x h=>(by simp [-getElem?_pos,-List.map_set,-objBelow,-depV,-q_zeroT_197] at h),hlv0l,fun j hj=>by rw [hlv0,List.getElem?_replicate,if_pos (by omega)];simp [-getElem?_pos,-List.map_set,-objBelow,-depV,-q_zeroT_197]⟩
  clear hq hqa q seen
  rintro ⟨i,q,seen,lv⟩ ⟨hi,hq,hqa,hqc,hlvl,hlv⟩ ih
  simp only at hi hq hqa hqc hlvl hlv ih
  rw [loopG_eq]
  have hqn:=hql _ _ hq
  by_cases hlt:i<q.length
  case neg=>
   have hall:=hq.all (by rw [hAl]) (by rw [hm.len,hnn]) hqa (fun x hx z hz=>by
    rw [show n=m.acc.length from hnn] at hz
    rw [← hB] at hz
    exact hqc x (by rw [List.take_of_length_le (by omega)];exact hx) z hz)
   rw [List.take_of_length_le (by omega)] at hlv
   have hfin:lv=m.liveL:=by
    refine List.ext_getElem? fun j=>?_
    rcases Nat.lt_or_ge j n with g | g
    ·obtain ⟨b,hb⟩:∃ b,lv[j]? =some b:=⟨_,List.getElem?_eq_getElem (by omega)⟩
     obtain ⟨b',hb'⟩:∃ b,m.liveL[j]? =some b:=⟨_,List.getElem?_eq_getElem (by rw [Aut.liveL_len];omega)⟩
     have h1:=hlv j g
     have h2:m.liveL[j]? =some true↔(j:Int)∈q:=by rw [Aut.liveL_get,hall j,hA];exact ⟨fun h=>h.2,fun h=>⟨by omega,h⟩⟩
     rw [hb] at h1
     rw [hb'] at h2
     rw [hb,hb']
     cases b<;>cases b'<;>simp_all [-getElem?_pos,-List.map_set,-objBelow,-depV,-q_zeroT_197]
    ·rw [List.getElem?_eq_none (by omega),List.getElem?_eq_none (by rw [Aut.liveL_len];omega)]
   simp (maxSteps:=2000000) [-getElem?_pos,-List.map_set,-objBelow,-depV,-q_zeroT_197,gp,hlt,i0,i1]
   rw [hfin]
   exact ⟨q,seen,rfl⟩
  obtain ⟨t,ht⟩:∃ t,q[i]? =some t:=⟨_,List.getElem?_eq_getElem hlt⟩
  have htd:=hq.dom t (List.mem_of_getElem? ht)
  have htl:=hq.live t (List.mem_of_getElem? ht)
  obtain ⟨t,rfl⟩:∃ u:Nat,t=u:=⟨t.toNat,by omega⟩
  rw [Int.toNat_natCast] at htl
  obtain ⟨b,hb⟩:∃ b,B[t]? =some b:=⟨_,List.getElem?_eq_getElem (by omega)⟩
  have hatb:at_ B t=b:=by unfold at_;rw [hb];rfl
  have hbm:∀ z∈b,∃ j:Nat,z=j∧j<n∧m.lv j:=fun z hz=>by
   rw [← hatb,hB] at hz
   obtain ⟨j,r,r1,r2,r3⟩:=(mem_back (by omega)).1 hz
   have:=lt_of_get r1
   rw [hm.len] at this
   refine ⟨j,r3,by omega,.step r1 r2 ?_⟩
   rw [hA] at htl;exact htl
  have hbl:b.length≤80000000:=by
   have h1:=backAll_at (sy:=m.sy.toNat) (rs:=m.nxt) (s:=0) (B:=List.replicate m.acc.length []) (t:=t) (fun r hr=>by have:=(hm.rows r hr).1;omega)
   rw [← hB,hatb] at h1
   have h2:(at_ (List.replicate m.acc.length ([]:List Int)) t).length=0:=by unfold at_;rw [List.getElem?_replicate];split<;>simp [-getElem?_pos,-List.map_set,-objBelow,-depV,-q_zeroT_197]
   rw [h2,Nat.zero_add] at h1
   exact Nat.le_trans h1 (Nat.le_trans (Nat.mul_le_mul (show m.nxt.length≤200000 by rw [hm.len];omega) (show m.sy.toNat≤400 by omega)) (by decide))
  have hy':=fun X=>hy lv t X (by omega) hlvl
  simp only [intD,boolD] at hy'
  obtain ⟨lv2,hlv2⟩:∃ l,l=lv.set t true:=⟨_,rfl⟩
  rw [← hlv2] at hy'
  simp (maxSteps:=2000000) [-getElem?_pos,-List.map_set,-objBelow,-depV,-q_zeroT_197,gp,hL,hbL,hlt,ht,hb,hy',gl,gA,gM,hAl,hbk,hOK,i0,i1,s0,s1,k1,lo]
  generalize hX:loopG _ _ _=X
  obtain ⟨tm,q1,seen1,rfl,⟨hq1,hqp,hqb⟩,t0,t3,t4,t5,t8⟩:∃ (tm:Trie DV) (q1:List Int) (seen1:List Bool),X=some (.exit 4,⟨tm,P lv2++[.arr 1 (seen1.map bitD),.app 3 1 (q1.map numD)]⟩)∧(LiveQ A m.nxt n 0 q1 seen1∧q <+: q1∧∀ z∈b,z∈q1)∧tm.get 0=some (.yl l)∧tm.get 3=some (.f (.lst (B.map rowF)))∧tm.get 4=some (.row L 0 n n)∧tm.get 5=some (.apl (L+1) q1.length)∧tm.get 8=some (intD i):=by
   rw [← hX]
   clear hX ih
   generalize hs35:SD.mk _ _=sd35
   revert sd35
   refine wl (fun p:Nat×List Int×List Bool=>⟨(((((((Trie.leaf.put 59 (intD p.1)).put 58 (intD b.length)).put 57 (rowD b)).put 8 (intD i)).put 5 (.apl (L+1) p.2.1.length)).put 4 (.row L 0 n n)).put 3 (.f (.lst (B.map rowF)))).put 0 (.yl l),P lv2++[.arr 1 (p.2.2.map bitD),.app 3 1 (p.2.1.map numD)]⟩) (fun p=>p.1≤b.length∧LiveQ A m.nxt n 0 p.2.1 p.2.2∧q <+: p.2.1∧∀ z∈b.take p.1,z∈p.2.1) (fun p=>b.length-p.1) ?_ (0,q,seen) ⟨Nat.zero_le _,hq,List.prefix_refl _,fun z h=>(by simp [-getElem?_pos,-List.map_set,-objBelow,-depV,-q_zeroT_197] at h)⟩
   rintro ⟨k,q1,seen1⟩ ⟨hk,hq1,hqp,hqb⟩ ih
   simp only at hk hq1 hqp hqb ih
   rw [loopG_eq]
   have hqn1:=hql _ _ hq1
   by_cases hks:k<b.length
   case neg=>
    rw [List.take_of_length_le (by omega)] at hqb
    simp (maxSteps:=2000000) [-getElem?_pos,-List.map_set,-objBelow,-depV,-q_zeroT_197,gp,hks]
    refine ⟨_,q1,seen1,⟨rfl,rfl,rfl⟩,⟨hq1,hqp,hqb⟩,?_⟩
    simp [-getElem?_pos,-List.map_set,-objBelow,-depV,-q_zeroT_197]
   obtain ⟨z,hz⟩:∃ z,b[k]? =some z:=⟨_,List.getElem?_eq_getElem hks⟩
   obtain ⟨j,rfl,hj,hlj⟩:=hbm z (List.mem_of_getElem? hz)
   obtain ⟨w,hw⟩:∃ w,seen1[j]? =some w:=⟨_,List.getElem?_eq_getElem (by rw [hq1.len];exact hj)⟩
   have hbt:b.take (k+1)=b.take k++[(j:Int)]:=by rw [List.take_add_one,hz];rfl
   have hww:=wrap_succ (show k+1≤9223372036854775807 by omega)
   cases w with
   | true=>
    have ih':=ih (k+1,q1,seen1) ⟨by simp only;omega,hq1,hqp,fun z hz=>by
     simp only at hz
     rw [hbt] at hz
     rcases List.mem_append.1 hz with h | h
     ·exact hqb z h
     ·rw [List.mem_singleton] at h;rw [h];exact (hq1.seen j hj).1 hw⟩ (by simp only;omega)
    simp (maxSteps:=2000000) [-getElem?_pos,-List.map_set,-objBelow,-depV,-q_zeroT_197] at ih'
    simp (maxSteps:=2000000) [-getElem?_pos,-List.map_set,-objBelow,-depV,-q_zeroT_197,gp,hL,hbL,hks,hz,hw,hj,hq1.len,hbk,hOK,i0,i1,s0,s1,k1,lo,hww]
    exact ih'
   | false=>
    have ih':=ih (k+1,q1++[(j:Int)],seen1.set j true) ⟨by simp only;omega,hq1.add (i:=0) hj (by rw [hw];simp [-getElem?_pos,-List.map_set,-objBelow,-depV,-q_zeroT_197]) (by rw [hA];exact hlj),hqp.trans (List.prefix_append _ _),fun z hz=>by
     simp only at hz
     rw [hbt] at hz
     rcases List.mem_append.1 hz with h | h
     ·exact List.mem_append_left _ (hqb z h)
     ·exact List.mem_append_right _ h⟩ (by simp only;omega)
    simp (maxSteps:=2000000) [-getElem?_pos,-List.map_set,-objBelow,-depV,-q_zeroT_197] at ih'
    simp (maxSteps:=2000000) [-getElem?_pos,-List.map_set,-objBelow,-depV,-q_zeroT_197,gp,hL,hbL,hks,hz,hw,hj,hq1.len,hbk,hOK,i0,i1,s0,s1,k1,lo,hww,show q1.length≤1099511627775 by omega,show (q1.length+1)*8≤1099511627776 by omega]
    exact ih'
  clear hX
  have hqt:q1.take (i+1)=q.take i++[(t:Int)]:=by
   rw [List.take_add_one,prefix_getS hqp ht]
   obtain ⟨z,rfl⟩:=hqp
   rw [List.take_append_of_le_length (by omega)];rfl
  have hpl:=hqp.length_le
  have hqn1:=hql _ _ hq1
  have ih':=ih (i+1,q1,seen1,lv2) ⟨by simp only;omega,hq1,fun j hj=>hqp.subset (hqa j hj),fun x hx z hz=>by
   simp only at hx
   rw [hqt] at hx
   rcases List.mem_append.1 hx with h | h
   ·exact hqp.subset (hqc x h z hz)
   ·rw [List.mem_singleton] at h
    subst h
    rw [Int.toNat_natCast,hatb] at hz
    exact hqb z hz,by simp only;rw [hlv2,List.length_set];exact hlvl,fun j hj=>by
   simp only
   rw [hqt,hlv2,List.mem_append,List.mem_singleton]
   by_cases e:t=j
   ·subst e
    rw [List.getElem?_set_self (by omega)];simp [-getElem?_pos,-List.map_set,-objBelow,-depV,-q_zeroT_197]
   ·rw [List.getElem?_set_ne e,hlv j hj]
    constructor
    ·exact fun h=>.inl h
    ·rintro (h | h)
     ·exact h
     ·omega⟩ (by simp only;omega)
  simp (maxSteps:=2000000) [-getElem?_pos,-List.map_set,-objBelow,-depV,-q_zeroT_197] at ih'
  simp (maxSteps:=2000000) [-getElem?_pos,-List.map_set,-objBelow,-depV,-q_zeroT_197,gp,hL,hbL,t0,t3,t4,t5,t8,hbk,hOK,i0,i1,s0,s1,k1,lo,wrap_succ (show i+1≤9223372036854775807 by omega)]
  exact ih'
 subst hlv
 refine ⟨.arr 1 (seen.map bitD),by simp [-getElem?_pos,-List.map_set,-objBelow,-depV,-q_zeroT_197],.app 3 1 (q.map numD),by simp [-getElem?_pos,-List.map_set,-objBelow,-depV,-q_zeroT_197],?_⟩
 simp (maxSteps:=2000000) [-getElem?_pos,-List.map_set,-objBelow,-depV,-q_zeroT_197,gp]
 rfl
end Go.Dv
namespace Go.Dv
open Go Go.Sim Go.Proofs Go.Fsa
attribute [local simp] encI bitF autD b_neqB b_eqlB el_num set_num fz_num numD bitD el_bit set_bit fz_bit normF_strL bl_byte
structure MembAt (D:DH) (o8 op:Nat) (cI ks:List Int):Prop where
 cell:D[o8]? =some (.arr 1 [.mp op])
 map:D[op]? =some (.map (ks.map encI) ((ks.map fun c=>((numK cI c:Nat):Int)).map numD))
theorem MembAt.app {D X:DH} {o8 op:Nat} {cI ks:List Int} (h:MembAt D o8 op cI ks):MembAt (D++X) o8 op cI ks:=⟨get_app h.1,get_app h.2⟩
theorem memb_get {cI ks:List Int} {c:Int} (h:c∈ks):(ks.map fun c=>((numK cI c:Nat):Int))[numK ks c]? =some ((numK cI c:Nat):Int):=by
 rw [List.getElem?_map,numK_some h];rfl
theorem w133 (m:Aut) (cI ks:List Int) (c:Int) (hc:c∈ks) (hi:numK cI c<m.acc.length) (o1 om oa on o8 op:Nat) (x y:DV) (base:Nat) (D:DH) (hM:MachAt D o1 om oa on x y m) (h8:MembAt D o8 op cI ks) :
  callD Q 133 [intD c,.ref o1 0 0,.ref o8 0 0] base D=some (boolD (m.accB (numK cI c:Nat)),D):=by
 rw [call_pure (fn:=Tryz.f133) (show Q.P.funcs[133]? =some Tryz.f133 from Tryz.func133) rfl ann133 rfl (by simp only [List.length_cons,List.length_nil];decide) (by kernel_rfl)]
 have gp:=gp133
 simp only [ann133,Tryz.f133,gpB_some,gpC_draw,gpC_reg,gpC_seq,gpC_cond,gpC_block,gpC_loop,gpC_range,gpC_skip,gpC_ret,gpC_exit,gpC_label,gpO_some,gpO_none,findN,Bool.and_eq_true,Bool.and_true,Bool.true_and,reduceIte,Nat.reduceEqDiff,true_and,and_true] at gp
 have hf:findT Tryz.prog 3 (.int .i64 c) (keyEs (ks.map encI))=some (some (numK ks c)):=(key3.find ks c).trans (by rw [find_in hc])
 have hg:=memb_get (cI:=cI) hc
 obtain ⟨i,hii⟩:∃ i,i=numK cI c:=⟨_,rfl⟩
 rw [← hii] at hg hi ⊢
 obtain ⟨vs,hvs⟩:∃ v,v=ks.map fun c=>((numK cI c:Nat):Int):=⟨_,rfl⟩
 have h82:=h8.2
 rw [← hvs] at hg h82
 obtain ⟨b,hb⟩:∃ b,m.acc[i]? =some b:=⟨_,List.getElem?_eq_getElem hi⟩
 have hab:m.accB i=b:=by simp [-getElem?_pos,-List.map_set,-objBelow,-depV,-q_zeroT_197,Aut.accB,hb]
 rw [hab]
 simp (maxSteps:=2000000) [-getElem?_pos,-List.map_set,-objBelow,-depV,-q_zeroT_197,gp,hM.1,hM.2,hM.3,hM.4,h8.1,h82,hf,hg,hb,hi]
 trace_state
theorem w132 (m:Aut) (hm:m.fine) (lv:List Bool) (hlv:lv.length=m.acc.length) (cI ks:List Int) (hcl:cI.length=m.acc.length) (c:Int) (hc:c∈ks) (hi:numK cI c<m.acc.length) (k:Nat) (hk:(k:Int)<m.sy)
  (o1 om oa on o8 op o5 ol o7:Nat) (x y:DV) (base:Nat) (D:DH) (hM:MachAt D o1 om oa on x y m) (h8:MembAt D o8 op cI ks) (h5:D[o5]? =some (.arr 1 [.row ol 0 m.acc.length m.acc.length])) (hl:D[ol]? =some (.arr 1 (lv.map bitD))) (h7:D[o7]? =some (.arr 1 [rowD cI])) :
  callD Q 132 [intD c,intD k,.ref o1 0 0,.ref o8 0 0,.ref o5 0 0,.ref o7 0 0] base D=some (.tup [intD (if 0≤m.go (numK cI c:Nat) k∧lv[(m.go (numK cI c:Nat) k).toNat]? =some true then (cI[(m.go (numK cI c:Nat) k).toNat]?).getD 0 else 0),boolD (if 0≤m.go (numK cI c:Nat) k∧lv[(m.go (numK cI c:Nat) k).toNat]? =some true then true else false)],D):=by
 have hf:findT Tryz.prog 3 (.int .i64 c) (keyEs (ks.map encI))=some (some (numK ks c)):=(key3.find ks c).trans (by rw [find_in hc])
 have hg:=memb_get (cI:=cI) hc
 obtain ⟨i,hii⟩:∃ i,i=numK cI c:=⟨_,rfl⟩
 rw [← hii] at hg hi ⊢
 obtain ⟨vs,hvs⟩:∃ v,v=ks.map fun c=>((numK cI c:Nat):Int):=⟨_,rfl⟩
 have h82:=h8.2
 rw [← hvs] at hg h82
 obtain ⟨r,hr,hrl,hrg⟩:=row_go hm hi
 have hgo:=hrg k hk
 have hgf:=Aut.go_fine hm (x:=i) (c:=k)
 obtain ⟨t,ht⟩:∃ t,t=m.go i k:=⟨_,rfl⟩
 rw [← ht] at hgo hgf ⊢
 by_cases ht0:t<0
 ·rw [if_neg (by omega),if_neg (by omega)]
  rw [call_pure (fn:=Tryz.f132) (show Q.P.funcs[132]? =some Tryz.f132 from Tryz.func132) rfl ann132 rfl (by simp only [List.length_cons,List.length_nil];decide) (by kernel_rfl)]
  have gp:=gp132
  simp only [ann132,Tryz.f132,gpB_some,gpC_draw,gpC_reg,gpC_seq,gpC_cond,gpC_block,gpC_loop,gpC_range,gpC_skip,gpC_ret,gpC_exit,gpC_label,gpO_some,gpO_none,findN,Bool.and_eq_true,Bool.and_true,Bool.true_and,reduceIte,Nat.reduceEqDiff,true_and,and_true] at gp
  simp (maxSteps:=2000000) [-getElem?_pos,-List.map_set,-objBelow,-depV,-q_zeroT_197,gp,hM.1,hM.2,hM.3,hM.4,h8.1,h82,hf,hg,hi,hr,hgo,ht0,hm.len]
  trace_state
 ·obtain ⟨t,rfl⟩:∃ u:Nat,t=u:=⟨t.toNat,by omega⟩
  obtain ⟨b,hb⟩:∃ b,lv[t]? =some b:=⟨_,List.getElem?_eq_getElem (by omega)⟩
  obtain ⟨d,hd⟩:∃ d,cI[t]? =some d:=⟨_,List.getElem?_eq_getElem (by omega)⟩
  rw [Int.toNat_natCast]
  cases b with
  | false=>
   rw [if_neg (by rw [hb];simp [-getElem?_pos,-List.map_set,-objBelow,-depV,-q_zeroT_197]),if_neg (by rw [hb];simp [-getElem?_pos,-List.map_set,-objBelow,-depV,-q_zeroT_197])]
   rw [call_pure (fn:=Tryz.f132) (show Q.P.funcs[132]? =some Tryz.f132 from Tryz.func132) rfl ann132 rfl (by simp only [List.length_cons,List.length_nil];decide) (by kernel_rfl)]
   have gp:=gp132
   simp only [ann132,Tryz.f132,gpB_some,gpC_draw,gpC_reg,gpC_seq,gpC_cond,gpC_block,gpC_loop,gpC_range,gpC_skip,gpC_ret,gpC_exit,gpC_label,gpO_some,gpO_none,findN,Bool.and_eq_true,Bool.and_true,Bool.true_and,reduceIte,Nat.reduceEqDiff,true_and,and_true] at gp
   simp (maxSteps:=2000000) [-getElem?_pos,-List.map_set,-objBelow,-depV,-q_zeroT_197,gp,hM.1,hM.2,hM.3,hM.4,h8.1,h82,h5,hl,h7,hf,hg,hi,hr,hgo,ht0,hb,hm.len,show t<m.acc.length by omega]
   trace_state
  | true=>
   rw [if_pos ⟨by omega,hb⟩,if_pos ⟨by omega,hb⟩,hd,Option.getD_some]
   rw [call_pure (fn:=Tryz.f132) (show Q.P.funcs[132]? =some Tryz.f132 from Tryz.func132) rfl ann132 rfl (by simp only [List.length_cons,List.length_nil];decide) (by kernel_rfl)]
   have gp:=gp132
   simp only [ann132,Tryz.f132,gpB_some,gpC_draw,gpC_reg,gpC_seq,gpC_cond,gpC_block,gpC_loop,gpC_range,gpC_skip,gpC_ret,gpC_exit,gpC_label,gpO_some,gpO_none,findN,Bool.and_eq_true,Bool.and_true,Bool.true_and,reduceIte,Nat.reduceEqDiff,true_and,and_true] at gp
   simp (maxSteps:=2000000) [-getElem?_pos,-List.map_set,-objBelow,-depV,-q_zeroT_197,gp,hM.1,hM.2,hM.3,hM.4,h8.1,h82,h5,hl,h7,hf,hg,hi,hr,hgo,ht0,hb,hd,hm.len,show t<m.acc.length by omega]
   trace_state
end Go.Dv
set_option maxHeartbeats 4000000
namespace Go.Dv
open Go Go.Sim Go.Proofs Go.Fsa
attribute [local simp] encI bitF autD b_neqB b_eqlB el_num set_num fz_num numD bitD el_bit set_bit fz_bit normF_strL bl_byte
theorem replD {n:Nat}:List.replicate n (DV.f (.raw (.bool false)))=(List.replicate n false).map bitD:=by rw [List.map_replicate];rfl
theorem canonRange (m:Aut) (hm:m.fine) (hsy:m.sy≤400) (hn:m.acc.length≤100000) (om oa on:Nat) (x y:DV) (D:DH)
  (h2:D[om]? =some (.arr 5 [.agg [intD m.sy,.apl oa m.acc.length,.apl on m.acc.length,x,y]])) (h3:D[oa]? =some (.app 4 1 (m.acc.map bitD))) (h4:D[on]? =some (.app 26 1 (m.nxt.map rowD)))
  (o0 o1 o2 o4:DObj) (hb:∀ o∈[o0,o1,o2,o4],objBelow (D.length+7) o=true) (K:KD) (tm:Trie DV) (ps:Array Tmp) (asg body:Code) (L0:List Bool) (hL0:L0=List.replicate m.acc.length false)
  (hKa:K.an=Q.ann K.fn) (hKb:K.base=D.length) (hps:ps.toList.length=1)
  (hr:∀ (lv:List Bool) (s:Nat) (X:DH),s<m.acc.length→lv.length=m.acc.length→rdA Q (D.length+6) ⟨K.fn,K.nt,some (D.length+6),K.base,K.an⟩ body (evD Q (callD Q) (evalC Q) ⟨K.fn,K.nt,some (D.length+6),K.base,K.an⟩ 0 asg ⟨zipD tm K.nt ps.toList [intD s],D++(o0::o1::o2::.arr 1 (lv.map bitD)::o4::.arr 1 [.ref om 0 0]::.loop .ready none K tm ps asg body::X)⟩)=some (boolD true,D++(o0::o1::o2::.arr 1 ((lv.set s true).map bitD)::o4::.arr 1 [.ref om 0 0]::.loop .ready none K tm ps asg body::X))) :
  ∃ e0 e1,objBelow (D.length+7) e0=true∧objBelow (D.length+7) e1=true∧rangeEndD tm (D.length+6) (callD Q 140 ([]++[.yl (D.length+6)]++[.ref (D.length+5) 0 0]) K.base (D++[o0,o1,o2,.arr 1 (L0.map bitD),o4,.arr 1 [.ref om 0 0]]++[.loop .ready none K tm ps asg body]))=some (.nrm,⟨tm,D++[o0,o1,o2,.arr 1 (m.liveL.map bitD),o4,.arr 1 [.ref om 0 0],.dead,e0,e1]⟩):=by
 obtain ⟨P,hP⟩:∃ P:List Bool→DH,∀ lv,P lv=D++[o0,o1,o2,.arr 1 (lv.map bitD),o4,.arr 1 [.ref om 0 0],.loop .ready none K tm ps asg body]:=⟨_,fun _=>rfl⟩
 have hM:∀ lv,MachAt (P lv) (D.length+5) om oa on x y m:=fun lv=>by
  rw [hP]
  exact ⟨by simp [-getElem?_pos,-List.map_set,-objBelow,-depV,-q_zeroT_197],get_app h2,get_app h3,get_app h4⟩
 have homl:=ltOf h2
 obtain ⟨e0,e1,b0,b1,h⟩:=w140 m hm hsy (by omega) (D.length+5) om oa on x y (D.length+6) (D.length+7) D.length P .ready none K tm ps asg body (fun lv=>by rw [hP];simp [-getElem?_pos,-List.map_set,-objBelow,-depV,-q_zeroT_197]) (by omega)
  (fun lv=>by
   rw [hP,app_drop0,List.all_eq_true]
   intro o ho
   simp only [List.mem_cons,List.not_mem_nil,or_false] at ho
   rcases ho with rfl | rfl | rfl | rfl | rfl | rfl | rfl
   ·exact hb _ (by simp [-getElem?_pos,-List.map_set,-objBelow,-depV,-q_zeroT_197])
   ·exact hb _ (by simp [-getElem?_pos,-List.map_set,-objBelow,-depV,-q_zeroT_197])
   ·exact hb _ (by simp [-getElem?_pos,-List.map_set,-objBelow,-depV,-q_zeroT_197])
   ·simp [-getElem?_pos,-List.map_set,-objBelow,-depV,-q_zeroT_197]
   ·exact hb _ (by simp [-getElem?_pos,-List.map_set,-objBelow,-depV,-q_zeroT_197])
   ·simp [-getElem?_pos,-List.map_set,-objBelow,-depV,-q_zeroT_197];omega
   ·rfl) hM (fun lv=>by rw [hP];simp [-getElem?_pos,-List.map_set,-objBelow,-depV,-q_zeroT_197])
  (fun lv s X hs hlv=>by
   rw [hP,hP,List.append_assoc,List.append_assoc]
   rw [round_eq (st:=.ready) (p:=none) (K:=K) (tm:=tm) (ps:=ps) (asg:=asg) (body:=body) (by simp [-getElem?_pos,-List.map_set,-objBelow,-depV,-q_zeroT_197]) hKa (by rw [hps];rfl) hKb.symm (by omega)]
   exact hr lv s X hs hlv)
 refine ⟨e0,e1,b0,b1,?_⟩
 rw [← hL0] at h
 rw [hP,hP] at h
 rw [hKb]
 simp only [List.append_assoc,List.nil_append,List.cons_append]
 rw [h]
 simp [-getElem?_pos,-List.map_set,-objBelow,-depV,-q_zeroT_197]
theorem w109_none (m:Aut) (hm:m.fine) (hsy:m.sy≤400) (hsy0:1≤m.sy) (hn:m.acc.length≤100000) (hn1:1≤m.acc.length) (om oa on:Nat) (x y:DV) (base:Nat) (D:DH)
  (h2:D[om]? =some (.arr 5 [.agg [intD m.sy,.apl oa m.acc.length,.apl on m.acc.length,x,y]])) (h3:D[oa]? =some (.app 4 1 (m.acc.map bitD))) (h4:D[on]? =some (.app 26 1 (m.nxt.map rowD)))
  (hd:m.liveL[0]?≠some true):callD Q 109 [.ref om 0 0] base D=some (.tup [autD ⟨m.sy,0,[],[]⟩,boolD true],D):=by
 rw [call_pure (fn:=Tryz.f109) (show Q.P.funcs[109]? =some Tryz.f109 from Tryz.func109) rfl ann109 rfl (by simp only [List.length_cons,List.length_nil];decide) (by kernel_rfl)]
 have gp:=gp109
 simp only [ann109,Tryz.f109,gpB_some,gpC_draw,gpC_reg,gpC_seq,gpC_cond,gpC_block,gpC_loop,gpC_range,gpC_skip,gpC_ret,gpC_exit,gpC_label,gpO_some,gpO_none,findN,Bool.and_eq_true,Bool.and_true,Bool.true_and,reduceIte,Nat.reduceEqDiff,true_and,and_true] at gp
 have g2:=fun X=>get_app (X:=X) h2
 have g3:=fun X=>get_app (X:=X) h3
 have g4:=fun X=>get_app (X:=X) h4
 have h127:=fun base D=>w127 om base D
 have r140:(Q.ann 140).raw=true:=by rw [ann140]
 obtain ⟨L0,hL0⟩:∃ L,L=List.replicate m.acc.length false:=⟨_,rfl⟩
 have hrep:List.replicate m.acc.length (DV.f (.raw (.bool false)))=L0.map bitD:=by rw [hL0];exact replD
 simp (maxSteps:=2000000) [-getElem?_pos,-List.map_set,-objBelow,-depV,-q_zeroT_197,gp,g2,g3,g4,h2,h3,h4,h127,hrep,show m.acc.length≤140737488355328 by omega,show m.acc.length<9223372036854775808 by omega]
 generalize hS:SD.mk _ _=sS
 have hSD:sS.D=D++[.arr 1 [.ref om 0 0],.arr 4 [.agg [numD 0,numD 0,nilS,nilS]],.arr 4 [.agg [intD m.sy,numD 0,nilS,nilS]],.arr 1 (L0.map bitD),.arr 1 [.row (D.length+3) 0 m.acc.length m.acc.length],.arr 1 [.ref om 0 0]]:=by rw [← hS];rfl
 have ht1:sS.tm.get 1=some (.ref D.length 0 0):=by rw [← hS];simp [-getElem?_pos,-List.map_set,-objBelow,-depV,-q_zeroT_197]
 have ht2:sS.tm.get 2=some (.ref (D.length+1) 0 0):=by rw [← hS];simp [-getElem?_pos,-List.map_set,-objBelow,-depV,-q_zeroT_197]
 have ht4:sS.tm.get 4=some (.ref (D.length+2) 0 0):=by rw [← hS];simp [-getElem?_pos,-List.map_set,-objBelow,-depV,-q_zeroT_197]
 have ht5:sS.tm.get 5=some (.ref (D.length+4) 0 0):=by rw [← hS];simp [-getElem?_pos,-List.map_set,-objBelow,-depV,-q_zeroT_197]
 clear hS
 rw [rgF_fn r140 rfl (by kernel_rfl),hSD]
 rw [show (D++[DObj.arr 1 [.ref om 0 0],.arr 4 [.agg [numD 0,numD 0,nilS,nilS]],.arr 4 [.agg [intD m.sy,numD 0,nilS,nilS]],.arr 1 (L0.map bitD),.arr 1 [.row (D.length+3) 0 m.acc.length m.acc.length],.arr 1 [.ref om 0 0]]).length=D.length+6 by simp [-getElem?_pos,-List.map_set,-objBelow,-depV,-q_zeroT_197]]
 generalize hX:rangeEndD _ _ _=X
 obtain ⟨e0,e1,b0,b1,rfl⟩:∃ e0 e1,objBelow (D.length+7) e0=true∧objBelow (D.length+7) e1=true∧X=some (.nrm,⟨sS.tm,D++[.arr 1 [.ref om 0 0],.arr 4 [.agg [numD 0,numD 0,nilS,nilS]],.arr 4 [.agg [intD m.sy,numD 0,nilS,nilS]],.arr 1 (m.liveL.map bitD),.arr 1 [.row (D.length+3) 0 m.acc.length m.acc.length],.arr 1 [.ref om 0 0],.dead,e0,e1]⟩):=by
  rw [← hX]
  clear hX
  have homl:=ltOf h2
  apply canonRange m hm hsy hn om oa on x y D h2 h3 h4 _ _ _ _ ?_ _ _ _ _ _ L0 hL0 rfl rfl rfl ?_
  ·intro o ho
   simp only [List.mem_cons,List.not_mem_nil,or_false] at ho
   rcases ho with rfl | rfl | rfl | rfl
   ·simp [-getElem?_pos,-List.map_set,-objBelow,-depV,-q_zeroT_197];omega
   ·simp [-getElem?_pos,-List.map_set,-objBelow,-depV,-q_zeroT_197]
   ·simp [-getElem?_pos,-List.map_set,-objBelow,-depV,-q_zeroT_197]
   ·simp [-getElem?_pos,-List.map_set,-objBelow,-depV,-q_zeroT_197]
  ·intro lv s X hs hlv
   obtain ⟨w,hw⟩:∃ b,lv[s]? =some b:=⟨_,List.getElem?_eq_getElem (by omega)⟩
   simp (maxSteps:=2000000) [-getElem?_pos,-List.map_set,-objBelow,-depV,-q_zeroT_197,gp,zipD,ht5,hw,hs]
 have hll:=m.liveL_len
 obtain ⟨b,hb⟩:∃ b,m.liveL[0]? =some b:=⟨_,List.getElem?_eq_getElem (by omega)⟩
 have hbf:b=false:=by
  cases b with
  | true=>exact absurd hb hd
  | false=>rfl
 subst hbf
 simp (maxSteps:=2000000) [-getElem?_pos,-List.map_set,-objBelow,-depV,-q_zeroT_197,gp,ht1,ht2,ht4,ht5,hb,show ¬m.acc.length=0 by omega,show 0<m.acc.length by omega]
 trace_state
end Go.Dv
namespace Go.Dv
open Go Go.Sim Go.Proofs Go.Fsa
attribute [local simp] encI bitF autD b_neqB b_eqlB el_num set_num fz_num numD bitD el_bit set_bit fz_bit normF_strL bl_byte
theorem w109 (m:Aut) (hm:m.fine) (hsy:m.sy≤400) (hsy0:1≤m.sy) (hn:m.acc.length≤100000) (hn1:1≤m.acc.length) (om oa on:Nat) (x y:DV) (base:Nat) (D:DH)
  (h2:D[om]? =some (.arr 5 [.agg [intD m.sy,.apl oa m.acc.length,.apl on m.acc.length,x,y]])) (h3:D[oa]? =some (.app 4 1 (m.acc.map bitD))) (h4:D[on]? =some (.app 26 1 (m.nxt.map rowD)))
  (hd:m.liveL[0]? =some true) (clF:List Nat) (F0:Nat) (hF:iter (m.keysP m.liveL) F0 (numAll [] (m.begP m.liveL)).2.length (numAll [] (m.begP m.liveL)).1=some clF) (hcl:clF.length=m.acc.length) (hcb:∀ c∈clF,c<m.acc.length)
  (c0:Nat) (hc0:clF[0]? =some c0) (F:Nat) (qs:List Int) (rows:List (List Int)) (hex:exR id (m.succP m.liveL (clF.map fun c:Nat=>(c:Int))) 20001 F 0 [(c0:Int)]=some (qs,rows)) (hqs:qs.length≤20000) :
  callD Q 109 [.ref om 0 0] base D=some (.tup [autD ⟨m.sy,0,qs.map fun c=>m.accB (numK (clF.map fun c:Nat=>(c:Int)) c:Nat),rows⟩,boolD true],D):=by
 obtain ⟨AA,hAA⟩:∃ A,A=qs.map fun c=>m.accB (numK (clF.map fun c:Nat=>(c:Int)) c:Nat):=⟨_,rfl⟩
 rw [← hAA]
 rw [call_pure (fn:=Tryz.f109) (show Q.P.funcs[109]? =some Tryz.f109 from Tryz.func109) rfl ann109 rfl (by simp only [List.length_cons,List.length_nil];decide) (by kernel_rfl)]
 have gp:=gp109
 simp only [ann109,Tryz.f109,gpB_some,gpC_draw,gpC_reg,gpC_seq,gpC_cond,gpC_block,gpC_loop,gpC_range,gpC_skip,gpC_ret,gpC_exit,gpC_label,gpO_some,gpO_none,findN,Bool.and_eq_true,Bool.and_true,Bool.true_and,reduceIte,Nat.reduceEqDiff,true_and,and_true] at gp
 have g2:=fun X=>get_app (X:=X) h2
 have g3:=fun X=>get_app (X:=X) h3
 have g4:=fun X=>get_app (X:=X) h4
 have h127:=fun base D=>w127 om base D
 have r140:(Q.ann 140).raw=true:=by rw [ann140]
 obtain ⟨L0,hL0⟩:∃ L,L=List.replicate m.acc.length false:=⟨_,rfl⟩
 have hrep:List.replicate m.acc.length (DV.f (.raw (.bool false)))=L0.map bitD:=by rw [hL0];exact replD
 simp (maxSteps:=2000000) [-getElem?_pos,-List.map_set,-objBelow,-depV,-q_zeroT_197,gp,g2,g3,g4,h2,h3,h4,h127,hrep,show m.acc.length≤140737488355328 by omega,show m.acc.length<9223372036854775808 by omega]
 generalize hS:SD.mk _ _=sS
 have hSD:sS.D=D++[.arr 1 [.ref om 0 0],.arr 4 [.agg [numD 0,numD 0,nilS,nilS]],.arr 4 [.agg [intD m.sy,numD 0,nilS,nilS]],.arr 1 (L0.map bitD),.arr 1 [.row (D.length+3) 0 m.acc.length m.acc.length],.arr 1 [.ref om 0 0]]:=by rw [← hS];rfl
 have ht1:sS.tm.get 1=some (.ref D.length 0 0):=by rw [← hS];simp [-getElem?_pos,-List.map_set,-objBelow,-depV,-q_zeroT_197]
 have ht2:sS.tm.get 2=some (.ref (D.length+1) 0 0):=by rw [← hS];simp [-getElem?_pos,-List.map_set,-objBelow,-depV,-q_zeroT_197]
 have ht4:sS.tm.get 4=some (.ref (D.length+2) 0 0):=by rw [← hS];simp [-getElem?_pos,-List.map_set,-objBelow,-depV,-q_zeroT_197]
 have ht5:sS.tm.get 5=some (.ref (D.length+4) 0 0):=by rw [← hS];simp [-getElem?_pos,-List.map_set,-objBelow,-depV,-q_zeroT_197]
 clear hS
 rw [rgF_fn r140 rfl (by kernel_rfl),hSD]
 rw [show (D++[DObj.arr 1 [.ref om 0 0],.arr 4 [.agg [numD 0,numD 0,nilS,nilS]],.arr 4 [.agg [intD m.sy,numD 0,nilS,nilS]],.arr 1 (L0.map bitD),.arr 1 [.row (D.length+3) 0 m.acc.length m.acc.length],.arr 1 [.ref om 0 0]]).length=D.length+6 by simp [-getElem?_pos,-List.map_set,-objBelow,-depV,-q_zeroT_197]]
 generalize hX:rangeEndD _ _ _=X
 obtain ⟨e0,e1,b0,b1,rfl⟩:∃ e0 e1,objBelow (D.length+7) e0=true∧objBelow (D.length+7) e1=true∧X=some (.nrm,⟨sS.tm,D++[.arr 1 [.ref om 0 0],.arr 4 [.agg [numD 0,numD 0,nilS,nilS]],.arr 4 [.agg [intD m.sy,numD 0,nilS,nilS]],.arr 1 (m.liveL.map bitD),.arr 1 [.row (D.length+3) 0 m.acc.length m.acc.length],.arr 1 [.ref om 0 0],.dead,e0,e1]⟩):=by
  rw [← hX]
  clear hX
  have homl:=ltOf h2
  apply canonRange m hm hsy hn om oa on x y D h2 h3 h4 _ _ _ _ ?_ _ _ _ _ _ L0 hL0 rfl rfl rfl ?_
  ·intro o ho
   simp only [List.mem_cons,List.not_mem_nil,or_false] at ho
   rcases ho with rfl | rfl | rfl | rfl
   ·simp [-getElem?_pos,-List.map_set,-objBelow,-depV,-q_zeroT_197];omega
   ·simp [-getElem?_pos,-List.map_set,-objBelow,-depV,-q_zeroT_197]
   ·simp [-getElem?_pos,-List.map_set,-objBelow,-depV,-q_zeroT_197]
   ·simp [-getElem?_pos,-List.map_set,-objBelow,-depV,-q_zeroT_197]
  ·intro lv s X hs hlv
   obtain ⟨w,hw⟩:∃ b,lv[s]? =some b:=⟨_,List.getElem?_eq_getElem (by omega)⟩
   simp (maxSteps:=2000000) [-getElem?_pos,-List.map_set,-objBelow,-depV,-q_zeroT_197,gp,zipD,ht5,hw,hs]
 obtain ⟨lv,hlv⟩:∃ l,l=m.liveL:=⟨_,rfl⟩
 have hll:lv.length=m.acc.length:=by rw [hlv];exact m.liveL_len
 rw [← hlv] at hd hF hex
 rw [← hlv]
 obtain ⟨n,hnn⟩:∃ n,n=m.acc.length:=⟨_,rfl⟩
 obtain ⟨cI,hcI⟩:∃ l,l=clF.map fun c:Nat=>(c:Int):=⟨_,rfl⟩
 have hcIl:cI.length=n:=by rw [hcI,List.length_map,hcl,hnn]
 rw [← hcI] at hex hAA
 obtain ⟨D9,hD9⟩:∃ X,X=D++[.arr 1 [.ref om 0 0],.arr 4 [.agg [numD 0,numD 0,nilS,nilS]],.arr 4 [.agg [intD m.sy,numD 0,nilS,nilS]],.arr 1 (lv.map bitD),.arr 1 [.row (D.length+3) 0 m.acc.length m.acc.length],.arr 1 [.ref om 0 0],.dead,e0,e1]:=⟨_,rfl⟩
 have hM9:MachAt D9 D.length om oa on x y m:=by
  rw [hD9]
  exact ⟨by simp [-getElem?_pos,-List.map_set,-objBelow,-depV,-q_zeroT_197],get_app h2,get_app h3,get_app h4⟩
 have h59:D9[D.length+4]? =some (.arr 1 [.row (D.length+3) 0 m.acc.length m.acc.length]):=by rw [hD9];simp [-getElem?_pos,-List.map_set,-objBelow,-depV,-q_zeroT_197]
 have hl9:D9[D.length+3]? =some (.arr 1 (lv.map bitD)):=by rw [hD9];simp [-getElem?_pos,-List.map_set,-objBelow,-depV,-q_zeroT_197]
 have hlen9:D9.length=D.length+9:=by rw [hD9];simp [-getElem?_pos,-List.map_set,-objBelow,-depV,-q_zeroT_197]
 have h128:∀ base,callD Q 128 [intD m.acc.length,.fn 129 [] [.ref (D.length+4) 0 0,.ref D.length 0 0],.fn 130 [] [.ref (D.length+4) 0 0,.ref D.length 0 0]] base D9=some (rowD cI,D9):=fun base=>by
  have h:=w128 m.acc.length (by omega) (fun i=>((lv[i]?).getD false,(m.acc[i]?).getD false)) (fun cl i=>(keyAt lv m.nxt cl i).map UInt8.ofNat) clF F0 129 130 [] [.ref (D.length+4) 0 0,.ref D.length 0 0] [] [.ref (D.length+4) 0 0,.ref D.length 0 0] base D9
   (by simp [-getElem?_pos,-List.map_set,-objBelow,-depV,-q_zeroT_197]) (by simp [-getElem?_pos,-List.map_set,-objBelow,-depV,-q_zeroT_197,hlen9]) (by simp [-getElem?_pos,-List.map_set,-objBelow,-depV,-q_zeroT_197]) (by simp [-getElem?_pos,-List.map_set,-objBelow,-depV,-q_zeroT_197,hlen9])
   (fun X i hi=>by
    obtain ⟨b,b',hb,hb',hw⟩:=w129 m lv hll i hi D.length om oa on (D.length+4) (D.length+3) x y D9.length (D9++X) hM9.app (get_app h59) (get_app hl9)
    simp only [hb,hb',Option.getD_some]
    exact hw)
   (fun X cl i h1 h2 hi=>w130 m hm hsy lv hll cl h1 (fun c hc=>by have:=h2 c hc;omega) i hi D.length om oa on (D.length+4) (D.length+3) x y D9.length (D9++X) hM9.app (get_app h59) (get_app hl9))
   hF
  unfold natD at h
  rw [← hcI] at h
  exact h
 rw [hD9] at h128
 simp only [intD,rowD,rowF,numD] at h128
 have hom:∀ k,om<D.length+k:=fun k=>by have:=ltOf h2;omega
 have be0:objBelow (D.length+12) e0=true:=objBelow_le (by omega) e0 b0
 have be1:objBelow (D.length+12) e1=true:=objBelow_le (by omega) e1 b1
 simp (maxSteps:=2000000) [-getElem?_pos,-List.map_set,-objBelow,-depV,-q_zeroT_197,gp,ht1,ht2,ht4,ht5,hd,hll,g2,g3,g4,h128,hom,be0,be1,hcIl,show ¬m.acc.length=0 by omega,show 0<m.acc.length by omega]
 generalize hX:loopG _ _ _=X
 obtain ⟨tm,ks,rfl,hks,t1,t2,t4,t5,t7,t8⟩:∃ (tm:Trie DV) (ks:List Int),X=some (.exit 2,⟨tm,D++[.arr 1 [.ref om 0 0],.arr 4 [.agg [numD 0,numD 0,nilS,nilS]],.arr 4 [.agg [intD m.sy,numD 0,nilS,nilS]],.arr 1 (lv.map bitD),.arr 1 [.row (D.length+3) 0 m.acc.length m.acc.length],.arr 1 [.ref om 0 0],.dead,e0,e1,.arr 1 [rowD cI],.map (ks.map encI) ((ks.map fun c=>((numK cI c:Nat):Int)).map numD),.arr 1 [.mp (D.length+10)]]⟩)∧ks=(numAll [] cI).2∧tm.get 1=some (.ref D.length 0 0)∧tm.get 2=some (.ref (D.length+1) 0 0)∧tm.get 4=some (.ref (D.length+2) 0 0)∧tm.get 5=some (.ref (D.length+4) 0 0)∧tm.get 7=some (.ref (D.length+9) 0 0)∧tm.get 8=some (.ref (D.length+11) 0 0):=by
  rw [← hX]
  clear hX hex hF
  generalize hs36:SD.mk _ _=sd36
  revert sd36
  refine wl (fun p:Nat×List Int×List Int=>⟨((((((((Trie.leaf.put 53 (intD p.1)).put 52 (intD n)).put 51 (rowD cI)).put 8 (.ref (D.length+11) 0 0)).put 7 (.ref (D.length+9) 0 0)).put 5 (.ref (D.length+4) 0 0)).put 4 (.ref (D.length+2) 0 0)).put 2 (.ref (D.length+1) 0 0)).put 1 (.ref D.length 0 0),D++[.arr 1 [.ref om 0 0],.arr 4 [.agg [numD 0,numD 0,nilS,nilS]],.arr 4 [.agg [intD m.sy,numD 0,nilS,nilS]],.arr 1 (lv.map bitD),.arr 1 [.row (D.length+3) 0 m.acc.length m.acc.length],.arr 1 [.ref om 0 0],.dead,e0,e1,.arr 1 [rowD cI],.map (p.2.1.map encI) (p.2.2.map numD),.arr 1 [.mp (D.length+10)]]⟩) (fun p=>p.1≤n∧p.2.1=(numAll [] (cI.take p.1)).2∧p.2.2=p.2.1.map fun c=>((numK cI c:Nat):Int)) (fun p=>n-p.1) ?_ (0,[],[]) ⟨Nat.zero_le _,rfl,rfl⟩
  rintro ⟨i,ks,vs⟩ ⟨hi,hks,hvs⟩ ih
  simp only at hi hks hvs ih
  rw [loopG_eq]
  by_cases hlt:i<n
  case neg=>
   rw [List.take_of_length_le (by omega)] at hks
   simp (maxSteps:=2000000) [-getElem?_pos,-List.map_set,-objBelow,-depV,-q_zeroT_197,gp,hlt]
   exact ⟨_,ks,⟨rfl,rfl,by rw [hvs];simp [-getElem?_pos,-List.map_set,-objBelow,-depV,-q_zeroT_197]⟩,hks,by simp [-getElem?_pos,-List.map_set,-objBelow,-depV,-q_zeroT_197]⟩
  obtain ⟨c,hc⟩:∃ c,cI[i]? =some c:=⟨_,List.getElem?_eq_getElem (by omega)⟩
  have hct:cI.take (i+1)=cI.take i++[c]:=by rw [List.take_add_one,hc];rfl
  have hww:=wrap_succ (show i+1≤9223372036854775807 by omega)
  have hfnd:findT Tryz.prog 3 (.int .i64 c) (keyEs (ks.map encI))=some (ks.findIdx? fun y=>decide (c=y)):=key3.find ks c
  by_cases hm':c∈ks
  ·rw [find_in hm'] at hfnd
   obtain ⟨j,hj⟩:∃ j,j=numK ks c:=⟨_,rfl⟩
   have hjl:j<ks.length:=by rw [hj];exact numK_lt hm'
   obtain ⟨v,hv⟩:∃ v,vs[j]? =some v:=⟨_,List.getElem?_eq_getElem (by rw [hvs,List.length_map];exact hjl)⟩
   rw [← hj] at hfnd
   have ih':=ih (i+1,ks,vs) ⟨by simp only;omega,by simp only;rw [hct,numAll_snoc,← hks];unfold addK;rw [if_pos hm'],hvs⟩ (by simp only;omega)
   simp (maxSteps:=2000000) [-getElem?_pos,-List.map_set,-objBelow,-depV,-q_zeroT_197] at ih'
   simp (maxSteps:=2000000) [-getElem?_pos,-List.map_set,-objBelow,-depV,-q_zeroT_197,gp,hlt,hc,hfnd,hv,hom,be0,be1,hww]
   exact ih'
  ·rw [find_out hm'] at hfnd
   have hnk:numK cI c=i:=numK_of hc fun j hj hn'=>by
    apply hm'
    rw [hks,mem_numAll]
    right
    exact List.mem_of_getElem? (show (cI.take i)[j]? =some c by rw [List.getElem?_take_of_lt hj];exact hn')
   have ih':=ih (i+1,ks++[c],vs++[(i:Int)]) ⟨by simp only;omega,by simp only;rw [hct,numAll_snoc,← hks];unfold addK;rw [if_neg hm'],by simp only;rw [List.map_append,hvs,List.map_cons,List.map_nil,hnk]⟩ (by simp only;omega)
   simp (maxSteps:=2000000) [-getElem?_pos,-List.map_set,-objBelow,-depV,-q_zeroT_197] at ih'
   simp (maxSteps:=2000000) [-getElem?_pos,-List.map_set,-objBelow,-depV,-q_zeroT_197,gp,hlt,hc,hfnd,hom,be0,be1,hww]
   exact ih'
 clear hX
 obtain ⟨D12,hD12⟩:∃ X,X=D++[.arr 1 [.ref om 0 0],.arr 4 [.agg [numD 0,numD 0,nilS,nilS]],.arr 4 [.agg [intD m.sy,numD 0,nilS,nilS]],.arr 1 (lv.map bitD),.arr 1 [.row (D.length+3) 0 m.acc.length m.acc.length],.arr 1 [.ref om 0 0],.dead,e0,e1,.arr 1 [rowD cI],.map (ks.map encI) ((ks.map fun c=>((numK cI c:Nat):Int)).map numD),.arr 1 [.mp (D.length+10)]]:=⟨_,rfl⟩
 have hM12:MachAt D12 D.length om oa on x y m:=by
  rw [hD12]
  exact ⟨by simp [-getElem?_pos,-List.map_set,-objBelow,-depV,-q_zeroT_197],get_app h2,get_app h3,get_app h4⟩
 have h8:MembAt D12 (D.length+11) (D.length+10) cI ks:=by
  rw [hD12]
  exact ⟨by simp [-getElem?_pos,-List.map_set,-objBelow,-depV,-q_zeroT_197],by simp [-getElem?_pos,-List.map_set,-objBelow,-depV,-q_zeroT_197]⟩
 have h5:D12[D.length+4]? =some (.arr 1 [.row (D.length+3) 0 m.acc.length m.acc.length]):=by rw [hD12];simp [-getElem?_pos,-List.map_set,-objBelow,-depV,-q_zeroT_197]
 have hl:D12[D.length+3]? =some (.arr 1 (lv.map bitD)):=by rw [hD12];simp [-getElem?_pos,-List.map_set,-objBelow,-depV,-q_zeroT_197]
 have h7:D12[D.length+9]? =some (.arr 1 [rowD cI]):=by rw [hD12];simp [-getElem?_pos,-List.map_set,-objBelow,-depV,-q_zeroT_197]
 have hlen12:D12.length=D.length+12:=by rw [hD12];simp [-getElem?_pos,-List.map_set,-objBelow,-depV,-q_zeroT_197]
 have hkm:∀ c,c∈ks↔c∈cI:=fun c=>by rw [hks,mem_numAll];simp [-getElem?_pos,-List.map_set,-objBelow,-depV,-q_zeroT_197]
 have hki:∀ c,c∈ks→numK cI c<m.acc.length:=fun c h=>by have:=numK_lt ((hkm c).1 h);omega
 have hc0I:cI[0]? =some (c0:Int):=by rw [hcI,List.getElem?_map,hc0];rfl
 obtain ⟨O1,O2,fi,bs,hx⟩:=w110 m.sy.toNat 20001 c0 (m.succP lv cI) (fun c=>m.accB (numK cI c:Nat)) (fun c=>c∈ks) F qs rows 132 133 [] [.ref D.length 0 0,.ref (D.length+11) 0 0,.ref (D.length+4) 0 0,.ref (D.length+9) 0 0] [] [.ref D.length 0 0,.ref (D.length+11) 0 0] D.length D12
  hex ((hkm _).2 (List.mem_of_getElem? hc0I)) (fun c _ t ht=>by
   unfold Aut.succP at ht
   obtain ⟨k,hk,e⟩:=List.mem_map.1 ht
   split at e
   ·rename_i hg
    simp only [Option.some.injEq] at e
    have hgf:=Aut.go_fine hm (x:=(numK cI c:Nat)) (c:=k)
    obtain ⟨d,hd⟩:∃ d,cI[(m.go (numK cI c:Nat) k).toNat]? =some d:=⟨_,List.getElem?_eq_getElem (by omega)⟩
    rw [hd,Option.getD_some] at e
    rw [← e]
    exact (hkm d).2 (List.mem_of_getElem? hd)
   ·cases e) (fun c=>by simp [-getElem?_pos,-List.map_set,-objBelow,-depV,-q_zeroT_197,Aut.succP]) (by omega) (by omega) (by omega) (by omega)
  (by
   rw [hlen12,hD12,app_drop0]
   simp [-getElem?_pos,-List.map_set,-objBelow,-depV,-q_zeroT_197,hom,be0,be1]) (by simp [-getElem?_pos,-List.map_set,-objBelow,-depV,-q_zeroT_197]) (by simp [-getElem?_pos,-List.map_set,-objBelow,-depV,-q_zeroT_197,hlen12]) (by simp [-getElem?_pos,-List.map_set,-objBelow,-depV,-q_zeroT_197]) (by simp [-getElem?_pos,-List.map_set,-objBelow,-depV,-q_zeroT_197,hlen12]) (by rw [ann133])
  (fun c k o hc ho=>by
   have hk:=lt_of_get ho
   simp only [Aut.succP,List.length_map,List.length_range] at hk
   unfold Aut.succP at ho
   rw [List.getElem?_map,List.getElem?_range hk,Option.map_some,Option.some.injEq] at ho
   have hw:=fun X=>w132 m hm lv hll cI ks (by omega) c hc (hki c hc) k (by omega) D.length om oa on (D.length+11) (D.length+10) (D.length+4) (D.length+3) (D.length+9) x y D.length (D12++X) hM12.app h8.app (get_app h5) (get_app hl) (get_app h7)
   by_cases hg:0≤m.go (numK cI c:Nat) k∧lv[(m.go (numK cI c:Nat) k).toNat]? =some true
   ·rw [if_pos hg] at ho
    refine ⟨(cI[(m.go (numK cI c:Nat) k).toNat]?).getD 0,fun X=>?_,.inl ho.symm⟩
    have hz:=hw X
    rw [if_pos hg,if_pos hg] at hz
    rw [← ho]
    exact hz
   ·rw [if_neg hg] at ho
    refine ⟨0,fun X=>?_,.inr ho.symm⟩
    have hz:=hw X
    rw [if_neg hg,if_neg hg] at hz
    rw [← ho]
    exact hz)
  (fun X c hc=>w133 m cI ks c hc (hki c hc) D.length om oa on (D.length+11) (D.length+10) x y D.length (D12++X) hM12.app h8.app)
 rw [hlen12] at hx
 rw [hD12] at hx
 obtain ⟨vs,hvs⟩:∃ vs,vs=ks.map fun c=>((numK cI c:Nat):Int):=⟨_,rfl⟩
 have hAl:AA.length=qs.length:=by rw [hAA,List.length_map]
 have hrl:rows.length=qs.length:=by simpa [-getElem?_pos,-List.map_set,-objBelow,-depV,-q_zeroT_197] using (exR_spec hex).2.1 (Nat.zero_le _)
 rw [← hvs,← hAA] at hx
 rw [← hvs]
 simp only [Nat.add_assoc,Nat.reduceAdd,List.append_assoc,List.cons_append,List.nil_append,intD,boolD,rowD,rowF,numD,Int.toNat_of_nonneg (show 0≤m.sy by omega),show ((20001:Nat):Int)=20001 from rfl] at hx
 have r110:(Q.ann 110).raw=true:=by rw [ann110]
 have hfz:∀ b D,frzL (frz b D 3) (rows.map rowD)=some (rows.map rowF,[]):=fun b D=>fzL_map fun _=>rfl
 simp (maxSteps:=2000000) [-getElem?_pos,-List.map_set,-objBelow,-depV,-q_zeroT_197,gp,t1,t2,t4,t5,t7,t8,g2,g3,g4,hc0I,r110,hx,hAl,hrl,hfz,show ¬(20000:Int)<qs.length by omega,show ¬20000<qs.length by omega]
 trace_state
end Go.Dv
namespace Go.Dv
open Go Go.Sim Go.Proofs Go.Fsa
attribute [local simp] encI bitF autD b_neqB b_eqlB el_num set_num fz_num numD bitD el_bit set_bit fz_bit normF_strL bl_byte
theorem w109_all (a:Aut) (hv:a.valid) (om oa on:Nat) (x y:DV) (base:Nat) (D:DH)
  (h2:D[om]? =some (.arr 5 [.agg [intD a.wh.sy,.apl oa a.wh.acc.length,.apl on a.wh.acc.length,x,y]])) (h3:D[oa]? =some (.app 4 1 (a.wh.acc.map bitD))) (h4:D[on]? =some (.app 26 1 (a.wh.nxt.map rowD))) :
  callD Q 109 [.ref om 0 0] base D=some (.tup [autD a.can,boolD true],D):=by
 have hm:=wh_fine hv
 obtain ⟨_,s2,s3,s4,_⟩:=wh_spec hv
 have hl:=lt_of_get s2
 have hle:=dom_len s3 s4
 have hmost:=hv.most
 have hlen:=hv.len
 have hlo:=hv.lo
 have hhi:=hv.hi
 have hwl:=wh_len (a:=a)
 have hsy:a.wh.sy=a.sy:=rfl
 by_cases h0:a.wh.liveL[0]? =some true
 ·obtain ⟨cl,c1,c2,c3⟩:=clP_ex hm (by omega)
  obtain ⟨c0,hc0⟩:∃ c,cl[0]? =some c:=⟨_,List.getElem?_eq_getElem (by rw [c2.len];omega)⟩
  obtain ⟨q,q1,q2,q3⟩:=can_prog hv h0 c2 c3 hc0
  rw [q3]
  exact w109 a.wh hm (by omega) (by omega) (by omega) (by omega) om oa on x y base D h2 h3 h4 h0 cl _ c1 c2.len c2.hi c0 hc0 _ q _ q1 q2
 ·have hc:a.can=⟨a.sy,0,[],[]⟩:=by
   unfold Aut.can
   rw [if_pos]
   have h1:¬0≤clAt a.cls a.begin:=fun h=>h0 ((beg_live hv).1 h)
   omega
  rw [hc]
  exact w109_none a.wh hm (by omega) (by omega) (by omega) (by omega) om oa on x y base D h2 h3 h4 h0
theorem w61 (a:Aut) (hv:a.valid) (om oa on:Nat) (x y:DV) (base:Nat) (D:DH)
  (h2:D[om]? =some (.arr 5 [.agg [intD a.wh.sy,.apl oa a.wh.acc.length,.apl on a.wh.acc.length,x,y]])) (h3:D[oa]? =some (.app 4 1 (a.wh.acc.map bitD))) (h4:D[on]? =some (.app 26 1 (a.wh.nxt.map rowD))) :
  callD Q 61 [.ref om 0 0,boolD true] base D=some (autO a.can 0,D):=by
 rw [call_pure (fn:=Tryz.f61) (show Q.P.funcs[61]? =some Tryz.f61 from Tryz.func61) rfl ann61 rfl (by simp only [List.length_cons,List.length_nil];decide) (by kernel_rfl)]
 have gp:=gp61
 simp only [ann61,Tryz.f61,gpB_some,gpC_draw,gpC_reg,gpC_seq,gpC_cond,gpC_block,gpC_loop,gpC_range,gpC_skip,gpC_ret,gpC_exit,gpC_label,gpO_some,gpO_none,findN,Bool.and_eq_true,Bool.and_true,Bool.true_and,reduceIte,Nat.reduceEqDiff,true_and,and_true] at gp
 have h:=fun b X=>w109_all a hv om oa on x y b (D++X) (get_app h2) (get_app h3) (get_app h4)
 obtain ⟨c,hc⟩:∃ c,c=a.can:=⟨_,rfl⟩
 rw [← hc] at h ⊢
 simp only [autD,boolD,intD] at h
 simp (maxSteps:=2000000) [-getElem?_pos,-List.map_set,-objBelow,-depV,-q_zeroT_197,gp,h,autO]
 trace_state
theorem w17 (a:Aut) (hn:a.nxt.length<1152921504606846976) (base:Nat) (D:DH):callD Q 17 [autD a] base D=some (autO a.canon.1 a.canon.2,D):=by
 rw [call_pure (fn:=Tryz.f17) (show Q.P.funcs[17]? =some Tryz.f17 from Tryz.func17) rfl ann17 rfl (by simp only [List.length_cons,List.length_nil];decide) (by kernel_rfl)]
 have gp:=gp17
 simp only [ann17,Tryz.f17,gpB_some,gpC_draw,gpC_reg,gpC_seq,gpC_cond,gpC_block,gpC_loop,gpC_range,gpC_skip,gpC_ret,gpC_exit,gpC_label,gpO_some,gpO_none,findN,Bool.and_eq_true,Bool.and_true,Bool.true_and,reduceIte,Nat.reduceEqDiff,true_and,and_true] at gp
 have h18:=fun b D=>w18 a hn b D
 simp only [autD,intD] at h18
 by_cases hv:a.valid
 ·have hck:a.check=0:=Aut.check_valid.2 hv
  rw [canon_1 hv,canon_ok.2 hv]
  obtain ⟨O1,O2,fi,bs,h62⟩:=w62 a hv D.length (D++[.arr 4 [autD a],.arr 4 [.agg [numD 0,numD 0,nilS,nilS]]]) (by simp [-getElem?_pos,-List.map_set,-objBelow,-depV,-q_zeroT_197]) (by rw [app_drop0];simp [-getElem?_pos,-List.map_set,-objBelow,-depV,-q_zeroT_197,ob_arr])
  have h61:=fun b=>w61 a hv (D.length+3) (D.length+8) (D.length+9) (qV (D.length+6) a.wh.acc.length) (qV (D.length+7) a.wh.acc.length) b (D++[.arr 4 [autD a],.arr 4 [.agg [numD 0,numD 0,nilS,nilS]]]++(.arr 4 [autD a]::machD (D.length+3) a.wh O1 O2 fi bs)) (by simp [-getElem?_pos,-List.map_set,-objBelow,-depV,-q_zeroT_197,machD]) (by simp [-getElem?_pos,-List.map_set,-objBelow,-depV,-q_zeroT_197,machD]) (by simp [-getElem?_pos,-List.map_set,-objBelow,-depV,-q_zeroT_197,machD])
  obtain ⟨c,hc⟩:∃ c,c=a.can:=⟨_,rfl⟩
  rw [← hc] at h61 ⊢
  simp (maxSteps:=2000000) [-getElem?_pos,-List.map_set,-objBelow,-depV,-q_zeroT_197,machD,autO] at h62 h61
  simp (maxSteps:=2000000) [-getElem?_pos,-List.map_set,-objBelow,-depV,-q_zeroT_197,gp,h18,hck,h62,h61,autO]
  trace_state
 ·have hck:a.check=60:=by simp [-getElem?_pos,-List.map_set,-objBelow,-depV,-q_zeroT_197,Aut.check,hv]
  have e:a.canon=(⟨0,0,[],[]⟩,60):=by unfold Aut.canon;rw [if_neg hv]
  rw [e]
  simp (maxSteps:=2000000) [-getElem?_pos,-List.map_set,-objBelow,-depV,-q_zeroT_197,gp,h18,hck,autO]
  trace_state
theorem w23 (a:Aut) (hn:a.nxt.length<1152921504606846976) (base:Nat) (D:DH):callD Q 23 [autD a] base D=some (boolD a.isCanon,D):=by
 rw [call_pure (fn:=Tryz.f23) (show Q.P.funcs[23]? =some Tryz.f23 from Tryz.func23) rfl ann23 rfl (by simp only [List.length_cons,List.length_nil];decide) (by kernel_rfl)]
 have gp:=gp23
 simp only [ann23,Tryz.f23,gpB_some,gpC_draw,gpC_reg,gpC_seq,gpC_cond,gpC_block,gpC_loop,gpC_range,gpC_skip,gpC_ret,gpC_exit,gpC_label,gpO_some,gpO_none,findN,Bool.and_eq_true,Bool.and_true,Bool.true_and,reduceIte,Nat.reduceEqDiff,true_and,and_true] at gp
 have h17:=fun D'=>w17 a hn D.length D'
 simp only [autD,autO,intD] at h17
 by_cases he:a.canon.2=0
 ·have hv:=canon_ok.1 he
  have hlo:=hv.lo
  have hhi:=hv.hi
  have hmost:=hv.most
  have hlen:=hv.len
  obtain ⟨c1,c2,c3⟩:=can_rows hv
  rw [← canon_1 hv] at c1 c2 c3
  have h25:=fun D'=>w25 a a.canon.1 (by omega) (by omega) (by omega) (by omega) (fun r hr=>by have:=(hv.rows r hr).1;omega) (fun r hr=>by have:=c1 r hr;omega) D.length D'
  simp only [autD,boolD] at h25
  have e:a.isCanon=sameA a a.canon.1:=by unfold Aut.isCanon sameA;simp [-getElem?_pos,-List.map_set,-objBelow,-depV,-q_zeroT_197,he]
  rw [e]
  simp (maxSteps:=2000000) [-getElem?_pos,-List.map_set,-objBelow,-depV,-q_zeroT_197,gp,h17,h25,he]
 ·have e:a.isCanon=false:=by unfold Aut.isCanon;simp [-getElem?_pos,-List.map_set,-objBelow,-depV,-q_zeroT_197,he]
  rw [e]
  simp (maxSteps:=2000000) [-getElem?_pos,-List.map_set,-objBelow,-depV,-q_zeroT_197,gp,h17,he]
end Go.Dv
namespace Go.Fsa
def Aut.small (a:Aut):Prop:=a.acc.length≤41∧a.nxt.length≤41∧∀ r∈a.nxt,r.length≤450
instance (a:Aut):Decidable a.small:=inferInstanceAs (Decidable (_∧_))
end Go.Fsa
namespace Go.Dv
open Go Go.Sim Go.Proofs Go.Fsa
attribute [local simp] encI bitF autD b_neqB b_eqlB el_num set_num fz_num numD bitD el_bit set_bit fz_bit normF_strL bl_byte
theorem w12 (l:List Aut) (hl:l.length≤1000) (h:∀ a∈l,a.nxt.length<1152921504606846976) (o base:Nat) (D:DH) (ho:D[o]? =some (.arr 4 (l.map autD))) :
  callD Q 12 [.row o 0 l.length l.length] base D=some (boolD (decide (∀ a∈l,a.small)),D):=by
 rw [call_pure (fn:=Tryz.f12) (show Q.P.funcs[12]? =some Tryz.f12 from Tryz.func12) rfl ann12 rfl (by simp only [List.length_cons,List.length_nil];decide) (by kernel_rfl)]
 have gp:=gp12
 simp only [ann12,Tryz.f12,gpB_some,gpC_draw,gpC_reg,gpC_seq,gpC_cond,gpC_block,gpC_loop,gpC_range,gpC_skip,gpC_ret,gpC_exit,gpC_label,gpO_some,gpO_none,findN,Bool.and_eq_true,Bool.and_true,Bool.true_and,reduceIte,Nat.reduceEqDiff,true_and,and_true] at gp
 have g:=fun X=>get_app (X:=X) ho
 have hol:∀ k,o<D.length+k:=fun k=>by have:=ltOf ho;omega
 have hol0:=ltOf ho
 simp (maxSteps:=2000000) [-getElem?_pos,-List.map_set,-objBelow,-depV,-q_zeroT_197,gp,g,hol,hol0]
 generalize hs37:SD.mk _ _=sd37
 revert sd37
 refine wl (fun i:Nat=>⟨(Trie.leaf.put 3 (intD i)).put 0 (.row o 0 l.length l.length),D⟩) (fun i=>i≤l.length∧∀ a∈l.take i,a.small) (fun i=>l.length-i) ?_ 0 ⟨Nat.zero_le _,fun a h=>(by simp [-getElem?_pos,-List.map_set,-objBelow,-depV,-q_zeroT_197] at h)⟩
 intro i ⟨hi,hs⟩ ih
 rw [loopG_eq]
 by_cases hlt:i<l.length
 case neg=>
  rw [List.take_of_length_le (by omega)] at hs
  simp (maxSteps:=2000000) [-getElem?_pos,-List.map_set,-objBelow,-depV,-q_zeroT_197,gp,ho,g,hlt]
  exact hs
 obtain ⟨a,ha⟩:∃ a,l[i]? =some a:=⟨_,List.getElem?_eq_getElem hlt⟩
 have ham:=List.mem_of_getElem? ha
 have han:=h a ham
 have hfail:¬a.small→(decide (∀ a∈l,a.small))=false:=fun hn=>decide_eq_false fun hh=>hn (hh a ham)
 have hww:=wrap_succ (show i+1≤9223372036854775807 by omega)
 by_cases c1:a.acc.length≤41
 case neg=>
  rw [hfail fun hh=>c1 hh.1]
  simp (maxSteps:=2000000) [-getElem?_pos,-List.map_set,-objBelow,-depV,-q_zeroT_197,gp,ho,g,hlt,ha,show (41:Int)<a.acc.length by omega,show 41<a.acc.length by omega]
 by_cases c2:a.nxt.length≤41
 case neg=>
  rw [hfail fun hh=>c2 hh.2.1]
  simp (maxSteps:=2000000) [-getElem?_pos,-List.map_set,-objBelow,-depV,-q_zeroT_197,gp,ho,g,hlt,ha,show ¬(41:Int)<a.acc.length by omega,show (41:Int)<a.nxt.length by omega,show ¬41<a.acc.length by omega,show 41<a.nxt.length by omega]
 simp (maxSteps:=2000000) [-getElem?_pos,-List.map_set,-objBelow,-depV,-q_zeroT_197,gp,ho,g,hol,hol0,hlt,ha,show ¬(41:Int)<a.acc.length by omega,show ¬(41:Int)<a.nxt.length by omega,show ¬41<a.acc.length by omega,show ¬41<a.nxt.length by omega]
 by_cases c3:∀ r∈a.nxt,r.length≤450
 ·generalize hX:loopG _ _ _=X
  obtain ⟨tm,rfl,t0,t3⟩:∃ tm,X=some (.exit 2,⟨tm,D++[.arr 4 [autD a]]⟩)∧tm.get 0=some (.row o 0 l.length l.length)∧tm.get 3=some (intD i):=by
   rw [← hX]
   clear hX ih
   generalize hs38:SD.mk _ _=sd38
   revert sd38
   refine wl (fun k:Nat=>⟨(((Trie.leaf.put 5 (intD k)).put 4 (.ref D.length 0 0)).put 3 (intD i)).put 0 (.row o 0 l.length l.length),D++[.arr 4 [autD a]]⟩) (fun k=>k≤a.nxt.length) (fun k=>a.nxt.length-k) ?_ 0 (Nat.zero_le _)
   intro k hk ih
   rw [loopG_eq]
   by_cases hks:k<a.nxt.length
   ·obtain ⟨r,hr⟩:∃ r,a.nxt[k]? =some r:=⟨_,List.getElem?_eq_getElem hks⟩
    have hrl:=c3 r (List.mem_of_getElem? hr)
    have ih':=ih (k+1) (by omega) (by omega)
    simp (maxSteps:=2000000) [-getElem?_pos,-List.map_set,-objBelow,-depV,-q_zeroT_197] at ih'
    simp (maxSteps:=2000000) [-getElem?_pos,-List.map_set,-objBelow,-depV,-q_zeroT_197,gp,hol,hks,hr,show ¬(450:Int)<r.length by omega,show ¬450<r.length by omega,wrap_succ (show k+1≤9223372036854775807 by omega)]
    exact ih'
   ·simp (maxSteps:=2000000) [-getElem?_pos,-List.map_set,-objBelow,-depV,-q_zeroT_197,gp,hks]
  clear hX
  have ih':=ih (i+1) ⟨by omega,fun b hb=>by
   rw [List.take_add_one,ha] at hb
   rcases List.mem_append.1 hb with h | h
   ·exact hs b h
   ·simp only [Option.toList,List.mem_singleton] at h;rw [h];exact ⟨c1,c2,c3⟩⟩ (by omega)
  simp (maxSteps:=2000000) [-getElem?_pos,-List.map_set,-objBelow,-depV,-q_zeroT_197] at ih'
  simp (maxSteps:=2000000) [-getElem?_pos,-List.map_set,-objBelow,-depV,-q_zeroT_197,gp,hol,hol0,t0,t3,hww]
  exact ih'
 ·rw [hfail fun hh=>c3 hh.2.2]
  generalize hX:loopG _ _ _=X
  obtain ⟨tm,E,rfl,t2⟩:∃ (tm:Trie DV) (E:DH),X=some (.ret,⟨tm,D++E⟩)∧tm.get 2=some (boolD false):=by
   rw [← hX]
   clear hX ih
   generalize hs39:SD.mk _ _=sd39
   revert sd39
   refine wl (fun k:Nat=>⟨(((Trie.leaf.put 5 (intD k)).put 4 (.ref D.length 0 0)).put 3 (intD i)).put 0 (.row o 0 l.length l.length),D++[.arr 4 [autD a]]⟩) (fun k=>k≤a.nxt.length∧∀ r∈a.nxt.take k,r.length≤450) (fun k=>a.nxt.length-k) ?_ 0 ⟨Nat.zero_le _,fun r h=>(by simp [-getElem?_pos,-List.map_set,-objBelow,-depV,-q_zeroT_197] at h)⟩
   intro k ⟨hk,hkr⟩ ih
   rw [loopG_eq]
   have hks:k<a.nxt.length:=by
    rcases Nat.lt_or_ge k a.nxt.length with g | g
    ·exact g
    ·rw [List.take_of_length_le g] at hkr;exact absurd hkr c3
   obtain ⟨r,hr⟩:∃ r,a.nxt[k]? =some r:=⟨_,List.getElem?_eq_getElem hks⟩
   by_cases hrl:r.length≤450
   ·have ih':=ih (k+1) ⟨by omega,fun s hs'=>by
     rw [List.take_add_one,hr] at hs'
     rcases List.mem_append.1 hs' with h | h
     ·exact hkr s h
     ·simp only [Option.toList,List.mem_singleton] at h;rw [h];exact hrl⟩ (by omega)
    simp (maxSteps:=2000000) [-getElem?_pos,-List.map_set,-objBelow,-depV,-q_zeroT_197] at ih'
    simp (maxSteps:=2000000) [-getElem?_pos,-List.map_set,-objBelow,-depV,-q_zeroT_197,gp,hol,hks,hr,show ¬(450:Int)<r.length by omega,show ¬450<r.length by omega,wrap_succ (show k+1≤9223372036854775807 by omega)]
    exact ih'
   ·simp (maxSteps:=2000000) [-getElem?_pos,-List.map_set,-objBelow,-depV,-q_zeroT_197,gp,hks,hr,show (450:Int)<r.length by omega,show 450<r.length by omega]
  simp (maxSteps:=2000000) [-getElem?_pos,-List.map_set,-objBelow,-depV,-q_zeroT_197,gp,t2]
end Go.Dv
namespace Go.Dv
open Go Go.Sim Go.Proofs Go.Fsa
attribute [local simp] encI bitF autD b_neqB b_eqlB el_num set_num fz_num numD bitD el_bit set_bit fz_bit normF_strL bl_byte
theorem eqD_agg {D:DH} {l:List DV}:eqD D (.agg l)=l.all (eq1D D):=rfl
theorem eq1_int {D:DH} {k:IntKind} {n:Int}:eq1D D (.f (.raw (.int k n)))=true:=by
 show (eqV1 (.int k n) (.int k n)&&oneCell (.int k n))=true
 rw [show oneCell (.int k n)=true from rfl,Bool.and_true]
 show (match eqK k k with
  | true=>eqI n n
  | false=>false)=true
 rw [show eqK k k=true by cases k<;>rfl]
 rw [eqI_eq];simp [-getElem?_pos,-List.map_set,-objBelow,-depV,-q_zeroT_197]
theorem eq1_bool {D:DH} {b:Bool}:eq1D D (.f (.raw (.bool b)))=true:=by cases b<;>rfl
theorem eq1_lst {D:DH} {l:List FV}:eq1D D (.f (.lst l))=true:=rfl
noncomputable def agW (b:Bool):Option Bool→Bool
 | some true=>b
 | some false=>true
 | none=>false
theorem agO_g {nt:Nat} {all:List Oper} {tm:Trie DV} {cl:List (Nat×Option Nat)} {D:DH} {i d:Nat} {op:Op} {ty:TypeId} {pos:String} {aft:Array Edge} {g:Nat×Bool}:agO nt all tm cl D i (some ⟨some d,op,ty,pos,aft,some g⟩)=agW (hasD i cl&&(decide (d<nt)&&((tm.get d).map (eqD D)).getD false)) (wantD all tm (some g)):=by
 unfold agO agW
 simp only
 rcases wantD all tm (some g) with _ | b
 ·rfl
 ·cases b<;>rfl
theorem agW_t {b:Bool}:agW b (some true)=b:=rfl
theorem agW_f {b:Bool}:agW b (some false)=true:=rfl
attribute [local simp] agO_g agW_t agW_f
attribute [local simp] eqD_agg eq1_int eq1_bool eq1_lst
theorem sameA_refl (a:Aut):sameA a a=true:=by simp [-getElem?_pos,-List.map_set,-objBelow,-depV,-q_zeroT_197,sameA]
end Go.Dv
set_option maxHeartbeats 2000000
namespace Go.Dv
open Go Go.Sim Go.Proofs Go.Fsa
abbrev encP (p:Int×Int):Value:=.agg #[.int .i64 p.1,.int .i64 p.2]
def prD (p:Int×Int):DV:=.agg [.f (.raw (.int .i64 p.1)),.f (.raw (.int .i64 p.2))]
attribute [local simp] encI bitF autD b_neqB b_eqlB el_num set_num fz_num numD bitD el_bit set_bit fz_bit prD
theorem pureRun_bind {α β:Type} {P:Program}:∀ (x:Sem α) (f:α→Sem β),pureRun P (x >>= f)=(pureRun P x).bind fun a=>pureRun P (f a)
 | .pure _,_=>rfl
 | .program k,f=>pureRun_bind (k P) f
 | .mark _ k,f=>pureRun_bind k f
 | .load ..,_=>rfl
 | .store ..,_=>rfl
 | .new ..,_=>rfl
 | .shape ..,_=>rfl
 | .freeze ..,_=>rfl
 | .frozen ..,_=>rfl
 | .getObj ..,_=>rfl
 | .setObj ..,_=>rfl
 | .choose ..,_=>rfl
 | .sys ..,_=>rfl
 | .halt _,_=>rfl
theorem pureRun_pure {α:Type} {P:Program} (a:α):pureRun P (pure a:Sem α)=some a:=rfl
theorem pu133:pureRun Tryz.prog (underlying 133)=some (.array 2 3):=by kernel_rfl
theorem pu3:pureRun Tryz.prog (underlying 3)=some (.int .i64):=by kernel_rfl
theorem ps3:pureRun Tryz.prog (sizeOf 3)=some 1:=by kernel_rfl
theorem pp0 (a b:Int):pureRun Tryz.prog (part 3 #[.int .i64 a,.int .i64 b] 0)=some (.int .i64 a):=rfl
theorem pp1 (a b:Int):pureRun Tryz.prog (part 3 #[.int .i64 a,.int .i64 b] 1)=some (.int .i64 b):=rfl
theorem pe3 (d:Nat) (a c:Int):pureRun Tryz.prog (Op.equalIn (d+1) 3 (.int .i64 a) (.int .i64 c))=some (a==c):=by
 rw [Op.equalIn]
 simp only [pureRun_bind,pu3,Option.bind_some,if_true,pureRun_pure]
theorem pk3 (e:Bool) (d:Nat) (a:Int):pureRun Tryz.prog (Instr.checkKey e (d+1) 3 (.int .i64 a))=some ():=by
 rw [Instr.checkKey]
 simp only [pureRun_bind,pu3,Option.bind_some,pureRun_pure]
theorem he133 (a b c d:Int):keyEq Tryz.prog 133 (encP (a,b)) (encP (c,d))=some (decide ((a,b)=(c,d))):=by
 unfold keyEq Op.equal
 show pureRun Tryz.prog (Op.equalIn (9998+1+1) 133 _ _)=_
 rw [Op.equalIn]
 simp only [pureRun_bind,pu133,ps3,Option.bind_some]
 simp only [Std.Legacy.Range.forIn_eq_forIn_range',Std.Legacy.Range.size,Nat.sub_zero,Nat.add_sub_cancel,Nat.div_one,List.range'_succ,List.range'_zero,List.forIn_cons,List.forIn_nil]
 simp only [pureRun_bind,Option.bind_some,Nat.zero_mul,Nat.zero_add,Nat.one_mul,pp0,pp1,pe3]
 by_cases h1:a=c<;>by_cases h2:b=d<;>simp [-getElem?_pos,-List.map_set,-objBelow,-depV,-q_zeroT_197,h1,h2,pureRun_bind,pureRun_pure,pp0,pp1,pe3]
theorem hf133 (a b:Int) (es:List MapEntry):findT Tryz.prog 133 (encP (a,b)) es=findA Tryz.prog 133 (encP (a,b)) es 0:=by
 unfold findT
 rw [show Tryz.prog.underlying 133=some (.array 2 3) by kernel_rfl]
 show (match simple (encP (a,b)) with
  | true=>match pureRun Tryz.prog (Instr.checkKey false 10000 133 (encP (a,b))) with
   | some ()=>match pureRun Tryz.prog (Instr.checkKey true 10000 133 (encP (a,b))) with
    | some ()=>findA Tryz.prog 133 (encP (a,b)) es 0
    | none=>none
   | none=>none
  | false=>none)=_
 have hc:∀ e,pureRun Tryz.prog (Instr.checkKey e 10000 133 (encP (a,b)))=some ():=by
  intro e
  rw [show (10000:Nat)=9998+1+1 from rfl,Instr.checkKey]
  simp only [pureRun_bind,pu133,Option.bind_some]
  simp only [Std.Legacy.Range.forIn_eq_forIn_range',Std.Legacy.Range.size,Nat.sub_zero,Nat.add_sub_cancel,Nat.div_one,List.range'_succ,List.range'_zero,List.forIn_cons,List.forIn_nil]
  simp only [pureRun_bind,Option.bind_some,ps3,Nat.zero_mul,Nat.zero_add,Nat.one_mul,pp0,pp1,pk3,pureRun_pure]
 rw [hc,hc,show simple (encP (a,b))=true from rfl]
theorem key133:KeyD Tryz.prog 133 encP:=by
 refine ⟨fun ks x=>?_⟩
 rw [show encP x=encP (x.1,x.2) from rfl,hf133]
 rw [findA_map (enc:=encP) (fun _=>rfl) (fun k y=>he133 k.1 k.2 y.1 y.2)]
 cases List.findIdx? (fun y=>decide (x=y)) ks<;>rfl
structure FBL (succ:Int×Int→List (Option (Int×Int))) (q:List (Int×Int)) (fi bs:List Int):Prop where
 lf:fi.length=q.length
 lb:bs.length=q.length
 get:∀ n,0<n→n<q.length→∃ (i c:Nat) (p y:Int×Int),fi[n]? =some (i:Int)∧bs[n]? =some (c:Int)∧i<n∧q[i]? =some p∧q[n]? =some y∧(succ p)[c]? =some (some y)
theorem FBL.one {succ:Int×Int→List (Option (Int×Int))} {s:Int×Int}:FBL succ [s] [-1] [-1]:=⟨rfl,rfl,fun n h1 h2=>by simp [-getElem?_pos,-List.map_set,-objBelow,-depV,-q_zeroT_197] at h2;omega⟩
theorem FBL.add {succ:Int×Int→List (Option (Int×Int))} {q:List (Int×Int)} {fi bs:List Int} (h:FBL succ q fi bs) {i k:Nat} {t y:Int×Int} (ht:q[i]? =some t) (hy:(succ t)[k]? =some (some y)):FBL succ (q++[y]) (fi++[(i:Int)]) (bs++[(k:Int)]):=by
 have lf:=h.lf
 have lb:=h.lb
 refine ⟨by simp [-getElem?_pos,-List.map_set,-objBelow,-depV,-q_zeroT_197,lf],by simp [-getElem?_pos,-List.map_set,-objBelow,-depV,-q_zeroT_197,lb],fun n h1 h2=>?_⟩
 simp only [List.length_append,List.length_cons,List.length_nil] at h2
 rcases Nat.lt_or_ge n q.length with g | g
 ·obtain ⟨i',c,p,z,e1,e2,e3,e4,e5,e6⟩:=h.get n h1 g
  have hi':=lt_of_get e4
  exact ⟨i',c,p,z,by rw [List.getElem?_append_left (by omega)];exact e1,by rw [List.getElem?_append_left (by omega)];exact e2,e3,by rw [List.getElem?_append_left (by omega)];exact e4,by rw [List.getElem?_append_left (by omega)];exact e5,e6⟩
 ·have hn:n=q.length:=by omega
  have hi:=lt_of_get ht
  refine ⟨i,k,t,y,?_,?_,by omega,by rw [List.getElem?_append_left (by omega)];exact ht,?_,hy⟩
  ·rw [List.getElem?_append_right (by omega),show n-fi.length=0 by omega];rfl
  ·rw [List.getElem?_append_right (by omega),show n-bs.length=0 by omega];rfl
  ·rw [List.getElem?_append_right (by omega),show n-q.length=0 by omega];rfl
theorem ex_help {R:Option (BX×SD)} {G:List Int→List Int→List Int→Trie DV→Option (BX×SD)} {T:Trie DV→Prop} {p:List Int→List Int→Prop} {vs fi bs:List Int} (hp:p fi bs) (h:∃ tm,R=G vs fi bs tm∧T tm) :
  ∃ (tm:Trie DV) (vs fi bs:List Int),R=G vs fi bs tm∧T tm∧p fi bs:=by
 obtain ⟨tm,h1,h2⟩:=h
 exact ⟨tm,vs,fi,bs,h1,h2,hp⟩
theorem qO_below {L e sz:Nat} {els:List DV} (h:els.all (below L)=true):objBelow L (qO e sz els)=true:=by
 unfold qO
 split
 ·rw [ob_arr];exact h
 ·rw [ob_app];exact h
theorem below_num {L:Nat} {l:List Int}:(l.map numD).all (below L)=true:=by
 rw [List.all_eq_true]
 intro y hy
 obtain ⟨z,_,rfl⟩:=List.mem_map.1 hy
 rfl
theorem below_pr {L:Nat} {l:List (Int×Int)}:(l.map prD).all (below L)=true:=by
 rw [List.all_eq_true]
 intro y hy
 obtain ⟨z,_,rfl⟩:=List.mem_map.1 hy
 rfl
theorem w117 (sy most:Nat) (s0:Int×Int) (succ:Int×Int→List (Option (Int×Int))) (ac:Int×Int→Bool) (dom:Int×Int→Prop) (F:Nat) (qs:List (Int×Int)) (rows:List (List Int))
  (g1 g2:FuncId) (a1 b1 a2 b2:List DV) (base:Nat) (D:DH)
  (hex:exR id succ most F 0 [s0]=some (qs,rows)) (h0:dom s0) (hdom:∀ s,dom s→∀ t,some t∈succ s→dom t) (hlen:∀ s,(succ s).length=sy)
  (hsy:sy≤400) (hmost:most≤200000) (h1m:1≤most) (hb:base≤D.length) (hob:(D.drop base).all (objBelow D.length)=true)
  (ha1:belows D.length a1=true) (hb1:belows D.length b1=true) (ha2:belows D.length a2=true) (hb2:belows D.length b2=true) (hraw:(Q.ann g2).raw=false)
  (hstep:∀ (x:Int×Int) (c:Nat) (o:Option (Int×Int)),dom x→(succ x)[c]? =some o→∃ y,(∀ X:DH,callD Q g1 (a1++[prD x,intD c]++b1) base (D++X)=some (.tup [prD y,boolD o.isSome],D++X))∧(o=some y∨o=none))
  (hacc:∀ (X:DH) (x:Int×Int),dom x→callD Q g2 (a2++[prD x]++b2) base (D++X)=some (boolD (ac x),D++X)) :
  ∃ (O1 O2:DObj) (fi bs:List Int),callD Q 117 [intD sy,intD most,prD s0,.fn g1 a1 b1,.fn g2 a2 b2] base D=some (.tup [.ref (D.length+1) 0 0,boolD true],D++[.arr 2 [prD s0],.arr 5 [.agg [intD sy,.apl (D.length+6) qs.length,.apl (D.length+7) qs.length,qV (D.length+4) qs.length,qV (D.length+5) qs.length]],O1,O2,qO 3 1 (fi.map numD),qO 3 1 (bs.map numD),.app 4 1 ((qs.map ac).map bitD),.app 26 1 (rows.map rowD)])∧FBL succ qs fi bs∧∀ L,objBelow L O1=true∧objBelow L O2=true:=by
 rw [call_raw (fn:=Tryz.f117) (show Q.P.funcs[117]? =some Tryz.f117 from Tryz.func117) rfl ann117 rfl (by simp only [List.length_cons,List.length_nil];decide) (by kernel_rfl)]
 have gp:=gp117
 simp only [ann117,Tryz.f117,gpB_some,gpC_draw,gpC_reg,gpC_seq,gpC_cond,gpC_block,gpC_loop,gpC_range,gpC_skip,gpC_ret,gpC_exit,gpC_label,gpO_some,gpO_none,findN,Bool.and_eq_true,Bool.and_true,Bool.true_and,reduceIte,Nat.reduceEqDiff,true_and,and_true] at gp
 have hbk:∀ k,base≤D.length+k:=fun k=>by omega
 have hOK:∀ k X,objsOK base (D.length+k) (D++X)=(X.take k).all (objBelow (D.length+k)):=fun k X=>objsOK_raw hb hob
 have hbl:∀ (l:List DV) k,belows D.length l=true→belows (D.length+k) l=true:=fun l k h=>(below_le (Nat.le_add_right _ _)).2 l h
 have f0:findT Tryz.prog 133 (encP s0) (keyEs [])=some none:=key133.find [] s0
 have hbl:∀ k,belows (D.length+k) a1=true∧belows (D.length+k) b1=true∧belows (D.length+k) a2=true∧belows (D.length+k) b2=true:=fun k=>⟨hbl a1 k ha1,hbl b1 k hb1,hbl a2 k ha2,hbl b2 k hb2⟩
 simp (maxSteps:=2000000) [-getElem?_pos,-List.map_set,-objBelow,-depV,-q_zeroT_197,gp,hb,hbk,hOK,f0,(hbl _).1,(hbl _).2.1,(hbl _).2.2.1,(hbl _).2.2.2]
 generalize hX:loopG _ _ _=X
 obtain ⟨tm,vs,fi,bs,rfl,t12,hfbl⟩:∃ (tm:Trie DV) (vs fi bs:List Int),X=some (.exit 0,⟨tm,D++[.arr 2 [prD s0],.arr 5 [.agg [intD sy,.apl (D.length+6) qs.length,.apl (D.length+7) qs.length,qV (D.length+4) qs.length,qV (D.length+5) qs.length]],.map (qs.map encP) (vs.map numD),qO 133 2 (qs.map prD),qO 3 1 (fi.map numD),qO 3 1 (bs.map numD),.app 4 1 ((qs.map ac).map bitD),.app 26 1 (rows.map rowD)]⟩)∧tm.get 12=some (.ref (D.length+1) 0 0)∧FBL succ qs fi bs:=by
  rw [← hX]
  clear hX
  generalize hs41:SD.mk _ _=sd41
  revert sd41
  refine wl (fun p:Nat×Nat×List (Int×Int)×List Int×List Int×List Int×List (List Int)×List Bool=>⟨(((((((Trie.leaf.put 15 (intD p.2.1)).put 14 (qV (D.length+3) p.2.2.1.length)).put 13 (.mp (D.length+2))).put 12 (.ref (D.length+1) 0 0)).put 4 (.fn g2 a2 b2)).put 3 (.fn g1 a1 b1)).put 1 (intD most)).put 0 (intD sy),D++[.arr 2 [prD s0],.arr 5 [.agg [intD sy,.apl (D.length+6) p.2.1,.apl (D.length+7) p.2.1,qV (D.length+4) p.2.2.1.length,qV (D.length+5) p.2.2.1.length]],.map (p.2.2.1.map encP) (p.2.2.2.1.map numD),qO 133 2 (p.2.2.1.map prD),qO 3 1 (p.2.2.2.2.1.map numD),qO 3 1 (p.2.2.2.2.2.1.map numD),.app 4 1 (p.2.2.2.2.2.2.2.map bitD),.app 26 1 (p.2.2.2.2.2.2.1.map rowD)]⟩)
   (fun p=>p.2.1≤p.2.2.1.length∧1≤p.2.2.1.length∧p.2.2.1.length≤most∧FBL succ p.2.2.1 p.2.2.2.2.1 p.2.2.2.2.2.1∧p.2.2.2.2.2.1.length=p.2.2.1.length∧(p.2.2.2.1.length=p.2.2.1.length∧∀ j,j<p.2.2.1.length→p.2.2.2.1[j]? =some (j:Int))∧p.2.2.2.2.2.2.1.length=p.2.1∧p.2.2.2.2.2.2.2=(p.2.2.1.take p.2.1).map ac∧(∀ t∈p.2.2.1,dom t)∧∃ R,exR id succ most p.1 p.2.1 p.2.2.1=some (qs,R)∧p.2.2.2.2.2.2.1++R=rows)
   (fun p=>p.1) ?_ (F,0,[s0],[0],[-1],[-1],[],[]) ⟨Nat.zero_le _,Nat.le_refl _,h1m,FBL.one,rfl,⟨rfl,fun j h=>by cases j with | zero=>rfl | succ j=>simp [-getElem?_pos,-List.map_set,-objBelow,-depV,-q_zeroT_197] at h⟩,rfl,rfl,fun t ht=>by rw [List.mem_singleton] at ht;rw [ht];exact h0,rows,hex,rfl⟩
  clear hex
  rintro ⟨F,i,q,vs,fi,bs,R0,A⟩ ⟨hi,hq1,hqm,hfb,hbs,⟨hvl,hvs⟩,hR0,hA,hdq,R,hex,hR⟩ ih
  have hfi:=hfb.lf
  simp only at hi hq1 hqm hfb hfi hbs hvl hvs hR0 hA hdq hex hR ih
  rw [loopG_eq]
  obtain ⟨F,rfl⟩:∃ F',F=F'+1:=by
   cases F with
   | zero=>simp [-getElem?_pos,-List.map_set,-objBelow,-depV,-q_zeroT_197,exR] at hex
   | succ F=>exact ⟨F,rfl⟩
  simp only [exR] at hex
  by_cases hlt:i<q.length
  ·obtain ⟨t,ht⟩:∃ t,q[i]? =some t:=⟨_,List.getElem?_eq_getElem hlt⟩
   have htd:=hdq t (List.mem_of_getElem? ht)
   rw [ht] at hex
   simp only at hex
   split at hex
   ·cases hex
   rename_i hqm'
   obtain ⟨⟨qf,R2⟩,hex2,heq⟩:=Option.map_eq_some_iff.1 hex
   simp only [Prod.mk.injEq] at heq
   obtain ⟨rfl,rfl⟩:=heq
   have hAl:A.length=i:=by rw [hA];simp [-getElem?_pos,-List.map_set,-objBelow,-depV,-q_zeroT_197];omega
   have hac:∀ X,callD Q g2 (a2++(DV.agg [DV.f (.raw (.int .i64 t.1)),DV.f (.raw (.int .i64 t.2))]::b2)) base (D++X)=some (DV.f (.raw (.bool (ac t))),D++X):=fun X=>by
    have:=hacc X t htd
    rw [List.append_assoc] at this;exact this
   obtain ⟨q',hq'⟩:∃ q',q'=addS id q (succ t):=⟨_,rfl⟩
   simp (maxSteps:=2000000) [-getElem?_pos,-List.map_set,-objBelow,-depV,-q_zeroT_197,gp,hb,hbk,hOK,hbl,hlt,ht,hraw,hac,hAl,hR0,hfi,hbs,hvl,show i+1≤1099511627776 by omega,show i≤1099511627775 by omega,show sy*8≤140737488355328 by omega,show sy<9223372036854775808 by omega]
   have hre:succ t=(succ t).take sy:=(List.take_of_length_le (by rw [hlen];exact Nat.le_refl _)).symm
   rw [← hq'] at hex2 hqm'
   have hpre:∀ k,addS id q ((succ t).take k) <+: q':=fun k=>by
    rw [hq']
    conv=>rhs;rw [← List.take_append_drop k (succ t),addS_app]
    exact addS_prefix
   generalize hX:loopG _ _ _=X
   obtain ⟨tm,vs',fi',bs',rfl,⟨hfb',hbs',hvl',hvs'⟩,t0,t1,t3,t4,t12,t13,t14,t15,t16⟩:∃ (tm:Trie DV) (vs' fi' bs':List Int),X=some (.exit 2,⟨tm,D++[.arr 2 [prD s0],.arr 5 [.agg [intD sy,.apl (D.length+6) (i+1),.apl (D.length+7) i,qV (D.length+4) q'.length,qV (D.length+5) q'.length]],.map (q'.map encP) (vs'.map numD),qO 133 2 (q'.map prD),qO 3 1 (fi'.map numD),qO 3 1 (bs'.map numD),.app 4 1 (A.map bitD++[bitD (ac t)]),.app 26 1 (R0.map rowD),.arr 1 [bitD (ac t)],.arr 1 ((rowS id q (succ t)).map numD)]⟩)∧(FBL succ q' fi' bs'∧bs'.length=q'.length∧vs'.length=q'.length∧∀ j,j<q'.length→vs'[j]? =some (j:Int))∧tm.get 0=some (intD sy)∧tm.get 1=some (intD most)∧tm.get 3=some (.fn g1 a1 b1)∧tm.get 4=some (.fn g2 a2 b2)∧tm.get 12=some (.ref (D.length+1) 0 0)∧tm.get 13=some (.mp (D.length+2))∧tm.get 14=some (qV (D.length+3) q'.length)∧tm.get 15=some (intD i)∧tm.get 16=some (.row (D.length+9) 0 sy sy):=by
    rw [← hX]
    clear hX ih hex2
    obtain ⟨W0,hW0⟩:∃ L:List Int,L=List.replicate sy 0:=⟨_,rfl⟩
    rw [rep_num,← hW0]
    generalize hs42:SD.mk _ _=sd42
    revert sd42
    refine wl (fun p:Nat×List (Int×Int)×List Int×List Int×List Int×List Int=>⟨((((((((((Trie.leaf.put 62 (intD p.1)).put 61 (intD sy)).put 16 (.row (D.length+9) 0 sy sy)).put 15 (intD i)).put 14 (qV (D.length+3) p.2.1.length)).put 13 (.mp (D.length+2))).put 12 (.ref (D.length+1) 0 0)).put 4 (.fn g2 a2 b2)).put 3 (.fn g1 a1 b1)).put 1 (intD most)).put 0 (intD sy),D++[.arr 2 [prD s0],.arr 5 [.agg [intD sy,.apl (D.length+6) (i+1),.apl (D.length+7) i,qV (D.length+4) p.2.1.length,qV (D.length+5) p.2.1.length]],.map (p.2.1.map encP) (p.2.2.1.map numD),qO 133 2 (p.2.1.map prD),qO 3 1 (p.2.2.2.1.map numD),qO 3 1 (p.2.2.2.2.1.map numD),.app 4 1 (A.map bitD++[bitD (ac t)]),.app 26 1 (R0.map rowD),.arr 1 [bitD (ac t)],.arr 1 (p.2.2.2.2.2.map numD)]⟩)
     (fun p=>p.1≤sy∧p.2.1=addS id q ((succ t).take p.1)∧(FBL succ p.2.1 p.2.2.2.1 p.2.2.2.2.1∧p.2.2.2.2.1.length=p.2.1.length∧p.2.2.1.length=p.2.1.length∧∀ j,j<p.2.1.length→p.2.2.1[j]? =some (j:Int))∧p.2.2.2.2.2.length=sy∧p.2.2.2.2.2.take p.1=rowS id q ((succ t).take p.1)) (fun p=>sy-p.1) ?_ (0,q,vs,fi,bs,W0) ⟨Nat.zero_le _,rfl,⟨hfb,hbs,hvl,hvs⟩,by simp [-getElem?_pos,-List.map_set,-objBelow,-depV,-q_zeroT_197,hW0],rfl⟩
    clear hvs hvl hfi hbs hfb
    rintro ⟨k,q1,vs,fi,bs,W⟩ ⟨hk,hq1',⟨hfb,hbs,hvl,hvs⟩,hWl,hW⟩ ihK
    have hfi:=hfb.lf
    simp only at hk hq1' hfb hfi hbs hvl hvs hWl hW ihK
    rw [loopG_eq]
    by_cases hks:k<sy
    case neg=>
     have hk':k=sy:=by omega
     subst hk'
     rw [← hre] at hq1' hW
     rw [List.take_of_length_le (by omega)] at hW
     subst hW
     rw [← hq'] at hq1'
     subst hq1'
     simp (maxSteps:=2000000) [-getElem?_pos,-List.map_set,-objBelow,-depV,-q_zeroT_197,gp,hks]
     refine ⟨_,vs,fi,bs,⟨rfl,rfl,rfl,rfl⟩,⟨hfb,hbs,hvl,hvs⟩,?_⟩
     simp [-getElem?_pos,-List.map_set,-objBelow,-depV,-q_zeroT_197]
    obtain ⟨o,ho⟩:∃ o,(succ t)[k]? =some o:=⟨_,List.getElem?_eq_getElem (by rw [hlen];exact hks)⟩
    have hL:(succ t).take (k+1)=(succ t).take k++[o]:=by rw [List.take_add_one,ho];rfl
    have hset:∀ v,(W.set k v).take (k+1)=W.take k++[v]:=fun v=>by
     rw [List.take_add_one,List.take_set_of_le (Nat.le_refl _),List.getElem?_set_self (by omega)];rfl
    obtain ⟨w0,hw0⟩:∃ x,W[k]? =some x:=⟨_,List.getElem?_eq_getElem (by omega)⟩
    have hws:∀ v,(W.set k v)[k]? =some v:=fun v=>List.getElem?_set_self (by omega)
    have hww:=wrap_succ (show k+1≤9223372036854775807 by omega)
    have hqt:q1[i]? =some t:=by rw [hq1'];exact prefix_getS addS_prefix ht
    have hqi:i<q1.length:=lt_of_get hqt
    obtain ⟨y,hst,hoy⟩:∃ y,(∀ X,callD Q g1 (a1++(DV.agg [DV.f (.raw (.int .i64 t.1)),DV.f (.raw (.int .i64 t.2))]::DV.f (.raw (.int .i64 k))::b1)) base (D++X)=some (.tup [DV.agg [DV.f (.raw (.int .i64 y.1)),DV.f (.raw (.int .i64 y.2))],DV.f (.raw (.bool o.isSome))],D++X))∧(o=some y∨o=none):=by
     obtain ⟨y,h1,h2⟩:=hstep t k o htd ho
     refine ⟨y,fun X=>?_,h2⟩
     have:=h1 X
     rw [List.append_assoc] at this;exact this
    rcases hoy with rfl | rfl
    case inr=>
     have ih':=ihK (k+1,q1,vs,fi,bs,W.set k (-1)) ⟨by simp only;omega,by simp only;rw [hL,addS_none,hq1'],⟨hfb,hbs,hvl,hvs⟩,by simp only [List.length_set];exact hWl,by simp only;rw [hset,hL,rowS_none,hW]⟩ (by simp only;omega)
     simp (maxSteps:=2000000) [-getElem?_pos,-List.map_set,-objBelow,-depV,-q_zeroT_197] at ih'
     simp only [Option.isSome_none] at hst
     simp (maxSteps:=2000000) [-getElem?_pos,-List.map_set,-objBelow,-depV,-q_zeroT_197,gp,hb,hbk,hOK,hbl,hks,hst,hqt,hqi,hw0,hws,hWl,hww,hAl,hR0,hfi,hbs,hvl]
     exact ih'
    simp only [Option.isSome_some] at hst
    have hnew:=(hpre (k+1)).length_le
    rw [hL,addS_some,← hq1',List.map_id,id] at hnew
    by_cases hm:y∈q1
    ·obtain ⟨m,hm2⟩:∃ m,m=numK q1 y:=⟨_,rfl⟩
     have hmn:m<q1.length:=by rw [hm2];exact numK_lt hm
     have hvm:=hvs m hmn
     have hf:findT Tryz.prog 133 (encP y) (keyEs (q1.map encP))=some (some m):=by rw [hm2];exact (key133.find q1 y).trans (by rw [find_in hm])
     have ih':=ihK (k+1,q1,vs,fi,bs,W.set k (m:Int)) ⟨by simp only;omega,by simp only;rw [hL,addS_some,← hq1',List.map_id,id,if_pos hm],⟨hfb,hbs,hvl,hvs⟩,by simp only [List.length_set];exact hWl,by simp only;rw [hset,hL,rowS_some,hW,← hq1',List.map_id,id,hm2]⟩ (by simp only;omega)
     simp (maxSteps:=2000000) [-getElem?_pos,-List.map_set,-objBelow,-depV,-q_zeroT_197] at ih'
     simp (maxSteps:=2000000) [-getElem?_pos,-List.map_set,-objBelow,-depV,-q_zeroT_197,gp,hb,hbk,hOK,hbl,hks,hst,hqt,hqi,hw0,hws,hWl,hww,hAl,hR0,hfi,hbs,hvl,hf,hvm]
     exact ih'
    ·rw [if_neg hm,List.length_append] at hnew
     simp only [List.length_cons,List.length_nil] at hnew
     have hf:findT Tryz.prog 133 (encP y) (keyEs (q1.map encP))=some none:=(key133.find q1 y).trans (by rw [find_out hm])
     have ih':=ihK (k+1,q1++[y],vs++[(q1.length:Int)],fi++[(i:Int)],bs++[(k:Int)],W.set k (q1.length:Int)) ⟨by simp only;omega,by simp only;rw [hL,addS_some,← hq1',List.map_id,id,if_neg hm],⟨hfb.add hqt ho,by simp [-getElem?_pos,-List.map_set,-objBelow,-depV,-q_zeroT_197,hbs],by simp [-getElem?_pos,-List.map_set,-objBelow,-depV,-q_zeroT_197,hvl],fun j hj=>by
      rcases Nat.lt_or_ge j q1.length with g | g
      ·rw [List.getElem?_append_left (by omega)];exact hvs j g
      ·simp only [List.length_append,List.length_cons,List.length_nil] at hj
       have:j=vs.length:=by omega
       rw [this,List.getElem?_append_right (Nat.le_refl _),Nat.sub_self,hvl];rfl⟩,by simp only [List.length_set];exact hWl,by simp only;rw [hset,hL,rowS_some,hW,← hq1',List.map_id,id,numK_none hm]⟩ (by simp only;omega)
     simp (maxSteps:=2000000) [-getElem?_pos,-List.map_set,-objBelow,-depV,-q_zeroT_197] at ih'
     simp (maxSteps:=2000000) [-getElem?_pos,-List.map_set,-objBelow,-depV,-q_zeroT_197,gp,hb,hbk,hOK,hbl,hks,hst,hqt,hqi,hw0,hws,hWl,hww,hAl,hR0,hfi,hbs,hvl,hf,show ¬most≤q1.length by omega,show q1.length<most by omega,show 1≤q1.length by omega,show (q1.length+1)*8≤1099511627776 by omega,show (q1.length+1)*16≤1099511627776 by omega,show q1.length≤1099511627775 by omega]
     exact ih'
   clear hX
   have hfi':=hfb'.lf
   obtain ⟨S,hS⟩:∃ S,S=rowS id q (succ t):=⟨_,rfl⟩
   have hSl:S.length=sy:=by rw [hS,rowS_len,hlen]
   rw [← hS] at hR
   have hpre':q <+: q':=by rw [hq'];exact addS_prefix
   have hpl:=hpre'.length_le
   have hqt:q'.take (i+1)=q.take i++[t]:=by
    rw [List.take_add_one,prefix_getS hpre' ht]
    obtain ⟨z,rfl⟩:=hpre'
    rw [List.take_append_of_le_length (by omega)];rfl
   have htk:List.take sy (S.map numD)=S.map numD:=List.take_of_length_le (by simp [-getElem?_pos,-List.map_set,-objBelow,-depV,-q_zeroT_197,hSl])
   have ih':=ih (F,i+1,q',vs',fi',bs',R0++[S],A++[ac t]) ⟨by simp only;omega,by simp only;omega,by simp only;omega,hfb',hbs',⟨hvl',hvs'⟩,by simp [-getElem?_pos,-List.map_set,-objBelow,-depV,-q_zeroT_197,hR0],by simp only;rw [hqt,List.map_append,List.map_cons,List.map_nil,hA],by
    simp only
    rw [hq']
    exact addS_dom hdq (hdom t htd),R2,hex2,by simp only;rw [List.append_assoc];exact hR⟩ (by simp only;omega)
   simp (maxSteps:=2000000) [-getElem?_pos,-List.map_set,-objBelow,-depV,-q_zeroT_197] at ih'
   rw [← hS]
   simp (maxSteps:=2000000) [-getElem?_pos,-List.map_set,-objBelow,-depV,-q_zeroT_197,gp,hb,hbk,hOK,hbl,t0,t1,t3,t4,t12,t13,t14,t15,t16,hSl,htk,hR0,hAl,hfi',hbs',hvl',show i+1≤1099511627776 by omega,show i≤1099511627775 by omega,show (i+1)*24≤1099511627776 by omega,wrap_succ (show i+1≤9223372036854775807 by omega)]
   exact ih'
  ·rw [List.getElem?_eq_none (by omega)] at hex
   simp only [Option.some.injEq,Prod.mk.injEq] at hex
   obtain ⟨rfl,rfl⟩:=hex
   rw [List.append_nil] at hR
   subst hR
   have hie:i=q.length:=by omega
   subst hie
   rw [List.take_length] at hA
   subst hA
   refine ex_help (vs:=vs) (fi:=fi) (bs:=bs) hfb ?_
   simp (maxSteps:=2000000) [-getElem?_pos,-List.map_set,-objBelow,-depV,-q_zeroT_197,gp,hlt,hR0]
 clear hX
 refine ⟨.map (qs.map encP) (vs.map numD),qO 133 2 (qs.map prD),fi,bs,?_,hfbl,fun L=>⟨by rw [ob_map];exact below_num,qO_below below_pr⟩⟩
 simp (maxSteps:=2000000) [-getElem?_pos,-List.map_set,-objBelow,-depV,-q_zeroT_197,gp,t12]
end Go.Dv
namespace Go.Dv
open Go Go.Sim Go.Proofs Go.Fsa
attribute [local simp] bitF autD b_neqB b_eqlB prD eqD_agg eq1_int eq1_lst bitD el_bit set_bit fz_bit
theorem eqD_fn0 {g:FuncId} {D:DH}:eqD D (.fn g [] [])=true:=rfl
attribute [local simp] eqD_fn0
theorem w68 (a b:Aut) (ha:a.nxt.length<1152921504606846976) (hb:b.nxt.length<1152921504606846976) (base:Nat) (D:DH) :
  callD Q 68 [autD a,autD b] base D=some (intD (if a.check=0∧b.check=0 then (if a.sy=b.sy then 0 else 1) else 60),D):=by
 obtain ⟨sa,ta,aa,na⟩:=a
 obtain ⟨sb,tb,ab,nb⟩:=b
 simp only at ha hb
 rw [call_pure (fn:=Tryz.f68) (show Q.P.funcs[68]? =some Tryz.f68 from Tryz.func68) rfl ann68 rfl (by simp only [List.length_cons,List.length_nil];decide) (by kernel_rfl)]
 have gp:=gp68
 simp only [ann68,Tryz.f68,gpB_some,gpC_draw,gpC_reg,gpC_seq,gpC_cond,gpC_block,gpC_loop,gpC_range,gpC_skip,gpC_ret,gpC_exit,gpC_label,gpO_some,gpO_none,findN,Bool.and_eq_true,Bool.and_true,Bool.true_and,reduceIte,Nat.reduceEqDiff,true_and,and_true] at gp
 by_cases h1:Aut.check ⟨sa,ta,aa,na⟩=0
 ·by_cases h2:Aut.check ⟨sb,tb,ab,nb⟩=0
  ·by_cases h3:sa=sb
   ·subst h3
    simp (maxSteps:=2000000) [-getElem?_pos,-List.map_set,-objBelow,-depV,-q_zeroT_197,gp,c18,ha,hb,h1,h2]
   ·simp (maxSteps:=2000000) [-getElem?_pos,-List.map_set,-objBelow,-depV,-q_zeroT_197,gp,c18,ha,hb,h1,h2,h3]
  ·simp (maxSteps:=2000000) [-getElem?_pos,-List.map_set,-objBelow,-depV,-q_zeroT_197,gp,c18,ha,hb,h1,h2]
 ·simp (maxSteps:=2000000) [-getElem?_pos,-List.map_set,-objBelow,-depV,-q_zeroT_197,gp,c18,ha,hb,h1]
theorem w116 (a:Aut) (s:Int) (hs:s<(a.acc.length:Nat)) (base:Nat) (D:DH):callD Q 116 [autD a,intD s] base D=some (boolD (a.accB s),D):=by
 rw [call_pure (fn:=Tryz.f116) (show Q.P.funcs[116]? =some Tryz.f116 from Tryz.func116) rfl ann116 rfl (by simp only [List.length_cons,List.length_nil];decide) (by kernel_rfl)]
 have gp:=gp116
 simp only [ann116,Tryz.f116,gpB_some,gpC_draw,gpC_reg,gpC_seq,gpC_cond,gpC_block,gpC_loop,gpC_range,gpC_skip,gpC_ret,gpC_exit,gpC_label,gpO_some,gpO_none,findN,Bool.and_eq_true,Bool.and_true,Bool.true_and,reduceIte,Nat.reduceEqDiff,true_and,and_true] at gp
 by_cases h:0≤s
 ·obtain ⟨n,rfl⟩:∃ n:Nat,s=n:=⟨s.toNat,by omega⟩
  obtain ⟨b,hb⟩:∃ b,a.acc[n]? =some b:=⟨_,List.getElem?_eq_getElem (by omega)⟩
  simp (maxSteps:=2000000) [-getElem?_pos,-List.map_set,-objBelow,-depV,-q_zeroT_197,gp,hb,h,Aut.accB,show (0:Int)≤n by omega]
 ·simp (maxSteps:=2000000) [-getElem?_pos,-List.map_set,-objBelow,-depV,-q_zeroT_197,gp,h,Aut.accB]
theorem c116 {sy st:Int} {acc:List Bool} {nxt:List (List Int)} {s:Int} {base:Nat} {D:DH} (hs:s<(acc.length:Nat)):callD Q 116 [.agg [.f (.raw (.int .i64 sy)),.f (.raw (.int .i64 st)),.f (.lst (acc.map bitF)),.f (.lst (nxt.map rowF))],.f (.raw (.int .i64 s))] base D=some (.f (.raw (.bool (Aut.accB ⟨sy,st,acc,nxt⟩ s))),D):=w116 ⟨sy,st,acc,nxt⟩ s hs base D
theorem w137 (x y:Bool) (base:Nat) (D:DH):callD Q 137 [boolD x,boolD y] base D=some (boolD (x != y),D):=by
 rw [call_pure (fn:=Tryz.f137) (show Q.P.funcs[137]? =some Tryz.f137 from Tryz.func137) rfl ann137 rfl (by simp only [List.length_cons,List.length_nil];decide) (by kernel_rfl)]
 have gp:=gp137
 simp only [ann137,Tryz.f137,gpB_some,gpC_draw,gpC_reg,gpC_seq,gpC_cond,gpC_block,gpC_loop,gpC_range,gpC_skip,gpC_ret,gpC_exit,gpC_label,gpO_some,gpO_none,findN,Bool.and_eq_true,Bool.and_true,Bool.true_and,reduceIte,Nat.reduceEqDiff,true_and,and_true] at gp
 cases x<;>cases y<;>simp (maxSteps:=2000000) [-getElem?_pos,-List.map_set,-objBelow,-depV,-q_zeroT_197,gp,]
theorem w115 (base:Nat) (D:DH) (hb:base≤D.length):callD Q 115 [] base D=some (.agg [.f (.raw .nilFunc),.fn 134 [] [],.fn 135 [] [],.fn 136 [] [],.fn 137 [] []],D++[.arr 5 [.agg [.f (.raw .nilFunc),.fn 134 [] [],.fn 135 [] [],.fn 136 [] [],.fn 137 [] []]]]):=by
 rw [call_raw (fn:=Tryz.f115) (show Q.P.funcs[115]? =some Tryz.f115 from Tryz.func115) rfl ann115 rfl (by simp only [List.length_cons,List.length_nil];decide) (by kernel_rfl)]
 have gp:=gp115
 simp only [ann115,Tryz.f115,gpB_some,gpC_draw,gpC_reg,gpC_seq,gpC_cond,gpC_block,gpC_loop,gpC_range,gpC_skip,gpC_ret,gpC_exit,gpC_label,gpO_some,gpO_none,findN,Bool.and_eq_true,Bool.and_true,Bool.true_and,reduceIte,Nat.reduceEqDiff,true_and,and_true] at gp
 simp (maxSteps:=2000000) [-getElem?_pos,-List.map_set,-objBelow,-depV,-q_zeroT_197,gp,hb,show oneD (rv Value.nilFunc)=true from rfl]
theorem w118 (a b:Aut) (ha:a.valid) (hb:b.valid) (hsy:a.sy=b.sy) (p:Int×Int) (h1:p.1<(a.nxt.length:Nat)) (h2:p.2<(b.nxt.length:Nat)) (c:Nat) (hc:(c:Int)<a.sy) (base o o':Nat) (D:DH) (ho:D[o]? =some (.arr 4 [autD a])) (ho':D[o']? =some (.arr 4 [autD b])) :
  callD Q 118 [prD p,intD c,.ref o 0 0,.ref o' 0 0] base D=some (.tup [prD (a.go p.1 c,b.go p.2 c),boolD true],D):=by
 rw [call_pure (fn:=Tryz.f118) (show Q.P.funcs[118]? =some Tryz.f118 from Tryz.func118) rfl ann118 rfl (by simp only [List.length_cons,List.length_nil];decide) (by kernel_rfl)]
 have gp:=gp118
 simp only [ann118,Tryz.f118,gpB_some,gpC_draw,gpC_reg,gpC_seq,gpC_cond,gpC_block,gpC_loop,gpC_range,gpC_skip,gpC_ret,gpC_exit,gpC_label,gpO_some,gpO_none,findN,Bool.and_eq_true,Bool.and_true,Bool.true_and,reduceIte,Nat.reduceEqDiff,true_and,and_true] at gp
 have r91:(Q.ann 91).raw=false:=by rw [ann91]
 have g1:∀ X,(D++X)[o]? =some (.arr 4 [autD a]):=fun X=>get_app ho
 have g2:∀ X,(D++X)[o']? =some (.arr 4 [autD b]):=fun X=>get_app ho'
 simp (maxSteps:=2000000) [-getElem?_pos,-List.map_set,-objBelow,-depV,-q_zeroT_197,gp,r91,g1,g2,c91,ha,hb,h1,h2,hc,show (c:Int)<b.sy by omega]
theorem w119 (a b:Aut) (p:Int×Int) (h1:p.1<(a.acc.length:Nat)) (h2:p.2<(b.acc.length:Nat)) (base o1 o2 o o':Nat) (D:DH) (hi:D[o1]? =some (.arr 1 [.fn 137 [] []])) (hf:D[o2]? =some (.arr 1 [.fn 116 [] []])) (ho:D[o]? =some (.arr 4 [autD a])) (ho':D[o']? =some (.arr 4 [autD b])) :
  callD Q 119 [prD p,.ref o1 0 0,.ref o2 0 0,.ref o 0 0,.ref o' 0 0] base D=some (boolD (a.accB p.1 != b.accB p.2),D):=by
 rw [call_pure (fn:=Tryz.f119) (show Q.P.funcs[119]? =some Tryz.f119 from Tryz.func119) rfl ann119 rfl (by simp only [List.length_cons,List.length_nil];decide) (by kernel_rfl)]
 have gp:=gp119
 simp only [ann119,Tryz.f119,gpB_some,gpC_draw,gpC_reg,gpC_seq,gpC_cond,gpC_block,gpC_loop,gpC_range,gpC_skip,gpC_ret,gpC_exit,gpC_label,gpO_some,gpO_none,findN,Bool.and_eq_true,Bool.and_true,Bool.true_and,reduceIte,Nat.reduceEqDiff,true_and,and_true] at gp
 have r116:(Q.ann 116).raw=false:=by rw [ann116]
 have r137:(Q.ann 137).raw=false:=by rw [ann137]
 have g1:∀ X,(D++X)[o]? =some (.arr 4 [autD a]):=fun X=>get_app ho
 have g2:∀ X,(D++X)[o']? =some (.arr 4 [autD b]):=fun X=>get_app ho'
 have g3:∀ X,(D++X)[o1]? =some (.arr 1 [.fn 137 [] []]):=fun X=>get_app hi
 have g4:∀ X,(D++X)[o2]? =some (.arr 1 [.fn 116 [] []]):=fun X=>get_app hf
 have h137:=w137
 simp only [boolD] at h137
 simp (maxSteps:=2000000) [-getElem?_pos,-List.map_set,-objBelow,-depV,-q_zeroT_197,gp,r116,r137,g1,g2,g3,g4,c116,h1,h2,h137]
structure FirstT (l:List Bool) (r:Int):Prop where
 none:r<0→∀ x∈l,x=false
 some:0≤r→l[r.toNat]? =some true
theorem w70 (l:List Bool) (hl:l.length<1152921504606846976) (o base:Nat) (D:DH) (ho:D[o]? =some (.app 4 1 (l.map bitD))) :
  ∃ r,callD Q 70 [.apl o l.length,boolD true] base D=some (intD r,D)∧FirstT l r:=by
 rw [call_pure (fn:=Tryz.f70) (show Q.P.funcs[70]? =some Tryz.f70 from Tryz.func70) rfl ann70 rfl (by simp only [List.length_cons,List.length_nil];decide) (by kernel_rfl)]
 have gp:=gp70
 simp only [ann70,Tryz.f70,gpB_some,gpC_draw,gpC_reg,gpC_seq,gpC_cond,gpC_block,gpC_loop,gpC_range,gpC_skip,gpC_ret,gpC_exit,gpC_label,gpO_some,gpO_none,findN,Bool.and_eq_true,Bool.and_true,Bool.true_and,reduceIte,Nat.reduceEqDiff,true_and,and_true] at gp
 simp (maxSteps:=2000000) [-getElem?_pos,-List.map_set,-objBelow,-depV,-q_zeroT_197,gp,ho]
 generalize hs43:SD.mk _ _=sd43
 revert sd43
 refine wl (fun i:Nat=>⟨(((Trie.leaf.put 8 (intD i)).put 7 (intD l.length)).put 1 (boolD true)).put 0 (.apl o l.length),D⟩) (fun i=>i≤l.length∧∀ x∈l.take i,x=false) (fun i=>l.length-i) ?_ 0 ⟨by omega,by simp [-getElem?_pos,-List.map_set,-objBelow,-depV,-q_zeroT_197]⟩
 intro i ⟨hi,hf⟩ ih
 have hol:=ltOf ho
 rw [if_pos hol,loopG_eq]
 by_cases hlt:i<l.length
 ·obtain ⟨x,hx⟩:∃ x,l[i]? =some x:=⟨_,List.getElem?_eq_getElem hlt⟩
  cases x with
  | false=>
   have ih':=ih (i+1) ⟨by omega,fun x hm=>by
    rw [List.take_add_one,hx] at hm
    rcases List.mem_append.1 hm with g | g
    ·exact hf x g
    ·simpa [-getElem?_pos,-List.map_set,-objBelow,-depV,-q_zeroT_197] using g⟩ (by omega)
   simp only [if_pos hol] at ih'
   simp (maxSteps:=2000000) [-getElem?_pos,-List.map_set,-objBelow,-depV,-q_zeroT_197] at ih'
   simp (maxSteps:=2000000) [-getElem?_pos,-List.map_set,-objBelow,-depV,-q_zeroT_197,gp,hol,ho,hlt,hx,wrap_succ (show i+1≤9223372036854775807 by omega)]
   exact ih'
  | true=>
   simp (maxSteps:=2000000) [-getElem?_pos,-List.map_set,-objBelow,-depV,-q_zeroT_197,gp,ho,hlt,hx]
   first | exact ⟨fun h=>by omega,fun _=>by simpa [-getElem?_pos,-List.map_set,-objBelow,-depV,-q_zeroT_197] using hx⟩ | exact ⟨_,rfl,fun h=>by omega,fun _=>by simpa [-getElem?_pos,-List.map_set,-objBelow,-depV,-q_zeroT_197] using hx⟩
 ·have hf':∀ x∈l,x=false:=by rw [List.take_of_length_le (by omega)] at hf;exact hf
  simp (maxSteps:=2000000) [-getElem?_pos,-List.map_set,-objBelow,-depV,-q_zeroT_197,gp,ho,hlt]
  exact ⟨fun _=>hf',fun h=>by omega⟩
end Go.Dv
namespace Go.Dv
open Go Go.Sim Go.Proofs Go.Fsa
attribute [local simp] encI bitF autD b_neqB b_eqlB el_num set_num fz_num numD bitD el_bit set_bit fz_bit prD eqD_agg eq1_int eq1_lst eqD_fn0
theorem FBL.first {a b:Aut} {q:List (Int×Int)} {fi bs:List Int} (h:FBL (a.succD b) q fi bs):FirstBy a b q fi bs:=⟨h.lf,h.lb,fun n h1 h2=>by
 obtain ⟨i,c,p,y,e1,e2,e3,e4,e5,e6⟩:=h.get n h1 h2
 obtain ⟨e7,e8⟩:=succD_get e6
 simp only [Option.some.injEq] at e7
 subst e7
 exact ⟨i,c,p,e1,e2,e3,e8,e4,e5⟩⟩
def howD:DV:=.agg [.f (.raw .nilFunc),.fn 134 [] [],.fn 135 [] [],.fn 136 [] [],.fn 137 [] []]
theorem ofV_nilF:ofV Value.nilFunc=.f (.raw .nilFunc):=rfl
theorem cells_nilF:cellsD (.f (.raw .nilFunc))=[.f (.raw .nilFunc)]:=rfl
theorem one_nilF:oneD (.f (.raw .nilFunc))=true:=rfl
theorem ix130:dIndex Tryz.prog 130 (some (.agg [.f (.raw .nilFunc),.fn 134 [] [],.fn 135 [] [],.fn 136 [] [],.fn 137 [] []])) (some (.f (.raw (.int .i64 4))))=some (.fn 137 [] []):=by
 have h1:tArr Tryz.prog 130=some (5,1,129):=by kernel_rfl
 have h2:tLd Tryz.prog 129=some none:=by kernel_rfl
 have h3:(some (DV.f (.raw (.int .i64 4)))).bind natR=some 4:=rfl
 simp only [dIndex,h1,h2,h3]
 rfl
def prodH (a b:Aut):DH:=[.arr 4 [autD a],.arr 4 [autD b],.arr 5 [howD],.arr 1 [.fn 137 [] []],.arr 1 [.fn 116 [] []]]
theorem w69 (a b:Aut) (ha:a.valid) (hb':b.valid) (hsy:a.sy=b.sy) (hN:(a.nxt.length+1)*(b.nxt.length+1)≤100000) (base:Nat) (D:DH) (hb:base≤D.length) (hob:(D.drop base).all (objBelow D.length)=true) :
  ∃ O1 O2 fi bs,callD Q 69 [autD a,autD b,intD 4] base D=some (.tup [.ref (D.length+6) 0 0,boolD true],D++prodH a b++.arr 2 [prD (a.begin,b.begin)]::machD (D.length+6) ⟨a.sy,0,(a.exD b).1.map fun p=>a.accB p.1 != b.accB p.2,(a.exD b).2⟩ O1 O2 fi bs)∧FirstBy a b (a.exD b).1 fi bs∧∀ L,objBelow L O1=true∧objBelow L O2=true:=by
 rw [call_raw (fn:=Tryz.f69) (show Q.P.funcs[69]? =some Tryz.f69 from Tryz.func69) rfl ann69 rfl (by simp only [List.length_cons,List.length_nil];decide) (by kernel_rfl)]
 have gp:=gp69
 simp only [ann69,Tryz.f69,gpB_some,gpC_draw,gpC_reg,gpC_seq,gpC_cond,gpC_block,gpC_loop,gpC_range,gpC_skip,gpC_ret,gpC_exit,gpC_label,gpO_some,gpO_none,findN,Bool.and_eq_true,Bool.and_true,Bool.true_and,reduceIte,Nat.reduceEqDiff,true_and,and_true] at gp
 have hbk:∀ k,base≤D.length+k:=fun k=>by omega
 have hhi:=ha.hi
 have hlo:=ha.lo
 have hla:=ha.len
 have hlb:=hb'.len
 have r117:(Q.ann 117).raw=true:=by rw [ann117]
 have r115:(Q.ann 115).raw=true:=by rw [ann115]
 have r89:(Q.ann 89).raw=false:=by rw [ann89]
 have hl:(D++prodH a b).length=D.length+5:=by simp [-getElem?_pos,-List.map_set,-objBelow,-depV,-q_zeroT_197,prodH]
 obtain ⟨O1,O2,fi,bs,hex,hfb,hO⟩:=w117 a.sy.toNat 100000 (a.begin,b.begin) (a.succD b) (fun p=>a.accB p.1 != b.accB p.2) (domD a b) (fuelD a b) (a.exD b).1 (a.exD b).2 118 119 [] [.ref D.length 0 0,.ref (D.length+1) 0 0] [] [.ref (D.length+3) 0 0,.ref (D.length+4) 0 0,.ref D.length 0 0,.ref (D.length+1) 0 0] base (D++prodH a b)
  (exD_spec ha hb' hN) (begin_domD ha hb') (fun s hs t ht=>domD_succ ha hb' hs ht) (fun s=>succD_len) (by omega) (by omega) (by omega) (by omega)
  (by
   rw [List.drop_append_of_le_length hb,List.all_append,Bool.and_eq_true]
   refine ⟨?_,by simp [-getElem?_pos,-List.map_set,-objBelow,-depV,-q_zeroT_197,prodH,howD,ob_arr]⟩
   rw [List.all_eq_true] at hob ⊢
   intro x hx
   exact objBelow_le (by simp [-getElem?_pos,-List.map_set,-objBelow,-depV,-q_zeroT_197]) x (hob x hx)) (by simp [-getElem?_pos,-List.map_set,-objBelow,-depV,-q_zeroT_197]) (by simp [-getElem?_pos,-List.map_set,-objBelow,-depV,-q_zeroT_197,hl]) (by simp [-getElem?_pos,-List.map_set,-objBelow,-depV,-q_zeroT_197]) (by simp [-getElem?_pos,-List.map_set,-objBelow,-depV,-q_zeroT_197,hl]) (by rw [ann119])
  (fun x c o hx ho=>by
   obtain ⟨rfl,hc⟩:=succD_get ho
   refine ⟨(a.go x.1 c,b.go x.2 c),fun X=>?_,.inl rfl⟩
   exact w118 a b ha hb' hsy x hx.1.2 hx.2.2 c hc base D.length (D.length+1) (D++prodH a b++X) (by simp [-getElem?_pos,-List.map_set,-objBelow,-depV,-q_zeroT_197,prodH]) (by simp [-getElem?_pos,-List.map_set,-objBelow,-depV,-q_zeroT_197,prodH]))
  (fun X x hx=>by
   have h1:=hx.1.2
   have h2:=hx.2.2
   exact w119 a b x (by omega) (by omega) base (D.length+3) (D.length+4) D.length (D.length+1) (D++prodH a b++X) (by simp [-getElem?_pos,-List.map_set,-objBelow,-depV,-q_zeroT_197,prodH]) (by simp [-getElem?_pos,-List.map_set,-objBelow,-depV,-q_zeroT_197,prodH]) (by simp [-getElem?_pos,-List.map_set,-objBelow,-depV,-q_zeroT_197,prodH]) (by simp [-getElem?_pos,-List.map_set,-objBelow,-depV,-q_zeroT_197,prodH]))
 refine ⟨O1,O2,fi,bs,?_,hfb.first,hO⟩
 have hal:((a.exD b).1.map fun p=>a.accB p.1 != b.accB p.2).length=(a.exD b).1.length:=by simp [-getElem?_pos,-List.map_set,-objBelow,-depV,-q_zeroT_197]
 have h89:=fun x D'=>w89 x base D'
 simp only [autD,intD] at h89
 have h115:=fun D'=>w115 base D'
 simp only [prodH,howD,prD,autD,intD,List.append_assoc,List.cons_append,List.nil_append,List.length_append,List.length_cons,List.length_nil,Int.toNat_of_nonneg (show 0≤a.sy by omega),boolD] at hex
 rw [show ((100000:Nat):Int)=100000 from rfl] at hex
 simp (maxSteps:=2000000) [-getElem?_pos,-List.map_set,-objBelow,-depV,-q_zeroT_197,gp,ofV_nilF,cells_nilF,one_nilF,ix130,hb,hbk,h89,h115,r89,r115,r117,hex,howD,prodH]
 simp [-getElem?_pos,-List.map_set,-objBelow,-depV,-q_zeroT_197,machD,Nat.add_assoc]
end Go.Dv
namespace Go.Dv
open Go Go.Sim Go.Proofs Go.Fsa
attribute [local simp] encI bitF autD b_neqB b_eqlB el_num set_num fz_num numD bitD el_bit set_bit fz_bit prD
structure Turn (l W:List Int) (i:Nat):Prop where
 len:W.length=l.length
 get:∀ t,t<l.length→W[t]? =if t<i∨l.length≤t+i then l[l.length-1-t]? else l[t]?
theorem Turn.start {l:List Int}:Turn l l 0:=⟨rfl,fun t h=>by rw [if_neg (by omega)]⟩
theorem Turn.at {l W:List Int} {i:Nat} (h:Turn l W i) (hi:i+1+i<l.length):W[i]? =l[i]?∧W[l.length-1-i]? =l[l.length-1-i]?:=by
 rw [h.get i (by omega),h.get (l.length-1-i) (by omega),if_neg (by omega),if_neg (by omega)]
 exact ⟨rfl,rfl⟩
theorem Turn.step {l W:List Int} {i:Nat} (h:Turn l W i) (hi:i+1+i<l.length) {x y:Int} (hx:l[i]? =some x) (hy:l[l.length-1-i]? =some y):Turn l ((W.set i y).set (l.length-1-i) x) (i+1):=by
 have hl:=h.len
 refine ⟨by simp [-getElem?_pos,-List.map_set,-objBelow,-depV,-q_zeroT_197,hl],fun t ht=>?_⟩
 by_cases h1:t=l.length-1-i
 ·subst h1
  rw [List.getElem?_set_self (by simp [-getElem?_pos,-List.map_set,-objBelow,-depV,-q_zeroT_197];omega),if_pos (by omega),show l.length-1-(l.length-1-i)=i by omega,hx]
 ·rw [List.getElem?_set_ne (by omega)]
  by_cases h2:t=i
  ·subst h2
   rw [List.getElem?_set_self (by omega),if_pos (by omega),hy]
  ·rw [List.getElem?_set_ne (by omega),h.get t ht]
   by_cases h3:t<i∨l.length≤t+i
   ·rw [if_pos h3,if_pos (by omega)]
   ·rw [if_neg h3,if_neg (by omega)]
theorem Turn.done {l W:List Int} {i:Nat} (h:Turn l W i) (hi:¬i+1+i<l.length):W=l.reverse:=by
 refine List.ext_getElem? fun t=>?_
 by_cases ht:t<l.length
 ·rw [h.get t ht,List.getElem?_reverse ht]
  split
  ·rfl
  ·rw [show l.length-1-t=t by omega]
 ·rw [List.getElem?_eq_none (by rw [h.len];omega),List.getElem?_eq_none (by simp [-getElem?_pos,-List.map_set,-objBelow,-depV,-q_zeroT_197];omega)]
theorem objsOK_set {base o:Nat} {D:DH} (h:(D.drop base).all (objBelow D.length)=true) (W:List Int):objsOK base D.length (D.set o (.app 3 1 (W.map numD)))=true:=by
 unfold objsOK
 rw [List.all_eq_true] at h ⊢
 intro x hx
 obtain ⟨i,hi⟩:=List.mem_iff_getElem?.1 (List.mem_of_mem_take hx)
 rw [List.getElem?_drop] at hi
 by_cases e:o=base+i
 ·subst e
  have hlt:=ltOf hi
  rw [List.length_set] at hlt
  rw [List.getElem?_set_self hlt,Option.some.injEq] at hi
  subst hi
  rw [ob_app,List.all_eq_true]
  intro y hy
  obtain ⟨z,_,rfl⟩:=List.mem_map.1 hy
  rfl
 ·rw [List.getElem?_set_ne e] at hi
  exact h x (List.mem_iff_getElem?.2 ⟨i,by rw [List.getElem?_drop];exact hi⟩)
theorem w71 (l:List Int) (h1:1≤l.length) (hl:l.length<1000000) (o base:Nat) (D:DH) (hb:base≤o) (hob:(D.drop base).all (objBelow D.length)=true) (ho:D[o]? =some (.app 3 1 (l.map numD))) :
  ∃ v,callD Q 71 [.apl o l.length] base D=some (v,D.set o (.app 3 1 (l.reverse.map numD))):=by
 have hol:=ltOf ho
 have hD:D=D.set o (.app 3 1 (l.map numD)):=by
  refine List.ext_getElem? fun t=>?_
  by_cases e:t=o
  ·subst e;rw [List.getElem?_set_self hol,ho]
  ·rw [List.getElem?_set_ne (by omega)]
 obtain ⟨L,hL⟩:∃ L,L=D.length:=⟨_,rfl⟩
 have hOK:∀ W:List Int,objsOK base L (D.set o (.app 3 1 (W.map numD)))=true:=fun W=>by rw [hL];exact objsOK_set hob W
 have hbL:base≤L:=by omega
 have hoL:o<L:=by omega
 have hLD:L≤D.length:=by omega
 have hts:∀ X:DObj,List.take L (D.set o X)=D.set o X:=fun X=>List.take_of_length_le (by rw [List.length_set];omega)
 rw [call_raw (fn:=Tryz.f71) (show Q.P.funcs[71]? =some Tryz.f71 from Tryz.func71) rfl ann71 rfl (by simp only [List.length_cons,List.length_nil];decide) (by kernel_rfl)]
 have gp:=gp71
 simp only [ann71,Tryz.f71,gpB_some,gpC_draw,gpC_reg,gpC_seq,gpC_cond,gpC_block,gpC_loop,gpC_range,gpC_skip,gpC_ret,gpC_exit,gpC_label,gpO_some,gpO_none,findN,Bool.and_eq_true,Bool.and_true,Bool.true_and,reduceIte,Nat.reduceEqDiff,true_and,and_true] at gp
 simp (maxSteps:=2000000) [-getElem?_pos,-List.map_set,-objBelow,-depV,-q_zeroT_197,gp,ho,hb,hol,wrap_in (show -9223372036854775808≤(l.length:Int)-1 by omega) (show (l.length:Int)-1≤9223372036854775807 by omega)]
 rw [show D.length=L from hL.symm,show (l.map numD).reverse=l.reverse.map numD from List.map_reverse.symm]
 conv=>enter [1,v,1];rw [hD]
 rw [if_pos ⟨hOK l,hbL⟩]
 generalize hs44:SD.mk _ _=sd44
 revert sd44
 refine wl (fun p:Nat×Int×List Int=>⟨((Trie.leaf.put 3 (intD p.2.1)).put 2 (intD p.1)).put 0 (.apl o l.length),D.set o (.app 3 1 (p.2.2.map numD))⟩) (fun p=>p.1≤l.length∧p.2.1=(l.length:Int)-1-p.1∧Turn l p.2.2 p.1) (fun p=>l.length-p.1) ?_ (0,(l.length:Int)-1,l) ⟨by omega,by simp [-getElem?_pos,-List.map_set,-objBelow,-depV,-q_zeroT_197],.start⟩
 rintro ⟨i,j,W⟩ ⟨hi,hj,ht⟩ ih
 simp only at hi hj ht ih
 have hWl:=ht.len
 have hsl:(D.set o (.app 3 1 (W.map numD))).length=L:=by rw [List.length_set,hL]
 have hget:(D.set o (.app 3 1 (W.map numD)))[o]? =some (.app 3 1 (W.map numD)):=List.getElem?_set_self hol
 rw [loopG_eq]
 by_cases hlt:i+1+i<l.length
 ·obtain ⟨m,hm⟩:∃ m:Nat,m=l.length-1-i:=⟨_,rfl⟩
  obtain rfl:j=(m:Int):=by omega
  obtain ⟨a1,a2⟩:=ht.at hlt
  obtain ⟨x,hx⟩:∃ x,l[i]? =some x:=⟨_,List.getElem?_eq_getElem (by omega)⟩
  obtain ⟨y,hy⟩:∃ y,l[l.length-1-i]? =some y:=⟨_,List.getElem?_eq_getElem (by omega)⟩
  have hT:=ht.step hlt hx hy
  rw [hx] at a1
  rw [hy,← hm] at a2
  rw [← hm] at hT
  have a3:(W.set i y)[m]? =some y:=by rw [List.getElem?_set_ne (by omega)];exact a2
  have ih':=ih (i+1,(m:Int)-1,(W.set i y).set m x) ⟨by omega,by simp only;omega,hT⟩ (by simp only;omega)
  simp (maxSteps:=2000000) [-getElem?_pos,-List.map_set,-objBelow,-depV,-q_zeroT_197] at ih'
  simp (maxSteps:=2000000) [-getElem?_pos,-List.map_set,-objBelow,-depV,-q_zeroT_197,gp,hget,hOK,hbL,hb,hsl,hWl,hol,hoL,hLD,hts,a1,a2,a3,show (i:Int)<m by omega,show i<m by omega,show m<l.length by omega,show i<l.length by omega,wrap_succ (show i+1≤9223372036854775807 by omega),wrap_in (show -9223372036854775808≤(m:Int)-1 by omega) (show (m:Int)-1≤9223372036854775807 by omega)]
  exact ih'
 ·have e:=ht.done hlt
  subst e
  simp (maxSteps:=2000000) [-getElem?_pos,-List.map_set,-objBelow,-depV,-q_zeroT_197,gp,hget,hsl,show ¬(i:Int)<j by omega]
theorem w71_0 (o base:Nat) (D:DH) (hb:base≤o) (hob:(D.drop base).all (objBelow D.length)=true) (ho:D[o]? =some (.arr 1 [])):∃ v,callD Q 71 [.row o 0 0 0] base D=some (v,D):=by
 have hol:=ltOf ho
 have hOK:objsOK base D.length D=true:=by
  have:=objsOK_raw (k:=0) (X:=[]) (show base≤D.length by omega) hob
  simpa [-getElem?_pos,-List.map_set,-objBelow,-depV,-q_zeroT_197] using this
 rw [call_raw (fn:=Tryz.f71) (show Q.P.funcs[71]? =some Tryz.f71 from Tryz.func71) rfl ann71 rfl (by simp only [List.length_cons,List.length_nil];decide) (by kernel_rfl)]
 have gp:=gp71
 simp only [ann71,Tryz.f71,gpB_some,gpC_draw,gpC_reg,gpC_seq,gpC_cond,gpC_block,gpC_loop,gpC_range,gpC_skip,gpC_ret,gpC_exit,gpC_label,gpO_some,gpO_none,findN,Bool.and_eq_true,Bool.and_true,Bool.true_and,reduceIte,Nat.reduceEqDiff,true_and,and_true] at gp
 simp (maxSteps:=2000000) [-getElem?_pos,-List.map_set,-objBelow,-depV,-q_zeroT_197,gp,ho,hb,hol,hOK,show base≤D.length by omega,wrap_m1]
 rw [loopG_eq]
 simp (maxSteps:=2000000) [-getElem?_pos,-List.map_set,-objBelow,-depV,-q_zeroT_197,gp,ho]
end Go.Dv
namespace Go.Dv
open Go Go.Sim Go.Proofs Go.Fsa
attribute [local simp] encI bitF autD b_neqB b_eqlB el_num set_num fz_num numD bitD el_bit set_bit fz_bit prD eqD_agg eq1_int eq1_lst eqD_fn0
theorem fz_numR {b k:Nat} {D:DH} {l:List Int}:frzL (frz b D (k+1)) (l.map numD).reverse=some ((l.map intF).reverse,[]):=by rw [← List.map_reverse,fz_num,List.map_reverse]
def diffH (a b:Aut) (L:Nat) (l:List Bool) (rows:List (List Int)) (O1 O2:DObj) (fi bs:List Int) (x:DObj):DH:=[.arr 4 [autD a],.arr 4 [autD b],.arr 4 [autD a],.arr 4 [autD b],.arr 5 [howD],.arr 1 [.fn 137 [] []],.arr 1 [.fn 116 [] []],.arr 2 [prD (a.begin,b.begin)],.arr 5 [.agg [intD a.sy,.apl (L+13) l.length,.apl (L+14) l.length,qV (L+11) l.length,qV (L+12) l.length]],O1,O2,qO 3 1 (fi.map numD),qO 3 1 (bs.map numD),.app 4 1 (l.map bitD),.app 26 1 (rows.map rowD),x]
theorem wordTo_len (fi bs:List Int):∀ F n:Nat,(wordTo fi bs F n).length≤F
 | 0,n=>by simp [-getElem?_pos,-List.map_set,-objBelow,-depV,-q_zeroT_197,wordTo]
 | F+1,n=>by
  simp only [wordTo]
  split
  ·simp [-getElem?_pos,-List.map_set,-objBelow,-depV,-q_zeroT_197]
  ·have:=wordTo_len fi bs F ((fi[n]?).getD 0).toNat
   simp only [List.length_cons];omega
theorem w27 (a b:Aut) (ha:a.valid) (hb:b.valid) (hsy:a.sy=b.sy) (hN:(a.nxt.length+1)*(b.nxt.length+1)≤100000) (base:Nat) (D:DH) :
  ∃ (is:Bool) (w:List Int),w.length≤100000∧callD Q 27 [autD a,autD b] base D=some (.tup [rowD w,boolD is,intD 0],D)∧(is=false→a.can=b.can)∧(is=true→a.accepts w≠b.accepts w):=by
 have hla:=ha.len
 have hlb:=hb.len
 have hma:=ha.most
 have hmb:=hb.most
 have h68:=fun bb D'=>w68 a b (by omega) (by omega) bb D'
 rw [if_pos ⟨Aut.check_valid.2 ha,Aut.check_valid.2 hb⟩,if_pos hsy] at h68
 simp only [autD,intD] at h68
 obtain ⟨O1,O2,fi,bs,h69,hfb,hO⟩:=w69 a b ha hb hsy hN D.length (D++[.arr 4 [autD a],.arr 4 [autD b]]) (by simp [-getElem?_pos,-List.map_set,-objBelow,-depV,-q_zeroT_197]) (by simp [-getElem?_pos,-List.map_set,-objBelow,-depV,-q_zeroT_197,ob_arr])
 simp only [autD,intD,boolD,List.length_append,List.length_cons,List.length_nil] at h69
 have r69:(Q.ann 69).raw=true:=by rw [ann69]
 have r68:(Q.ann 68).raw=false:=by rw [ann68]
 have r70:(Q.ann 70).raw=false:=by rw [ann70]
 have hlen:(a.exD b).1.length≤100000:=by
  obtain ⟨d1,d2⟩:=exR_dom (dom:=domD a b) (fun s hs t ht=>domD_succ ha hb hs ht) (fun s hs=>by rw [List.mem_singleton] at hs;rw [hs];exact begin_domD ha hb) (by simp [-getElem?_pos,-List.map_set,-objBelow,-depV,-q_zeroT_197]) (exD_spec ha hb hN)
  exact Nat.le_trans (domD_len d1 (by simpa [-getElem?_pos,-List.map_set,-objBelow,-depV,-q_zeroT_197] using d2)) hN
 obtain ⟨l,hl⟩:∃ l,l=(a.exD b).1.map fun p=>a.accB p.1 != b.accB p.2:=⟨_,rfl⟩
 have hll:l.length=(a.exD b).1.length:=by rw [hl];simp [-getElem?_pos,-List.map_set,-objBelow,-depV,-q_zeroT_197]
 rw [← hl] at h69
 simp only [machD,prodH,howD,autD,prD,intD,List.append_assoc,List.cons_append,List.nil_append] at h69
 obtain ⟨r,h70,hr⟩:=w70 l (by omega) (D.length+13) D.length _ (show (D++[DObj.arr 4 [autD a],.arr 4 [autD b],.arr 4 [autD a],.arr 4 [autD b],.arr 5 [howD],.arr 1 [.fn 137 [] []],.arr 1 [.fn 116 [] []],.arr 2 [prD (a.begin,b.begin)],.arr 5 [.agg [intD a.sy,.apl (D.length+2+6+5) l.length,.apl (D.length+2+6+6) l.length,qV (D.length+2+6+3) l.length,qV (D.length+2+6+4) l.length]],O1,O2,qO 3 1 (fi.map numD),qO 3 1 (bs.map numD),.app 4 1 (l.map bitD),.app 26 1 ((a.exD b).2.map rowD)])[D.length+13]? =some (.app 4 1 (l.map bitD)) by simp [-getElem?_pos,-List.map_set,-objBelow,-depV,-q_zeroT_197])
 simp only [autD,howD,prD,intD,boolD,Nat.add_assoc,Nat.reduceAdd] at h70
 simp only [Nat.add_assoc,Nat.reduceAdd] at h69
 by_cases hneg:r<0
 ·refine ⟨false,[],by simp [-getElem?_pos,-List.map_set,-objBelow,-depV,-q_zeroT_197],?_,fun _=>differ_none ha hb hsy hN fun p hp=>?_,fun h=>by cases h⟩
  ·rw [call_pure (fn:=Tryz.f27) (show Q.P.funcs[27]? =some Tryz.f27 from Tryz.func27) rfl ann27 rfl (by simp only [List.length_cons,List.length_nil];decide) (by kernel_rfl)]
   have gp:=gp27
   simp only [ann27,Tryz.f27,gpB_some,gpC_draw,gpC_reg,gpC_seq,gpC_cond,gpC_block,gpC_loop,gpC_range,gpC_skip,gpC_ret,gpC_exit,gpC_label,gpO_some,gpO_none,findN,Bool.and_eq_true,Bool.and_true,Bool.true_and,reduceIte,Nat.reduceEqDiff,true_and,and_true] at gp
   simp (maxSteps:=2000000) [-getElem?_pos,-List.map_set,-objBelow,-depV,-q_zeroT_197,gp,h68,r68,r69,r70,h69,h70,hneg]
  ·have:=hr.none hneg (a.accB p.1 != b.accB p.2) (by rw [hl];exact List.mem_map_of_mem hp)
   simpa [-getElem?_pos,-List.map_set,-objBelow,-depV,-q_zeroT_197] using this
 ·obtain ⟨n,rfl⟩:∃ n:Nat,r=n:=⟨r.toNat,by omega⟩
  have hn:=hr.some (by omega)
  rw [Int.toNat_natCast] at hn
  have hnl:=lt_of_get hn
  obtain ⟨p,hp⟩:∃ p,(a.exD b).1[n]? =some p:=⟨_,List.getElem?_eq_getElem (by omega)⟩
  have hd:a.accB p.1≠b.accB p.2:=by
   rw [hl,List.getElem?_map,hp] at hn
   simpa [-getElem?_pos,-List.map_set,-objBelow,-depV,-q_zeroT_197] using hn
  refine ⟨true,(wordTo fi bs n n).reverse,by rw [List.length_reverse];have:=wordTo_len fi bs n n;omega,?_,(fun h=>by cases h),fun _=>differ_some ha hb hsy hN hfb hp hd (Nat.le_refl _)⟩
  rw [call_pure (fn:=Tryz.f27) (show Q.P.funcs[27]? =some Tryz.f27 from Tryz.func27) rfl ann27 rfl (by simp only [List.length_cons,List.length_nil];decide) (by kernel_rfl)]
  have gp:=gp27
  simp only [ann27,Tryz.f27,gpB_some,gpC_draw,gpC_reg,gpC_seq,gpC_cond,gpC_block,gpC_loop,gpC_range,gpC_skip,gpC_ret,gpC_exit,gpC_label,gpO_some,gpO_none,findN,Bool.and_eq_true,Bool.and_true,Bool.true_and,reduceIte,Nat.reduceEqDiff,true_and,and_true] at gp
  simp (maxSteps:=2000000) [-getElem?_pos,-List.map_set,-objBelow,-depV,-q_zeroT_197,gp,h68,r68,r69,r70,h69,h70,hneg,(hO _).1,(hO _).2]
  have hfl:=hfb.lf
  have hbl:=hfb.lb
  by_cases hz:n=0
  ·subst hz
   rw [loopG_eq]
   obtain ⟨v,hrev⟩:=w71_0 (D.length+15) D.length (D++diffH a b D.length l (a.exD b).2 O1 O2 fi bs (.arr 1 [])) (by omega) (by simp [-getElem?_pos,-List.map_set,-objBelow,-depV,-q_zeroT_197,diffH,ob_arr,ob_app,(hO _).1,(hO _).2,howD]) (by simp [-getElem?_pos,-List.map_set,-objBelow,-depV,-q_zeroT_197,diffH])
   simp only [diffH,howD,prD,autD,intD,List.append_assoc,List.cons_append,List.nil_append] at hrev
   have r71:(Q.ann 71).raw=true:=by rw [ann71]
   simp (maxSteps:=2000000) [-getElem?_pos,-List.map_set,-objBelow,-depV,-q_zeroT_197,gp,hrev,r71,wordTo]
  obtain ⟨i0,c0,p0,f1,f2,f3,_⟩:=hfb.get n (by omega) (by omega)
  rw [loopG_eq]
  simp (maxSteps:=2000000) [-getElem?_pos,-List.map_set,-objBelow,-depV,-q_zeroT_197,gp,f1,f2,show fi.length=l.length by omega,show bs.length=l.length by omega,(hO _).1,(hO _).2,hnl,show 0<n by omega,show (0:Int)<n by omega,qO_below,below_num]
  have hw0:∀ F,wordTo fi bs F 0=[]:=fun F=>by cases F<;>simp [-getElem?_pos,-List.map_set,-objBelow,-depV,-q_zeroT_197,wordTo]
  have hw1:∀ F m i c,0<m→fi[m]? =some (i:Int)→bs[m]? =some (c:Int)→wordTo fi bs (F+1) m=(c:Int)::wordTo fi bs F i.toNat:=fun F m i c h1 h2 h3=>by
   simp only [wordTo,if_neg (show ¬m=0 by omega),h2,h3,Option.getD_some]
  have hstart:[(c0:Int)]++wordTo fi bs (n-1) i0=wordTo fi bs n n:=by
   obtain ⟨m,rfl⟩:∃ m,n=m+1:=⟨n-1,by omega⟩
   rw [hw1 m (m+1) i0 c0 (by omega) f1 f2];rfl
  generalize hs1:SD.mk _ _=sd1
  revert sd1
  refine wl (fun p:Nat×List Int=>⟨((Trie.leaf.put 11 (.apl (D.length+15) p.2.length)).put 10 (intD p.1)).put 8 (.ref (D.length+8) 0 0),D++diffH a b D.length l (a.exD b).2 O1 O2 fi bs (.app 3 1 (p.2.map numD))⟩) (fun p=>1≤p.2.length∧p.2.length+p.1≤n∧∃ F,p.1≤F∧p.2++wordTo fi bs F p.1=wordTo fi bs n n) (fun p=>p.1) ?_ (i0,[(c0:Int)]) ⟨by simp [-getElem?_pos,-List.map_set,-objBelow,-depV,-q_zeroT_197],by simp [-getElem?_pos,-List.map_set,-objBelow,-depV,-q_zeroT_197];omega,n-1,by simp only;omega,hstart⟩
  rintro ⟨s,out⟩ ⟨ho1,ho2,F,hF,hw⟩ ih
  simp only at ho1 ho2 hF hw ih
  rw [loopG_eq]
  by_cases hs:s=0
  ·subst hs
   rw [hw0,List.append_nil] at hw
   subst hw
   obtain ⟨v,hrev⟩:=w71 (wordTo fi bs n n) ho1 (by omega) (D.length+15) D.length (D++diffH a b D.length l (a.exD b).2 O1 O2 fi bs (.app 3 1 ((wordTo fi bs n n).map numD))) (by omega) (by simp [-getElem?_pos,-List.map_set,-objBelow,-depV,-q_zeroT_197,diffH,ob_arr,ob_app,(hO _).1,(hO _).2,howD,qO_below,below_num]) (by simp [-getElem?_pos,-List.map_set,-objBelow,-depV,-q_zeroT_197,diffH])
   have r71:(Q.ann 71).raw=true:=by rw [ann71]
   simp only [diffH,howD,prD,autD,intD,List.append_assoc,List.cons_append,List.nil_append] at hrev ⊢
   simp (maxSteps:=2000000) [-getElem?_pos,-List.map_set,-objBelow,-depV,-q_zeroT_197,gp,hrev,r71,fz_numR]
  ·obtain ⟨i,c,q,e1,e2,e3,_⟩:=hfb.get s (by omega) (by omega)
   obtain ⟨F,rfl⟩:∃ F',F=F'+1:=⟨F-1,by omega⟩
   rw [hw1 F s i c (by omega) e1 e2,Int.toNat_natCast] at hw
   have ih':=ih (i,out++[(c:Int)]) ⟨by simp [-getElem?_pos,-List.map_set,-objBelow,-depV,-q_zeroT_197],by simp [-getElem?_pos,-List.map_set,-objBelow,-depV,-q_zeroT_197];omega,F,by simp only;omega,by simp only;rw [List.append_assoc];exact hw⟩ e3
   simp only [diffH,howD] at ih' ⊢
   simp (maxSteps:=2000000) [-getElem?_pos,-List.map_set,-objBelow,-depV,-q_zeroT_197] at ih'
   simp (maxSteps:=2000000) [-getElem?_pos,-List.map_set,-objBelow,-depV,-q_zeroT_197,gp,e1,e2,show fi.length=l.length by omega,show bs.length=l.length by omega,(hO _).1,(hO _).2,show s<l.length by omega,show 0<s by omega,show (0:Int)<s by omega,qO_below,below_num,howD,show 1≤out.length from ho1,show (out.length+1)*8≤1099511627776 by omega,show out.length+1≤1099511627776 by omega,show out.length≤1099511627775 by omega]
   exact ih'
end Go.Dv
set_option maxHeartbeats 4000000
namespace Go.Dv
open Go Go.Sim Go.Proofs Go.Fsa
attribute [local simp] encI bitF autD b_neqB b_eqlB el_num set_num fz_num numD bitD el_bit set_bit fz_bit normF_strL bl_byte
attribute [local simp] agO_g agW_t agW_f
attribute [local simp] eqD_agg eq1_int eq1_bool eq1_lst
theorem w13l (l:List (List Int)) (hl:l.length<1152921504606846976) (base:Nat) (D:DH) (b:Bool) (hb:b=decide ((∀ r∈l,r.length≤40)∧l.length≤40)) :
  callD Q 13 [.f (.lst (l.map rowF))] base D=some (boolD b,D):=by
 rw [call_pure (fn:=Tryz.f13) (show Q.P.funcs[13]? =some Tryz.f13 from Tryz.func13) rfl ann13 rfl (by simp only [List.length_cons,List.length_nil];decide) (by kernel_rfl)]
 have gp:=gp13
 simp only [ann13,Tryz.f13,gpB_some,gpC_draw,gpC_reg,gpC_seq,gpC_cond,gpC_block,gpC_loop,gpC_range,gpC_skip,gpC_ret,gpC_exit,gpC_label,gpO_some,gpO_none,findN,Bool.and_eq_true,Bool.and_true,Bool.true_and,reduceIte,Nat.reduceEqDiff,true_and,and_true] at gp
 simp (maxSteps:=2000000) [-getElem?_pos,-List.map_set,-objBelow,-depV,-q_zeroT_197,gp,]
 generalize hs1:SD.mk _ _=sd1
 revert sd1
 refine wl (fun i:Nat=>⟨(Trie.leaf.put 3 (intD i)).put 0 (.f (.lst (l.map rowF))),D⟩) (fun i=>i≤l.length∧∀ r∈l.take i,r.length≤40) (fun i=>l.length-i) ?_ 0 ⟨Nat.zero_le _,fun a h=>(by simp [-getElem?_pos,-List.map_set,-objBelow,-depV,-q_zeroT_197] at h)⟩
 intro i ⟨hi,hs⟩ ih
 rw [loopG_eq]
 by_cases hlt:i<l.length
 case neg=>
  rw [List.take_of_length_le (by omega)] at hs
  simp (maxSteps:=2000000) [-getElem?_pos,-List.map_set,-objBelow,-depV,-q_zeroT_197,gp,hlt]
  rw [hb,decide_eq_decide]
  exact ⟨fun h=>⟨hs,by omega⟩,fun h=>by omega⟩
 obtain ⟨r,hr⟩:∃ a,l[i]? =some a:=⟨_,List.getElem?_eq_getElem hlt⟩
 have hww:=wrap_succ (show i+1≤9223372036854775807 by omega)
 by_cases c1:r.length≤40
 ·have ih':=ih (i+1) ⟨by omega,fun b hb=>by
   rw [List.take_add_one,hr] at hb
   rcases List.mem_append.1 hb with h | h
   ·exact hs b h
   ·simp only [Option.toList,List.mem_singleton] at h;rw [h];exact c1⟩ (by omega)
  simp (maxSteps:=2000000) [-getElem?_pos,-List.map_set,-objBelow,-depV,-q_zeroT_197] at ih'
  simp (maxSteps:=2000000) [-getElem?_pos,-List.map_set,-objBelow,-depV,-q_zeroT_197,gp,hlt,hr,hww,show ¬(40:Int)<r.length by omega,show ¬40<r.length by omega]
  exact ih'
 ·have hbf:b=false:=by rw [hb];exact decide_eq_false fun hh=>c1 (hh.1 r (List.mem_of_getElem? hr))
  subst hbf
  simp (maxSteps:=2000000) [-getElem?_pos,-List.map_set,-objBelow,-depV,-q_zeroT_197,gp,hlt,hr,show (40:Int)<r.length by omega,show 40<r.length by omega]
theorem w5 (a b:Aut) (l:List (List Int)) (ha:a.nxt.length<1152921504606846976) (hb:b.nxt.length<1152921504606846976) (hl:l.length<1152921504606846976) (base:Nat) (D:DH) :
  callD Q 5 [autD a,autD b,.f (.lst (l.map rowF))] base D=some (boolD true,D):=by
 rw [call_pure (fn:=Tryz.f5) (show Q.P.funcs[5]? =some Tryz.f5 from Tryz.func5) rfl ann5 rfl (by simp only [List.length_cons,List.length_nil];decide) (by kernel_rfl)]
 have gp:=gp5
 simp only [ann5,Tryz.f5,gpB_some,gpC_draw,gpC_reg,gpC_seq,gpC_cond,gpC_block,gpC_loop,gpC_range,gpC_skip,gpC_ret,gpC_exit,gpC_label,gpO_some,gpO_none,findN,Bool.and_eq_true,Bool.and_true,Bool.true_and,reduceIte,Nat.reduceEqDiff,true_and,and_true] at gp
 have h11:∀ b D,callD Q 11 [] b D=some (rv (.bool true),D):=fun b D=>call_told (by kernel_rfl)
 have h12:=fun bb=>w12 [a,b] (by simp [-getElem?_pos,-List.map_set,-objBelow,-depV,-q_zeroT_197]) (by simp [-getElem?_pos,-List.map_set,-objBelow,-depV,-q_zeroT_197];exact ⟨ha,hb⟩) (D.length+2) bb (D++[.arr 4 [autD a],.arr 4 [autD b],.arr 4 [autD a,autD b]]) (by simp [-getElem?_pos,-List.map_set,-objBelow,-depV,-q_zeroT_197])
 simp only [List.length_cons,List.length_nil,Nat.zero_add,Nat.reduceAdd,boolD,autD] at h12
 by_cases hs:∀ x∈[a,b],x.small
 case neg=>
  rw [decide_eq_false hs] at h12
  simp (maxSteps:=2000000) [-getElem?_pos,-List.map_set,-objBelow,-depV,-q_zeroT_197,gp,h11,h12]
 rw [decide_eq_true hs] at h12
 obtain ⟨k,hk⟩:∃ k,k=decide ((∀ r∈l,r.length≤40)∧l.length≤40):=⟨_,rfl⟩
 have h13:=fun bb D'=>w13l l hl bb D' k hk
 simp only [boolD] at h13
 cases k with
 | false=>simp (maxSteps:=2000000) [-getElem?_pos,-List.map_set,-objBelow,-depV,-q_zeroT_197,gp,h11,h12,h13]
 | true=>
 have h19a:=fun bb D=>w19 a bb D
 have h19b:=fun bb D=>w19 b bb D
 simp only [autD,intD] at h19a h19b
 have hsa:=hs a (by simp [-getElem?_pos,-List.map_set,-objBelow,-depV,-q_zeroT_197])
 have hsb:=hs b (by simp [-getElem?_pos,-List.map_set,-objBelow,-depV,-q_zeroT_197])
 by_cases va:a.valid
 case neg=>
  have:a.check=60:=by simp [-getElem?_pos,-List.map_set,-objBelow,-depV,-q_zeroT_197,Aut.check,va]
  rw [this] at h19a
  simp (maxSteps:=2000000) [-getElem?_pos,-List.map_set,-objBelow,-depV,-q_zeroT_197,gp,h11,h12,h13,h19a]
 by_cases vb:b.valid
 case neg=>
  have:b.check=60:=by simp [-getElem?_pos,-List.map_set,-objBelow,-depV,-q_zeroT_197,Aut.check,vb]
  rw [this] at h19b
  rw [Aut.check_valid.2 va] at h19a
  simp (maxSteps:=2000000) [-getElem?_pos,-List.map_set,-objBelow,-depV,-q_zeroT_197,gp,h11,h12,h13,h19a,h19b]
 rw [Aut.check_valid.2 va] at h19a
 rw [Aut.check_valid.2 vb] at h19b
 have hbr:=of_decide_eq_true hk.symm
 have vc:=can_valid va
 obtain ⟨c1,c2,c3⟩:=can_rows va
 obtain ⟨d1,d2,d3⟩:=can_rows vb
 have h17a:=fun bb D=>w17 a ha bb D
 have h17b:=fun bb D=>w17 b hb bb D
 have hal:=va.len
 have hbl:=vb.len
 have ham:=va.most
 have hbm:=vb.most
 have hah:=va.hi
 have hbh:=vb.hi
 have h17c:=fun bb D=>w17 a.can (by omega) bb D
 have h23:=fun bb D=>w23 a.can (by omega) bb D
 have hic:a.can.isCanon=true:=by
  unfold Aut.isCanon
  rw [canon_1 vc,can_can va,canon_ok.2 vc];simp [-getElem?_pos,-List.map_set,-objBelow,-depV,-q_zeroT_197]
 rw [hic] at h23
 rw [canon_1 va,canon_ok.2 va] at h17a
 rw [canon_1 vb,canon_ok.2 vb] at h17b
 rw [canon_1 vc,canon_ok.2 vc,can_can va] at h17c
 have h22:=fun bb D=>w22 a.can a.can (by omega) (by omega) (fun r hr=>by have:=c1 r hr;omega) (fun r hr=>by have:=c1 r hr;omega) bb D
 rw [sameA_refl] at h22
 have h20a:=fun w hw bb D=>w20 a w ha hw bb D
 have h20b:=fun w hw bb D=>w20 b w hb hw bb D
 have h20c:=fun w hw bb D=>w20 a.can w (by omega) hw bb D
 obtain ⟨c,hc⟩:∃ c,c=a.can:=⟨_,rfl⟩
 obtain ⟨d,hd⟩:∃ d,d=b.can:=⟨_,rfl⟩
 have h22':=fun bb D=>w22 c d (by rw [hc];omega) (by rw [hc];omega) (fun r hr=>by rw [hc] at hr;have:=c1 r hr;omega) (fun r hr=>by rw [hd] at hr;have:=d1 r hr;omega) bb D
 have hcan:∀ w,c.accepts w=a.accepts w:=fun w=>by rw [hc];exact can_accepts va w
 have hcn:c.nxt.length≤a.nxt.length:=by rw [hc];omega
 have hdn:d.nxt.length≤b.nxt.length:=by rw [hd];omega
 rw [← hc] at h17a h17c h23 h22 h20c
 rw [← hd] at h17b
 simp only [autD,autO,intD,rowD,rowF,boolD] at h17a h17b h17c h23 h22 h22' h20a h20b h20c
 simp (maxSteps:=2000000) [-getElem?_pos,-List.map_set,-objBelow,-depV,-q_zeroT_197,gp,h11,h12,h13,h19a,h19b,h17a,h17b,h17c,h23,h22,show ¬(a.nxt.length:Int)<c.nxt.length by omega,show ¬a.nxt.length<c.nxt.length by omega]
 have r20:(Q.ann 20).raw=false:=by rw [ann20]
 generalize hX:loopG _ _ _=X
 obtain ⟨tm,rfl,t2,t3,t4,t7,t9⟩:∃ tm,X=some (.exit 0,⟨tm,D++[.arr 4 [autD a],.arr 4 [autD b],.arr 4 [autD a,autD b],.arr 4 [autD c],.arr 4 [autD d],.arr 4 [autD c]]⟩)∧tm.get 2=some (.f (.lst (l.map rowF)))∧tm.get 3=some (.ref D.length 0 0)∧tm.get 4=some (.ref (D.length+1) 0 0)∧tm.get 7=some (.ref (D.length+3) 0 0)∧tm.get 9=some (.ref (D.length+4) 0 0):=by
  rw [← hX]
  clear hX
  generalize hs2:SD.mk _ _=sd2
  revert sd2
  refine wl (fun i:Nat=>⟨(((((Trie.leaf.put 12 (intD i)).put 9 (.ref (D.length+4) 0 0)).put 7 (.ref (D.length+3) 0 0)).put 4 (.ref (D.length+1) 0 0)).put 3 (.ref D.length 0 0)).put 2 (.f (.lst (l.map rowF))),D++[.arr 4 [autD a],.arr 4 [autD b],.arr 4 [autD a,autD b],.arr 4 [autD c],.arr 4 [autD d],.arr 4 [autD c]]⟩) (fun i=>i≤l.length) (fun i=>l.length-i) ?_ 0 (Nat.zero_le _)
  intro i hi ih
  rw [loopG_eq]
  by_cases hlt:i<l.length
  ·obtain ⟨r,hr⟩:∃ a,l[i]? =some a:=⟨_,List.getElem?_eq_getElem hlt⟩
   have hrl:=hbr.1 r (List.mem_of_getElem? hr)
   have h1:=fun bb D=>h20a r (by omega) bb D
   have h2:=fun bb D=>h20c r (by omega) bb D
   rw [hcan] at h2
   have ih':=ih (i+1) (by omega) (by omega)
   simp (maxSteps:=2000000) [-getElem?_pos,-List.map_set,-objBelow,-depV,-q_zeroT_197] at ih'
   simp (maxSteps:=2000000) [-getElem?_pos,-List.map_set,-objBelow,-depV,-q_zeroT_197,gp,hlt,hr,h1,h2,r20,wrap_succ (show i+1≤9223372036854775807 by omega)]
   exact ih'
  ·simp (maxSteps:=2000000) [-getElem?_pos,-List.map_set,-objBelow,-depV,-q_zeroT_197,gp,hlt]
 clear hX
 by_cases hsy:a.sy=b.sy
 case neg=>simp (maxSteps:=2000000) [-getElem?_pos,-List.map_set,-objBelow,-depV,-q_zeroT_197,gp,t2,t3,t4,t7,t9,hsy]
 have hN:(a.nxt.length+1)*(b.nxt.length+1)≤100000:=Nat.le_trans (Nat.mul_le_mul (by have:=hsa.2.1;omega) (by have:=hsb.2.1;omega):_≤42*42) (by decide)
 obtain ⟨is,w,hwl,h27,hno,hyes⟩:=w27 a b va vb hsy hN (D.length) (D++[.arr 4 [autD a],.arr 4 [autD b],.arr 4 [autD a,autD b],.arr 4 [autD c],.arr 4 [autD d],.arr 4 [autD c]])
 have h1:=fun bb D=>h20a w (by omega) bb D
 have h2:=fun bb D=>h20b w (by omega) bb D
 simp only [autD,intD,rowD,rowF,boolD,hsy] at h27 h1
 have hsame:sameA c d=!is:=by
  rw [hc,hd]
  cases is with
  | false=>
   rw [hno rfl,sameA_refl];rfl
  | true=>
   have:¬(a.can.sy=b.can.sy∧a.can.st=b.can.st∧a.can.acc=b.can.acc∧a.can.nxt=b.can.nxt):=fun h=>hyes rfl ((can_same va vb hsy).1 (by
    obtain ⟨e1,e2,e3,e4⟩:=h
    revert e1 e2 e3 e4
    rcases a.can with ⟨x1,x2,x3,x4⟩
    rcases b.can with ⟨y1,y2,y3,y4⟩
    rintro rfl rfl rfl rfl;rfl) w)
   simp [-getElem?_pos,-List.map_set,-objBelow,-depV,-q_zeroT_197,sameA,this]
 rw [hsame] at h22'
 have r22:(Q.ann 22).raw=false:=by rw [ann22]
 cases is with
 | false=>
  have hcd:c.nxt.length≤b.nxt.length:=by
   have:=hno rfl
   rw [← hc,← hd] at this
   rw [this];exact hdn
  simp (maxSteps:=2000000) [-getElem?_pos,-List.map_set,-objBelow,-depV,-q_zeroT_197,gp,t2,t3,t4,t7,t9,hsy,h27,h22',r20,r22,hcd]
  trace_state
 | true=>
  have hne:=hyes rfl
  simp (maxSteps:=2000000) [-getElem?_pos,-List.map_set,-objBelow,-depV,-q_zeroT_197,gp,t2,t3,t4,t7,t9,hsy,h27,h22',r20,r22,h1,h2,hne]
  trace_state
end Go.Dv
