/- Texts of this proof, part DvA. -/
import Derived.Test.YtfjbdkmmoinngaaGreatDoorSimB
set_option linter.unusedVariables false
set_option linter.unusedSimpArgs false
set_option linter.unusedSectionVars false
noncomputable section
namespace Go.Dv
open Go Go.Sim
inductive FV where
 | raw (v:Value)
 | lst (l:List FV)
 | agg (l:List FV)
inductive DV where
 | f (x:FV)
 | agg (l:List DV)
 | tup (l:List DV)
 | fn (g:FuncId) (a b:List DV)
 | yl (l:Nat)
 | ref (o i k:Nat)
 | rfa (o n i k:Nat)
 | row (o off len cap:Nat)
 | apl (o len:Nat)
 | prt (o n off len:Nat)
 | mp (o:Nat)
 | fp (l:List FV)
 | em
 | lv (o ver len:Nat)
abbrev rv (v:Value):DV:=.f (.raw v)
abbrev zyf:DV:=.f (.raw (.slice none 0 0))
inductive Gh where
 | frz (t:Tmp)
 | own (t e sz:Nat)
 | ownC (t k e sz:Nat)
 | frzI (t k:Tmp)
 | ownAll (t e sz:Nat)
 | frzP (t:Tmp)
 | emp (t:Tmp)
 | frzE (t k:Tmp)
structure Ann where
 raw:Bool
 gh:List (Nat×List Gh)
 pl:List (Nat×(List PI×List Nat))
 keep:List (Nat×List Tmp)
 long:Bool
structure KD where
 fn:FuncId
 nt:Nat
 ro:Option Nat
 base:Nat
 an:Ann
inductive DObj where
 | arr (sz:Nat) (els:List DV)
 | app (e sz:Nat) (els:List DV)
 | map (ks:List Value) (vs:List DV)
 | loop (st:LoopState) (p:Option Code) (K:KD) (tm:Trie DV) (ps:Array Tmp) (asg body:Code)
 | dead
 | chn (e sz ctr:Nat) (L:List (Nat×List DV))
abbrev DH:=List DObj
def zxl:FV->List FV
 | .agg l=>l
 | x=>[x]
def zzd:DV->List DV
 | .agg l=>l
 | x=>[x]
def zrm:FV->Bool
 | .raw v=>oneCell v
 | .lst _=>true
 | .agg _=>false
def zwz:DV->Bool
 | .f x=>zrm x
 | .agg _=>false
 | .tup _=>false
 | _=>true
def elD:FV->DV
 | .agg l=>.agg (l.map .f)
 | x=>.f x
def zrn (sz:Nat) (d:DV):Bool:=Nat.beq (zzd d).length sz&&(zzd d).all zwz
def ofV:Value->DV
 | .agg cs=>.agg (cs.toList.map rv)
 | v=>rv v
def ykm:List DV->Option (List Value)
 | []=>some []
 | .f (.raw v)::l=>(ykm l).map (v::·)
 | _=>none
def ysm:List DV->Option (List FV)
 | []=>some []
 | .f x::l=>(ysm l).map (x::·)
 | _=>none
def toV:DV->Option Value
 | .f (.raw v)=>some v
 | .agg l=>(ykm l).map λvs=>.agg vs.toArray
 | _=>none
def zzl (tm:Trie DV):Operand->Option DV
 | .tmp t=>tm.get t
 | .const v=>(zw2 v).map ofV
 | .global _=>none
 | .func f=>some (.fn f [] [])
def zy5 (tm:Trie DV):List Operand->Option (List DV)
 | []=>some []
 | x::l=>match zzl tm x with
  | some d=>(zy5 tm l).map (d::·)
  | none=>none
inductive DRes where
 | val (d:DV) (D:DH)
 | enter (g:FuncId) (args:List DV)
 | yield (l:Nat) (args:List DV)
def zv3 (D:DH):Option DV->Option DRes
 | some d=>some (.val d D)
 | none=>none
structure SlT where
 e:Nat
 sz:Nat
 by_:Nat
 z:DV
def tSl (P:Program) (t:TypeId):Option SlT:=
 match zio P t with
 | some e=>match zyl P e with
  | some sz=>match zhn P e with
   | some b=>match zxa P e with
    | some z=>if zrn sz (ofV z)=true/\b<=65536 then some ⟨e,sz,b,ofV z⟩ else none
    | none=>none
   | none=>none
  | none=>none
 | none=>none
def tLd (P:Program) (t:TypeId):Option (Option Nat):=
 match zk9 P t with
 | some true=>(zyl P t).map some
 | some false=>some none
 | none=>none
def xn3 (P:Program) (f:Nat):TypeDesc->Option (Nat×TypeId)
 | .struct fs=>match fs.toList[f]? with
  | some fd=>match zyl P fd.type with
   | some (_+1)=>some (fd.offset,fd.type)
   | _=>none
  | none=>none
 | _=>none
def zl1 (P:Program) (t:TypeId) (f:Nat):Option (Nat×TypeId):=(P.underlying t).bind (xn3 P f)
def xn4 (P:Program):TypeDesc->Option (Nat×Nat×TypeId)
 | .array n e=>(zyl P e).map λs=>(n,s,e)
 | _=>none
def zmy (P:Program) (t:TypeId):Option (Nat×Nat×TypeId):=(P.underlying t).bind (xn4 P)
def zsi (cs:List DV) (k:Nat):Option Nat->Option DV
 | some n=>if 0<n/\k+n<=cs.length then some (.agg ((cs.drop k).take n)) else none
 | none=>cs[k]?
def putAt (cs:List DV) (k:Nat) (ds:List DV):List DV:=cs.take k++ds++cs.drop (k+ds.length)
def xn5:DObj->Option (Nat×List DV)
 | .arr sz els=>some (sz,els)
 | _=>none
def zl2 (P:Program) (D:DH) (e:TypeId):Option DRes:=
 match zxa P e with
 | some z=>if zrn (zzd (ofV z)).length (ofV z)=true then some (.val (.ref D.length 0 0) (D++[.arr (zzd (ofV z)).length [ofV z]])) else none
 | none=>none
def ye6 (D:DH):Option DV->Option DRes
 | some d=>if zrn (zzd d).length d=true then some (.val (.ref D.length 0 0) (D++[.arr (zzd d).length [d]])) else none
 | none=>none
def ysn (els:List DV) (i k:Nat) (a:Option Nat):Option DV:=(els[i]?).bind λd=>zsi (zzd d) k a
def zve (D:DH) (a:Option Nat):DV->Option DV
 | .ref o i k=>match D[o]? with
  | some (.arr _ els)=>ysn els i k a
  | _=>none
 | .rfa o n i k=>match D[o]? with
  | some (.app _ _ els)=>if els.length=n then ysn els i k a else none
  | _=>none
 | .fp l=>zsi (l.map .f) 0 a
 | _=>none
def yso (sz:Nat) (els:List DV) (i k:Nat) (d:DV):Option (List DV):=
 match els[i]? with
 | some x=>if (zzd d).all zwz=true/\k+(zzd d).length<=sz then
   some (els.set i (if (zzd d).length=sz then d else .agg (putAt (zzd x) k (zzd d)))) else none
 | none=>none
def zl3 (D:DH) (base n:Nat) (d:DV):DV->Option DH
 | .ref o i k=>match D[o]? with
  | some (.arr sz els)=>if base<=o/\(zzd d).length=n then (yso sz els i k d).map λels'=>D.set o (.arr sz els') else none
  | _=>none
 | .rfa o m i k=>match D[o]? with
  | some (.app e sz els)=>if base<=o/\(zzd d).length=n/\els.length=m then (yso sz els i k d).map λels'=>D.set o (.app e sz els') else none
  | _=>none
 | _=>none
def zpr (ver:Nat):List (Nat×List DV)->List (Nat×List DV)
 | []=>[]
 | (w,els)::l=>if w=ver then (w,els)::l else zpr ver l
def zo2:List (Nat×List DV)->Option (List DV)
 | []=>none
 | (_,els)::_=>some els
def zwd (D:DH):DV->Option (List DV)
 | .f (.lst l)=>some (l.map elD)
 | .f (.raw (.slice none 0 0))=>some []
 | .row o off len _=>match D[o]? with
  | some (.arr sz els)=>if 0<sz/\off+len<=els.length then some ((els.drop off).take len) else none
  | _=>none
 | .apl o len=>match D[o]? with
  | some (.app _ sz els)=>if els.length=len/\0<sz then some els else none
  | _=>none
 | .prt o n off len=>match D[o]? with
  | some (.app _ sz els)=>if els.length=n/\0<sz then some ((els.drop off).take len) else none
  | _=>none
 | .em=>some []
 | .lv o ver len=>match D[o]? with
  | some (.chn _ sz _ L)=>match zo2 (zpr ver L) with
   | some els=>if els.length=len/\0<sz then some els else none
   | none=>none
  | _=>none
 | _=>none
def bnd (n by_:Nat):Prop:=n*by_<=1099511627776/\n<=1099511627776
instance (n by_:Nat):Decidable (bnd n by_):=inferInstanceAs (Decidable (_/\_))
def zwk (D:DH) (base:Nat) (T:SlT) (s:DV) (new:List DV):Option (DV×DH):=
 match s with
 | .f (.raw (.slice none 0 0))=>if bnd new.length T.by_ then some (.apl D.length new.length,D++[.app T.e T.sz new]) else none
 | .apl o len=>match D[o]? with
  | some (.app e sz els)=>if e=T.e/\sz=T.sz/\els.length=len/\base<=o/\bnd (len+new.length) T.by_ then some (.apl o (len+new.length),D.set o (.app e sz (els++new))) else none
  | _=>none
 | .row o off len cap=>match D[o]? with
  | some (.arr sz els)=>if sz=T.sz/\bnd (len+new.length) T.by_/\off+len<=els.length then
    (if len+new.length<=cap then (if base<=o then some (.row o off (len+new.length) cap,D.set o (.arr sz (putAt els (off+len) new))) else none)
    else if base<=o/\off=0/\len=els.length then some (.apl o (len+new.length),D.set o (.app T.e T.sz (els++new)))
    else some (.apl D.length (len+new.length),D++[.app T.e T.sz ((els.drop off).take len++new)])) else none
  | _=>none
 | .em=>if bnd new.length T.by_/\0<new.length then some (.lv D.length 0 new.length,D++[.chn T.e T.sz 1 [(0,new)]]) else none
 | .lv o ver len=>match D[o]? with
  | some (.chn e sz ctr L)=>match zo2 (zpr ver L) with
   | some els=>if e=T.e/\sz=T.sz/\els.length=len/\base<=o/\bnd (len+new.length) T.by_/\0<new.length/\L.length<99 then some (.lv o ctr (len+new.length),D.set o (.chn e sz (ctr+1) ((ctr,els++new)::zpr ver L))) else none
   | none=>none
  | _=>none
 | _=>none
def zyt (D:DH) (T:Option SlT) (A:Option (Nat×Nat×TypeId)) (n:Nat):DV->Option DV
 | .f (.lst l)=>match T with
  | some T=>match l[n]? with
   | some x=>if (zxl x).length=T.sz then some (.fp (zxl x)) else none
   | none=>none
  | none=>none
 | .row o off len _=>match T with
  | some T=>match D[o]? with
   | some (.arr sz els)=>if sz=T.sz/\n<len then some (.ref o (off+n) 0) else none
   | _=>none
  | none=>none
 | .apl o len=>match T with
  | some T=>match D[o]? with
   | some (.app _ sz els)=>if sz=T.sz/\els.length=len/\n<len then some (.rfa o len n 0) else none
   | _=>none
  | none=>none
 | .prt o m off len=>match T with
  | some T=>match D[o]? with
   | some (.app _ sz els)=>if sz=T.sz/\els.length=m/\n<len then some (.rfa o m (off+n) 0) else none
   | _=>none
  | none=>none
 | .ref o i k=>match A with
  | some (m,s,_)=>match D[o]? with
   | some (.arr _ _)=>if n<m then some (.ref o i (k+n*s)) else none
   | _=>none
  | none=>none
 | .rfa o u i k=>match A with
  | some (m,s,_)=>match D[o]? with
   | some (.app _ _ els)=>if n<m/\els.length=u then some (.rfa o u i (k+n*s)) else none
   | _=>none
  | none=>none
 | .fp l=>match A with
  | some (m,s,_)=>if n<m/\n*s<=l.length then some (.fp (l.drop (n*s))) else none
  | none=>none
 | _=>none
def zut (D:DH):DV->Bool
 | .ref o _ _=>match D[o]? with
  | some (.arr _ _)=>true
  | _=>false
 | .rfa o n _ _=>match D[o]? with
  | some (.app _ _ els)=>decide (els.length=n)
  | _=>false
 | _=>false
def zsm (D:DH) (off:Nat) (d:DV):Option DV:=
 match d with
 | .ref o i k=>if zut D d=true then some (.ref o i (k+off)) else none
 | .rfa o n i k=>if zut D d=true then some (.rfa o n i (k+off)) else none
 | .fp l=>if off<=l.length then some (.fp (l.drop off)) else none
 | _=>none
def zro (D:DH) (T:SlT) (n m:Nat):Option DRes:=
 if n<=m/\m*T.by_<=140737488355328/\m<9223372036854775808/\0<T.sz then some (.val (.row D.length 0 n m) (D++[.arr T.sz (List.replicate m T.z)])) else none
def zpt (sz:Nat):List DV->List (Nat×DV)->Option (List DV)
 | els,[]=>some els
 | els,(i,d)::l=>if i<els.length/\zrn sz d=true then zpt sz (els.set i d) l else none
def zub (tm:Trie DV):List (Nat×Operand)->Option (List (Nat×DV))
 | []=>some []
 | (i,x)::l=>match zzl tm x with
  | some d=>(zub tm l).map ((i,d)::·)
  | none=>none
def zx4 (D:DH) (T:SlT) (len:Nat):Option (List (Nat×DV))->Option DRes
 | some ps=>if len*T.sz<=16777216/\len<=16777216/\0<T.sz then (zpt T.sz (List.replicate len T.z) ps).map λels=>.val (.row D.length 0 len len) (D++[.arr T.sz els]) else none
 | none=>none
def zl4 (place:Nat->Option (Nat×Nat)):List DV->List (Nat×DV)->Option (List DV)
 | cs,[]=>some cs
 | cs,(i,d)::l=>match place i with
  | some (o,n)=>if zrn n d=true/\o+n<=cs.length then zl4 place (putAt cs o (zzd d)) l else none
  | none=>none
def ye7 (P:Program):TypeDesc->Option (Nat->Option (Nat×Nat))
 | .struct fs=>(zja P fs.toList).map λpl i=>pl[i]?
 | .array _ e=>(zyl P e).map λn i=>some (i*n,n)
 | _=>none
def tBd (P:Program) (t:TypeId):Option (List DV×(Nat->Option (Nat×Nat))):=
 match zxa P t with
 | some z=>match (P.underlying t).bind (ye7 P) with
  | some pl=>some ((cellsOf z).map rv,pl)
  | none=>none
 | none=>none
def zf7 (B:Option (List DV×(Nat->Option (Nat×Nat)))) (ps:Option (List (Nat×DV))):Option DV:=
 match B with
 | some (z,pl)=>match ps with
  | some l=>(zl4 pl z l).map .agg
  | none=>none
 | none=>none
def zi5:DV->Option Nat
 | .f (.raw (.int _ (.ofNat n)))=>some n
 | _=>none
def zqj:DV->Option Nat
 | .f (.raw (.int .i64 (.ofNat n)))=>some n
 | _=>none
def bdD (tm:Trie DV) (dflt:Nat):Option Operand->Option Nat
 | none=>some dflt
 | some x=>(zzl tm x).bind zi5
def xw5 (tm:Trie DV):Option Operand->Option (Option Value)
 | none=>some none
 | some x=>((zzl tm x).bind toV).map some
def zwu (D:DH) (T:Option SlT) (l:Nat) (h:Option Nat):DV->Option DV
 | .f (.lst x)=>match T with
  | some T=>if l<=h.getD x.length/\h.getD x.length<=x.length/\(x.all λy=>Nat.beq (zxl y).length T.sz)=true then some (.f (.lst ((x.take (h.getD x.length)).drop l))) else none
  | none=>none
 | .f (.raw (.slice none 0 0))=>match T with
  | some _=>if l=0/\h.getD 0=0 then some zyf else none
  | none=>none
 | .row o off len cap=>match T with
  | some T=>match D[o]? with
   | some (.arr sz _)=>if sz=T.sz/\l<=h.getD len/\h.getD len<=cap then some (if l=0 then .row o off (h.getD len) cap else if l=cap then .row o off 0 0 else .row o (off+l) (h.getD len-l) (cap-l)) else none
   | _=>none
  | none=>none
 | .apl o len=>match T with
  | some T=>match D[o]? with
   | some (.app _ sz els)=>if sz=T.sz/\els.length=len/\0<len/\l<=h.getD len/\h.getD len<=len then some (.prt o len l (h.getD len-l)) else none
   | _=>none
  | none=>none
 | _=>none
def zh9 (l:Nat) (h:Option Nat) (cs:List FV):Option (Nat×Nat×TypeId)->Option DV
 | some (m,1,_)=>if l<h.getD m/\h.getD m<=m/\m<=cs.length/\m<=1000000000/\cs.all zrm=true then some (.f (.lst ((cs.take (h.getD m)).drop l))) else none
 | _=>none
def zvx (P:Program) (D:DH) (t:TypeId) (l:Nat) (h:Option Nat):DV->Option DV
 | .fp cs=>zh9 l h cs (zmy P t)
 | d=>zwu D (tSl P t) l h d
def zl5:Value->Bool
 | .slice (some _) _ _=>false
 | .map (some _)=>false
 | _=>true
def xw6:Hp:=⟨.leaf,.leaf,0⟩
def zuc:List DV->Option (List UInt8)
 | []=>some []
 | .f (.raw (.int .u8 (.ofNat n)))::l=>(zuc l).map (UInt8.ofNat n::·)
 | _=>none
def yw9 (P:Program) (s d:TypeId):Bool:=
 match P.underlying s with
 | some (.slice e)=>match P.underlying d with
  | some .string=>match P.underlying e with
   | some (.int .u8)=>true
   | _=>false
  | _=>false
 | _=>false
def yl3:DV->Bool
 | .em=>false
 | .lv ..=>false
 | _=>true
def zc9 (P:Program) (D:DH) (s d:TypeId) (x:DV):Option DV:=
 match yw9 P s d with
 | true=>if yl3 x=true then ((zwd D x).bind zuc).map λl=>rv (zxf l) else none
 | false=>match x with
  | .f (.raw v)=>if zl5 v=true then (zx8 P xw6 s d v).map rv else none
  | _=>none
def zqf (D:DH):DV->Option Nat
 | .f (.lst l)=>some l.length
 | .f (.raw (.slice none 0 0))=>some 0
 | .row o _ len _=>match D[o]? with
  | some (.arr _ _)=>some len
  | _=>none
 | .apl o len=>match D[o]? with
  | some (.app _ _ els)=>if els.length=len then some len else none
  | _=>none
 | .prt o n _ len=>match D[o]? with
  | some (.app _ _ els)=>if els.length=n then some len else none
  | _=>none
 | .em=>some 0
 | .lv _ _ len=>some len
 | _=>none
def zo3:TypeDesc->Nat
 | .string=>0
 | .slice _=>3
 | .map _ _=>1
 | _=>2
def zf8 (P:Program) (t:TypeId):Option Nat:=(P.underlying t).map zo3
def zc4 (D:DH) (x:DV):Option Nat->Option DV
 | some 0=>match x with
  | .f (.raw (.string s))=>some (rv (zlt s.size))
  | _=>none
 | some 3=>(zqf D x).map λn=>rv (zlt n)
 | some 1=>match x with
  | .mp o=>match D[o]? with
   | some (.map ks _)=>some (rv (zlt ks.length))
   | _=>none
  | _=>none
 | _=>none
def zwl (ks:List Value):List MapEntry:=ks.map λk=>⟨k,undef,0⟩
def zf2 (P:Program) (t:TypeId):Option (TypeId×Option Value):=
 match P.underlying t with
 | some (.map kt et)=>some (kt,zxa P et)
 | _=>none
def zsn (ok b:Bool) (d:DV):DV:=match ok with
 | true=>.tup [d,rv (.bool b)]
 | false=>d
def zso (P:Program) (D:DH) (M:Option (TypeId×Option Value)) (x:DV) (k:Option Value) (ok:Bool):Option DV:=
 match M with
 | some (kt,z)=>match x with
  | .mp o=>match D[o]? with
   | some (.map ks vs)=>match k with
    | some k=>match zx0 P kt k (zwl ks) with
     | some (some i)=>(vs[i]?).map (zsn ok true)
     | some none=>z.map λz=>zsn ok false (ofV z)
     | none=>none
    | none=>none
   | _=>none
  | _=>none
 | none=>none
def zuy (P:Program) (D:DH) (base:Nat) (M:Option (TypeId×Option Value)) (x:DV) (k:Option Value) (d:DV):Option DH:=
 match M with
 | some (kt,z)=>match x with
  | .mp o=>match D[o]? with
   | some (.map ks vs)=>match k with
    | some k=>if base<=o then match zx0 P kt k (zwl ks) with
     | some (some i)=>match ks[i]? with
      | some k'=>if (zyj k'&&Instr.sameBits 10000 k' k)=true then some (D.set o (.map (ks.set i k) (vs.set i d))) else none
      | none=>none
     | some none=>some (D.set o (.map (ks++[k]) (vs++[d])))
     | none=>none else none
    | none=>none
   | _=>none
  | _=>none
 | none=>none
def zrp (i:Nat):DV->Option DV
 | .tup l=>l[i]?
 | _=>none
def zba (D:DH) (d:DV):Option DV:=
 match d with
 | .ref o i k=>if zut D d=true then some d else none
 | .rfa o n i k=>if zut D d=true then some d else none
 | .fp l=>some (.fp l)
 | .fn g a b=>some (.fn g a b)
 | .yl l=>match D[l]? with
  | some (.loop ..)=>some (.yl l)
  | _=>none
 | _=>none
def zuz (D:DH) (args:List DV):DV->Option DRes
 | .fn g a b=>some (.enter g (a++args++b))
 | .yl l=>match D[l]? with
  | some (.loop ..)=>some (.yield l args)
  | _=>none
 | _=>none
def zf9:Option (DV×DH)->Option DRes
 | some (d,D)=>some (.val d D)
 | none=>none
def hpD (d:DV):Option DH->Option DRes
 | some D=>some (.val d D)
 | none=>none
def zqv (P:Program) (f:Value->Value->Sem Value) (l:List DV):Option DV:=
 match ykm l with
 | some (x::l)=>(zs8 P f x l).map rv
 | _=>none
def ys6 (D:DH) (base:Nat) (T:SlT) (d:DV) (x:List DV):Option DRes:=
 match d with
 | .row o off len _=>match D[o]? with
  | some (.arr sz els)=>if sz=T.sz/\0<sz/\base<=o/\off+len<=els.length then some (.val (rv (zlt (min x.length len))) (D.set o (.arr sz (putAt els off (x.take (min x.length len)))))) else none
  | _=>none
 | .apl o len=>match D[o]? with
  | some (.app e sz els)=>if sz=T.sz/\0<sz/\base<=o/\els.length=len then some (.val (rv (zlt (min x.length len))) (D.set o (.app e sz (putAt els 0 (x.take (min x.length len)))))) else none
  | _=>none
 | _=>none
def zi6 (D:DH) (base:Nat) (T:Option SlT) (d:DV):Option DRes:=
 match d with
 | .prt o n off len=>match T with
  | some T=>match D[o]? with
   | some (.app e sz els)=>if sz=1/\T.sz=1/\base<=o/\els.length=n/\off+len<=n then some (.val (.tup []) (D.set o (.app e sz (putAt els off (List.replicate len T.z))))) else none
   | _=>none
  | none=>none
 | _=>none
def zx1 (P:Program) (D:DH) (base:Nat) (ats:List TypeId) (args:List DV):Builtin->Option DRes
 | .append=>match ats with
  | [st,tx]=>match zvt P tx with
   | true=>match args with
    | [s,x]=>match tSl P st with
     | some T=>match zwd D x with
      | some new=>if new.all (zrn T.sz)=true then zf9 (zwk D base T s new) else none
      | none=>none
     | none=>none
    | _=>none
   | false=>none
  | _=>none
 | .len=>match ats with
  | t::_=>match args with
   | [x]=>zv3 D (zc4 D x (zf8 P t))
   | _=>none
  | []=>none
 | .copy=>match ats with
  | t::_=>match args with
   | [d,x]=>match tSl P t with
    | some T=>match zwd D x with
     | some new=>if new.all (zrn T.sz)=true then ys6 D base T d new else none
     | none=>none
    | none=>none
   | _=>none
  | []=>none
 | .clear=>match ats with
  | [t]=>match args with
   | [x]=>zi6 D base (tSl P t) x
   | _=>none
  | _=>none
 | .max=>zv3 D (zqv P Builtin.max2 args)
 | .min=>zv3 D (zqv P Builtin.min2 args)
 | _=>none
def zsp:Option SlT->BinOp->Option DV->Option DV
 | some _,.eql,some (.f (.raw (.slice none 0 0)))=>some (rv (.bool false))
 | _,_,_=>none
def ys7 (P:Program) (op:BinOp) (t:TypeId) (x y:Operand) (a b:Option DV):Option DV:=
 match a.bind toV with
 | some va=>match b.bind toV with
  | some vb=>(zty P op t x y va vb).map ofV
  | none=>none
 | none=>none
def ykn (P:Program) (op:BinOp) (t:TypeId) (x y:Operand) (a b:Option DV):Option DV:=
 match a with
 | some .em=>zsp (tSl P t) op b
 | some (.lv ..)=>zsp (tSl P t) op b
 | a=>ys7 P op t x y a b
def dUn (P:Program) (op:UnOp) (a:Option DV):Option DV:=
 match a.bind toV with
 | some v=>(unA P op v).map ofV
 | none=>none
def yva (tm:Trie DV) (a b:Operand):Option DV->Option DV
 | some (.f (.raw (.bool true)))=>zzl tm a
 | some (.f (.raw (.bool false)))=>zzl tm b
 | _=>none
def zbb (D:DH) (fn:Fn) (a b:Option (List DV)):Option DRes:=
 match fn with
 | .func g=>match a with
  | some l=>match b with
   | some m=>some (.val (.fn g l m) D)
   | none=>none
  | none=>none
 | _=>none
def zpu (P:Program) (tm:Trie DV) (D:DH) (base:Nat) (c:Call):Option DRes:=
 match zy5 tm c.args.toList with
 | some l=>match c.callee with
  | .builtin b=>zx1 P D base c.argTypes.toList l b
  | .value f=>(zzl tm f).bind (zuz D l)
  | _=>none
 | none=>none
def zea (D:DH) (T:Option SlT) (n m:Option DV):Option DRes:=
 match T with
 | some T=>match n.bind zqj with
  | some n=>match m.bind zqj with
   | some m=>zro D T n m
   | none=>none
  | none=>none
 | none=>none
def zqw (D:DH) (base:Nat) (n:Option Nat) (a x:Option DV):Option DRes:=
 match n with
 | some n=>match a with
  | some a=>match x with
   | some d=>hpD (rv undef) (zl3 D base n d a)
   | none=>none
  | none=>none
 | none=>none
def xxu (P:Program) (D:DH) (t:TypeId) (x i:Option DV):Option DV:=
 match x with
 | some d=>match i.bind zi5 with
  | some n=>zyt D (tSl P t) (zmy P t) n d
  | none=>none
 | none=>none
def zvb (P:Program) (t:TypeId) (x i:Option DV):Option DV:=
 match x with
 | some (.f (.raw v))=>match i with
  | some (.f (.raw n))=>if zl5 v=true then (zmd P t v n).map ofV else none
  | _=>none
 | some (.agg cs)=>match i.bind zi5 with
  | some n=>match zmy P t with
   | some (m,s,e)=>if n<m then (tLd P e).bind λa=>zsi cs (n*s) a else none
   | none=>none
  | none=>none
 | _=>none
def zn4 (P:Program) (t:TypeId) (f:Nat):Option DV->Option DV
 | some (.agg cs)=>match zl1 P t f with
  | some (o,ft)=>(tLd P ft).bind λa=>zsi cs o a
  | none=>none
 | _=>none
def zvy (P:Program) (tm:Trie DV) (D:DH) (t:TypeId) (x:Option DV) (lo hi mx:Option Operand):Option DV:=
 match x with
 | some (.f (.raw (.string s)))=>match xw5 tm lo with
  | some l=>match xw5 tm hi with
   | some h=>match mx with
    | none=>match P.underlying t with
     | some .string=>(zlu s l h none).map rv
     | _=>none
    | some _=>none
   | none=>none
  | none=>none
 | some d=>match mx with
  | none=>match bdD tm 0 lo with
   | some l=>match hi with
    | none=>zvx P D t l none d
    | some h=>match (zzl tm h).bind zi5 with
     | some h=>zvx P D t l (some h) d
     | none=>none
   | none=>none
  | some _=>none
 | none=>none
def dop (P:Program) (base:Nat) (tm:Trie DV) (D:DH):Op->Option DRes
 | .move x=>zv3 D (zzl tm x)
 | .assign x=>zv3 D (zzl tm x)
 | .pick c a b=>zv3 D (yva tm a b (zzl tm c))
 | .alloc e=>zl2 P D e
 | .box _ x=>ye6 D (zzl tm x)
 | .build t ps=>zv3 D (zf7 (tBd P t) (zub tm ps.toList))
 | .buildSlice t len ps=>match tSl P t with
  | some T=>zx4 D T len (zub tm ps.toList)
  | none=>none
 | .insert t m k v=>match zzl tm m with
  | some m=>match zzl tm k with
   | some k=>match zzl tm v with
    | some d=>hpD (rv undef) (zuy P D base (zf2 P t) m (toV k) d)
    | none=>none
   | none=>none
  | none=>none
 | .mapUpdate t m k v=>match zzl tm m with
  | some m=>match zzl tm k with
   | some k=>match zzl tm v with
    | some d=>hpD (rv undef) (zuy P D base (zf2 P t) m (toV k) d)
    | none=>none
   | none=>none
  | none=>none
 | .load t a=>match tLd P t with
  | some n=>zv3 D ((zzl tm a).bind (zve D n))
  | none=>none
 | .store t a x=>zqw D base (zyl P t) (zzl tm a) (zzl tm x)
 | .nilCheck x=>zv3 D ((zzl tm x).bind (zba D))
 | .binOp op t x y _=>zv3 D (ykn P op t x y (zzl tm x) (zzl tm y))
 | .unOp op _ x=>zv3 D (dUn P op (zzl tm x))
 | .convert s d x=>zv3 D ((zzl tm x).bind (zc9 P D s d))
 | .makeFunc fn a b=>zbb D fn (zy5 tm a.toList) (zy5 tm b.toList)
 | .makeMap _ none=>some (.val (.mp D.length) (D++[.map [] []]))
 | .makeSlice t l c=>zea D (tSl P t) (zzl tm l) (zzl tm c)
 | .slice t x lo hi mx=>zv3 D (zvy P tm D t (zzl tm x) lo hi mx)
 | .fieldAddr s x f=>match zl1 P s f with
  | some (o,_)=>zv3 D ((zzl tm x).bind (zsm D o))
  | none=>none
 | .field t x f=>zv3 D (zn4 P t f (zzl tm x))
 | .indexAddr t x i=>zv3 D (xxu P D t (zzl tm x) (zzl tm i))
 | .index t x i=>zv3 D (zvb P t (zzl tm x) (zzl tm i))
 | .lookup t m k ok=>match zzl tm m with
  | some m=>match zzl tm k with
   | some k=>zv3 D (zso P D (zf2 P t) m (toV k) ok)
   | none=>none
  | none=>none
 | .extract x i=>zv3 D ((zzl tm x).bind (zrp i))
 | .call c=>zpu P tm D base c
 | _=>none
end Go.Dv
namespace Go.Dv
open Go Go.Sim
structure Par where
 P:Program
 ann:FuncId->Ann
 tv:FuncId->Bool
 fr:FuncId->Bool
def zym {α:Type} (k:Nat):List (Nat×α)->Option α
 | []=>none
 | (i,x)::l=>if i=k then some x else zym k l
def zud:FV->FV
 | .raw (.slice none 0 0)=>.lst []
 | x=>x
def zsq (g:DV->Option (FV×List Nat)):List DV->Option (List FV×List Nat)
 | []=>some ([],[])
 | d::l=>match g d with
  | some (x,i)=>match zsq g l with
   | some (xs,is)=>some (x::xs,i++is)
   | none=>none
  | none=>none
def frz (base:Nat) (D:DH):Nat->DV->Option (FV×List Nat)
 | _,.f x=>some (zud x,[])
 | k+1,.agg l=>if l.all zwz=true then (zsq (frz base D k) l).map λq=>(.agg q.1,q.2) else none
 | k+1,.row o off len _=>match D[o]? with
  | some (.arr sz els)=>if base<=o/\off+len<=els.length/\0<sz then (zsq (frz base D k) ((els.drop off).take len)).map λq=>(.lst q.1,o::q.2) else none
  | _=>none
 | k+1,.apl o len=>match D[o]? with
  | some (.app _ sz els)=>if base<=o/\els.length=len/\0<sz then (zsq (frz base D k) els).map λq=>(.lst q.1,o::q.2) else none
  | _=>none
 | _,_=>none
def zc5 (g:DV->Option (DV×List Nat)):List DV->Option (List DV×List Nat)
 | []=>some ([],[])
 | d::l=>match g d with
  | some (x,i)=>match zc5 g l with
   | some (xs,is)=>some (x::xs,i++is)
   | none=>none
  | none=>none
def zmz (base:Nat) (D:DH) (d:DV):Option (DV×List Nat):=(frz base D 4 d).map λq=>(.f q.1,q.2)
def zc6 (base:Nat) (D:DH):DV->Option (DV×List Nat)
 | .agg l=>if l.all zwz=true then (zc5 (zmz base D) l).map λq=>(.agg q.1,q.2) else none
 | .fn g [] []=>some (.fn g [] [],[])
 | d=>zmz base D d
def zqx (base:Nat) (D:DH):DV->Option (DV×List Nat)
 | .tup l=>(zc5 (zc6 base D) l).map λq=>(.tup q.1,q.2)
 | d=>zc6 base D d
def zm0 (D:DH):List Nat->DH
 | []=>D
 | o::l=>zm0 (D.set o .dead) l
def zva:DV->DV
 | .f x=>.f (zud x)
 | .agg l=>.agg (l.map λd=>match d with
  | .f x=>.f (zud x)
  | d=>d)
 | d=>d
structure SD where
 tm:Trie DV
 D:DH
def zeb:DV->Bool
 | .f (.raw (.slice none 0 0))=>true
 | _=>false
def yko (base p n:Nat) (D:DH):Option DObj->Option DH
 | some (.app _ _ els)=>match els[n]? with
  | some d=>match zzd d with
   | [x]=>match zqx base D x with
    | some (.f y,is)=>match (zm0 D is)[p]? with
     | some (.app e sz els')=>if base<=p/\zrm y=true/\sz=1 then some ((zm0 D is).set p (.app e sz (els'.set n (.f y)))) else none
     | _=>none
    | _=>none
   | _=>none
  | none=>none
 | _=>none
def frzE (base p:Nat):Nat->DH->Option DH
 | 0,D=>some D
 | n+1,D=>match frzE base p n D with
  | some D'=>yko base p n D' D'[p]?
  | none=>none
def zxh (base:Nat) (s:SD):Gh->Option SD
 | .frz t=>match s.tm.get t with
  | some d=>match zqx base s.D d with
   | some (d',is)=>some ⟨s.tm.put t d',zm0 s.D is⟩
   | none=>none
  | none=>none
 | .own t e sz=>match s.tm.get t with
  | some (.f (.raw (.slice none 0 0)))=>some ⟨s.tm.put t (.apl s.D.length 0),s.D++[.app e sz []]⟩
  | _=>none
 | .ownC t k e sz=>match s.tm.get t with
  | some (.ref o i j)=>match s.D[o]? with
   | some (.arr s' els)=>match els[i]? with
    | some (.agg cs)=>match cs[j+k]? with
     | some (.f (.raw (.slice none 0 0)))=>if base<=o then some ⟨s.tm,s.D.set o (.arr s' (els.set i (.agg (cs.set (j+k) (.apl s.D.length 0)))))++[.app e sz []]⟩ else none
     | _=>none
    | _=>none
   | _=>none
  | _=>none
 | .ownAll t e sz=>match s.tm.get t with
  | some (.row o _ _ _)=>match s.D[o]? with
   | some (.arr 1 els)=>if base<=o/\els.all zeb=true then some ⟨s.tm,s.D.set o (.arr 1 ((List.range els.length).map λi=>.apl (s.D.length+i) 0))++List.replicate els.length (.app e sz [])⟩ else none
   | _=>none
  | _=>none
 | .frzP t=>match s.tm.get t with
  | some (.ref o 0 0)=>match s.D[o]? with
   | some (.arr sz [d])=>match ysm (zzd d) with
    | some ys=>if base<=o/\0<ys.length then some ⟨s.tm.put t (.fp ys),s.D.set o .dead⟩ else none
    | none=>none
   | _=>none
  | _=>none
 | .emp t=>match s.tm.get t with
  | some (.row o _ 0 0)=>match s.D[o]? with
   | some (.arr sz _)=>if base<=o/\0<sz then some ⟨s.tm.put t .em,s.D.set o .dead⟩ else none
   | _=>none
  | some .em=>some s
  | some (.lv ..)=>some s
  | _=>none
 | .frzE t k=>match s.tm.get t with
  | some (.ref o i j)=>match s.D[o]? with
   | some (.arr _ els)=>match els[i]? with
    | some d=>match (zzd d)[j+k]? with
     | some (.apl p n)=>match frzE base p n s.D with
      | some D=>some ⟨s.tm,D⟩
      | none=>none
     | _=>none
    | none=>none
   | _=>none
  | _=>none
 | .frzI t k=>match s.tm.get t with
  | some (.row o off len cap)=>match (s.tm.get k).bind zi5 with
   | some i=>match s.D[o]? with
    | some (.arr sz els)=>match els[off+i]? with
     | some d=>match zzd d with
      | [x]=>match zqx base s.D x with
       | some (.f y,is)=>match (zm0 s.D is)[o]? with
        | some (.arr sz' els')=>if base<=o/\zrm y=true/\sz'=1 then some ⟨s.tm,(zm0 s.D is).set o (.arr sz' (els'.set (off+i) (.f y)))⟩ else none
        | _=>none
       | _=>none
      | _=>none
     | none=>none
    | _=>none
   | none=>none
  | _=>none
def zvz (base:Nat):List Gh->SD->Option SD
 | [],s=>some s
 | g::l,s=>match zxh base s g with
  | some s'=>zvz base l s'
  | none=>none
def zbc (K:KD) (id:Nat) (s:SD):Option SD:=match zym id K.an.gh with
 | some l=>zvz K.base l s
 | none=>some s
mutual
def below (L:Nat):DV->Bool
 | .f _=>true
 | .fp _=>true
 | .agg l=>zzo L l
 | .tup l=>zzo L l
 | .fn _ a b=>zzo L a&&zzo L b
 | .yl o=>decide (o<L)
 | .ref o _ _=>decide (o<L)
 | .rfa o _ _ _=>decide (o<L)
 | .row o _ _ _=>decide (o<L)
 | .apl o _=>decide (o<L)
 | .prt o _ _ _=>decide (o<L)
 | .mp o=>decide (o<L)
 | .em=>true
 | .lv o _ _=>decide (o<L)
def zzo (L:Nat):List DV->Bool
 | []=>true
 | d::l=>below L d&&zzo L l
end
def zza (L:Nat):DObj->Bool
 | .arr _ els=>els.all (below L)
 | .app _ _ els=>els.all (below L)
 | .map _ vs=>vs.all (below L)
 | .loop ..=>true
 | .dead=>true
 | .chn _ _ _ l=>l.all λq=>q.2.all (below L)
def zyg (base L:Nat) (D:DH):Bool:=((D.drop base).take (L-base)).all (zza L)
def canon (tm:Trie DV):List Tmp->Trie DV
 | []=>.leaf
 | k::l=>match tm.get k with
  | some d=>(canon tm l).put k d
  | none=>canon tm l
def zpv (tm:Trie DV) (L:Nat):List Tmp->Bool
 | []=>true
 | k::l=>match tm.get k with
  | some d=>below L d&&zpv tm L l
  | none=>zpv tm L l
def zec (keep:List Tmp) (raw:Bool) (base L:Nat) (s:SD):Option SD:=
 match raw with
 | true=>some ⟨canon s.tm keep,s.D⟩
 | false=>if zpv s.tm L keep=true/\zyg base L s.D=true/\L<=s.D.length/\base<=L then some ⟨canon s.tm keep,s.D.take L⟩ else none
def lpD (h:SD->Option SD) (F:SD->Option (BX×SD)):Nat->SD->Option (BX×SD)
 | 0,_=>none
 | m+1,s=>match h s with
  | some s1=>match F s1 with
   | some (.nrm,s')=>lpD h F m s'
   | r=>r
  | none=>none
open Classical in
def ye8 {α:Type} (g:Nat->Option α):Option α:=if h:∃ n r,g n=some r then some h.choose_spec.choose else none
def zm1 (h:SD->Option SD) (F:SD->Option (BX×SD)) (s:SD):Option (BX×SD):=ye8 λn=>lpD h F n s
abbrev zo1:=FuncId->List DV->Nat->DH->Option (DV×DH)
abbrev zn5:=KD->Code->SD->Option (BX×SD)
def putD (tm:Trie DV) (nt:Nat) (d:Option Tmp) (v:DV):Trie DV:=
 match d with
 | some d=>if d<nt then tm.put d v else tm
 | none=>tm
def zo4 (tm:Trie DV):Nat->List DV->Trie DV
 | _,[]=>tm
 | d,v::l=>zo4 (tm.put d v) (d+1) l
def yl4 (tm:Trie DV) (nt:Nat):List Tmp->List DV->Trie DV
 | t::ts,v::vs=>yl4 (putD tm nt (some t) v) nt ts vs
 | _,_=>tm
def gdV (w:Bool):Option DV->Option Bool
 | some (.f (.raw (.bool b)))=>some (b==w)
 | some (.f (.raw (.tuple _)))=>some false
 | _=>none
def gdO (w:Bool) (tm:Trie DV):Option Oper->Option Bool
 | some ⟨some d,_,_,_,_,_⟩=>gdV w (tm.get d)
 | _=>none
def zu0 (all:List Oper) (tm:Trie DV):Option (Nat×Bool)->Option Bool
 | none=>some true
 | some (j,w)=>gdO w tm all[j]?
def zw0 (sub:zo1) (yld:zo1) (base:Nat) (D:DH):Option DRes->Option (DV×DH)
 | some (.val d D')=>some (d,D')
 | some (.enter g args)=>sub g args base D
 | some (.yield l args)=>yld l args base D
 | none=>none
def zxo (P:Program) (sub yld:zo1) (base nt:Nat) (all:List Oper):List Oper->Trie DV->DH->Option (Trie DV×DH)
 | [],tm,D=>some (tm,D)
 | o::rest,tm,D=>match zu0 all tm o.guard with
  | some true=>match zw0 sub yld base D (dop P base tm D o.op) with
   | some (d,D')=>zxo P sub yld base nt all rest (putD tm nt o.dst d) D'
   | none=>none
  | some false=>zxo P sub yld base nt all rest (putD tm nt o.dst (rv undef)) D
  | none=>none
def zyw:Option DV->Option Nat
 | some (.ref o _ _)=>some o
 | some (.rfa o _ _ _)=>some o
 | some (.row o _ _ _)=>some o
 | some (.apl o _)=>some o
 | some (.prt o _ _ _)=>some o
 | some (.mp o)=>some o
 | some (.lv o _ _)=>some o
 | _=>none
def zpw (tm:Trie DV):Op->Option Nat
 | .load _ a=>zyw (zzl tm a)
 | .lookup _ m _ _=>zyw (zzl tm m)
 | .convert _ _ x=>zyw (zzl tm x)
 | .call c=>match c.args.toList with
  | x::_=>zyw (zzl tm x)
  | []=>none
 | _=>none
def zvo (Q:Par) (tm:Trie DV):Op->Option (Option Nat)
 | .store _ a _=>some (zyw (zzl tm a))
 | .mapUpdate _ m _ _=>some (zyw (zzl tm m))
 | .insert _ m _ _=>some (zyw (zzl tm m))
 | .call ⟨.builtin _,args,_⟩=>match args.toList with
  | x::_=>some (zyw (zzl tm x))
  | []=>none
 | .call ⟨.value f,_,_⟩=>match zzl tm f with
  | some (.fn g _ _)=>match (Q.ann g).raw with
   | true=>none
   | false=>some none
  | _=>none
 | _=>none
def zsj (base:Nat) (w:Option (Option Nat)):List (Nat×Option Nat)->List (Nat×Option Nat)
 | []=>[]
 | (i,none)::l=>(i,none)::zsj base w l
 | (i,some o)::l=>match w with
  | some none=>(i,some o)::zsj base w l
  | some (some o')=>if o=o' then zsj base w l else (i,some o)::zsj base w l
  | none=>if o<base then (i,some o)::zsj base w l else zsj base w l
def ykp (i:Nat):List (Nat×Option Nat)->Bool
 | []=>false
 | (j,_)::l=>if j=i then true else ykp i l
def zqk (Q:Par) (base:Nat) (tm:Trie DV) (i:Nat) (op:Op) (cl:List (Nat×Option Nat)):List (Nat×Option Nat):=
 match zz7 op with
 | .pure=>cl
 | .fresh=>cl
 | .read=>(i,zpw tm op)::cl
 | .eff=>zsj base (zvo Q tm op) cl
def zsk (D:DH):DV->Bool
 | .ref o i k=>zut D (.ref o i k)
 | .rfa o n i k=>zut D (.rfa o n i k)
 | .row o _ _ _=>match D[o]? with
  | some (.arr _ _)=>true
  | _=>false
 | .apl o len=>match D[o]? with
  | some (.app _ _ els)=>decide (els.length=len)
  | _=>false
 | .mp o=>match D[o]? with
  | some (.map _ _)=>true
  | _=>false
 | _=>false
def zn6 (D:DH):DV->Bool
 | .f (.raw v)=>yzc v v&&oneCell v
 | .f (.lst _)=>true
 | .fp _=>true
 | d=>zsk D d
def eqD (D:DH):DV->Bool
 | .f (.raw v)=>eqV v v
 | .agg l=>l.all (zn6 D)
 | .tup l=>l.all (zn6 D)
 | .fn _ a b=>a.all (zn6 D)&&b.all (zn6 D)
 | d=>zn6 D d
def zi7 (D:DH) (all:List Oper) (tm:Trie DV) (nt i:Nat) (cl:List (Nat×Option Nat)):Bool:=
 match all[i]? with
 | some o=>match zu0 all tm o.guard with
  | some true=>ykp i cl&&(match o.dst with
   | some d=>decide (d<nt)&&((tm.get d).map (eqD D)).getD false
   | none=>false)
  | some false=>true
  | none=>false
 | none=>false
def zbd:zo1:=λ_ _ _ _=>none
def zql (L:Nat):List DV->Nat
 | []=>L
 | .apl o _::l=>min o (zql L l)
 | .row o _ _ _::l=>min o (zql L l)
 | .prt o _ _ _::l=>min o (zql L l)
 | .rfa o _ _ _::l=>min o (zql L l)
 | .mp o::l=>min o (zql L l)
 | .lv o _ _::l=>min o (zql L l)
 | _::l=>zql L l
def xr1 (base:Nat) (D:DH):Nat:=if base+1<=D.length/\zyg base (base+1) D=true then base+1 else base
def xr2 (base:Nat) (D:DH):Option (List DV)->Nat
 | some l=>if base<=zql D.length l/\zql D.length l<=D.length/\zyg base (zql D.length l) D=true then zql D.length l else xr1 base D
 | none=>base
def xw7 (Q:Par) (base:Nat) (D:DH) (l:Option (List DV)):Option DV->Nat
 | some (.fn g _ _)=>match (Q.ann g).raw with
  | true=>match Q.fr g with
   | true=>xr2 base D l
   | false=>base
  | false=>base
 | _=>base
def zur (Q:Par) (base:Nat) (tm:Trie DV) (D:DH):Op->Nat
 | .call ⟨.value f,args,_⟩=>xw7 Q base D (zy5 tm args.toList) (zzl tm f)
 | _=>base
def zwp (Q:Par) (sub:zo1) (base nt:Nat) (all:List Oper):List PI->Trie DV->DH->List (Nat×Option Nat)->Option (Trie DV×DH)
 | [],tm,D,_=>some (tm,D)
 | .run i::pl,tm,D,cl=>match all[i]? with
  | some o=>match zu0 all tm o.guard with
   | some true=>match zw0 sub zbd (zur Q base tm D o.op) D (dop Q.P base tm D o.op) with
    | some (d,D')=>zwp Q sub base nt all pl (putD tm nt o.dst d) D' (zqk Q (zur Q base tm D o.op) tm i o.op cl)
    | none=>none
   | some false=>zwp Q sub base nt all pl (putD tm nt o.dst (rv undef)) D cl
   | none=>none
  | none=>none
 | .again i::pl,tm,D,cl=>match zi7 D all tm nt i cl with
  | true=>zwp Q sub base nt all pl tm D cl
  | false=>none
def zta (prev:zn5):zo1:=λl args base D=>
 match D[l]? with
 | some (.loop st p K tm ps asg body)=>if args.length=ps.toList.length/\base=K.base/\base<=l then
   match prev ⟨K.fn,K.nt,some l,K.base,K.an⟩ asg ⟨yl4 tm K.nt ps.toList args,D⟩ with
   | some (.nrm,s)=>match s.D[l]? with
    | some (.loop .ready p' K' tm' ps' asg' body')=>match prev ⟨K.fn,K.nt,some l,K.base,K.an⟩ body ⟨s.tm,s.D.set l (.loop .busy p' K' tm' ps' asg' body')⟩ with
     | some (x,s2)=>match s2.D[l]? with
      | some (.loop _ _ K2 tm2 ps2 asg2 body2)=>match x with
       | .nrm=>some (rv (.bool true),s2.D.set l (.loop .ready none K2 tm2 ps2 asg2 body2))
       | .ret=>some (rv (.bool false),s2.D.set l (.loop .done (some .ret) K2 tm2 ps2 asg2 body2))
       | .exit id=>some (rv (.bool false),s2.D.set l (.loop .done (some (.exit id)) K2 tm2 ps2 asg2 body2))
      | _=>none
     | none=>none
    | _=>none
   | _=>none else none
 | _=>none
def zyn (D:DH) (P:Program) (tm:Trie DV):List ResultVar->Option (List DV)
 | []=>some []
 | .tmp t::l=>match tm.get t with
  | some d=>(zyn D P tm l).map (d::·)
  | none=>none
 | .cell a t::l=>match (tm.get a).bind λa=>(tLd P t).bind λn=>zve D n a with
  | some d=>(zyn D P tm l).map (d::·)
  | none=>none
def ysp:List DV->DV
 | [d]=>d
 | l=>.tup l
def zed (P:Program) (fn:Func) (raw:Bool) (base:Nat):Option (BX×SD)->Option (DV×DH)
 | some (x,s)=>match x with
  | .exit _=>none
  | _=>match zyn s.D P s.tm fn.results.toList with
   | some l=>match raw with
    | true=>some (ysp l,s.D)
    | false=>(zqx base s.D (ysp l)).map λq=>(q.1,s.D.take base)
   | none=>none
 | none=>none
def zsa (Q:Par) (ev:zn5) (f:FuncId) (args:List DV) (base:Nat) (D:DH):Option (DV×DH):=
 match Q.P.funcs[f]? with
 | some fn=>match fn.body with
  | some c=>if args.length<=fn.ntmps then
    match (Q.ann f).raw with
    | true=>zed Q.P fn true base (ev ⟨f,fn.ntmps,none,base,Q.ann f⟩ c ⟨zo4 .leaf 0 args,D⟩)
    | false=>zed Q.P fn false D.length (ev ⟨f,fn.ntmps,none,D.length,Q.ann f⟩ c ⟨zo4 .leaf 0 (args.map zva),D⟩) else none
  | none=>none
 | none=>none
def ycm (D:DH):List DV->Option (DV×DH)
 | []=>some (rv (.bool true),D)
 | _=>none
def zsb (Q:Par) (ev:zn5) (f:FuncId) (args:List DV) (base:Nat) (D:DH):Option (DV×DH):=
 match Q.tv f with
 | true=>ycm D args
 | false=>zsa Q ev f args base D
def zbe:Option Code->SD->Option (BX×SD)
 | none,s=>some (.nrm,s)
 | some .ret,s=>some (.ret,s)
 | some (.exit id),s=>some (.exit id,s)
 | _,_=>none
def zx5 (tm:Trie DV) (l:Nat):Option (DV×DH)->Option (BX×SD)
 | some (_,D)=>match D[l]? with
  | some (.loop st p _ _ _ _ _)=>match st with
   | .busy=>none
   | _=>zbe p ⟨tm,D.set l .dead⟩
  | _=>none
 | none=>none
def zl6:Option DObj->Bool
 | some (.loop ..)=>true
 | _=>false
def xxv (K:KD) (D:DH):Bool:=match K.ro with
 | none=>true
 | some l=>zl6 D[l]?
def zl7 (Q:Par) (prev:zn5) (K:KD) (f:Operand) (ps:Array Tmp) (asg body:Code) (s:SD):Option (BX×SD):=
 match zzl s.tm f with
 | some (.fn g a b)=>match (Q.ann g).raw&&(xxv K s.D&&!Q.tv g) with
  | true=>zx5 s.tm s.D.length (zsa Q prev g (a++[.yl s.D.length]++b) K.base (s.D++[.loop .ready none K s.tm ps asg body]))
  | false=>none
 | _=>none
def yvb:Option (Trie DV×DH)->Option (BX×SD)
 | some (tm,D)=>some (.nrm,⟨tm,D⟩)
 | none=>none
def ys8 (Q:Par) (sub:zo1) (base nt:Nat) (all:List Oper) (pl:Option (List PI×List Nat)) (s:SD):Option (BX×SD):=
 match pl with
 | some (pl,b)=>match zv7 all pl b with
  | true=>yvb (zwp Q sub base nt all pl s.tm s.D [])
  | false=>none
 | none=>none
def zm2 (f:SD->Option (BX×SD)):Option (BX×SD)->Option (BX×SD)
 | some (.nrm,s)=>f s
 | r=>r
def zuv (id:Nat):Option (BX×SD)->Option (BX×SD)
 | some (.exit j,s)=>if id=j then some (.nrm,s) else some (.exit j,s)
 | r=>r
def zbf (a b:SD->Option (BX×SD)) (s:SD):Option DV->Option (BX×SD)
 | some (.f (.raw (.bool true)))=>a s
 | some (.f (.raw (.bool false)))=>b s
 | _=>none
def evD (Q:Par) (sub:zo1) (prev:zn5) (K:KD):Nat->Code->SD->Option (BX×SD)
 | _,.skip,s=>some (.nrm,s)
 | _,.region id ops false,s=>match zbc K id s with
  | some s=>yvb (zxo Q.P sub (zta prev) K.base K.nt ops.toList ops.toList s.tm s.D)
  | none=>none
 | _,.region id ops true,s=>match zbc K id s with
  | some s=>match K.ro with
   | none=>ys8 Q sub K.base K.nt ops.toList (zym id K.an.pl) s
   | some _=>none
  | none=>none
 | w,.seq a b,s=>zm2 (evD Q sub prev K w b) (evD Q sub prev K w a s)
 | w,.cond x a b,s=>zbf (evD Q sub prev K w a) (evD Q sub prev K w b) s (zzl s.tm x)
 | _,.block id b,s=>zuv id (evD Q sub prev K id b s)
 | w,.loop b,s=>zm1 (zec ((zym w K.an.keep).getD []) K.an.long K.base s.D.length) (evD Q sub prev K w b) s
 | _,.rangeFunc f ps asg body,s=>zl7 Q prev K f ps asg body s
 | _,.exit id,s=>some (.exit id,s)
 | _,.label _,s=>some (.nrm,s)
 | _,.ret,s=>some (.ret,s)
 | _,_,_=>none
mutual
inductive RunD (Q:Par):FuncId->List DV->Nat->DH->DV×DH->Prop
 | mk {f:FuncId} {args:List DV} {base:Nat} {D:DH} {r:DV×DH} (prev:zn5) (hp:∀ K c s r,prev K c s=some r->EvD Q K c s r) (h:zsb Q prev f args base D=some r):RunD Q f args base D r
inductive EvD (Q:Par):KD->Code->SD->BX×SD->Prop
 | mk {K:KD} {c:Code} {s:SD} {r:BX×SD} (sub:zo1) (prev:zn5) (ha:K.an=Q.ann K.fn) (hs:∀ f a b D r,sub f a b D=some r->RunD Q f a b D r) (hp:∀ K c s r,prev K c s=some r->EvD Q K c s r) (h:evD Q sub prev K 0 c s=some r):EvD Q K c s r
end
end Go.Dv
namespace Go.Dv
open Go Go.Sim
inductive FR (S:Nat->Prop) (H:Hp):FV->Value->Prop
 | raw (v:Value):FR S H (.raw v) v
 | nil:FR S H (.lst []) (.slice none 0 0)
 | lst {l:List FV} {b o n cap sz:Nat} {c:List Value} (w:Nat->Nat->Value) (hn:n=l.length) (hb:S b) (hc:H.row b=some c) (hz:0<sz) (ho:o+l.length*sz<=c.length) (hcap:cap<U->n<=cap)
   (hs:∀ (i:Nat) (x:FV),l[i]? =some x->(zxl x).length=sz)
   (hw:∀ (i:Nat) (x:FV) (j:Nat) (y:FV),l[i]? =some x->(zxl x)[j]? =some y->c[o+i*sz+j]? =some (w i j)/\oneCell (w i j)=true/\zrm y=true)
   (hr:∀ (i:Nat) (x:FV) (j:Nat) (y:FV),l[i]? =some x->(zxl x)[j]? =some y->FR S H y (w i j)):FR S H (.lst l) (.slice (some ⟨b,o,none⟩) n cap)
structure Ctx where
 σ:Nat->Nat
 S:Nat->Prop
 H:Hp
 D:DH
def ys9:Nat->Nat->List Nat
 | 0,_=>[]
 | f+1,n=>if n=0 then [] else if n % 2=1 then 0::ys9 f (n / 2) else match ys9 f (n / 2) with
  | []=>[]
  | x::l=>(x+1)::l
def dec (n:Nat):List Nat:=ys9 n n
theorem zbg:∀ (f f' n:Nat),n<=f->n<=f'->ys9 f n=ys9 f' n
 | 0,f',n,h,_=>by
  obtain rfl:n=0:=by omega
  cases f'<;>rfl
 | f+1,0,n,_,h=>by
  obtain rfl:n=0:=by omega
  rfl
 | f+1,f'+1,n,h,h'=>by
  unfold ys9;by_cases hn:n=0
  .rw [if_pos hn,if_pos hn]
  rw [if_neg hn,if_neg hn,zbg f f' (n / 2) (by omega) (by omega)]
theorem ycn (n:Nat):dec (2*n+1)=0::dec n:=by
 show ys9 (2*n+1) (2*n+1)=_;unfold ys9;rw [if_neg (by omega),if_pos (by omega),show (2*n+1) / 2=n by omega,zbg (2*n) n n (by omega) (by omega)];rfl
theorem ykq {n x:Nat} {l:List Nat} (hn:0<n) (h:dec n=x::l):dec (2*n)=(x+1)::l:=by
 obtain ⟨m,rfl⟩:∃ m,n=m+1:=⟨n-1,by omega⟩;show ys9 (2*m+1+1) (2*(m+1))=_;unfold ys9;rw [if_neg (by omega),if_neg (by omega),show 2*(m+1) / 2=m+1 by omega,zbg (2*m+1) (m+1) (m+1) (by omega) (by omega),show ys9 (m+1) (m+1)=x::l from h]
theorem yra:∀ l:List Nat,∃ n,dec n=l
 | []=>⟨0,rfl⟩
 | x::l=>by
  obtain ⟨n,hn⟩:=yra l
  have:∀ x,∃ m,0<m/\dec m=x::l:=by
   intro x
   induction x with
   | zero=>exact ⟨2*n+1,by omega,by rw [ycn,hn]⟩
   | succ x ih=>
    obtain ⟨m,h1,h2⟩:=ih;exact ⟨2*m,by omega,ykq h1 h2⟩
  obtain ⟨m,_,h⟩:=this x;exact ⟨m,h⟩
def yvc (l:List Nat):Nat:=(yra l).choose
theorem ztr (l:List Nat):dec (yvc l)=l:=(yra l).choose_spec
def apV (b:Nat):Nat->Value
 | 0=>.slice none 0 0
 | n+1=>.slice (some ⟨b,0,none⟩) (n+1) (U+2*b)
theorem xw8 (b n:Nat):oneCell (apV b n)=true:=by cases n<;>rfl
inductive DR (C:Ctx):DV->Value->Prop
 | f {x:FV} {v:Value} (h:FR C.S C.H x v):DR C (.f x) v
 | agg {ds:List DV} {vs:List Value} (hl:vs.length=ds.length) (h:∀ (i:Nat) (d:DV) (v:Value),ds[i]? =some d->vs[i]? =some v->DR C d v):DR C (.agg ds) (.agg ⟨vs⟩)
 | tup {ds:List DV} {vs:List Value} (hl:vs.length=ds.length) (h:∀ (i:Nat) (d:DV) (v:Value),ds[i]? =some d->vs[i]? =some v->DR C d v):DR C (.tup ds) (.tuple ⟨vs⟩)
 | fn {g:FuncId} {a b:List DV} {as bs:List Value} (ha:as.length=a.length) (hb:bs.length=b.length) (h1:∀ (i:Nat) (d:DV) (v:Value),a[i]? =some d->as[i]? =some v->DR C d v)
   (h2:∀ (i:Nat) (d:DV) (v:Value),b[i]? =some d->bs[i]? =some v->DR C d v):DR C (.fn g a b) (.func (.func g) ⟨as⟩ ⟨bs⟩)
 | yl {o:Nat} {v:Value} (ho:o<C.D.length) (one:oneCell v=true) (h:∀ st p K tm ps a b,C.D[o]? =some (.loop st p K tm ps a b)->v=.func (.yield (C.σ o)) #[] #[]):DR C (.yl o) v
 | ref {o i k:Nat} {v:Value} (ho:o<C.D.length) (one:oneCell v=true) (h:∀ sz els,C.D[o]? =some (.arr sz els)->v=.pointer (some ⟨C.σ o,i*sz+k,none⟩)):DR C (.ref o i k) v
 | rfa {o n i k:Nat} {v:Value} (ho:o<C.D.length) (one:oneCell v=true) (hn:0<n) (h:(∀ sz els,C.D[o]?≠some (.arr sz els))/\∀ e sz els,C.D[o]? =some (.app e sz els)->n<=els.length/\(els.length=n->v=.pointer (some ⟨C.σ o,i*sz+k,none⟩))):DR C (.rfa o n i k) v
 | row {o off len cap:Nat} {v:Value} (ho:o<C.D.length) (one:oneCell v=true) (h:∀ sz els,C.D[o]? =some (.arr sz els)->v=.slice (some ⟨C.σ o,off*sz,none⟩) len cap/\off+cap<=els.length/\len<=cap/\cap<U):DR C (.row o off len cap) v
 | apl {o len:Nat} {v:Value} (ho:o<C.D.length) (one:oneCell v=true) (h:(∀ sz els,C.D[o]?≠some (.arr sz els))/\∀ e sz els,C.D[o]? =some (.app e sz els)->len<=els.length/\(els.length=len->v=apV (C.σ o) len)):DR C (.apl o len) v
 | prt {o n off len:Nat} {v:Value} (ho:o<C.D.length) (one:oneCell v=true) (hn:0<n) (h:(∀ sz els,C.D[o]?≠some (.arr sz els))/\∀ e sz els,C.D[o]? =some (.app e sz els)->n<=els.length/\(els.length=n->off+len<=n/\∃ c,v=.slice (some ⟨C.σ o,off*sz,none⟩) len c)):DR C (.prt o n off len) v
 | mp {o:Nat} {v:Value} (ho:o<C.D.length) (one:oneCell v=true) (h:∀ ks vs,C.D[o]? =some (.map ks vs)->v=.map (some (C.σ o))):DR C (.mp o) v
 | fp {l:List FV} {b off:Nat} {c:List Value} (w:Nat->Value) (hb:C.S b) (hc:C.H.row b=some c) (hw:∀ (j:Nat) (y:FV),l[j]? =some y->c[off+j]? =some (w j)/\oneCell (w j)=true)
   (hr:∀ (j:Nat) (y:FV),l[j]? =some y->FR C.S C.H y (w j)):DR C (.fp l) (.pointer (some ⟨b,off,none⟩))
 | em {b off:Nat} {c:List Value} (hb:C.S b) (hc:C.H.row b=some c) (ho:off<=c.length):DR C .em (.slice (some ⟨b,off,none⟩) 0 0)
 | lv {o ver n b:Nat} (ho:o<C.D.length) (hn:0<n) (h:∀ e sz ctr L,C.D[o]? =some (.chn e sz ctr L)->ver<ctr/\∀ i els,L[i]? =some (ver,els)->els.length=n->(dec (C.σ o))[i+1]? =some b):DR C (.lv o ver n) (apV b n)
def DRs (C:Ctx) (ds:List DV) (vs:List Value):Prop:=vs.length=ds.length/\∀ (i:Nat) (d:DV) (v:Value),ds[i]? =some d->vs[i]? =some v->DR C d v
structure Cl (C:Ctx) (sz:Nat) (els:List DV) (cs:List Value):Prop where
 len:cs.length=els.length*sz
 ok:∀ (i:Nat) (d:DV),els[i]? =some d->zrn sz d=true
 el:∀ (i:Nat) (d:DV) (j:Nat) (x:DV),els[i]? =some d->(zzd d)[j]? =some x->∃ w,cs[i*sz+j]? =some w/\DR C x w
 one:∀ v∈cs,oneCell v=true
def TR (C:Ctx) (tm:Trie DV) (tmH:Trie Value):Prop:=∀ t d,tm.get t=some d->∃ v,tmH.get t=some v/\DR C d v
def ObR (C:Ctx) (o:Nat):DObj->Prop
 | .arr sz els=>∃ cs e,C.H.get (C.σ o)=some (.cells cs e none)/\Cl C sz els cs
 | .app e sz els=>els≠[]->∃ cs k rest,C.H.get (C.σ o)=some (.cells cs e (some k))/\C.H.stk k=C.σ o::rest/\Cl C sz els cs
 | .map ks vs=>∃ es ck,C.H.get (C.σ o)=some (.map es ck)/\es.length=ks.length/\vs.length=ks.length/\(∀ (i:Nat) (e:MapEntry) (k:Value),es[i]? =some e->ks[i]? =some k->e.key=k)/\∀ (i:Nat) (e:MapEntry) (d:DV),es[i]? =some e->vs[i]? =some d->DR C d e.val
 | .loop st p K tm ps asg body=>∃ tmH dn,C.H.get (C.σ o)=some (.loop ⟨st,p,K.fn,tmH,K.nt,ps,asg,body,dn⟩)/\TR C tm tmH/\∀ t d,tm.get t=some d->below o d=true
 | .dead=>True
 | .chn e sz ctr L=>∃ k b bs rest,dec (C.σ o)=k::b::bs/\(b::bs).length=L.length/\C.H.stk k=b::bs++rest/\(b::bs).Nodup/\(∀ (i:Nat) (x:Nat×List DV),L[i]? =some x->x.1<ctr/\x.2≠[])/\(∀ (i j:Nat) (x y:Nat×List DV),i<j->L[i]? =some x->L[j]? =some y->y.1<x.1) /\
   ∀ (i:Nat) (x:Nat×List DV) (b':Nat),L[i]? =some x->(b::bs)[i]? =some b'->∃ cs,C.H.get b'=some (.cells cs e (some k))/\Cl C sz x.2 cs
def zqm:DObj->Bool
 | .app _ _ els=>!els.isEmpty
 | .dead=>false
 | .chn ..=>false
 | _=>true
def Own (C:Ctx) (o b:Nat):Prop:=∃ x,C.D[o]? =some x/\zqm x=true/\b=C.σ o
def ClA (C:Ctx) (o k:Nat):Prop:=∃ e sz els cs e',C.D[o]? =some (.app e sz els)/\els≠[]/\C.H.get (C.σ o)=some (.cells cs e' (some k))
def ClN (C:Ctx) (o k:Nat):Prop:=∃ e sz ctr L,C.D[o]? =some (.chn e sz ctr L)/\(dec (C.σ o))[0]? =some k
def Cls (C:Ctx) (o k:Nat):Prop:=ClA C o k∨ClN C o k
structure HR (C:Ctx):Prop where
 wf:Wf C.H
 st:∀ b,C.S b->∃ B c,C.H.get b=some B/\C.H.rowOf b B=some c
 ob:∀ o x,C.D[o]? =some x->ObR C o x
 nS:∀ o b,Own C o b->¬C.S b
 inj:∀ o o' b,Own C o b->Own C o' b->o=o'
 cS:∀ o k b cs e,Cls C o k->C.S b->C.H.get b≠some (.cells cs e (some k))
 cI:∀ o o' k,Cls C o k->Cls C o' k->o=o'
def Evo (s s':Nat):DObj->DObj->Prop
 | .arr sz els,.arr sz' els'=>sz'=sz/\els'.length=els.length/\s'=s
 | .app e sz els,.app e' sz' els'=>e'=e/\sz'=sz/\els.length<=els'.length/\(els'.length=els.length->els≠[]->s'=s)
 | .map _ _,.map _ _=>s'=s
 | .loop ..,.loop ..=>s'=s
 | .arr ..,.app ..=>True
 | .chn e sz ctr L,.chn e' sz' ctr' L'=>e'=e/\sz'=sz/\ctr<=ctr'/\(∀ i' ver els,L'[i']? =some (ver,els)->ver<ctr->∃ i,L[i]? =some (ver,els)/\(dec s')[i'+1]? =(dec s)[i+1]?)
 | _,_=>False
structure Nx (W:Nat->Prop) (C C':Ctx):Prop where
 n:C.H.n<=C'.H.n
 S:∀ b,C.S b->C'.S b
 len:C.D.length<=C'.D.length
 get:∀ b,b<C.H.n->(∀ o,¬Own C o b)->C'.H.get b=C.H.get b
 stk:∀ k,k<C.H.n->(∀ o,¬Cls C o k)->C'.H.stk k=C.H.stk k
 evo:∀ o x',o<C.D.length->C'.D[o]? =some x'->x'=.dead∨∃ x,C.D[o]? =some x/\Evo (C.σ o) (C'.σ o) x x'
 own:∀ o b,Own C' o b->Own C o b∨C.H.n<=b
 cls:∀ o k,Cls C' o k->Cls C o k∨C.H.n<=k
 kp:∀ o,o<C.D.length->¬W o->C'.D[o]? =C.D[o]?/\C'.σ o=C.σ o/\∀ b,Own C o b->C'.H.get b=C.H.get b/\C'.H.row b=C.H.row b
theorem zw1 {α:Type} {l:List α} {i:Nat} (h:i<l.length):∃ x,l[i]? =some x:=⟨_,tzb h⟩
theorem zyr {α:Type} {l:List α} {i:Nat} {x:α} (h:l[i]? =some x):i<l.length:=by
 grind
theorem Nx.rows {W:Nat->Prop} {C C':Ctx} (h:Nx W C C') (hr:HR C):∀ b,C.S b->C'.H.row b=C.H.row b:=by
 intro b hb;obtain ⟨B,c,h1,h2⟩:=hr.st b hb;have hn:=hr.wf.dom b B h1;have e:=h.get b hn (λo ho=>hr.nS o b ho hb);unfold Hp.row;rw [e,h1];simp only [tzn];cases B with
 | cells c' e' k=>
  cases k with
  | none=>rfl
  | some k=>
   simp only [Hp.rowOf];rw [h.stk k (hr.wf.cls _ _ _ _ h1) (λo ho=>hr.cS o k b c' e' ho hb h1)]
 | _=>rfl
theorem FR.mono {S S':Nat->Prop} {H H':Hp} (hS:∀ b,S b->S' b) (hr:∀ b,S b->H'.row b=H.row b) {x:FV} {v:Value} (h:FR S H x v):FR S' H' x v:=by
 induction h with
 | raw v=>exact .raw v
 | nil=>exact .nil
 | lst w hn hb hc hz ho hcap hs hw _ ih=>exact .lst w hn (hS _ hb) (by rw [hr _ hb];exact hc) hz ho hcap hs hw ih
theorem Evo.refl (s:Nat):∀ {x:DObj},x≠.dead->Evo s s x x
 | .arr ..,_=>⟨rfl,rfl,rfl⟩
 | .app ..,_=>⟨rfl,rfl,tzp _,λ_ _=>rfl⟩
 | .map ..,_=>rfl
 | .loop ..,_=>rfl
 | .dead,h=>absurd rfl h
 | .chn ..,_=>⟨rfl,rfl,tzp _,λi' _ _ h _=>⟨i',h,rfl⟩⟩
theorem Evo.trans {s s' s'':Nat} {x y z:DObj} (h:Evo s s' x y) (k:Evo s' s'' y z):Evo s s'' x z:=by
 cases x<;>cases y<;>first | exact h.elim | skip
 all_goals (cases z<;>first | exact k.elim | exact trivial | skip)
 .exact ⟨k.1.trans h.1,k.2.1.trans h.2.1,k.2.2.trans h.2.2⟩
 .refine ⟨k.1.trans h.1,k.2.1.trans h.2.1,tys h.2.2.1 k.2.2.1,λe hne=>?_⟩;have h1:=h.2.2.1;have h2:=k.2.2.1;rename_i e1 sz1 els1 e2 sz2 els2 e3 sz3 els3;have hl:els2.length=els1.length:=by omega
  have hne2:els2≠[]:=λq=>by
   simp_all
  exact (k.2.2.2 (by omega) hne2).trans (h.2.2.2 hl hne)
 .exact Eq.trans (show s''=s' from k) h
 .exact Eq.trans (show s''=s' from k) h
 .refine ⟨k.1.trans h.1,k.2.1.trans h.2.1,tys h.2.2.1 k.2.2.1,λi' ver els hi hv=>?_⟩;obtain ⟨i,h1,h2⟩:=k.2.2.2 i' ver els hi (tyf hv h.2.2.1);obtain ⟨i0,h3,h4⟩:=h.2.2.2 i ver els h1 hv;exact ⟨i0,h3,h2.trans h4⟩
section
variable {W:Nat->Prop} {C C' C'':Ctx}
theorem Nx.back (h:Nx W C C') {o:Nat} {x':DObj} (ho:o<C.D.length) (hx:C'.D[o]? =some x') (hd:x'≠.dead):∃ x,C.D[o]? =some x/\Evo (C.σ o) (C'.σ o) x x':=by
 rcases h.evo o x' ho hx with g | g
 .exact absurd g hd
 .exact g
theorem Nx.notArr (h:Nx W C C') {o:Nat} (ho:o<C.D.length) (g:∀ sz els,C.D[o]?≠some (.arr sz els)) (sz:Nat) (els:List DV):C'.D[o]?≠some (.arr sz els):=by
 intro hx;obtain ⟨x,h1,h2⟩:=h.back ho hx (by simp);cases x<;>first | exact h2.elim | exact absurd h1 (g _ _)
theorem DR.mono (h:Nx W C C') (hr:HR C) {d:DV} {v:Value} (k:DR C d v):DR C' d v:=by
 have hrow:=h.rows hr
 induction k with
 | f k=>exact .f (k.mono h.S hrow)
 | agg hl _ ih=>exact .agg hl ih
 | tup hl _ ih=>exact .tup hl ih
 | fn ha hb _ _ ih1 ih2=>exact .fn ha hb ih1 ih2
 | @yl o v ho one g=>
  refine .yl (tyf ho h.len) one (λst p K tm ps a b hx=>?_);obtain ⟨x,h1,h2⟩:=h.back ho hx (by simp);cases x<;>first | exact h2.elim | skip
  rw [show C'.σ o=C.σ o from h2];exact g _ _ _ _ _ _ _ h1
 | @ref o i k v ho one g=>
  refine .ref (tyf ho h.len) one (λsz els hx=>?_);obtain ⟨x,h1,h2⟩:=h.back ho hx (by simp);cases x<;>first | exact h2.elim | skip
  rw [h2.2.2,h2.1];exact g _ _ h1
 | @rfa o n i k v ho one hn g=>
  refine .rfa (tyf ho h.len) one hn ⟨λsz els hx=>h.notArr ho g.1 sz els hx,λe sz els hx=>?_⟩;obtain ⟨x,h1,h2⟩:=h.back ho hx (by simp);cases x<;>first | exact h2.elim | exact absurd h1 (g.1 _ _) | skip
  rename_i e0 sz0 els0;obtain ⟨g1,g2⟩:=g.2 _ _ _ h1;have h3:=h2.2.2.1;refine ⟨by omega,λhl=>?_⟩;have hl0:els0.length=n:=by omega
  have hne:els0≠[]:=λq=>by subst q;simp at hl0;omega
  rw [h2.2.2.2 (by omega) hne,h2.2.1];exact g2 hl0
 | @row o off len cap v ho one g=>
  refine .row (tyf ho h.len) one (λsz els hx=>?_);obtain ⟨x,h1,h2⟩:=h.back ho hx (by simp);cases x<;>first | exact h2.elim | skip
  rw [h2.2.2,h2.1,h2.2.1];exact g _ _ h1
 | @apl o len v ho one g=>
  refine .apl (tyf ho h.len) one ⟨λsz els hx=>h.notArr ho g.1 sz els hx,λe sz els hx=>?_⟩;obtain ⟨x,h1,h2⟩:=h.back ho hx (by simp);cases x<;>first | exact h2.elim | exact absurd h1 (g.1 _ _) | skip
  rename_i e0 sz0 els0;obtain ⟨g1,g2⟩:=g.2 _ _ _ h1;have h3:=h2.2.2.1;refine ⟨by omega,λhl=>?_⟩;have hl0:els0.length=len:=by omega
  rw [g2 hl0];cases len with
  | zero=>rfl
  | succ len=>
   have hne:els0≠[]:=λq=>by subst q;simp at hl0
   rw [h2.2.2.2 (by omega) hne]
 | @prt o n off len v ho one hn g=>
  refine .prt (tyf ho h.len) one hn ⟨λsz els hx=>h.notArr ho g.1 sz els hx,λe sz els hx=>?_⟩;obtain ⟨x,h1,h2⟩:=h.back ho hx (by simp);cases x<;>first | exact h2.elim | exact absurd h1 (g.1 _ _) | skip
  rename_i e0 sz0 els0;obtain ⟨g1,g2⟩:=g.2 _ _ _ h1;have h3:=h2.2.2.1;refine ⟨by omega,λhl=>?_⟩;have hl0:els0.length=n:=by omega
  have hne:els0≠[]:=λq=>by subst q;simp at hl0;omega
  rw [h2.2.2.2 (by omega) hne,h2.2.1];exact g2 hl0
 | @mp o v ho one g=>
  refine .mp (tyf ho h.len) one (λks vs hx=>?_);obtain ⟨x,h1,h2⟩:=h.back ho hx (by simp);cases x<;>first | exact h2.elim | skip
  rw [show C'.σ o=C.σ o from h2];exact g _ _ h1
 | em hb hc ho=>exact .em (h.S _ hb) (by rw [hrow _ hb];exact hc) ho
 | @lv o ver n b ho hn g=>
  refine .lv (tyf ho h.len) hn (λe sz ctr L hx=>?_);obtain ⟨x,h1,h2⟩:=h.back ho hx (by simp);cases x<;>first | exact h2.elim | skip
  obtain ⟨g1,g2⟩:=g _ _ _ _ h1;refine ⟨tyf g1 h2.2.2.1,λi els hi hl=>?_⟩;obtain ⟨i0,h3,h4⟩:=h2.2.2.2 i ver els hi g1;rw [h4];exact g2 i0 els h3 hl
 | fp w hb hc hw hr'=>exact .fp w (h.S _ hb) (by rw [hrow _ hb];exact hc) hw (λj y hj=>(hr' j y hj).mono h.S hrow)
end
end Go.Dv
namespace Go.Dv
open Go Go.Sim
variable {W:Nat->Prop} {C C' C'':Ctx}
theorem Own.lt (hr:HR C) {o b:Nat} (h:Own C o b):b<C.H.n:=by
 obtain ⟨x,h1,h2,rfl⟩:=h;have ho:=hr.ob o x h1;cases x with
 | arr sz els=>obtain ⟨cs,e,g,_⟩:=ho;exact hr.wf.dom _ _ g
 | app e sz els=>
  have:els≠[]:=λq=>by subst q;simp [zqm] at h2
  obtain ⟨cs,k,r,g,_⟩:=ho this;exact hr.wf.dom _ _ g
 | map ks vs=>obtain ⟨es,ck,g,_⟩:=ho;exact hr.wf.dom _ _ g
 | loop=>obtain ⟨tmH,dn,g,_⟩:=ho;exact hr.wf.dom _ _ g
 | dead=>simp [zqm] at h2
 | chn=>simp [zqm] at h2
theorem ClN.row (hr:HR C) {o e sz ctr k:Nat} {L:List (Nat×List DV)} (hx:C.D[o]? =some (.chn e sz ctr L)) (hk:(dec (C.σ o))[0]? =some k):∃ b bs rest,dec (C.σ o)=k::b::bs/\C.H.stk k=b::bs++rest/\∀ b'∈b::bs,∃ cs,C.H.get b'=some (.cells cs e (some k)):=by
 obtain ⟨k',b,bs,rest,h1,h2,h3,h4,h5,h6,h7⟩:=hr.ob o _ hx;rw [h1] at hk;obtain rfl:k'=k:=by simpa using hk
 refine ⟨b,bs,rest,h1,h3,λb' hb'=>?_⟩;obtain ⟨i,hi⟩:=List.getElem?_of_mem hb';obtain ⟨x,hx'⟩:=zw1 (l:=L) (i:=i) (by rw [<-h2];exact zyr hi);obtain ⟨cs,g,_⟩:=h7 i x b' hx' hi;exact ⟨cs,g⟩
theorem Cls.lt (hr:HR C) {o k:Nat} (h:Cls C o k):k<C.H.n:=by
 rcases h with h | h
 .obtain ⟨e,sz,els,cs,e',h1,h2,h3⟩:=h;exact hr.wf.cls _ _ _ _ h3
 obtain ⟨e,sz,ctr,L,h1,h2⟩:=h;obtain ⟨b,bs,rest,g1,g2,g3⟩:=ClN.row hr h1 h2;obtain ⟨cs,g⟩:=g3 b (by simp);exact hr.wf.cls _ _ _ _ g
theorem ClA.own {o k:Nat} (h:ClA C o k):Own C o (C.σ o):=by
 obtain ⟨e,sz,els,cs,e',h1,h2,h3⟩:=h;refine ⟨_,h1,?_,rfl⟩;cases els with
 | nil=>exact absurd rfl h2
 | cons=>rfl
theorem Nx.refl (hr:HR C):Nx W C C where
 n:=tzp _
 S:=λ_ h=>h
 len:=tzp _
 get:=λ_ _ _=>rfl
 stk:=λ_ _ _=>rfl
 evo:=λo x' _ h=>by
  cases x' with
  | dead=>exact .inl rfl
  | _=>exact .inr ⟨_,h,Evo.refl _ (by simp)⟩
 own:=λ_ _ h=>.inl h
 cls:=λ_ _ h=>.inl h
 kp:=λ_ _ _=>⟨rfl,rfl,λ_ _=>⟨rfl,rfl⟩⟩
theorem Nx.trans (h:Nx W C C') (k:Nx W C' C''):Nx W C C'' where
 n:=tys h.n k.n
 S:=λb hb=>k.S b (h.S b hb)
 len:=tys h.len k.len
 get:=λb hb ho=>by
  rw [k.get b (tyf hb h.n) (λo g=>by
   rcases h.own o b g with g | g
   .exact ho o g
   .omega),h.get b hb ho]
 stk:=λc hc ho=>by
  rw [k.stk c (tyf hc h.n) (λo g=>by
   rcases h.cls o c g with g | g
   .exact ho o g
   .omega),h.stk c hc ho]
 evo:=λo x' ho hx=>by
  by_cases hd:x'=.dead
  .exact .inl hd
  .obtain ⟨y,h1,h2⟩:=k.back (tyf ho h.len) hx hd
   have hy:y≠.dead:=λe=>by subst e;cases x'<;>exact h2.elim
   obtain ⟨x,h3,h4⟩:=h.back ho h1 hy
   exact .inr ⟨x,h3,h4.trans h2⟩
 own:=λo b g=>by
  rcases k.own o b g with g | g
  .exact h.own o b g
  .exact .inr (tys h.n g)
 cls:=λo b g=>by
  rcases k.cls o b g with g | g
  .exact h.cls o b g
  .exact .inr (tys h.n g)
 kp:=λo ho hw=>by
  obtain ⟨a1,a2,a3⟩:=h.kp o ho hw
  obtain ⟨b1,b2,b3⟩:=k.kp o (tyf ho h.len) hw
  refine ⟨b1.trans a1,b2.trans a2,λb hb=>?_⟩
  obtain ⟨c1,c2⟩:=a3 b hb
  obtain ⟨x,e1,e2,e3⟩:=hb
  obtain ⟨d1,d2⟩:=b3 b ⟨x,by rw [a1];exact e1,e2,by rw [a2];exact e3⟩
  exact ⟨d1.trans c1,d2.trans c2⟩
theorem Nx.weak {V:Nat->Prop} (h:Nx W C C') (hv:∀ o,W o->V o):Nx V C C':=
 ⟨h.n,h.S,h.len,h.get,h.stk,h.evo,h.own,h.cls,λo ho hw=>h.kp o ho (λg=>hw (hv o g))⟩
structure Upd (t:Nat) (C C':Ctx):Prop where
 n:C.H.n<=C'.H.n
 S:C'.S=C.S
 wf:Wf C'.H
 len:C.D.length<=C'.D.length
 D:∀ o,o≠t->C'.D[o]? =C.D[o]?
 σ:∀ o,o≠t->C'.σ o=C.σ o
 get:∀ b,b<C.H.n->¬Own C t b->C'.H.get b=C.H.get b
 stk:∀ k,k<C.H.n->¬Cls C t k->C'.H.stk k=C.H.stk k
 evo:∀ x',t<C.D.length->C'.D[t]? =some x'->x'=.dead∨∃ x,C.D[t]? =some x/\Evo (C.σ t) (C'.σ t) x x'
 own:∀ b,Own C' t b->Own C t b∨C.H.n<=b
 cls:∀ k,Cls C' t k->Cls C t k∨C.H.n<=k
variable {t:Nat}
theorem Upd.other (u:Upd t C C') {o:Nat} (h:o≠t) {b:Nat}:Own C' o b↔Own C o b:=by
 unfold Own;rw [u.D o h,u.σ o h]
theorem Upd.getO (u:Upd t C C') (hr:HR C) {o b:Nat} (h:o≠t) (ho:Own C o b):C'.H.get b=C.H.get b:=
 u.get b (ho.lt hr) (λg=>h (hr.inj _ _ _ ho g))
theorem Upd.clsO (u:Upd t C C') (hr:HR C) {o k:Nat} (h:o≠t):Cls C' o k↔Cls C o k:=by
 have hn:ClN C' o k↔ClN C o k:=by unfold ClN;rw [u.D o h,u.σ o h]
 unfold Cls;rw [hn];refine or_congr_left ?_;constructor
 .rintro ⟨e,sz,els,cs,e',h1,h2,h3⟩;rw [u.D o h] at h1;rw [u.σ o h] at h3;have:Own C o (C.σ o):=⟨_,h1,by cases els with | nil=>exact absurd rfl h2 | cons=>rfl,rfl⟩;rw [u.getO hr h this] at h3;exact ⟨e,sz,els,cs,e',h1,h2,h3⟩
 .intro g;have:=u.getO hr h g.own;obtain ⟨e,sz,els,cs,e',h1,h2,h3⟩:=g;exact ⟨e,sz,els,cs,e',by rw [u.D o h];exact h1,h2,by rw [u.σ o h,this];exact h3⟩
theorem Upd.stkO (u:Upd t C C') (hr:HR C) {o k:Nat} (h:o≠t) (hk:Cls C o k):C'.H.stk k=C.H.stk k:=
 u.stk k (hk.lt hr) (λg=>h (hr.cI _ _ _ hk g))
theorem Upd.nx (u:Upd t C C') (hr:HR C):Nx (λo=>o=t) C C' where
 n:=u.n
 S:=λb hb=>by rw [u.S];exact hb
 len:=u.len
 get:=λb hb ho=>u.get b hb (ho t)
 stk:=λk hk ho=>u.stk k hk (ho t)
 evo:=λo x' ho hx=>by
  by_cases h:o=t
  .subst h;exact u.evo x' ho hx
  .rw [u.D o h] at hx
   cases x' with
   | dead=>exact .inl rfl
   | _=>exact .inr ⟨_,hx,by rw [u.σ o h];exact Evo.refl _ (by simp)⟩
 own:=λo b g=>by
  by_cases h:o=t
  .subst h;exact u.own b g
  .exact .inl ((u.other h).1 g)
 cls:=λo k g=>by
  by_cases h:o=t
  .subst h;exact u.cls k g
  .exact .inl ((u.clsO hr h).1 g)
 kp:=λo ho h=>by
  refine ⟨u.D o h,u.σ o h,λb hb=>?_⟩
  have hg:=u.getO hr h hb
  refine ⟨hg,?_⟩
  unfold Hp.row
  rw [hg]
  cases hB:C.H.get b with
  | none=>rfl
  | some B=>
   simp only [tzn]
   cases B with
   | cells cs e k=>
    cases k with
    | none=>rfl
    | some k=>
     simp only [Hp.rowOf]
     obtain ⟨x,h1,h2,h3⟩:=hb
     have hob:=hr.ob o x h1
     subst h3
     cases x with
     | arr sz els=>obtain ⟨cs',e',g,_⟩:=hob;rw [g] at hB;simp at hB
     | app e0 sz els=>
      have hne:els≠[]:=λq=>by subst q;simp [zqm] at h2
      rw [u.stkO hr h (.inl ⟨e0,sz,els,cs,e,h1,hne,hB⟩)]
     | map ks vs=>obtain ⟨es,ck,g,_⟩:=hob;rw [g] at hB;simp at hB
     | loop=>obtain ⟨tmH,dn,g,_⟩:=hob;rw [g] at hB;simp at hB
     | dead=>simp [zqm] at h2
     | chn=>simp [zqm] at h2
   | _=>rfl
theorem Cl.mono (h:Nx W C C') (hr:HR C) {sz:Nat} {els:List DV} {cs:List Value} (k:Cl C sz els cs):Cl C' sz els cs:=
 ⟨k.len,k.ok,λi d j x h1 h2=>by obtain ⟨w,g1,g2⟩:=k.el i d j x h1 h2;exact ⟨w,g1,g2.mono h hr⟩,k.one⟩
theorem TR.mono (h:Nx W C C') (hr:HR C) {tm:Trie DV} {tmH:Trie Value} (k:TR C tm tmH):TR C' tm tmH:=λt d hd=>by
 obtain ⟨v,h1,h2⟩:=k t d hd;exact ⟨v,h1,h2.mono h hr⟩
theorem DRs.mono (h:Nx W C C') (hr:HR C) {ds:List DV} {vs:List Value} (k:DRs C ds vs):DRs C' ds vs:=⟨k.1,λi d v h1 h2=>(k.2 i d v h1 h2).mono h hr⟩
theorem Upd.ob (u:Upd t C C') (hr:HR C) {o:Nat} {x:DObj} (h:o≠t) (hx:C.D[o]? =some x):ObR C' o x:=by
 have nx:=u.nx hr;have k:=hr.ob o x hx;cases x with
 | arr sz els=>
  obtain ⟨cs,e,g1,g2⟩:=k;exact ⟨cs,e,by rw [u.σ o h,u.getO hr h ⟨_,hx,rfl,rfl⟩];exact g1,g2.mono nx hr⟩
 | app e sz els=>
  intro hne;obtain ⟨cs,c,r,g1,g2,g3⟩:=k hne;have hcl:ClA C o c:=⟨e,sz,els,cs,e,hx,hne,g1⟩;exact ⟨cs,c,r,by rw [u.σ o h,u.getO hr h hcl.own];exact g1,by rw [u.stkO hr h (.inl hcl),u.σ o h];exact g2,g3.mono nx hr⟩
 | map ks vs=>
  obtain ⟨es,ck,g1,g2,g3,g4,g5⟩:=k;exact ⟨es,ck,by rw [u.σ o h,u.getO hr h ⟨_,hx,rfl,rfl⟩];exact g1,g2,g3,g4,λi e d h1 h2=>(g5 i e d h1 h2).mono nx hr⟩
 | loop st p K tm ps asg body=>
  obtain ⟨tmH,dn,g1,g2,g3⟩:=k;exact ⟨tmH,dn,by rw [u.σ o h,u.getO hr h ⟨_,hx,rfl,rfl⟩];exact g1,g2.mono nx hr,g3⟩
 | dead=>exact trivial
 | chn e sz ctr L=>
  obtain ⟨c,b,bs,rest,g1,g2,g3,g4,g5,g6,g7⟩:=k;have hcl:Cls C o c:=.inr ⟨e,sz,ctr,L,hx,by rw [g1];rfl⟩;refine ⟨c,b,bs,rest,by rw [u.σ o h];exact g1,g2,by rw [u.stkO hr h hcl];exact g3,g4,g5,g6,λi x b' hi hb=>?_⟩;obtain ⟨cs,k1,k2⟩:=g7 i x b' hi hb;refine ⟨cs,?_,k2.mono nx hr⟩;rw [u.get b' (hr.wf.dom _ _ k1) (λg=>?_)]
  .exact k1
  obtain ⟨y,q1,q2,rfl⟩:=g;have hob:=hr.ob t y q1;cases y with
  | arr sz' els'=>obtain ⟨cs',e',q,_⟩:=hob;rw [k1] at q;simp at q
  | app e0 sz' els'=>
   have hne:els'≠[]:=λq=>by subst q;simp [zqm] at q2
   exact h (hr.cI _ _ _ hcl (.inl ⟨_,_,_,_,_,q1,hne,k1⟩))
  | map ks vs=>obtain ⟨es,ck,q,_⟩:=hob;rw [k1] at q;simp at q
  | loop=>obtain ⟨tmH,dn,q,_⟩:=hob;rw [k1] at q;simp at q
  | dead=>simp [zqm] at q2
  | chn=>simp [zqm] at q2
theorem Upd.hr (u:Upd t C C') (hr:HR C) (hob:∀ x,C'.D[t]? =some x->ObR C' t x):HR C' where
 wf:=u.wf
 st:=λb hb=>by
  rw [u.S] at hb
  have e:=(u.nx hr).rows hr b hb
  obtain ⟨B,c,h1,h2⟩:=hr.st b hb
  have h3:C.H.row b=some c:=by unfold Hp.row;rw [h1];exact h2
  rw [h3] at e
  exact ⟨B,c,by rw [u.get b (hr.wf.dom _ _ h1) (λg=>hr.nS _ _ g hb)];exact h1,by
   unfold Hp.row at e
   rw [u.get b (hr.wf.dom _ _ h1) (λg=>hr.nS _ _ g hb),h1] at e
   exact e⟩
 ob:=λo x hx=>by
  by_cases h:o=t
  .subst h;exact hob x hx
  .rw [u.D o h] at hx;exact u.ob hr h hx
 nS:=λo b g hb=>by
  rw [u.S] at hb
  by_cases h:o=t
  .subst h
   rcases u.own b g with g | g
   .exact hr.nS _ _ g hb
   .obtain ⟨B,c,h1,_⟩:=hr.st b hb
    have:=hr.wf.dom _ _ h1;omega
  .exact hr.nS _ _ ((u.other h).1 g) hb
 inj:=λo o' b g g'=>by
  by_cases h:o=t
  .by_cases h':o'=t
   .omega
   .have k':=(u.other h').1 g'
    subst h
    rcases u.own b g with k | k
    .exact hr.inj _ _ _ k k'
    .have:=k'.lt hr;omega
  .have k:=(u.other h).1 g
   by_cases h':o'=t
   .subst h'
    rcases u.own b g' with k' | k'
    .exact hr.inj _ _ _ k k'
    .have:=k.lt hr;omega
   .exact hr.inj _ _ _ k ((u.other h').1 g')
 cS:=λo k b cs e g hb hg=>by
  rw [u.S] at hb
  obtain ⟨B,c,h1,_⟩:=hr.st b hb
  rw [u.get b (hr.wf.dom _ _ h1) (λg=>hr.nS _ _ g hb)] at hg
  by_cases h:o=t
  .subst h
   rcases u.cls k g with g | g
   .exact hr.cS _ _ _ _ _ g hb hg
   .have:=hr.wf.cls _ _ _ _ hg;omega
  .exact hr.cS _ _ _ _ _ ((u.clsO hr h).1 g) hb hg
 cI:=λo o' k g g'=>by
  by_cases h:o=t
  .by_cases h':o'=t
   .omega
   .have k':=(u.clsO hr h').1 g'
    subst h
    rcases u.cls k g with q | q
    .exact hr.cI _ _ _ q k'
    .have:=k'.lt hr;omega
  .have q:=(u.clsO hr h).1 g
   by_cases h':o'=t
   .subst h'
    rcases u.cls k g' with k' | k'
    .exact hr.cI _ _ _ q k'
    .have:=q.lt hr;omega
   .exact hr.cI _ _ _ q ((u.clsO hr h').1 g')
end Go.Dv
namespace Go.Dv
open Go Go.Sim
variable {W:Nat->Prop} {C C' C'':Ctx}
theorem _root_.Go.Sim.Wf.newInD {H:Hp} (w:Wf H) {c:List Value} {e k:Nat} {st:List Nat} (hk:k<H.n+1):Wf (H.newIn c e k st):=by
 refine ⟨λj B' h=>?_,λj c' e' k' h=>?_⟩
 .rw [Hp.get_newIn] at h;simp only [Hp.n_newIn];split at h
  .omega
  have:=w.dom j B' h;omega
 rw [Hp.get_newIn] at h;simp only [Hp.n_newIn];split at h
 .simp_all
 have:=w.cls j c' e' k' h;omega
def zee (σ:Nat->Nat) (t n:Nat):Nat->Nat:=λo=>if o=t then n else σ o
theorem zyc {σ:Nat->Nat} {t n:Nat}:zee σ t n t=n:=if_pos rfl
theorem zv8 {σ:Nat->Nat} {t n o:Nat} (h:o≠t):zee σ t n o=σ o:=if_neg h
theorem zld {α:Type} {l:List α} {x:α} {o:Nat} (h:o≠l.length):(l++[x])[o]? =l[o]?:=by
 grind
theorem zyb {α:Type} {l:List α} {x:α}:(l++[x])[l.length]? =some x:=by simp
theorem zef {o k e sz:Nat} {els:List DV} (hx:C.D[o]? =some (.app e sz els)) (h:Cls C o k):∃ cs e',els≠[]/\C.H.get (C.σ o)=some (.cells cs e' (some k)):=by
 rcases h with ⟨e1,sz1,els1,cs1,e2,h1,h2,h3⟩ | ⟨e1,sz1,ctr,L,h1,_⟩
 .rw [hx] at h1;cases h1;exact ⟨cs1,e2,h2,h3⟩
 .rw [hx] at h1;cases h1
theorem zga {o k:Nat} {x:DObj} (hx:C.D[o]? =some x) (h:Cls C o k) (h1:∀ e sz els,x≠.app e sz els) (h2:∀ e sz c L,x≠.chn e sz c L):False:=by
 rcases h with ⟨e1,sz1,els1,cs1,e2,g,_⟩ | ⟨e1,sz1,ctr,L,g,_⟩
 .grind
 grind
def xw9 (B:Blk):Prop:=∀ c e k,B≠.cells c e (some k)
theorem HR.new (hr:HR C) {B:Blk} (hB:xw9 B) {x:DObj} (hx:∀ e sz els,x≠.app e sz els) (hob:∀ C',Nx (λ_=>False) C C'->C'.H.get (C'.σ C.D.length)=some B->ObR C' C.D.length x) (hx2:∀ e sz c L,x≠.chn e sz c L:=by simp) :
  ∃ C',C'.H=C.H.new B/\C'.D=C.D++[x]/\C'.S=C.S/\HR C'/\Nx (λ_=>False) C C'/\C'.σ C.D.length=C.H.n:=by
 have u:Upd C.D.length C ⟨zee C.σ C.D.length C.H.n,C.S,C.H.new B,C.D++[x]⟩:=
  {
   n:=by simp
   S:=rfl
   wf:=by
    refine ⟨λi B' h=>?_,λi c e k h=>?_⟩
    .simp only [Hp.get_new,Hp.n_new] at h ⊢
     split at h
     .omega
     .have:=hr.wf.dom i B' h;omega
    .simp only [Hp.get_new,Hp.n_new] at h ⊢
     split at h
     .simp only [tza] at h;exact absurd h (hB c e k)
     .have:=hr.wf.cls i c e k h;omega
   len:=by simp
   D:=λo h=>zld h
   σ:=λo h=>zv8 h
   get:=λb hb _=>by simp only [Hp.get_new];rw [if_neg (by omega)]
   stk:=λk _ _=>by simp
   evo:=λx' h=>absurd h (tyr _)
   own:=λb g=>by
    obtain ⟨y,h1,h2,h3⟩:=g
    simp only [zyc] at h3
    exact .inr (by omega)
   cls:=λk g=>(zga zyb g hx hx2).elim }
 have nx0:=u.nx hr;have nx:Nx (λ_=>False) C ⟨zee C.σ C.D.length C.H.n,C.S,C.H.new B,C.D++[x]⟩:=⟨nx0.n,nx0.S,nx0.len,nx0.get,nx0.stk,nx0.evo,nx0.own,nx0.cls,λo ho _=>nx0.kp o ho (by omega)⟩;refine ⟨⟨zee C.σ C.D.length C.H.n,C.S,C.H.new B,C.D++[x]⟩,rfl,rfl,rfl,u.hr hr (λy hy=>?_),nx,zyc⟩;simp only [zyb,tza] at hy;subst hy;exact hob _ nx (by simp [zyc])
theorem HR.put (hr:HR C) {o:Nat} {x x':DObj} {B:Blk} (ho:C.D[o]? =some x) (hx:∀ e sz els,x≠.app e sz els) (hx':∀ e sz els,x'≠.app e sz els) (he:Evo (C.σ o) (C.σ o) x x') (hB:xw9 B)
  (hob:∀ C',Nx (λp=>p=o) C C'->C'.H.get (C'.σ o)=some B->C'.σ=C.σ->ObR C' o x') (hx2:∀ e sz c L,x'≠.chn e sz c L:=by simp) :
  ∃ C',C'.H=C.H.put (C.σ o) B/\C'.D=C.D.set o x'/\C'.S=C.S/\HR C'/\Nx (λp=>p=o) C C'/\C'.σ=C.σ:=by
 have hol:=zyr ho;have hown:Own C o (C.σ o):=⟨x,ho,by cases x<;>first | rfl | exact he.elim | exact absurd rfl (hx _ _ _) | (cases x'<;>first | exact he.elim | exact absurd rfl (hx2 _ _ _ _)),rfl⟩;have hsn:=hown.lt hr
 have u:Upd o C ⟨C.σ,C.S,C.H.put (C.σ o) B,C.D.set o x'⟩:=
  {
   n:=by simp
   S:=rfl
   wf:=by
    refine ⟨λi B' h=>?_,λi c e k h=>?_⟩
    .simp only [Hp.get_put,Hp.n_put] at h ⊢
     split at h
     .omega
     .exact hr.wf.dom i B' h
    .simp only [Hp.get_put,Hp.n_put] at h ⊢
     split at h
     .simp only [tza] at h;exact absurd h (hB c e k)
     .exact hr.wf.cls i c e k h
   len:=by simp
   D:=λp h=>by simp [tya,Ne.symm h]
   σ:=λp h=>rfl
   get:=λb hb hn=>by
    simp only [Hp.get_put]
    rw [if_neg (λe=>hn (by rw [e];exact hown))]
   stk:=λk _ _=>by simp
   evo:=λy h hy=>by
    simp_all
   own:=λb g=>by
    obtain ⟨y,h1,h2,h3⟩:=g
    exact .inl (by rw [h3];exact hown)
   cls:=λk g=>(zga (x:=x') (by simp [hol]) g hx' hx2).elim }
 have nx:=u.nx hr;refine ⟨⟨C.σ,C.S,C.H.put (C.σ o) B,C.D.set o x'⟩,rfl,rfl,rfl,u.hr hr (λy hy=>?_),nx,rfl⟩;simp [hol] at hy;subst hy;exact hob _ nx (by simp) rfl
theorem HR.put1 (hr:HR C) {o e sz k:Nat} {els els':List DV} {cs cs':List Value} (ho:C.D[o]? =some (.app e sz els)) (hne:els≠[]) (hl:els'.length=els.length) (hg:C.H.get (C.σ o)=some (.cells cs e (some k)))
  (hob:∀ C',Nx (λp=>p=o) C C'->Cl C' sz els' cs') :
  ∃ C',C'.H=C.H.put1 (C.σ o) (.cells cs' e (some k)) k/\C'.D=C.D.set o (.app e sz els')/\C'.S=C.S/\HR C'/\Nx (λp=>p=o) C C'/\C'.σ=C.σ:=by
 have hol:=zyr ho;have hcl0:ClA C o k:=⟨e,sz,els,cs,e,ho,hne,hg⟩;have hcl:Cls C o k:=.inl hcl0;have hown:=hcl0.own;have hsn:=hown.lt hr;have hkn:=hcl.lt hr;have hne':els'≠[]:=λq=>by subst q;simp at hl;exact hne (tzy hl.symm)
 have u:Upd o C ⟨C.σ,C.S,C.H.put1 (C.σ o) (.cells cs' e (some k)) k,C.D.set o (.app e sz els')⟩:=
  {
   n:=by simp
   S:=rfl
   wf:=by
    refine ⟨λi B' h=>?_,λi c e' k' h=>?_⟩
    .simp only [Hp.get_put1,Hp.n_put1] at h ⊢
     split at h
     .omega
     .exact hr.wf.dom i B' h
    .simp only [Hp.get_put1,Hp.n_put1] at h ⊢
     split at h
     .simp_all
     .exact hr.wf.cls i c e' k' h
   len:=by simp
   D:=λp h=>by simp [tya,Ne.symm h]
   σ:=λp h=>rfl
   get:=λb hb hn=>by
    simp only [Hp.get_put1]
    rw [if_neg (λe=>hn (by rw [e];exact hown))]
   stk:=λc _ hc=>by
    simp only [Hp.stk_put1]
    rw [if_neg (λe=>hc (by rw [e];exact hcl))]
   evo:=λy h hy=>by
    simp [hol] at hy
    subst hy
    exact .inr ⟨_,ho,rfl,rfl,by omega,λ_ _=>rfl⟩
   own:=λb g=>by
    obtain ⟨y,h1,h2,h3⟩:=g
    exact .inl (by rw [h3];exact hown)
   cls:=λc g=>by
    obtain ⟨cs1,e2,h2,h3⟩:=zef (e:=e) (sz:=sz) (els:=els') (by simp [hol]) g
    simp at h3
    exact .inl (by rw [<-h3.2.2];exact hcl) }
 have nx:=u.nx hr;refine ⟨⟨C.σ,C.S,C.H.put1 (C.σ o) (.cells cs' e (some k)) k,C.D.set o (.app e sz els')⟩,rfl,rfl,rfl,u.hr hr (λy hy=>?_),nx,rfl⟩;simp [hol] at hy;subst hy;exact λ_=>⟨cs',k,[],by simp,by simp,hob _ nx⟩
theorem HR.newIn (hr:HR C) {e sz:Nat} {els:List DV} {cs:List Value} (hne:els≠[]) (hob:∀ C',Nx (λ_=>False) C C'->Cl C' sz els cs) :
  ∃ C',C'.H=C.H.newIn cs e C.H.n [C.H.n]/\C'.D=C.D++[.app e sz els]/\C'.S=C.S/\HR C'/\Nx (λ_=>False) C C'/\C'.σ C.D.length=C.H.n:=by
 have u:Upd C.D.length C ⟨zee C.σ C.D.length C.H.n,C.S,C.H.newIn cs e C.H.n [C.H.n],C.D++[.app e sz els]⟩:=
  {
   n:=by simp
   S:=rfl
   wf:=hr.wf.newInD (by omega)
   len:=by simp
   D:=λo h=>zld h
   σ:=λo h=>zv8 h
   get:=λb hb _=>by simp only [Hp.get_newIn];rw [if_neg (by omega)]
   stk:=λk hk _=>by simp only [Hp.stk_newIn];rw [if_neg (by omega)]
   evo:=λx' h=>absurd h (tyr _)
   own:=λb g=>by
    obtain ⟨y,h1,h2,h3⟩:=g
    simp only [zyc] at h3
    exact .inr (by omega)
   cls:=λk g=>by
    obtain ⟨cs1,e',h2,h3⟩:=zef (e:=e) (sz:=sz) (els:=els) zyb g
    simp only [zyc,Hp.get_newIn,if_true,tza,Blk.cells.injEq] at h3
    exact .inr (by omega) }
 have nx0:=u.nx hr;have nx:Nx (λ_=>False) C ⟨zee C.σ C.D.length C.H.n,C.S,C.H.newIn cs e C.H.n [C.H.n],C.D++[.app e sz els]⟩:=⟨nx0.n,nx0.S,nx0.len,nx0.get,nx0.stk,nx0.evo,nx0.own,nx0.cls,λo ho _=>nx0.kp o ho (by omega)⟩;refine ⟨⟨zee C.σ C.D.length C.H.n,C.S,C.H.newIn cs e C.H.n [C.H.n],C.D++[.app e sz els]⟩,rfl,rfl,rfl,u.hr hr (λy hy=>?_),nx,zyc⟩;simp only [zyb,tza] at hy;subst hy;exact λ_=>⟨cs,C.H.n,[],by simp [zyc],by simp [zyc],hob _ nx⟩
theorem HR.nilApp (hr:HR C) (e sz:Nat):∃ C',C'.H=C.H/\C'.D=C.D++[.app e sz []]/\C'.S=C.S/\HR C'/\Nx (λ_=>False) C C'/\C'.σ=C.σ:=by
 have u:Upd C.D.length C ⟨C.σ,C.S,C.H,C.D++[.app e sz []]⟩:=
  {
   n:=tzp _
   S:=rfl
   wf:=hr.wf
   len:=by simp
   D:=λo h=>zld h
   σ:=λo h=>rfl
   get:=λb hb _=>rfl
   stk:=λk _ _=>rfl
   evo:=λx' h=>absurd h (tyr _)
   own:=λb g=>by
    obtain ⟨y,h1,h2,h3⟩:=g
    simp only [zyb,tza] at h1
    subst h1
    simp [zqm] at h2
   cls:=λk g=>by
    obtain ⟨cs1,e',h2,h3⟩:=zef (e:=e) (sz:=sz) (els:=[]) zyb g
    exact absurd rfl h2 }
 have nx0:=u.nx hr;have nx:Nx (λ_=>False) C ⟨C.σ,C.S,C.H,C.D++[.app e sz []]⟩:=⟨nx0.n,nx0.S,nx0.len,nx0.get,nx0.stk,nx0.evo,nx0.own,nx0.cls,λo ho _=>nx0.kp o ho (by omega)⟩;refine ⟨⟨C.σ,C.S,C.H,C.D++[.app e sz []]⟩,rfl,rfl,rfl,u.hr hr (λy hy=>?_),nx,rfl⟩;simp only [zyb,tza] at hy;subst hy;exact λh=>absurd rfl h
theorem HR.grow (hr:HR C) {o e sz c:Nat} {els els':List DV} {H':Hp} {cs':List Value} {rest:List Nat} (ho:C.D[o]? =some (.app e sz els)) (hlen:els.length<els'.length) (hc:Cls C o c∨c=C.H.n)
  (wf:Wf H') (hn:C.H.n<=H'.n) (hget:∀ b,b<C.H.n->¬Own C o b->H'.get b=C.H.get b) (hstk:∀ k,k<C.H.n->k≠c->H'.stk k=C.H.stk k)
  (hg:H'.get C.H.n=some (.cells cs' e (some c))) (hs:H'.stk c=C.H.n::rest) (hob:∀ C',Nx (λp=>p=o) C C'->Cl C' sz els' cs') :
  ∃ C',C'.H=H'/\C'.D=C.D.set o (.app e sz els')/\C'.S=C.S/\HR C'/\Nx (λp=>p=o) C C'/\C'.σ o=C.H.n:=by
 have hol:=zyr ho;have hne':els'≠[]:=λq=>by subst q;simp at hlen
 have u:Upd o C ⟨zee C.σ o C.H.n,C.S,H',C.D.set o (.app e sz els')⟩:=
  {
   n:=hn
   S:=rfl
   wf:=wf
   len:=by simp
   D:=λp h=>by simp [tya,Ne.symm h]
   σ:=λp h=>zv8 h
   get:=hget
   stk:=λk hk hc'=>hstk k hk (λq=>by
    simp_all)
   evo:=λy h hy=>by
    simp [hol] at hy
    subst hy
    exact .inr ⟨_,ho,rfl,rfl,by omega,λq=>by omega⟩
   own:=λb g=>by
    obtain ⟨y,h1,h2,h3⟩:=g
    simp only [zyc] at h3
    exact .inr (by omega)
   cls:=λk g=>by
    obtain ⟨cs1,e2,h2,h3⟩:=zef (e:=e) (sz:=sz) (els:=els') (by simp [hol]) g
    simp only [zyc,hg,tza,Blk.cells.injEq] at h3
    rcases hc with q | q
    .exact .inl (by rw [<-h3.2.2];exact q)
    .exact .inr (by omega) }
 have nx:=u.nx hr;refine ⟨⟨zee C.σ o C.H.n,C.S,H',C.D.set o (.app e sz els')⟩,rfl,rfl,rfl,u.hr hr (λy hy=>?_),nx,zyc⟩;simp [hol] at hy;subst hy;exact λ_=>⟨cs',c,rest,by simp only [zyc];exact hg,by simp only [zyc];exact hs,hob _ nx⟩
theorem HR.conv (hr:HR C) {o e sz sz0:Nat} {els els':List DV} {cs':List Value} (ho:C.D[o]? =some (.arr sz0 els)) (hne':els'≠[]) (hob:∀ C',Nx (λp=>p=o) C C'->Cl C' sz els' cs') :
  ∃ C',C'.H=C.H.newIn cs' e C.H.n [C.H.n]/\C'.D=C.D.set o (.app e sz els')/\C'.S=C.S/\HR C'/\Nx (λp=>p=o) C C'/\C'.σ o=C.H.n:=by
 have hol:=zyr ho
 have u:Upd o C ⟨zee C.σ o C.H.n,C.S,C.H.newIn cs' e C.H.n [C.H.n],C.D.set o (.app e sz els')⟩:=
  {
   n:=by simp
   S:=rfl
   wf:=hr.wf.newInD (by omega)
   len:=by simp
   D:=λp h=>by simp [tya,Ne.symm h]
   σ:=λp h=>zv8 h
   get:=λb hb _=>by simp only [Hp.get_newIn];rw [if_neg (by omega)]
   stk:=λk hk _=>by simp only [Hp.stk_newIn];rw [if_neg (by omega)]
   evo:=λy h hy=>by
    simp [hol] at hy
    subst hy
    exact .inr ⟨_,ho,trivial⟩
   own:=λb g=>by
    obtain ⟨y,h1,h2,h3⟩:=g
    simp only [zyc] at h3
    exact .inr (by omega)
   cls:=λk g=>by
    obtain ⟨cs1,e2,h2,h3⟩:=zef (e:=e) (sz:=sz) (els:=els') (by simp [hol]) g
    simp only [zyc,Hp.get_newIn,if_true,tza,Blk.cells.injEq] at h3
    exact .inr (by omega) }
 have nx:=u.nx hr;refine ⟨⟨zee C.σ o C.H.n,C.S,C.H.newIn cs' e C.H.n [C.H.n],C.D.set o (.app e sz els')⟩,rfl,rfl,rfl,u.hr hr (λy hy=>?_),nx,zyc⟩;simp [hol] at hy;subst hy;exact λ_=>⟨cs',C.H.n,[],by simp [zyc],by simp [zyc],hob _ nx⟩
theorem HR.drop1 (hr:HR C) (o:Nat):∃ C',C'.H=C.H/\C'.D=C.D.set o .dead/\C'.S=C.S/\HR C'/\Nx (λp=>p=o) C C'/\C'.σ=C.σ:=by
 by_cases hol:o<C.D.length;rotate_left
 .refine ⟨C,rfl,?_,rfl,hr,Nx.refl hr,rfl⟩;rw [List.set_eq_of_length_le (by omega)]
 have u:Upd o C ⟨C.σ,C.S,C.H,C.D.set o .dead⟩:=
  {
   n:=tzp _
   S:=rfl
   wf:=hr.wf
   len:=by simp
   D:=λp h=>by simp [tya,Ne.symm h]
   σ:=λp h=>rfl
   get:=λ_ _ _=>rfl
   stk:=λ_ _ _=>rfl
   evo:=λy h hy=>by
    simp [hol] at hy
    exact .inl hy.symm
   own:=λb g=>by
    obtain ⟨y,h1,h2,h3⟩:=g
    simp [hol] at h1
    subst h1
    simp [zqm] at h2
   cls:=λk g=>(zga (x:=.dead) (by simp [hol]) g (by simp) (by simp)).elim }
 refine ⟨⟨C.σ,C.S,C.H,C.D.set o .dead⟩,rfl,rfl,rfl,u.hr hr (λy hy=>?_),u.nx hr,rfl⟩;simp [hol] at hy;subst hy;exact trivial
theorem HR.addS (hr:HR C) {b:Nat} {B:Blk} {c:List Value} (h1:C.H.get b=some B) (h2:C.H.rowOf b B=some c) (ho:∀ o,¬Own C o b) (hc:∀ o k cs e,Cls C o k->B≠.cells cs e (some k)) :
  ∃ C',C'.H=C.H/\C'.D=C.D/\C'.σ=C.σ/\(∀ i,C'.S i↔C.S i∨i=b)/\HR C'/\Nx (λ_=>False) C C':=by
 have nx:Nx (λ_=>False) C ⟨C.σ,λi=>C.S i∨i=b,C.H,C.D⟩:=
  ⟨tzp _,λ_ h=>.inl h,tzp _,λ_ _ _=>rfl,λ_ _ _=>rfl,λo x' _ h=>by
   cases x' with
   | dead=>exact .inl rfl
   | _=>exact .inr ⟨_,h,Evo.refl _ (by simp)⟩,λ_ _ h=>.inl h,λ_ _ h=>.inl h,λ_ _ _=>⟨rfl,rfl,λ_ _=>⟨rfl,rfl⟩⟩⟩
 refine ⟨⟨C.σ,λi=>C.S i∨i=b,C.H,C.D⟩,rfl,rfl,rfl,λi=>Iff.rfl,?_,nx⟩
 exact
  {
   wf:=hr.wf
   st:=λi hi=>by
    rcases hi with hi | rfl
    .exact hr.st i hi
    .exact ⟨B,c,h1,h2⟩
   ob:=λo x hx=>by
    have k:=hr.ob o x hx
    cases x with
    | arr sz els=>obtain ⟨cs,e,g1,g2⟩:=k;exact ⟨cs,e,g1,g2.mono nx hr⟩
    | app e sz els=>intro hne;obtain ⟨cs,c,r,g1,g2,g3⟩:=k hne;exact ⟨cs,c,r,g1,g2,g3.mono nx hr⟩
    | map ks vs=>obtain ⟨es,ck,g1,g2,g3,g4,g5⟩:=k;exact ⟨es,ck,g1,g2,g3,g4,λi e d h1 h2=>(g5 i e d h1 h2).mono nx hr⟩
    | loop=>obtain ⟨tmH,dn,g1,g2,g3⟩:=k;exact ⟨tmH,dn,g1,g2.mono nx hr,g3⟩
    | dead=>exact trivial
    | chn=>obtain ⟨c,b,bs,rest,g1,g2,g3,g4,g5,g6,g7⟩:=k;exact ⟨c,b,bs,rest,g1,g2,g3,g4,g5,g6,λi x b' hi hb=>by obtain ⟨cs,k1,k2⟩:=g7 i x b' hi hb;exact ⟨cs,k1,k2.mono nx hr⟩⟩
   nS:=λo i g hi=>by
    rcases hi with hi | rfl
    .exact hr.nS o i g hi
    .exact ho o g
   inj:=hr.inj
   cS:=λo k i cs e g hi hg=>by
    rcases hi with hi | rfl
    .exact hr.cS o k i cs e g hi hg
    .rw [h1] at hg
     simp only [tza] at hg
     exact hc o k cs e g hg
   cI:=hr.cI }
theorem HR.freeze (hr:HR C) {o:Nat} {x:DObj} (hx:C.D[o]? =some x) (hr':(∃ sz els,x=.arr sz els)∨∃ e sz els,x=.app e sz els) :
  ∃ C',C'.H=C.H/\C'.D=C.D.set o .dead/\C'.σ=C.σ/\HR C'/\Nx (λp=>p=o) C C'/\(zqm x=true->C'.S (C.σ o)):=by
 obtain ⟨C1,a1,a2,a3,a4,a5,a6⟩:=hr.drop1 o;by_cases hown:zqm x=true;rotate_left
 .grind
 have hO:Own C o (C.σ o):=⟨x,hx,hown,rfl⟩
 have hne:∀ p,¬Own C1 p (C.σ o):=by
  rintro p ⟨y,h1,h2,h3⟩;rw [a2,tya] at h1;rw [a6] at h3;split at h1
  .split at h1
   .simp at h1;subst h1;simp [zqm] at h2
   .simp at h1
  .rename_i hpo;exact hpo (hr.inj _ _ _ hO ⟨y,h1,h2,h3⟩)
 have key:∃ B c,C.H.get (C.σ o)=some B/\C.H.rowOf (C.σ o) B=some c/\∀ p k cs e,Cls C1 p k->B≠.cells cs e (some k):=by
  have hob:=hr.ob o x hx;rcases hr' with ⟨sz,els,rfl⟩ | ⟨e,sz,els,rfl⟩
  .obtain ⟨cs,e,g,_⟩:=hob;exact ⟨_,cs,g,rfl,λp k cs e _ h=>by simp at h⟩
  have hne':els≠[]:=λq=>by subst q;simp [zqm] at hown
  obtain ⟨cs,k,r,g,g2,_⟩:=hob hne';refine ⟨_,cs,g,by simp [Hp.rowOf,g2,zfh],λp c cs' e' hp h=>?_⟩;simp only [Blk.cells.injEq,tza] at h;have hcl:Cls C o k:=.inl ⟨e,sz,els,cs,e,hx,hne',g⟩;rcases hp with ⟨e1,sz1,els1,cs1,e2,h1,h2,h3⟩ | ⟨e1,sz1,ctr,L,h1,h3⟩
  .rw [a2,tya] at h1;rw [a1,a6] at h3;split at h1
   .split at h1
    .simp at h1
    simp at h1
   rename_i hpo;refine hpo (hr.cI o p k hcl (.inl ⟨e1,sz1,els1,cs1,e2,h1,h2,?_⟩));rw [h.2.2];exact h3
  .rw [a2,tya] at h1;rw [a6] at h3;split at h1
   .split at h1
    .simp at h1
    simp at h1
   rename_i hpo;refine hpo (hr.cI o p k hcl (.inr ⟨e1,sz1,ctr,L,h1,?_⟩));rw [h.2.2];exact h3
 obtain ⟨B,c,k1,k2,k3⟩:=key;obtain ⟨C2,b1,b2,b3,b4,b5,b6⟩:=a4.addS (b:=C.σ o) (B:=B) (c:=c) (by rw [a1];exact k1) (by rw [a1];exact k2) hne k3;exact ⟨C2,b1.trans a1,b2.trans a2,b3.trans a6,b5,a5.trans (b6.weak (λ_ h=>h.elim)),λ_=>(b4 _).2 (.inr rfl)⟩
theorem DR.lows {d:DV} {v:Value} (h:DR C d v):Dv.below C.D.length d=true:=by
 have all:∀ {ds:List DV} {vs:List Value},vs.length=ds.length->(∀ (i:Nat) (d:DV) (v:Value),ds[i]? =some d->vs[i]? =some v->Dv.below C.D.length d=true)->zzo C.D.length ds=true:=by
  intro ds
  induction ds with
  | nil=>intro vs _ _;rfl
  | cons d ds ih=>
   intro vs hl h;cases vs with
   | nil=>simp at hl
   | cons v vs=>
    simp only [zzo,tzc];exact ⟨h 0 d v rfl rfl,ih (by simpa using hl) (λi d v h1 h2=>h (i+1) d v h1 h2)⟩
 induction h with
 | f h=>rfl
 | agg hl _ ih=>exact all hl ih
 | tup hl _ ih=>exact all hl ih
 | fn ha hb _ _ ih1 ih2=>simp only [Dv.below,tzc];exact ⟨all ha ih1,all hb ih2⟩
 | fp=>rfl
 | em=>rfl
 | _=>simpa [Dv.below] using by assumption
theorem zv9 {L:Nat}:∀ {l:List DV},zzo L l=true->∀ d∈l,below L d=true
 | d::l,h,x,hx=>by
  simp only [zzo,tzc] at h;rcases tzu.1 hx with rfl | hx
  .exact h.1
  exact zv9 h.2 x hx
theorem DR.take {L:Nat} (hC:C'.S=C.S/\C'.H=C.H) (hσ:∀ o,o<L->C'.σ o=C.σ o) (hD:∀ o,o<L->C'.D[o]? =C.D[o]?) (hL:L<=C'.D.length) {d:DV} {v:Value} (h:DR C d v):Dv.below L d=true->DR C' d v:=by
 obtain ⟨hS,hH⟩:=hC
 induction h with
 | f h=>intro _;exact .f (by rw [hS,hH];exact h)
 | agg hl _ ih=>intro hb;exact .agg hl λi d v h1 h2=>ih i d v h1 h2 (zv9 hb d (tzg h1))
 | tup hl _ ih=>intro hb;exact .tup hl λi d v h1 h2=>ih i d v h1 h2 (zv9 hb d (tzg h1))
 | fn ha hb _ _ ih1 ih2=>
  intro h;simp only [Dv.below,tzc] at h;exact .fn ha hb (λi d v h1 h2=>ih1 i d v h1 h2 (zv9 h.1 d (tzg h1))) (λi d v h1 h2=>ih2 i d v h1 h2 (zv9 h.2 d (tzg h1)))
 | fp w hb hc hw hr=>intro _;exact .fp w (by rw [hS];exact hb) (by rw [hH];exact hc) hw (λj y hj=>by rw [hS,hH];exact hr j y hj)
 | yl ho one g=>
  intro hb;have hb:=of_decide_eq_true (show decide (_<L)=true from hb);exact .yl (by omega) one (λst p K tm ps a b hx=>by rw [hσ _ hb];exact g st p K tm ps a b (by rw [<-hD _ hb];exact hx))
 | ref ho one g=>
  intro hb;have hb:=of_decide_eq_true (show decide (_<L)=true from hb);exact .ref (by omega) one (λsz els hx=>by rw [hσ _ hb];exact g sz els (by rw [<-hD _ hb];exact hx))
 | rfa ho one hn g=>
  intro hb;have hb:=of_decide_eq_true (show decide (_<L)=true from hb);exact .rfa (by omega) one hn ⟨λsz els hx=>g.1 sz els (by rw [<-hD _ hb];exact hx),λe sz els hx=>by rw [hσ _ hb];exact g.2 e sz els (by rw [<-hD _ hb];exact hx)⟩
 | row ho one g=>
  intro hb;have hb:=of_decide_eq_true (show decide (_<L)=true from hb);exact .row (by omega) one (λsz els hx=>by rw [hσ _ hb];exact g sz els (by rw [<-hD _ hb];exact hx))
 | apl ho one g=>
  intro hb;have hb:=of_decide_eq_true (show decide (_<L)=true from hb);exact .apl (by omega) one ⟨λsz els hx=>g.1 sz els (by rw [<-hD _ hb];exact hx),λe sz els hx=>by rw [hσ _ hb];exact g.2 e sz els (by rw [<-hD _ hb];exact hx)⟩
 | prt ho one hn g=>
  intro hb;have hb:=of_decide_eq_true (show decide (_<L)=true from hb);exact .prt (by omega) one hn ⟨λsz els hx=>g.1 sz els (by rw [<-hD _ hb];exact hx),λe sz els hx=>by rw [hσ _ hb];exact g.2 e sz els (by rw [<-hD _ hb];exact hx)⟩
 | em hb hc ho=>intro _;exact .em (by rw [hS];exact hb) (by rw [hH];exact hc) ho
 | lv ho hn g=>
  intro hb;have hb:=of_decide_eq_true (show decide (_<L)=true from hb);exact .lv (by omega) hn (λe sz ctr L' hx=>by rw [hσ _ hb];exact g e sz ctr L' (by rw [<-hD _ hb];exact hx))
 | mp ho one g=>
  intro hb;have hb:=of_decide_eq_true (show decide (_<L)=true from hb);exact .mp (by omega) one (λks vs hx=>by rw [hσ _ hb];exact g ks vs (by rw [<-hD _ hb];exact hx))
theorem zy8 {L L':Nat} (h:L<=L'):(∀ d:DV,below L d=true->below L' d=true)/\∀ l:List DV,zzo L l=true->zzo L' l=true:=by
 have key:∀ n:Nat,(∀ d:DV,SizeOf.sizeOf d<n->below L d=true->below L' d=true)/\∀ l:List DV,SizeOf.sizeOf l<n->zzo L l=true->zzo L' l=true:=by
  intro n
  induction n with
  | zero=>exact ⟨λd h=>by omega,λd h=>by omega⟩
  | succ n ih=>
   refine ⟨λd hd hb=>?_,λl hl hb=>?_⟩
   .cases d with
    | f=>rfl
    | fp=>rfl
    | em=>rfl
    | agg l=>exact ih.2 l (by simp at hd;omega) hb
    | tup l=>exact ih.2 l (by simp at hd;omega) hb
    | fn g a b=>
     simp only [below,tzc] at hb ⊢;exact ⟨ih.2 a (by simp at hd;omega) hb.1,ih.2 b (by simp at hd;omega) hb.2⟩
    | _=>simp [below] at hb ⊢;omega
   .cases l with
    | nil=>rfl
    | cons d l=>
     simp only [zzo,tzc] at hb ⊢;exact ⟨ih.1 d (by simp at hl;omega) hb.1,ih.2 l (by simp at hl;omega) hb.2⟩
 exact ⟨λd hb=>(key (SizeOf.sizeOf d+1)).1 d (by omega) hb,λl hb=>(key (SizeOf.sizeOf l+1)).2 l (by omega) hb⟩
def ObB (L:Nat):DObj->Prop
 | .arr _ els=>∀ d∈els,below L d=true
 | .app _ _ els=>∀ d∈els,below L d=true
 | .map _ vs=>∀ d∈vs,below L d=true
 | .chn _ _ _ l=>∀ x∈l,∀ d∈x.2,below L d=true
 | _=>True
theorem yvd {L:Nat} {d x:DV} (h:below L d=true) (hx:x∈zzd d):below L x=true:=by
 cases d with
 | agg l=>exact zv9 h x hx
 | _=>simp [zzd] at hx;subst hx;exact h
theorem HR.take (hr:HR C) {L:Nat} (hL:L<=C.D.length) (hB:∀ o x,o<L->C.D[o]? =some x->ObB L x):HR ⟨C.σ,C.S,C.H,C.D.take L⟩:=by
 have hg:∀ o x,(C.D.take L)[o]? =some x->o<L/\C.D[o]? =some x:=λo x h=>by
  grind
 have tk:∀ {d:DV} {v:Value},DR C d v->Dv.below L d=true->DR ⟨C.σ,C.S,C.H,C.D.take L⟩ d v:=λh hb=>h.take (C:=C) (C':=⟨C.σ,C.S,C.H,C.D.take L⟩) ⟨rfl,rfl⟩ (λ_ _=>rfl) (λo ho=>by simp [tyb,ho]) (by simp;omega) hb;have ow:∀ {o b},Own ⟨C.σ,C.S,C.H,C.D.take L⟩ o b->Own C o b:=λ⟨x,h1,h2,h3⟩=>⟨x,(hg _ _ h1).2,h2,h3⟩
 have ck:∀ {o k},Cls ⟨C.σ,C.S,C.H,C.D.take L⟩ o k->Cls C o k:=λh=>by
  rcases h with ⟨e,sz,els,cs,e',h1,h2,h3⟩ | ⟨e,sz,ctr,l,h1,h2⟩
  .exact .inl ⟨e,sz,els,cs,e',(hg _ _ h1).2,h2,h3⟩
  .exact .inr ⟨e,sz,ctr,l,(hg _ _ h1).2,h2⟩
 have cl:∀ {sz:Nat} {els:List DV} {cs:List Value},Cl C sz els cs->(∀ d∈els,Dv.below L d=true)->Cl ⟨C.σ,C.S,C.H,C.D.take L⟩ sz els cs:=λk hb=>⟨k.len,k.ok,λi d j x h1 h2=>by
  obtain ⟨w,g1,g2⟩:=k.el i d j x h1 h2
  exact ⟨w,g1,tk g2 (yvd (hb d (tzg h1)) (tzg h2))⟩,k.one⟩
 exact
  {
   wf:=hr.wf
   st:=hr.st
   ob:=λo x hx=>by
    obtain ⟨hoL,hx⟩:=hg o x hx
    have k:=hr.ob o x hx
    have hb:=hB o x hoL hx
    cases x with
    | arr sz els=>obtain ⟨cs,e,g1,g2⟩:=k;exact ⟨cs,e,g1,cl g2 hb⟩
    | app e sz els=>intro hne;obtain ⟨cs,c,r,g1,g2,g3⟩:=k hne;exact ⟨cs,c,r,g1,g2,cl g3 hb⟩
    | map ks vs=>obtain ⟨es,ck,g1,g2,g3,g4,g5⟩:=k;exact ⟨es,ck,g1,g2,g3,g4,λi e d h1 h2=>tk (g5 i e d h1 h2) (hb d (tzg h2))⟩
    | loop=>
     obtain ⟨tmH,dn,g1,g2,g3⟩:=k
     refine ⟨tmH,dn,g1,λt d ht=>?_,g3⟩
     obtain ⟨v,q1,q2⟩:=g2 t d ht
     exact ⟨v,q1,tk q2 ((zy8 (by omega)).1 d (g3 t d ht))⟩
    | dead=>exact trivial
    | chn=>obtain ⟨c,b,bs,rest,g1,g2,g3,g4,g5,g6,g7⟩:=k;exact ⟨c,b,bs,rest,g1,g2,g3,g4,g5,g6,λi x b' hi h'=>by obtain ⟨cs,k1,k2⟩:=g7 i x b' hi h';exact ⟨cs,k1,cl k2 (hb x (tzg hi))⟩⟩
   nS:=λo b g=>hr.nS o b (ow g)
   inj:=λo o' b g g'=>hr.inj o o' b (ow g) (ow g')
   cS:=λo k b cs e g=>hr.cS o k b cs e (ck g)
   cI:=λo o' k g g'=>hr.cI o o' k (ck g) (ck g') }
theorem Nx.take (h:Nx W C C') {L:Nat} (hL:C.D.length<=L) (hL':L<=C'.D.length):Nx W C ⟨C'.σ,C'.S,C'.H,C'.D.take L⟩:=by
 have hg:∀ o x,(C'.D.take L)[o]? =some x->o<L/\C'.D[o]? =some x:=λo x h=>by
  grind
 exact
  {
   n:=h.n
   S:=h.S
   len:=by simp;omega
   get:=h.get
   stk:=h.stk
   evo:=λo x' ho hx=>h.evo o x' ho (hg _ _ hx).2
   own:=λo b ⟨x,h1,h2,h3⟩=>h.own o b ⟨x,(hg _ _ h1).2,h2,h3⟩
   cls:=λo k g=>h.cls o k (by
    rcases g with ⟨e,sz,els,cs,e',h1,h2,h3⟩ | ⟨e,sz,ctr,l,h1,h2⟩
    .exact .inl ⟨e,sz,els,cs,e',(hg _ _ h1).2,h2,h3⟩
    .exact .inr ⟨e,sz,ctr,l,(hg _ _ h1).2,h2⟩)
   kp:=λo ho hw=>by
    obtain ⟨a,b,c⟩:=h.kp o ho hw
    exact ⟨by simp [tyb,show o<L by omega,a],b,c⟩ }
end Go.Dv
namespace Go.Dv
open Go Go.Sim
variable {W:Nat->Prop} {C C' C'':Ctx} {P:Program} {tm:Trie DV} {tmH:Trie Value}
theorem zpx {b o n:Nat}:(⟨b,o,none⟩:Addr).add n=⟨b,o+n,none⟩:=by
 unfold Addr.add;split
 .rename_i h;rw [h];rfl
 .rfl
theorem zv0 (v:Value):DR C (rv v) v:=.f (.raw v)
theorem zpy (v:Value):DR C (ofV v) v:=by
 cases v with
 | agg cs=>
  obtain ⟨l⟩:=cs;refine .agg (by simp) (λi d v h1 h2=>?_);simp only [tzr] at h1;rw [h2] at h1;simp only [tz2,tza] at h1;subst h1;exact zv0 v
 | _=>exact zv0 _
theorem zzu (ht:TR C tm tmH) {x:Operand} {d:DV} (h:zzl tm x=some d):∃ v,zyk P tmH x=some v/\DR C d v:=by
 cases x with
 | tmp t=>
  obtain ⟨v,h1,h2⟩:=ht t d h;exact ⟨v,by show zq5 (tmH.get t)=_;rw [h1];rfl,h2⟩
 | const v=>
  obtain ⟨w,h1,h2⟩:=tzf.1 h;exact ⟨w,h1,by rw [<-h2];exact zpy w⟩
 | global g=>simp [zzl] at h
 | func f=>
  simp only [zzl,tza] at h;subst h;exact ⟨_,rfl,.fn rfl rfl (λi d v h=>by simp at h) (λi d v h=>by simp at h)⟩
theorem zvp (ht:TR C tm tmH):∀ {l:List Operand} {ds:List DV},zy5 tm l=some ds->∃ vs,zq6 P tmH l=some vs/\DRs C ds vs
 | [],ds,h=>by
  simp only [zy5,tza] at h;subst h;exact ⟨[],rfl,rfl,λi d v h=>by simp at h⟩
 | x::l,ds,h=>by
  simp only [zy5] at h;split at h
  .rename_i d hd;obtain ⟨ds',h1,rfl⟩:=tzf.1 h;obtain ⟨v,g1,g2⟩:=zzu (P:=P) ht hd;obtain ⟨vs,g3,g4,g5⟩:=zvp ht h1;refine ⟨v::vs,by simp only [zq6,g1,g3],by simp [g4],λi d v h1 h2=>?_⟩;cases i with
   | zero=>simp at h1 h2;subst h1 h2;exact g2
   | succ i=>exact g5 i d v (by simpa using h1) (by simpa using h2)
  .cases h
theorem DRs.append {a b:List DV} {as bs:List Value} (h:DRs C a as) (k:DRs C b bs):DRs C (a++b) (as++bs):=by
 refine ⟨by simp [h.1,k.1],λi d v h1 h2=>?_⟩;rcases tz9 i a.length with g | g
 .rw [tzs g] at h1;rw [tzs (by rw [h.1];exact g)] at h2;exact h.2 i d v h1 h2
 rw [tzv g] at h1;rw [tzv (by rw [h.1];exact g),h.1] at h2;exact k.2 _ d v h1 h2
theorem zbh:∀ {ds:List DV} {ws vs:List Value},ykm ds=some ws->vs.length=ds.length->(∀ (i:Nat) (d:DV) (v:Value),ds[i]? =some d->vs[i]? =some v->DR C d v)->vs=ws
 | [],ws,vs,h,hl,_=>by simp [ykm] at h;subst h;exact tzy hl
 | d::ds,ws,[],h,hl,_=>by simp at hl
 | d::ds,ws,v::vs,h,hl,hr=>by
  cases d with
  | f x=>
   cases x with
   | raw u=>
    simp only [ykm] at h;obtain ⟨ws',h1,rfl⟩:=tzf.1 h;have:=hr 0 _ v rfl rfl;cases this with
    | f k=>cases k;rw [zbh h1 (by simpa using hl) (λi d v a b=>hr (i+1) d v a b)]
   | _=>simp [ykm] at h
  | _=>simp [ykm] at h
theorem zl8 {d:DV} {v w:Value} (h:DR C d v) (k:toV d=some w):v=w:=by
 cases d with
 | f x=>
  cases x with
  | raw u=>
   simp only [toV,tza] at k;subst k;cases h with
   | f k=>cases k;rfl
  | _=>simp [toV] at k
 | agg l=>
  simp only [toV] at k;obtain ⟨ws,h1,rfl⟩:=tzf.1 k;cases h with
  | agg hl hr=>rw [zbh h1 hl hr]
 | _=>simp [toV] at k
theorem zf3 {u v:Value} (h:DR C (.f (.raw u)) v):v=u:=by
 cases h with
 | f k=>cases k;rfl
theorem zqn {t:TypeId} {T:SlT} (h:tSl P t=some T):P.underlying t=some (.slice T.e)/\zio P t=some T.e/\zyl P T.e=some T.sz/\zhn P T.e=some T.by_/\(∃ z,zxa P T.e=some z/\T.z=ofV z)/\zrn T.sz T.z=true/\T.by_<=65536:=by
 unfold tSl at h;split at h
 .rename_i e he;split at h
  .rename_i sz hs;split at h
   .rename_i b hb;split at h
    .rename_i z hz;split at h
     .rename_i hok;simp only [tza] at h;subst h;refine ⟨?_,he,hs,hb,⟨z,hz,rfl⟩,hok.1,hok.2⟩;unfold zio at he;obtain ⟨d,h1,h2⟩:=tzh.1 he;cases d<;>simp [xy9] at h2
      subst h2;exact h1
     .cases h
    .cases h
   .cases h
  .cases h
 .cases h
theorem zyx {sz:Nat} {d:DV} (h:zrn sz d=true):(zzd d).length=sz/\∀ x∈zzd d,zwz x=true:=by
 unfold zrn at h;simp only [tzc,tzx] at h;exact ⟨tzo h.1,h.2⟩
theorem zrq {sz:Nat} {d:DV}:zrn sz d=true↔(zzd d).length=sz/\(zzd d).all zwz=true:=by
 unfold zrn;simp only [tzc];exact and_congr_left' ⟨tzo,λh=>by rw [h];simp⟩
theorem zl9 {x:DV} {w:Value} (h:DR C x w) (k:zwz x=true):oneCell w=true:=by
 cases h with
 | f h=>
  cases h with
  | raw v=>exact k
  | nil=>rfl
  | lst=>rfl
 | agg=>simp [zwz] at k
 | tup=>simp [zwz] at k
 | fn=>rfl
 | fp=>rfl
 | em=>rfl
 | lv=>exact xw8 _ _
 | _=>assumption
theorem FR.one {S:Nat->Prop} {H:Hp} {x:FV} {w:Value} (h:FR S H x w) (k:zrm x=true):oneCell w=true:=by
 cases h with
 | raw v=>exact k
 | nil=>rfl
 | lst=>rfl
end Go.Dv
namespace Go.Dv
open Go Go.Sim
variable {W:Nat->Prop} {C C' C'':Ctx} {P:Program} {tm:Trie DV} {tmH:Trie Value}
theorem zpz:∀ {c:List Value} {o n:Nat},o+n<=c.length->cut c o n=some ((c.drop o).take n)
 | c,0,0,_=>by simp [cut]
 | [],0,n+1,h=>by simp at h
 | v::c,0,n+1,h=>by
  have:=zpz (c:=c) (o:=0) (n:=n) (by simp at h ⊢;omega);simp only [List.drop_zero] at this;simp only [cut,this];rfl
 | [],o+1,n,h=>by simp at h
 | v::c,o+1,n,h=>by
  have:=zpz (c:=c) (o:=o) (n:=n) (by simp at h;omega);cases n<;>simpa [cut] using this
theorem ykr {c:List Value}:∀ {o:Nat} {v:Value},c[o]? =some v->cut c o 1=some [v]:=by
 induction c with
 | nil=>intro o v h;simp at h
 | cons x c ih=>
  intro o v h;cases o with
  | zero=>
   simp only [txp,tza] at h;subst h;cases c<;>rfl
  | succ o=>
   simp only [txr] at h;exact ih h
theorem yrb {H:Hp} {t:TypeId} {a:Option Nat} {b p k:Nat} {cs:List Value} {cells:List DV} {d:DV} (hrow:H.row b=some cs) (ht:tLd P t=some a)
  (hr:∀ (j:Nat) (x:DV),cells[j]? =some x->∃ w,cs[p+j]? =some w/\DR C x w) (h:zsi cells k a=some d):∃ v,zqg P H t b (p+k)=some v/\DR C d v:=by
 unfold tLd at ht;unfold zqg;split at ht
 .rename_i hag;obtain ⟨n,hs,rfl⟩:=tzf.1 ht;simp only [zsi] at h;split at h
  .rename_i hk;simp only [tza] at h;subst h;have hlen:p+k+n<=cs.length:=(by obtain ⟨x,hx⟩:=zw1 (l:=cells) (i:=k+n-1) (by omega);obtain ⟨w,hw,_⟩:=hr _ x hx;have:=zyr hw;omega);rw [hag];simp only [hs,Hp.read,hrow];rw [zpz hlen];refine ⟨_,rfl,.agg (by simp;omega) (λi d v h1 h2=>?_)⟩;rw [tyb] at h1 h2;split at h1
   .grind
   cases h1
  .cases h
 .rename_i hag;simp only [tza] at ht;subst ht;simp only [zsi] at h;obtain ⟨w,hw,hd⟩:=hr _ d h;rw [hag];simp only [Hp.read,hrow];rw [ykr hw];exact ⟨w,rfl,hd⟩
 .cases ht
theorem zsr {H:Hp} {b:Nat} {cs:List Value} {e:TypeId} (h:H.get b=some (.cells cs e none)):H.row b=some cs:=by unfold Hp.row;rw [h];rfl
theorem xva {H:Hp} {b k:Nat} {cs:List Value} {e:TypeId} {r:List Nat} (h:H.get b=some (.cells cs e (some k))) (hs:H.stk k=b::r):H.row b=some cs:=by
 unfold Hp.row;rw [h];simp [Hp.rowOf,hs,zfh]
theorem zbi (hr:HR C) {o sz:Nat} {els:List DV} (h:C.D[o]? =some (.arr sz els)):∃ cs,C.H.row (C.σ o)=some cs/\Cl C sz els cs:=by
 obtain ⟨cs,e,h1,h2⟩:=hr.ob o _ h;exact ⟨cs,zsr h1,h2⟩
theorem zgb (hr:HR C) {o e sz:Nat} {els:List DV} (h:C.D[o]? =some (.app e sz els)) (hne:els≠[]):∃ cs,C.H.row (C.σ o)=some cs/\Cl C sz els cs:=by
 obtain ⟨cs,k,r,h1,h2,h3⟩:=hr.ob o _ h hne;exact ⟨cs,xva h1 h2,h3⟩
theorem zka {ver:Nat} {els:List DV}:∀ {L:List (Nat×List DV)},zo2 (zpr ver L)=some els->∃ i,L[i]? =some (ver,els)/\zpr ver L=L.drop i/\∀ (j:Nat) (x:Nat×List DV),j<i->L[j]? =some x->x.1≠ver
 | [],h=>by simp [zpr,zo2] at h
 | (w,e)::l,h=>by
  unfold zpr at h ⊢;by_cases hw:w=ver
  .rw [if_pos hw] at h ⊢;simp only [zo2,tza] at h;exact ⟨0,by rw [<-h,<-hw];rfl,rfl,λj x hj=>by omega⟩
  rw [if_neg hw] at h ⊢;obtain ⟨i,h1,h2,h3⟩:=zka h;refine ⟨i+1,h1,h2,λj x hj hx=>?_⟩;cases j with
  | zero=>simp at hx;subst hx;exact hw
  | succ j=>exact h3 j x (by omega) hx
theorem yrc (hr:HR C) {o e sz ctr ver i b:Nat} {L:List (Nat×List DV)} {els:List DV} (hD:C.D[o]? =some (.chn e sz ctr L)) (hi:L[i]? =some (ver,els)) (hb:(dec (C.σ o))[i+1]? =some b) :
  ∃ k cs,(dec (C.σ o))[0]? =some k/\C.H.get b=some (.cells cs e (some k))/\b∈C.H.stk k/\C.H.row b=some cs/\Cl C sz els cs/\els≠[]:=by
 obtain ⟨k,b0,bs,rest,h1,h2,h3,h4,h5,h6,h7⟩:=hr.ob o _ hD;rw [h1] at hb;have hb':(b0::bs)[i]? =some b:=by simpa using hb
 obtain ⟨cs,g1,g2⟩:=h7 i _ b hi hb';have hm:b∈C.H.stk k:=by rw [h3];exact txf _ (tzg hb')
 refine ⟨k,cs,by rw [h1];rfl,g1,hm,?_,g2,(h5 i _ hi).2⟩;unfold Hp.row;rw [g1];simp [Hp.rowOf,zwr.2 hm]
theorem yrd {H:Hp} {t:TypeId} {a:Option Nat} {b i k sz:Nat} {cs:List Value} {els:List DV} {d:DV} (hrow:H.row b=some cs) (hc:Cl C sz els cs) (ht:tLd P t=some a) (h:ysn els i k a=some d) :
  ∃ v,zqg P H t b (i*sz+k)=some v/\DR C d v:=by
 obtain ⟨x,hx,h⟩:=tzh.1 h;exact yrb hrow ht (λj y hy=>hc.el i x j y hx hy) h
theorem yyg (hr:HR C) {t:TypeId} {a:Option Nat} {p d:DV} {vp:Value} (ht:tLd P t=some a) (hp:DR C p vp) (h:zve C.D a p=some d):∃ b off v,zmc vp=some (b,off)/\zqg P C.H t b off=some v/\DR C d v:=by
 cases hp with
 | @ref o i k _ ho one g=>
  simp only [zve] at h;split at h
  .rename_i sz els hx;obtain ⟨cs,h1,h2⟩:=zbi hr hx;obtain ⟨v,h3,h4⟩:=yrd h1 h2 ht h;rw [g _ _ hx];exact ⟨_,_,v,rfl,h3,h4⟩
  .cases h
 | @rfa o n i k _ ho one hn g=>
  simp only [zve] at h;split at h
  .rename_i e sz els hx;split at h
   .rename_i hl;obtain ⟨cs,h1,h2⟩:=zgb hr hx (λq=>by subst q;simp at hl;omega);obtain ⟨v,h3,h4⟩:=yrd h1 h2 ht h;rw [(g.2 _ _ _ hx).2 hl];exact ⟨_,_,v,rfl,h3,h4⟩
   .cases h
  .cases h
 | fp w hb hc hw hf=>
  simp only [zve] at h
  obtain ⟨v,h3,h4⟩:=yrb (C:=C) (P:=P) hc ht (λj x hx=>by
   simp only [tzr] at hx
   obtain ⟨y,hy,rfl⟩:=tzf.1 hx
   exact ⟨w j,(hw j y hy).1,.f (hf j y hy)⟩) h
  exact ⟨_,_,v,rfl,h3,h4⟩
 | _=>simp [zve] at h
theorem yre {t:TypeId} {f o:Nat} {ft:TypeId} (h:zl1 P t f=some (o,ft)):∃ fs fd,P.underlying t=some (.struct fs)/\fs.toList[f]? =some fd/\fd.offset=o/\fd.type=ft/\∃ n,zyl P fd.type=some (n+1):=by
 unfold zl1 at h;obtain ⟨d,h1,h2⟩:=tzh.1 h;cases d<;>simp only [xn3] at h2<;>first | (cases h2;done) | skip
 rename_i fs;split at h2
 .grind
 cases h2
theorem zrr {d:DV} {v:Value} (h:DR C d v) (k:zut C.D d=true):∃ b off,v=.pointer (some ⟨b,off,none⟩):=by
 cases h with
 | @ref o i k _ ho one g=>
  simp only [zut] at k;split at k
  .rename_i sz els hx;exact ⟨_,_,g _ _ hx⟩
  .cases k
 | @rfa o n i k _ ho one hn g=>
  simp only [zut] at k;split at k
  .simp_all
  .cases k
 | _=>simp [zut] at k
theorem yve {t:TypeId} {f o:Nat} {ft:TypeId} {p d:DV} {vp:Value} (hf:zl1 P t f=some (o,ft)) (hp:DR C p vp) (h:zsm C.D o p=some d):∃ v,ztj P t vp f=some v/\DR C d v:=by
 obtain ⟨fs,fd,h1,h2,h3,h4,n,h5⟩:=yre hf;have key:∀ b off,vp=.pointer (some ⟨b,off,none⟩)->ztj P t vp f=some (.pointer (some ⟨b,off+o,none⟩)):=(by intro b off e;subst e;unfold ztj;rw [h1];simp only [tzn,znk,h2,h5,zpx,h3]);unfold zsm at h;cases hp with
 | @ref u i k _ ho one g=>
  simp only at h;split at h
  .rename_i hi;simp only [tza] at h;subst h;obtain ⟨b,off,e⟩:=zrr (.ref ho one g) hi;refine ⟨_,key b off e,.ref ho rfl (λsz els hx=>?_)⟩;have:=g _ _ hx;rw [e] at this;simp only [Value.pointer.injEq,tza,Addr.mk.injEq] at this;rw [this.1,this.2.1,txq]
  .cases h
 | @rfa u m i k _ ho one hn g=>
  simp only at h;split at h
  .rename_i hi;simp only [tza] at h;subst h;obtain ⟨b,off,e⟩:=zrr (.rfa ho one hn g) hi;refine ⟨_,key b off e,.rfa ho rfl hn ⟨g.1,λe' sz els hx=>⟨(g.2 _ _ _ hx).1,λhl=>?_⟩⟩⟩;have:=(g.2 _ _ _ hx).2 hl;rw [e] at this;simp only [Value.pointer.injEq,tza,Addr.mk.injEq] at this;rw [this.1,this.2.1,txq]
  .cases h
 | @fp l b off c w hb hc hw hr=>
  simp only at h;split at h
  .simp only [tza] at h;subst h;refine ⟨_,key b off rfl,.fp (λj=>w (o+j)) hb hc (λj y hy=>?_) (λj y hy=>?_)⟩
   .grind
   rw [tyj] at hy;exact hr _ y hy
  .cases h
 | _=>simp at h
theorem zbj {t:TypeId} {n s:Nat} {e:TypeId} (h:zmy P t=some (n,s,e)):P.underlying t=some (.array n e)/\zyl P e=some s:=by
 unfold zmy at h;obtain ⟨d,h1,h2⟩:=tzh.1 h;cases d<;>simp only [xn4] at h2<;>first | (cases h2;done) | skip
 obtain ⟨s',h3,h4⟩:=tzf.1 h2;simp only [tzl] at h4;obtain ⟨rfl,rfl,rfl⟩:=h4;exact ⟨h1,h3⟩
theorem zgc {d:DV} {v:Value} {n:Nat} (h:DR C d v) (k:zi5 d=some n):∃ kk,v=.int kk (.ofNat n):=by
 unfold zi5 at k;split at k
 .rename_i kk m;simp only [tza] at k;subst k;exact ⟨kk,zf3 h⟩
 .cases k
theorem zeg {d:DV} {v:Value} {n:Nat} (h:DR C d v) (k:zqj d=some n):v=.int .i64 (.ofNat n):=by
 unfold zqj at k;split at k
 .rename_i m;simp only [tza] at k;subst k;exact zf3 h
 .cases k
theorem yvf {t:TypeId} {n:Nat} {p d:DV} {vp:Value} {kk:IntKind} (hp:DR C p vp) (h:zyt C.D (tSl P t) (zmy P t) n p=some d):∃ v,zxz P t vp (.int kk (.ofNat n))=some v/\DR C d v:=by
 have xxy:∀ T,tSl P t=some T->∀ b off len cap,n<len->vp=.slice (some ⟨b,off,none⟩) len cap->zxz P t vp (.int kk (.ofNat n))=some (.pointer (some ⟨b,off+n*T.sz,none⟩)):=(by intro T hT b off len cap hn e;obtain ⟨h1,h2,h3,_⟩:=zqn hT;subst e;unfold zxz;simp only [h1,tzn,zd1,h3,zs7,show Nat.blt n len=true by simpa using hn,zpx]);have keyA:∀ m s e,zmy P t=some (m,s,e)->∀ b off,n<m->vp=.pointer (some ⟨b,off,none⟩)->zxz P t vp (.int kk (.ofNat n))=some (.pointer (some ⟨b,off+n*s,none⟩)):=(by intro m s e hA b off hn q;obtain ⟨h1,h2⟩:=zbj hA;subst q;unfold zxz;simp only [h1,tzn,zd1,h2,zs7,show Nat.blt n m=true by simpa using hn,zpx]);cases hp with
 | f hf=>
  cases hf with
  | raw v=>simp [zyt] at h
  | nil=>
   simp only [zyt] at h;split at h<;>simp at h
  | @lst l b o n' cap sz c w hn hb hc hz hol hcap hs hw hr=>
   simp only [zyt] at h;split at h
   .rename_i T hT;split at h
    .rename_i x hx;split at h
     .rename_i hl;simp only [tza] at h;subst h;have hsz:sz=T.sz:=by rw [<-hs n x hx];exact hl
      subst hsz;refine ⟨_,xxy T hT b o n' cap (by rw [hn];exact zyr hx) rfl,.fp (λj=>w n j) hb hc (λj y hy=>?_) (λj y hy=>hr n x j y hx hy)⟩;obtain ⟨g1,g2,_⟩:=hw n x j y hx hy;exact ⟨g1,g2⟩
     .cases h
    .cases h
   .cases h
 | @row o off len cap _ ho one g=>
  simp only [zyt] at h;split at h
  .rename_i T hT;split at h
   .rename_i sz els hx;split at h
    .rename_i hc;simp only [tza] at h;subst h;obtain ⟨e,_,_,_⟩:=g _ _ hx;refine ⟨_,xxy T hT _ _ len cap hc.2 e,.ref ho rfl (λsz' els' hx'=>?_)⟩;rw [hx] at hx';simp only [tza,DObj.arr.injEq] at hx';rw [<-hx'.1,<-hc.1,Nat.add_zero,txb]
    .cases h
   .cases h
  .cases h
 | @apl o len _ ho one g=>
  simp only [zyt] at h;split at h
  .rename_i T hT;split at h
   .rename_i e sz els hx;split at h
    .rename_i hc;simp only [tza] at h;subst h;obtain ⟨g1,g2⟩:=g.2 _ _ _ hx;have e1:=g2 hc.2.1;obtain ⟨m,rfl⟩:∃ m,len=m+1:=⟨len-1,by omega⟩;refine ⟨_,xxy T hT _ _ (m+1) _ hc.2.2 e1,.rfa ho rfl (by omega) ⟨g.1,λe' sz' els' hx'=>⟨?_,λhl=>?_⟩⟩⟩
     .simp_all
     simp_all
    .cases h
   .cases h
  .cases h
 | @prt o m off len _ ho one hm g=>
  simp only [zyt] at h;split at h
  .rename_i T hT;split at h
   .rename_i e sz els hx;split at h
    .rename_i hc;simp only [tza] at h;subst h;obtain ⟨g1,g2⟩:=g.2 _ _ _ hx;obtain ⟨e0,c,e1⟩:=g2 hc.2.1;refine ⟨_,xxy T hT _ _ len c hc.2.2 e1,.rfa ho rfl hm ⟨g.1,λe' sz' els' hx'=>⟨?_,λhl=>?_⟩⟩⟩
     .simp_all
     .grind
    .cases h
   .cases h
  .cases h
 | @ref o i k _ ho one g=>
  simp only [zyt] at h;split at h
  .rename_i m s e hA;split at h
   .rename_i sz els hx;split at h
    .rename_i hn;simp only [tza] at h;subst h;refine ⟨_,keyA m s e hA _ _ hn (g _ _ hx),.ref ho rfl (λsz' els' hx'=>?_)⟩;rw [hx] at hx';simp only [tza,DObj.arr.injEq] at hx';rw [<-hx'.1,txq]
    .cases h
   .cases h
  .cases h
 | @rfa o u i k _ ho one hu g=>
  simp only [zyt] at h;split at h
  .rename_i m s e hA;split at h
   .rename_i e' sz els hx;split at h
    .rename_i hn;simp only [tza] at h;subst h;refine ⟨_,keyA m s e hA _ _ hn.1 ((g.2 _ _ _ hx).2 hn.2),.rfa ho rfl hu ⟨g.1,λe2 sz' els' hx'=>⟨(g.2 _ _ _ hx').1,λ_=>?_⟩⟩⟩;rw [hx] at hx';simp only [tza,DObj.app.injEq] at hx';rw [<-hx'.2.1,txq]
    .cases h
   .cases h
  .cases h
 | @fp l b off c w hb hc hw hr=>
  simp only [zyt] at h;split at h
  .rename_i m s e hA;split at h
   .rename_i hn;simp only [tza] at h;subst h;refine ⟨_,keyA m s e hA b off hn.1 rfl,.fp (λj=>w (n*s+j)) hb hc (λj y hy=>?_) (λj y hy=>?_)⟩
    .grind
    rw [tyj] at hy;exact hr _ y hy
   .cases h
  .cases h
 | _=>simp [zyt] at h
structure Lies (C:Ctx) (els:List DV) (n:Nat) (v:Value):Prop where
 len:els.length=n
 ex:(∃ c,v=.slice none n c/\els=[]/\c=0)∨∃ b o cap sz cs,v=.slice (some ⟨b,o,none⟩) n cap/\C.H.row b=some cs/\o+n*sz<=cs.length/\0<sz /\
  ∀ (i:Nat) (d:DV),els[i]? =some d->(zzd d).length=sz/\∀ (j:Nat) (x:DV),(zzd d)[j]? =some x->∃ w,cs[o+i*sz+j]? =some w/\DR C x w/\oneCell w=true
theorem yvg (x:FV):zzd (elD x)=(zxl x).map .f:=by
 cases x<;>rfl
theorem zgd (hr:HR C) {p:DV} {vp:Value} {els:List DV} (hp:DR C p vp) (h:zwd C.D p=some els):Lies C els els.length vp:=by
 refine ⟨rfl,?_⟩;cases hp with
 | f hf=>
  cases hf with
  | raw v=>
   unfold zwd at h;split at h<;>first | (cases h;done) | skip
   .rename_i heq;simp at heq
   .simp_all
   all_goals (rename_i heq;simp at heq)
  | nil=>
   simp only [zwd,List.map_nil,tza] at h;subst h;exact .inl ⟨0,rfl,rfl,rfl⟩
  | @lst l b o n cap sz c w hn hb hc hz hol hcap hs hw hr'=>
   simp only [zwd,tza] at h;subst h;refine .inr ⟨b,o,cap,sz,c,by rw [hn];simp,hc,by simpa using hol,hz,λi d hd=>?_⟩;simp only [tzr] at hd;obtain ⟨x,hx,rfl⟩:=tzf.1 hd;rw [yvg];refine ⟨by simp [hs i x hx],λj y hy=>?_⟩;simp only [tzr] at hy;obtain ⟨z,hz',rfl⟩:=tzf.1 hy;obtain ⟨g1,g2,g3⟩:=hw i x j z hx hz';exact ⟨_,g1,.f (hr' i x j z hx hz'),g2⟩
 | @row o off len cap _ ho one g=>
  simp only [zwd] at h;split at h
  .rename_i sz els' hx;split at h
   .rename_i hz;simp only [tza] at h;subst h;obtain ⟨e,g1,g2,g3⟩:=g _ _ hx;obtain ⟨cs,h1,h2⟩:=zbi hr hx;have hlen:((els'.drop off).take len).length=len:=by simp;omega
    rw [hlen];refine .inr ⟨C.σ o,off*sz,cap,sz,cs,e,h1,?_,hz.1,λi d hd=>?_⟩
    .rw [h2.len,<-txb];exact txn _ hz.2
    rw [tyb] at hd;split at hd
    .rw [tyj] at hd;refine ⟨(zyx (h2.ok _ d hd)).1,λj x hx=>?_⟩;obtain ⟨w,q1,q2⟩:=h2.el _ d j x hd hx;refine ⟨w,by rw [<-txb];exact q1,q2,zl9 q2 ((zyx (h2.ok _ d hd)).2 x (tzg hx))⟩
    .cases hd
   .cases h
  .cases h
 | @apl o len _ ho one g=>
  simp only [zwd] at h;split at h
  .rename_i e sz els' hx;split at h
   .rename_i hl;simp only [tza] at h;subst h;have e1:=(g.2 _ _ _ hx).2 hl.1;rw [<-hl.1] at e1;cases hne:els' with
    | nil=>subst hne;exact .inl ⟨0,e1,rfl,rfl⟩
    | cons d0 els0=>
     rw [<-hne];obtain ⟨cs,h1,h2⟩:=zgb hr hx (by rw [hne];simp);refine .inr ⟨C.σ o,0,U+2*C.σ o,sz,cs,?_,h1,by rw [h2.len,txj];exact tzp _,hl.2,λi d hd=>⟨(zyx (h2.ok _ d hd)).1,λj x hx=>?_⟩⟩
     .rw [e1,hne];rfl
     obtain ⟨w,q1,q2⟩:=h2.el _ d j x hd hx;exact ⟨w,by rw [txj];exact q1,q2,zl9 q2 ((zyx (h2.ok _ d hd)).2 x (tzg hx))⟩
   .cases h
  .cases h
 | @prt o n off len _ ho one hn g=>
  simp only [zwd] at h;split at h
  .rename_i e sz els' hx;split at h
   .rename_i hl;simp only [tza] at h;subst h;obtain ⟨e0,c,e1⟩:=(g.2 _ _ _ hx).2 hl.1;obtain ⟨cs,h1,h2⟩:=zgb hr hx (λq=>by rw [q] at hl;simp at hl;omega);have hlen:((els'.drop off).take len).length=len:=by simp;omega
    rw [hlen];refine .inr ⟨C.σ o,off*sz,c,sz,cs,e1,h1,?_,hl.2,λi d hd=>?_⟩
    .rw [h2.len,<-txb];exact txn _ (by omega)
    rw [tyb] at hd;split at hd
    .rw [tyj] at hd;refine ⟨(zyx (h2.ok _ d hd)).1,λj x hx=>?_⟩;obtain ⟨w,q1,q2⟩:=h2.el _ d j x hd hx;exact ⟨w,by rw [<-txb];exact q1,q2,zl9 q2 ((zyx (h2.ok _ d hd)).2 x (tzg hx))⟩
    .cases hd
   .cases h
  .cases h
 | @em b off c hb hc ho=>
  simp only [zwd,tza] at h;subst h;exact .inr ⟨b,off,0,1,c,rfl,by assumption,by simpa using ho,by omega,λi d hd=>by simp at hd⟩
 | @lv o ver n b ho hn g=>
  simp only [zwd] at h;split at h
  .rename_i e sz ctr L hD;split at h
   .rename_i els' hL;split at h
    .rename_i hl;simp only [tza] at h;subst h;obtain ⟨i,h1,h2,h3⟩:=zka hL;obtain ⟨k,cs,q1,q2,q3,q4,q5,q6⟩:=yrc hr hD h1 ((g _ _ _ _ hD).2 i _ h1 hl.1);obtain ⟨m,hm⟩:∃ m,n=m+1:=⟨n-1,by omega⟩;refine .inr ⟨b,0,U+2*b,sz,cs,?_,q4,by rw [q5.len,txj];exact tzp _,hl.2,λj d hd=>⟨(zyx (q5.ok _ d hd)).1,λj' x hx=>?_⟩⟩
     .rw [hl.1,hm];rfl
     obtain ⟨w,k1,k2⟩:=q5.el _ d j' x hd hx;exact ⟨w,by rw [txj];exact k1,k2,zl9 k2 ((zyx (q5.ok _ d hd)).2 x (tzg hx))⟩
    .cases h
   .cases h
  .cases h
 | _=>simp [zwd] at h
end Go.Dv
namespace Go.Dv
open Go Go.Sim
variable {W:Nat->Prop} {C C' C'':Ctx} {P:Program} {tm:Trie DV} {tmH:Trie Value}
theorem Lies.cells {els:List DV} {n:Nat} {v:Value} (h:Lies C els n v) {sz:Nat} (hs:∀ d∈els,zrn sz d=true):∃ cs,zqq C.H sz n v=some cs/\Cl C sz els cs/\xxa v=some n/\∀ m,m<=n->∃ cs',zqq C.H sz m v=some cs'/\Cl C sz (els.take m) cs':=by
 rcases h.ex with ⟨c,rfl,rfl,rfl⟩ | ⟨b,o,cap,sz',cs,rfl,h1,h2,h3,h4⟩
 .have hn:n=0:=by rw [<-h.len];rfl
  subst hn;have key:Cl C sz [] []:=⟨by simp,λi d h=>by simp at h,λi d j x h=>by simp at h,λv h=>by cases h⟩;refine ⟨[],rfl,key,rfl,λm hm=>?_⟩;have:m=0:=by omega
  subst this;exact ⟨[],rfl,key⟩
 have key:∀ m,m<=n->∃ cs',zqq C.H sz m (.slice (some ⟨b,o,none⟩) n cap)=some cs'/\Cl C sz (els.take m) cs':=by
  intro m hm;by_cases hm0:m=0
  .subst hm0;refine ⟨[],?_,⟨by simp,λi d h=>by simp at h,λi d j x h=>by simp at h,λv h=>by cases h⟩⟩;show C.H.readAt ⟨b,o,none⟩ (0*sz)=some [];simp only [Hp.readAt,Hp.read,h1,Nat.zero_mul];rw [zpz (by have:=tz6 (n*sz');omega)];simp
  obtain ⟨d0,hd0⟩:=zw1 (l:=els) (i:=0) (by have:=h.len;omega);have hsz:sz'=sz:=by rw [<-(h4 0 d0 hd0).1];exact (zyx (hs d0 (tzg hd0))).1
  subst hsz;have hle:o+m*sz'<=cs.length:=by have:=txn sz' hm;omega
  refine ⟨(cs.drop o).take (m*sz'),?_,⟨?_,λi d hd=>?_,λi d j x hd hx=>?_,λv hv=>?_⟩⟩
  .show C.H.readAt ⟨b,o,none⟩ (m*sz')=_;simp only [Hp.readAt,Hp.read,h1];rw [zpz hle]
  .have:=h.len;simp;rw [Nat.min_eq_left (by omega),Nat.min_eq_left (by omega)]
  .grind
  .rw [tyb] at hd;split at hd
   .rename_i him;obtain ⟨g1,g2⟩:=h4 i d hd;obtain ⟨w,q1,q2,_⟩:=g2 j x hx;have hj:=zyr hx;have hij:i*sz'+j<m*sz':=(by have:=txn sz' (show i+1<=m from him);rw [txb] at this;omega);refine ⟨w,?_,q2⟩;rw [tyb,if_pos hij,tyj,<-txq];exact q1
   .cases hd
  obtain ⟨p,hp⟩:=List.getElem?_of_mem hv;rw [tyb] at hp;split at hp
  .rename_i hpm;rw [tyj] at hp;have hdiv:p / sz'<m:=(Nat.div_lt_iff_lt_mul h3).2 hpm;obtain ⟨d,hd⟩:=zw1 (l:=els) (i:=p / sz') (by have:=h.len;omega);obtain ⟨g1,g2⟩:=h4 _ d hd;obtain ⟨x,hx⟩:=zw1 (l:=zzd d) (i:=p % sz') (by rw [g1];exact Nat.mod_lt _ h3);obtain ⟨w,q1,_,q3⟩:=g2 _ x hx;rw [txq,Nat.mul_comm,Nat.div_add_mod,hp] at q1;simp only [tza] at q1;rw [q1];exact q3
  .cases hp
 obtain ⟨cs',q1,q2⟩:=key n (tzp _);rw [tzk (by rw [h.len];exact tzp _)] at q2;exact ⟨cs',q1,q2,rfl,key⟩
theorem yco {d d':DV} {v:Value} (h:DR C d v) (k:zba C.D d=some d'):∃ v',yx4 v=some v'/\DR C d' v':=by
 cases d with
 | ref o i kk=>
  simp only [zba] at k;split at k
  .rename_i hi;simp only [tza] at k;subst k;obtain ⟨b,off,rfl⟩:=zrr h hi;exact ⟨_,rfl,h⟩
  .cases k
 | rfa o n i kk=>
  simp only [zba] at k;split at k
  .rename_i hi;simp only [tza] at k;subst k;obtain ⟨b,off,rfl⟩:=zrr h hi;exact ⟨_,rfl,h⟩
  .cases k
 | fp l=>
  simp only [zba,tza] at k;subst k;cases h with
  | fp w hb hc hw hr=>exact ⟨_,rfl,.fp w hb hc hw hr⟩
 | fn g a b=>
  simp only [zba,tza] at k;subst k;cases h with
  | fn ha hb h1 h2=>exact ⟨_,rfl,.fn ha hb h1 h2⟩
 | yl l=>
  simp only [zba] at k;split at k
  .rename_i hx;simp only [tza] at k;subst k;cases h with
   | yl ho one g=>
    have:=g _ _ _ _ _ _ _ hx;subst this;exact ⟨_,rfl,.yl ho rfl g⟩
  .cases k
 | _=>simp [zba] at k
theorem zbk {d d':DV} {v:Value} {i:Nat} (h:DR C d v) (k:zrp i d=some d'):∃ v',yx6 i v=some v'/\DR C d' v':=by
 cases h with
 | @tup ds vs hl hr=>
  simp only [zrp] at k;obtain ⟨v,hv⟩:=zw1 (l:=vs) (i:=i) (by rw [hl];exact zyr k);exact ⟨v,hv,hr i d' v k hv⟩
 | _=>simp [zrp] at k
theorem yyh {t:TypeId} {a:Option Nat} {ds:List DV} {vs:List Value} {k:Nat} {d:DV} (ht:tLd P t=some a) (hl:vs.length=ds.length) (hr:∀ (i:Nat) (d:DV) (v:Value),ds[i]? =some d->vs[i]? =some v->DR C d v) (h:zsi ds k a=some d) :
  ∃ v,ytt P t vs k=some v/\DR C d v:=by
 unfold tLd at ht;unfold ytt;split at ht
 .rename_i hag;obtain ⟨n,hs,rfl⟩:=tzf.1 ht;simp only [zsi] at h;split at h
  .rename_i hk;simp only [tza] at h;subst h;rw [hag];simp only [hs];rw [zpz (by omega)];refine ⟨_,rfl,.agg (by simp;omega) (λi d v h1 h2=>?_)⟩;rw [tyb] at h1 h2;split at h1
   .grind
   cases h1
  .cases h
 .rename_i hag;simp only [tza] at ht;subst ht;simp only [zsi] at h;obtain ⟨v,hv⟩:=zw1 (l:=vs) (i:=k) (by rw [hl];exact zyr h);rw [hag];exact ⟨v,hv,hr k d v h hv⟩
 .cases ht
theorem yrf {t:TypeId} {f:Nat} {x:DV} {d:DV} {v:Value} (hx:DR C x v) (h:zn4 P t f (some x)=some d):∃ v',yx2 P t v f=some v'/\DR C d v':=by
 cases hx with
 | @agg ds vs hl hr=>
  simp only [zn4] at h;split at h
  .rename_i o ft hf;obtain ⟨a,ha,hp⟩:=tzh.1 h;obtain ⟨fs,fd,h1,h2,h3,h4,n,h5⟩:=yre hf;subst h3 h4;obtain ⟨v,g1,g2⟩:=yyh ha hl hr hp;refine ⟨v,?_,g2⟩;unfold yx2;rw [h1];simp only [tzn,ymq,h2];exact g1
  .cases h
 | _=>simp [zn4] at h
theorem yrg {t:TypeId} {x i:DV} {d:DV} {v w:Value} (hx:DR C x v) (hi:DR C i w) (h:zvb P t (some x) (some i)=some d):∃ v',zmd P t v w=some v'/\DR C d v':=by
 cases hx with
 | f hf=>
  cases hf with
  | raw u=>
   simp only [zvb] at h;split at h
   .rename_i n hn;simp only [tza] at hn;subst hn;rw [zf3 hi];split at h
    .obtain ⟨u',h1,h2⟩:=tzf.1 h;subst h2;exact ⟨u',h1,zpy u'⟩
    .cases h
   .cases h
  | _=>simp [zvb] at h
 | @agg ds vs hl hr=>
  simp only [zvb,tzn] at h;split at h
  .rename_i n hn;obtain ⟨kk,rfl⟩:=zgc hi hn;split at h
   .rename_i m s e hA;split at h
    .rename_i hnm;obtain ⟨h1,h2⟩:=zbj hA;obtain ⟨a,ha,h⟩:=tzh.1 h;obtain ⟨v,g1,g2⟩:=yyh ha hl hr h;refine ⟨v,?_,g2⟩;unfold zmd;simp only [h1,tzn,zjd,h2,show Nat.blt n m=true by simpa using hnm];exact g1
    .cases h
   .cases h
  .cases h
 | _=>simp [zvb] at h
theorem yks {op:BinOp} {t:TypeId} {x y:Operand} {a b d:DV} {va vb:Value} (ha:DR C a va) (hb:DR C b vb) (h:ys7 P op t x y (some a) (some b)=some d):∃ v,zty P op t x y va vb=some v/\DR C d v:=by
 unfold ys7 at h;simp only [tzn] at h;split at h
 .rename_i u hu;split at h
  .rename_i w hw;obtain ⟨v,h1,h2⟩:=tzf.1 h;rw [zl8 ha hu,zl8 hb hw];subst h2;exact ⟨v,h1,zpy v⟩
  .cases h
 .cases h
theorem zi8 {op:BinOp} {t:TypeId} {x y:Operand} {b d:DV} {a:Addr} {n c:Nat} {vb:Value} (hb:DR C b vb) (h:zsp (tSl P t) op (some b)=some d):∃ v,zty P op t x y (.slice (some a) n c) vb=some v/\DR C d v:=by
 unfold zsp at h;split at h
 .rename_i T hT heq;have hsl:∃ e,P.underlying t=some (.slice e):=⟨_,(zqn hT).1⟩;simp only [tza] at heq;subst heq;simp only [tza] at h;subst h;have hv:=zl8 hb (w:=.slice none 0 0) rfl;subst hv;obtain ⟨e,he⟩:=hsl;refine ⟨.bool false,?_,.f (.raw _)⟩;simp only [zty,ztx];rw [show (zyj (.slice (some a) n c)&&zyj (.slice none 0 0))=false from rfl];simp only [he,tzn];rfl
 .cases h
theorem ycp {op:BinOp} {t:TypeId} {x y:Operand} {a b d:DV} {va vb:Value} (ha:DR C a va) (hb:DR C b vb) (h:ykn P op t x y (some a) (some b)=some d):∃ v,zty P op t x y va vb=some v/\DR C d v:=by
 unfold ykn at h;split at h
 .rename_i heq;simp only [tza] at heq;subst heq;cases ha with
  | em hb' hc ho=>exact zi8 hb h
 .rename_i o ver n heq;simp only [tza] at heq;subst heq;cases ha with
  | lv ho hn g=>
   obtain ⟨m,rfl⟩:∃ m,n=m+1:=⟨n-1,by omega⟩;exact zi8 hb h
 .exact yks ha hb h
theorem xvb {op:UnOp} {a d:DV} {va:Value} (ha:DR C a va) (h:dUn P op (some a)=some d):∃ v,unA P op va=some v/\DR C d v:=by
 unfold dUn at h;simp only [tzn] at h;split at h
 .rename_i u hu;obtain ⟨v,h1,h2⟩:=tzf.1 h;rw [zl8 ha hu];subst h2;exact ⟨v,h1,zpy v⟩
 .cases h
theorem zi9 {k:IntKind} {a:Int}:∀ {es es':List MapEntry} {s:Nat},es.map (·.key)=es'.map (·.key)->zni k a es s=zni k a es' s
 | [],[],_,_=>rfl
 | [],_::_,_,h=>by simp at h
 | _::_,[],_,h=>by simp at h
 | e::es,e'::es',s,h=>by
  simp only [txe,tyi] at h;simp only [zni,h.1,zi9 (s:=s+1) h.2]
theorem zha {a:ByteArray}:∀ {es es':List MapEntry} {s:Nat},es.map (·.key)=es'.map (·.key)->znj a es s=znj a es' s
 | [],[],_,_=>rfl
 | [],_::_,_,h=>by simp at h
 | _::_,[],_,h=>by simp at h
 | e::es,e'::es',s,h=>by
  simp only [txe,tyi] at h;simp only [znj,h.1,zha (s:=s+1) h.2]
theorem zhb {kt:TypeId} {k:Value}:∀ {es es':List MapEntry} {s:Nat},es.map (·.key)=es'.map (·.key)->zti P kt k es s=zti P kt k es' s
 | [],[],_,_=>rfl
 | [],_::_,_,h=>by simp at h
 | _::_,[],_,h=>by simp at h
 | e::es,e'::es',s,h=>by
  simp only [txe,tyi] at h;simp only [zti,h.1,zhb (s:=s+1) h.2]
theorem zhc {kt:TypeId} {k:Value} {es es':List MapEntry} (h:es.map (·.key)=es'.map (·.key)):zx0 P kt k es=zx0 P kt k es':=by
 unfold zx0;cases P.underlying kt with
 | none=>rfl
 | some d=>
  simp only [tzn];unfold xxb
  cases d<;>(try rfl)<;>first
   | (cases k<;>first | rfl | exact zi9 h | exact zha h)
   | rw [zhb h]
theorem yvh {ks:List Value} {es:List MapEntry} (hl:es.length=ks.length) (h:∀ (i:Nat) (e:MapEntry) (k:Value),es[i]? =some e->ks[i]? =some k->e.key=k):es.map (·.key)=(zwl ks).map (·.key):=by
 refine ty8 (λi=>?_);simp only [zwl,tzr,Option.map_map];rcases tz9 i es.length with g | g
 .grind
 simp_all
theorem yrh {t kt:TypeId} {z:Option Value} (h:zf2 P t=some (kt,z)):∃ et,P.underlying t=some (.map kt et)/\z=zxa P et:=by
 unfold zf2 at h;split at h
 .simp_all
 .cases h
theorem zeh {ok b:Bool} {d:DV} {v:Value} (h:DR C d v):DR C (zsn ok b d) (yx1 ok b v):=by
 cases ok with
 | false=>exact h
 | true=>
  refine .tup (vs:=[v,.bool b]) rfl (λi d' v' h1 h2=>?_)
  match i with
  | 0=>simp at h1 h2;subst h1 h2;exact h
  | 1=>simp at h1 h2;subst h1 h2;exact zv0 _
  | i+2=>simp at h1
theorem zbl (hr:HR C) {o:Nat} {ks:List Value} {vs:List DV} {v:Value} (h:C.D[o]? =some (.map ks vs)) (hv:DR C (.mp o) v):∃ es ck,v=.map (some (C.σ o))/\C.H.get (C.σ o)=some (.map es ck)/\es.length=ks.length/\vs.length=ks.length /\
  es.map (·.key)=(zwl ks).map (·.key)/\(∀ (i:Nat) (e:MapEntry) (k:Value),es[i]? =some e->ks[i]? =some k->e.key=k)/\∀ (i:Nat) (e:MapEntry) (d:DV),es[i]? =some e->vs[i]? =some d->DR C d e.val:=by
 obtain ⟨es,ck,g1,g2,g3,g4,g5⟩:=hr.ob o _ h;cases hv with
 | mp ho one g=>exact ⟨es,ck,g _ _ h,g1,g2,g3,yvh g2 g4,g4,g5⟩
theorem yvi (hr:HR C) {t:TypeId} {x k d:DV} {vx vk:Value} {ok:Bool} (hx:DR C x vx) (hk:DR C k vk) (h:zso P C.D (zf2 P t) x (toV k) ok=some d):∃ v,zug P t vx vk ok C.H=some v/\DR C d v:=by
 unfold zso at h;split at h
 .rename_i kt z hM;split at h
  .rename_i o;split at h
   .rename_i ks vs hD;split at h
    .rename_i kv hkv;obtain ⟨es,ck,e1,e2,e3,e4,e5,e6,e7⟩:=zbl hr hD hx;obtain ⟨et,u1,u2⟩:=yrh hM;have ek:=zl8 hk hkv;subst e1 ek;have hl:zug P t (.map (some (C.σ o))) vk ok C.H=zfj P ok kt et vk es:=(by unfold zug;rw [u1];simp only [zma,e2,tzn]);rw [hl];unfold zfj;rw [zhc e5];split at h
     .rename_i i hf;simp only [hf];obtain ⟨d',h1,rfl⟩:=tzf.1 h;obtain ⟨e,he⟩:=zw1 (l:=es) (i:=i) (by have:=zyr h1;omega);refine ⟨_,by rw [he];rfl,zeh (e7 i e d' he h1)⟩
     .rename_i hf;simp only [hf];obtain ⟨zv,h1,rfl⟩:=tzf.1 h;rw [u2] at h1;exact ⟨_,by rw [h1];rfl,zeh (zpy zv)⟩
     .cases h
    .cases h
   .cases h
  .cases h
 .cases h
theorem ycq (hr:HR C) {t:TypeId} {x d:DV} {v:Value} (hx:DR C x v) (h:zc4 C.D x (zf8 P t)=some d):∃ v',(P.underlying t).bind (yms C.H v)=some v'/\DR C d v':=by
 unfold zf8 at h;cases hu:P.underlying t with
 | none=>rw [hu] at h;simp [zc4] at h
 | some dsc=>
  rw [hu] at h;simp only [tz2] at h;simp only [tzn]
  have sl:∀ n,zqf C.D x=some n->∃ a c,v=.slice a n c:=by
   intro n hn;cases hx with
   | f hf=>
    cases hf with
    | raw u=>
     unfold zqf at hn;split at hn<;>first | (cases hn;done) | skip
     .rename_i heq;simp at heq
     .simp_all
     all_goals (rename_i heq;simp at heq)
    | nil=>simp only [zqf,tze,tza] at hn;subst hn;exact ⟨none,0,rfl⟩
    | lst w hn'=>simp only [zqf,tza] at hn;subst hn;subst hn';exact ⟨_,_,rfl⟩
   | row ho one g=>
    simp only [zqf] at hn;split at hn
    .simp_all
    cases hn
   | @apl o len _ ho one g=>
    simp only [zqf] at hn;split at hn
    .rename_i e sz els hD;split at hn
     .rename_i hl;simp only [tza] at hn;subst hn;have:=(g.2 _ _ _ hD).2 hl;cases len with
      | zero=>exact ⟨_,_,this⟩
      | succ n=>exact ⟨_,_,this⟩
     .cases hn
    .cases hn
   | @prt o m off len _ ho one hm g=>
    simp only [zqf] at hn;split at hn
    .grind
    cases hn
   | em=>simp only [zqf,tza] at hn;subst hn;exact ⟨_,_,rfl⟩
   | @lv o ver m b ho hm g=>
    simp only [zqf,tza] at hn;subst hn;obtain ⟨m',rfl⟩:∃ m',m=m'+1:=⟨m-1,by omega⟩;exact ⟨_,_,rfl⟩
   | _=>simp [zqf] at hn
  cases dsc with
  | string=>
   simp only [zo3,zc4] at h;split at h
   .simp only [tza] at h;subst h;rw [zf3 hx];exact ⟨_,rfl,zv0 _⟩
   .cases h
  | slice e=>
   simp only [zo3,zc4] at h;obtain ⟨n,hn,rfl⟩:=tzf.1 h;obtain ⟨a,c,rfl⟩:=sl n hn;exact ⟨_,rfl,zv0 _⟩
  | map kt et=>
   simp only [zo3,zc4] at h;split at h
   .rename_i o;split at h
    .rename_i ks vs hD;simp only [tza] at h;subst h;obtain ⟨es,ck,e1,e2,e3,_⟩:=zbl hr hD hx;subst e1;refine ⟨zlt ks.length,?_,zv0 _⟩;simp only [yms,zma,e2,tz2,e3]
    .cases h
   .cases h
  | _=>simp [zo3,zc4] at h
end Go.Dv
namespace Go.Dv
open Go Go.Sim
variable {W:Nat->Prop} {C C' C'':Ctx} {P:Program} {tm:Trie DV} {tmH:Trie Value}
theorem yyi:∀ {els:List DV} {cs:List Value} {l:List UInt8},zuc els=some l->cs.length=els.length->(∀ (i:Nat) (d:DV) (v:Value),els[i]? =some d->cs[i]? =some v->DR C d v)->zmb cs=some l
 | [],[],l,h,_,_=>h
 | [],_::_,l,h,hl,_=>by simp at hl
 | _::_,[],l,h,hl,_=>by simp at hl
 | d::els,v::cs,l,h,hl,hr=>by
  unfold zuc at h;split at h
  .rename_i heq;simp at heq
  .rename_i n els' heq;simp only [tyi] at heq;obtain ⟨rfl,rfl⟩:=heq;obtain ⟨l',h1,rfl⟩:=tzf.1 h;have:=zf3 (hr 0 _ v rfl rfl);subst this;simp only [zmb,yyi h1 (by simpa using hl) (λi d v a b=>hr (i+1) d v a b)]
  .cases h
theorem yri {els:List DV}:∀ {l:List UInt8},zuc els=some l->∀ d∈els,zrn 1 d=true:=by
 induction els with
 | nil=>intro l h d hd;cases hd
 | cons e els ih=>
  intro l h d hd;unfold zuc at h;split at h
  .rename_i heq;simp at heq
  .rename_i n els' heq;simp only [tyi] at heq;obtain ⟨rfl,rfl⟩:=heq;obtain ⟨l',h1,rfl⟩:=tzf.1 h;rcases tzu.1 hd with rfl | hd
   .rfl
   exact ih h1 d hd
  .cases h
theorem Cl.flat {els:List DV} {cs:List Value} (h:Cl C 1 els cs) (h1:∀ d∈els,∀ l,d≠.agg l):cs.length=els.length/\∀ (i:Nat) (d:DV) (v:Value),els[i]? =some d->cs[i]? =some v->DR C d v:=by
 refine ⟨by rw [h.len,Nat.mul_one],λi d v hd hv=>?_⟩
 have hc:zzd d=[d]:=by
  cases d with
  | agg l=>exact absurd rfl (h1 _ (tzg hd) l)
  | _=>rfl
 obtain ⟨w,g1,g2⟩:=h.el i d 0 d hd (by rw [hc];rfl);rw [Nat.mul_one,Nat.add_zero,hv] at g1;simp only [tza] at g1;rw [g1];exact g2
theorem yvj {els:List DV}:∀ {l:List UInt8},zuc els=some l->∀ d∈els,∀ l',d≠.agg l':=by
 induction els with
 | nil=>intro l h d hd;cases hd
 | cons e els ih=>
  intro l h d hd;unfold zuc at h;split at h
  .rename_i heq;simp at heq
  .rename_i n els' heq;simp only [tyi] at heq;obtain ⟨rfl,rfl⟩:=heq;obtain ⟨l',h1,rfl⟩:=tzf.1 h;rcases tzu.1 hd with rfl | hd
   .intro l' h;cases h
   .exact ih h1 d hd
  .cases h
theorem zqy {s d:TypeId} {v:Value} (h:zl5 v=true) (H H':Hp):zx8 P H s d v=zx8 P H' s d v:=by
 unfold zx8;cases P.underlying s with
 | none=>rfl
 | some ds=>
  cases P.underlying d with
  | none=>rfl
  | some dd=>
   simp only
   have:zje P H v ds dd=zje P H' v ds dd:=by
    unfold zje;cases ds<;>cases dd<;>(try rfl)
    cases v<;>(try rfl)
    rename_i a n c;cases a with
    | none=>cases n<;>cases c<;>rfl
    | some a=>simp [zl5] at h
   rw [this]
theorem ykt (hr:HR C) {s d:TypeId} {x r:DV} {v:Value} (hx:DR C x v) (h:zc9 P C.D s d x=some r):∃ v',zx8 P C.H s d v=some v'/\DR C r v':=by
 unfold zc9 at h;split at h;rotate_left
 .split at h
  .rename_i u;split at h
   .rename_i hn;obtain ⟨v',h1,rfl⟩:=tzf.1 h;rw [zf3 hx];exact ⟨v',by rw [zqy hn C.H xw6];exact h1,zv0 _⟩
   .cases h
  .cases h
 rename_i hS;split at h
 case isFalse=>cases h
 obtain ⟨l,h1,rfl⟩:=tzf.1 h;obtain ⟨els,h2,h3⟩:=tzh.1 h1;have hl:=zgd hr hx h2;unfold yw9 at hS;split at hS
 .rename_i e hs;split at hS
  .rename_i hd;split at hS
   .rename_i he;refine ⟨zxf l,?_,zv0 _⟩;unfold zx8;rw [hs,hd];simp only
    have:zje P C.H v (.slice e) .string=some (zxf l):=by
     obtain ⟨cs,g1,g2,g3,_⟩:=hl.cells (sz:=1) (yri h3);obtain ⟨g4,g5⟩:=g2.flat (yvj h3);have hb:=yyi h3 g4 g5;rcases hl.ex with ⟨c,rfl,rfl,rfl⟩ | ⟨b,o,cap,sz',cs',rfl,_⟩
     .simp only [zuc,tza] at h3;subst h3;simp only [tze,zje,he]
     simp only [zje,he];have g1:C.H.readAt ⟨b,o,none⟩ (els.length*1)=some cs:=g1;rw [Nat.mul_one] at g1;rw [g1];simp only [hb,tz2]
    rw [this];rfl
   .cases hS
  .cases hS
 .cases hS
theorem zge {x:List FV} {b o n sz:Nat} {c:List Value} {S:Nat->Prop} {H:Hp} (w:Nat->Nat->Value) (hn:n=x.length) (hb:S b) (hc:H.row b=some c) (hz:0<sz) (ho:o+x.length*sz<=c.length)
  (hs:∀ (i:Nat) (y:FV),x[i]? =some y->(zxl y).length=sz)
  (hw:∀ (i:Nat) (y:FV) (j:Nat) (z:FV),x[i]? =some y->(zxl y)[j]? =some z->c[o+i*sz+j]? =some (w i j)/\oneCell (w i j)=true/\zrm z=true)
  (hr:∀ (i:Nat) (y:FV) (j:Nat) (z:FV),x[i]? =some y->(zxl y)[j]? =some z->FR S H z (w i j)) {l h cap' o':Nat} (hl:l<=h) (hh:h<=n) (hcap:cap'<U->h-l<=cap') (ho':o'=o+l*sz∨(h=l/\o'=o)):FR S H (.lst ((x.take h).drop l)) (.slice (some ⟨b,o',none⟩) (h-l) cap'):=by
 have hlen:((x.take h).drop l).length=h-l:=by simp;omega
 have hget:∀ i y,((x.take h).drop l)[i]? =some y->x[l+i]? =some y/\l+i<h:=λi y hy=>by
  grind
 rcases ho' with rfl | ⟨rfl,rfl⟩
 .refine .lst (λi j=>w (l+i) j) (by rw [hlen]) hb hc hz ?_ hcap (λi y hy=>hs _ y (hget i y hy).1) (λi y j z hy hz'=>?_) (λi y j z hy hz'=>hr _ y j z (hget i y hy).1 hz')
  .rw [hlen,txq,<-txb];have:=txn sz (show l+(h-l)<=x.length by omega);omega
  .grind
 .refine .lst (λi j=>w (h+i) j) (by rw [hlen]) hb hc hz ?_ hcap (λi y hy=>hs _ y (hget i y hy).1) (λi y j z hy hz'=>?_) (λi y j z hy hz'=>hr _ y j z (hget i y hy).1 hz')
  .rw [hlen,Nat.sub_self,Nat.zero_mul];omega
  .have:=(hget i y hy).2;omega
theorem zei {e s len c l h:Nat} {a:Option Addr} {lo hi:Option Value} {H:Hp} (hs:zyl P e=some s) (hl:zx3 0 lo=some l) (hh:zx3 len hi=some h):zqp P e a len c lo hi none H=zn9 s a len c l h H:=by
 unfold zqp;simp only [hs,hl,hh]
theorem zts {s b o len c l h:Nat} {H:Hp} (hl:l<=h) (hh:h<=len∨(c<U/\h<=c)) (hlen:c<U∨h<=len) :
  zn9 s (some ⟨b,o,none⟩) len c l h H=some (.slice (some ⟨b,(if l=0 then o else if c<U/\c=l then o else o+l*s),none⟩) (h-l) (if l=0 then c else if c<U then c-l else U+1),H):=by
 unfold zn9;have hc:(Nat.ble l h&&(Nat.ble h len||(Nat.blt c U&&Nat.ble h c)))=true:=(by simp_all);rw [hc];cases l with
 | zero=>simp
 | succ l=>
  simp only [Nat.succ_ne_zero,if_false];unfold yxz;by_cases hcU:c<U
  .rw [show Nat.blt c U=true by simpa using hcU];simp only [hcU,true_and,if_true];by_cases hcl:c=l+1
   .subst hcl;simp
   have:Nat.beq c (l+1)=false:=by
    cases hq:Nat.beq c (l+1) with
    | true=>exact absurd (tzo hq) hcl
    | false=>rfl
   rw [this,if_neg hcl,zpx]
  have hb:Nat.blt c U=false:=by cases hq:Nat.blt c U with | false=>rfl | true=>rw [txl] at hq;omega
  rw [hb];simp only [hcU,false_and,if_false,zpx];have hcl:zs4 c (l+1)=U+1:=by unfold zs4;rw [hb]
  by_cases hll:l+1<len
  .rw [show Nat.blt (l+1) len=true by simpa using hll,hcl]
  have hb2:Nat.blt (l+1) len=false:=by cases hq:Nat.blt (l+1) len with | false=>rfl | true=>rw [txl] at hq;omega
  have:h=l+1:=by omega
  subst this;rw [hb2,hcl];simp
theorem yrj {t:TypeId} {l h:Nat} {ho:Option Nat} {x d:DV} {v:Value} {lo hi:Option Value} (hx:DR C x v) (hT:zwu C.D (tSl P t) l ho x=some d) (hlo:zx3 0 lo=some l) (hhi:∀ n,zx3 n hi=some (ho.getD n)) :
  ∃ v',(P.underlying t).bind (zoo P C.H v lo hi none)=some (.val v' C.H)/\DR C d v':=by
 cases hS:tSl P t with
 | none=>rw [hS] at hT;unfold zwu at hT;split at hT<;>simp at hT
 | some T=>
  rw [hS] at hT;obtain ⟨h1,h2,h3,_⟩:=zqn hS;rw [h1];simp only [tzn];have key:∀ a n c,v=.slice a n c->zoo P C.H v lo hi none (.slice T.e)=zu3 (zn9 T.sz a n c l (ho.getD n) C.H):=(by intro a n c e;subst e;simp only [zoo];rw [zei h3 hlo (hhi n)]);cases hx with
  | f hf=>
   cases hf with
   | raw u=>
    unfold zwu at hT;split at hT<;>first | (cases hT;done) | skip
    .rename_i heq;simp at heq
    .rename_i heq;simp only [DV.f.injEq,FV.raw.injEq] at heq;subst heq;simp only at hT;split at hT
     .rename_i hc;simp only [tza] at hT;subst hT;rw [key none 0 0 rfl,hc.1,hc.2];exact ⟨_,rfl,zv0 _⟩
     .cases hT
    all_goals (rename_i heq;simp at heq)
   | nil=>
    simp only [zwu] at hT;split at hT
    .rename_i hc;simp only [tza] at hT;subst hT;rw [key none 0 0 rfl];have hg:ho.getD 0=0:=by have:=hc.2.1;simpa using this
     have hl:l=0:=by have:=hc.1;simp at this;omega
     rw [hg,hl];exact ⟨_,rfl,.f (by simpa using FR.nil)⟩
    .cases hT
   | @lst y b o n cap sz c w hn hb hc hz hol hcap hs hw hr=>
    simp only [zwu] at hT;split at hT
    .rename_i hcd;simp only [tza] at hT;subst hT;obtain ⟨c1,c2,c3⟩:=hcd;rw [<-hn] at c1 c2 ⊢;rw [key (some ⟨b,o,none⟩) n cap rfl,zts c1 (.inl c2) (.inr c2)];refine ⟨_,rfl,.f ?_⟩;by_cases hl0:l=0
     .subst hl0;exact zge w hn hb hc hz hol hs hw hr (tz6 _) c2 (by simp;intro g;have:=hcap g;omega) (.inl (by simp))
     simp only [hl0,if_false];by_cases hy:y=[]
     .subst hy;simp at hn;omega
     obtain ⟨y0,hy0⟩:=zw1 (l:=y) (i:=0) (by cases y<;>simp at hy ⊢);have hsz:sz=T.sz:=(by rw [<-hs 0 y0 hy0];have:=tzx.1 c3 y0 (tzg hy0);exact tzo this);subst hsz;refine zge w hn hb hc hz hol hs hw hr c1 c2 ?_ ?_
     .grind
     grind
    .cases hT
  | @row o off len cap _ hol one g=>
   simp only [zwu] at hT;split at hT
   .rename_i sz els hD;split at hT
    .rename_i hcd;simp only [tza] at hT;subst hT;obtain ⟨c1,c2,c3⟩:=hcd;obtain ⟨e,g1,g2,g3⟩:=g _ _ hD;rw [key _ _ _ e,zts c2 (.inr ⟨g3,c3⟩) (.inl g3)];refine ⟨_,rfl,?_⟩;have fin:∀ off' len' cap' a,(∀ sz',sz'=sz->a=off'*sz')->off'+cap'<=els.length->len'<=cap'->cap'<U->DR C (.row o off' len' cap') (.slice (some ⟨C.σ o,a,none⟩) len' cap'):=(by intro off' len' cap' a h1 h2 h3 h4;refine .row hol rfl (λsz' els' hx'=>?_);rw [hD] at hx';simp only [tza,DObj.arr.injEq] at hx';exact ⟨by rw [h1 sz' hx'.1.symm],by rw [<-hx'.2];exact h2,h3,h4⟩);by_cases hl0:l=0
     .simp_all
     .grind
    .cases hT
   .cases hT
  | @apl o len _ hol one g=>
   simp only [zwu] at hT;split at hT
   .rename_i e sz els hD;split at hT
    .rename_i hcd;simp only [tza] at hT;subst hT;obtain ⟨c1,c2,c3,c4,c5⟩:=hcd;have e1:=(g.2 _ _ _ hD).2 c2;obtain ⟨m,rfl⟩:∃ m,len=m+1:=⟨len-1,by omega⟩;rw [key _ _ _ (show v=.slice (some ⟨C.σ o,0,none⟩) (m+1) (U+2*C.σ o) from e1),zts c4 (.inl c5) (.inr c5)];refine ⟨_,rfl,?_⟩;have fin:∀ a c,a=l*sz->DR C (.prt o (m+1) l (ho.getD (m+1)-l)) (.slice (some ⟨C.σ o,a,none⟩) (ho.getD (m+1)-l) c):=(by intro a c h1;refine .prt hol rfl (by omega) ⟨g.1,λe' sz' els' hx'=>?_⟩;rw [hD] at hx';simp only [tza,DObj.app.injEq] at hx';rw [<-hx'.2.2];refine ⟨by omega,λ_=>⟨by omega,c,?_⟩⟩;rw [h1,hx'.2.1]);by_cases hl0:l=0
     .simp_all
     .grind
    .cases hT
   .cases hT
  | _=>simp [zwu] at hT
theorem zo5 {x:FV} (h:zrm x=true):zxl x=[x]:=by
 cases x with
 | agg l=>simp [zrm] at h
 | raw v=>rfl
 | lst l=>rfl
theorem zhd {t:TypeId} {l h:Nat} {ho:Option Nat} {x d:DV} {v:Value} {lo hi:Option Value} (hx:DR C x v) (hT:zvx P C.D t l ho x=some d) (hlo:zx3 0 lo=some l) (hhi:∀ n,zx3 n hi=some (ho.getD n)) :
  ∃ v',(P.underlying t).bind (zoo P C.H v lo hi none)=some (.val v' C.H)/\DR C d v':=by
 by_cases hfp:∃ cs,x=.fp cs;rotate_left
 .have e:zvx P C.D t l ho x=zwu C.D (tSl P t) l ho x:=by
   cases x with
   | fp cs=>exact absurd ⟨cs,rfl⟩ hfp
   | _=>rfl
  rw [e] at hT;exact yrj (h:=h) hx hT hlo hhi
 obtain ⟨cs,rfl⟩:=hfp;cases hx with
 | @fp _ b off c w hb hc hw hr=>
 simp only [zvx] at hT;unfold zh9 at hT;split at hT;rotate_left
 .cases hT
 rename_i m e hA;split at hT;rotate_left
 .cases hT
 rename_i hcd;obtain ⟨c1,c2,c3,c5,c4⟩:=hcd;simp only [tza] at hT;subst hT;obtain ⟨a1,a2⟩:=zbj hA;rw [a1];simp only [tzn];have hU:m<U:=(by show m<18446744073709551616;omega)
 have key:zoo P C.H (.pointer (some ⟨b,off,none⟩)) lo hi none (.array m e)=zu3 (zn9 1 (some ⟨b,off,none⟩) m m l (ho.getD m) C.H):=by
  show (match Nat.blt m U with
   | true=>zu3 (zqp P e (some ⟨b,off,none⟩) m m lo hi none C.H)
   | false=>none)=_
  rw [show Nat.blt m U=true by rw [txl];exact hU];simp only;rw [zei a2 hlo (hhi m)]
 rw [key,zts (by omega) (.inl c2) (.inr c2)];refine ⟨_,rfl,.f ?_⟩;have hone:∀ (i:Nat) (y:FV),cs[i]? =some y->zrm y=true:=λi y hy=>tzx.1 c4 y (tzg hy);have hcl:off+cs.length<=c.length:=(by obtain ⟨y,hy⟩:=zw1 (l:=cs) (i:=cs.length-1) (by omega);have:=zyr (hw _ y hy).1;omega);refine zge (n:=cs.length) (sz:=1) (o:=off) (λi _=>w i) rfl hb hc (by omega) (by omega) (λi y hy=>by rw [zo5 (hone i y hy)];rfl) (λi y j z hy hz=>?_) (λi y j z hy hz=>?_) (by omega) (by omega) (λ_=>?_) ?_
 .rw [zo5 (hone i y hy)] at hz;cases j with
  | zero=>
   grind
  | succ j=>simp at hz
 .rw [zo5 (hone i y hy)] at hz;cases j with
  | zero=>
   simp_all
  | succ j=>simp at hz
 .grind
 .grind
theorem yrk (ht:TR C tm tmH) {x:Option Operand} {r:Option Value} (h:xw5 tm x=some r):zqh P tmH x=some r:=by
 cases x with
 | none=>simpa [xw5,zqh] using h
 | some x=>
  simp only [xw5] at h;obtain ⟨v,h1,rfl⟩:=tzf.1 h;obtain ⟨d,h2,h3⟩:=tzh.1 h1;obtain ⟨w,g1,g2⟩:=zzu (P:=P) ht h2;simp only [zqh,g1,tz2,zl8 g2 h3]
theorem yvk (ht:TR C tm tmH) {t:TypeId} {x:Operand} {lo hi mx:Option Operand} {d:DV} (h:zvy P tm C.D t (zzl tm x) lo hi mx=some d):∃ v,zse P tmH C.H t x lo hi mx=some (.val v C.H)/\DR C d v:=by
 cases hx:zzl tm x with
 | none=>rw [hx] at h;simp [zvy] at h
 | some dx=>
  obtain ⟨vx,e1,e2⟩:=zzu (P:=P) ht hx;rw [hx] at h;unfold zse;rw [e1];simp only;unfold zvy at h;split at h;rotate_left 2
  .cases h
  .rename_i s heq;simp only [tza] at heq;subst heq;split at h
   .rename_i l hl;split at h
    .rename_i r hr;split at h
     .split at h
      .rename_i hu;obtain ⟨v,h1,rfl⟩:=tzf.1 h;rw [yrk ht hl,yrk ht hr];simp only [zqh];rw [hu];simp only [tzn,zoo,zf3 e2,h1];exact ⟨v,rfl,zv0 v⟩
      .cases h
     .cases h
    .cases h
   .cases h
  rename_i d0 _ heq;simp only [tza] at heq;subst heq;split at h;rotate_left
  .cases h
  split at h
  .rename_i l hl
   have hlo:∃ lv,zqh P tmH lo=some lv/\zx3 0 lv=some l:=by
    cases lo with
    | none=>simp only [bdD,tza] at hl;subst hl;exact ⟨none,rfl,rfl⟩
    | some x=>
     simp only [bdD] at hl;obtain ⟨d1,h2,h3⟩:=tzh.1 hl;obtain ⟨w,g1,g2⟩:=zzu (P:=P) ht h2;obtain ⟨kk,rfl⟩:=zgc g2 h3;exact ⟨some (.int kk (.ofNat l)),by simp only [zqh,g1,tz2],rfl⟩
   obtain ⟨lv,l1,l2⟩:=hlo;rw [l1];simp only;split at h
   .simp only [zqh];exact zhd (h:=0) e2 h l2 (λn=>rfl)
   rename_i hx';split at h
   .rename_i m hm;obtain ⟨d1,h2,h3⟩:=tzh.1 hm;obtain ⟨w,g1,g2⟩:=zzu (P:=P) ht h2;obtain ⟨kk,rfl⟩:=zgc g2 h3;simp only [zqh,g1,tz2];exact zhd (h:=0) e2 h l2 (λn=>rfl)
   .cases h
  .cases h
theorem zss:∀ {c:List Value} {o:Nat} {vs:List Value},o+vs.length<=c.length->zyy c o vs=some (c.take o++vs++c.drop (o+vs.length))
 | c,0,[],_=>by simp [zyy]
 | [],0,_::_,h=>by simp at h
 | x::c,0,v::vs,h=>by
  have:=zss (c:=c) (o:=0) (vs:=vs) (by simp at h ⊢;omega);simp only [zyy,this];simp
 | [],o+1,vs,h=>by simp at h
 | x::c,o+1,vs,h=>by
  have:=zss (c:=c) (o:=o) (vs:=vs) (by simp at h;omega);rw [show o+1+vs.length=(o+vs.length)+1 by omega,List.drop_succ_cons];cases vs<;>simp [zyy,this]
theorem zrs {n:Nat} {d:DV} {v:Value} (h:zrn n d=true) (k:DR C d v):DRs C (zzd d) (cellsOf v)/\(∀ w∈cellsOf v,oneCell w=true)/\(cellsOf v).length=n:=by
 obtain ⟨h1,h2⟩:=zyx h
 have one:∀ d:DV,zwz d=true->DR C d v->cellsOf v=[v]:=λd hd hv=>by
  have:=zl9 hv hd;cases v<;>first | rfl | (simp [oneCell] at this)
 cases d with
 | agg ds=>
  cases k with
  | @agg _ vs hl hr=>
   refine ⟨⟨hl,hr⟩,λw hw=>?_,by rw [<-h1];exact hl⟩;obtain ⟨i,hi⟩:=List.getElem?_of_mem hw;obtain ⟨d,hd⟩:=zw1 (l:=ds) (i:=i) (by rw [<-hl];exact zyr hi);exact zl9 (hr i d w hd hi) (h2 d (tzg hd))
 | _=>
  simp only [zzd,tzw,forall_eq] at h2;have e:=one _ h2 k;rw [e];refine ⟨⟨rfl,λi d' v' g1 g2=>?_⟩,λw hw=>?_,h1⟩
  .cases i with
   | zero=>simp [zzd] at g1 g2;subst g1 g2;exact k
   | succ i=>simp [zzd] at g1
  .simp only [tzw] at hw;subst hw;exact zl9 k h2
def PR (C:Ctx) (a:List (Nat×DV)) (b:List (Nat×Value)):Prop:=b.length=a.length/\∀ (i:Nat) (x:Nat×DV) (y:Nat×Value),a[i]? =some x->b[i]? =some y->y.1=x.1/\DR C x.2 y.2
theorem zkb (ht:TR C tm tmH):∀ {l:List (Nat×Operand)} {ps:List (Nat×DV)},zub tm l=some ps->∃ vs,zx7 P tmH l=some vs/\PR C ps vs
 | [],ps,h=>by
  simp only [zub,tza] at h;subst h;exact ⟨[],rfl,rfl,λi x y h=>by simp at h⟩
 | (i,x)::l,ps,h=>by
  simp only [zub] at h;split at h
  .rename_i d hd;obtain ⟨ps',h1,rfl⟩:=tzf.1 h;obtain ⟨v,g1,g2⟩:=zzu (P:=P) ht hd;obtain ⟨vs,g3,g4,g5⟩:=zkb ht h1;refine ⟨(i,v)::vs,by simp only [zx7,g1,g3],by simp [g4],λk a b h1 h2=>?_⟩;cases k with
   | zero=>simp at h1 h2;subst h1 h2;exact ⟨rfl,g2⟩
   | succ k=>exact g5 k a b (by simpa using h1) (by simpa using h2)
  .cases h
theorem DRs.putAt {a d:List DV} {as ds:List Value} {o:Nat} (h:DRs C a as) (k:DRs C d ds) (ho:o+d.length<=a.length):DRs C (putAt a o d) (as.take o++ds++as.drop (o+ds.length)):=by
 unfold Dv.putAt
 have h1:DRs C (a.take o) (as.take o):=⟨by simp [h.1],λi d v h1 h2=>by
  rw [tyb] at h1 h2
  split at h1
  .rename_i g;rw [if_pos g] at h2;exact h.2 i d v h1 h2
  .cases h1⟩
 have h2:DRs C (a.drop (o+d.length)) (as.drop (o+ds.length)):=⟨by simp [h.1,k.1],λi d v h1 h2=>by
  rw [tyj] at h1 h2
  rw [k.1] at h2
  exact h.2 _ d v h1 h2⟩
 exact (h1.append k).append h2
theorem yyj {pl:Nat->Option (Nat×Nat)}:∀ {ps:List (Nat×DV)} {vs:List (Nat×Value)} {cs cs':List DV} {ws:List Value},zl4 pl cs ps=some cs'->PR C ps vs->DRs C cs ws->∃ ws',zjb pl ws vs=some ws'/\DRs C cs' ws'
 | [],vs,cs,cs',ws,h,hp,hc=>by
  have:vs=[]:=tzy hp.1;subst this;simp only [zl4,tza] at h;subst h;exact ⟨ws,rfl,hc⟩
 | (i,d)::ps,[],cs,cs',ws,h,hp,hc=>by have:=hp.1;simp at this
 | (i,d)::ps,(j,v)::vs,cs,cs',ws,h,hp,hc=>by
  obtain ⟨e1,e2⟩:=hp.2 0 _ _ rfl rfl;simp only at e1 e2;subst e1;simp only [zl4] at h;split at h
  .rename_i o n hpl;split at h
   .rename_i hk;obtain ⟨g1,g2,g3⟩:=zrs hk.1 e2;have hln:=(zyx hk.1).1;have hput:=hc.putAt (o:=o) g1 (by rw [hln];exact hk.2);obtain ⟨ws',q1,q2⟩:=yyj h ⟨by have:=hp.1;simp at this;exact this,λk a b h1 h2=>hp.2 (k+1) a b h1 h2⟩ hput;refine ⟨ws',?_,q2⟩;simp only [zjb,hpl,g3];rw [show Nat.beq n n=true by simp];simp only;rw [zss (by rw [g3,hc.1];exact hk.2)];exact q1
   .cases h
  .cases h
theorem yrl (ht:TR C tm tmH) {t:TypeId} {ps:Array (Nat×Operand)} {d:DV} (h:zf7 (tBd P t) (zub tm ps.toList)=some d):∃ v,zsd P tmH C.H t ps=some (.val v C.H)/\DR C d v:=by
 unfold zf7 at h;split at h;rotate_left
 .cases h
 rename_i z pl hB;split at h;rotate_left
 .cases h
 rename_i l hl;obtain ⟨cs,h1,rfl⟩:=tzf.1 h;obtain ⟨vs,g1,g2⟩:=zkb (P:=P) ht hl;unfold tBd at hB;split at hB
 .rename_i zv hz;split at hB
  .rename_i pl' hpl;simp only [tza,tzl] at hB;obtain ⟨rfl,rfl⟩:=hB
   have hzr:DRs C ((cellsOf zv).map rv) (cellsOf zv):=⟨by simp,λi d v h1 h2=>by
    simp only [tzr] at h1
    rw [h2] at h1
    simp only [tz2,tza] at h1
    subst h1
    exact zv0 v⟩
   obtain ⟨ws,q1,q2⟩:=yyj h1 g2 hzr;refine ⟨.agg ⟨ws⟩,?_,.agg q2.1 q2.2⟩;unfold zsd;rw [g1];simp only;unfold yxy;rw [hz];simp only;obtain ⟨dsc,u1,u2⟩:=tzh.1 hpl;rw [u1];simp only [tzn];cases dsc<;>simp only [ye7] at u2<;>first | (cases u2;done) | skip
   .obtain ⟨p',p1,rfl⟩:=tzf.1 u2;simp only [yxx,p1];rw [q1];rfl
   obtain ⟨p',p1,rfl⟩:=tzf.1 u2;simp only [yxx,p1];rw [q1];rfl
  .cases hB
 .cases hB
theorem zp0 {f:Value->Value->Sem Value} {ds:List DV} {vs:List Value} {d:DV} (hd:DRs C ds vs) (h:zqv P f ds=some d):∃ v x l,vs=x::l/\zs8 P f x l=some v/\DR C d v:=by
 unfold zqv at h;split at h
 .rename_i x l hl;obtain ⟨v,h1,rfl⟩:=tzf.1 h;exact ⟨v,x,l,zbh hl hd.1 hd.2,h1,zv0 v⟩
 .cases h
end Go.Dv
namespace Go.Dv
open Go Go.Sim
variable {W:Nat->Prop} {C C' C'':Ctx} {P:Program} {tm:Trie DV} {tmH:Trie Value}
theorem Cl.single {n:Nat} {d:DV} {v:Value} (h:zrn n d=true) (k:DR C d v):Cl C n [d] (cellsOf v):=by
 obtain ⟨g1,g2,g3⟩:=zrs h k;refine ⟨by simp [g3],λi x hx=>?_,λi x j y hx hy=>?_,g2⟩
 .grind
 cases i with
 | zero=>
  simp at hx;subst hx;obtain ⟨w,hw⟩:=zw1 (l:=cellsOf v) (i:=j) (by rw [g1.1];exact zyr hy);exact ⟨w,by rw [Nat.zero_mul,txj];exact hw,g1.2 j y w hy hw⟩
 | succ i=>simp at hx
theorem Cl.nil {sz:Nat}:Cl C sz [] []:=⟨by simp,λi d h=>by simp at h,λi d j x h=>by simp at h,λv h=>by cases h⟩
theorem Cl.append {sz:Nat} {a b:List DV} {as bs:List Value} (h:Cl C sz a as) (k:Cl C sz b bs):Cl C sz (a++b) (as++bs):=by
 refine ⟨by rw [tz5,tz5,h.len,k.len,txb],λi d hd=>?_,λi d j x hd hx=>?_,λv hv=>?_⟩
 .rcases tz9 i a.length with g | g
  .rw [tzs g] at hd;exact h.ok i d hd
  rw [tzv g] at hd;exact k.ok _ d hd
 .rcases tz9 i a.length with g | g
  .rw [tzs g] at hd;obtain ⟨w,h1,h2⟩:=h.el i d j x hd hx;exact ⟨w,by rw [tzs (zyr h1)];exact h1,h2⟩
  rw [tzv g] at hd;obtain ⟨w,h1,h2⟩:=k.el _ d j x hd hx;refine ⟨w,?_,h2⟩;have e:i*sz+j=as.length+((i-a.length)*sz+j):=(by rw [h.len,<-txq,<-txb];congr 2;omega);rw [e,tzv (by omega),Nat.add_sub_cancel_left];exact h1
 .rcases tyh.1 hv with hv | hv
  .exact h.one v hv
  exact k.one v hv
theorem Cl.take {sz:Nat} {a:List DV} {as:List Value} (h:Cl C sz a as) (n:Nat) (hn:n<=a.length):Cl C sz (a.take n) (as.take (n*sz)):=by
 have hlt:∀ {i j:Nat},i<n->j<sz->i*sz+j<n*sz:=λ{i j} hi hj=>by
  have:=txn sz (show i+1<=n from hi);rw [txb] at this;omega
 refine ⟨?_,λi d hd=>?_,λi d j x hd hx=>?_,λv hv=>h.one v (ty3 hv)⟩
 .rw [tyw,tyw,h.len,Nat.min_eq_left hn,Nat.min_eq_left (txn _ hn)]
 .rw [tyb] at hd;split at hd
  .exact h.ok i d hd
  .cases hd
 rw [tyb] at hd;split at hd
 .rename_i hi;obtain ⟨w,h1,h2⟩:=h.el i d j x hd hx;have hj:j<sz:=by rw [<-(zyx (h.ok i d hd)).1];exact zyr hx
  exact ⟨w,by rw [tyb,if_pos (hlt hi hj)];exact h1,h2⟩
 .cases hd
theorem Cl.drop {sz:Nat} {a:List DV} {as:List Value} (h:Cl C sz a as) (n:Nat):Cl C sz (a.drop n) (as.drop (n*sz)):=by
 refine ⟨?_,λi d hd=>?_,λi d j x hd hx=>?_,λv hv=>h.one v (List.mem_of_mem_drop hv)⟩
 .rw [tyx,tyx,h.len,<-Nat.sub_mul]
 .rw [tyj] at hd;exact h.ok _ d hd
 rw [tyj] at hd;obtain ⟨w,h1,h2⟩:=h.el _ d j x hd hx;refine ⟨w,?_,h2⟩;rw [tyj,<-txq,<-txb];exact h1
theorem Cl.putAt {sz o:Nat} {a b:List DV} {as bs:List Value} (h:Cl C sz a as) (k:Cl C sz b bs) (ho:o+b.length<=a.length):zyy as (o*sz) bs=some (as.take (o*sz)++bs++as.drop ((o+b.length)*sz))/\Cl C sz (Dv.putAt a o b) (as.take (o*sz)++bs++as.drop ((o+b.length)*sz)):=by
 refine ⟨?_,((h.take o (by omega)).append k).append (h.drop _)⟩;have e:o*sz+bs.length=(o+b.length)*sz:=by rw [k.len,txb]
 rw [zss (by rw [e,h.len];exact txn _ ho),e]
theorem Cl.set {sz i k:Nat} {els:List DV} {cs:List Value} {x d d':DV} {vs:List Value} (h:Cl C sz els cs) (hx:els[i]? =some x) (hd:DRs C (zzd d) vs) (h1:(zzd d).all zwz=true) (hk:k+(zzd d).length<=sz)
  (hd':d'=if (zzd d).length=sz then d else .agg (Dv.putAt (zzd x) k (zzd d))) (hv:∀ v∈vs,oneCell v=true) :
  zyy cs (i*sz+k) vs=some (cs.take (i*sz+k)++vs++cs.drop (i*sz+k+vs.length))/\Cl C sz (els.set i d') (cs.take (i*sz+k)++vs++cs.drop (i*sz+k+vs.length)):=by
 have hil:=zyr hx;have hfit:i*sz+k+vs.length<=cs.length:=(by rw [hd.1,h.len];have:=txn sz (show i+1<=els.length from hil);rw [txb] at this;omega);obtain ⟨x1,x2⟩:=zyx (h.ok i x hx)
 have hcell:(zzd d').length=sz/\(∀ y∈zzd d',zwz y=true)/\∀ j y,(zzd d')[j]? =some y->(k<=j/\j<k+(zzd d).length/\(zzd d)[j-k]? =some y)∨(¬(k<=j/\j<k+(zzd d).length)/\(zzd x)[j]? =some y):=by
  subst hd';split
  .grind
  rename_i hsz;show (Dv.putAt (zzd x) k (zzd d)).length=sz/\(∀ y∈Dv.putAt (zzd x) k (zzd d),zwz y=true)/\∀ j y,(Dv.putAt (zzd x) k (zzd d))[j]? =some y->_;refine ⟨by simp only [Dv.putAt,tz5,tyw,tyx];omega,λy hy=>?_,λj y hy=>?_⟩
  .unfold Dv.putAt at hy;rcases tyh.1 hy with hy | hy
   .grind
   exact x2 y (List.mem_of_mem_drop hy)
  have hkl:((zzd x).take k).length=k:=by simp;omega
  unfold Dv.putAt at hy;rw [tyd] at hy;rcases tz9 j k with g | g
  .grind
  rw [tzv (by omega),hkl] at hy;rcases tz9 (j-k) (zzd d).length with g' | g'
  .grind
  grind
 have hget:∀ p,(cs.take (i*sz+k)++vs++cs.drop (i*sz+k+vs.length))[p]? =if i*sz+k<=p/\p<i*sz+k+vs.length then vs[p-(i*sz+k)]? else cs[p]?:=by
  intro p;have hl1:(cs.take (i*sz+k)).length=i*sz+k:=by simp;omega
  rw [tyd];rcases tz9 p (i*sz+k) with g | g
  .grind
  rw [tzv (by omega),hl1];rcases tz9 (p-(i*sz+k)) vs.length with g' | g'
  .grind
  grind
 refine ⟨zss hfit,⟨?_,λp q hq=>?_,λp q j y hq hy=>?_,λv hvv=>?_⟩⟩
 .have:=h.len;simp;omega
 .rw [tya] at hq;split at hq
  .simp only [tza] at hq;subst hq;rw [zrq];exact ⟨hcell.1,tzx.2 hcell.2.1⟩
  .exact h.ok p q hq
 .rw [hget];rw [tya] at hq;split at hq
  .rename_i hip;simp only [tza] at hq;subst hq hip;rcases hcell.2.2 j y hy with ⟨a1,a2,a3⟩ | ⟨a1,a2⟩
   .obtain ⟨w,hw⟩:=zw1 (l:=vs) (i:=j-k) (by rw [hd.1];exact zyr a3);refine ⟨w,?_,hd.2 _ y w a3 hw⟩;rw [if_pos ⟨by omega,by rw [hd.1];omega⟩,show i*sz+j-(i*sz+k)=j-k by omega];exact hw
   .obtain ⟨w,g1,g2⟩:=h.el i x j y hx a2;exact ⟨w,by rw [if_neg (by rw [hd.1];omega)];exact g1,g2⟩
  .rename_i hip;obtain ⟨w,g1,g2⟩:=h.el p q j y hq hy;have hj:j<sz:=by rw [<-(zyx (h.ok p q hq)).1];exact zyr hy
   refine ⟨w,?_,g2⟩;rw [if_neg]
   .exact g1
   rw [hd.1];intro ⟨b1,b2⟩;rcases Nat.lt_or_gt_of_ne hip with g | g
   .have:=txn sz (show i+1<=p from g);rw [txb] at this;omega
   have:=txn sz (show p+1<=i from g);rw [txb] at this;omega
 .rcases tyh.1 hvv with hvv | hvv
  .rcases tyh.1 hvv with hvv | hvv
   .exact h.one v (ty3 hvv)
   .exact hv v hvv
  .exact h.one v (List.mem_of_mem_drop hvv)
structure Made (base:Nat) (Wo:Nat->Prop) (C:Ctx) (d:DV) (D':DH) (r:Option ARes):Prop where
 ex:∃ C' v,r=some (.val v C'.H)/\C'.D=D'/\HR C'/\Nx (λo=>base<=o/\Wo o) C C'/\DR C' d v
theorem Made.same {base:Nat} {Wo:Nat->Prop} (hr:HR C) {d:DV} {v:Value} (h:DR C d v):Made base Wo C d C.D (some (.val v C.H)):=⟨C,v,rfl,rfl,hr,Nx.refl hr,h⟩
theorem yrm (hr:HR C) {e sz:Nat} {els:List DV} {cs:List Value} (hc:Cl C sz els cs) (base:Nat) (Wo:Nat->Prop):∃ C',C'.H=C.H.new (.cells cs e none)/\C'.D=C.D++[.arr sz els]/\HR C'/\Nx (λo=>base<=o/\Wo o) C C'/\C'.σ C.D.length=C.H.n:=by
 obtain ⟨C',a1,a2,a3,a4,a5,a6⟩:=hr.new (B:=.cells cs e none) (x:=.arr sz els) (λc e k h=>by simp at h) (λe sz els h=>by simp at h) (λC' nx hg=>⟨cs,e,hg,hc.mono nx hr⟩);exact ⟨C',a1,a2,a4,a5.weak (λ_ h=>h.elim),a6⟩
theorem ycr {C':Ctx} {x:DObj} {D:DH} {n:Nat} (h:C'.D=D++[x]) (hs:C'.σ D.length=n):DR C' (.ref D.length 0 0) (.pointer (some ⟨n,0,none⟩)):=
 .ref (by rw [h];simp) rfl (λsz els _=>by rw [hs,Nat.zero_mul])
theorem yrn (hr:HR C) {e base:Nat} {Wo:Nat->Prop} {d d':DV} {v:Value} {D':DH} (hd:DR C d v) (h:ye6 C.D (some d)=some (.val d' D')):Made base Wo C d' D' (some (yfq C.H e v)):=by
 simp only [ye6] at h;split at h
 .rename_i hok;simp only [tza,DRes.val.injEq] at h;obtain ⟨rfl,rfl⟩:=h;obtain ⟨C',a1,a2,a3,a4,a5⟩:=yrm hr (e:=e) (Cl.single hok hd) base Wo;exact ⟨C',_,by rw [a1];rfl,a2,a3,a4,ycr a2 a5⟩
 .cases h
theorem yro (hr:HR C) {e base:Nat} {Wo:Nat->Prop} {d':DV} {D':DH} (h:zl2 P C.D e=some (.val d' D')):Made base Wo C d' D' (zhp P C.H e):=by
 unfold zl2 at h;unfold zhp;split at h
 .rename_i z hz;rw [hz];exact yrn hr (zpy z) h
 .cases h
theorem yrp {sz:Nat} {z:DV} {zv:Value} (hok:zrn sz z=true) (hz:DR C z zv):∀ n,Cl C sz (List.replicate n z) (rep (cellsOf zv) n)
 | 0=>Cl.nil
 | n+1=>by
  have:=(Cl.single hok hz).append (yrp hok hz n);simpa [List.replicate_succ,rep] using this
theorem yyk {e n:Nat} {T:SlT} {t:TypeId} (hT:tSl P t=some T) (hz:0<T.sz):∃ cs,zho P T.e n=some cs/\Cl C T.sz (List.replicate n T.z) cs:=by
 obtain ⟨h1,h2,h3,h4,⟨z,h5,h6⟩,h7,h8⟩:=zqn hT;have hzz:DR C T.z z:=by rw [h6];exact zpy z
 unfold zho;rw [h3];simp only;cases n with
 | zero=>exact ⟨[],by simp,Cl.nil⟩
 | succ n=>
  have:Nat.beq ((n+1)*T.sz) 0=false:=by
   cases hq:Nat.beq ((n+1)*T.sz) 0 with
   | false=>rfl
   | true=>
    have e1:=tzo hq;have e2:=Nat.mul_pos (Nat.succ_pos n) hz;exact absurd e1 (Nat.ne_of_gt e2)
  rw [this,h5];simp only;rw [(zrs h7 hzz).2.2];rw [show Nat.beq T.sz T.sz=true by simp];exact ⟨_,rfl,yrp h7 hzz _⟩
theorem yrq {C':Ctx} {sz n m k:Nat} {els:List DV} {D:DH} (h:C'.D=D++[.arr sz els]) (hs:C'.σ D.length=k) (hn:n<=m) (hm:m=els.length) (hU:m<U):DR C' (.row D.length 0 n m) (.slice (some ⟨k,0,none⟩) n m):=
 .row (by rw [h];simp) rfl (λsz' els' hx=>by
  simp_all)
theorem yku (hr:HR C) (ht:TR C tm tmH) {t:TypeId} {l c:Operand} {base:Nat} {Wo:Nat->Prop} {d':DV} {D':DH} (h:zea C.D (tSl P t) (zzl tm l) (zzl tm c)=some (.val d' D')):Made base Wo C d' D' (zxc P tmH C.H t l c):=by
 unfold zea at h;split at h
 .rename_i T hT;split at h
  .rename_i n hn;split at h
   .rename_i m hm;obtain ⟨dn,n1,n2⟩:=tzh.1 hn;obtain ⟨dm,m1,m2⟩:=tzh.1 hm;obtain ⟨vn,n3,n4⟩:=zzu (P:=P) ht n1;obtain ⟨vm,m3,m4⟩:=zzu (P:=P) ht m1;rw [zeg n4 n2] at n3;rw [zeg m4 m2] at m3;obtain ⟨h1,h2,h3,h4,_⟩:=zqn hT;unfold zro at h;split at h
    .rename_i hc;simp only [tza,DRes.val.injEq] at h;obtain ⟨rfl,rfl⟩:=h;obtain ⟨cs,z1,z2⟩:=yyk (C:=C) (e:=0) (n:=m) hT hc.2.2.2;obtain ⟨C',a1,a2,a3,a4,a5⟩:=yrm hr (e:=T.e) z2 base Wo;refine ⟨C',.slice (some ⟨C.H.n,0,none⟩) n m,?_,a2,a3,a4,yrq a2 a5 hc.1 (by simp) (by have:=hc.2.2.1;unfold U;omega)⟩;unfold zxc;simp only [h2,n3,m3,tzn,xs4,h4];have:(Nat.ble n m&&Nat.ble (m*T.by_) 140737488355328&&Nat.blt m 9223372036854775808)=true:=(by simp_all);rw [this];simp only [z1,tz2,xs3,a1]
    .cases h
   .cases h
  .cases h
 .cases h
theorem zej {sz:Nat} (hz:0<sz):∀ {ps:List (Nat×DV)} {vs:List (Nat×Value)} {els els':List DV} {cs:List Value},zpt sz els ps=some els'->PR C ps vs->Cl C sz els cs->∃ cs',zjb (λi=>some (i*sz,sz)) cs vs=some cs'/\Cl C sz els' cs'/\els'.length=els.length
 | [],vs,els,els',cs,h,hp,hc=>by
  have:vs=[]:=tzy hp.1;subst this;simp only [zpt,tza] at h;subst h;exact ⟨cs,rfl,hc,rfl⟩
 | (i,d)::ps,[],els,els',cs,h,hp,hc=>by have:=hp.1;simp at this
 | (i,d)::ps,(j,v)::vs,els,els',cs,h,hp,hc=>by
  obtain ⟨e1,e2⟩:=hp.2 0 _ _ rfl rfl;simp only at e1 e2;subst e1;simp only [zpt] at h;split at h
  .rename_i hk;obtain ⟨x,hx⟩:=zw1 hk.1;obtain ⟨g1,g2,g3⟩:=zrs hk.2 e2;obtain ⟨l1,l2⟩:=zyx hk.2;obtain ⟨s1,s2⟩:=hc.set (k:=0) (d':=d) hx g1 (tzx.2 l2) (by omega) (by rw [if_pos l1]) g2;obtain ⟨cs',q1,q2,q3⟩:=zej hz h ⟨by have:=hp.1;simp at this;exact this,λk a b h1 h2=>hp.2 (k+1) a b h1 h2⟩ s2;refine ⟨cs',?_,q2,by rw [q3];simp⟩;simp only [zjb,g3];rw [show Nat.beq sz sz=true by simp];simp only;rw [Nat.add_zero] at s1 q1;rw [s1];exact q1
  .cases h
theorem zig (hr:HR C) (ht:TR C tm tmH) {t:TypeId} {T:SlT} {len base:Nat} {ps:Array (Nat×Operand)} {Wo:Nat->Prop} {d':DV} {D':DH} (hT:tSl P t=some T) (h:zx4 C.D T len (zub tm ps.toList)=some (.val d' D')) :
  Made base Wo C d' D' (zy0 P tmH C.H t len ps):=by
 unfold zx4 at h;split at h
 .rename_i l hl;split at h
  .rename_i hc;obtain ⟨els,e1,e2⟩:=tzf.1 h;simp only [DRes.val.injEq] at e2;obtain ⟨rfl,rfl⟩:=e2;obtain ⟨vs,g1,g2⟩:=zkb (P:=P) ht hl;obtain ⟨h1,h2,h3,_⟩:=zqn hT;obtain ⟨cs,z1,z2⟩:=yyk (C:=C) (e:=0) (n:=len) hT hc.2.2;obtain ⟨cs',q1,q2,q3⟩:=zej hc.2.2 e1 g2 z2;obtain ⟨C',a1,a2,a3,a4,a5⟩:=yrm hr (e:=T.e) q2 base Wo;refine ⟨C',.slice (some ⟨C.H.n,0,none⟩) len len,?_,a2,a3,a4,yrq a2 a5 (tzp _) (by rw [q3];simp) (by have:=hc.2.1;unfold U;omega)⟩;unfold zy0;simp only [h2,g1,h3];have:(Nat.ble (len*T.sz) 16777216&&Nat.ble len 16777216)=true:=(by simp_all);rw [this];simp only [z1,q1,tz2,xs3,a1]
  .cases h
 .cases h
theorem ycs (hr:HR C) {base:Nat} {Wo:Nat->Prop}:Made base Wo C (.mp C.D.length) (C.D++[.map [] []]) (some (yx5 C.H)):=by
 obtain ⟨C',a1,a2,a3,a4,a5,a6⟩:=hr.new (B:=.map [] 0) (x:=.map [] []) (λc e k h=>by simp at h) (λe sz els h=>by simp at h) (λC' nx hg=>⟨[],0,hg,rfl,rfl,λi e k h=>by simp at h,λi e k h=>by simp at h⟩);exact ⟨C',.map (some C.H.n),by rw [a1];rfl,a2,a4,a5.weak (λ_ h=>h.elim),.mp (by rw [a2];simp) rfl (λks vs hx=>by rw [a6])⟩
end Go.Dv
namespace Go.Dv
open Go Go.Sim
variable {W:Nat->Prop} {C C' C'':Ctx} {P:Program} {tm:Trie DV} {tmH:Trie Value}
theorem _root_.Go.Sim.Wf.putD {H:Hp} (w:Wf H) {i:Nat} {B:Blk} (hi:i<H.n) (hB:∀ c e k,B=.cells c e (some k)->k<H.n):Wf (H.put i B):=by
 refine ⟨λj B' h=>?_,λj c e k h=>?_⟩
 .rw [Hp.get_put] at h;simp only [Hp.n_put];split at h
  .omega
  exact w.dom j B' h
 rw [Hp.get_put] at h;simp only [Hp.n_put];split at h
 .simp_all
 exact w.cls j c e k h
theorem yrr {H:Hp} {b p:Nat} {cs vs cs':List Value} {e:TypeId} (hg:H.get b=some (.cells cs e none)) (h1:∀ v∈vs,oneCell v=true) (hs:zyy cs p vs=some cs'):H.write b p vs=some (H.put b (.cells cs' e none)):=by
 unfold Hp.write;rw [tzx.2 h1,hg];simp only [tzn,Hp.writeIn,hs]
theorem yrs {H:Hp} {b p k:Nat} {r:List Nat} {cs vs cs':List Value} {e:TypeId} (hg:H.get b=some (.cells cs e (some k))) (hk:H.stk k=b::r) (h1:∀ v∈vs,oneCell v=true) (hs:zyy cs p vs=some cs') :
  H.write b p vs=some (H.put1 b (.cells cs' e (some k)) k):=by
 unfold Hp.write;rw [tzx.2 h1,hg];simp only [tzn,Hp.writeIn,hk,zfh];rw [show Nat.beq b b=true by simp];simp only [hs]
theorem zbm (hr:HR C) {o sz p:Nat} {els els':List DV} {vs:List Value} (hD:C.D[o]? =some (.arr sz els)) (hl:els'.length=els.length) (h1:∀ v∈vs,oneCell v=true)
  (hs:∀ cs,Cl C sz els cs->∃ cs',zyy cs p vs=some cs'/\Cl C sz els' cs') :
  ∃ C',C.H.write (C.σ o) p vs=some C'.H/\C'.D=C.D.set o (.arr sz els')/\HR C'/\Nx (λq=>q=o) C C'/\C'.σ=C.σ:=by
 obtain ⟨cs,e,g1,g2⟩:=hr.ob o _ hD;obtain ⟨cs',q1,q2⟩:=hs cs g2;obtain ⟨C',a1,a2,a3,a4,a5,a6⟩:=hr.put (x':=.arr sz els') (B:=.cells cs' e none) hD (λe s l h=>by simp at h) (λe s l h=>by simp at h) ⟨rfl,hl,rfl⟩ (λc e k h=>by simp at h) (λC' nx hg hσ=>⟨cs',e,hg,q2.mono nx hr⟩);exact ⟨C',by rw [a1];exact yrr g1 h1 q1,a2,a4,a5,a6⟩
theorem zbn (hr:HR C) {o e sz p:Nat} {els els':List DV} {vs:List Value} (hD:C.D[o]? =some (.app e sz els)) (hne:els≠[]) (hl:els'.length=els.length) (h1:∀ v∈vs,oneCell v=true)
  (hs:∀ cs,Cl C sz els cs->∃ cs',zyy cs p vs=some cs'/\Cl C sz els' cs') :
  ∃ C',C.H.write (C.σ o) p vs=some C'.H/\C'.D=C.D.set o (.app e sz els')/\HR C'/\Nx (λq=>q=o) C C'/\C'.σ=C.σ:=by
 obtain ⟨cs,k,r,g1,g2,g3⟩:=hr.ob o _ hD hne;obtain ⟨cs',q1,q2⟩:=hs cs g3;obtain ⟨C',a1,a2,a3,a4,a5,a6⟩:=hr.put1 (cs':=cs') hD hne hl g1 (λC' nx=>q2.mono nx hr);exact ⟨C',by rw [a1];exact yrs g1 g2 h1 q1,a2,a4,a5,a6⟩
theorem yvl {d:DV} {v:Value} (h1:(zzd d).all zwz=true) (k:DR C d v):DRs C (zzd d) (cellsOf v)/\(∀ w∈cellsOf v,oneCell w=true)/\(cellsOf v).length=(zzd d).length:=by
 have:=zrs (n:=(zzd d).length) (by rw [zrq];exact ⟨rfl,h1⟩) k;exact this
theorem zgf {sz i k:Nat} {els els':List DV} {d:DV} {v:Value} {cs:List Value} (hc:Cl C sz els cs) (hd:DR C d v) (h:yso sz els i k d=some els') :
  els'.length=els.length/\(∀ w∈cellsOf v,oneCell w=true)/\(cellsOf v).length=(zzd d).length/\∃ cs',zyy cs (i*sz+k) (cellsOf v)=some cs'/\Cl C sz els' cs':=by
 unfold yso at h;split at h
 .rename_i x hx;split at h
  .rename_i hk;simp only [tza] at h;subst h;obtain ⟨g1,g2,g3⟩:=yvl hk.1 hd;obtain ⟨s1,s2⟩:=hc.set hx g1 hk.1 hk.2 rfl g2;exact ⟨by simp,g2,g3,_,s1,s2⟩
  .cases h
 .cases h
theorem yvm (hr:HR C) (ht:TR C tm tmH) {t:TypeId} {a x:Operand} {base:Nat} {d':DV} {D':DH} (h:zqw C.D base (zyl P t) (zzl tm a) (zzl tm x)=some (.val d' D')) :
  Made base (λo=>zyw (zzl tm a)=some o) C d' D' (zqr P tmH C.H t a x):=by
 unfold zqw at h;split at h;rotate_left
 .cases h
 rename_i n hn;split at h;rotate_left
 .cases h
 rename_i pa hpa;split at h;rotate_left
 .cases h
 rename_i d hd;obtain ⟨vp,p1,p2⟩:=zzu (P:=P) ht hpa;obtain ⟨v,v1,v2⟩:=zzu (P:=P) ht hd;have fin:∀ b off (C':Ctx),vp=.pointer (some ⟨b,off,none⟩)->(cellsOf v).length=n->C.H.write b off (cellsOf v)=some C'.H->zqr P tmH C.H t a x=some (.val undef C'.H):=(by intro b off C' e1 e2 e3;subst e1;unfold zqr;rw [p1,v1];simp only [tzn,zmc];unfold yxw;rw [hn];simp only [e2];rw [show Nat.beq n n=true by simp];simp only [e3];rfl);unfold zl3 at h;split at h
 .rename_i o i k;split at h
  .rename_i sz els hD;split at h
   .rename_i hc;cases hst:yso sz els i k d with
    | none=>rw [hst] at h;simp [hpD] at h
    | some els'=>
     rw [hst] at h;simp only [tz2,hpD,tza,DRes.val.injEq] at h;obtain ⟨rfl,rfl⟩:=h;obtain ⟨cs0,e0,g0,hcl0⟩:=hr.ob o _ hD;obtain ⟨s1,s2,s3,_⟩:=zgf hcl0 v2 hst;obtain ⟨C',a1,a2,a3,a4,a5⟩:=zbm hr (p:=i*sz+k) (vs:=cellsOf v) hD s1 s2 (λcs hcl=>(zgf hcl v2 hst).2.2.2);cases p2 with
     | ref ho one g=>exact ⟨C',undef,fin _ _ C' (g _ _ hD) (by rw [s3];exact hc.2) a1,a2,a3,a4.weak (λq hq=>by subst hq;exact ⟨hc.1,by rw [hpa];rfl⟩),zv0 _⟩
   .simp [hpD] at h
  .simp [hpD] at h
 .rename_i o m i k;split at h
  .rename_i e sz els hD;split at h
   .rename_i hc;cases hst:yso sz els i k d with
    | none=>rw [hst] at h;simp [hpD] at h
    | some els'=>
     rw [hst] at h;simp only [tz2,hpD,tza,DRes.val.injEq] at h;obtain ⟨rfl,rfl⟩:=h;cases p2 with
     | rfa ho one hm g=>
      have hne:els≠[]:=λq=>by subst q;have:=hc.2.2;simp at this;omega
      obtain ⟨cs0,k0,r0,g0,g1,hcl0⟩:=hr.ob o _ hD hne;obtain ⟨s1,s2,s3,_⟩:=zgf hcl0 v2 hst;obtain ⟨C',a1,a2,a3,a4,a5⟩:=zbn hr (p:=i*sz+k) (vs:=cellsOf v) hD hne s1 s2 (λcs hcl=>(zgf hcl v2 hst).2.2.2);exact ⟨C',undef,fin _ _ C' ((g.2 _ _ _ hD).2 hc.2.2) (by rw [s3];exact hc.2.1) a1,a2,a3,a4.weak (λq hq=>by subst hq;exact ⟨hc.1,by rw [hpa];rfl⟩),zv0 _⟩
   .simp [hpD] at h
  .simp [hpD] at h
 .simp [hpD] at h
theorem zkc:∀ (l:List Value),yka l l.length=some (l,true)
 | []=>rfl
 | v::l=>by simp only [tzd,yka,zkc l]
theorem yrt {t:TypeId} {T:SlT} (hT:tSl P t=some T):yx0 P T.e T.sz=true:=by
 obtain ⟨h1,h2,h3,h4,⟨z,h5,h6⟩,h7,h8⟩:=zqn hT;unfold yx0;rw [h5];have hz:DR ⟨λ_=>0,λ_=>False,xw6,[]⟩ T.z z:=by rw [h6];exact zpy z
 simp only [(zrs h7 hz).2.2];simp
def apK (H:Hp) (T:SlT) (base:Option Addr) (len c:Nat) (new:List Value):Nat->Option (Value×Hp)
 | 0=>some (.slice base len c,H)
 | m+1=>match base with
  | some a=>zvh H T.e T.sz a len c (len+(m+1)) new
  | none=>match Nat.beq len 0&&Nat.beq c 0 with
   | true=>some (zq7 H (m+1),Hp.newIn H new T.e H.n [H.n])
   | false=>none
theorem zvf {t:TypeId} {T:SlT} {H:Hp} {base:Option Addr} {len c n:Nat} {x:Value} {new:List Value} (hT:tSl P t=some T) (hn:xxa x=some n) (hf:zqq H T.sz n x=some new) (hl:new.length=n*T.sz) (h1:∀ v∈new,oneCell v=true) (hb:bnd (len+n) T.by_) :
  zs5 P H t (.slice base len c) x=apK H T base len c new n:=by
 obtain ⟨g1,g2,g3,g4,_,_,g8⟩:=zqn hT;unfold zs5;simp only [g2,g3,g4,xr7,hn,hf,tz2];unfold zjc;have:(Nat.beq new.length (n*T.sz)&&Nat.ble ((len+n)*T.by_) 1099511627776&&Nat.ble T.by_ 65536&&Nat.ble (len+n) 1099511627776&&new.all oneCell)=true:=(by simp only [tzc,txw,tzx];exact ⟨⟨⟨⟨by rw [hl];simp,hb.1⟩,g8⟩,hb.2⟩,h1⟩);rw [this];cases n with
 | zero=>rfl
 | succ m=>
  simp only [yrt hT];cases base<;>rfl
theorem zrt {α:Type} {l:List α} {i:Nat} {x:α} (h:l[i]? =some x):l.set i x=l:=by
 refine ty8 (λj=>?_);rw [tya];by_cases e:i=j
 .subst e;rw [if_pos rfl,if_pos (zyr h),h]
 .rw [if_neg e]
theorem zp1 {C':Ctx} {o e sz:Nat} {els:List DV} (hD:C'.D[o]? =some (.app e sz els)) {v:Value} (hv:v=apV (C'.σ o) els.length):DR C' (.apl o els.length) v:=
 .apl (zyr hD) (by subst hv;cases els.length<;>rfl) ⟨λsz' els' h=>(by rw [hD] at h;cases h),λe' sz' els' h=>(by
  simp_all)⟩
theorem ye9 (hr:HR C) {e sz:Nat} {els:List DV} {cs:List Value} (hne:els≠[]) (hc:Cl C sz els cs) (base:Nat) (Wo:Nat->Prop) :
  ∃ C',C'.H=C.H.newIn cs e C.H.n [C.H.n]/\C'.D=C.D++[.app e sz els]/\HR C'/\Nx (λo=>base<=o/\Wo o) C C'/\DR C' (.apl C.D.length els.length) (zq7 C.H els.length):=by
 obtain ⟨C',a1,a2,a3,a4,a5,a6⟩:=hr.newIn (e:=e) hne (λC' nx=>hc.mono nx hr);refine ⟨C',a1,a2,a4,a5.weak (λ_ h=>h.elim),zp1 (e:=e) (sz:=sz) (els:=els) (by rw [a2,zyb]) ?_⟩;rw [a6];cases hl:els.length with
 | zero=>exact absurd (tzy hl) hne
 | succ n=>rfl
theorem zhe {b:Nat}:∀ {pre post:List Nat},b∉pre->ztw b true (pre++b::post)=b::post.take 99
 | [],post,_=>by
  show ztw b true (b::post)=_;unfold ztw;rw [show Nat.beq b b=true by simp]
 | j::pre,post,h=>by
  have h1:Nat.beq j b=false:=by
   cases hq:Nat.beq j b with
   | false=>rfl
   | true=>exact absurd (by rw [tzo hq];simp) h
  show ztw b true (j::(pre++b::post))=_;unfold ztw;rw [h1];exact zhe λg=>h (tzq _ g)
theorem HR.chnNew (hr:HR C) {e sz:Nat} {els:List DV} {cs:List Value} (hne:els≠[]) (hc:Cl C sz els cs) :
  ∃ C',C'.H=C.H.newIn cs e C.H.n [C.H.n]/\C'.D=C.D++[.chn e sz 1 [(0,els)]]/\HR C'/\Nx (λ_=>False) C C'/\dec (C'.σ C.D.length)=[C.H.n,C.H.n]:=by
 have u:Upd C.D.length C ⟨zee C.σ C.D.length (yvc [C.H.n,C.H.n]),C.S,C.H.newIn cs e C.H.n [C.H.n],C.D++[.chn e sz 1 [(0,els)]]⟩:=
  {
   n:=by simp
   S:=rfl
   wf:=hr.wf.newInD (by omega)
   len:=by simp
   D:=λo h=>zld h
   σ:=λo h=>zv8 h
   get:=λb hb _=>by simp only [Hp.get_newIn];rw [if_neg (by omega)]
   stk:=λk hk _=>by simp only [Hp.stk_newIn];rw [if_neg (by omega)]
   evo:=λx' h=>absurd h (tyr _)
   own:=λb g=>by
    obtain ⟨y,h1,h2,h3⟩:=g
    simp only [zyb,tza] at h1
    subst h1
    simp [zqm] at h2
   cls:=λk g=>by
    rcases g with ⟨e1,sz1,els1,cs1,e',h1,h2,h3⟩ | ⟨e1,sz1,ctr,l,h1,h2⟩
    .simp [zyb] at h1
    .simp only [zyc,ztr] at h2
     simp at h2
     exact .inr (by omega) }
 have nx0:=u.nx hr;have nx:Nx (λ_=>False) C ⟨zee C.σ C.D.length (yvc [C.H.n,C.H.n]),C.S,C.H.newIn cs e C.H.n [C.H.n],C.D++[.chn e sz 1 [(0,els)]]⟩:=⟨nx0.n,nx0.S,nx0.len,nx0.get,nx0.stk,nx0.evo,nx0.own,nx0.cls,λo ho _=>nx0.kp o ho (by omega)⟩;refine ⟨⟨zee C.σ C.D.length (yvc [C.H.n,C.H.n]),C.S,C.H.newIn cs e C.H.n [C.H.n],C.D++[.chn e sz 1 [(0,els)]]⟩,rfl,rfl,u.hr hr (λy hy=>?_),nx,by simp only [zyc,ztr]⟩;simp only [zyb,tza] at hy;subst hy;refine ⟨C.H.n,C.H.n,[],[],by simp only [zyc,ztr],rfl,by simp,by simp,λi x hx=>?_,λi j x y hij hx hy=>?_,λi x b' hx hb=>?_⟩
 .grind
 .grind
 cases i with
 | zero=>
  simp at hx hb;subst hx hb;exact ⟨cs,by simp,hc.mono nx hr⟩
 | succ i=>simp at hx
theorem HR.chnGrow (hr:HR C) {o e sz ctr i ver k b:Nat} {L:List (Nat×List DV)} {els els':List DV} {cs cs':List Value} (hD:C.D[o]? =some (.chn e sz ctr L)) (hi:L[i]? =some (ver,els)) (hk:(dec (C.σ o))[0]? =some k)
  (hb:(dec (C.σ o))[i+1]? =some b) (hg:C.H.get b=some (.cells cs e (some k))) (hL:L.length<99) (hne:els'≠[]) (hc:Cl C sz els' cs') :
  ∃ C',C'.H=Hp.newIn (C.H.put b (.cells cs e (some k))) cs' e k (C.H.n::ztw b true (C.H.stk k))/\C'.D=C.D.set o (.chn e sz (ctr+1) ((ctr,els')::L.drop i))/\HR C'/\Nx (λp=>p=o) C C'/\(dec (C'.σ o))[1]? =some C.H.n:=by
 have hol:=zyr hD;obtain ⟨k',b0,bs,rest,h1,h2,h3,h4,h5,h6,h7⟩:=hr.ob o _ hD;have hcl:Cls C o k:=.inr ⟨e,sz,ctr,L,hD,hk⟩;have hkn:=hcl.lt hr;rw [h1] at hk hb;obtain rfl:k'=k:=by simpa using hk
 generalize hB:b0::bs=B at *;have hb':B[i]? =some b:=by simpa using hb
 have hbn:=hr.wf.dom _ _ hg;have hdrop:B.drop i=b::B.drop (i+1):=(by rw [List.drop_eq_getElem_cons (zyr hb'),(List.getElem_eq_iff (zyr hb')).2 hb']);have hsplit:B=B.take i++b::B.drop (i+1):=by rw [<-hdrop,List.take_append_drop]
 have hnot:b∉B.take i:=(by intro g;rw [hsplit] at h4;exact (List.nodup_append.1 h4).2.2 b g b (by simp) rfl)
 have hkeep:ztw b true (C.H.stk k')=B.drop i++rest.take (99-(B.drop (i+1)).length):=by
  rw [h3]
  conv=>lhs;rw [hsplit]
  rw [tyd,txo,zhe hnot,hdrop,List.take_append,tzk (by simp;omega)];rfl
 have hget:∀ b',b'<C.H.n->(Hp.newIn (C.H.put b (.cells cs e (some k'))) cs' e k' (C.H.n::ztw b true (C.H.stk k'))).get b'=C.H.get b':=λb' hb'=>by
  simp only [Hp.get_newIn,Hp.n_put,Hp.get_put];rw [if_neg (by omega)];split
  .rename_i q;rw [q,hg]
  .rfl
 have u:Upd o C ⟨zee C.σ o (yvc (k'::C.H.n::B.drop i)),C.S,Hp.newIn (C.H.put b (.cells cs e (some k'))) cs' e k' (C.H.n::ztw b true (C.H.stk k')),C.D.set o (.chn e sz (ctr+1) ((ctr,els')::L.drop i))⟩:=
  {
   n:=by simp
   S:=rfl
   wf:=(hr.wf.putD hbn (λc' e' k' h=>by simp only [Blk.cells.injEq,tza] at h;omega)).newInD (by simp;omega)
   len:=by simp
   D:=λp h=>by simp [tya,Ne.symm h]
   σ:=λp h=>zv8 h
   get:=λb' hb' _=>hget b' hb'
   stk:=λc _ hc'=>by
    simp only [Hp.stk_newIn,Hp.stk_put]
    rw [if_neg (λq=>hc' (by rw [q];exact hcl))]
   evo:=λy h hy=>by
    simp [hol] at hy
    subst hy
    refine .inr ⟨_,hD,rfl,rfl,by omega,λi' ver' els1 hi' hv=>?_⟩
    cases i' with
    | zero=>simp at hi';omega
    | succ j=>
     simp only [txr,tyj] at hi'
     refine ⟨i+j,hi',?_⟩
     simp only [zyc,ztr,h1,txr,tyj]
   own:=λb' g=>by
    obtain ⟨y,q1,q2,q3⟩:=g
    simp [hol] at q1
    subst q1
    simp [zqm] at q2
   cls:=λc g=>by
    rcases g with ⟨e1,sz1,els1,cs1,e',q1,q2,q3⟩ | ⟨e1,sz1,ctr',l,q1,q2⟩
    .simp [hol] at q1
    .simp only [zyc,ztr] at q2
     simp at q2
     exact .inl (by rw [<-q2];exact hcl) }
 have nx:=u.nx hr;refine ⟨⟨zee C.σ o (yvc (k'::C.H.n::B.drop i)),C.S,Hp.newIn (C.H.put b (.cells cs e (some k'))) cs' e k' (C.H.n::ztw b true (C.H.stk k')),C.D.set o (.chn e sz (ctr+1) ((ctr,els')::L.drop i))⟩,rfl,rfl,u.hr hr (λy hy=>?_),nx,by simp only [zyc,ztr];rfl⟩;simp [hol] at hy;subst hy
 have hlow:∀ b'∈B,b'<C.H.n:=λb' hm=>by
  obtain ⟨j,hj⟩:=List.getElem?_of_mem hm;obtain ⟨x,hx⟩:=zw1 (l:=L) (i:=j) (by rw [<-h2];exact zyr hj);obtain ⟨cs1,q,_⟩:=h7 j x b' hx hj;exact hr.wf.dom _ _ q
 refine ⟨k',C.H.n,B.drop i,rest.take (99-(B.drop (i+1)).length),by simp only [zyc,ztr],by simp;omega,by simp only [Hp.stk_newIn,if_true,hkeep];rfl,?_,λj x hx=>?_,λj j' x y hj hx hy=>?_,λj x b' hx hb1=>?_⟩
 .refine List.nodup_cons.2 ⟨λg=>?_,h4.sublist (List.drop_sublist i B)⟩;have:=hlow _ (List.mem_of_mem_drop g);omega
 .cases j with
  | zero=>simp at hx;subst hx;exact ⟨tyu _,hne⟩
  | succ j=>
   simp only [txr,tyj] at hx;have:=h5 _ x hx;exact ⟨by omega,this.2⟩
 .cases j' with
  | zero=>omega
  | succ j'=>
   simp only [txr,tyj] at hy;cases j with
   | zero=>simp at hx;subst hx;exact (h5 _ y hy).1
   | succ j=>
    simp only [txr,tyj] at hx;exact h6 _ _ x y (by omega) hx hy
 .cases j with
  | zero=>
   simp at hx hb1;subst hx hb1;exact ⟨cs',by simp,hc.mono nx hr⟩
  | succ j=>
   simp only [txr,tyj] at hx hb1;obtain ⟨cs1,q1,q2⟩:=h7 _ x b' hx hb1;exact ⟨cs1,by rw [hget b' (hr.wf.dom _ _ q1)];exact q1,q2.mono nx hr⟩
theorem yvn (hr:HR C) {t tx:TypeId} {T:SlT} {base:Nat} {s x:DV} {vs vx:Value} {new:List DV} {d':DV} {D':DH} (hT:tSl P t=some T) (hs:DR C s vs) (hx:Lies C new new.length vx) (hok:∀ d∈new,zrn T.sz d=true)
  (h:zwk C.D base T s new=some (d',D')):Made base (λo=>zyw (some s)=some o) C d' D' (zu3 (zs5 P C.H t vs vx)):=by
 obtain ⟨ws,w1,w2,w3,_⟩:=hx.cells hok;unfold zwk at h;split at h;rotate_left 2
 .rename_i o off len cap;split at h;rotate_left
  .cases h
  rename_i sz els hD;split at h;rotate_left
  .cases h
  rename_i hc;obtain ⟨c1,c2,c3⟩:=hc;subst c1;have hrow:∃ hol one g,hs=DR.row (C:=C) hol one g:=by cases hs with | row hol one g=>exact ⟨hol,one,g,rfl⟩
  obtain ⟨hol,one,g,-⟩:=hrow;obtain ⟨e1,g1,g2,g3⟩:=g _ _ hD;obtain ⟨cs,ce,q1,q2⟩:=hr.ob o _ hD;rw [e1,zvf hT w3 w1 w2.len w2.one c2];have hbt:Nat.blt cap U=true:=by rw [txl];exact g3
  split at h
  .rename_i hroom;split at h
   .rename_i hbase;simp only [tza,tzl] at h;obtain ⟨rfl,rfl⟩:=h;cases hn:new.length with
    | zero=>
     have:new=[]:=tzy hn;subst this;have:Dv.putAt els (off+len) []=els:=by simp [Dv.putAt]
     rw [this,zrt hD,Nat.add_zero];exact ⟨C,_,rfl,rfl,hr,Nx.refl hr,.row hol rfl (λsz' els' h'=>by rw [hD] at h';simp only [tza,DObj.arr.injEq] at h';exact ⟨by rw [<-h'.1],by rw [<-h'.2];exact g1,g2,g3⟩)⟩
    | succ m=>
     have hpl:(Dv.putAt els (off+len) new).length=els.length:=(by simp only [Dv.putAt,tz5,tyw,tyx];omega);obtain ⟨C',a1,a2,a3,a4,a5⟩:=zbm hr (p:=(off+len)*T.sz) (els':=Dv.putAt els (off+len) new) (vs:=ws) hD hpl w2.one (λcs hcl=>⟨_,hcl.putAt w2 (by omega)⟩);simp only [apK];unfold zvh;simp only [hbt];rw [show Nat.ble (len+(m+1)) cap=true by rw [txw];omega];rw [txb] at a1;refine ⟨C',.slice (some ⟨C.σ o,off*T.sz,none⟩) (len+(m+1)) cap,by simp only [a1,tz2,zu3],a2,a3,a4.weak (λq hq=>by subst hq;exact ⟨hbase,rfl⟩),?_⟩;refine .row (by rw [a2];simpa using hol) rfl (λsz' els' h'=>?_);rw [a2] at h';simp [hol] at h';refine ⟨by rw [a5,<-h'.1],by rw [<-h'.2,hpl];exact g1,by omega,g3⟩
   .cases h
  rename_i hroom;have hbf0:∀ m,new.length=m+1->Nat.ble (len+(m+1)) cap=false:=λm hm=>by cases hq:Nat.ble (len+(m+1)) cap with | false=>rfl | true=>rw [txw] at hq;omega
  split at h
  .rename_i hw;obtain ⟨hbase,rfl,rfl⟩:=hw;simp only [tza,tzl] at h;obtain ⟨rfl,rfl⟩:=h;obtain ⟨m,hm⟩:∃ m,new.length=m+1:=⟨new.length-1,by omega⟩;have hclo:=q2.append w2;have hne:els++new≠[]:=λq=>by simp at q;rw [q.2] at hm;simp at hm
   obtain ⟨C',a1,a2,a3,a4,a5,a6⟩:=hr.conv (e:=T.e) hD hne (λC' nx=>hclo.mono nx hr);have lenE:(els++new).length=els.length+new.length:=by simp
   rw [hm];simp only [apK];unfold zvh;simp only [hbt,hbf0 m hm];simp only [Hp.read,zsr q1];rw [zpz (by rw [q2.len,Nat.zero_mul,txj];exact tzp _)];refine ⟨C',zq7 C.H (els.length+(m+1)),?_,a2,a4,a5.weak (λq hq=>by subst hq;exact ⟨hbase,rfl⟩),?_⟩
   .rw [a1];simp only [tz2,zu3,Nat.zero_mul,List.drop_zero,<-q2.len,ty0]
   rw [<-hm,<-lenE];refine zp1 (e:=T.e) (sz:=T.sz) (by rw [a2];simp [hol]) ?_;rw [a6,lenE,hm];rfl
  simp only [tza,tzl] at h;obtain ⟨rfl,rfl⟩:=h;obtain ⟨m,hm⟩:∃ m,new.length=m+1:=⟨new.length-1,by omega⟩;have hclo:=((q2.drop off).take len (by simp;omega)).append w2;obtain ⟨C',a1,a2,a3,a4,a5⟩:=ye9 hr (e:=T.e) (λq=>by simp at q;rw [q.2] at hm;simp at hm) hclo base (λp=>zyw (some (.row o off len cap))=some p);have hl:((els.drop off).take len++new).length=len+(m+1):=by simp;omega
  rw [hl] at a5;rw [hm];simp only [apK];unfold zvh;simp only [hbt];have hbf:Nat.ble (len+(m+1)) cap=false:=by cases hq:Nat.ble (len+(m+1)) cap with | false=>rfl | true=>rw [txw] at hq;omega
  rw [hbf];simp only [Hp.read,zsr q1];rw [zpz (by rw [q2.len,<-txb];exact txn _ c3)];exact ⟨C',_,by simp only [tz2,zu3,a1],a2,a3,a4,a5⟩
 .split at h
  .rename_i hc;obtain ⟨c1,c2⟩:=hc;simp only [tza,tzl] at h;obtain ⟨rfl,rfl⟩:=h;obtain ⟨m,hm⟩:∃ m,new.length=m+1:=⟨new.length-1,by omega⟩;have hne:new≠[]:=λq=>by subst q;simp at hm
   cases hs with
   | @em b off c hb hrow ho=>
    rw [zvf hT w3 w1 w2.len w2.one (by rw [txj];exact c1),hm];obtain ⟨C',a1,a2,a3,a4,a5⟩:=hr.chnNew (e:=T.e) hne w2;simp only [apK];unfold zvh;rw [show Nat.blt 0 U=true from rfl,show Nat.ble (0+(m+1)) 0=false by rw [txj];rfl];simp only [Hp.read,hrow,tzn,Nat.zero_mul];rw [zpz (by omega)];refine ⟨C',zq7 C.H (0+(m+1)),by simp [zu3,a1],a2,a3,a4.weak (λ_ h=>h.elim),?_⟩;rw [show zq7 C.H (0+(m+1))=apV C.H.n (m+1) by rw [txj];rfl];refine .lv (by rw [a2];simp) (by omega) (λe sz ctr L hx=>?_);rw [a2,zyb] at hx;simp only [tza,DObj.chn.injEq] at hx;obtain ⟨-,-,rfl,rfl⟩:=hx;refine ⟨by omega,λi els hi _=>?_⟩;cases i with
    | zero=>rw [a5];rfl
    | succ i=>simp at hi
  .cases h
 .rename_i o ver len;split at h;rotate_left
  .cases h
  rename_i e sz ctr L hD;split at h;rotate_left
  .cases h
  rename_i els hL;split at h
  .rename_i hc;obtain ⟨c1,c2,c3,c4,c5,c6,c7⟩:=hc;simp only [tza,tzl] at h;obtain ⟨rfl,rfl⟩:=h;obtain ⟨m,hm⟩:∃ m,new.length=m+1:=⟨new.length-1,by omega⟩;have hne:els++new≠[]:=λq=>by simp at q;rw [q.2] at hm;simp at hm
   cases hs with
   | @lv _ _ _ b hol hn g=>
    obtain ⟨i,h1,h2,h3⟩:=zka hL;obtain ⟨k,cs,q1,q2,q3,q4,q5,q6⟩:=yrc hr hD h1 ((g _ _ _ _ hD).2 i _ h1 c3);subst c1 c2 c3;obtain ⟨l0,hl0⟩:∃ l0,els.length=l0+1:=⟨els.length-1,by omega⟩;obtain ⟨C',a1,a2,a3,a4,a5⟩:=hr.chnGrow hD h1 q1 ((g _ _ _ _ hD).2 i _ h1 rfl) q2 c7 hne (q5.append w2);have hvs:apV b els.length=.slice (some ⟨b,0,none⟩) els.length (U+2*b):=by rw [hl0];rfl
    have key:zvh C.H T.e T.sz ⟨b,0,none⟩ els.length (U+2*b) (els.length+(m+1)) ws=some (zq7 C.H (els.length+(m+1)),Hp.newIn (C.H.put b (.cells cs T.e (some k))) (cs++ws) T.e k (C.H.n::ztw b true (C.H.stk k))):=by
     unfold zvh;have hbf:Nat.blt (U+2*b) U=false:=by cases hq:Nat.blt (U+2*b) U with | false=>rfl | true=>rw [txl] at hq;omega
     simp only [hbf];rw [show (Nat.beq 0 0&&Nat.beq (U+2*b) (U+2*b))=true by simp];simp only [q2,tzn,zfi,zwr.2 q3];rw [show Nat.beq T.e T.e=true by simp];simp only [Bool.and_self];rw [show els.length*T.sz=cs.length from q5.len.symm,zkc]
    rw [hvs,zvf hT w3 w1 w2.len w2.one c5,hm];simp only [apK,key];refine ⟨C',zq7 C.H (els.length+(m+1)),by simp only [zu3,a1],by rw [a2,h2],a3,a4.weak (λq hq=>by subst hq;exact ⟨c4,rfl⟩),?_⟩;rw [show zq7 C.H (els.length+(m+1))=apV C.H.n (els.length+(m+1)) from rfl];refine .lv (by rw [a2];simpa using hol) (by omega) (λe sz ctr' L' hx=>?_);rw [a2] at hx;simp [hol] at hx;obtain ⟨-,-,rfl,rfl⟩:=hx;refine ⟨by omega,λj els1 hj _=>?_⟩;cases j with
    | zero=>exact a5
    | succ j=>
     simp only [txr,tyj] at hj;obtain ⟨k2,b2,bs2,r2,z1,z2,z3,z4,z5,z6,z7⟩:=hr.ob o _ hD;have:=(z5 _ _ hj).1;omega
  .cases h
 .cases h
 ·-- nothing yet
  split at h
  .rename_i hb;simp only [tza,tzl] at h;obtain ⟨rfl,rfl⟩:=h;rw [zf3 hs,zvf hT w3 w1 w2.len w2.one (by rw [txj];exact hb)];cases hn:new.length with
   | zero=>
    have:new=[]:=tzy hn;subst this;obtain ⟨C',a1,a2,a3,a4,a5,a6⟩:=hr.nilApp T.e T.sz;refine ⟨C',.slice none 0 0,by simp only [apK,zu3,a1],a2,a4,a5.weak (λ_ h=>h.elim),?_⟩;exact zp1 (els:=[]) (by rw [a2,zyb]) rfl
   | succ m=>
    have hne:new≠[]:=λq=>by subst q;simp at hn
    obtain ⟨C',a1,a2,a3,a4,a5⟩:=ye9 hr (e:=T.e) hne w2 base (λo=>zyw (some zyf)=some o);rw [hn] at a5;simp only [apK];rw [show (Nat.beq 0 0&&Nat.beq 0 0)=true from rfl];exact ⟨C',_,by simp only [zu3,a1],a2,a3,a4,a5⟩
  .cases h
 rename_i o len;split at h;rotate_left
 .cases h
 rename_i e sz els hD;split at h;rotate_left
 .cases h
 rename_i hc;obtain ⟨c1,c2,c3,c4,c5⟩:=hc;simp only [tza,tzl] at h;obtain ⟨rfl,rfl⟩:=h;cases hs with
 | apl hol one g=>
  have e1:=(g.2 _ _ _ hD).2 c3;subst c1 c2 c3;have lenE:(els++new).length=els.length+new.length:=by simp
  cases hn:new.length with
  | zero=>
   have:new=[]:=tzy hn;subst this;rw [tyv,zrt hD,Nat.add_zero];refine ⟨C,vs,?_,rfl,hr,Nx.refl hr,zp1 hD e1⟩
   have:∀ b c,zs5 P C.H t (.slice b els.length c) vx=some (.slice b els.length c,C.H):=λb c=>by
    rw [zvf hT w3 w1 w2.len w2.one c5];rfl
   rw [e1];unfold apV;cases hl:els.length with
   | zero=>have:=this none 0;rw [hl] at this;simp only [this,zu3]
   | succ m=>have:=this (some ⟨C.σ o,0,none⟩) (U+2*C.σ o);rw [hl] at this;simp only [this,zu3]
  | succ m=>
   have hne:els++new≠[]:=λq=>by simp at q;rw [q.2] at hn;simp at hn
   by_cases hels:els=[]
   .subst hels;simp only [tze,txj,ty2] at *;obtain ⟨C',a1,a2,a3,a4,a5,a6⟩:=hr.grow (els':=new) (c:=C.H.n) (H':=C.H.newIn ws T.e C.H.n [C.H.n]) (cs':=ws) (rest:=[]) hD (by simp;omega) (.inr rfl) (hr.wf.newInD (by omega)) (by simp) (λb hb _=>by simp only [Hp.get_newIn];rw [if_neg (by omega)]) (λk hk hkc=>by simp only [Hp.stk_newIn];rw [if_neg hkc]) (by simp) (by simp) (λC' nx=>w2.mono nx hr);have hvs:vs=.slice none 0 0:=e1;rw [hvs,zvf hT w3 w1 w2.len w2.one (by rw [txj];exact c5),hn];simp only [apK];rw [show (Nat.beq 0 0&&Nat.beq 0 0)=true from rfl];refine ⟨C',zq7 C.H (m+1),by simp only [zu3,a1],a2,a4,a5.weak (λq hq=>by subst hq;exact ⟨c4,rfl⟩),?_⟩;rw [<-hn];refine zp1 (e:=T.e) (sz:=T.sz) (by rw [a2];simp [hol]) ?_;rw [a6,hn];rfl
   obtain ⟨cs,k,r,g1,g2,g3⟩:=hr.ob o _ hD hels;have hcl0:ClA C o k:=⟨T.e,T.sz,els,cs,T.e,hD,hels,g1⟩;have hcl:Cls C o k:=.inl hcl0;have hown:=hcl0.own;have hkn:=hcl.lt hr;have hon:=hown.lt hr;obtain ⟨l0,hl0⟩:∃ l0,els.length=l0+1:=⟨els.length-1,by cases els with | nil=>exact absurd rfl hels | cons=>simp⟩;have hvs:vs=.slice (some ⟨C.σ o,0,none⟩) els.length (U+2*C.σ o):=by rw [e1,hl0];rfl
   have key:zvh C.H T.e T.sz ⟨C.σ o,0,none⟩ els.length (U+2*C.σ o) (els.length+(m+1)) ws=some (zq7 C.H (els.length+(m+1)),Hp.newIn (C.H.put (C.σ o) (.cells cs T.e (some k))) (cs++ws) T.e k (C.H.n::ztw (C.σ o) true (C.H.stk k))):=by
    unfold zvh;have hbf:Nat.blt (U+2*C.σ o) U=false:=by cases hq:Nat.blt (U+2*C.σ o) U with | false=>rfl | true=>rw [txl] at hq;omega
    simp only [hbf];rw [show (Nat.beq 0 0&&Nat.beq (U+2*C.σ o) (U+2*C.σ o))=true by simp];simp only [g1,tzn,zfi,g2,zfh];rw [show Nat.beq (C.σ o) (C.σ o)=true by simp,show Nat.beq T.e T.e=true by simp];simp only [Bool.and_self];rw [show els.length*T.sz=cs.length from g3.len.symm,zkc]
   obtain ⟨C',a1,a2,a3,a4,a5,a6⟩:=hr.grow (els':=els++new) (c:=k) (H':=Hp.newIn (C.H.put (C.σ o) (.cells cs T.e (some k))) (cs++ws) T.e k (C.H.n::ztw (C.σ o) true (C.H.stk k))) (cs':=cs++ws) (rest:=ztw (C.σ o) true (C.H.stk k)) hD (by rw [lenE];omega) (.inl hcl)
    ((hr.wf.putD hon (λc' e' k' h=>by simp only [Blk.cells.injEq,tza] at h;omega)).newInD (by simp;omega)) (by simp) (λb hb hno=>by
     simp only [Hp.get_newIn,Hp.n_put,Hp.get_put]
     rw [if_neg (by omega),if_neg (λq=>hno (by rw [q];exact hown))]) (λc hc hck=>by simp only [Hp.stk_newIn,Hp.stk_put];rw [if_neg hck]) (by simp) (by simp) (λC' nx=>(g3.append w2).mono nx hr)
   rw [hvs,zvf hT w3 w1 w2.len w2.one c5,hn];simp only [apK,key];refine ⟨C',zq7 C.H (els.length+(m+1)),by simp only [zu3,a1],a2,a4,a5.weak (λq hq=>by subst hq;exact ⟨c4,rfl⟩),?_⟩;rw [<-hn,<-lenE];refine zp1 (e:=T.e) (sz:=T.sz) (by rw [a2];simp [hol]) ?_;rw [a6,lenE,hn];rfl
theorem zek (hr:HR C) {n b p:Nat} {ws:List Value} {D':DH} {base o:Nat} {dv:Option DV} (hdv:zyw dv=some o) (hb:base<=o) (h0:ws=[]->C.D=D') (hn:ws≠[]->0<n)
  (hw:ws≠[]->∃ C',C.H.write b p ws=some C'.H/\C'.D=D'/\HR C'/\Nx (λq=>q=o) C C'):Made base (λq=>zyw dv=some q) C (rv (zlt n)) D' (zjf C.H n (some ⟨b,p,none⟩) ws):=by
 cases ws with
 | nil=>rw [<-h0 rfl];exact Made.same hr (zv0 _)
 | cons a l=>
  obtain ⟨C',a1,a2,a3,a4⟩:=hw (by simp);refine ⟨C',zlt n,?_,a2,a3,a4.weak (λq hq=>by subst hq;exact ⟨hb,hdv⟩),zv0 _⟩;unfold zjf;simp only;rw [show Nat.blt 0 n=true by rw [txl];exact hn (by simp)];simp only [a1];rfl
theorem ykv (hr:HR C) {t:TypeId} {T:SlT} {base:Nat} {s:DV} {vs vx:Value} {new:List DV} {d':DV} {D':DH} (hT:tSl P t=some T) (hs:DR C s vs) (hx:Lies C new new.length vx) (hok:∀ d∈new,zrn T.sz d=true)
  (h:ys6 C.D base T s new=some (.val d' D')):Made base (λo=>zyw (some s)=some o) C d' D' (zir P C.H t vs vx):=by
 obtain ⟨ws0,_,_,w3,w4⟩:=hx.cells hok;obtain ⟨h1,h2,h3,h4,_⟩:=zqn hT;unfold ys6 at h;split at h;rotate_left 2
 .cases h
 .rename_i o off len cap;split at h;rotate_left
  .cases h
  rename_i sz els hD;split at h;rotate_left
  .cases h
  rename_i hc;obtain ⟨rfl,c1,c2,c3⟩:=hc;simp only [tza,DRes.val.injEq] at h;obtain ⟨rfl,rfl⟩:=h;obtain ⟨ws,w1,w2⟩:=w4 (min new.length len) (Nat.min_le_left _ _);have hrow:∃ hol one g,hs=DR.row (C:=C) hol one g:=by cases hs with | row hol one g=>exact ⟨hol,one,g,rfl⟩
  obtain ⟨hol,one,g,-⟩:=hrow;obtain ⟨e1,g1,g2,g3⟩:=g _ _ hD;subst e1;have hcp:zir P C.H t (.slice (some ⟨C.σ o,off*T.sz,none⟩) len cap) vx=zjf C.H (min new.length len) (some ⟨C.σ o,off*T.sz,none⟩) ws:=(by unfold zir;simp only [h2,h3,w3];show (zqq C.H T.sz (min new.length len) vx).bind _=_;rw [w1];rfl);rw [hcp];have hml:(new.take (min new.length len)).length=min new.length len:=by simp
  have hpl:(Dv.putAt els off (new.take (min new.length len))).length=els.length:=(by simp only [Dv.putAt,tz5,tyw,tyx];omega)
  have hz:ws=[]->new.take (min new.length len)=[]:=λq=>by
   have:=w2.len;rw [q,tze] at this;rcases Nat.mul_eq_zero.1 this.symm with q | q
   .exact tzy q
   .omega
  refine zek hr rfl c2 (λq=>?_) (λq=>?_) (λq=>?_)
  .rw [hz q];have:Dv.putAt els off []=els:=by simp [Dv.putAt]
   rw [this,zrt hD]
  .rcases ty4 (min new.length len) with g | g
   .exact absurd (tzy (by rw [w2.len,hml,g,Nat.zero_mul])) q
   .exact g
  obtain ⟨C',a1,a2,a3,a4,a5⟩:=zbm hr (p:=off*T.sz) (els':=Dv.putAt els off (new.take (min new.length len))) (vs:=ws) hD hpl w2.one (λcs hcl=>⟨_,hcl.putAt w2 (by omega)⟩);exact ⟨C',a1,a2,a3,a4⟩
 rename_i o len;split at h;rotate_left
 .cases h
 rename_i e sz els hD;split at h;rotate_left
 .cases h
 rename_i hc;obtain ⟨rfl,c1,c2,rfl⟩:=hc;simp only [tza,DRes.val.injEq] at h;obtain ⟨rfl,rfl⟩:=h;obtain ⟨ws,w1,w2⟩:=w4 (min new.length els.length) (Nat.min_le_left _ _);have hrow:∃ hol one g,hs=DR.apl (C:=C) hol one g:=by cases hs with | apl hol one g=>exact ⟨hol,one,g,rfl⟩
 obtain ⟨hol,one,g,-⟩:=hrow;have e1:=(g.2 _ _ _ hD).2 rfl;subst e1;have hcp:∀ a c,zir P C.H t (.slice a els.length c) vx=zjf C.H (min new.length els.length) a ws:=(by intro a c;unfold zir;simp only [h2,h3,w3];show (zqq C.H T.sz (min new.length els.length) vx).bind _=_;rw [w1];rfl);have hml:(new.take (min new.length els.length)).length=min new.length els.length:=by simp
 have hpl:(Dv.putAt els 0 (new.take (min new.length els.length))).length=els.length:=(by simp only [Dv.putAt,tz5,tyw,tyx];omega);by_cases hels:els=[]
 .subst hels;have hw0:ws=[]:=tzy (by rw [w2.len];simp);rw [show apV (C.σ o) ([]:List DV).length=.slice none 0 0 from rfl];have:zir P C.H t (.slice none 0 0) vx=some (.val (zlt 0) C.H):=(by have:=hcp none 0;rw [hw0] at this;simpa [zjf] using this);rw [this];have h2:(Dv.putAt ([]:List DV) 0 (new.take (min new.length ([]:List DV).length)))=[]:=by simp [Dv.putAt]
  rw [h2,zrt hD];have:=Made.same (base:=base) (Wo:=λq=>zyw (some (.apl o ([]:List DV).length))=some q) hr (zv0 (C:=C) (zlt 0));simpa using this
 obtain ⟨l0,hl0⟩:∃ l0,els.length=l0+1:=⟨els.length-1,by cases els with | nil=>exact absurd rfl hels | cons=>simp⟩;have hav:apV (C.σ o) els.length=.slice (some ⟨C.σ o,0,none⟩) els.length (U+2*C.σ o):=by rw [hl0];rfl
 rw [hav,hcp]
 have hz:ws=[]->new.take (min new.length els.length)=[]:=λq=>by
  have:=w2.len;rw [q,tze] at this;rcases Nat.mul_eq_zero.1 this.symm with q | q
  .exact tzy q
  .omega
 refine zek hr rfl c2 (λq=>?_) (λq=>?_) (λq=>?_)
 .rw [hz q];have:Dv.putAt els 0 []=els:=by simp [Dv.putAt]
  rw [this,zrt hD]
 .rcases ty4 (min new.length els.length) with g | g
  .exact absurd (tzy (by rw [w2.len,hml,g,Nat.zero_mul])) q
  .exact g
 obtain ⟨C',a1,a2,a3,a4,a5⟩:=zbn hr (p:=0) (els':=Dv.putAt els 0 (new.take (min new.length els.length))) (vs:=ws) hD hels hpl w2.one (λcs hcl=>by
  have:=hcl.putAt (o:=0) w2 (by omega)
  rw [Nat.zero_mul] at this
  exact ⟨_,this⟩)
 exact ⟨C',a1,a2,a3,a4⟩
theorem yru (hr:HR C) {t:TypeId} {base:Nat} {x:DV} {vx:Value} {d':DV} {D':DH} (hx:DR C x vx) (h:zi6 C.D base (tSl P t) x=some (.val d' D')):Made base (λo=>zyw (some x)=some o) C d' D' (zme P C.H t vx):=by
 unfold zi6 at h;split at h;rotate_left
 .cases h
 rename_i o n off len;split at h;rotate_left
 .cases h
 rename_i T hT;obtain ⟨h1,h2,h3,_,⟨z,hz,hzT⟩,hok,_⟩:=zqn hT;split at h;rotate_left
 .cases h
 rename_i e sz els hD;split at h;rotate_left
 .cases h
 rename_i hc;obtain ⟨c1,c2,c3,c4,c5⟩:=hc;subst c1;simp only [tza,DRes.val.injEq] at h;obtain ⟨rfl,rfl⟩:=h;cases hx with
 | prt hol one hn g=>
  obtain ⟨_,c,rfl⟩:=(g.2 _ _ _ hD).2 c4;have hne:els≠[]:=λq=>by rw [q] at c4;simp at c4;omega
  have htup:DR C (.tup []) (.tuple #[]):=.tup rfl λi d v h=>by simp at h
  cases len with
  | zero=>
   have e1:Dv.putAt els off (List.replicate 0 T.z)=els:=by simp [Dv.putAt]
   rw [e1,zrt hD];have:zme P C.H t (.slice (some ⟨C.σ o,off*1,none⟩) 0 c)=some (.val (.tuple #[]) C.H):=by unfold zme;rw [h2]
   rw [this];exact Made.same hr htup
  | succ m=>
   have hcz:Nat.beq (cellsOf z).length 1=true:=by
    have h5:=(zyx hok).1;rw [c2,hzT] at h5;have h6:(zzd (ofV z)).length=(cellsOf z).length:=by cases z<;>simp [ofV,zzd,cellsOf]
    rw [<-h6,h5];rfl
   have hcl:Cl C 1 (List.replicate (m+1) T.z) (rep (cellsOf z) (m+1)):=by
    have:=yrp (C:=C) (sz:=T.sz) hok (zv:=z) (by rw [hzT];exact zpy z) (m+1)
    rwa [c2] at this
   obtain ⟨C',a1,a2,a3,a4,a5⟩:=zbn hr (p:=off*1) (els':=Dv.putAt els off (List.replicate (m+1) T.z)) (vs:=rep (cellsOf z) (m+1)) hD hne (by
    simp only [Dv.putAt,tz5,tyw,tyx,tyz];omega) hcl.one (λcs hcl'=>⟨_,hcl'.putAt hcl (by rw [tyz];omega)⟩)
   refine ⟨C',.tuple #[],?_,a2,a3,a4.weak (λq hq=>by subst hq;exact ⟨c3,rfl⟩),.tup rfl λi d v h=>by simp at h⟩;unfold zme;simp only [h2,hz,hcz,a1];rfl
theorem zhf (hr:HR C) {t:TypeId} {x k d:DV} {vx vk v:Value} {base:Nat} {D':DH} (hx:DR C x vx) (hk:DR C k vk) (hd:DR C d v) (h:zuy P C.D base (zf2 P t) x (toV k) d=some D') :
  Made base (λo=>zyw (some x)=some o) C (rv undef) D' (hpV undef (zs6 P t vx vk v C.H)):=by
 unfold zuy at h;split at h;rotate_left
 .cases h
 rename_i kt z hM;split at h;rotate_left
 .cases h
 rename_i o;split at h;rotate_left
 .cases h
 rename_i ks vs hD;split at h;rotate_left
 .cases h
 rename_i kv hkv;split at h;rotate_left
 .cases h
 rename_i hb;obtain ⟨es,ck,e1,e2,e3,e4,e5,e6,e7⟩:=zbl hr hD hx;obtain ⟨et,u1,u2⟩:=yrh hM;have ek:=zl8 hk hkv;subst e1 ek;have hu:zs6 P t (.map (some (C.σ o))) vk v C.H=zfk P C.H (C.σ o) kt vk v es ck:=(by unfold zs6;rw [u1];simp only [e2]);rw [hu];unfold zfk;rw [zhc e5]
 have fin:∀ (es':List MapEntry) (ck':Nat) (ks':List Value) (vs':List DV),es'.length=ks'.length->vs'.length=ks'.length->(∀ (i:Nat) (e:MapEntry) (k:Value),es'[i]? =some e->ks'[i]? =some k->e.key=k)->(∀ (i:Nat) (e:MapEntry) (d:DV),es'[i]? =some e->vs'[i]? =some d->DR C d e.val) ->
   Made base (λp=>zyw (some (.mp o))=some p) C (rv undef) (C.D.set o (.map ks' vs')) (some (.val undef (C.H.put (C.σ o) (.map es' ck')))):=by
  intro es' ck' ks' vs' f1 f2 f3 f4
  obtain ⟨C',a1,a2,a3,a4,a5,a6⟩:=hr.put (x':=.map ks' vs') (B:=.map es' ck') hD (λe s l h=>by simp at h) (λe s l h=>by simp at h) rfl (λc e k h=>by simp at h) (λC' nx hg hσ=>⟨es',ck',hg,f1,f2,f3,λi e d g1 g2=>(f4 i e d g1 g2).mono nx hr⟩)
  exact ⟨C',undef,by rw [a1],a2,a4,a5.weak (λq hq=>by subst hq;exact ⟨hb,rfl⟩),zv0 _⟩
 split at h
 .rename_i i hf;split at h
  .rename_i k' hk';split at h
   .rename_i hsm;simp only [tza] at h;subst h;obtain ⟨e,he⟩:=zw1 (l:=es) (i:=i) (by have:=zyr hk';omega);have hke:=e6 i e k' he hk';simp only [hf,he];rw [hke,hsm];refine fin _ _ _ _ (by simp [e3]) (by simp [e4]) (λj e' k2 g1 g2=>?_) (λj e' d' g1 g2=>?_)
    .grind
    grind
   .cases h
  .cases h
 .rename_i hf;simp only [tza] at h;subst h;simp only [hf];refine fin _ _ _ _ (by simp [e3]) (by simp [e4]) (λj e' k2 g1 g2=>?_) (λj e' d' g1 g2=>?_)
  .grind
  grind
 .cases h
end Go.Dv
namespace Go.Dv
open Go Go.Sim
variable {W:Nat->Prop} {C C' C'':Ctx} {P:Program} {tm:Trie DV} {tmH:Trie Value} {base:Nat}
def xm8 (C:Ctx) (d:DV) (D':DH) (r:Option ARes):Prop:=D'=C.D/\∃ v,r=some (.val v C.H)/\DR C d v
theorem zyi {D D':DH} {o:Option DV} {d:DV} (h:zv3 D o=some (.val d D')):o=some d/\D'=D:=by
 cases o with
 | none=>simp [zv3] at h
 | some x=>simp only [zv3,tza,DRes.val.injEq] at h;exact ⟨by rw [h.1],h.2.symm⟩
theorem yyl (ht:TR C tm tmH) {x:Operand} {d:DV} (h:zzl tm x=some d):∃ v,znl P tmH C.H x=some (.val v C.H)/\DR C d v:=by
 obtain ⟨v,h1,h2⟩:=zzu (P:=P) ht h;exact ⟨v,by unfold znl;rw [h1];rfl,h2⟩
theorem zgg (hr:HR C) (ht:TR C tm tmH) {op:Op} {d:DV} {D':DH} (hc:zz7 op=.pure∨zz7 op=.read) (h:dop P base tm C.D op=some (.val d D')):xm8 C d D' (zw4 op P tmH C.H):=by
 cases op with
 | move x=>
  obtain ⟨h1,rfl⟩:=zyi h;exact ⟨rfl,yyl ht h1⟩
 | assign x=>
  obtain ⟨h1,rfl⟩:=zyi h;exact ⟨rfl,yyl ht h1⟩
 | pick c a b=>
  obtain ⟨h1,rfl⟩:=zyi h;refine ⟨rfl,?_⟩;show ∃ v,zm4 P tmH C.H c a b=_/\_;cases hcv:zzl tm c with
  | none=>rw [hcv] at h1;simp [yva] at h1
  | some dc=>
   obtain ⟨vc,c1,c2⟩:=zzu (P:=P) ht hcv;rw [hcv] at h1;unfold yva at h1;unfold zm4;split at h1
   .rename_i heq;simp only [tza] at heq;subst heq;rw [c1,zf3 c2];obtain ⟨v,g1,g2⟩:=zzu (P:=P) ht h1;exact ⟨v,by simp only [g1];rfl,g2⟩
   .rename_i heq;simp only [tza] at heq;subst heq;rw [c1,zf3 c2];obtain ⟨v,g1,g2⟩:=zzu (P:=P) ht h1;exact ⟨v,by simp only [g1];rfl,g2⟩
   .cases h1
 | build t ps=>
  obtain ⟨h1,rfl⟩:=zyi h;exact ⟨rfl,yrl ht h1⟩
 | load t a=>
  simp only [dop] at h;split at h
  .rename_i n hn;obtain ⟨h1,rfl⟩:=zyi h;obtain ⟨p,h2,h3⟩:=tzh.1 h1;obtain ⟨vp,g1,g2⟩:=zzu (P:=P) ht h2;obtain ⟨b,off,v,q1,q2,q3⟩:=yyg hr hn g2 h3;refine ⟨rfl,v,?_,q3⟩;show znm P tmH C.H t a=_;unfold znm;rw [g1];simp only [tzn,q1,q2];rfl
  .cases h
 | nilCheck x=>
  obtain ⟨h1,rfl⟩:=zyi h;obtain ⟨p,h2,h3⟩:=tzh.1 h1;obtain ⟨vp,g1,g2⟩:=zzu (P:=P) ht h2;obtain ⟨v,q1,q2⟩:=yco g2 h3;refine ⟨rfl,v,?_,q2⟩;show zw3 P tmH C.H x=_;unfold zw3;rw [g1];simp only [tzn,q1];rfl
 | binOp op t x y t'=>
  obtain ⟨h1,rfl⟩:=zyi h;refine ⟨rfl,?_⟩;cases hx:zzl tm x with
  | none=>rw [hx] at h1;simp [ykn,ys7] at h1
  | some dx=>
   cases hy:zzl tm y with
   | none=>rw [hx,hy] at h1;unfold ykn at h1;split at h1<;>first | (simp only [ys7] at h1;split at h1<;>simp at h1;done) | (unfold zsp at h1;split at h1<;>first | (cases h1;done) | (rename_i q;cases q))
   | some dy=>
    rw [hx,hy] at h1;obtain ⟨vx,g1,g2⟩:=zzu (P:=P) ht hx;obtain ⟨vy,g3,g4⟩:=zzu (P:=P) ht hy;obtain ⟨v,q1,q2⟩:=ycp g2 g4 h1;refine ⟨v,?_,q2⟩;show ysr P tmH C.H op t x y=_;unfold ysr;simp only [g1,g3,q1];rfl
 | unOp op t x=>
  obtain ⟨h1,rfl⟩:=zyi h;refine ⟨rfl,?_⟩;cases hx:zzl tm x with
  | none=>rw [hx] at h1;simp [dUn] at h1
  | some dx=>
   rw [hx] at h1;obtain ⟨vx,g1,g2⟩:=zzu (P:=P) ht hx;obtain ⟨v,q1,q2⟩:=xvb g2 h1;refine ⟨v,?_,q2⟩;show oUn P tmH C.H op x=_;unfold oUn;simp only [g1,tzn,q1];rfl
 | convert s t x=>
  obtain ⟨h1,rfl⟩:=zyi h;obtain ⟨p,h2,h3⟩:=tzh.1 h1;obtain ⟨vp,g1,g2⟩:=zzu (P:=P) ht h2;obtain ⟨v,q1,q2⟩:=ykt hr g2 h3;refine ⟨rfl,v,?_,q2⟩;show zjg P tmH C.H s t x=_;unfold zjg;rw [g1];simp only [tzn,q1];rfl
 | makeFunc fn a b=>
  change zbb C.D fn (zy5 tm a.toList) (zy5 tm b.toList)=some (.val d D') at h;unfold zbb at h;split at h
  .rename_i g;split at h
   .rename_i l hl;split at h
    .rename_i m hm;simp only [tza,DRes.val.injEq] at h;obtain ⟨rfl,rfl⟩:=h;obtain ⟨vs,g1,g2⟩:=zvp (P:=P) ht hl;obtain ⟨ws,g3,g4⟩:=zvp (P:=P) ht hm;refine ⟨rfl,.func (.func g) ⟨vs⟩ ⟨ws⟩,?_,.fn g2.1 g4.1 g2.2 g4.2⟩;show zm5 P tmH C.H (.func g) a b=_;unfold zm5;simp only [g1,g3]
    .cases h
   .cases h
  .cases h
 | slice t x lo hi mx=>
  obtain ⟨h1,rfl⟩:=zyi h;exact ⟨rfl,yvk ht h1⟩
 | fieldAddr s x f=>
  simp only [dop] at h;split at h
  .rename_i o ft hf;obtain ⟨h1,rfl⟩:=zyi h;obtain ⟨p,h2,h3⟩:=tzh.1 h1;obtain ⟨vp,g1,g2⟩:=zzu (P:=P) ht h2;obtain ⟨v,q1,q2⟩:=yve hf g2 h3;refine ⟨rfl,v,?_,q2⟩;show zxd P tmH C.H s x f=_;unfold zxd;simp only [g1,q1];rfl
  .cases h
 | field t x f=>
  obtain ⟨h1,rfl⟩:=zyi h;refine ⟨rfl,?_⟩;cases hx:zzl tm x with
  | none=>rw [hx] at h1;simp [zn4] at h1
  | some dx=>
   rw [hx] at h1;obtain ⟨vx,g1,g2⟩:=zzu (P:=P) ht hx;obtain ⟨v,q1,q2⟩:=yrf g2 h1;refine ⟨v,?_,q2⟩;show zsf P tmH C.H t x f=_;unfold zsf;simp only [g1,q1];rfl
 | indexAddr t x i=>
  obtain ⟨h1,rfl⟩:=zyi h;refine ⟨rfl,?_⟩;cases hx:zzl tm x with
  | none=>rw [hx] at h1;simp [xxu] at h1
  | some dx=>
   rw [hx] at h1;simp only [xxu] at h1;split at h1
   .rename_i n hn;obtain ⟨di,h2,h3⟩:=tzh.1 hn;obtain ⟨vx,g1,g2⟩:=zzu (P:=P) ht hx;obtain ⟨vi,g3,g4⟩:=zzu (P:=P) ht h2;obtain ⟨kk,rfl⟩:=zgc g4 h3;obtain ⟨v,q1,q2⟩:=yvf (kk:=kk) g2 h1;refine ⟨v,?_,q2⟩;show zxe P tmH C.H t x i=_;unfold zxe;simp only [g1,g3,q1];rfl
   .cases h1
 | index t x i=>
  obtain ⟨h1,rfl⟩:=zyi h;refine ⟨rfl,?_⟩;cases hx:zzl tm x with
  | none=>rw [hx] at h1;simp [zvb] at h1
  | some dx=>
   cases hi:zzl tm i with
   | none=>rw [hx,hi] at h1;unfold zvb at h1;split at h1<;>simp at h1
   | some di=>
    rw [hx,hi] at h1;obtain ⟨vx,g1,g2⟩:=zzu (P:=P) ht hx;obtain ⟨vi,g3,g4⟩:=zzu (P:=P) ht hi;obtain ⟨v,q1,q2⟩:=yrg g2 g4 h1;refine ⟨v,?_,q2⟩;show zsg P tmH C.H t x i=_;unfold zsg;simp only [g1,g3,q1];rfl
 | lookup t m k ok=>
  simp only [dop] at h;split at h
  .rename_i dm hm;split at h
   .rename_i dk hk;obtain ⟨h1,rfl⟩:=zyi h;obtain ⟨vm,g1,g2⟩:=zzu (P:=P) ht hm;obtain ⟨vk,g3,g4⟩:=zzu (P:=P) ht hk;obtain ⟨v,q1,q2⟩:=yvi hr g2 g4 h1;refine ⟨rfl,v,?_,q2⟩;show zvi P tmH C.H t m k ok=_;unfold zvi;simp only [g1,g3,q1];rfl
   .cases h
  .cases h
 | extract x i=>
  obtain ⟨h1,rfl⟩:=zyi h;obtain ⟨p,h2,h3⟩:=tzh.1 h1;obtain ⟨vp,g1,g2⟩:=zzu (P:=P) ht h2;obtain ⟨v,q1,q2⟩:=zbk g2 h3;refine ⟨rfl,v,?_,q2⟩;show zv5 P tmH C.H x i=_;unfold zv5;rw [g1];simp only [tzn,q1];rfl
 | call c=>
  change zpu P tm C.D base c=some (.val d D') at h;unfold zpu at h;split at h;rotate_left
  .cases h
  rename_i l hl;obtain ⟨vs,g1,g2⟩:=zvp (P:=P) ht hl;have key:∀ b,c.callee=.builtin b->zw4 (.call c) P tmH C.H=zyd P c.argTypes.toList vs C.H b:=(by intro b hb;show ztz P tmH C.H c=_;unfold ztz;rw [g1,hb]);split at h
  .rename_i b hb;rw [key b hb];obtain ⟨cal,ca,ct⟩:=c;simp only at hb;subst hb;cases b<;>simp only [zz7,reduceCtorEq,or_self] at hc<;>simp only [zx1,reduceCtorEq] at h
   .split at h
    .rename_i t ts hts;split at h
     .rename_i x;obtain ⟨h1,rfl⟩:=zyi h
      obtain ⟨vx,hvx⟩:∃ vx,vs=[vx]:=by
       match vs,g2.1 with
       | [v],_=>exact ⟨v,rfl⟩
      subst hvx;obtain ⟨v,q1,q2⟩:=ycq hr (g2.2 0 _ _ rfl rfl) h1;refine ⟨rfl,v,?_,q2⟩;simp only [hts,zyd,on1,q1];rfl
     .cases h
    .cases h
   .obtain ⟨h1,rfl⟩:=zyi h;obtain ⟨v,x,l',rfl,q1,q2⟩:=zp0 g2 h1;refine ⟨rfl,v,?_,q2⟩;simp only [zyd,zon,q1];rfl
   .obtain ⟨h1,rfl⟩:=zyi h;obtain ⟨v,x,l',rfl,q1,q2⟩:=zp0 g2 h1;refine ⟨rfl,v,?_,q2⟩;simp only [zyd,zon,q1];rfl
  .rename_i f hf;obtain ⟨p,h2,h3⟩:=tzh.1 h;unfold zuz at h3;split at h3
   .simp at h3
   .split at h3<;>simp at h3
   .cases h3
  .cases h
 | _=>first | (simp [dop] at h;done) | (simp [zz7] at hc)
end Go.Dv
namespace Go.Dv
open Go Go.Sim
variable {W:Nat->Prop} {C C' C'':Ctx} {P:Program} {tm:Trie DV} {tmH:Trie Value} {base:Nat}
def OpW (Q:Par) (tm:Trie DV) (op:Op) (o:Nat):Prop:=
 match zz7 op with
 | .eff=>match zvo Q tm op with
  | none=>True
  | some p=>p=some o
 | _=>False
theorem Made.weak {Wo Wo':Nat->Prop} {d:DV} {D':DH} {r:Option ARes} (h:Made base Wo C d D' r) (hw:∀ o,Wo o->Wo' o):Made base Wo' C d D' r:=by
 obtain ⟨C',v,h1,h2,h3,h4,h5⟩:=h.ex;exact ⟨C',v,h1,h2,h3,h4.weak (λo g=>⟨g.1,hw o g.2⟩),h5⟩
theorem yrv (Q:Par) (hr:HR C) (ht:TR C tm tmH) {op:Op} {d:DV} {D':DH} (h:dop P base tm C.D op=some (.val d D')):Made base (OpW Q tm op) C d D' (zw4 op P tmH C.H):=by
 have same:zz7 op=.pure∨zz7 op=.read->Made base (OpW Q tm op) C d D' (zw4 op P tmH C.H):=λhc=>by
  obtain ⟨h1,v,h2,h3⟩:=zgg hr ht hc h;rw [h1,h2];exact Made.same hr h3
 cases op with
 | alloc e=>exact yro hr h
 | box e x=>
  cases hx:zzl tm x with
  | none=>simp only [dop,hx,ye6] at h;cases h
  | some dx=>
   obtain ⟨v,g1,g2⟩:=zzu (P:=P) ht hx;have:zw4 (.box e x) P tmH C.H=some (yfq C.H e v):=(by show yfr P tmH C.H e x=_;unfold yfr;rw [g1];rfl);rw [this];simp only [dop,hx] at h;exact yrn hr g2 h
 | buildSlice t len ps=>
  simp only [dop] at h;split at h
  .rename_i T hT;exact zig hr ht hT h
  .cases h
 | makeSlice t l c=>exact yku hr ht h
 | makeMap t r=>
  cases r with
  | none=>
   simp only [dop,tza,DRes.val.injEq] at h;obtain ⟨rfl,rfl⟩:=h;exact ycs hr
  | some x=>simp [dop] at h
 | store t a x=>
  refine (yvm hr ht h).weak (λo g=>?_);exact g
 | insert t m k v=>
  simp only [dop] at h;split at h
  .rename_i dm hm;split at h
   .rename_i dk hk;split at h
    .rename_i dv hv;obtain ⟨vm,g1,g2⟩:=zzu (P:=P) ht hm;obtain ⟨vk,g3,g4⟩:=zzu (P:=P) ht hk;obtain ⟨vv,g5,g6⟩:=zzu (P:=P) ht hv;cases hu:zuy P C.D base (zf2 P t) dm (toV dk) dv with
     | none=>rw [hu] at h;simp [hpD] at h
     | some D2=>
      rw [hu] at h;simp only [hpD,tza,DRes.val.injEq] at h;obtain ⟨rfl,rfl⟩:=h;have:zw4 (.insert t m k v) P tmH C.H=hpV undef (zs6 P t vm vk vv C.H):=(by show zwn P tmH C.H t m k v=_;unfold zwn;simp only [g1,g3,g5]);rw [this];refine (zhf hr g2 g4 g6 hu).weak (λo g=>?_);show zyw (zzl tm m)=some o;rw [hm];exact g
    .cases h
   .cases h
  .cases h
 | mapUpdate t m k v=>
  simp only [dop] at h;split at h
  .rename_i dm hm;split at h
   .rename_i dk hk;split at h
    .rename_i dv hv;obtain ⟨vm,g1,g2⟩:=zzu (P:=P) ht hm;obtain ⟨vk,g3,g4⟩:=zzu (P:=P) ht hk;obtain ⟨vv,g5,g6⟩:=zzu (P:=P) ht hv;cases hu:zuy P C.D base (zf2 P t) dm (toV dk) dv with
     | none=>rw [hu] at h;simp [hpD] at h
     | some D2=>
      rw [hu] at h;simp only [hpD,tza,DRes.val.injEq] at h;obtain ⟨rfl,rfl⟩:=h;have:zw4 (.mapUpdate t m k v) P tmH C.H=hpV undef (zs6 P t vm vk vv C.H):=(by show zwn P tmH C.H t m k v=_;unfold zwn;simp only [g1,g3,g5]);rw [this];refine (zhf hr g2 g4 g6 hu).weak (λo g=>?_);show zyw (zzl tm m)=some o;rw [hm];exact g
    .cases h
   .cases h
  .cases h
 | call c=>
  by_cases hc:zz7 (.call c)=.pure∨zz7 (.call c)=.read
  .exact same hc
  change zpu P tm C.D base c=some (.val d D') at h;unfold zpu at h;split at h
  .rename_i l hl;obtain ⟨vs,g1,g2⟩:=zvp (P:=P) ht hl;have key:∀ b,c.callee=.builtin b->zw4 (.call c) P tmH C.H=zyd P c.argTypes.toList vs C.H b:=(by intro b hb;show ztz P tmH C.H c=_;unfold ztz;rw [g1,hb]);split at h
   .rename_i b hb;rw [key b hb];obtain ⟨cal,ca,ct⟩:=c;simp only at hb;subst hb
    have arg0:∀ s x,l=[s,x]->∃ y ys,ca.toList=y::ys/\zzl tm y=some s:=by
     intro s x hlx;subst hlx;cases hca:ca.toList with
     | nil=>simp only [hca,zy5,tza] at hl;cases hl
     | cons y ys=>
      simp only [hca,zy5] at hl;split at hl
      .simp_all
      cases hl
    have two:∀ s x,l=[s,x]->∃ v w,vs=[v,w]/\DR C s v/\DR C x w:=by
     intro s x hlx;subst hlx
     match vs,g2 with
     | [v,w],g2=>exact ⟨v,w,rfl,g2.2 0 _ _ rfl rfl,g2.2 1 _ _ rfl rfl⟩
     | [],g2=>exact absurd g2.1 (by simp)
     | [_],g2=>exact absurd g2.1 (by simp)
     | _::_::_::_,g2=>exact absurd g2.1 (by simp)
    cases b<;>simp only [zx1,reduceCtorEq] at h<;>try (exact absurd (.inr rfl) hc)
    rotate_left
    .split at h;rotate_left
     .cases h
     rename_i t hats;split at h;rotate_left
     .cases h
     rename_i x
     obtain ⟨v,rfl,k1⟩:∃ v,vs=[v]/\DR C x v:=by
      match vs,g2 with
      | [v],g2=>exact ⟨v,rfl,g2.2 0 _ _ rfl rfl⟩
      | [],g2=>exact absurd g2.1 (by simp)
      | _::_::_,g2=>exact absurd g2.1 (by simp)
     obtain ⟨y,ys,k3,k4⟩:∃ y ys,ca.toList=y::ys/\zzl tm y=some x:=by
      cases hca:ca.toList with
      | nil=>simp only [hca,zy5,tza] at hl;cases hl
      | cons y ys=>
       simp only [hca,zy5] at hl;split at hl
       .simp_all
       cases hl
     have:zyd P ct.toList [v] C.H .clear=zme P C.H t v:=(by simp only [zyd,hats,on1]);rw [this];refine (yru hr k1 h).weak (λo g=>?_);show (match zvo Q tm (.call ⟨.builtin .clear,ca,ct⟩) with | none=>True | some p=>p=some o);simp only [zvo,k3,k4];exact g
    .split at h
     .rename_i t ts hats;split at h
      .rename_i s x;obtain ⟨v,w,rfl,k1,k2⟩:=two s x rfl;obtain ⟨y,ys,k3,k4⟩:=arg0 s x rfl;split at h
       .rename_i T hT;split at h
        .rename_i new hnew;split at h
         .rename_i hok;have:zyd P ct.toList [v,w] C.H .copy=zir P C.H t v w:=(by simp only [zyd,hats,on2]);rw [this];refine (ykv hr hT k1 (zgd hr k2 hnew) (tzx.1 hok) h).weak (λo g=>?_);show (match zvo Q tm (.call ⟨.builtin .copy,ca,ct⟩) with | none=>True | some p=>p=some o);simp only [zvo,k3,k4];exact g
         .cases h
        .cases h
       .cases h
      .cases h
     .cases h
    split at h;rotate_left
    .cases h
    rename_i st tx hats;split at h
    .rename_i hsrc;split at h
     .rename_i s x;obtain ⟨v,w,rfl,k1,k2⟩:=two s x rfl;obtain ⟨y,ys,k3,k4⟩:=arg0 s x rfl;split at h
      .rename_i T hT;split at h
       .rename_i new hnew;split at h
        .rename_i hok;cases hap:zwk C.D base T s new with
         | none=>rw [hap] at h;simp [zf9] at h
         | some q=>
          obtain ⟨q1,q2⟩:=q;rw [hap] at h;simp only [zf9,tza,DRes.val.injEq] at h;obtain ⟨rfl,rfl⟩:=h;have:zyd P ct.toList [v,w] C.H .append=zu3 (zs5 P C.H st v w):=(by simp only [zyd,hats,hsrc,on2]);rw [this];refine (yvn (tx:=tx) (x:=x) hr hT k1 (zgd hr k2 hnew) (tzx.1 hok) hap).weak (λo g=>?_);show (match zvo Q tm (.call ⟨.builtin .append,ca,ct⟩) with | none=>True | some p=>p=some o);simp only [zvo,k3,k4];exact g
        .cases h
       .cases h
      .cases h
     .cases h
    .cases h
   .rename_i f hf;obtain ⟨p,h2,h3⟩:=tzh.1 h;unfold zuz at h3;split at h3
    .simp at h3
    .split at h3<;>simp at h3
    .cases h3
   .cases h
  .cases h
 | _=>first | exact same (.inl rfl) | exact same (.inr rfl) | (simp [dop] at h;done)
def zbo (P:Program) (g:FuncId):Prop:=∃ fn c,P.funcs[g]? =some fn/\fn.body=some c/\(fn.name== "runtime.NumGoroutine")=false
theorem yym {g:FuncId} {args:List Value} (h:zbo P g):ymt P g args=some (.enter g args):=by
 obtain ⟨fn,c,h1,h2,h3⟩:=h;unfold ymt;simp only [h1,h2,h3];rfl
def zbp (r:DRes):Prop:=∃ d D,r=.val d D
theorem ztt {D:DH} {o:Option DV} {r:DRes} (h:zv3 D o=some r):zbp r:=by
 cases o with
 | none=>simp [zv3] at h
 | some x=>simp only [zv3,tza] at h;exact ⟨x,D,h.symm⟩
theorem zbq {d:DV} {o:Option DH} {r:DRes} (h:hpD d o=some r):zbp r:=by
 cases o with
 | none=>simp [hpD] at h
 | some x=>simp only [hpD,tza] at h;exact ⟨d,x,h.symm⟩
theorem ykw {D:DH} {o:Option DV} {r:DRes} (h:ye6 D o=some r):zbp r:=by
 unfold ye6 at h;split at h
 .split at h
  .simp only [tza] at h;exact ⟨_,_,h.symm⟩
  .cases h
 .cases h
theorem yrw {D:DH} {T:SlT} {d:DV} {x:List DV} {r:DRes} (h:ys6 D base T d x=some r):zbp r:=by
 unfold ys6 at h;split at h
 .split at h
  .split at h
   .simp only [tza] at h;exact ⟨_,_,h.symm⟩
   .cases h
  .cases h
 .split at h
  .split at h
   .simp only [tza] at h;exact ⟨_,_,h.symm⟩
   .cases h
  .cases h
 .cases h
theorem yvo {D:DH} {T:Option SlT} {d:DV} {r:DRes} (h:zi6 D base T d=some r):zbp r:=by
 unfold zi6 at h;split at h
 .split at h
  .split at h
   .split at h
    .simp only [tza] at h;exact ⟨_,_,h.symm⟩
    .cases h
   .cases h
  .cases h
 .cases h
theorem zn7 {D:DH} {ats:List TypeId} {args:List DV} {b:Builtin} {r:DRes} (h:zx1 P D base ats args b=some r):zbp r:=by
 cases b<;>simp only [zx1,reduceCtorEq] at h
 rotate_left
 .split at h
  .split at h
   .exact yvo h
   .cases h
  .cases h
 .split at h
  .split at h
   .split at h
    .split at h
     .split at h
      .exact yrw h
      .cases h
     .cases h
    .cases h
   .cases h
  .cases h
 .split at h
  .split at h
   .exact ztt h
   .cases h
  .cases h
 .exact ztt h
 .exact ztt h
 split at h;rotate_left
 .cases h
 split at h
 .split at h
  .split at h
   .split at h
    .split at h
     .rename_i new _ _;generalize zwk D base _ _ new=q at h;cases q with
      | none=>simp [zf9] at h
      | some q=>
       obtain ⟨a,b⟩:=q;simp only [zf9,tza] at h;exact ⟨_,_,h.symm⟩
     .cases h
    .cases h
   .cases h
  .cases h
 .cases h
theorem yrx {D:DH} {op:Op} {r:DRes} (hc:∀ c,op≠.call c) (h:dop P base tm D op=some r):zbp r:=by
 cases op with
 | call c=>exact absurd rfl (hc c)
 | alloc e=>
  simp only [dop,zl2] at h;split at h
  .split at h
   .simp only [tza] at h;exact ⟨_,_,h.symm⟩
   .cases h
  .cases h
 | box e x=>exact ykw h
 | buildSlice t len ps=>
  simp only [dop] at h;split at h
  .unfold zx4 at h;split at h
   .split at h
    .obtain ⟨_,_,q⟩:=tzf.1 h;exact ⟨_,_,q.symm⟩
    .cases h
   .cases h
  .cases h
 | makeSlice t l c=>
  change zea D (tSl P t) (zzl tm l) (zzl tm c)=_ at h;unfold zea zro at h;split at h
  .split at h
   .split at h
    .split at h
     .simp only [tza] at h;exact ⟨_,_,h.symm⟩
     .cases h
    .cases h
   .cases h
  .cases h
 | makeMap t r'=>
  cases r' with
  | none=>simp only [dop,tza] at h;exact ⟨_,_,h.symm⟩
  | some x=>simp [dop] at h
 | makeFunc fn a b=>
  change zbb D fn (zy5 tm a.toList) (zy5 tm b.toList)=_ at h;unfold zbb at h;split at h
  .split at h
   .split at h
    .simp only [tza] at h;exact ⟨_,_,h.symm⟩
    .cases h
   .cases h
  .cases h
 | store t a x=>
  change zqw D base (zyl P t) (zzl tm a) (zzl tm x)=_ at h;unfold zqw at h;split at h
  .split at h
   .split at h
    .exact zbq h
    .cases h
   .cases h
  .cases h
 | insert t m k v=>
  simp only [dop] at h;split at h
  .split at h
   .split at h
    .exact zbq h
    .cases h
   .cases h
  .cases h
 | mapUpdate t m k v=>
  simp only [dop] at h;split at h
  .split at h
   .split at h
    .exact zbq h
    .cases h
   .cases h
  .cases h
 | load t a=>
  simp only [dop] at h;split at h
  .exact ztt h
  .cases h
 | fieldAddr s x f=>
  simp only [dop] at h;split at h
  .exact ztt h
  .cases h
 | lookup t m k ok=>
  simp only [dop] at h;split at h
  .split at h
   .exact ztt h
   .cases h
  .cases h
 | _=>first | exact ztt h | (simp [dop] at h;done)
theorem zel (ht:TR C tm tmH) {op:Op} {g:FuncId} {args:List DV} (h:dop P base tm C.D op=some (.enter g args)) (hg:zbo P g):∃ vs,zw4 op P tmH C.H=some (.enter g vs)/\DRs C args vs/\zz7 op=.eff/\∀ Q,zvo Q tm op=if (Q.ann g).raw=true then none else some none:=by
 by_cases hcall:∃ c,op=.call c;rotate_left
 .obtain ⟨d,D,q⟩:=yrx (λc e=>hcall ⟨c,e⟩) h;cases q
 obtain ⟨c,rfl⟩:=hcall;change zpu P tm C.D base c=some (.enter g args) at h;unfold zpu at h;split at h
 .rename_i l hl;obtain ⟨vs,g1,g2⟩:=zvp (P:=P) ht hl;split at h
  .obtain ⟨d,D,q⟩:=zn7 h;cases q
  .rename_i f hf;obtain ⟨p,h2,h3⟩:=tzh.1 h;obtain ⟨v,e1,e2⟩:=zzu (P:=P) ht h2;unfold zuz at h3;split at h3
   .rename_i g' a b;simp only [tza,DRes.enter.injEq] at h3;obtain ⟨rfl,rfl⟩:=h3;cases e2 with
    | @fn _ _ _ as bs ha hb q1 q2=>
     refine ⟨as++vs++bs,?_,(DRs.append (DRs.append ⟨ha,q1⟩ g2) ⟨hb,q2⟩),?_,λQ=>?_⟩
     .show ztz P tmH C.H c=_;unfold ztz;rw [g1,hf];simp only [e1];exact yym hg
     .obtain ⟨cal,ca,ct⟩:=c;simp only at hf;subst hf;rfl
     obtain ⟨cal,ca,ct⟩:=c;simp only at hf;subst hf;simp only [zvo,h2];cases (Q.ann g').raw<;>rfl
   .split at h3<;>simp at h3
   .cases h3
  .cases h
 .cases h
theorem yry (ht:TR C tm tmH) {op:Op} {l:Nat} {args:List DV} (h:dop P base tm C.D op=some (.yield l args)):∃ vs,zw4 op P tmH C.H=some (.yield (C.σ l) vs)/\DRs C args vs:=by
 by_cases hcall:∃ c,op=.call c;rotate_left
 .obtain ⟨d,D,q⟩:=yrx (λc e=>hcall ⟨c,e⟩) h;cases q
 obtain ⟨c,rfl⟩:=hcall;change zpu P tm C.D base c=some (.yield l args) at h;unfold zpu at h;split at h
 .rename_i as hl;obtain ⟨vs,g1,g2⟩:=zvp (P:=P) ht hl;split at h
  .obtain ⟨d,D,q⟩:=zn7 h;cases q
  .rename_i f hf;obtain ⟨p,h2,h3⟩:=tzh.1 h;obtain ⟨v,e1,e2⟩:=zzu (P:=P) ht h2;unfold zuz at h3;split at h3
   .simp at h3
   .split at h3
    .rename_i hD;simp only [tza,DRes.yield.injEq] at h3;obtain ⟨rfl,rfl⟩:=h3;cases e2 with
     | yl ho one g=>
      have:=g _ _ _ _ _ _ _ hD;subst this;refine ⟨vs,?_,g2⟩;show ztz P tmH C.H c=_;unfold ztz;rw [g1,hf];simp only [e1];rfl
    .cases h3
   .cases h3
  .cases h
 .cases h
end Go.Dv
namespace Go.Dv
open Go Go.Sim
variable {W:Nat->Prop} {C C' C'':Ctx} {P:Program} {tm:Trie DV} {tmH:Trie Value} {base:Nat}
theorem zle {g:DV->Option (FV×List Nat)}:∀ {l:List DV} {xs:List FV} {is:List Nat},zsq g l=some (xs,is)->xs.length=l.length/\(∀ (i:Nat) (d:DV),l[i]? =some d->∃ x ids,g d=some (x,ids)/\xs[i]? =some x/\∀ o∈ids,o∈is)/\∀ o∈is,∃ d∈l,∃ x ids,g d=some (x,ids)/\o∈ids
 | [],xs,is,h=>by
  simp only [zsq,tza,tzl] at h;obtain ⟨rfl,rfl⟩:=h;exact ⟨rfl,λi d h=>by simp at h,λo h=>by cases h⟩
 | d::l,xs,is,h=>by
  simp only [zsq] at h;split at h
  .rename_i x i hx;split at h
   .rename_i xs' is' hl;simp only [tza,tzl] at h;obtain ⟨rfl,rfl⟩:=h;obtain ⟨h1,h2,h3⟩:=zle hl;refine ⟨by simp [h1],λk e hk=>?_,λo ho=>?_⟩
    .grind
    grind
   .cases h
  .cases h
theorem zgh {S:Nat->Prop} {H:Hp} {x:FV} {v:Value} (h:FR S H x v):FR S H (zud x) v:=by
 unfold zud;split
 .cases h;exact .nil
 .exact h
theorem zp2 {x:FV} (h:zrm x=true):zrm (zud x)=true:=by
 unfold zud;split
 .rfl
 exact h
theorem ykx (hr:HR C) {S':Nat->Prop} (hS:∀ b,C.S b->S' b):∀ k,
  (∀ (d:DV) (v:Value) (x:FV) (ids:List Nat),(∀ l,d≠.agg l)->DR C d v->frz base C.D k d=some (x,ids)->(∀ o∈ids,∀ y,C.D[o]? =some y->zqm y=true->S' (C.σ o))->FR S' C.H x v/\(zwz d=true->zrm x=true)) /\
  (∀ (sz:Nat) (d:DV) (w:Nat->Value) (x:FV) (ids:List Nat),zrn sz d=true->(∀ (j:Nat) (y:DV),(zzd d)[j]? =some y->DR C y (w j))->frz base C.D k d=some (x,ids)->(∀ o∈ids,∀ y,C.D[o]? =some y->zqm y=true->S' (C.σ o)) ->
   (zxl x).length=sz/\∀ (j:Nat) (y:FV),(zxl x)[j]? =some y->FR S' C.H y (w j)/\zrm y=true):=by
 have plain:∀ (x:FV) (v:Value),DR C (.f x) v->FR S' C.H (zud x) v:=λx v h=>by
  cases h with
  | f h=>exact zgh (h.mono hS (λ_ _=>rfl))
 intro k
 induction k with
 | zero=>
  have first:∀ (d:DV) (v:Value) (x:FV) (ids:List Nat),(∀ l,d≠.agg l)->DR C d v->frz base C.D 0 d=some (x,ids)->(∀ o∈ids,∀ y,C.D[o]? =some y->zqm y=true->S' (C.σ o))->FR S' C.H x v/\(zwz d=true->zrm x=true):=by
   intro d v x ids hna hd h _;cases d<;>simp only [frz,tza,tzl,reduceCtorEq] at h
   obtain ⟨rfl,rfl⟩:=h;exact ⟨plain _ _ hd,zp2⟩
  refine ⟨first,λsz d w x ids hok hw h hids=>?_⟩;obtain ⟨l1,l2⟩:=zyx hok;cases d<;>simp only [frz,tza,tzl,reduceCtorEq] at h
  rename_i y;obtain ⟨rfl,rfl⟩:=h;have h1:=l2 (.f y) (tzw.2 rfl)
  have hc:zxl (zud y)=[zud y]:=by
   have:=zp2 h1;cases hq:zud y with
   | agg=>rw [hq] at this;simp [zrm] at this
   | _=>rfl
  rw [hc];refine ⟨by simpa [zzd] using l1,λj z hz=>?_⟩;cases j with
  | zero=>simp at hz;subst hz;exact ⟨plain _ _ (hw 0 _ rfl),zp2 h1⟩
  | succ j=>simp at hz
 | succ k ih=>
  obtain ⟨ih1,ih2⟩:=ih
  have lst:∀ (o off len:Nat) (sz:Nat) (els:List DV) (cs:List Value) (xs:List FV) (is:List Nat) (b cap:Nat),C.H.row b=some cs->S' b->Cl C sz els cs->0<sz∨len=0->off+len<=els.length->(cap<U->len<=cap) ->
    zsq (frz base C.D k) ((els.drop off).take len)=some (xs,is)->(∀ o∈is,∀ y,C.D[o]? =some y->zqm y=true->S' (C.σ o))->FR S' C.H (.lst xs) (.slice (some ⟨b,off*sz,none⟩) len cap):=by
   intro o off len sz els cs xs is b cap hrow hb hc hsz hle hcap hf hids
   obtain ⟨f1,f2,f3⟩:=zle hf
   have hlen:((els.drop off).take len).length=len:=by simp;omega
   have hx:∀ (i:Nat) (x:FV),xs[i]? =some x->∃ d ids,els[off+i]? =some d/\frz base C.D k d=some (x,ids)/\∀ o∈ids,o∈is:=λi x hx=>by
    obtain ⟨d,hd⟩:=zw1 (l:=(els.drop off).take len) (i:=i) (by rw [<-f1];exact zyr hx)
    obtain ⟨y,ids,a1,a2,a3⟩:=f2 i d hd
    rw [a2] at hx
    simp only [tza] at hx
    subst hx
    rw [tyb] at hd
    split at hd
    .simp_all
    .cases hd
   have hcell:∀ (i:Nat) (x:FV),xs[i]? =some x->(zxl x).length=sz/\∀ (j:Nat) (y:FV),(zxl x)[j]? =some y->cs[off*sz+i*sz+j]? =some ((cs[off*sz+i*sz+j]?).getD undef)/\FR S' C.H y ((cs[off*sz+i*sz+j]?).getD undef)/\zrm y=true:=λi x hxi=>by
    obtain ⟨d,ids,a1,a2,a3⟩:=hx i x hxi
    have hok:=hc.ok _ d a1
    obtain ⟨q1,q2⟩:=ih2 sz d (λj=>(cs[(off+i)*sz+j]?).getD undef) x ids hok (λj y hy=>by
     obtain ⟨w,w1,w2⟩:=hc.el _ d j y a1 hy
     rw [w1];exact w2) a2 (λo ho=>hids o (a3 o ho))
    refine ⟨q1,λj y hy=>?_⟩
    obtain ⟨z,hz⟩:=zw1 (l:=zzd d) (i:=j) (by rw [(zyx hok).1,<-q1];exact zyr hy)
    obtain ⟨w,w1,w2⟩:=hc.el _ d j z a1 hz
    have e:=q2 j y hy
    rw [txb] at w1 e
    rw [w1] at e ⊢
    exact ⟨rfl,e.1,e.2⟩
   by_cases hl0:len=0
   .subst hl0
    have:xs=[]:=tzy (by rw [f1];simp)
    subst this
    refine .lst (sz:=1) (λ_ _=>undef) rfl hb hrow (by omega) ?_ hcap (λi x h=>by simp at h) (λi x j y h=>by simp at h) (λi x j y h=>by simp at h)
    rw [hc.len]
    have:=txn sz (show off<=els.length by omega)
    simpa using this
   .have hz:0<sz:=by omega
    refine .lst (λi j=>(cs[off*sz+i*sz+j]?).getD undef) (by rw [f1,hlen]) hb hrow hz ?_ hcap (λi x h=>(hcell i x h).1) (λi x j y h1 h2=>?_) (λi x j y h1 h2=>((hcell i x h1).2 j y h2).2.1)
    .rw [f1,hlen,hc.len,<-txb];exact txn _ hle
    .obtain ⟨q1,q2,q3⟩:=(hcell i x h1).2 j y h2
     exact ⟨q1,hc.one _ (tzg q1),q3⟩
  have first:∀ (d:DV) (v:Value) (x:FV) (ids:List Nat),(∀ l,d≠.agg l)->DR C d v->frz base C.D (k+1) d=some (x,ids)->(∀ o∈ids,∀ y,C.D[o]? =some y->zqm y=true->S' (C.σ o))->FR S' C.H x v/\(zwz d=true->zrm x=true):=by
   intro d v x ids hna hd h hids;cases d with
   | f y=>
    simp only [frz,tza,tzl] at h;obtain ⟨rfl,rfl⟩:=h;exact ⟨plain _ _ hd,zp2⟩
   | agg l=>exact absurd rfl (hna l)
   | row o off len cap=>
    simp only [frz] at h;split at h
    .rename_i sz els hD;split at h
     .rename_i hb;obtain ⟨⟨xs,is⟩,f1,f2⟩:=tzf.1 h;simp only [tzl] at f2;obtain ⟨rfl,rfl⟩:=f2;cases hd with
      | row ho one g=>
       obtain ⟨e1,g1,g2,g3⟩:=g _ _ hD;obtain ⟨cs,h1,h2⟩:=zbi hr hD;subst e1;refine ⟨?_,λ_=>rfl⟩;exact lst o off len sz els cs xs is (C.σ o) cap h1 (hids o (tz0 ..) _ hD rfl) h2 (.inl hb.2.2) hb.2.1 (λ_=>g2) f1 (λp hp=>hids p (tzq _ hp))
     .cases h
    .cases h
   | apl o len=>
    simp only [frz] at h;split at h
    .rename_i e sz els hD;split at h
     .rename_i hb;obtain ⟨⟨xs,is⟩,f1,f2⟩:=tzf.1 h;simp only [tzl] at f2;obtain ⟨rfl,rfl⟩:=f2;cases hd with
      | apl ho one g=>
       obtain ⟨hb1,rfl,hb3⟩:=hb;have e1:=(g.2 _ _ _ hD).2 rfl;refine ⟨?_,λ_=>rfl⟩;by_cases hne:els=[]
       .subst hne;simp only [zsq,tza,tzl] at f1;obtain ⟨rfl,rfl⟩:=f1;rw [e1];exact .nil
       obtain ⟨cs,h1,h2⟩:=zgb hr hD hne;obtain ⟨l0,hl0⟩:∃ l0,els.length=l0+1:=⟨els.length-1,by cases els with | nil=>exact absurd rfl hne | cons=>simp⟩;have hv:v=.slice (some ⟨C.σ o,0*sz,none⟩) els.length (U+2*C.σ o):=by rw [e1,hl0,Nat.zero_mul];rfl
       rw [hv];refine lst o 0 els.length sz els cs xs is (C.σ o) _ h1 (hids o (tz0 ..) _ hD ?_) h2 (.inl hb3) (by omega) (λg=>by omega) ?_ (λp hp=>hids p (tzq _ hp))
       .cases els with
        | nil=>exact absurd rfl hne
        | cons=>rfl
       .grind
     .cases h
    .cases h
   | _=>simp [frz] at h
  refine ⟨first,λsz d w x ids hok hw h hids=>?_⟩;obtain ⟨l1,l2⟩:=zyx hok;by_cases hag:∃ l,d=.agg l
  .obtain ⟨l,rfl⟩:=hag;simp only [frz] at h;split at h
   .rename_i hone;obtain ⟨⟨xs,is⟩,f1,f2⟩:=tzf.1 h;simp only [tzl] at f2;obtain ⟨rfl,rfl⟩:=f2;obtain ⟨g1,g2,g3⟩:=zle f1;refine ⟨by rw [<-l1];exact g1,λj y hy=>?_⟩;change xs[j]? =some y at hy;obtain ⟨d,hd⟩:=zw1 (l:=l) (i:=j) (by rw [<-g1];exact zyr hy);obtain ⟨x,ids',a1,a2,a3⟩:=g2 j d hd;rw [a2] at hy;simp only [tza] at hy;subst hy;have hod:=l2 d (tzg hd);have:=ih1 d (w j) x ids' (λl' e=>by subst e;simp [zwz] at hod) (hw j d hd) a1 (λo ho=>hids o (a3 o ho));exact ⟨this.1,this.2 hod⟩
   .cases h
  .have hna:∀ l,d≠.agg l:=λl e=>hag ⟨l,e⟩;have hcd:zzd d=[d]:=by cases d<;>first | rfl | exact absurd rfl (hna _)
   rw [hcd] at l1 l2;have hod:=l2 d (tzw.2 rfl);obtain ⟨q1,q2⟩:=first d (w 0) x ids hna (hw 0 d (by rw [hcd];rfl)) h hids
   have hcf:zxl x=[x]:=by
    have:=q2 hod;cases x with
    | agg=>simp [zrm] at this
    | _=>rfl
   rw [hcf];refine ⟨l1,λj y hy=>?_⟩;cases j with
   | zero=>simp at hy;subst hy;exact ⟨q1,q2 hod⟩
   | succ j=>simp at hy
theorem yct:∀ k {d:DV} {x:FV} {ids:List Nat} {D:DH},frz base D k d=some (x,ids)->∀ o∈ids,base<=o/\((∃ sz els,D[o]? =some (.arr sz els))∨∃ e sz els,D[o]? =some (.app e sz els)):=by
 intro k
 induction k with
 | zero=>
  intro d x ids D h;cases d<;>simp only [frz,tza,tzl,reduceCtorEq] at h
  obtain ⟨_,rfl⟩:=h;intro o ho;cases ho
 | succ k ih=>
  have key:∀ {l:List DV} {xs:List FV} {is:List Nat} {D:DH},zsq (frz base D k) l=some (xs,is)->∀ o∈is,base<=o/\((∃ sz els,D[o]? =some (.arr sz els))∨∃ e sz els,D[o]? =some (.app e sz els)):=(by intro l xs is D h o ho;obtain ⟨_,_,h3⟩:=zle h;obtain ⟨d,_,x,ids,a,b⟩:=h3 o ho;exact ih a o b);intro d x ids D h;cases d with
  | f y=>
   simp only [frz,tza,tzl] at h;obtain ⟨_,rfl⟩:=h;intro o ho;cases ho
  | agg l=>
   simp only [frz] at h;split at h
   .obtain ⟨⟨xs,is⟩,f1,f2⟩:=tzf.1 h;simp only [tzl] at f2;obtain ⟨rfl,rfl⟩:=f2;exact key f1
   .cases h
  | row o off len cap=>
   simp only [frz] at h;split at h
   .rename_i sz els hD;split at h
    .rename_i hb;obtain ⟨⟨xs,is⟩,f1,f2⟩:=tzf.1 h;simp only [tzl] at f2;obtain ⟨rfl,rfl⟩:=f2;intro p hp;rcases tzu.1 hp with rfl | hp
     .exact ⟨hb.1,.inl ⟨_,_,hD⟩⟩
     .exact key f1 p hp
    .cases h
   .cases h
  | apl o len=>
   simp only [frz] at h;split at h
   .rename_i e sz els hD;split at h
    .rename_i hb;obtain ⟨⟨xs,is⟩,f1,f2⟩:=tzf.1 h;simp only [tzl] at f2;obtain ⟨rfl,rfl⟩:=f2;intro p hp;rcases tzu.1 hp with rfl | hp
     .exact ⟨hb.1,.inr ⟨_,_,_,hD⟩⟩
     .exact key f1 p hp
    .cases h
   .cases h
  | _=>simp [frz] at h
theorem HR.freezeL:∀ (ids:List Nat) {C:Ctx} (hr:HR C) (D0:DH),(∀ o∈ids,base<=o/\(C.D[o]? =D0[o]?∨C.D[o]? =some .dead)/\((∃ sz els,D0[o]? =some (.arr sz els))∨∃ e sz els,D0[o]? =some (.app e sz els))) ->
  ∃ C',C'.H=C.H/\C'.D=zm0 C.D ids/\C'.σ=C.σ/\HR C'/\Nx (λo=>base<=o) C C'/\∀ o∈ids,∀ y,C.D[o]? =some y->zqm y=true->C'.S (C.σ o)
 | [],C,hr,D0,_=>⟨C,rfl,rfl,rfl,hr,Nx.refl hr,λo ho=>by cases ho⟩
 | o::ids,C,hr,D0,h=>by
  obtain ⟨h1,h2,h3⟩:=h o (tz0 ..)
  have step:∃ C1,C1.H=C.H/\C1.D=C.D.set o .dead/\C1.σ=C.σ/\HR C1/\Nx (λp=>p=o) C C1/\∀ y,C.D[o]? =some y->zqm y=true->C1.S (C.σ o):=by
   rcases h2 with h2 | h2
   .rcases h3 with ⟨sz,els,h3⟩ | ⟨e,sz,els,h3⟩
    .rw [h3] at h2
     obtain ⟨C1,a1,a2,a3,a4,a5,a6⟩:=hr.freeze h2 (.inl ⟨_,_,rfl⟩)
     exact ⟨C1,a1,a2,a3,a4,a5,λy hy=>by rw [h2] at hy;simp only [tza] at hy;subst hy;exact a6⟩
    .rw [h3] at h2
     obtain ⟨C1,a1,a2,a3,a4,a5,a6⟩:=hr.freeze h2 (.inr ⟨_,_,_,rfl⟩)
     exact ⟨C1,a1,a2,a3,a4,a5,λy hy=>by rw [h2] at hy;simp only [tza] at hy;subst hy;exact a6⟩
   .obtain ⟨C1,a1,a2,a3,a4,a5,a6⟩:=hr.drop1 o
    exact ⟨C1,a1,a2,a6,a4,a5,λy hy ho=>by rw [h2] at hy;simp only [tza] at hy;subst hy;simp [zqm] at ho⟩
  obtain ⟨C1,a1,a2,a3,a4,a5,a6⟩:=step
  obtain ⟨C',b1,b2,b3,b4,b5,b6⟩:=HR.freezeL ids a4 D0 (λp hp=>by
   grind)
  refine ⟨C',b1.trans a1,by rw [b2,a2];rfl,b3.trans a3,b4,(a5.weak (λp hp=>by subst hp;exact h1)).trans b5,λp hp y hy ho=>?_⟩
  by_cases e:p=o
  .subst e
   exact b5.S _ (a6 y hy ho)
  .grind
theorem FR.sub {S S':Nat->Prop} {H:Hp} (hS:∀ b,S b->S' b) {x:FV} {v:Value} (h:FR S H x v):FR S' H x v:=h.mono hS (λ_ _=>rfl)
theorem zem (hr:HR C) {S':Nat->Prop} (hS:∀ b,C.S b->S' b) {d d':DV} {v:Value} {ids:List Nat} (hna:∀ l,d≠.agg l) (hd:DR C d v) (h:zmz base C.D d=some (d',ids)) (hids:∀ o∈ids,∀ y,C.D[o]? =some y->zqm y=true->S' (C.σ o)) :
  ∃ x,d'=.f x/\FR S' C.H x v:=by
 unfold zmz at h;obtain ⟨⟨x,is⟩,f1,f2⟩:=tzf.1 h;simp only [tzl] at f2;obtain ⟨rfl,rfl⟩:=f2;exact ⟨x,rfl,((ykx hr hS 4).1 d v x is hna hd f1 hids).1⟩
theorem yyn {d d':DV} {ids:List Nat} {D:DH} (h:zmz base D d=some (d',ids)):∀ o∈ids,base<=o/\((∃ sz els,D[o]? =some (.arr sz els))∨∃ e sz els,D[o]? =some (.app e sz els)):=by
 unfold zmz at h;obtain ⟨⟨x,is⟩,f1,f2⟩:=tzf.1 h;simp only [tzl] at f2;obtain ⟨_,rfl⟩:=f2;exact yct 4 f1
theorem zru {g:DV->Option (DV×List Nat)}:∀ {l xs:List DV} {is:List Nat},zc5 g l=some (xs,is)->xs.length=l.length/\(∀ (i:Nat) (d:DV),l[i]? =some d->∃ x ids,g d=some (x,ids)/\xs[i]? =some x/\∀ o∈ids,o∈is)/\∀ o∈is,∃ d∈l,∃ x ids,g d=some (x,ids)/\o∈ids
 | [],xs,is,h=>by
  simp only [zc5,tza,tzl] at h;obtain ⟨rfl,rfl⟩:=h;exact ⟨rfl,λi d h=>by simp at h,λo h=>by cases h⟩
 | d::l,xs,is,h=>by
  simp only [zc5] at h;split at h
  .rename_i x i hx;split at h
   .rename_i xs' is' hl;simp only [tza,tzl] at h;obtain ⟨rfl,rfl⟩:=h;obtain ⟨h1,h2,h3⟩:=zru hl;refine ⟨by simp [h1],λk e hk=>?_,λo ho=>?_⟩
    .grind
    grind
   .cases h
  .cases h
theorem zen (hr:HR C) {d d':DV} {v:Value} {ids:List Nat} (hd:DR C d v) (h:zc6 base C.D d=some (d',ids)) (hC:C'.H=C.H) (hS:∀ b,C.S b->C'.S b) (hids:∀ o∈ids,∀ y,C.D[o]? =some y->zqm y=true->C'.S (C.σ o)):DR C' d' v:=by
 have one:(∀ l,d≠.agg l)->zmz base C.D d=some (d',ids)->DR C' d' v:=λhna h=>by
  obtain ⟨x,rfl,q⟩:=zem hr hS hna hd h hids;exact .f (by rw [hC];exact q)
 cases d with
 | agg l=>
  simp only [zc6] at h;split at h
  .rename_i hone;obtain ⟨⟨xs,is⟩,f1,f2⟩:=tzf.1 h;simp only [tzl] at f2;obtain ⟨rfl,rfl⟩:=f2;obtain ⟨g1,g2,g3⟩:=zru f1;cases hd with
   | @agg _ vs hl hv=>
    refine .agg (by rw [hl,g1]) (λi x w h1 h2=>?_);obtain ⟨e,he⟩:=zw1 (l:=l) (i:=i) (by rw [<-g1];exact zyr h1);obtain ⟨y,ids',a1,a2,a3⟩:=g2 i e he;rw [a2] at h1;simp only [tza] at h1;subst h1;have hoe:=tzx.1 hone e (tzg he);obtain ⟨z,rfl,q⟩:=zem hr hS (λl' e'=>by subst e';simp [zwz] at hoe) (hv i e w he h2) a1 (λo ho=>hids o (a3 o ho));exact .f (by rw [hC];exact q)
  .cases h
 | fn g a b=>
  unfold zc6 at h;split at h
  .rename_i heq;cases heq
  .rename_i heq;simp only [DV.fn.injEq] at heq;obtain ⟨rfl,rfl,rfl⟩:=heq;simp only [tza,tzl] at h;obtain ⟨rfl,rfl⟩:=h;cases hd with
   | fn ha hb h1 h2=>exact .fn ha hb (λi d v h=>by simp at h) (λi d v h=>by simp at h)
  .exact one (λl e=>by cases e) h
 | _=>exact one (λl e=>by cases e) h
theorem zlf {d d':DV} {ids:List Nat} {D:DH} (h:zc6 base D d=some (d',ids)):∀ o∈ids,base<=o/\((∃ sz els,D[o]? =some (.arr sz els))∨∃ e sz els,D[o]? =some (.app e sz els)):=by
 unfold zc6 at h;split at h
 .split at h
  .obtain ⟨⟨xs,is⟩,f1,f2⟩:=tzf.1 h;simp only [tzl] at f2;obtain ⟨_,rfl⟩:=f2;obtain ⟨g1,g2,g3⟩:=zru f1;intro o ho;obtain ⟨e,_,x,ids,a,b⟩:=g3 o ho;exact yyn a o b
  .cases h
 .simp_all
 .exact yyn h
theorem zgi (hr:HR C) {d d':DV} {v:Value} {ids:List Nat} (hd:DR C d v) (h:zqx base C.D d=some (d',ids)):∃ C',C'.H=C.H/\C'.D=zm0 C.D ids/\C'.σ=C.σ/\HR C'/\Nx (λo=>base<=o) C C'/\DR C' d' v:=by
 have hids:∀ o∈ids,base<=o/\((∃ sz els,C.D[o]? =some (.arr sz els))∨∃ e sz els,C.D[o]? =some (.app e sz els)):=by
  unfold zqx at h;split at h
  .obtain ⟨⟨xs,is⟩,f1,f2⟩:=tzf.1 h;simp only [tzl] at f2;obtain ⟨_,rfl⟩:=f2;obtain ⟨g1,g2,g3⟩:=zru f1;intro o ho;obtain ⟨e,_,x,ids,a,b⟩:=g3 o ho;exact zlf a o b
  .exact zlf h
 obtain ⟨C',a1,a2,a3,a4,a5,a6⟩:=HR.freezeL ids hr C.D (λo ho=>⟨(hids o ho).1,.inl rfl,(hids o ho).2⟩);refine ⟨C',a1,a2,a3,a4,a5,?_⟩;unfold zqx at h;split at h
 .rename_i l;obtain ⟨⟨xs,is⟩,f1,f2⟩:=tzf.1 h;simp only [tzl] at f2;obtain ⟨rfl,rfl⟩:=f2;obtain ⟨g1,g2,g3⟩:=zru f1;cases hd with
  | @tup _ vs hl hv=>
   refine .tup (by rw [hl,g1]) (λi x w h1 h2=>?_);obtain ⟨e,he⟩:=zw1 (l:=l) (i:=i) (by rw [<-g1];exact zyr h1);obtain ⟨y,ids',b1,b2,b3⟩:=g2 i e he;rw [b2] at h1;simp only [tza] at h1;subst h1;exact zen hr (hv i e w he h2) b1 a1 a5.S (λo ho=>a6 o (b3 o ho))
 .exact zen hr hd h a1 a5.S a6
theorem yky {d:DV} {v:Value} (h:DR C d v):DR C (zva d) v:=by
 cases h with
 | f h=>exact .f (zgh h)
 | @agg ds vs hl hv=>
  refine .agg (by simp [hl]) (λi x w h1 h2=>?_);simp only [tzr] at h1;obtain ⟨e,he,rfl⟩:=tzf.1 h1;have:=hv i e w he h2;cases e with
  | f x=>
   cases this with
   | f h=>exact .f (zgh h)
  | _=>exact this
 | tup hl hv=>exact .tup hl hv
 | fn ha hb h1 h2=>exact .fn ha hb h1 h2
 | yl ho one g=>exact .yl ho one g
 | ref ho one g=>exact .ref ho one g
 | rfa ho one hn g=>exact .rfa ho one hn g
 | row ho one g=>exact .row ho one g
 | apl ho one g=>exact .apl ho one g
 | prt ho one hn g=>exact .prt ho one hn g
 | mp ho one g=>exact .mp ho one g
 | fp w hb hc hw hr=>exact .fp w hb hc hw hr
 | em hb hc ho=>exact .em hb hc ho
 | lv ho hn g=>exact .lv ho hn g
theorem TR.putS {t:Tmp} {d:DV} {v:Value} (ht:TR C tm tmH) (hv:tmH.get t=some v) (hd:DR C d v):TR C (tm.put t d) tmH:=λu e he=>by
 rw [Trie.get_put] at he;split at he
 .simp_all
 exact ht u e he
theorem HR.turn2 (hr:HR C) {o sz:Nat} {els els':List DV} (ho:C.D[o]? =some (.arr sz els)) (hl:els'.length=els.length) (hob:∀ cs e,C.H.get (C.σ o)=some (.cells cs e none)->Cl C sz els cs->Cl C sz els' cs) :
  ∃ C',C'.H=C.H/\C'.D=C.D.set o (.arr sz els')/\HR C'/\Nx (λp=>p=o) C C':=by
 have hol:=zyr ho;have hown:Own C o (C.σ o):=⟨_,ho,rfl,rfl⟩
 have u:Upd o C ⟨C.σ,C.S,C.H,C.D.set o (.arr sz els')⟩:=
  {
   n:=tzp _
   S:=rfl
   wf:=hr.wf
   len:=by simp
   D:=λp h=>by simp [tya,Ne.symm h]
   σ:=λp h=>rfl
   get:=λ_ _ _=>rfl
   stk:=λ_ _ _=>rfl
   evo:=λy h hy=>by
    simp [hol] at hy
    subst hy
    exact .inr ⟨_,ho,rfl,hl,rfl⟩
   own:=λb g=>by
    obtain ⟨y,h1,h2,h3⟩:=g
    exact .inl (by rw [h3];exact hown)
   cls:=λk g=>(zga (x:=.arr sz els') (by simp [hol]) g (by simp) (by simp)).elim }
 have nx:=u.nx hr;refine ⟨⟨C.σ,C.S,C.H,C.D.set o (.arr sz els')⟩,rfl,rfl,u.hr hr (λy hy=>?_),nx⟩;simp [hol] at hy;subst hy;obtain ⟨cs,e,g1,g2⟩:=hr.ob o _ ho;exact ⟨cs,e,g1,(hob cs e g1 g2).mono nx hr⟩
theorem HR.turn (hr:HR C) {o sz:Nat} {els els':List DV} (ho:C.D[o]? =some (.arr sz els)) (hl:els'.length=els.length) (hob:∀ cs,Cl C sz els cs->Cl C sz els' cs) :
  ∃ C',C'.H=C.H/\C'.D=C.D.set o (.arr sz els')/\HR C'/\Nx (λp=>p=o) C C':=hr.turn2 ho hl λcs _ _=>hob cs
theorem zgj:∀ {l:List Nat} {D:DH} {o:Nat} {x:DObj},(zm0 D l)[o]? =some x->x≠.dead->D[o]? =some x
 | [],D,o,x,h,_=>h
 | a::l,D,o,x,h,hd=>by
  have:=zgj (l:=l) (D:=D.set a .dead) h hd;rw [tya] at this;split at this
  .simp_all
  exact this
theorem HR.turnE (hr:HR C) {o e sz:Nat} {els els':List DV} (ho:C.D[o]? =some (.app e sz els)) (hl:els'.length=els.length) (hob:∀ cs k,C.H.get (C.σ o)=some (.cells cs e (some k))->Cl C sz els cs->Cl C sz els' cs) :
  ∃ C',C'.H=C.H/\C'.D=C.D.set o (.app e sz els')/\HR C'/\Nx (λp=>p=o) C C':=by
 have hol:=zyr ho;have hne:els'≠[]->els≠[]:=λh1 h2=>h1 (List.length_eq_zero_iff.1 (by rw [hl,h2];rfl))
 have u:Upd o C ⟨C.σ,C.S,C.H,C.D.set o (.app e sz els')⟩:=
  {
   n:=tzp _
   S:=rfl
   wf:=hr.wf
   len:=by simp
   D:=λp h=>by simp [tya,Ne.symm h]
   σ:=λp h=>rfl
   get:=λ_ _ _=>rfl
   stk:=λ_ _ _=>rfl
   evo:=λy h hy=>by
    simp [hol] at hy
    subst hy
    exact .inr ⟨_,ho,rfl,rfl,by omega,λ_ _=>rfl⟩
   own:=λb g=>by
    obtain ⟨y,h1,h2,h3⟩:=g
    simp [hol] at h1
    subst h1
    refine .inl ⟨_,ho,?_,h3⟩
    simp only [zqm] at h2 ⊢
    cases els with
    | nil=>cases els' with
     | nil=>exact h2
     | cons=>cases hl
    | cons=>rfl
   cls:=λk g=>by
    rcases g with ⟨e1,sz1,els1,cs1,e2,h1,h2,h3⟩ | ⟨e1,sz1,ctr,L,h1,h2⟩
    .simp [hol] at h1
     obtain ⟨rfl,rfl,rfl⟩:=h1
     exact .inl (.inl ⟨_,_,els,cs1,e2,ho,hne h2,h3⟩)
    .simp [hol] at h1 }
 have nx:=u.nx hr;refine ⟨⟨C.σ,C.S,C.H,C.D.set o (.app e sz els')⟩,rfl,rfl,u.hr hr (λy hy=>?_),nx⟩;simp [hol] at hy;subst hy;intro h;obtain ⟨cs,k,rest,g1,g2,g3⟩:=hr.ob o _ ho (hne h);exact ⟨cs,k,rest,g1,g2,(hob cs k g1 g3).mono nx hr⟩
theorem ykz {p n:Nat} {D':DH} (hr:HR C) (h:yko base p n C.D C.D[p]? =some D'):∃ C',C'.H=C.H/\C'.D=D'/\HR C'/\Nx (λo=>base<=o) C C':=by
 unfold yko at h;split at h;rotate_left
 .cases h
 rename_i e0 sz0 els hD;split at h;rotate_left
 .cases h
 rename_i d hd;split at h;rotate_left
 .cases h
 rename_i x hx;split at h;rotate_left
 .cases h
 rename_i y is hf;split at h;rotate_left
 .cases h
 rename_i e' sz' els' hk;split at h;rotate_left
 .cases h
 rename_i hc;obtain ⟨hb,h1,rfl⟩:=hc;simp only [tza] at h;subst h;have hD':=zgj hk (by simp);rw [hD] at hD';simp only [tza,DObj.app.injEq] at hD';obtain ⟨rfl,rfl,rfl⟩:=hD';have hne:els≠[]:=λh=>by rw [h] at hd;cases hd
 obtain ⟨cs,k,rest,g1,g2,g3⟩:=hr.ob p _ hD hne;obtain ⟨w,e1,e2⟩:=g3.el n d 0 x hd (by rw [hx];rfl);obtain ⟨C1,a1,a2,a3,a4,a5,a6⟩:=zgi hr e2 hf;have hil:=zyr hd;have hD1:C1.D[p]? =some (.app e0 1 els):=by rw [a2];exact hk
 obtain ⟨C2,b1,b2,b3,b4⟩:=a4.turnE (els':=els.set n (.f y)) hD1 (by simp) (λws k' hg w2=>by
  have hws:ws=cs:=by
   simp_all
  subst hws
  refine ⟨by rw [w2.len];simp,λp d hp=>?_,λp d q z hp hz=>?_,w2.one⟩
  .rw [tya] at hp
   split at hp
   .simp only [hil,if_true,tza] at hp
    subst hp
    rw [zrq]
    exact ⟨rfl,by simp [zzd,zwz,h1]⟩
   .exact w2.ok p d hp
  .rw [tya] at hp
   split at hp
   .rename_i hip
    simp only [hil,if_true,tza] at hp
    subst hp hip
    cases q with
    | zero=>
     simp only [zzd,txp,tza] at hz
     subst hz
     exact ⟨w,e1,a6⟩
    | succ q=>simp [zzd] at hz
   .exact w2.el p d q z hp hz)
 have nx:Nx (λo=>base<=o) C C2:=a5.trans (b4.weak (λq hq=>by subst hq;exact hb));exact ⟨C2,b1.trans a1,by rw [b2,a2],b3,nx⟩
theorem yrz {p:Nat} (hr:HR C):∀ {n:Nat} {D':DH},frzE base p n C.D=some D'->∃ C',C'.H=C.H/\C'.D=D'/\HR C'/\Nx (λo=>base<=o) C C'
 | 0,D',h=>⟨C,rfl,Option.some.inj h,hr,Nx.refl hr⟩
 | n+1,D',h=>by
  simp only [frzE] at h;split at h
  .rename_i D1 h1;obtain ⟨C1,a1,a2,a3,a4⟩:=yrz hr h1;subst a2;obtain ⟨C2,b1,b2,b3,b4⟩:=ykz a3 h;exact ⟨C2,b1.trans a1,b2,b3,a4.trans b4⟩
  .cases h
theorem HR.nilApps (hr:HR C) (e sz:Nat):∀ (n:Nat),∃ C',C'.H=C.H/\C'.D=C.D++List.replicate n (.app e sz [])/\HR C'/\Nx (λ_=>False) C C'/\(∀ o,o<C.D.length->C'.σ o=C.σ o)/\∀ i,i<n->DR C' (.apl (C.D.length+i) 0) (.slice none 0 0)
 | 0=>⟨C,rfl,by simp,hr,Nx.refl hr,λ_ _=>rfl,λi h=>absurd h (txs _)⟩
 | n+1=>by
  obtain ⟨C1,a1,a2,a3,a4,a5,a6⟩:=HR.nilApps hr e sz n;obtain ⟨C2,b1,b2,b3,b4,b5,b6⟩:=a3.nilApp e sz;have nx:=a4.trans b5;refine ⟨C2,b1.trans a1,by rw [b2,a2,tyd,<-List.replicate_succ'],b4,nx,λo ho=>(nx.kp o ho (λh=>h)).2.1,λi hi=>?_⟩;by_cases h:i=n
  .subst h;have hl:C1.D.length=C.D.length+i:=by rw [a2];simp
   have:=zp1 (C':=C2) (o:=C1.D.length) (e:=e) (sz:=sz) (els:=[]) (by rw [b2,zyb]) (v:=.slice none 0 0) rfl;rw [hl] at this;exact this
  .exact (a6 i (by omega)).mono b5 a3
theorem yyo:∀ {ds:List DV} {ys:List FV},ysm ds=some ys->∀ {j:Nat} {y:FV},ys[j]? =some y->ds[j]? =some (.f y)
 | [],ys,h,j,y,hy=>by simp [ysm] at h;subst h;simp at hy
 | d::ds,ys,h,j,y,hy=>by
  cases d with
  | f x=>
   simp only [ysm] at h;obtain ⟨zs,h1,rfl⟩:=tzf.1 h;cases j with
   | zero=>simpa using hy
   | succ j=>
    simp only [txr] at hy ⊢;exact yyo h1 hy
  | _=>simp [ysm] at h
theorem yk0 (hr:HR C) {s s':SD} {g:Gh} (hD:C.D=s.D) (ht:TR C s.tm tmH) (h:zxh base s g=some s'):∃ C',C'.H=C.H/\C'.D=s'.D/\HR C'/\Nx (λo=>base<=o) C C'/\TR C' s'.tm tmH:=by
 obtain ⟨stm,sD⟩:=s;simp only at hD ht;subst hD;cases g with
 | frz t=>
  simp only [zxh] at h;split at h
  .rename_i d hd;split at h
   .rename_i d' is hf;simp only [tza] at h;subst h;obtain ⟨v,h1,h2⟩:=ht t d hd;obtain ⟨C',a1,a2,a3,a4,a5,a6⟩:=zgi hr h2 hf;exact ⟨C',a1,a2,a4,a5,(ht.mono a5 hr).putS h1 a6⟩
   .cases h
  .cases h
 | frzP t=>
  simp only [zxh] at h;split at h;rotate_left
  .cases h
  rename_i o ht';split at h;rotate_left
  .cases h
  rename_i sz d hD;split at h;rotate_left
  .cases h
  rename_i ys hys;split at h
  .rename_i hb;simp only [tza] at h;subst h;obtain ⟨v,h1,h2⟩:=ht t _ ht';obtain ⟨C',a1,a2,a3,a4,a5,a6⟩:=hr.freeze hD (.inl ⟨sz,[d],rfl⟩);obtain ⟨cs,e,g1,g2⟩:=hr.ob o _ hD
   have hv:v=.pointer (some ⟨C.σ o,0,none⟩):=by
    cases h2 with
    | ref ho one h=>simpa using h _ _ hD
   have nx:Nx (λo=>base<=o) C C':=a5.weak (λp hp=>by subst hp;exact hb.1);refine ⟨C',a1,a2,a4,nx,(ht.mono nx hr).putS h1 ?_⟩;subst hv
   have hel:∀ (j:Nat) (y:FV),ys[j]? =some y->∃ w,cs[j]? =some w/\DR C (.f y) w:=λj y hy=>by
    have:=g2.el 0 d j (.f y) rfl (yyo hys hy);simpa using this
   rw [<-a3];refine .fp (λj=>(cs[j]?).getD undef) (by rw [a3];exact a6 rfl) (c:=cs) (by rw [a1,a3];exact zsr g1) (λj y hy=>?_) (λj y hy=>?_)
   .obtain ⟨w,e1,e2⟩:=hel j y hy;simp only [txj,e1,tye,true_and];exact g2.one w (tzg e1)
   .obtain ⟨w,e1,e2⟩:=hel j y hy;simp only [e1,tye];cases e2.mono nx hr with
    | f h=>exact h
  .cases h
 | emp t=>
  simp only [zxh] at h;split at h
  .rename_i o off ht';split at h
   .rename_i sz els hD;split at h
    .rename_i hb;simp only [tza] at h;subst h;obtain ⟨v,h1,h2⟩:=ht t _ ht';obtain ⟨C',a1,a2,a3,a4,a5,a6⟩:=hr.freeze hD (.inl ⟨sz,els,rfl⟩);obtain ⟨cs,e,g1,g2⟩:=hr.ob o _ hD
     have hv:v=.slice (some ⟨C.σ o,off*sz,none⟩) 0 0/\off+0<=els.length:=by
      cases h2 with
      | row ho one h=>exact ⟨(h _ _ hD).1,(h _ _ hD).2.1⟩
     have nx:Nx (λo=>base<=o) C C':=a5.weak (λp hp=>by subst hp;exact hb.1);refine ⟨C',a1,a2,a4,nx,(ht.mono nx hr).putS h1 ?_⟩;rw [hv.1];exact .em (a6 rfl) (by rw [a1];exact zsr g1) (by rw [g2.len];exact txn _ hv.2)
    .cases h
   .cases h
  .simp only [tza] at h;subst h;exact ⟨C,rfl,rfl,hr,Nx.refl hr,ht⟩
  .simp only [tza] at h;subst h;exact ⟨C,rfl,rfl,hr,Nx.refl hr,ht⟩
  .cases h
 | own t e sz=>
  simp only [zxh] at h;split at h
  .rename_i hd;simp only [tza] at h;subst h;obtain ⟨v,h1,h2⟩:=ht t _ hd;obtain ⟨C',a1,a2,a3,a4,a5,a6⟩:=hr.nilApp e sz;refine ⟨C',a1,a2,a4,a5.weak (λ_ h=>h.elim),(ht.mono a5 hr).putS h1 ?_⟩;rw [zf3 h2];exact zp1 (els:=[]) (by rw [a2,zyb]) rfl
  .cases h
 | ownC t k e sz=>
  simp only [zxh] at h;split at h;rotate_left
  .cases h
  rename_i o i j ht';split at h;rotate_left
  .cases h
  rename_i s' els hD;split at h;rotate_left
  .cases h
  rename_i cs hels;split at h;rotate_left
  .cases h
  rename_i hcs;split at h;rotate_left
  .cases h
  rename_i hb;simp only [tza] at h;subst h;obtain ⟨C1,a1,a2,a3,a4,a5,a6⟩:=hr.nilApp e sz;have hol:=zyr hD;have hD1:C1.D[o]? =some (.arr s' els):=by rw [a2,tzs hol];exact hD
  have hil:=zyr hels
  have hapl:∀ v,DR C1 zyf v->DR C1 (.apl C.D.length 0) v:=λv hv=>by
   rw [zf3 hv];exact zp1 (els:=[]) (by rw [a2,zyb]) rfl
  have hcl:∀ ws,Cl C1 s' els ws->Cl C1 s' (els.set i (.agg (cs.set (j+k) (.apl C.D.length 0)))) ws:=λws w2=>by
   obtain ⟨l1,l2⟩:=zyx (w2.ok i _ hels);change cs.length=s' at l1;refine ⟨by rw [w2.len];simp,λp d hp=>?_,λp d q x hp hx=>?_,w2.one⟩
   .rw [tya] at hp;split at hp
    .simp only [hil,if_true,tza] at hp;subst hp;rw [zrq];refine ⟨by show (cs.set _ _).length=s';rw [tz3];exact l1,tzx.2 (λx hx=>?_)⟩;rcases List.mem_or_eq_of_mem_set hx with hx | hx
     .exact l2 x hx
     .subst hx;rfl
    .exact w2.ok p d hp
   rw [tya] at hp;split at hp
   .rename_i hip;simp only [hil,if_true,tza] at hp;subst hp hip;change (cs.set (j+k) (.apl C.D.length 0))[q]? =some x at hx;rw [tya] at hx;split at hx
    .rename_i hq;have hjk:=zyr hcs;simp only [hjk,if_true,tza] at hx;subst hx hq;obtain ⟨w,g1,g2⟩:=w2.el i _ (j+k) _ hels hcs;exact ⟨w,g1,hapl w g2⟩
    .exact w2.el i _ q x hels hx
   .exact w2.el p d q x hp hx
  obtain ⟨C2,b1,b2,b3,b4⟩:=a4.turn hD1 (by simp) hcl;have nx:Nx (λo=>base<=o) C C2:=(a5.weak (λ_ h=>h.elim)).trans (b4.weak (λp hp=>by subst hp;exact hb));refine ⟨C2,b1.trans a1,?_,b3,nx,ht.mono nx hr⟩;rw [b2,a2,List.set_append_left _ _ hol]
 | frzE t k=>
  simp only [zxh] at h;split at h
  .split at h
   .split at h
    .split at h
     .split at h
      .rename_i D1 h1;simp only [tza] at h;subst h;obtain ⟨C',a1,a2,a3,a4⟩:=yrz hr h1;exact ⟨C',a1,a2,a3,a4,ht.mono a4 hr⟩
      .cases h
     .cases h
    .cases h
   .cases h
  .cases h
 | frzI t k=>
  simp only [zxh] at h;split at h;rotate_left
  .cases h
  rename_i o off len cap ht';split at h;rotate_left
  .cases h
  rename_i i hi;split at h;rotate_left
  .cases h
  rename_i sz els hD;split at h;rotate_left
  .cases h
  rename_i d hd;split at h;rotate_left
  .cases h
  rename_i x hx;split at h;rotate_left
  .cases h
  rename_i y is hf;split at h;rotate_left
  .cases h
  rename_i sz' els' hk;split at h;rotate_left
  .cases h
  rename_i hc;obtain ⟨hb,h1,rfl⟩:=hc;simp only [tza] at h;subst h;have hD':=zgj hk (by simp);rw [hD] at hD';simp only [tza,DObj.arr.injEq] at hD';obtain ⟨rfl,rfl⟩:=hD';obtain ⟨cs,e,g1,g2⟩:=hr.ob o _ hD;obtain ⟨w,e1,e2⟩:=g2.el (off+i) d 0 x hd (by rw [hx];rfl);obtain ⟨C1,a1,a2,a3,a4,a5,a6⟩:=zgi hr e2 hf;have hil:=zyr hd;have hD1:C1.D[o]? =some (.arr 1 els):=by rw [a2];exact hk
  obtain ⟨C2,b1,b2,b3,b4⟩:=a4.turn2 (els':=els.set (off+i) (.f y)) hD1 (by simp) (λws e' hg w2=>by
   have hws:ws=cs:=by
    simp_all
   subst hws
   refine ⟨by rw [w2.len];simp,λp d hp=>?_,λp d q z hp hz=>?_,w2.one⟩
   .rw [tya] at hp
    split at hp
    .simp only [hil,if_true,tza] at hp
     subst hp
     rw [zrq]
     exact ⟨rfl,by simp [zzd,zwz,h1]⟩
    .exact w2.ok p d hp
   .rw [tya] at hp
    split at hp
    .rename_i hip
     simp only [hil,if_true,tza] at hp
     subst hp hip
     cases q with
     | zero=>
      simp only [zzd,txp,tza] at hz
      subst hz
      exact ⟨w,e1,a6⟩
     | succ q=>simp [zzd] at hz
    .exact w2.el p d q z hp hz)
  have nx:Nx (λo=>base<=o) C C2:=a5.trans (b4.weak (λp hp=>by subst hp;exact hb));exact ⟨C2,b1.trans a1,by rw [b2,a2],b3,nx,ht.mono nx hr⟩
 | ownAll t e sz=>
  simp only [zxh] at h;split at h;rotate_left
  .cases h
  rename_i o off len cap ht';split at h;rotate_left
  .cases h
  rename_i els hD;split at h;rotate_left
  .cases h
  rename_i hc;obtain ⟨hb,hnil⟩:=hc;simp only [tza] at h;subst h;obtain ⟨C1,a1,a2,a3,a4,a5,a6⟩:=hr.nilApps e sz els.length;have hol:=zyr hD;have hD1:C1.D[o]? =some (.arr 1 els):=by rw [a2,tzs hol];exact hD
  obtain ⟨C2,b1,b2,b3,b4⟩:=a3.turn (els':=(List.range els.length).map λi=>.apl (C.D.length+i) 0) hD1 (by simp) (λws w2=>by
   refine ⟨by rw [w2.len];simp,λp d hp=>?_,λp d q z hp hz=>?_,w2.one⟩
   .simp only [tzr,tzf] at hp
    obtain ⟨i,_,rfl⟩:=hp
    rw [zrq]
    exact ⟨rfl,rfl⟩
   .simp only [tzr,tzf] at hp
    obtain ⟨i,hi,rfl⟩:=hp
    have hlt:p<els.length:=by
     have:=zyr hi
     simpa using this
    rw [tz7 hlt,tza] at hi
    subst hi
    cases q with
    | succ q=>simp [zzd] at hz
    | zero=>
     simp only [zzd,txp,tza] at hz
     subst hz
     have hn:=tzx.1 hnil els[p] (List.getElem_mem hlt)
     have he:els[p]=zyf:=by
      revert hn
      generalize els[p]=d
      intro hn
      unfold zeb at hn
      split at hn
      .rfl
      .cases hn
     obtain ⟨w,g1,g2⟩:=w2.el p els[p] 0 zyf (tzb hlt) (by rw [he];rfl)
     refine ⟨w,g1,?_⟩
     rw [zf3 g2]
     exact a6 p hlt)
  have nx:Nx (λo=>base<=o) C C2:=(a4.weak (λ_ h=>h.elim)).trans (b4.weak (λp hp=>by subst hp;exact hb));refine ⟨C2,b1.trans a1,?_,b3,nx,ht.mono nx hr⟩;rw [b2,a2,List.set_append_left _ _ hol]
end Go.Dv
