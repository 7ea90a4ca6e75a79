/- Texts of this proof, part DvA. -/
import Derived.Test.YtfjbdkmmoinngaaGreatDoorSimB
set_option linter.unusedVariables false
set_option linter.unusedSimpArgs false
set_option linter.unusedSectionVars false
noncomputable section
namespace Go.Dv
open Go Go.Sim
inductive FV where
 | raw (v:Value)
 | lst (l:List FV)
 | agg (l:List FV)
inductive DV where
 | f (x:FV)
 | agg (l:List DV)
 | tup (l:List DV)
 | fn (g:FuncId) (a b:List DV)
 | yl (l:Nat)
 | ref (o i k:Nat)
 | rfa (o n i k:Nat)
 | row (o off len cap:Nat)
 | apl (o len:Nat)
 | prt (o n off len:Nat)
 | mp (o:Nat)
 | fp (l:List FV)
abbrev rv (v:Value):DV:=.f (.raw v)
abbrev zyw:DV:=.f (.raw (.slice none 0 0))
inductive Gh where
 | frz (t:Tmp)
 | own (t e sz:Nat)
 | ownC (t k e sz:Nat)
 | frzI (t k:Tmp)
 | ownAll (t e sz:Nat)
 | frzP (t:Tmp)
structure Ann where
 raw:Bool
 gh:List (Nat×List Gh)
 pl:List (Nat×(List PI×List Nat))
 keep:List (Nat×List Tmp)
 long:Bool
structure KD where
 fn:FuncId
 nt:Nat
 ro:Option Nat
 base:Nat
 an:Ann
inductive DObj where
 | arr (sz:Nat) (els:List DV)
 | app (e sz:Nat) (els:List DV)
 | map (ks:List Value) (vs:List DV)
 | loop (st:LoopState) (p:Option Code) (K:KD) (tm:Trie DV) (ps:Array Tmp) (asg body:Code)
 | dead
abbrev DH:=List DObj
def zxj:FV->List FV
 | .agg l=>l
 | x=>[x]
def zzd:DV->List DV
 | .agg l=>l
 | x=>[x]
def zq2:FV->Bool
 | .raw v=>oneCell v
 | .lst _=>true
 | .agg _=>false
def zut:DV->Bool
 | .f x=>zq2 x
 | .agg _=>false
 | .tup _=>false
 | _=>true
def elD:FV->DV
 | .agg l=>.agg (l.map .f)
 | x=>.f x
def zqv (sz:Nat) (d:DV):Bool:=Nat.beq (zzd d).length sz&&(zzd d).all zut
def ofV:Value->DV
 | .agg cs=>.agg (cs.toList.map rv)
 | v=>rv v
def yl9:List DV->Option (List Value)
 | []=>some []
 | .f (.raw v)::l=>(yl9 l).map (v::·)
 | _=>none
def ysp:List DV->Option (List FV)
 | []=>some []
 | .f x::l=>(ysp l).map (x::·)
 | _=>none
def toV:DV->Option Value
 | .f (.raw v)=>some v
 | .agg l=>(yl9 l).map λvs=>.agg vs.toArray
 | _=>none
def zzk (tm:Trie DV):Operand->Option DV
 | .tmp t=>tm.get t
 | .const v=>(zwz v).map ofV
 | .global _=>none
 | .func f=>some (.fn f [] [])
def zy5 (tm:Trie DV):List Operand->Option (List DV)
 | []=>some []
 | x::l=>match zzk tm x with
  | some d=>(zy5 tm l).map (d::·)
  | none=>none
inductive DRes where
 | val (d:DV) (D:DH)
 | enter (g:FuncId) (args:List DV)
 | yield (l:Nat) (args:List DV)
def zv1 (D:DH):Option DV->Option DRes
 | some d=>some (.val d D)
 | none=>none
structure SlT where
 e:Nat
 sz:Nat
 by_:Nat
 z:DV
def tSl (P:Program) (t:TypeId):Option SlT:=
 match zi7 P t with
 | some e=>match zyn P e with
  | some sz=>match zgc P e with
   | some b=>match zxn P e with
    | some z=>if zqv sz (ofV z)=true/\b<=65536 then some ⟨e,sz,b,ofV z⟩ else none
    | none=>none
   | none=>none
  | none=>none
 | none=>none
def tLd (P:Program) (t:TypeId):Option (Option Nat):=
 match zjp P t with
 | some true=>(zyn P t).map some
 | some false=>some none
 | none=>none
def xp7 (P:Program) (f:Nat):TypeDesc->Option (Nat×TypeId)
 | .struct fs=>match fs.toList[f]? with
  | some fd=>match zyn P fd.type with
   | some (_+1)=>some (fd.offset,fd.type)
   | _=>none
  | none=>none
 | _=>none
def zki (P:Program) (t:TypeId) (f:Nat):Option (Nat×TypeId):=(P.underlying t).bind (xp7 P f)
def xp8 (P:Program):TypeDesc->Option (Nat×Nat×TypeId)
 | .array n e=>(zyn P e).map λs=>(n,s,e)
 | _=>none
def zlv (P:Program) (t:TypeId):Option (Nat×Nat×TypeId):=(P.underlying t).bind (xp8 P)
def zqw (cs:List DV) (k:Nat):Option Nat->Option DV
 | some n=>if 0<n/\k+n<=cs.length then some (.agg ((cs.drop k).take n)) else none
 | none=>cs[k]?
def putAt (cs:List DV) (k:Nat) (ds:List DV):List DV:=cs.take k++ds++cs.drop (k+ds.length)
def xp9:DObj->Option (Nat×List DV)
 | .arr sz els=>some (sz,els)
 | _=>none
def zkj (P:Program) (D:DH) (e:TypeId):Option DRes:=
 match zxn P e with
 | some z=>if zqv (zzd (ofV z)).length (ofV z)=true then some (.val (.ref D.length 0 0) (D++[.arr (zzd (ofV z)).length [ofV z]])) else none
 | none=>none
def yem (D:DH):Option DV->Option DRes
 | some d=>if zqv (zzd d).length d=true then some (.val (.ref D.length 0 0) (D++[.arr (zzd d).length [d]])) else none
 | none=>none
def ylv (els:List DV) (i k:Nat) (a:Option Nat):Option DV:=(els[i]?).bind λd=>zqw (zzd d) k a
def zv2 (D:DH) (a:Option Nat):DV->Option DV
 | .ref o i k=>match D[o]? with
  | some (.arr _ els)=>ylv els i k a
  | _=>none
 | .rfa o n i k=>match D[o]? with
  | some (.app _ _ els)=>if els.length=n then ylv els i k a else none
  | _=>none
 | .fp l=>zqw (l.map .f) 0 a
 | _=>none
def ysq (sz:Nat) (els:List DV) (i k:Nat) (d:DV):Option (List DV):=
 match els[i]? with
 | some x=>if (zzd d).all zut=true/\k+(zzd d).length<=sz then
   some (els.set i (if (zzd d).length=sz then d else .agg (putAt (zzd x) k (zzd d)))) else none
 | none=>none
def zkk (D:DH) (base n:Nat) (d:DV):DV->Option DH
 | .ref o i k=>match D[o]? with
  | some (.arr sz els)=>if base<=o/\(zzd d).length=n then (ysq sz els i k d).map λels'=>D.set o (.arr sz els') else none
  | _=>none
 | .rfa o m i k=>match D[o]? with
  | some (.app e sz els)=>if base<=o/\(zzd d).length=n/\els.length=m then (ysq sz els i k d).map λels'=>D.set o (.app e sz els') else none
  | _=>none
 | _=>none
def zwx (D:DH):DV->Option (List DV)
 | .f (.lst l)=>some (l.map elD)
 | .f (.raw (.slice none 0 0))=>some []
 | .row o off len _=>match D[o]? with
  | some (.arr sz els)=>if 0<sz/\off+len<=els.length then some ((els.drop off).take len) else none
  | _=>none
 | .apl o len=>match D[o]? with
  | some (.app _ sz els)=>if els.length=len/\0<sz then some els else none
  | _=>none
 | .prt o n off len=>match D[o]? with
  | some (.app _ sz els)=>if els.length=n/\0<sz then some ((els.drop off).take len) else none
  | _=>none
 | _=>none
def bnd (n by_:Nat):Prop:=n*by_<=1099511627776/\n<=1099511627776
instance (n by_:Nat):Decidable (bnd n by_):=inferInstanceAs (Decidable (_/\_))
def zw7 (D:DH) (base:Nat) (T:SlT) (s:DV) (new:List DV):Option (DV×DH):=
 match s with
 | .f (.raw (.slice none 0 0))=>if bnd new.length T.by_ then some (.apl D.length new.length,D++[.app T.e T.sz new]) else none
 | .apl o len=>match D[o]? with
  | some (.app e sz els)=>if e=T.e/\sz=T.sz/\els.length=len/\base<=o/\bnd (len+new.length) T.by_ then some (.apl o (len+new.length),D.set o (.app e sz (els++new))) else none
  | _=>none
 | .row o off len cap=>match D[o]? with
  | some (.arr sz els)=>if sz=T.sz/\bnd (len+new.length) T.by_/\off+len<=els.length then
    (if len+new.length<=cap then (if base<=o then some (.row o off (len+new.length) cap,D.set o (.arr sz (putAt els (off+len) new))) else none)
    else if base<=o/\off=0/\len=els.length then some (.apl o (len+new.length),D.set o (.app T.e T.sz (els++new)))
    else some (.apl D.length (len+new.length),D++[.app T.e T.sz ((els.drop off).take len++new)])) else none
  | _=>none
 | _=>none
def zyz (D:DH) (T:Option SlT) (A:Option (Nat×Nat×TypeId)) (n:Nat):DV->Option DV
 | .f (.lst l)=>match T with
  | some T=>match l[n]? with
   | some x=>if (zxj x).length=T.sz then some (.fp (zxj x)) else none
   | none=>none
  | none=>none
 | .row o off len _=>match T with
  | some T=>match D[o]? with
   | some (.arr sz els)=>if sz=T.sz/\n<len then some (.ref o (off+n) 0) else none
   | _=>none
  | none=>none
 | .apl o len=>match T with
  | some T=>match D[o]? with
   | some (.app _ sz els)=>if sz=T.sz/\els.length=len/\n<len then some (.rfa o len n 0) else none
   | _=>none
  | none=>none
 | .prt o m off len=>match T with
  | some T=>match D[o]? with
   | some (.app _ sz els)=>if sz=T.sz/\els.length=m/\n<len then some (.rfa o m (off+n) 0) else none
   | _=>none
  | none=>none
 | .ref o i k=>match A with
  | some (m,s,_)=>match D[o]? with
   | some (.arr _ _)=>if n<m then some (.ref o i (k+n*s)) else none
   | _=>none
  | none=>none
 | .rfa o u i k=>match A with
  | some (m,s,_)=>match D[o]? with
   | some (.app _ _ els)=>if n<m/\els.length=u then some (.rfa o u i (k+n*s)) else none
   | _=>none
  | none=>none
 | .fp l=>match A with
  | some (m,s,_)=>if n<m/\n*s<=l.length then some (.fp (l.drop (n*s))) else none
  | none=>none
 | _=>none
def zs0 (D:DH):DV->Bool
 | .ref o _ _=>match D[o]? with
  | some (.arr _ _)=>true
  | _=>false
 | .rfa o n _ _=>match D[o]? with
  | some (.app _ _ els)=>decide (els.length=n)
  | _=>false
 | _=>false
def zs1 (D:DH) (off:Nat) (d:DV):Option DV:=
 match d with
 | .ref o i k=>if zs0 D d=true then some (.ref o i (k+off)) else none
 | .rfa o n i k=>if zs0 D d=true then some (.rfa o n i (k+off)) else none
 | .fp l=>if off<=l.length then some (.fp (l.drop off)) else none
 | _=>none
def zr4 (D:DH) (T:SlT) (n m:Nat):Option DRes:=
 if n<=m/\m*T.by_<=140737488355328/\m<9223372036854775808/\0<T.sz then some (.val (.row D.length 0 n m) (D++[.arr T.sz (List.replicate m T.z)])) else none
def zp6 (sz:Nat):List DV->List (Nat×DV)->Option (List DV)
 | els,[]=>some els
 | els,(i,d)::l=>if i<els.length/\zqv sz d=true then zp6 sz (els.set i d) l else none
def zud (tm:Trie DV):List (Nat×Operand)->Option (List (Nat×DV))
 | []=>some []
 | (i,x)::l=>match zzk tm x with
  | some d=>(zud tm l).map ((i,d)::·)
  | none=>none
def zx2 (D:DH) (T:SlT) (len:Nat):Option (List (Nat×DV))->Option DRes
 | some ps=>if len*T.sz<=16777216/\len<=16777216/\0<T.sz then (zp6 T.sz (List.replicate len T.z) ps).map λels=>.val (.row D.length 0 len len) (D++[.arr T.sz els]) else none
 | none=>none
def zkl (place:Nat->Option (Nat×Nat)):List DV->List (Nat×DV)->Option (List DV)
 | cs,[]=>some cs
 | cs,(i,d)::l=>match place i with
  | some (o,n)=>if zqv n d=true/\o+n<=cs.length then zkl place (putAt cs o (zzd d)) l else none
  | none=>none
def yen (P:Program):TypeDesc->Option (Nat->Option (Nat×Nat))
 | .struct fs=>(zjq P fs.toList).map λpl i=>pl[i]?
 | .array _ e=>(zyn P e).map λn i=>some (i*n,n)
 | _=>none
def tBd (P:Program) (t:TypeId):Option (List DV×(Nat->Option (Nat×Nat))):=
 match zxn P t with
 | some z=>match (P.underlying t).bind (yen P) with
  | some pl=>some ((cellsOf z).map rv,pl)
  | none=>none
 | none=>none
def zew (B:Option (List DV×(Nat->Option (Nat×Nat)))) (ps:Option (List (Nat×DV))):Option DV:=
 match B with
 | some (z,pl)=>match ps with
  | some l=>(zkl pl z l).map .agg
  | none=>none
 | none=>none
def zho:DV->Option Nat
 | .f (.raw (.int _ (.ofNat n)))=>some n
 | _=>none
def zq3:DV->Option Nat
 | .f (.raw (.int .i64 (.ofNat n)))=>some n
 | _=>none
def bdD (tm:Trie DV) (dflt:Nat):Option Operand->Option Nat
 | none=>some dflt
 | some x=>(zzk tm x).bind zho
def xx9 (tm:Trie DV):Option Operand->Option (Option Value)
 | none=>some none
 | some x=>((zzk tm x).bind toV).map some
def zws (D:DH) (T:Option SlT) (l:Nat) (h:Option Nat):DV->Option DV
 | .f (.lst x)=>match T with
  | some T=>if l<=h.getD x.length/\h.getD x.length<=x.length/\(x.all λy=>Nat.beq (zxj y).length T.sz)=true then some (.f (.lst ((x.take (h.getD x.length)).drop l))) else none
  | none=>none
 | .f (.raw (.slice none 0 0))=>match T with
  | some _=>if l=0/\h.getD 0=0 then some zyw else none
  | none=>none
 | .row o off len cap=>match T with
  | some T=>match D[o]? with
   | some (.arr sz _)=>if sz=T.sz/\l<=h.getD len/\h.getD len<=cap then some (if l=0 then .row o off (h.getD len) cap else if l=cap then .row o off 0 0 else .row o (off+l) (h.getD len-l) (cap-l)) else none
   | _=>none
  | none=>none
 | .apl o len=>match T with
  | some T=>match D[o]? with
   | some (.app _ sz els)=>if sz=T.sz/\els.length=len/\0<len/\l<=h.getD len/\h.getD len<=len then some (.prt o len l (h.getD len-l)) else none
   | _=>none
  | none=>none
 | _=>none
def zgw (l:Nat) (h:Option Nat) (cs:List FV):Option (Nat×Nat×TypeId)->Option DV
 | some (m,1,_)=>if l<h.getD m/\h.getD m<=m/\m<=cs.length/\m<=1000000000/\cs.all zq2=true then some (.f (.lst ((cs.take (h.getD m)).drop l))) else none
 | _=>none
def zvp (P:Program) (D:DH) (t:TypeId) (l:Nat) (h:Option Nat):DV->Option DV
 | .fp cs=>zgw l h cs (zlv P t)
 | d=>zws D (tSl P t) l h d
def zkm:Value->Bool
 | .slice (some _) _ _=>false
 | .map (some _)=>false
 | _=>true
def xwa:Hp:=⟨.leaf,.leaf,0⟩
def zue:List DV->Option (List UInt8)
 | []=>some []
 | .f (.raw (.int .u8 (.ofNat n)))::l=>(zue l).map (UInt8.ofNat n::·)
 | _=>none
def yvn (P:Program) (s d:TypeId):Bool:=
 match P.underlying s with
 | some (.slice e)=>match P.underlying d with
  | some .string=>match P.underlying e with
   | some (.int .u8)=>true
   | _=>false
  | _=>false
 | _=>false
def zbq (P:Program) (D:DH) (s d:TypeId) (x:DV):Option DV:=
 match yvn P s d with
 | true=>((zwx D x).bind zue).map λl=>rv (zyx l)
 | false=>match x with
  | .f (.raw v)=>if zkm v=true then (zx7 P xwa s d v).map rv else none
  | _=>none
def zix (D:DH):DV->Option Nat
 | .f (.lst l)=>some l.length
 | .f (.raw (.slice none 0 0))=>some 0
 | .row o _ len _=>match D[o]? with
  | some (.arr _ _)=>some len
  | _=>none
 | .apl o len=>match D[o]? with
  | some (.app _ _ els)=>if els.length=len then some len else none
  | _=>none
 | .prt o n _ len=>match D[o]? with
  | some (.app _ _ els)=>if els.length=n then some len else none
  | _=>none
 | _=>none
def znj:TypeDesc->Nat
 | .string=>0
 | .slice _=>3
 | .map _ _=>1
 | _=>2
def zex (P:Program) (t:TypeId):Option Nat:=(P.underlying t).map znj
def zbl (D:DH) (x:DV):Option Nat->Option DV
 | some 0=>match x with
  | .f (.raw (.string s))=>some (rv (zka s.size))
  | _=>none
 | some 3=>(zix D x).map λn=>rv (zka n)
 | some 1=>match x with
  | .mp o=>match D[o]? with
   | some (.map ks _)=>some (rv (zka ks.length))
   | _=>none
  | _=>none
 | _=>none
def zxb (ks:List Value):List MapEntry:=ks.map λk=>⟨k,undef,0⟩
def zer (P:Program) (t:TypeId):Option (TypeId×Option Value):=
 match P.underlying t with
 | some (.map kt et)=>some (kt,zxn P et)
 | _=>none
def zs2 (ok b:Bool) (d:DV):DV:=match ok with
 | true=>.tup [d,rv (.bool b)]
 | false=>d
def zs3 (P:Program) (D:DH) (M:Option (TypeId×Option Value)) (x:DV) (k:Option Value) (ok:Bool):Option DV:=
 match M with
 | some (kt,z)=>match x with
  | .mp o=>match D[o]? with
   | some (.map ks vs)=>match k with
    | some k=>match zy1 P kt k (zxb ks) with
     | some (some i)=>(vs[i]?).map (zs2 ok true)
     | some none=>z.map λz=>zs2 ok false (ofV z)
     | none=>none
    | none=>none
   | _=>none
  | _=>none
 | none=>none
def zu7 (P:Program) (D:DH) (base:Nat) (M:Option (TypeId×Option Value)) (x:DV) (k:Option Value) (d:DV):Option DH:=
 match M with
 | some (kt,z)=>match x with
  | .mp o=>match D[o]? with
   | some (.map ks vs)=>match k with
    | some k=>if base<=o then match zy1 P kt k (zxb ks) with
     | some (some i)=>match ks[i]? with
      | some k'=>if (zyj k'&&Instr.sameBits 10000 k' k)=true then some (D.set o (.map (ks.set i k) (vs.set i d))) else none
      | none=>none
     | some none=>some (D.set o (.map (ks++[k]) (vs++[d])))
     | none=>none else none
    | none=>none
   | _=>none
  | _=>none
 | none=>none
def zr5 (i:Nat):DV->Option DV
 | .tup l=>l[i]?
 | _=>none
def zbr (D:DH) (d:DV):Option DV:=
 match d with
 | .ref o i k=>if zs0 D d=true then some d else none
 | .rfa o n i k=>if zs0 D d=true then some d else none
 | .fp l=>some (.fp l)
 | .fn g a b=>some (.fn g a b)
 | .yl l=>match D[l]? with
  | some (.loop ..)=>some (.yl l)
  | _=>none
 | _=>none
def zu8 (D:DH) (args:List DV):DV->Option DRes
 | .fn g a b=>some (.enter g (a++args++b))
 | .yl l=>match D[l]? with
  | some (.loop ..)=>some (.yield l args)
  | _=>none
 | _=>none
def zey:Option (DV×DH)->Option DRes
 | some (d,D)=>some (.val d D)
 | none=>none
def hpD (d:DV):Option DH->Option DRes
 | some D=>some (.val d D)
 | none=>none
def zpc (P:Program) (f:Value->Value->Sem Value) (l:List DV):Option DV:=
 match yl9 l with
 | some (x::l)=>(zrr P f x l).map rv
 | _=>none
def ys2 (D:DH) (base:Nat) (T:SlT) (d:DV) (x:List DV):Option DRes:=
 match d with
 | .row o off len _=>match D[o]? with
  | some (.arr sz els)=>if sz=T.sz/\0<sz/\base<=o/\off+len<=els.length then some (.val (rv (zka (min x.length len))) (D.set o (.arr sz (putAt els off (x.take (min x.length len)))))) else none
  | _=>none
 | .apl o len=>match D[o]? with
  | some (.app e sz els)=>if sz=T.sz/\0<sz/\base<=o/\els.length=len then some (.val (rv (zka (min x.length len))) (D.set o (.app e sz (putAt els 0 (x.take (min x.length len)))))) else none
  | _=>none
 | _=>none
def zhp (D:DH) (base:Nat) (T:Option SlT) (d:DV):Option DRes:=
 match d with
 | .prt o n off len=>match T with
  | some T=>match D[o]? with
   | some (.app e sz els)=>if sz=1/\T.sz=1/\base<=o/\els.length=n/\off+len<=n then some (.val (.tup []) (D.set o (.app e sz (putAt els off (List.replicate len T.z))))) else none
   | _=>none
  | none=>none
 | _=>none
def zx0 (P:Program) (D:DH) (base:Nat) (ats:List TypeId) (args:List DV):Builtin->Option DRes
 | .append=>match ats with
  | [st,tx]=>match zv0 P tx with
   | true=>match args with
    | [s,x]=>match tSl P st with
     | some T=>match zwx D x with
      | some new=>if new.all (zqv T.sz)=true then zey (zw7 D base T s new) else none
      | none=>none
     | none=>none
    | _=>none
   | false=>none
  | _=>none
 | .len=>match ats with
  | t::_=>match args with
   | [x]=>zv1 D (zbl D x (zex P t))
   | _=>none
  | []=>none
 | .copy=>match ats with
  | t::_=>match args with
   | [d,x]=>match tSl P t with
    | some T=>match zwx D x with
     | some new=>if new.all (zqv T.sz)=true then ys2 D base T d new else none
     | none=>none
    | none=>none
   | _=>none
  | []=>none
 | .clear=>match ats with
  | [t]=>match args with
   | [x]=>zhp D base (tSl P t) x
   | _=>none
  | _=>none
 | .max=>zv1 D (zpc P Builtin.max2 args)
 | .min=>zv1 D (zpc P Builtin.min2 args)
 | _=>none
def yd6 (P:Program) (op:BinOp) (t:TypeId) (x y:Operand) (a b:Option DV):Option DV:=
 match a.bind toV with
 | some va=>match b.bind toV with
  | some vb=>(zsz P op t x y va vb).map ofV
  | none=>none
 | none=>none
def dUn (P:Program) (op:UnOp) (a:Option DV):Option DV:=
 match a.bind toV with
 | some v=>(unA P op v).map ofV
 | none=>none
def yvo (tm:Trie DV) (a b:Operand):Option DV->Option DV
 | some (.f (.raw (.bool true)))=>zzk tm a
 | some (.f (.raw (.bool false)))=>zzk tm b
 | _=>none
def zbs (D:DH) (fn:Fn) (a b:Option (List DV)):Option DRes:=
 match fn with
 | .func g=>match a with
  | some l=>match b with
   | some m=>some (.val (.fn g l m) D)
   | none=>none
  | none=>none
 | _=>none
def zp7 (P:Program) (tm:Trie DV) (D:DH) (base:Nat) (c:Call):Option DRes:=
 match zy5 tm c.args.toList with
 | some l=>match c.callee with
  | .builtin b=>zx0 P D base c.argTypes.toList l b
  | .value f=>(zzk tm f).bind (zu8 D l)
  | _=>none
 | none=>none
def zez (D:DH) (T:Option SlT) (n m:Option DV):Option DRes:=
 match T with
 | some T=>match n.bind zq3 with
  | some n=>match m.bind zq3 with
   | some m=>zr4 D T n m
   | none=>none
  | none=>none
 | none=>none
def zpd (D:DH) (base:Nat) (n:Option Nat) (a x:Option DV):Option DRes:=
 match n with
 | some n=>match a with
  | some a=>match x with
   | some d=>hpD (rv undef) (zkk D base n d a)
   | none=>none
  | none=>none
 | none=>none
def xyz (P:Program) (D:DH) (t:TypeId) (x i:Option DV):Option DV:=
 match x with
 | some d=>match i.bind zho with
  | some n=>zyz D (tSl P t) (zlv P t) n d
  | none=>none
 | none=>none
def zw6 (P:Program) (t:TypeId) (x i:Option DV):Option DV:=
 match x with
 | some (.f (.raw v))=>match i with
  | some (.f (.raw n))=>if zkm v=true then (zmv P t v n).map ofV else none
  | _=>none
 | some (.agg cs)=>match i.bind zho with
  | some n=>match zlv P t with
   | some (m,s,e)=>if n<m then (tLd P e).bind λa=>zqw cs (n*s) a else none
   | none=>none
  | none=>none
 | _=>none
def zmk (P:Program) (t:TypeId) (f:Nat):Option DV->Option DV
 | some (.agg cs)=>match zki P t f with
  | some (o,ft)=>(tLd P ft).bind λa=>zqw cs o a
  | none=>none
 | _=>none
def zvq (P:Program) (tm:Trie DV) (D:DH) (t:TypeId) (x:Option DV) (lo hi mx:Option Operand):Option DV:=
 match x with
 | some (.f (.raw (.string s)))=>match xx9 tm lo with
  | some l=>match xx9 tm hi with
   | some h=>match mx with
    | none=>match P.underlying t with
     | some .string=>(zkb s l h none).map rv
     | _=>none
    | some _=>none
   | none=>none
  | none=>none
 | some d=>match mx with
  | none=>match bdD tm 0 lo with
   | some l=>match hi with
    | none=>zvp P D t l none d
    | some h=>match (zzk tm h).bind zho with
     | some h=>zvp P D t l (some h) d
     | none=>none
   | none=>none
  | some _=>none
 | none=>none
def dop (P:Program) (base:Nat) (tm:Trie DV) (D:DH):Op->Option DRes
 | .move x=>zv1 D (zzk tm x)
 | .assign x=>zv1 D (zzk tm x)
 | .pick c a b=>zv1 D (yvo tm a b (zzk tm c))
 | .alloc e=>zkj P D e
 | .box _ x=>yem D (zzk tm x)
 | .build t ps=>zv1 D (zew (tBd P t) (zud tm ps.toList))
 | .buildSlice t len ps=>match tSl P t with
  | some T=>zx2 D T len (zud tm ps.toList)
  | none=>none
 | .insert t m k v=>match zzk tm m with
  | some m=>match zzk tm k with
   | some k=>match zzk tm v with
    | some d=>hpD (rv undef) (zu7 P D base (zer P t) m (toV k) d)
    | none=>none
   | none=>none
  | none=>none
 | .mapUpdate t m k v=>match zzk tm m with
  | some m=>match zzk tm k with
   | some k=>match zzk tm v with
    | some d=>hpD (rv undef) (zu7 P D base (zer P t) m (toV k) d)
    | none=>none
   | none=>none
  | none=>none
 | .load t a=>match tLd P t with
  | some n=>zv1 D ((zzk tm a).bind (zv2 D n))
  | none=>none
 | .store t a x=>zpd D base (zyn P t) (zzk tm a) (zzk tm x)
 | .nilCheck x=>zv1 D ((zzk tm x).bind (zbr D))
 | .binOp op t x y _=>zv1 D (yd6 P op t x y (zzk tm x) (zzk tm y))
 | .unOp op _ x=>zv1 D (dUn P op (zzk tm x))
 | .convert s d x=>zv1 D ((zzk tm x).bind (zbq P D s d))
 | .makeFunc fn a b=>zbs D fn (zy5 tm a.toList) (zy5 tm b.toList)
 | .makeMap _ none=>some (.val (.mp D.length) (D++[.map [] []]))
 | .makeSlice t l c=>zez D (tSl P t) (zzk tm l) (zzk tm c)
 | .slice t x lo hi mx=>zv1 D (zvq P tm D t (zzk tm x) lo hi mx)
 | .fieldAddr s x f=>match zki P s f with
  | some (o,_)=>zv1 D ((zzk tm x).bind (zs1 D o))
  | none=>none
 | .field t x f=>zv1 D (zmk P t f (zzk tm x))
 | .indexAddr t x i=>zv1 D (xyz P D t (zzk tm x) (zzk tm i))
 | .index t x i=>zv1 D (zw6 P t (zzk tm x) (zzk tm i))
 | .lookup t m k ok=>match zzk tm m with
  | some m=>match zzk tm k with
   | some k=>zv1 D (zs3 P D (zer P t) m (toV k) ok)
   | none=>none
  | none=>none
 | .extract x i=>zv1 D ((zzk tm x).bind (zr5 i))
 | .call c=>zp7 P tm D base c
 | _=>none
end Go.Dv
namespace Go.Dv
open Go Go.Sim
structure Par where
 P:Program
 ann:FuncId->Ann
 tv:FuncId->Bool
 fr:FuncId->Bool
def zyr {α:Type} (k:Nat):List (Nat×α)->Option α
 | []=>none
 | (i,x)::l=>if i=k then some x else zyr k l
def zu9:FV->FV
 | .raw (.slice none 0 0)=>.lst []
 | x=>x
def zml (g:DV->Option (FV×List Nat)):List DV->Option (List FV×List Nat)
 | []=>some ([],[])
 | d::l=>match g d with
  | some (x,i)=>match zml g l with
   | some (xs,is)=>some (x::xs,i++is)
   | none=>none
  | none=>none
def frz (base:Nat) (D:DH):Nat->DV->Option (FV×List Nat)
 | _,.f x=>some (zu9 x,[])
 | k+1,.agg l=>if l.all zut=true then (zml (frz base D k) l).map λq=>(.agg q.1,q.2) else none
 | k+1,.row o off len _=>match D[o]? with
  | some (.arr sz els)=>if base<=o/\off+len<=els.length/\0<sz then (zml (frz base D k) ((els.drop off).take len)).map λq=>(.lst q.1,o::q.2) else none
  | _=>none
 | k+1,.apl o len=>match D[o]? with
  | some (.app _ sz els)=>if base<=o/\els.length=len/\0<sz then (zml (frz base D k) els).map λq=>(.lst q.1,o::q.2) else none
  | _=>none
 | _,_=>none
def zbm (g:DV->Option (DV×List Nat)):List DV->Option (List DV×List Nat)
 | []=>some ([],[])
 | d::l=>match g d with
  | some (x,i)=>match zbm g l with
   | some (xs,is)=>some (x::xs,i++is)
   | none=>none
  | none=>none
def zhq (base:Nat) (D:DH) (d:DV):Option (DV×List Nat):=(frz base D 4 d).map λq=>(.f q.1,q.2)
def zbn (base:Nat) (D:DH):DV->Option (DV×List Nat)
 | .agg l=>if l.all zut=true then (zbm (zhq base D) l).map λq=>(.agg q.1,q.2) else none
 | .fn g [] []=>some (.fn g [] [],[])
 | d=>zhq base D d
def znh (base:Nat) (D:DH):DV->Option (DV×List Nat)
 | .tup l=>(zbm (zbn base D) l).map λq=>(.tup q.1,q.2)
 | d=>zbn base D d
def zes (D:DH):List Nat->DH
 | []=>D
 | o::l=>zes (D.set o .dead) l
def zuw:DV->DV
 | .f x=>.f (zu9 x)
 | .agg l=>.agg (l.map λd=>match d with
  | .f x=>.f (zu9 x)
  | d=>d)
 | d=>d
structure SD where
 tm:Trie DV
 D:DH
def ze0:DV->Bool
 | .f (.raw (.slice none 0 0))=>true
 | _=>false
def zwi (base:Nat) (s:SD):Gh->Option SD
 | .frz t=>match s.tm.get t with
  | some d=>match znh base s.D d with
   | some (d',is)=>some ⟨s.tm.put t d',zes s.D is⟩
   | none=>none
  | none=>none
 | .own t e sz=>match s.tm.get t with
  | some (.f (.raw (.slice none 0 0)))=>some ⟨s.tm.put t (.apl s.D.length 0),s.D++[.app e sz []]⟩
  | _=>none
 | .ownC t k e sz=>match s.tm.get t with
  | some (.ref o i j)=>match s.D[o]? with
   | some (.arr s' els)=>match els[i]? with
    | some (.agg cs)=>match cs[j+k]? with
     | some (.f (.raw (.slice none 0 0)))=>if base<=o then some ⟨s.tm,s.D.set o (.arr s' (els.set i (.agg (cs.set (j+k) (.apl s.D.length 0)))))++[.app e sz []]⟩ else none
     | _=>none
    | _=>none
   | _=>none
  | _=>none
 | .ownAll t e sz=>match s.tm.get t with
  | some (.row o _ _ _)=>match s.D[o]? with
   | some (.arr 1 els)=>if base<=o/\els.all ze0=true then some ⟨s.tm,s.D.set o (.arr 1 ((List.range els.length).map λi=>.apl (s.D.length+i) 0))++List.replicate els.length (.app e sz [])⟩ else none
   | _=>none
  | _=>none
 | .frzP t=>match s.tm.get t with
  | some (.ref o 0 0)=>match s.D[o]? with
   | some (.arr sz [d])=>match ysp (zzd d) with
    | some ys=>if base<=o/\0<ys.length then some ⟨s.tm.put t (.fp ys),s.D.set o .dead⟩ else none
    | none=>none
   | _=>none
  | _=>none
 | .frzI t k=>match s.tm.get t with
  | some (.row o off len cap)=>match (s.tm.get k).bind zho with
   | some i=>match s.D[o]? with
    | some (.arr sz els)=>match els[off+i]? with
     | some d=>match zzd d with
      | [x]=>match znh base s.D x with
       | some (.f y,is)=>match (zes s.D is)[o]? with
        | some (.arr sz' els')=>if base<=o/\zq2 y=true/\sz'=1 then some ⟨s.tm,(zes s.D is).set o (.arr sz' (els'.set (off+i) (.f y)))⟩ else none
        | _=>none
       | _=>none
      | _=>none
     | none=>none
    | _=>none
   | none=>none
  | _=>none
def zvr (base:Nat):List Gh->SD->Option SD
 | [],s=>some s
 | g::l,s=>match zwi base s g with
  | some s'=>zvr base l s'
  | none=>none
def zbt (K:KD) (id:Nat) (s:SD):Option SD:=match zyr id K.an.gh with
 | some l=>zvr K.base l s
 | none=>some s
mutual
def below (L:Nat):DV->Bool
 | .f _=>true
 | .fp _=>true
 | .agg l=>zzm L l
 | .tup l=>zzm L l
 | .fn _ a b=>zzm L a&&zzm L b
 | .yl o=>decide (o<L)
 | .ref o _ _=>decide (o<L)
 | .rfa o _ _ _=>decide (o<L)
 | .row o _ _ _=>decide (o<L)
 | .apl o _=>decide (o<L)
 | .prt o _ _ _=>decide (o<L)
 | .mp o=>decide (o<L)
def zzm (L:Nat):List DV->Bool
 | []=>true
 | d::l=>below L d&&zzm L l
end
def zza (L:Nat):DObj->Bool
 | .arr _ els=>els.all (below L)
 | .app _ _ els=>els.all (below L)
 | .map _ vs=>vs.all (below L)
 | .loop ..=>true
 | .dead=>true
def zyp (base L:Nat) (D:DH):Bool:=((D.drop base).take (L-base)).all (zza L)
def canon (tm:Trie DV):List Tmp->Trie DV
 | []=>.leaf
 | k::l=>match tm.get k with
  | some d=>(canon tm l).put k d
  | none=>canon tm l
def zp8 (tm:Trie DV) (L:Nat):List Tmp->Bool
 | []=>true
 | k::l=>match tm.get k with
  | some d=>below L d&&zp8 tm L l
  | none=>zp8 tm L l
def ze1 (keep:List Tmp) (raw:Bool) (base L:Nat) (s:SD):Option SD:=
 match raw with
 | true=>some ⟨canon s.tm keep,s.D⟩
 | false=>if zp8 s.tm L keep=true/\zyp base L s.D=true/\L<=s.D.length/\base<=L then some ⟨canon s.tm keep,s.D.take L⟩ else none
def lpD (h:SD->Option SD) (F:SD->Option (BX×SD)):Nat->SD->Option (BX×SD)
 | 0,_=>none
 | m+1,s=>match h s with
  | some s1=>match F s1 with
   | some (.nrm,s')=>lpD h F m s'
   | r=>r
  | none=>none
open Classical in
def yeo {α:Type} (g:Nat->Option α):Option α:=if h:∃ n r,g n=some r then some h.choose_spec.choose else none
def zlg (h:SD->Option SD) (F:SD->Option (BX×SD)) (s:SD):Option (BX×SD):=yeo λn=>lpD h F n s
abbrev zni:=FuncId->List DV->Nat->DH->Option (DV×DH)
abbrev zmm:=KD->Code->SD->Option (BX×SD)
def putD (tm:Trie DV) (nt:Nat) (d:Option Tmp) (v:DV):Trie DV:=
 match d with
 | some d=>if d<nt then tm.put d v else tm
 | none=>tm
def znk (tm:Trie DV):Nat->List DV->Trie DV
 | _,[]=>tm
 | d,v::l=>znk (tm.put d v) (d+1) l
def ylw (tm:Trie DV) (nt:Nat):List Tmp->List DV->Trie DV
 | t::ts,v::vs=>ylw (putD tm nt (some t) v) nt ts vs
 | _,_=>tm
def gdV (w:Bool):Option DV->Option Bool
 | some (.f (.raw (.bool b)))=>some (b==w)
 | some (.f (.raw (.tuple _)))=>some false
 | _=>none
def gdO (w:Bool) (tm:Trie DV):Option Oper->Option Bool
 | some ⟨some d,_,_,_,_,_⟩=>gdV w (tm.get d)
 | _=>none
def zta (all:List Oper) (tm:Trie DV):Option (Nat×Bool)->Option Bool
 | none=>some true
 | some (j,w)=>gdO w tm all[j]?
def zwy (sub:zni) (yld:zni) (base:Nat) (D:DH):Option DRes->Option (DV×DH)
 | some (.val d D')=>some (d,D')
 | some (.enter g args)=>sub g args base D
 | some (.yield l args)=>yld l args base D
 | none=>none
def zxo (P:Program) (sub yld:zni) (base nt:Nat) (all:List Oper):List Oper->Trie DV->DH->Option (Trie DV×DH)
 | [],tm,D=>some (tm,D)
 | o::rest,tm,D=>match zta all tm o.guard with
  | some true=>match zwy sub yld base D (dop P base tm D o.op) with
   | some (d,D')=>zxo P sub yld base nt all rest (putD tm nt o.dst d) D'
   | none=>none
  | some false=>zxo P sub yld base nt all rest (putD tm nt o.dst (rv undef)) D
  | none=>none
def zyl:Option DV->Option Nat
 | some (.ref o _ _)=>some o
 | some (.rfa o _ _ _)=>some o
 | some (.row o _ _ _)=>some o
 | some (.apl o _)=>some o
 | some (.prt o _ _ _)=>some o
 | some (.mp o)=>some o
 | _=>none
def zp9 (tm:Trie DV):Op->Option Nat
 | .load _ a=>zyl (zzk tm a)
 | .lookup _ m _ _=>zyl (zzk tm m)
 | .convert _ _ x=>zyl (zzk tm x)
 | .call c=>match c.args.toList with
  | x::_=>zyl (zzk tm x)
  | []=>none
 | _=>none
def zvg (Q:Par) (tm:Trie DV):Op->Option (Option Nat)
 | .store _ a _=>some (zyl (zzk tm a))
 | .mapUpdate _ m _ _=>some (zyl (zzk tm m))
 | .insert _ m _ _=>some (zyl (zzk tm m))
 | .call ⟨.builtin _,args,_⟩=>match args.toList with
  | x::_=>some (zyl (zzk tm x))
  | []=>none
 | .call ⟨.value f,_,_⟩=>match zzk tm f with
  | some (.fn g _ _)=>match (Q.ann g).raw with
   | true=>none
   | false=>some none
  | _=>none
 | _=>none
def zsw (base:Nat) (w:Option (Option Nat)):List (Nat×Option Nat)->List (Nat×Option Nat)
 | []=>[]
 | (i,none)::l=>(i,none)::zsw base w l
 | (i,some o)::l=>match w with
  | some none=>(i,some o)::zsw base w l
  | some (some o')=>if o=o' then zsw base w l else (i,some o)::zsw base w l
  | none=>if o<base then (i,some o)::zsw base w l else zsw base w l
def yka (i:Nat):List (Nat×Option Nat)->Bool
 | []=>false
 | (j,_)::l=>if j=i then true else yka i l
def zq4 (Q:Par) (base:Nat) (tm:Trie DV) (i:Nat) (op:Op) (cl:List (Nat×Option Nat)):List (Nat×Option Nat):=
 match zz0 op with
 | .pure=>cl
 | .fresh=>cl
 | .read=>(i,zp9 tm op)::cl
 | .eff=>zsw base (zvg Q tm op) cl
def zqx (D:DH):DV->Bool
 | .ref o i k=>zs0 D (.ref o i k)
 | .rfa o n i k=>zs0 D (.rfa o n i k)
 | .row o _ _ _=>match D[o]? with
  | some (.arr _ _)=>true
  | _=>false
 | .apl o len=>match D[o]? with
  | some (.app _ _ els)=>decide (els.length=len)
  | _=>false
 | .mp o=>match D[o]? with
  | some (.map _ _)=>true
  | _=>false
 | _=>false
def ziy (D:DH):DV->Bool
 | .f (.raw v)=>yzy v v&&oneCell v
 | .f (.lst _)=>true
 | .fp _=>true
 | d=>zqx D d
def eqD (D:DH):DV->Bool
 | .f (.raw v)=>eqV v v
 | .agg l=>l.all (ziy D)
 | .tup l=>l.all (ziy D)
 | .fn _ a b=>a.all (ziy D)&&b.all (ziy D)
 | d=>ziy D d
def zhr (D:DH) (all:List Oper) (tm:Trie DV) (nt i:Nat) (cl:List (Nat×Option Nat)):Bool:=
 match all[i]? with
 | some o=>match zta all tm o.guard with
  | some true=>yka i cl&&(match o.dst with
   | some d=>decide (d<nt)&&((tm.get d).map (eqD D)).getD false
   | none=>false)
  | some false=>true
  | none=>false
 | none=>false
def zbu:zni:=λ_ _ _ _=>none
def znl (L:Nat):List DV->Nat
 | []=>L
 | .apl o _::l=>min o (znl L l)
 | .row o _ _ _::l=>min o (znl L l)
 | .prt o _ _ _::l=>min o (znl L l)
 | .rfa o _ _ _::l=>min o (znl L l)
 | .mp o::l=>min o (znl L l)
 | _::l=>znl L l
def xst (base:Nat) (D:DH):Nat:=if base+1<=D.length/\zyp base (base+1) D=true then base+1 else base
def xsu (base:Nat) (D:DH):Option (List DV)->Nat
 | some l=>if base<=znl D.length l/\znl D.length l<=D.length/\zyp base (znl D.length l) D=true then znl D.length l else xst base D
 | none=>base
def xwb (Q:Par) (base:Nat) (D:DH) (l:Option (List DV)):Option DV->Nat
 | some (.fn g _ _)=>match (Q.ann g).raw with
  | true=>match Q.fr g with
   | true=>xsu base D l
   | false=>base
  | false=>base
 | _=>base
def zuu (Q:Par) (base:Nat) (tm:Trie DV) (D:DH):Op->Nat
 | .call ⟨.value f,args,_⟩=>xwb Q base D (zy5 tm args.toList) (zzk tm f)
 | _=>base
def zwj (Q:Par) (sub:zni) (base nt:Nat) (all:List Oper):List PI->Trie DV->DH->List (Nat×Option Nat)->Option (Trie DV×DH)
 | [],tm,D,_=>some (tm,D)
 | .run i::pl,tm,D,cl=>match all[i]? with
  | some o=>match zta all tm o.guard with
   | some true=>match zwy sub zbu (zuu Q base tm D o.op) D (dop Q.P base tm D o.op) with
    | some (d,D')=>zwj Q sub base nt all pl (putD tm nt o.dst d) D' (zq4 Q (zuu Q base tm D o.op) tm i o.op cl)
    | none=>none
   | some false=>zwj Q sub base nt all pl (putD tm nt o.dst (rv undef)) D cl
   | none=>none
  | none=>none
 | .again i::pl,tm,D,cl=>match zhr D all tm nt i cl with
  | true=>zwj Q sub base nt all pl tm D cl
  | false=>none
def ztm (prev:zmm):zni:=λl args base D=>
 match D[l]? with
 | some (.loop st p K tm ps asg body)=>if args.length=ps.toList.length/\base=K.base/\base<=l then
   match prev ⟨K.fn,K.nt,some l,K.base,K.an⟩ asg ⟨ylw tm K.nt ps.toList args,D⟩ with
   | some (.nrm,s)=>match s.D[l]? with
    | some (.loop .ready p' K' tm' ps' asg' body')=>match prev ⟨K.fn,K.nt,some l,K.base,K.an⟩ body ⟨s.tm,s.D.set l (.loop .busy p' K' tm' ps' asg' body')⟩ with
     | some (x,s2)=>match s2.D[l]? with
      | some (.loop _ _ K2 tm2 ps2 asg2 body2)=>match x with
       | .nrm=>some (rv (.bool true),s2.D.set l (.loop .ready none K2 tm2 ps2 asg2 body2))
       | .ret=>some (rv (.bool false),s2.D.set l (.loop .done (some .ret) K2 tm2 ps2 asg2 body2))
       | .exit id=>some (rv (.bool false),s2.D.set l (.loop .done (some (.exit id)) K2 tm2 ps2 asg2 body2))
      | _=>none
     | none=>none
    | _=>none
   | _=>none else none
 | _=>none
def zym (D:DH) (P:Program) (tm:Trie DV):List ResultVar->Option (List DV)
 | []=>some []
 | .tmp t::l=>match tm.get t with
  | some d=>(zym D P tm l).map (d::·)
  | none=>none
 | .cell a t::l=>match (tm.get a).bind λa=>(tLd P t).bind λn=>zv2 D n a with
  | some d=>(zym D P tm l).map (d::·)
  | none=>none
def ysr:List DV->DV
 | [d]=>d
 | l=>.tup l
def ze2 (P:Program) (fn:Func) (raw:Bool) (base:Nat):Option (BX×SD)->Option (DV×DH)
 | some (x,s)=>match x with
  | .exit _=>none
  | _=>match zym s.D P s.tm fn.results.toList with
   | some l=>match raw with
    | true=>some (ysr l,s.D)
    | false=>(znh base s.D (ysr l)).map λq=>(q.1,s.D.take base)
   | none=>none
 | none=>none
def zso (Q:Par) (ev:zmm) (f:FuncId) (args:List DV) (base:Nat) (D:DH):Option (DV×DH):=
 match Q.P.funcs[f]? with
 | some fn=>match fn.body with
  | some c=>if args.length<=fn.ntmps then
    match (Q.ann f).raw with
    | true=>ze2 Q.P fn true base (ev ⟨f,fn.ntmps,none,base,Q.ann f⟩ c ⟨znk .leaf 0 args,D⟩)
    | false=>ze2 Q.P fn false D.length (ev ⟨f,fn.ntmps,none,D.length,Q.ann f⟩ c ⟨znk .leaf 0 (args.map zuw),D⟩) else none
  | none=>none
 | none=>none
def yd7 (D:DH):List DV->Option (DV×DH)
 | []=>some (rv (.bool true),D)
 | _=>none
def zsp (Q:Par) (ev:zmm) (f:FuncId) (args:List DV) (base:Nat) (D:DH):Option (DV×DH):=
 match Q.tv f with
 | true=>yd7 D args
 | false=>zso Q ev f args base D
def zbv:Option Code->SD->Option (BX×SD)
 | none,s=>some (.nrm,s)
 | some .ret,s=>some (.ret,s)
 | some (.exit id),s=>some (.exit id,s)
 | _,_=>none
def zx3 (tm:Trie DV) (l:Nat):Option (DV×DH)->Option (BX×SD)
 | some (_,D)=>match D[l]? with
  | some (.loop st p _ _ _ _ _)=>match st with
   | .busy=>none
   | _=>zbv p ⟨tm,D.set l .dead⟩
  | _=>none
 | none=>none
def zkn:Option DObj->Bool
 | some (.loop ..)=>true
 | _=>false
def xy0 (K:KD) (D:DH):Bool:=match K.ro with
 | none=>true
 | some l=>zkn D[l]?
def zko (Q:Par) (prev:zmm) (K:KD) (f:Operand) (ps:Array Tmp) (asg body:Code) (s:SD):Option (BX×SD):=
 match zzk s.tm f with
 | some (.fn g a b)=>match (Q.ann g).raw&&(xy0 K s.D&&!Q.tv g) with
  | true=>zx3 s.tm s.D.length (zso Q prev g (a++[.yl s.D.length]++b) K.base (s.D++[.loop .ready none K s.tm ps asg body]))
  | false=>none
 | _=>none
def yvp:Option (Trie DV×DH)->Option (BX×SD)
 | some (tm,D)=>some (.nrm,⟨tm,D⟩)
 | none=>none
def ys3 (Q:Par) (sub:zni) (base nt:Nat) (all:List Oper) (pl:Option (List PI×List Nat)) (s:SD):Option (BX×SD):=
 match pl with
 | some (pl,b)=>match zv9 all pl b with
  | true=>yvp (zwj Q sub base nt all pl s.tm s.D [])
  | false=>none
 | none=>none
def zlh (f:SD->Option (BX×SD)):Option (BX×SD)->Option (BX×SD)
 | some (.nrm,s)=>f s
 | r=>r
def zu0 (id:Nat):Option (BX×SD)->Option (BX×SD)
 | some (.exit j,s)=>if id=j then some (.nrm,s) else some (.exit j,s)
 | r=>r
def zbw (a b:SD->Option (BX×SD)) (s:SD):Option DV->Option (BX×SD)
 | some (.f (.raw (.bool true)))=>a s
 | some (.f (.raw (.bool false)))=>b s
 | _=>none
def evD (Q:Par) (sub:zni) (prev:zmm) (K:KD):Nat->Code->SD->Option (BX×SD)
 | _,.skip,s=>some (.nrm,s)
 | _,.region id ops false,s=>match zbt K id s with
  | some s=>yvp (zxo Q.P sub (ztm prev) K.base K.nt ops.toList ops.toList s.tm s.D)
  | none=>none
 | _,.region id ops true,s=>match zbt K id s with
  | some s=>match K.ro with
   | none=>ys3 Q sub K.base K.nt ops.toList (zyr id K.an.pl) s
   | some _=>none
  | none=>none
 | w,.seq a b,s=>zlh (evD Q sub prev K w b) (evD Q sub prev K w a s)
 | w,.cond x a b,s=>zbw (evD Q sub prev K w a) (evD Q sub prev K w b) s (zzk s.tm x)
 | _,.block id b,s=>zu0 id (evD Q sub prev K id b s)
 | w,.loop b,s=>zlg (ze1 ((zyr w K.an.keep).getD []) K.an.long K.base s.D.length) (evD Q sub prev K w b) s
 | _,.rangeFunc f ps asg body,s=>zko Q prev K f ps asg body s
 | _,.exit id,s=>some (.exit id,s)
 | _,.label _,s=>some (.nrm,s)
 | _,.ret,s=>some (.ret,s)
 | _,_,_=>none
mutual
inductive RunD (Q:Par):FuncId->List DV->Nat->DH->DV×DH->Prop
 | mk {f:FuncId} {args:List DV} {base:Nat} {D:DH} {r:DV×DH} (prev:zmm) (hp:∀ K c s r,prev K c s=some r->EvD Q K c s r) (h:zsp Q prev f args base D=some r):RunD Q f args base D r
inductive EvD (Q:Par):KD->Code->SD->BX×SD->Prop
 | mk {K:KD} {c:Code} {s:SD} {r:BX×SD} (sub:zni) (prev:zmm) (ha:K.an=Q.ann K.fn) (hs:∀ f a b D r,sub f a b D=some r->RunD Q f a b D r) (hp:∀ K c s r,prev K c s=some r->EvD Q K c s r) (h:evD Q sub prev K 0 c s=some r):EvD Q K c s r
end
end Go.Dv
namespace Go.Dv
open Go Go.Sim
inductive FR (S:Nat->Prop) (H:Hp):FV->Value->Prop
 | raw (v:Value):FR S H (.raw v) v
 | nil:FR S H (.lst []) (.slice none 0 0)
 | lst {l:List FV} {b o n cap sz:Nat} {c:List Value} (w:Nat->Nat->Value) (hn:n=l.length) (hb:S b) (hc:H.row b=some c) (hz:0<sz) (ho:o+l.length*sz<=c.length) (hcap:cap<U->n<=cap)
   (hs:∀ (i:Nat) (x:FV),l[i]? =some x->(zxj x).length=sz)
   (hw:∀ (i:Nat) (x:FV) (j:Nat) (y:FV),l[i]? =some x->(zxj x)[j]? =some y->c[o+i*sz+j]? =some (w i j)/\oneCell (w i j)=true/\zq2 y=true)
   (hr:∀ (i:Nat) (x:FV) (j:Nat) (y:FV),l[i]? =some x->(zxj x)[j]? =some y->FR S H y (w i j)):FR S H (.lst l) (.slice (some ⟨b,o,none⟩) n cap)
structure Ctx where
 σ:Nat->Nat
 S:Nat->Prop
 H:Hp
 D:DH
def apV (b:Nat):Nat->Value
 | 0=>.slice none 0 0
 | n+1=>.slice (some ⟨b,0,none⟩) (n+1) (U+2*b)
inductive DR (C:Ctx):DV->Value->Prop
 | f {x:FV} {v:Value} (h:FR C.S C.H x v):DR C (.f x) v
 | agg {ds:List DV} {vs:List Value} (hl:vs.length=ds.length) (h:∀ (i:Nat) (d:DV) (v:Value),ds[i]? =some d->vs[i]? =some v->DR C d v):DR C (.agg ds) (.agg ⟨vs⟩)
 | tup {ds:List DV} {vs:List Value} (hl:vs.length=ds.length) (h:∀ (i:Nat) (d:DV) (v:Value),ds[i]? =some d->vs[i]? =some v->DR C d v):DR C (.tup ds) (.tuple ⟨vs⟩)
 | fn {g:FuncId} {a b:List DV} {as bs:List Value} (ha:as.length=a.length) (hb:bs.length=b.length) (h1:∀ (i:Nat) (d:DV) (v:Value),a[i]? =some d->as[i]? =some v->DR C d v)
   (h2:∀ (i:Nat) (d:DV) (v:Value),b[i]? =some d->bs[i]? =some v->DR C d v):DR C (.fn g a b) (.func (.func g) ⟨as⟩ ⟨bs⟩)
 | yl {o:Nat} {v:Value} (ho:o<C.D.length) (one:oneCell v=true) (h:∀ st p K tm ps a b,C.D[o]? =some (.loop st p K tm ps a b)->v=.func (.yield (C.σ o)) #[] #[]):DR C (.yl o) v
 | ref {o i k:Nat} {v:Value} (ho:o<C.D.length) (one:oneCell v=true) (h:∀ sz els,C.D[o]? =some (.arr sz els)->v=.pointer (some ⟨C.σ o,i*sz+k,none⟩)):DR C (.ref o i k) v
 | rfa {o n i k:Nat} {v:Value} (ho:o<C.D.length) (one:oneCell v=true) (hn:0<n) (h:(∀ sz els,C.D[o]?≠some (.arr sz els))/\∀ e sz els,C.D[o]? =some (.app e sz els)->n<=els.length/\(els.length=n->v=.pointer (some ⟨C.σ o,i*sz+k,none⟩))):DR C (.rfa o n i k) v
 | row {o off len cap:Nat} {v:Value} (ho:o<C.D.length) (one:oneCell v=true) (h:∀ sz els,C.D[o]? =some (.arr sz els)->v=.slice (some ⟨C.σ o,off*sz,none⟩) len cap/\off+cap<=els.length/\len<=cap/\cap<U):DR C (.row o off len cap) v
 | apl {o len:Nat} {v:Value} (ho:o<C.D.length) (one:oneCell v=true) (h:(∀ sz els,C.D[o]?≠some (.arr sz els))/\∀ e sz els,C.D[o]? =some (.app e sz els)->len<=els.length/\(els.length=len->v=apV (C.σ o) len)):DR C (.apl o len) v
 | prt {o n off len:Nat} {v:Value} (ho:o<C.D.length) (one:oneCell v=true) (hn:0<n) (h:(∀ sz els,C.D[o]?≠some (.arr sz els))/\∀ e sz els,C.D[o]? =some (.app e sz els)->n<=els.length/\(els.length=n->off+len<=n/\∃ c,v=.slice (some ⟨C.σ o,off*sz,none⟩) len c)):DR C (.prt o n off len) v
 | mp {o:Nat} {v:Value} (ho:o<C.D.length) (one:oneCell v=true) (h:∀ ks vs,C.D[o]? =some (.map ks vs)->v=.map (some (C.σ o))):DR C (.mp o) v
 | fp {l:List FV} {b off:Nat} {c:List Value} (w:Nat->Value) (hb:C.S b) (hc:C.H.row b=some c) (hw:∀ (j:Nat) (y:FV),l[j]? =some y->c[off+j]? =some (w j)/\oneCell (w j)=true)
   (hr:∀ (j:Nat) (y:FV),l[j]? =some y->FR C.S C.H y (w j)):DR C (.fp l) (.pointer (some ⟨b,off,none⟩))
def DRs (C:Ctx) (ds:List DV) (vs:List Value):Prop:=vs.length=ds.length/\∀ (i:Nat) (d:DV) (v:Value),ds[i]? =some d->vs[i]? =some v->DR C d v
structure Cl (C:Ctx) (sz:Nat) (els:List DV) (cs:List Value):Prop where
 len:cs.length=els.length*sz
 ok:∀ (i:Nat) (d:DV),els[i]? =some d->zqv sz d=true
 el:∀ (i:Nat) (d:DV) (j:Nat) (x:DV),els[i]? =some d->(zzd d)[j]? =some x->∃ w,cs[i*sz+j]? =some w/\DR C x w
 one:∀ v∈cs,oneCell v=true
def TR (C:Ctx) (tm:Trie DV) (tmH:Trie Value):Prop:=∀ t d,tm.get t=some d->∃ v,tmH.get t=some v/\DR C d v
def ObR (C:Ctx) (o:Nat):DObj->Prop
 | .arr sz els=>∃ cs e,C.H.get (C.σ o)=some (.cells cs e none)/\Cl C sz els cs
 | .app e sz els=>els≠[]->∃ cs k rest,C.H.get (C.σ o)=some (.cells cs e (some k))/\C.H.stk k=C.σ o::rest/\Cl C sz els cs
 | .map ks vs=>∃ es ck,C.H.get (C.σ o)=some (.map es ck)/\es.length=ks.length/\vs.length=ks.length/\(∀ (i:Nat) (e:MapEntry) (k:Value),es[i]? =some e->ks[i]? =some k->e.key=k)/\∀ (i:Nat) (e:MapEntry) (d:DV),es[i]? =some e->vs[i]? =some d->DR C d e.val
 | .loop st p K tm ps asg body=>∃ tmH dn,C.H.get (C.σ o)=some (.loop ⟨st,p,K.fn,tmH,K.nt,ps,asg,body,dn⟩)/\TR C tm tmH/\∀ t d,tm.get t=some d->below o d=true
 | .dead=>True
def zkp:DObj->Bool
 | .app _ _ els=>!els.isEmpty
 | .dead=>false
 | _=>true
def Own (C:Ctx) (o b:Nat):Prop:=∃ x,C.D[o]? =some x/\zkp x=true/\b=C.σ o
def Cls (C:Ctx) (o k:Nat):Prop:=∃ e sz els cs e',C.D[o]? =some (.app e sz els)/\els≠[]/\C.H.get (C.σ o)=some (.cells cs e' (some k))
structure HR (C:Ctx):Prop where
 wf:Wf C.H
 st:∀ b,C.S b->∃ B c,C.H.get b=some B/\C.H.rowOf b B=some c
 ob:∀ o x,C.D[o]? =some x->ObR C o x
 nS:∀ o b,Own C o b->¬C.S b
 inj:∀ o o' b,Own C o b->Own C o' b->o=o'
 cS:∀ o k b cs e,Cls C o k->C.S b->C.H.get b≠some (.cells cs e (some k))
 cI:∀ o o' k,Cls C o k->Cls C o' k->o=o'
def Evo (s s':Nat):DObj->DObj->Prop
 | .arr sz els,.arr sz' els'=>sz'=sz/\els'.length=els.length/\s'=s
 | .app e sz els,.app e' sz' els'=>e'=e/\sz'=sz/\els.length<=els'.length/\(els'.length=els.length->els≠[]->s'=s)
 | .map _ _,.map _ _=>s'=s
 | .loop ..,.loop ..=>s'=s
 | .arr ..,.app ..=>True
 | _,_=>False
structure Nx (W:Nat->Prop) (C C':Ctx):Prop where
 n:C.H.n<=C'.H.n
 S:∀ b,C.S b->C'.S b
 len:C.D.length<=C'.D.length
 get:∀ b,b<C.H.n->(∀ o,¬Own C o b)->C'.H.get b=C.H.get b
 stk:∀ k,k<C.H.n->(∀ o,¬Cls C o k)->C'.H.stk k=C.H.stk k
 evo:∀ o x',o<C.D.length->C'.D[o]? =some x'->x'=.dead∨∃ x,C.D[o]? =some x/\Evo (C.σ o) (C'.σ o) x x'
 own:∀ o b,Own C' o b->Own C o b∨C.H.n<=b
 cls:∀ o k,Cls C' o k->Cls C o k∨C.H.n<=k
 kp:∀ o,o<C.D.length->¬W o->C'.D[o]? =C.D[o]?/\C'.σ o=C.σ o/\∀ b,Own C o b->C'.H.get b=C.H.get b/\C'.H.row b=C.H.row b
theorem zux {α:Type} {l:List α} {i:Nat} (h:i<l.length):∃ x,l[i]? =some x:=⟨_,tzb h⟩
theorem zxc {α:Type} {l:List α} {i:Nat} {x:α} (h:l[i]? =some x):i<l.length:=by
 rcases tz9 i l.length with g | g
 .exact g
 .rw [tzt g] at h;cases h
theorem Nx.rows {W:Nat->Prop} {C C':Ctx} (h:Nx W C C') (hr:HR C):∀ b,C.S b->C'.H.row b=C.H.row b:=by
 intro b hb
 obtain ⟨B,c,h1,h2⟩:=hr.st b hb
 have hn:=hr.wf.dom b B h1
 have e:=h.get b hn (λo ho=>hr.nS o b ho hb)
 unfold Hp.row
 rw [e,h1]
 simp only [tzn]
 cases B with
 | cells c' e' k=>
  cases k with
  | none=>rfl
  | some k=>
   simp only [Hp.rowOf]
   rw [h.stk k (hr.wf.cls _ _ _ _ h1) (λo ho=>hr.cS o k b c' e' ho hb h1)]
 | _=>rfl
theorem FR.mono {S S':Nat->Prop} {H H':Hp} (hS:∀ b,S b->S' b) (hr:∀ b,S b->H'.row b=H.row b) {x:FV} {v:Value} (h:FR S H x v):FR S' H' x v:=by
 induction h with
 | raw v=>exact .raw v
 | nil=>exact .nil
 | lst w hn hb hc hz ho hcap hs hw _ ih=>exact .lst w hn (hS _ hb) (by rw [hr _ hb];exact hc) hz ho hcap hs hw ih
theorem Evo.refl (s:Nat):∀ {x:DObj},x≠.dead->Evo s s x x
 | .arr ..,_=>⟨rfl,rfl,rfl⟩
 | .app ..,_=>⟨rfl,rfl,tzp _,λ_ _=>rfl⟩
 | .map ..,_=>rfl
 | .loop ..,_=>rfl
 | .dead,h=>absurd rfl h
theorem Evo.trans {s s' s'':Nat} {x y z:DObj} (h:Evo s s' x y) (k:Evo s' s'' y z):Evo s s'' x z:=by
 cases x<;>cases y<;>first | exact h.elim | skip
 all_goals (cases z<;>first | exact k.elim | exact trivial | skip)
 .exact ⟨k.1.trans h.1,k.2.1.trans h.2.1,k.2.2.trans h.2.2⟩
 .refine ⟨k.1.trans h.1,k.2.1.trans h.2.1,tys h.2.2.1 k.2.2.1,λe hne=>?_⟩
  have h1:=h.2.2.1
  have h2:=k.2.2.1
  rename_i e1 sz1 els1 e2 sz2 els2 e3 sz3 els3
  have hl:els2.length=els1.length:=by omega
  have hne2:els2≠[]:=λq=>by
   subst q
   simp at hl
   exact hne (tzy hl.symm)
  exact (k.2.2.2 (by omega) hne2).trans (h.2.2.2 hl hne)
 .exact Eq.trans (show s''=s' from k) h
 .exact Eq.trans (show s''=s' from k) h
section
variable {W:Nat->Prop} {C C' C'':Ctx}
theorem Nx.back (h:Nx W C C') {o:Nat} {x':DObj} (ho:o<C.D.length) (hx:C'.D[o]? =some x') (hd:x'≠.dead):∃ x,C.D[o]? =some x/\Evo (C.σ o) (C'.σ o) x x':=by
 rcases h.evo o x' ho hx with g | g
 .exact absurd g hd
 .exact g
theorem Nx.notArr (h:Nx W C C') {o:Nat} (ho:o<C.D.length) (g:∀ sz els,C.D[o]?≠some (.arr sz els)) (sz:Nat) (els:List DV):C'.D[o]?≠some (.arr sz els):=by
 intro hx
 obtain ⟨x,h1,h2⟩:=h.back ho hx (by simp)
 cases x<;>first | exact h2.elim | exact absurd h1 (g _ _)
theorem DR.mono (h:Nx W C C') (hr:HR C) {d:DV} {v:Value} (k:DR C d v):DR C' d v:=by
 have hrow:=h.rows hr
 induction k with
 | f k=>exact .f (k.mono h.S hrow)
 | agg hl _ ih=>exact .agg hl ih
 | tup hl _ ih=>exact .tup hl ih
 | fn ha hb _ _ ih1 ih2=>exact .fn ha hb ih1 ih2
 | @yl o v ho one g=>
  refine .yl (tyf ho h.len) one (λst p K tm ps a b hx=>?_)
  obtain ⟨x,h1,h2⟩:=h.back ho hx (by simp)
  cases x<;>first | exact h2.elim | skip
  rw [show C'.σ o=C.σ o from h2]
  exact g _ _ _ _ _ _ _ h1
 | @ref o i k v ho one g=>
  refine .ref (tyf ho h.len) one (λsz els hx=>?_)
  obtain ⟨x,h1,h2⟩:=h.back ho hx (by simp)
  cases x<;>first | exact h2.elim | skip
  rw [h2.2.2,h2.1]
  exact g _ _ h1
 | @rfa o n i k v ho one hn g=>
  refine .rfa (tyf ho h.len) one hn ⟨λsz els hx=>h.notArr ho g.1 sz els hx,λe sz els hx=>?_⟩
  obtain ⟨x,h1,h2⟩:=h.back ho hx (by simp)
  cases x<;>first | exact h2.elim | exact absurd h1 (g.1 _ _) | skip
  rename_i e0 sz0 els0
  obtain ⟨g1,g2⟩:=g.2 _ _ _ h1
  have h3:=h2.2.2.1
  refine ⟨by omega,λhl=>?_⟩
  have hl0:els0.length=n:=by omega
  have hne:els0≠[]:=λq=>by subst q;simp at hl0;omega
  rw [h2.2.2.2 (by omega) hne,h2.2.1]
  exact g2 hl0
 | @row o off len cap v ho one g=>
  refine .row (tyf ho h.len) one (λsz els hx=>?_)
  obtain ⟨x,h1,h2⟩:=h.back ho hx (by simp)
  cases x<;>first | exact h2.elim | skip
  rw [h2.2.2,h2.1,h2.2.1]
  exact g _ _ h1
 | @apl o len v ho one g=>
  refine .apl (tyf ho h.len) one ⟨λsz els hx=>h.notArr ho g.1 sz els hx,λe sz els hx=>?_⟩
  obtain ⟨x,h1,h2⟩:=h.back ho hx (by simp)
  cases x<;>first | exact h2.elim | exact absurd h1 (g.1 _ _) | skip
  rename_i e0 sz0 els0
  obtain ⟨g1,g2⟩:=g.2 _ _ _ h1
  have h3:=h2.2.2.1
  refine ⟨by omega,λhl=>?_⟩
  have hl0:els0.length=len:=by omega
  rw [g2 hl0]
  cases len with
  | zero=>rfl
  | succ len=>
   have hne:els0≠[]:=λq=>by subst q;simp at hl0
   rw [h2.2.2.2 (by omega) hne]
 | @prt o n off len v ho one hn g=>
  refine .prt (tyf ho h.len) one hn ⟨λsz els hx=>h.notArr ho g.1 sz els hx,λe sz els hx=>?_⟩
  obtain ⟨x,h1,h2⟩:=h.back ho hx (by simp)
  cases x<;>first | exact h2.elim | exact absurd h1 (g.1 _ _) | skip
  rename_i e0 sz0 els0
  obtain ⟨g1,g2⟩:=g.2 _ _ _ h1
  have h3:=h2.2.2.1
  refine ⟨by omega,λhl=>?_⟩
  have hl0:els0.length=n:=by omega
  have hne:els0≠[]:=λq=>by subst q;simp at hl0;omega
  rw [h2.2.2.2 (by omega) hne,h2.2.1]
  exact g2 hl0
 | @mp o v ho one g=>
  refine .mp (tyf ho h.len) one (λks vs hx=>?_)
  obtain ⟨x,h1,h2⟩:=h.back ho hx (by simp)
  cases x<;>first | exact h2.elim | skip
  rw [show C'.σ o=C.σ o from h2]
  exact g _ _ h1
 | fp w hb hc hw hr'=>exact .fp w (h.S _ hb) (by rw [hrow _ hb];exact hc) hw (λj y hj=>(hr' j y hj).mono h.S hrow)
end
end Go.Dv
namespace Go.Dv
open Go Go.Sim
variable {W:Nat->Prop} {C C' C'':Ctx}
theorem Own.lt (hr:HR C) {o b:Nat} (h:Own C o b):b<C.H.n:=by
 obtain ⟨x,h1,h2,rfl⟩:=h
 have ho:=hr.ob o x h1
 cases x with
 | arr sz els=>obtain ⟨cs,e,g,_⟩:=ho;exact hr.wf.dom _ _ g
 | app e sz els=>
  have:els≠[]:=λq=>by subst q;simp [zkp] at h2
  obtain ⟨cs,k,r,g,_⟩:=ho this;exact hr.wf.dom _ _ g
 | map ks vs=>obtain ⟨es,ck,g,_⟩:=ho;exact hr.wf.dom _ _ g
 | loop=>obtain ⟨tmH,dn,g,_⟩:=ho;exact hr.wf.dom _ _ g
 | dead=>simp [zkp] at h2
theorem Cls.lt (hr:HR C) {o k:Nat} (h:Cls C o k):k<C.H.n:=by
 obtain ⟨e,sz,els,cs,e',h1,h2,h3⟩:=h
 exact hr.wf.cls _ _ _ _ h3
theorem Cls.own {o k:Nat} (h:Cls C o k):Own C o (C.σ o):=by
 obtain ⟨e,sz,els,cs,e',h1,h2,h3⟩:=h
 refine ⟨_,h1,?_,rfl⟩
 cases els with
 | nil=>exact absurd rfl h2
 | cons=>rfl
theorem Nx.refl (hr:HR C):Nx W C C where
 n:=tzp _
 S:=λ_ h=>h
 len:=tzp _
 get:=λ_ _ _=>rfl
 stk:=λ_ _ _=>rfl
 evo:=λo x' _ h=>by
  cases x' with
  | dead=>exact .inl rfl
  | _=>exact .inr ⟨_,h,Evo.refl _ (by simp)⟩
 own:=λ_ _ h=>.inl h
 cls:=λ_ _ h=>.inl h
 kp:=λ_ _ _=>⟨rfl,rfl,λ_ _=>⟨rfl,rfl⟩⟩
theorem Nx.trans (h:Nx W C C') (k:Nx W C' C''):Nx W C C'' where
 n:=tys h.n k.n
 S:=λb hb=>k.S b (h.S b hb)
 len:=tys h.len k.len
 get:=λb hb ho=>by
  rw [k.get b (tyf hb h.n) (λo g=>by
   rcases h.own o b g with g | g
   .exact ho o g
   .omega),h.get b hb ho]
 stk:=λc hc ho=>by
  rw [k.stk c (tyf hc h.n) (λo g=>by
   rcases h.cls o c g with g | g
   .exact ho o g
   .omega),h.stk c hc ho]
 evo:=λo x' ho hx=>by
  by_cases hd:x'=.dead
  .exact .inl hd
  .obtain ⟨y,h1,h2⟩:=k.back (tyf ho h.len) hx hd
   have hy:y≠.dead:=λe=>by subst e;cases x'<;>exact h2.elim
   obtain ⟨x,h3,h4⟩:=h.back ho h1 hy
   exact .inr ⟨x,h3,h4.trans h2⟩
 own:=λo b g=>by
  rcases k.own o b g with g | g
  .exact h.own o b g
  .exact .inr (tys h.n g)
 cls:=λo b g=>by
  rcases k.cls o b g with g | g
  .exact h.cls o b g
  .exact .inr (tys h.n g)
 kp:=λo ho hw=>by
  obtain ⟨a1,a2,a3⟩:=h.kp o ho hw
  obtain ⟨b1,b2,b3⟩:=k.kp o (tyf ho h.len) hw
  refine ⟨b1.trans a1,b2.trans a2,λb hb=>?_⟩
  obtain ⟨c1,c2⟩:=a3 b hb
  obtain ⟨x,e1,e2,e3⟩:=hb
  obtain ⟨d1,d2⟩:=b3 b ⟨x,by rw [a1];exact e1,e2,by rw [a2];exact e3⟩
  exact ⟨d1.trans c1,d2.trans c2⟩
theorem Nx.weak {V:Nat->Prop} (h:Nx W C C') (hv:∀ o,W o->V o):Nx V C C':=
 ⟨h.n,h.S,h.len,h.get,h.stk,h.evo,h.own,h.cls,λo ho hw=>h.kp o ho (λg=>hw (hv o g))⟩
structure Upd (t:Nat) (C C':Ctx):Prop where
 n:C.H.n<=C'.H.n
 S:C'.S=C.S
 wf:Wf C'.H
 len:C.D.length<=C'.D.length
 D:∀ o,o≠t->C'.D[o]? =C.D[o]?
 σ:∀ o,o≠t->C'.σ o=C.σ o
 get:∀ b,b<C.H.n->¬Own C t b->C'.H.get b=C.H.get b
 stk:∀ k,k<C.H.n->¬Cls C t k->C'.H.stk k=C.H.stk k
 evo:∀ x',t<C.D.length->C'.D[t]? =some x'->x'=.dead∨∃ x,C.D[t]? =some x/\Evo (C.σ t) (C'.σ t) x x'
 own:∀ b,Own C' t b->Own C t b∨C.H.n<=b
 cls:∀ k,Cls C' t k->Cls C t k∨C.H.n<=k
variable {t:Nat}
theorem Upd.other (u:Upd t C C') {o:Nat} (h:o≠t) {b:Nat}:Own C' o b↔Own C o b:=by
 unfold Own;rw [u.D o h,u.σ o h]
theorem Upd.getO (u:Upd t C C') (hr:HR C) {o b:Nat} (h:o≠t) (ho:Own C o b):C'.H.get b=C.H.get b:=
 u.get b (ho.lt hr) (λg=>h (hr.inj _ _ _ ho g))
theorem Upd.clsO (u:Upd t C C') (hr:HR C) {o k:Nat} (h:o≠t):Cls C' o k↔Cls C o k:=by
 constructor
 .rintro ⟨e,sz,els,cs,e',h1,h2,h3⟩
  rw [u.D o h] at h1
  rw [u.σ o h] at h3
  have:Own C o (C.σ o):=⟨_,h1,by cases els with | nil=>exact absurd rfl h2 | cons=>rfl,rfl⟩
  rw [u.getO hr h this] at h3
  exact ⟨e,sz,els,cs,e',h1,h2,h3⟩
 .intro g
  have:=u.getO hr h g.own
  obtain ⟨e,sz,els,cs,e',h1,h2,h3⟩:=g
  exact ⟨e,sz,els,cs,e',by rw [u.D o h];exact h1,h2,by rw [u.σ o h,this];exact h3⟩
theorem Upd.stkO (u:Upd t C C') (hr:HR C) {o k:Nat} (h:o≠t) (hk:Cls C o k):C'.H.stk k=C.H.stk k:=
 u.stk k (hk.lt hr) (λg=>h (hr.cI _ _ _ hk g))
theorem Upd.nx (u:Upd t C C') (hr:HR C):Nx (λo=>o=t) C C' where
 n:=u.n
 S:=λb hb=>by rw [u.S];exact hb
 len:=u.len
 get:=λb hb ho=>u.get b hb (ho t)
 stk:=λk hk ho=>u.stk k hk (ho t)
 evo:=λo x' ho hx=>by
  by_cases h:o=t
  .subst h;exact u.evo x' ho hx
  .rw [u.D o h] at hx
   cases x' with
   | dead=>exact .inl rfl
   | _=>exact .inr ⟨_,hx,by rw [u.σ o h];exact Evo.refl _ (by simp)⟩
 own:=λo b g=>by
  by_cases h:o=t
  .subst h;exact u.own b g
  .exact .inl ((u.other h).1 g)
 cls:=λo k g=>by
  by_cases h:o=t
  .subst h;exact u.cls k g
  .exact .inl ((u.clsO hr h).1 g)
 kp:=λo ho h=>by
  refine ⟨u.D o h,u.σ o h,λb hb=>?_⟩
  have hg:=u.getO hr h hb
  refine ⟨hg,?_⟩
  unfold Hp.row
  rw [hg]
  cases hB:C.H.get b with
  | none=>rfl
  | some B=>
   simp only [tzn]
   cases B with
   | cells cs e k=>
    cases k with
    | none=>rfl
    | some k=>
     simp only [Hp.rowOf]
     obtain ⟨x,h1,h2,h3⟩:=hb
     have hob:=hr.ob o x h1
     subst h3
     cases x with
     | arr sz els=>obtain ⟨cs',e',g,_⟩:=hob;rw [g] at hB;simp at hB
     | app e0 sz els=>
      have hne:els≠[]:=λq=>by subst q;simp [zkp] at h2
      rw [u.stkO hr h ⟨e0,sz,els,cs,e,h1,hne,hB⟩]
     | map ks vs=>obtain ⟨es,ck,g,_⟩:=hob;rw [g] at hB;simp at hB
     | loop=>obtain ⟨tmH,dn,g,_⟩:=hob;rw [g] at hB;simp at hB
     | dead=>simp [zkp] at h2
   | _=>rfl
theorem Cl.mono (h:Nx W C C') (hr:HR C) {sz:Nat} {els:List DV} {cs:List Value} (k:Cl C sz els cs):Cl C' sz els cs:=
 ⟨k.len,k.ok,λi d j x h1 h2=>by obtain ⟨w,g1,g2⟩:=k.el i d j x h1 h2;exact ⟨w,g1,g2.mono h hr⟩,k.one⟩
theorem TR.mono (h:Nx W C C') (hr:HR C) {tm:Trie DV} {tmH:Trie Value} (k:TR C tm tmH):TR C' tm tmH:=λt d hd=>by
 obtain ⟨v,h1,h2⟩:=k t d hd
 exact ⟨v,h1,h2.mono h hr⟩
theorem DRs.mono (h:Nx W C C') (hr:HR C) {ds:List DV} {vs:List Value} (k:DRs C ds vs):DRs C' ds vs:=⟨k.1,λi d v h1 h2=>(k.2 i d v h1 h2).mono h hr⟩
theorem Upd.ob (u:Upd t C C') (hr:HR C) {o:Nat} {x:DObj} (h:o≠t) (hx:C.D[o]? =some x):ObR C' o x:=by
 have nx:=u.nx hr
 have k:=hr.ob o x hx
 cases x with
 | arr sz els=>
  obtain ⟨cs,e,g1,g2⟩:=k
  exact ⟨cs,e,by rw [u.σ o h,u.getO hr h ⟨_,hx,rfl,rfl⟩];exact g1,g2.mono nx hr⟩
 | app e sz els=>
  intro hne
  obtain ⟨cs,c,r,g1,g2,g3⟩:=k hne
  have hcl:Cls C o c:=⟨e,sz,els,cs,e,hx,hne,g1⟩
  exact ⟨cs,c,r,by rw [u.σ o h,u.getO hr h hcl.own];exact g1,by rw [u.stkO hr h hcl,u.σ o h];exact g2,g3.mono nx hr⟩
 | map ks vs=>
  obtain ⟨es,ck,g1,g2,g3,g4,g5⟩:=k
  exact ⟨es,ck,by rw [u.σ o h,u.getO hr h ⟨_,hx,rfl,rfl⟩];exact g1,g2,g3,g4,λi e d h1 h2=>(g5 i e d h1 h2).mono nx hr⟩
 | loop st p K tm ps asg body=>
  obtain ⟨tmH,dn,g1,g2,g3⟩:=k
  exact ⟨tmH,dn,by rw [u.σ o h,u.getO hr h ⟨_,hx,rfl,rfl⟩];exact g1,g2.mono nx hr,g3⟩
 | dead=>exact trivial
theorem Upd.hr (u:Upd t C C') (hr:HR C) (hob:∀ x,C'.D[t]? =some x->ObR C' t x):HR C' where
 wf:=u.wf
 st:=λb hb=>by
  rw [u.S] at hb
  have e:=(u.nx hr).rows hr b hb
  obtain ⟨B,c,h1,h2⟩:=hr.st b hb
  have h3:C.H.row b=some c:=by unfold Hp.row;rw [h1];exact h2
  rw [h3] at e
  exact ⟨B,c,by rw [u.get b (hr.wf.dom _ _ h1) (λg=>hr.nS _ _ g hb)];exact h1,by
   unfold Hp.row at e
   rw [u.get b (hr.wf.dom _ _ h1) (λg=>hr.nS _ _ g hb),h1] at e
   exact e⟩
 ob:=λo x hx=>by
  by_cases h:o=t
  .subst h;exact hob x hx
  .rw [u.D o h] at hx;exact u.ob hr h hx
 nS:=λo b g hb=>by
  rw [u.S] at hb
  by_cases h:o=t
  .subst h
   rcases u.own b g with g | g
   .exact hr.nS _ _ g hb
   .obtain ⟨B,c,h1,_⟩:=hr.st b hb
    have:=hr.wf.dom _ _ h1;omega
  .exact hr.nS _ _ ((u.other h).1 g) hb
 inj:=λo o' b g g'=>by
  by_cases h:o=t
  .by_cases h':o'=t
   .omega
   .have k':=(u.other h').1 g'
    subst h
    rcases u.own b g with k | k
    .exact hr.inj _ _ _ k k'
    .have:=k'.lt hr;omega
  .have k:=(u.other h).1 g
   by_cases h':o'=t
   .subst h'
    rcases u.own b g' with k' | k'
    .exact hr.inj _ _ _ k k'
    .have:=k.lt hr;omega
   .exact hr.inj _ _ _ k ((u.other h').1 g')
 cS:=λo k b cs e g hb hg=>by
  rw [u.S] at hb
  obtain ⟨B,c,h1,_⟩:=hr.st b hb
  rw [u.get b (hr.wf.dom _ _ h1) (λg=>hr.nS _ _ g hb)] at hg
  by_cases h:o=t
  .subst h
   rcases u.cls k g with g | g
   .exact hr.cS _ _ _ _ _ g hb hg
   .have:=hr.wf.cls _ _ _ _ hg;omega
  .exact hr.cS _ _ _ _ _ ((u.clsO hr h).1 g) hb hg
 cI:=λo o' k g g'=>by
  by_cases h:o=t
  .by_cases h':o'=t
   .omega
   .have k':=(u.clsO hr h').1 g'
    subst h
    rcases u.cls k g with q | q
    .exact hr.cI _ _ _ q k'
    .have:=k'.lt hr;omega
  .have q:=(u.clsO hr h).1 g
   by_cases h':o'=t
   .subst h'
    rcases u.cls k g' with k' | k'
    .exact hr.cI _ _ _ q k'
    .have:=q.lt hr;omega
   .exact hr.cI _ _ _ q ((u.clsO hr h').1 g')
end Go.Dv
namespace Go.Dv
open Go Go.Sim
variable {W:Nat->Prop} {C C' C'':Ctx}
theorem _root_.Go.Sim.Wf.newInD {H:Hp} (w:Wf H) {c:List Value} {e k:Nat} {st:List Nat} (hk:k<H.n+1):Wf (H.newIn c e k st):=by
 refine ⟨λj B' h=>?_,λj c' e' k' h=>?_⟩
 .rw [Hp.get_newIn] at h
  simp only [Hp.n_newIn]
  split at h
  .omega
  .have:=w.dom j B' h;omega
 .rw [Hp.get_newIn] at h
  simp only [Hp.n_newIn]
  split at h
  .simp only [tza,Blk.cells.injEq] at h;omega
  .have:=w.cls j c' e' k' h;omega
def yss (σ:Nat->Nat) (t n:Nat):Nat->Nat:=λo=>if o=t then n else σ o
theorem zyq {σ:Nat->Nat} {t n:Nat}:yss σ t n t=n:=if_pos rfl
theorem zr6 {σ:Nat->Nat} {t n o:Nat} (h:o≠t):yss σ t n o=σ o:=if_neg h
theorem zgx {α:Type} {l:List α} {x:α} {o:Nat} (h:o≠l.length):(l++[x])[o]? =l[o]?:=by
 rcases tz9 o l.length with g | g
 .exact tzs g
 .rw [tzt g,tzt (by simp;omega)]
theorem zyi {α:Type} {l:List α} {x:α}:(l++[x])[l.length]? =some x:=by simp
def xwc (B:Blk):Prop:=∀ c e k,B≠.cells c e (some k)
theorem HR.new (hr:HR C) {B:Blk} (hB:xwc B) {x:DObj} (hx:∀ e sz els,x≠.app e sz els) (hob:∀ C',Nx (λ_=>False) C C'->C'.H.get (C'.σ C.D.length)=some B->ObR C' C.D.length x) :
  ∃ C',C'.H=C.H.new B/\C'.D=C.D++[x]/\C'.S=C.S/\HR C'/\Nx (λ_=>False) C C'/\C'.σ C.D.length=C.H.n:=by
 have u:Upd C.D.length C ⟨yss C.σ C.D.length C.H.n,C.S,C.H.new B,C.D++[x]⟩:=
  {
   n:=by simp
   S:=rfl
   wf:=by
    refine ⟨λi B' h=>?_,λi c e k h=>?_⟩
    .simp only [Hp.get_new,Hp.n_new] at h ⊢
     split at h
     .omega
     .have:=hr.wf.dom i B' h;omega
    .simp only [Hp.get_new,Hp.n_new] at h ⊢
     split at h
     .simp only [tza] at h;exact absurd h (hB c e k)
     .have:=hr.wf.cls i c e k h;omega
   len:=by simp
   D:=λo h=>zgx h
   σ:=λo h=>zr6 h
   get:=λb hb _=>by simp only [Hp.get_new];rw [if_neg (by omega)]
   stk:=λk _ _=>by simp
   evo:=λx' h=>absurd h (tyr _)
   own:=λb g=>by
    obtain ⟨y,h1,h2,h3⟩:=g
    simp only [zyq] at h3
    exact .inr (by omega)
   cls:=λk g=>by
    obtain ⟨e,sz,els,cs,e',h1,h2,h3⟩:=g
    simp only [zyi,tza] at h1
    exact absurd h1 (hx _ _ _) }
 have nx0:=u.nx hr
 have nx:Nx (λ_=>False) C ⟨yss C.σ C.D.length C.H.n,C.S,C.H.new B,C.D++[x]⟩:=⟨nx0.n,nx0.S,nx0.len,nx0.get,nx0.stk,nx0.evo,nx0.own,nx0.cls,λo ho _=>nx0.kp o ho (by omega)⟩
 refine ⟨⟨yss C.σ C.D.length C.H.n,C.S,C.H.new B,C.D++[x]⟩,rfl,rfl,rfl,u.hr hr (λy hy=>?_),nx,zyq⟩
 simp only [zyi,tza] at hy
 subst hy
 exact hob _ nx (by simp [zyq])
theorem HR.put (hr:HR C) {o:Nat} {x x':DObj} {B:Blk} (ho:C.D[o]? =some x) (hx:∀ e sz els,x≠.app e sz els) (hx':∀ e sz els,x'≠.app e sz els) (he:Evo (C.σ o) (C.σ o) x x') (hB:xwc B)
  (hob:∀ C',Nx (λp=>p=o) C C'->C'.H.get (C'.σ o)=some B->C'.σ=C.σ->ObR C' o x') :
  ∃ C',C'.H=C.H.put (C.σ o) B/\C'.D=C.D.set o x'/\C'.S=C.S/\HR C'/\Nx (λp=>p=o) C C'/\C'.σ=C.σ:=by
 have hol:=zxc ho
 have hown:Own C o (C.σ o):=⟨x,ho,by cases x<;>first | rfl | exact he.elim | exact absurd rfl (hx _ _ _),rfl⟩
 have hsn:=hown.lt hr
 have u:Upd o C ⟨C.σ,C.S,C.H.put (C.σ o) B,C.D.set o x'⟩:=
  {
   n:=by simp
   S:=rfl
   wf:=by
    refine ⟨λi B' h=>?_,λi c e k h=>?_⟩
    .simp only [Hp.get_put,Hp.n_put] at h ⊢
     split at h
     .omega
     .exact hr.wf.dom i B' h
    .simp only [Hp.get_put,Hp.n_put] at h ⊢
     split at h
     .simp only [tza] at h;exact absurd h (hB c e k)
     .exact hr.wf.cls i c e k h
   len:=by simp
   D:=λp h=>by simp [tya,Ne.symm h]
   σ:=λp h=>rfl
   get:=λb hb hn=>by
    simp only [Hp.get_put]
    rw [if_neg (λe=>hn (by rw [e];exact hown))]
   stk:=λk _ _=>by simp
   evo:=λy h hy=>by
    simp [hol] at hy
    subst hy
    exact .inr ⟨x,ho,he⟩
   own:=λb g=>by
    obtain ⟨y,h1,h2,h3⟩:=g
    exact .inl (by rw [h3];exact hown)
   cls:=λk g=>by
    obtain ⟨e,sz,els,cs,e',h1,h2,h3⟩:=g
    simp [hol] at h1
    exact absurd h1 (hx' _ _ _) }
 have nx:=u.nx hr
 refine ⟨⟨C.σ,C.S,C.H.put (C.σ o) B,C.D.set o x'⟩,rfl,rfl,rfl,u.hr hr (λy hy=>?_),nx,rfl⟩
 simp [hol] at hy
 subst hy
 exact hob _ nx (by simp) rfl
theorem HR.put1 (hr:HR C) {o e sz k:Nat} {els els':List DV} {cs cs':List Value} (ho:C.D[o]? =some (.app e sz els)) (hne:els≠[]) (hl:els'.length=els.length) (hg:C.H.get (C.σ o)=some (.cells cs e (some k)))
  (hob:∀ C',Nx (λp=>p=o) C C'->Cl C' sz els' cs') :
  ∃ C',C'.H=C.H.put1 (C.σ o) (.cells cs' e (some k)) k/\C'.D=C.D.set o (.app e sz els')/\C'.S=C.S/\HR C'/\Nx (λp=>p=o) C C'/\C'.σ=C.σ:=by
 have hol:=zxc ho
 have hcl:Cls C o k:=⟨e,sz,els,cs,e,ho,hne,hg⟩
 have hown:=hcl.own
 have hsn:=hown.lt hr
 have hkn:=hcl.lt hr
 have hne':els'≠[]:=λq=>by subst q;simp at hl;exact hne (tzy hl.symm)
 have u:Upd o C ⟨C.σ,C.S,C.H.put1 (C.σ o) (.cells cs' e (some k)) k,C.D.set o (.app e sz els')⟩:=
  {
   n:=by simp
   S:=rfl
   wf:=by
    refine ⟨λi B' h=>?_,λi c e' k' h=>?_⟩
    .simp only [Hp.get_put1,Hp.n_put1] at h ⊢
     split at h
     .omega
     .exact hr.wf.dom i B' h
    .simp only [Hp.get_put1,Hp.n_put1] at h ⊢
     split at h
     .simp only [tza,Blk.cells.injEq] at h;omega
     .exact hr.wf.cls i c e' k' h
   len:=by simp
   D:=λp h=>by simp [tya,Ne.symm h]
   σ:=λp h=>rfl
   get:=λb hb hn=>by
    simp only [Hp.get_put1]
    rw [if_neg (λe=>hn (by rw [e];exact hown))]
   stk:=λc _ hc=>by
    simp only [Hp.stk_put1]
    rw [if_neg (λe=>hc (by rw [e];exact hcl))]
   evo:=λy h hy=>by
    simp [hol] at hy
    subst hy
    exact .inr ⟨_,ho,rfl,rfl,by omega,λ_ _=>rfl⟩
   own:=λb g=>by
    obtain ⟨y,h1,h2,h3⟩:=g
    exact .inl (by rw [h3];exact hown)
   cls:=λc g=>by
    obtain ⟨e1,sz1,els1,cs1,e2,h1,h2,h3⟩:=g
    simp at h3
    exact .inl (by rw [<-h3.2.2];exact hcl) }
 have nx:=u.nx hr
 refine ⟨⟨C.σ,C.S,C.H.put1 (C.σ o) (.cells cs' e (some k)) k,C.D.set o (.app e sz els')⟩,rfl,rfl,rfl,u.hr hr (λy hy=>?_),nx,rfl⟩
 simp [hol] at hy
 subst hy
 exact λ_=>⟨cs',k,[],by simp,by simp,hob _ nx⟩
theorem HR.newIn (hr:HR C) {e sz:Nat} {els:List DV} {cs:List Value} (hne:els≠[]) (hob:∀ C',Nx (λ_=>False) C C'->Cl C' sz els cs) :
  ∃ C',C'.H=C.H.newIn cs e C.H.n [C.H.n]/\C'.D=C.D++[.app e sz els]/\C'.S=C.S/\HR C'/\Nx (λ_=>False) C C'/\C'.σ C.D.length=C.H.n:=by
 have u:Upd C.D.length C ⟨yss C.σ C.D.length C.H.n,C.S,C.H.newIn cs e C.H.n [C.H.n],C.D++[.app e sz els]⟩:=
  {
   n:=by simp
   S:=rfl
   wf:=hr.wf.newInD (by omega)
   len:=by simp
   D:=λo h=>zgx h
   σ:=λo h=>zr6 h
   get:=λb hb _=>by simp only [Hp.get_newIn];rw [if_neg (by omega)]
   stk:=λk hk _=>by simp only [Hp.stk_newIn];rw [if_neg (by omega)]
   evo:=λx' h=>absurd h (tyr _)
   own:=λb g=>by
    obtain ⟨y,h1,h2,h3⟩:=g
    simp only [zyq] at h3
    exact .inr (by omega)
   cls:=λk g=>by
    obtain ⟨e1,sz1,els1,cs1,e',h1,h2,h3⟩:=g
    simp only [zyq,Hp.get_newIn,if_true,tza,Blk.cells.injEq] at h3
    exact .inr (by omega) }
 have nx0:=u.nx hr
 have nx:Nx (λ_=>False) C ⟨yss C.σ C.D.length C.H.n,C.S,C.H.newIn cs e C.H.n [C.H.n],C.D++[.app e sz els]⟩:=⟨nx0.n,nx0.S,nx0.len,nx0.get,nx0.stk,nx0.evo,nx0.own,nx0.cls,λo ho _=>nx0.kp o ho (by omega)⟩
 refine ⟨⟨yss C.σ C.D.length C.H.n,C.S,C.H.newIn cs e C.H.n [C.H.n],C.D++[.app e sz els]⟩,rfl,rfl,rfl,u.hr hr (λy hy=>?_),nx,zyq⟩
 simp only [zyi,tza] at hy
 subst hy
 exact λ_=>⟨cs,C.H.n,[],by simp [zyq],by simp [zyq],hob _ nx⟩
theorem HR.nilApp (hr:HR C) (e sz:Nat):∃ C',C'.H=C.H/\C'.D=C.D++[.app e sz []]/\C'.S=C.S/\HR C'/\Nx (λ_=>False) C C'/\C'.σ=C.σ:=by
 have u:Upd C.D.length C ⟨C.σ,C.S,C.H,C.D++[.app e sz []]⟩:=
  {
   n:=tzp _
   S:=rfl
   wf:=hr.wf
   len:=by simp
   D:=λo h=>zgx h
   σ:=λo h=>rfl
   get:=λb hb _=>rfl
   stk:=λk _ _=>rfl
   evo:=λx' h=>absurd h (tyr _)
   own:=λb g=>by
    obtain ⟨y,h1,h2,h3⟩:=g
    simp only [zyi,tza] at h1
    subst h1
    simp [zkp] at h2
   cls:=λk g=>by
    obtain ⟨e1,sz1,els1,cs1,e',h1,h2,h3⟩:=g
    simp only [zyi,tza,DObj.app.injEq] at h1
    exact absurd h1.2.2.symm h2 }
 have nx0:=u.nx hr
 have nx:Nx (λ_=>False) C ⟨C.σ,C.S,C.H,C.D++[.app e sz []]⟩:=⟨nx0.n,nx0.S,nx0.len,nx0.get,nx0.stk,nx0.evo,nx0.own,nx0.cls,λo ho _=>nx0.kp o ho (by omega)⟩
 refine ⟨⟨C.σ,C.S,C.H,C.D++[.app e sz []]⟩,rfl,rfl,rfl,u.hr hr (λy hy=>?_),nx,rfl⟩
 simp only [zyi,tza] at hy
 subst hy
 exact λh=>absurd rfl h
theorem HR.grow (hr:HR C) {o e sz c:Nat} {els els':List DV} {H':Hp} {cs':List Value} {rest:List Nat} (ho:C.D[o]? =some (.app e sz els)) (hlen:els.length<els'.length) (hc:Cls C o c∨c=C.H.n)
  (wf:Wf H') (hn:C.H.n<=H'.n) (hget:∀ b,b<C.H.n->¬Own C o b->H'.get b=C.H.get b) (hstk:∀ k,k<C.H.n->k≠c->H'.stk k=C.H.stk k)
  (hg:H'.get C.H.n=some (.cells cs' e (some c))) (hs:H'.stk c=C.H.n::rest) (hob:∀ C',Nx (λp=>p=o) C C'->Cl C' sz els' cs') :
  ∃ C',C'.H=H'/\C'.D=C.D.set o (.app e sz els')/\C'.S=C.S/\HR C'/\Nx (λp=>p=o) C C'/\C'.σ o=C.H.n:=by
 have hol:=zxc ho
 have hne':els'≠[]:=λq=>by subst q;simp at hlen
 have u:Upd o C ⟨yss C.σ o C.H.n,C.S,H',C.D.set o (.app e sz els')⟩:=
  {
   n:=hn
   S:=rfl
   wf:=wf
   len:=by simp
   D:=λp h=>by simp [tya,Ne.symm h]
   σ:=λp h=>zr6 h
   get:=hget
   stk:=λk hk hc'=>hstk k hk (λq=>by
    subst q
    rcases hc with g | g
    .exact hc' g
    .omega)
   evo:=λy h hy=>by
    simp [hol] at hy
    subst hy
    exact .inr ⟨_,ho,rfl,rfl,by omega,λq=>by omega⟩
   own:=λb g=>by
    obtain ⟨y,h1,h2,h3⟩:=g
    simp only [zyq] at h3
    exact .inr (by omega)
   cls:=λk g=>by
    obtain ⟨e1,sz1,els1,cs1,e2,h1,h2,h3⟩:=g
    simp only [zyq,hg,tza,Blk.cells.injEq] at h3
    rcases hc with q | q
    .exact .inl (by rw [<-h3.2.2];exact q)
    .exact .inr (by omega) }
 have nx:=u.nx hr
 refine ⟨⟨yss C.σ o C.H.n,C.S,H',C.D.set o (.app e sz els')⟩,rfl,rfl,rfl,u.hr hr (λy hy=>?_),nx,zyq⟩
 simp [hol] at hy
 subst hy
 exact λ_=>⟨cs',c,rest,by simp only [zyq];exact hg,by simp only [zyq];exact hs,hob _ nx⟩
theorem HR.conv (hr:HR C) {o e sz sz0:Nat} {els els':List DV} {cs':List Value} (ho:C.D[o]? =some (.arr sz0 els)) (hne':els'≠[]) (hob:∀ C',Nx (λp=>p=o) C C'->Cl C' sz els' cs') :
  ∃ C',C'.H=C.H.newIn cs' e C.H.n [C.H.n]/\C'.D=C.D.set o (.app e sz els')/\C'.S=C.S/\HR C'/\Nx (λp=>p=o) C C'/\C'.σ o=C.H.n:=by
 have hol:=zxc ho
 have u:Upd o C ⟨yss C.σ o C.H.n,C.S,C.H.newIn cs' e C.H.n [C.H.n],C.D.set o (.app e sz els')⟩:=
  {
   n:=by simp
   S:=rfl
   wf:=hr.wf.newInD (by omega)
   len:=by simp
   D:=λp h=>by simp [tya,Ne.symm h]
   σ:=λp h=>zr6 h
   get:=λb hb _=>by simp only [Hp.get_newIn];rw [if_neg (by omega)]
   stk:=λk hk _=>by simp only [Hp.stk_newIn];rw [if_neg (by omega)]
   evo:=λy h hy=>by
    simp [hol] at hy
    subst hy
    exact .inr ⟨_,ho,trivial⟩
   own:=λb g=>by
    obtain ⟨y,h1,h2,h3⟩:=g
    simp only [zyq] at h3
    exact .inr (by omega)
   cls:=λk g=>by
    obtain ⟨e1,sz1,els1,cs1,e2,h1,h2,h3⟩:=g
    simp only [zyq,Hp.get_newIn,if_true,tza,Blk.cells.injEq] at h3
    exact .inr (by omega) }
 have nx:=u.nx hr
 refine ⟨⟨yss C.σ o C.H.n,C.S,C.H.newIn cs' e C.H.n [C.H.n],C.D.set o (.app e sz els')⟩,rfl,rfl,rfl,u.hr hr (λy hy=>?_),nx,zyq⟩
 simp [hol] at hy
 subst hy
 exact λ_=>⟨cs',C.H.n,[],by simp [zyq],by simp [zyq],hob _ nx⟩
theorem HR.drop1 (hr:HR C) (o:Nat):∃ C',C'.H=C.H/\C'.D=C.D.set o .dead/\C'.S=C.S/\HR C'/\Nx (λp=>p=o) C C'/\C'.σ=C.σ:=by
 by_cases hol:o<C.D.length
 .have u:Upd o C ⟨C.σ,C.S,C.H,C.D.set o .dead⟩:=
   {
    n:=tzp _
    S:=rfl
    wf:=hr.wf
    len:=by simp
    D:=λp h=>by simp [tya,Ne.symm h]
    σ:=λp h=>rfl
    get:=λ_ _ _=>rfl
    stk:=λ_ _ _=>rfl
    evo:=λy h hy=>by
     simp [hol] at hy
     exact .inl hy.symm
    own:=λb g=>by
     obtain ⟨y,h1,h2,h3⟩:=g
     simp [hol] at h1
     subst h1
     simp [zkp] at h2
    cls:=λk g=>by
     obtain ⟨e1,sz1,els1,cs1,e2,h1,h2,h3⟩:=g
     simp [hol] at h1 }
  refine ⟨⟨C.σ,C.S,C.H,C.D.set o .dead⟩,rfl,rfl,rfl,u.hr hr (λy hy=>?_),u.nx hr,rfl⟩
  simp [hol] at hy
  subst hy
  exact trivial
 .refine ⟨C,rfl,?_,rfl,hr,Nx.refl hr,rfl⟩
  rw [List.set_eq_of_length_le (by omega)]
theorem HR.addS (hr:HR C) {b:Nat} {B:Blk} {c:List Value} (h1:C.H.get b=some B) (h2:C.H.rowOf b B=some c) (ho:∀ o,¬Own C o b) (hc:∀ o k cs e,Cls C o k->B≠.cells cs e (some k)) :
  ∃ C',C'.H=C.H/\C'.D=C.D/\C'.σ=C.σ/\(∀ i,C'.S i↔C.S i∨i=b)/\HR C'/\Nx (λ_=>False) C C':=by
 have nx:Nx (λ_=>False) C ⟨C.σ,λi=>C.S i∨i=b,C.H,C.D⟩:=
  ⟨tzp _,λ_ h=>.inl h,tzp _,λ_ _ _=>rfl,λ_ _ _=>rfl,λo x' _ h=>by
   cases x' with
   | dead=>exact .inl rfl
   | _=>exact .inr ⟨_,h,Evo.refl _ (by simp)⟩,λ_ _ h=>.inl h,λ_ _ h=>.inl h,λ_ _ _=>⟨rfl,rfl,λ_ _=>⟨rfl,rfl⟩⟩⟩
 refine ⟨⟨C.σ,λi=>C.S i∨i=b,C.H,C.D⟩,rfl,rfl,rfl,λi=>Iff.rfl,?_,nx⟩
 exact
  {
   wf:=hr.wf
   st:=λi hi=>by
    rcases hi with hi | rfl
    .exact hr.st i hi
    .exact ⟨B,c,h1,h2⟩
   ob:=λo x hx=>by
    have k:=hr.ob o x hx
    cases x with
    | arr sz els=>obtain ⟨cs,e,g1,g2⟩:=k;exact ⟨cs,e,g1,g2.mono nx hr⟩
    | app e sz els=>intro hne;obtain ⟨cs,c,r,g1,g2,g3⟩:=k hne;exact ⟨cs,c,r,g1,g2,g3.mono nx hr⟩
    | map ks vs=>obtain ⟨es,ck,g1,g2,g3,g4,g5⟩:=k;exact ⟨es,ck,g1,g2,g3,g4,λi e d h1 h2=>(g5 i e d h1 h2).mono nx hr⟩
    | loop=>obtain ⟨tmH,dn,g1,g2,g3⟩:=k;exact ⟨tmH,dn,g1,g2.mono nx hr,g3⟩
    | dead=>exact trivial
   nS:=λo i g hi=>by
    rcases hi with hi | rfl
    .exact hr.nS o i g hi
    .exact ho o g
   inj:=hr.inj
   cS:=λo k i cs e g hi hg=>by
    rcases hi with hi | rfl
    .exact hr.cS o k i cs e g hi hg
    .rw [h1] at hg
     simp only [tza] at hg
     exact hc o k cs e g hg
   cI:=hr.cI }
theorem HR.freeze (hr:HR C) {o:Nat} {x:DObj} (hx:C.D[o]? =some x) (hr':(∃ sz els,x=.arr sz els)∨∃ e sz els,x=.app e sz els) :
  ∃ C',C'.H=C.H/\C'.D=C.D.set o .dead/\C'.σ=C.σ/\HR C'/\Nx (λp=>p=o) C C'/\(zkp x=true->C'.S (C.σ o)):=by
 obtain ⟨C1,a1,a2,a3,a4,a5,a6⟩:=hr.drop1 o
 by_cases hown:zkp x=true
 .have hO:Own C o (C.σ o):=⟨x,hx,hown,rfl⟩
  have hne:∀ p,¬Own C1 p (C.σ o):=by
   rintro p ⟨y,h1,h2,h3⟩
   rw [a2,tya] at h1
   rw [a6] at h3
   split at h1
   .split at h1
    .simp at h1;subst h1;simp [zkp] at h2
    .simp at h1
   .rename_i hpo
    exact hpo (hr.inj _ _ _ hO ⟨y,h1,h2,h3⟩)
  have key:∃ B c,C.H.get (C.σ o)=some B/\C.H.rowOf (C.σ o) B=some c/\∀ p k cs e,Cls C1 p k->B≠.cells cs e (some k):=by
   have hob:=hr.ob o x hx
   rcases hr' with ⟨sz,els,rfl⟩ | ⟨e,sz,els,rfl⟩
   .obtain ⟨cs,e,g,_⟩:=hob
    exact ⟨_,cs,g,rfl,λp k cs e _ h=>by simp at h⟩
   .have hne':els≠[]:=λq=>by subst q;simp [zkp] at hown
    obtain ⟨cs,k,r,g,g2,_⟩:=hob hne'
    refine ⟨_,cs,g,by simp [Hp.rowOf,g2,zf8],λp c cs' e' hp h=>?_⟩
    simp only [Blk.cells.injEq,tza] at h
    have hcl:Cls C o k:=⟨e,sz,els,cs,e,hx,hne',g⟩
    obtain ⟨e1,sz1,els1,cs1,e2,h1,h2,h3⟩:=hp
    rw [a2,tya] at h1
    rw [a1,a6] at h3
    split at h1
    .split at h1
     .simp at h1
     .simp at h1
    .rename_i hpo
     refine hpo (hr.cI o p k hcl ⟨e1,sz1,els1,cs1,e2,h1,h2,?_⟩)
     rw [h.2.2];exact h3
  obtain ⟨B,c,k1,k2,k3⟩:=key
  obtain ⟨C2,b1,b2,b3,b4,b5,b6⟩:=a4.addS (b:=C.σ o) (B:=B) (c:=c) (by rw [a1];exact k1) (by rw [a1];exact k2) hne k3
  exact ⟨C2,b1.trans a1,b2.trans a2,b3.trans a6,b5,a5.trans (b6.weak (λ_ h=>h.elim)),λ_=>(b4 _).2 (.inr rfl)⟩
 .exact ⟨C1,a1,a2,a6,a4,a5,λh=>absurd h hown⟩
theorem DR.lows {d:DV} {v:Value} (h:DR C d v):Dv.below C.D.length d=true:=by
 have all:∀ {ds:List DV} {vs:List Value},vs.length=ds.length->(∀ (i:Nat) (d:DV) (v:Value),ds[i]? =some d->vs[i]? =some v->Dv.below C.D.length d=true)->zzm C.D.length ds=true:=by
  intro ds
  induction ds with
  | nil=>intro vs _ _;rfl
  | cons d ds ih=>
   intro vs hl h
   cases vs with
   | nil=>simp at hl
   | cons v vs=>
    simp only [zzm,tzc]
    exact ⟨h 0 d v rfl rfl,ih (by simpa using hl) (λi d v h1 h2=>h (i+1) d v h1 h2)⟩
 induction h with
 | f h=>rfl
 | agg hl _ ih=>exact all hl ih
 | tup hl _ ih=>exact all hl ih
 | fn ha hb _ _ ih1 ih2=>simp only [Dv.below,tzc];exact ⟨all ha ih1,all hb ih2⟩
 | fp=>rfl
 | _=>simpa [Dv.below] using by assumption
theorem zub {L:Nat}:∀ {l:List DV},zzm L l=true->∀ d∈l,below L d=true
 | d::l,h,x,hx=>by
  simp only [zzm,tzc] at h
  rcases tzu.1 hx with rfl | hx
  .exact h.1
  .exact zub h.2 x hx
theorem DR.take {L:Nat} (hC:C'.S=C.S/\C'.H=C.H) (hσ:∀ o,o<L->C'.σ o=C.σ o) (hD:∀ o,o<L->C'.D[o]? =C.D[o]?) (hL:L<=C'.D.length) {d:DV} {v:Value} (h:DR C d v):Dv.below L d=true->DR C' d v:=by
 obtain ⟨hS,hH⟩:=hC
 induction h with
 | f h=>intro _;exact .f (by rw [hS,hH];exact h)
 | agg hl _ ih=>intro hb;exact .agg hl λi d v h1 h2=>ih i d v h1 h2 (zub hb d (tzg h1))
 | tup hl _ ih=>intro hb;exact .tup hl λi d v h1 h2=>ih i d v h1 h2 (zub hb d (tzg h1))
 | fn ha hb _ _ ih1 ih2=>
  intro h
  simp only [Dv.below,tzc] at h
  exact .fn ha hb (λi d v h1 h2=>ih1 i d v h1 h2 (zub h.1 d (tzg h1))) (λi d v h1 h2=>ih2 i d v h1 h2 (zub h.2 d (tzg h1)))
 | fp w hb hc hw hr=>intro _;exact .fp w (by rw [hS];exact hb) (by rw [hH];exact hc) hw (λj y hj=>by rw [hS,hH];exact hr j y hj)
 | yl ho one g=>
  intro hb
  have hb:=of_decide_eq_true (show decide (_<L)=true from hb)
  exact .yl (by omega) one (λst p K tm ps a b hx=>by rw [hσ _ hb];exact g st p K tm ps a b (by rw [<-hD _ hb];exact hx))
 | ref ho one g=>
  intro hb
  have hb:=of_decide_eq_true (show decide (_<L)=true from hb)
  exact .ref (by omega) one (λsz els hx=>by rw [hσ _ hb];exact g sz els (by rw [<-hD _ hb];exact hx))
 | rfa ho one hn g=>
  intro hb
  have hb:=of_decide_eq_true (show decide (_<L)=true from hb)
  exact .rfa (by omega) one hn ⟨λsz els hx=>g.1 sz els (by rw [<-hD _ hb];exact hx),λe sz els hx=>by rw [hσ _ hb];exact g.2 e sz els (by rw [<-hD _ hb];exact hx)⟩
 | row ho one g=>
  intro hb
  have hb:=of_decide_eq_true (show decide (_<L)=true from hb)
  exact .row (by omega) one (λsz els hx=>by rw [hσ _ hb];exact g sz els (by rw [<-hD _ hb];exact hx))
 | apl ho one g=>
  intro hb
  have hb:=of_decide_eq_true (show decide (_<L)=true from hb)
  exact .apl (by omega) one ⟨λsz els hx=>g.1 sz els (by rw [<-hD _ hb];exact hx),λe sz els hx=>by rw [hσ _ hb];exact g.2 e sz els (by rw [<-hD _ hb];exact hx)⟩
 | prt ho one hn g=>
  intro hb
  have hb:=of_decide_eq_true (show decide (_<L)=true from hb)
  exact .prt (by omega) one hn ⟨λsz els hx=>g.1 sz els (by rw [<-hD _ hb];exact hx),λe sz els hx=>by rw [hσ _ hb];exact g.2 e sz els (by rw [<-hD _ hb];exact hx)⟩
 | mp ho one g=>
  intro hb
  have hb:=of_decide_eq_true (show decide (_<L)=true from hb)
  exact .mp (by omega) one (λks vs hx=>by rw [hσ _ hb];exact g ks vs (by rw [<-hD _ hb];exact hx))
theorem zy9 {L L':Nat} (h:L<=L'):(∀ d:DV,below L d=true->below L' d=true)/\∀ l:List DV,zzm L l=true->zzm L' l=true:=by
 have key:∀ n:Nat,(∀ d:DV,SizeOf.sizeOf d<n->below L d=true->below L' d=true)/\∀ l:List DV,SizeOf.sizeOf l<n->zzm L l=true->zzm L' l=true:=by
  intro n
  induction n with
  | zero=>exact ⟨λd h=>by omega,λd h=>by omega⟩
  | succ n ih=>
   refine ⟨λd hd hb=>?_,λl hl hb=>?_⟩
   .cases d with
    | f=>rfl
    | fp=>rfl
    | agg l=>exact ih.2 l (by simp at hd;omega) hb
    | tup l=>exact ih.2 l (by simp at hd;omega) hb
    | fn g a b=>
     simp only [below,tzc] at hb ⊢
     exact ⟨ih.2 a (by simp at hd;omega) hb.1,ih.2 b (by simp at hd;omega) hb.2⟩
    | _=>simp [below] at hb ⊢;omega
   .cases l with
    | nil=>rfl
    | cons d l=>
     simp only [zzm,tzc] at hb ⊢
     exact ⟨ih.1 d (by simp at hl;omega) hb.1,ih.2 l (by simp at hl;omega) hb.2⟩
 exact ⟨λd hb=>(key (SizeOf.sizeOf d+1)).1 d (by omega) hb,λl hb=>(key (SizeOf.sizeOf l+1)).2 l (by omega) hb⟩
def ObB (L:Nat):DObj->Prop
 | .arr _ els=>∀ d∈els,below L d=true
 | .app _ _ els=>∀ d∈els,below L d=true
 | .map _ vs=>∀ d∈vs,below L d=true
 | _=>True
theorem yvq {L:Nat} {d x:DV} (h:below L d=true) (hx:x∈zzd d):below L x=true:=by
 cases d with
 | agg l=>exact zub h x hx
 | _=>simp [zzd] at hx;subst hx;exact h
theorem HR.take (hr:HR C) {L:Nat} (hL:L<=C.D.length) (hB:∀ o x,o<L->C.D[o]? =some x->ObB L x):HR ⟨C.σ,C.S,C.H,C.D.take L⟩:=by
 have hg:∀ o x,(C.D.take L)[o]? =some x->o<L/\C.D[o]? =some x:=λo x h=>by
  rw [tyb] at h
  split at h
  .rename_i g;exact ⟨g,h⟩
  .cases h
 have tk:∀ {d:DV} {v:Value},DR C d v->Dv.below L d=true->DR ⟨C.σ,C.S,C.H,C.D.take L⟩ d v:=λh hb=>h.take (C:=C) (C':=⟨C.σ,C.S,C.H,C.D.take L⟩) ⟨rfl,rfl⟩ (λ_ _=>rfl) (λo ho=>by simp [tyb,ho]) (by simp;omega) hb
 have ow:∀ {o b},Own ⟨C.σ,C.S,C.H,C.D.take L⟩ o b->Own C o b:=λ⟨x,h1,h2,h3⟩=>⟨x,(hg _ _ h1).2,h2,h3⟩
 have ck:∀ {o k},Cls ⟨C.σ,C.S,C.H,C.D.take L⟩ o k->Cls C o k:=λ⟨e,sz,els,cs,e',h1,h2,h3⟩=>⟨e,sz,els,cs,e',(hg _ _ h1).2,h2,h3⟩
 have cl:∀ {sz:Nat} {els:List DV} {cs:List Value},Cl C sz els cs->(∀ d∈els,Dv.below L d=true)->Cl ⟨C.σ,C.S,C.H,C.D.take L⟩ sz els cs:=λk hb=>⟨k.len,k.ok,λi d j x h1 h2=>by
  obtain ⟨w,g1,g2⟩:=k.el i d j x h1 h2
  exact ⟨w,g1,tk g2 (yvq (hb d (tzg h1)) (tzg h2))⟩,k.one⟩
 exact
  {
   wf:=hr.wf
   st:=hr.st
   ob:=λo x hx=>by
    obtain ⟨hoL,hx⟩:=hg o x hx
    have k:=hr.ob o x hx
    have hb:=hB o x hoL hx
    cases x with
    | arr sz els=>obtain ⟨cs,e,g1,g2⟩:=k;exact ⟨cs,e,g1,cl g2 hb⟩
    | app e sz els=>intro hne;obtain ⟨cs,c,r,g1,g2,g3⟩:=k hne;exact ⟨cs,c,r,g1,g2,cl g3 hb⟩
    | map ks vs=>obtain ⟨es,ck,g1,g2,g3,g4,g5⟩:=k;exact ⟨es,ck,g1,g2,g3,g4,λi e d h1 h2=>tk (g5 i e d h1 h2) (hb d (tzg h2))⟩
    | loop=>
     obtain ⟨tmH,dn,g1,g2,g3⟩:=k
     refine ⟨tmH,dn,g1,λt d ht=>?_,g3⟩
     obtain ⟨v,q1,q2⟩:=g2 t d ht
     exact ⟨v,q1,tk q2 ((zy9 (by omega)).1 d (g3 t d ht))⟩
    | dead=>exact trivial
   nS:=λo b g=>hr.nS o b (ow g)
   inj:=λo o' b g g'=>hr.inj o o' b (ow g) (ow g')
   cS:=λo k b cs e g=>hr.cS o k b cs e (ck g)
   cI:=λo o' k g g'=>hr.cI o o' k (ck g) (ck g') }
theorem Nx.take (h:Nx W C C') {L:Nat} (hL:C.D.length<=L) (hL':L<=C'.D.length):Nx W C ⟨C'.σ,C'.S,C'.H,C'.D.take L⟩:=by
 have hg:∀ o x,(C'.D.take L)[o]? =some x->o<L/\C'.D[o]? =some x:=λo x h=>by
  rw [tyb] at h
  split at h
  .rename_i g;exact ⟨g,h⟩
  .cases h
 exact
  {
   n:=h.n
   S:=h.S
   len:=by simp;omega
   get:=h.get
   stk:=h.stk
   evo:=λo x' ho hx=>h.evo o x' ho (hg _ _ hx).2
   own:=λo b ⟨x,h1,h2,h3⟩=>h.own o b ⟨x,(hg _ _ h1).2,h2,h3⟩
   cls:=λo k ⟨e,sz,els,cs,e',h1,h2,h3⟩=>h.cls o k ⟨e,sz,els,cs,e',(hg _ _ h1).2,h2,h3⟩
   kp:=λo ho hw=>by
    obtain ⟨a,b,c⟩:=h.kp o ho hw
    exact ⟨by simp [tyb,show o<L by omega,a],b,c⟩ }
end Go.Dv
namespace Go.Dv
open Go Go.Sim
variable {W:Nat->Prop} {C C' C'':Ctx} {P:Program} {tm:Trie DV} {tmH:Trie Value}
theorem zoa {b o n:Nat}:(⟨b,o,none⟩:Addr).add n=⟨b,o+n,none⟩:=by
 unfold Addr.add
 split
 .rename_i h;rw [h];rfl
 .rfl
theorem zvs (v:Value):DR C (rv v) v:=.f (.raw v)
theorem zob (v:Value):DR C (ofV v) v:=by
 cases v with
 | agg cs=>
  obtain ⟨l⟩:=cs
  refine .agg (by simp) (λi d v h1 h2=>?_)
  simp only [tzr] at h1
  rw [h2] at h1
  simp only [tz2,tza] at h1
  subst h1
  exact zvs v
 | _=>exact zvs _
theorem zzq (ht:TR C tm tmH) {x:Operand} {d:DV} (h:zzk tm x=some d):∃ v,zyk P tmH x=some v/\DR C d v:=by
 cases x with
 | tmp t=>
  obtain ⟨v,h1,h2⟩:=ht t d h
  exact ⟨v,by show zpi (tmH.get t)=_;rw [h1];rfl,h2⟩
 | const v=>
  obtain ⟨w,h1,h2⟩:=tzf.1 h
  exact ⟨w,h1,by rw [<-h2];exact zob w⟩
 | global g=>simp [zzk] at h
 | func f=>
  simp only [zzk,tza] at h
  subst h
  exact ⟨_,rfl,.fn rfl rfl (λi d v h=>by simp at h) (λi d v h=>by simp at h)⟩
theorem zvh (ht:TR C tm tmH):∀ {l:List Operand} {ds:List DV},zy5 tm l=some ds->∃ vs,zpj P tmH l=some vs/\DRs C ds vs
 | [],ds,h=>by
  simp only [zy5,tza] at h
  subst h
  exact ⟨[],rfl,rfl,λi d v h=>by simp at h⟩
 | x::l,ds,h=>by
  simp only [zy5] at h
  split at h
  .rename_i d hd
   obtain ⟨ds',h1,rfl⟩:=tzf.1 h
   obtain ⟨v,g1,g2⟩:=zzq (P:=P) ht hd
   obtain ⟨vs,g3,g4,g5⟩:=zvh ht h1
   refine ⟨v::vs,by simp only [zpj,g1,g3],by simp [g4],λi d v h1 h2=>?_⟩
   cases i with
   | zero=>simp at h1 h2;subst h1 h2;exact g2
   | succ i=>exact g5 i d v (by simpa using h1) (by simpa using h2)
  .cases h
theorem DRs.append {a b:List DV} {as bs:List Value} (h:DRs C a as) (k:DRs C b bs):DRs C (a++b) (as++bs):=by
 refine ⟨by simp [h.1,k.1],λi d v h1 h2=>?_⟩
 rcases tz9 i a.length with g | g
 .rw [tzs g] at h1
  rw [tzs (by rw [h.1];exact g)] at h2
  exact h.2 i d v h1 h2
 .rw [tzv g] at h1
  rw [tzv (by rw [h.1];exact g),h.1] at h2
  exact k.2 _ d v h1 h2
theorem zbx:∀ {ds:List DV} {ws vs:List Value},yl9 ds=some ws->vs.length=ds.length->(∀ (i:Nat) (d:DV) (v:Value),ds[i]? =some d->vs[i]? =some v->DR C d v)->vs=ws
 | [],ws,vs,h,hl,_=>by simp [yl9] at h;subst h;exact tzy hl
 | d::ds,ws,[],h,hl,_=>by simp at hl
 | d::ds,ws,v::vs,h,hl,hr=>by
  cases d with
  | f x=>
   cases x with
   | raw u=>
    simp only [yl9] at h
    obtain ⟨ws',h1,rfl⟩:=tzf.1 h
    have:=hr 0 _ v rfl rfl
    cases this with
    | f k=>cases k;rw [zbx h1 (by simpa using hl) (λi d v a b=>hr (i+1) d v a b)]
   | _=>simp [yl9] at h
  | _=>simp [yl9] at h
theorem zhs {d:DV} {v w:Value} (h:DR C d v) (k:toV d=some w):v=w:=by
 cases d with
 | f x=>
  cases x with
  | raw u=>
   simp only [toV,tza] at k
   subst k
   cases h with
   | f k=>cases k;rfl
  | _=>simp [toV] at k
 | agg l=>
  simp only [toV] at k
  obtain ⟨ws,h1,rfl⟩:=tzf.1 k
  cases h with
  | agg hl hr=>rw [zbx h1 hl hr]
 | _=>simp [toV] at k
theorem zet {u v:Value} (h:DR C (.f (.raw u)) v):v=u:=by
 cases h with
 | f k=>cases k;rfl
theorem zoc {t:TypeId} {T:SlT} (h:tSl P t=some T):P.underlying t=some (.slice T.e)/\zi7 P t=some T.e/\zyn P T.e=some T.sz/\zgc P T.e=some T.by_/\(∃ z,zxn P T.e=some z/\T.z=ofV z)/\zqv T.sz T.z=true/\T.by_<=65536:=by
 unfold tSl at h
 split at h
 .rename_i e he
  split at h
  .rename_i sz hs
   split at h
   .rename_i b hb
    split at h
    .rename_i z hz
     split at h
     .rename_i hok
      simp only [tza] at h
      subst h
      refine ⟨?_,he,hs,hb,⟨z,hz,rfl⟩,hok.1,hok.2⟩
      unfold zi7 at he
      obtain ⟨d,h1,h2⟩:=tzh.1 he
      cases d<;>simp [xye] at h2
      subst h2
      exact h1
     .cases h
    .cases h
   .cases h
  .cases h
 .cases h
theorem zxa {sz:Nat} {d:DV} (h:zqv sz d=true):(zzd d).length=sz/\∀ x∈zzd d,zut x=true:=by
 unfold zqv at h
 simp only [tzc,tzx] at h
 exact ⟨tzo h.1,h.2⟩
theorem zod {sz:Nat} {d:DV}:zqv sz d=true↔(zzd d).length=sz/\(zzd d).all zut=true:=by
 unfold zqv
 simp only [tzc]
 exact and_congr_left' ⟨tzo,λh=>by rw [h];simp⟩
theorem zht {x:DV} {w:Value} (h:DR C x w) (k:zut x=true):oneCell w=true:=by
 cases h with
 | f h=>
  cases h with
  | raw v=>exact k
  | nil=>rfl
  | lst=>rfl
 | agg=>simp [zut] at k
 | tup=>simp [zut] at k
 | fn=>rfl
 | fp=>rfl
 | _=>assumption
theorem FR.one {S:Nat->Prop} {H:Hp} {x:FV} {w:Value} (h:FR S H x w) (k:zq2 x=true):oneCell w=true:=by
 cases h with
 | raw v=>exact k
 | nil=>rfl
 | lst=>rfl
end Go.Dv
namespace Go.Dv
open Go Go.Sim
variable {W:Nat->Prop} {C C' C'':Ctx} {P:Program} {tm:Trie DV} {tmH:Trie Value}
theorem zmn:∀ {c:List Value} {o n:Nat},o+n<=c.length->cut c o n=some ((c.drop o).take n)
 | c,0,0,_=>by simp [cut]
 | [],0,n+1,h=>by simp at h
 | v::c,0,n+1,h=>by
  have:=zmn (c:=c) (o:=0) (n:=n) (by simp at h ⊢;omega)
  simp only [List.drop_zero] at this
  simp only [cut,this];rfl
 | [],o+1,n,h=>by simp at h
 | v::c,o+1,n,h=>by
  have:=zmn (c:=c) (o:=o) (n:=n) (by simp at h;omega)
  cases n<;>simpa [cut] using this
theorem ykb {c:List Value}:∀ {o:Nat} {v:Value},c[o]? =some v->cut c o 1=some [v]:=by
 induction c with
 | nil=>intro o v h;simp at h
 | cons x c ih=>
  intro o v h
  cases o with
  | zero=>
   simp only [txp,tza] at h
   subst h
   cases c<;>rfl
  | succ o=>
   simp only [txr] at h
   exact ih h
theorem ys4 {H:Hp} {t:TypeId} {a:Option Nat} {b p k:Nat} {cs:List Value} {cells:List DV} {d:DV} (hrow:H.row b=some cs) (ht:tLd P t=some a)
  (hr:∀ (j:Nat) (x:DV),cells[j]? =some x->∃ w,cs[p+j]? =some w/\DR C x w) (h:zqw cells k a=some d):∃ v,zqz P H t b (p+k)=some v/\DR C d v:=by
 unfold tLd at ht
 unfold zqz
 split at ht
 .rename_i hag
  obtain ⟨n,hs,rfl⟩:=tzf.1 ht
  simp only [zqw] at h
  split at h
  .rename_i hk
   simp only [tza] at h
   subst h
   have hlen:p+k+n<=cs.length:=by
    obtain ⟨x,hx⟩:=zux (l:=cells) (i:=k+n-1) (by omega)
    obtain ⟨w,hw,_⟩:=hr _ x hx
    have:=zxc hw;omega
   rw [hag]
   simp only [hs,Hp.read,hrow]
   rw [zmn hlen]
   refine ⟨_,rfl,.agg (by simp;omega) (λi d v h1 h2=>?_)⟩
   rw [tyb] at h1 h2
   split at h1
   .rename_i hi
    rw [if_pos hi] at h2
    rw [tyj] at h1 h2
    obtain ⟨w,hw,hd⟩:=hr _ d h1
    rw [show p+(k+i)=p+k+i by omega,h2] at hw
    simp only [tza] at hw
    subst hw
    exact hd
   .cases h1
  .cases h
 .rename_i hag
  simp only [tza] at ht
  subst ht
  simp only [zqw] at h
  obtain ⟨w,hw,hd⟩:=hr _ d h
  rw [hag]
  simp only [Hp.read,hrow]
  rw [ykb hw]
  exact ⟨w,rfl,hd⟩
 .cases ht
theorem zoe {H:Hp} {b:Nat} {cs:List Value} {e:TypeId} (h:H.get b=some (.cells cs e none)):H.row b=some cs:=by unfold Hp.row;rw [h];rfl
theorem xwd {H:Hp} {b k:Nat} {cs:List Value} {e:TypeId} {r:List Nat} (h:H.get b=some (.cells cs e (some k))) (hs:H.stk k=b::r):H.row b=some cs:=by
 unfold Hp.row;rw [h];simp [Hp.rowOf,hs,zf8]
theorem zby (hr:HR C) {o sz:Nat} {els:List DV} (h:C.D[o]? =some (.arr sz els)):∃ cs,C.H.row (C.σ o)=some cs/\Cl C sz els cs:=by
 obtain ⟨cs,e,h1,h2⟩:=hr.ob o _ h
 exact ⟨cs,zoe h1,h2⟩
theorem zgy (hr:HR C) {o e sz:Nat} {els:List DV} (h:C.D[o]? =some (.app e sz els)) (hne:els≠[]):∃ cs,C.H.row (C.σ o)=some cs/\Cl C sz els cs:=by
 obtain ⟨cs,k,r,h1,h2,h3⟩:=hr.ob o _ h hne
 exact ⟨cs,xwd h1 h2,h3⟩
theorem ys5 {H:Hp} {t:TypeId} {a:Option Nat} {b i k sz:Nat} {cs:List Value} {els:List DV} {d:DV} (hrow:H.row b=some cs) (hc:Cl C sz els cs) (ht:tLd P t=some a) (h:ylv els i k a=some d) :
  ∃ v,zqz P H t b (i*sz+k)=some v/\DR C d v:=by
 obtain ⟨x,hx,h⟩:=tzh.1 h
 exact ys4 hrow ht (λj y hy=>hc.el i x j y hx hy) h
theorem yyx (hr:HR C) {t:TypeId} {a:Option Nat} {p d:DV} {vp:Value} (ht:tLd P t=some a) (hp:DR C p vp) (h:zv2 C.D a p=some d):∃ b off v,zmu vp=some (b,off)/\zqz P C.H t b off=some v/\DR C d v:=by
 cases hp with
 | @ref o i k _ ho one g=>
  simp only [zv2] at h
  split at h
  .rename_i sz els hx
   obtain ⟨cs,h1,h2⟩:=zby hr hx
   obtain ⟨v,h3,h4⟩:=ys5 h1 h2 ht h
   rw [g _ _ hx]
   exact ⟨_,_,v,rfl,h3,h4⟩
  .cases h
 | @rfa o n i k _ ho one hn g=>
  simp only [zv2] at h
  split at h
  .rename_i e sz els hx
   split at h
   .rename_i hl
    obtain ⟨cs,h1,h2⟩:=zgy hr hx (λq=>by subst q;simp at hl;omega)
    obtain ⟨v,h3,h4⟩:=ys5 h1 h2 ht h
    rw [(g.2 _ _ _ hx).2 hl]
    exact ⟨_,_,v,rfl,h3,h4⟩
   .cases h
  .cases h
 | fp w hb hc hw hf=>
  simp only [zv2] at h
  obtain ⟨v,h3,h4⟩:=ys4 (C:=C) (P:=P) hc ht (λj x hx=>by
   simp only [tzr] at hx
   obtain ⟨y,hy,rfl⟩:=tzf.1 hx
   exact ⟨w j,(hw j y hy).1,.f (hf j y hy)⟩) h
  exact ⟨_,_,v,rfl,h3,h4⟩
 | _=>simp [zv2] at h
theorem ys6 {t:TypeId} {f o:Nat} {ft:TypeId} (h:zki P t f=some (o,ft)):∃ fs fd,P.underlying t=some (.struct fs)/\fs.toList[f]? =some fd/\fd.offset=o/\fd.type=ft/\∃ n,zyn P fd.type=some (n+1):=by
 unfold zki at h
 obtain ⟨d,h1,h2⟩:=tzh.1 h
 cases d<;>simp only [xp7] at h2<;>first | (cases h2;done) | skip
 rename_i fs
 split at h2
 .rename_i fd hfd
  split at h2
  .rename_i n hn
   simp only [tza,tzl] at h2
   exact ⟨fs,fd,h1,hfd,h2.1,h2.2,n,hn⟩
  .cases h2
 .cases h2
theorem zr7 {d:DV} {v:Value} (h:DR C d v) (k:zs0 C.D d=true):∃ b off,v=.pointer (some ⟨b,off,none⟩):=by
 cases h with
 | @ref o i k _ ho one g=>
  simp only [zs0] at k
  split at k
  .rename_i sz els hx;exact ⟨_,_,g _ _ hx⟩
  .cases k
 | @rfa o n i k _ ho one hn g=>
  simp only [zs0] at k
  split at k
  .rename_i e sz els hx;exact ⟨_,_,(g.2 _ _ _ hx).2 (by simpa using k)⟩
  .cases k
 | _=>simp [zs0] at k
theorem yvr {t:TypeId} {f o:Nat} {ft:TypeId} {p d:DV} {vp:Value} (hf:zki P t f=some (o,ft)) (hp:DR C p vp) (h:zs1 C.D o p=some d):∃ v,ztw P t vp f=some v/\DR C d v:=by
 obtain ⟨fs,fd,h1,h2,h3,h4,n,h5⟩:=ys6 hf
 have key:∀ b off,vp=.pointer (some ⟨b,off,none⟩)->ztw P t vp f=some (.pointer (some ⟨b,off+o,none⟩)):=by
  intro b off e
  subst e
  unfold ztw
  rw [h1]
  simp only [tzn,zn0,h2,h5,zoa,h3]
 unfold zs1 at h
 cases hp with
 | @ref u i k _ ho one g=>
  simp only at h
  split at h
  .rename_i hi
   simp only [tza] at h
   subst h
   obtain ⟨b,off,e⟩:=zr7 (.ref ho one g) hi
   refine ⟨_,key b off e,.ref ho rfl (λsz els hx=>?_)⟩
   have:=g _ _ hx
   rw [e] at this
   simp only [Value.pointer.injEq,tza,Addr.mk.injEq] at this
   rw [this.1,this.2.1,txq]
  .cases h
 | @rfa u m i k _ ho one hn g=>
  simp only at h
  split at h
  .rename_i hi
   simp only [tza] at h
   subst h
   obtain ⟨b,off,e⟩:=zr7 (.rfa ho one hn g) hi
   refine ⟨_,key b off e,.rfa ho rfl hn ⟨g.1,λe' sz els hx=>⟨(g.2 _ _ _ hx).1,λhl=>?_⟩⟩⟩
   have:=(g.2 _ _ _ hx).2 hl
   rw [e] at this
   simp only [Value.pointer.injEq,tza,Addr.mk.injEq] at this
   rw [this.1,this.2.1,txq]
  .cases h
 | @fp l b off c w hb hc hw hr=>
  simp only at h
  split at h
  .simp only [tza] at h
   subst h
   refine ⟨_,key b off rfl,.fp (λj=>w (o+j)) hb hc (λj y hy=>?_) (λj y hy=>?_)⟩
   .rw [tyj] at hy
    rw [txq]
    exact hw _ y hy
   .rw [tyj] at hy
    exact hr _ y hy
  .cases h
 | _=>simp at h
theorem zbz {t:TypeId} {n s:Nat} {e:TypeId} (h:zlv P t=some (n,s,e)):P.underlying t=some (.array n e)/\zyn P e=some s:=by
 unfold zlv at h
 obtain ⟨d,h1,h2⟩:=tzh.1 h
 cases d<;>simp only [xp8] at h2<;>first | (cases h2;done) | skip
 obtain ⟨s',h3,h4⟩:=tzf.1 h2
 simp only [tzl] at h4
 obtain ⟨rfl,rfl,rfl⟩:=h4
 exact ⟨h1,h3⟩
theorem zgz {d:DV} {v:Value} {n:Nat} (h:DR C d v) (k:zho d=some n):∃ kk,v=.int kk (.ofNat n):=by
 unfold zho at k
 split at k
 .rename_i kk m
  simp only [tza] at k
  subst k
  exact ⟨kk,zet h⟩
 .cases k
theorem ze3 {d:DV} {v:Value} {n:Nat} (h:DR C d v) (k:zq3 d=some n):v=.int .i64 (.ofNat n):=by
 unfold zq3 at k
 split at k
 .rename_i m
  simp only [tza] at k
  subst k
  exact zet h
 .cases k
theorem yvs {t:TypeId} {n:Nat} {p d:DV} {vp:Value} {kk:IntKind} (hp:DR C p vp) (h:zyz C.D (tSl P t) (zlv P t) n p=some d):∃ v,zxy P t vp (.int kk (.ofNat n))=some v/\DR C d v:=by
 have xy3:∀ T,tSl P t=some T->∀ b off len cap,n<len->vp=.slice (some ⟨b,off,none⟩) len cap->zxy P t vp (.int kk (.ofNat n))=some (.pointer (some ⟨b,off+n*T.sz,none⟩)):=by
  intro T hT b off len cap hn e
  obtain ⟨h1,h2,h3,_⟩:=zoc hT
  subst e
  unfold zxy
  simp only [h1,tzn,zcj,h3,zrp,show Nat.blt n len=true by simpa using hn,zoa]
 have keyA:∀ m s e,zlv P t=some (m,s,e)->∀ b off,n<m->vp=.pointer (some ⟨b,off,none⟩)->zxy P t vp (.int kk (.ofNat n))=some (.pointer (some ⟨b,off+n*s,none⟩)):=by
  intro m s e hA b off hn q
  obtain ⟨h1,h2⟩:=zbz hA
  subst q
  unfold zxy
  simp only [h1,tzn,zcj,h2,zrp,show Nat.blt n m=true by simpa using hn,zoa]
 cases hp with
 | f hf=>
  cases hf with
  | raw v=>simp [zyz] at h
  | nil=>
   simp only [zyz] at h
   split at h<;>simp at h
  | @lst l b o n' cap sz c w hn hb hc hz hol hcap hs hw hr=>
   simp only [zyz] at h
   split at h
   .rename_i T hT
    split at h
    .rename_i x hx
     split at h
     .rename_i hl
      simp only [tza] at h
      subst h
      have hsz:sz=T.sz:=by rw [<-hs n x hx];exact hl
      subst hsz
      refine ⟨_,xy3 T hT b o n' cap (by rw [hn];exact zxc hx) rfl,.fp (λj=>w n j) hb hc (λj y hy=>?_) (λj y hy=>hr n x j y hx hy)⟩
      obtain ⟨g1,g2,_⟩:=hw n x j y hx hy
      exact ⟨g1,g2⟩
     .cases h
    .cases h
   .cases h
 | @row o off len cap _ ho one g=>
  simp only [zyz] at h
  split at h
  .rename_i T hT
   split at h
   .rename_i sz els hx
    split at h
    .rename_i hc
     simp only [tza] at h
     subst h
     obtain ⟨e,_,_,_⟩:=g _ _ hx
     refine ⟨_,xy3 T hT _ _ len cap hc.2 e,.ref ho rfl (λsz' els' hx'=>?_)⟩
     rw [hx] at hx'
     simp only [tza,DObj.arr.injEq] at hx'
     rw [<-hx'.1,<-hc.1,Nat.add_zero,txb]
    .cases h
   .cases h
  .cases h
 | @apl o len _ ho one g=>
  simp only [zyz] at h
  split at h
  .rename_i T hT
   split at h
   .rename_i e sz els hx
    split at h
    .rename_i hc
     simp only [tza] at h
     subst h
     obtain ⟨g1,g2⟩:=g.2 _ _ _ hx
     have e1:=g2 hc.2.1
     obtain ⟨m,rfl⟩:∃ m,len=m+1:=⟨len-1,by omega⟩
     refine ⟨_,xy3 T hT _ _ (m+1) _ hc.2.2 e1,.rfa ho rfl (by omega) ⟨g.1,λe' sz' els' hx'=>⟨?_,λhl=>?_⟩⟩⟩
     .rw [hx] at hx'
      simp only [tza,DObj.app.injEq] at hx'
      rw [<-hx'.2.2];omega
     .rw [hx] at hx'
      simp only [tza,DObj.app.injEq] at hx'
      rw [<-hx'.2.1,<-hc.1,Nat.add_zero,txj]
    .cases h
   .cases h
  .cases h
 | @prt o m off len _ ho one hm g=>
  simp only [zyz] at h
  split at h
  .rename_i T hT
   split at h
   .rename_i e sz els hx
    split at h
    .rename_i hc
     simp only [tza] at h
     subst h
     obtain ⟨g1,g2⟩:=g.2 _ _ _ hx
     obtain ⟨e0,c,e1⟩:=g2 hc.2.1
     refine ⟨_,xy3 T hT _ _ len c hc.2.2 e1,.rfa ho rfl hm ⟨g.1,λe' sz' els' hx'=>⟨?_,λhl=>?_⟩⟩⟩
     .rw [hx] at hx'
      simp only [tza,DObj.app.injEq] at hx'
      rw [<-hx'.2.2];omega
     .rw [hx] at hx'
      simp only [tza,DObj.app.injEq] at hx'
      rw [<-hx'.2.1,<-hc.1,Nat.add_zero,txb]
    .cases h
   .cases h
  .cases h
 | @ref o i k _ ho one g=>
  simp only [zyz] at h
  split at h
  .rename_i m s e hA
   split at h
   .rename_i sz els hx
    split at h
    .rename_i hn
     simp only [tza] at h
     subst h
     refine ⟨_,keyA m s e hA _ _ hn (g _ _ hx),.ref ho rfl (λsz' els' hx'=>?_)⟩
     rw [hx] at hx'
     simp only [tza,DObj.arr.injEq] at hx'
     rw [<-hx'.1,txq]
    .cases h
   .cases h
  .cases h
 | @rfa o u i k _ ho one hu g=>
  simp only [zyz] at h
  split at h
  .rename_i m s e hA
   split at h
   .rename_i e' sz els hx
    split at h
    .rename_i hn
     simp only [tza] at h
     subst h
     refine ⟨_,keyA m s e hA _ _ hn.1 ((g.2 _ _ _ hx).2 hn.2),.rfa ho rfl hu ⟨g.1,λe2 sz' els' hx'=>⟨(g.2 _ _ _ hx').1,λ_=>?_⟩⟩⟩
     rw [hx] at hx'
     simp only [tza,DObj.app.injEq] at hx'
     rw [<-hx'.2.1,txq]
    .cases h
   .cases h
  .cases h
 | @fp l b off c w hb hc hw hr=>
  simp only [zyz] at h
  split at h
  .rename_i m s e hA
   split at h
   .rename_i hn
    simp only [tza] at h
    subst h
    refine ⟨_,keyA m s e hA b off hn.1 rfl,.fp (λj=>w (n*s+j)) hb hc (λj y hy=>?_) (λj y hy=>?_)⟩
    .rw [tyj] at hy
     rw [txq]
     exact hw _ y hy
    .rw [tyj] at hy
     exact hr _ y hy
   .cases h
  .cases h
 | _=>simp [zyz] at h
structure Lies (C:Ctx) (els:List DV) (n:Nat) (v:Value):Prop where
 len:els.length=n
 ex:(∃ c,v=.slice none n c/\els=[]/\c=0)∨∃ b o cap sz cs,v=.slice (some ⟨b,o,none⟩) n cap/\C.H.row b=some cs/\o+n*sz<=cs.length/\0<sz /\
  ∀ (i:Nat) (d:DV),els[i]? =some d->(zzd d).length=sz/\∀ (j:Nat) (x:DV),(zzd d)[j]? =some x->∃ w,cs[o+i*sz+j]? =some w/\DR C x w/\oneCell w=true
theorem yvt (x:FV):zzd (elD x)=(zxj x).map .f:=by
 cases x<;>rfl
theorem zg0 (hr:HR C) {p:DV} {vp:Value} {els:List DV} (hp:DR C p vp) (h:zwx C.D p=some els):Lies C els els.length vp:=by
 refine ⟨rfl,?_⟩
 cases hp with
 | f hf=>
  cases hf with
  | raw v=>
   unfold zwx at h
   split at h<;>first | (cases h;done) | skip
   .rename_i heq;simp at heq
   .rename_i heq
    simp only [DV.f.injEq,FV.raw.injEq] at heq
    subst heq
    simp only [tza] at h
    subst h
    exact .inl ⟨0,rfl,rfl,rfl⟩
   all_goals (rename_i heq;simp at heq)
  | nil=>
   simp only [zwx,List.map_nil,tza] at h
   subst h
   exact .inl ⟨0,rfl,rfl,rfl⟩
  | @lst l b o n cap sz c w hn hb hc hz hol hcap hs hw hr'=>
   simp only [zwx,tza] at h
   subst h
   refine .inr ⟨b,o,cap,sz,c,by rw [hn];simp,hc,by simpa using hol,hz,λi d hd=>?_⟩
   simp only [tzr] at hd
   obtain ⟨x,hx,rfl⟩:=tzf.1 hd
   rw [yvt]
   refine ⟨by simp [hs i x hx],λj y hy=>?_⟩
   simp only [tzr] at hy
   obtain ⟨z,hz',rfl⟩:=tzf.1 hy
   obtain ⟨g1,g2,g3⟩:=hw i x j z hx hz'
   exact ⟨_,g1,.f (hr' i x j z hx hz'),g2⟩
 | @row o off len cap _ ho one g=>
  simp only [zwx] at h
  split at h
  .rename_i sz els' hx
   split at h
   .rename_i hz
    simp only [tza] at h
    subst h
    obtain ⟨e,g1,g2,g3⟩:=g _ _ hx
    obtain ⟨cs,h1,h2⟩:=zby hr hx
    have hlen:((els'.drop off).take len).length=len:=by simp;omega
    rw [hlen]
    refine .inr ⟨C.σ o,off*sz,cap,sz,cs,e,h1,?_,hz.1,λi d hd=>?_⟩
    .rw [h2.len,<-txb];exact txn _ hz.2
    .rw [tyb] at hd
     split at hd
     .rw [tyj] at hd
      refine ⟨(zxa (h2.ok _ d hd)).1,λj x hx=>?_⟩
      obtain ⟨w,q1,q2⟩:=h2.el _ d j x hd hx
      refine ⟨w,by rw [<-txb];exact q1,q2,zht q2 ((zxa (h2.ok _ d hd)).2 x (tzg hx))⟩
     .cases hd
   .cases h
  .cases h
 | @apl o len _ ho one g=>
  simp only [zwx] at h
  split at h
  .rename_i e sz els' hx
   split at h
   .rename_i hl
    simp only [tza] at h
    subst h
    have e1:=(g.2 _ _ _ hx).2 hl.1
    rw [<-hl.1] at e1
    cases hne:els' with
    | nil=>subst hne;exact .inl ⟨0,e1,rfl,rfl⟩
    | cons d0 els0=>
     rw [<-hne]
     obtain ⟨cs,h1,h2⟩:=zgy hr hx (by rw [hne];simp)
     refine .inr ⟨C.σ o,0,U+2*C.σ o,sz,cs,?_,h1,by rw [h2.len,txj];exact tzp _,hl.2,λi d hd=>⟨(zxa (h2.ok _ d hd)).1,λj x hx=>?_⟩⟩
     .rw [e1,hne];rfl
     .obtain ⟨w,q1,q2⟩:=h2.el _ d j x hd hx
      exact ⟨w,by rw [txj];exact q1,q2,zht q2 ((zxa (h2.ok _ d hd)).2 x (tzg hx))⟩
   .cases h
  .cases h
 | @prt o n off len _ ho one hn g=>
  simp only [zwx] at h
  split at h
  .rename_i e sz els' hx
   split at h
   .rename_i hl
    simp only [tza] at h
    subst h
    obtain ⟨e0,c,e1⟩:=(g.2 _ _ _ hx).2 hl.1
    obtain ⟨cs,h1,h2⟩:=zgy hr hx (λq=>by rw [q] at hl;simp at hl;omega)
    have hlen:((els'.drop off).take len).length=len:=by simp;omega
    rw [hlen]
    refine .inr ⟨C.σ o,off*sz,c,sz,cs,e1,h1,?_,hl.2,λi d hd=>?_⟩
    .rw [h2.len,<-txb];exact txn _ (by omega)
    .rw [tyb] at hd
     split at hd
     .rw [tyj] at hd
      refine ⟨(zxa (h2.ok _ d hd)).1,λj x hx=>?_⟩
      obtain ⟨w,q1,q2⟩:=h2.el _ d j x hd hx
      exact ⟨w,by rw [<-txb];exact q1,q2,zht q2 ((zxa (h2.ok _ d hd)).2 x (tzg hx))⟩
     .cases hd
   .cases h
  .cases h
 | _=>simp [zwx] at h
end Go.Dv
namespace Go.Dv
open Go Go.Sim
variable {W:Nat->Prop} {C C' C'':Ctx} {P:Program} {tm:Trie DV} {tmH:Trie Value}
theorem Lies.cells {els:List DV} {n:Nat} {v:Value} (h:Lies C els n v) {sz:Nat} (hs:∀ d∈els,zqv sz d=true):∃ cs,zq7 C.H sz n v=some cs/\Cl C sz els cs/\xyf v=some n/\∀ m,m<=n->∃ cs',zq7 C.H sz m v=some cs'/\Cl C sz (els.take m) cs':=by
 rcases h.ex with ⟨c,rfl,rfl,rfl⟩ | ⟨b,o,cap,sz',cs,rfl,h1,h2,h3,h4⟩
 .have hn:n=0:=by rw [<-h.len];rfl
  subst hn
  have key:Cl C sz [] []:=⟨by simp,λi d h=>by simp at h,λi d j x h=>by simp at h,λv h=>by cases h⟩
  refine ⟨[],rfl,key,rfl,λm hm=>?_⟩
  have:m=0:=by omega
  subst this
  exact ⟨[],rfl,key⟩
 .have key:∀ m,m<=n->∃ cs',zq7 C.H sz m (.slice (some ⟨b,o,none⟩) n cap)=some cs'/\Cl C sz (els.take m) cs':=by
   intro m hm
   by_cases hm0:m=0
   .subst hm0
    refine ⟨[],?_,⟨by simp,λi d h=>by simp at h,λi d j x h=>by simp at h,λv h=>by cases h⟩⟩
    show C.H.readAt ⟨b,o,none⟩ (0*sz)=some []
    simp only [Hp.readAt,Hp.read,h1,Nat.zero_mul]
    rw [zmn (by have:=tz6 (n*sz');omega)]
    simp
   .obtain ⟨d0,hd0⟩:=zux (l:=els) (i:=0) (by have:=h.len;omega)
    have hsz:sz'=sz:=by rw [<-(h4 0 d0 hd0).1];exact (zxa (hs d0 (tzg hd0))).1
    subst hsz
    have hle:o+m*sz'<=cs.length:=by have:=txn sz' hm;omega
    refine ⟨(cs.drop o).take (m*sz'),?_,⟨?_,λi d hd=>?_,λi d j x hd hx=>?_,λv hv=>?_⟩⟩
    .show C.H.readAt ⟨b,o,none⟩ (m*sz')=_
     simp only [Hp.readAt,Hp.read,h1]
     rw [zmn hle]
    .have:=h.len
     simp;rw [Nat.min_eq_left (by omega),Nat.min_eq_left (by omega)]
    .rw [tyb] at hd
     split at hd
     .exact hs d (tzg hd)
     .cases hd
    .rw [tyb] at hd
     split at hd
     .rename_i him
      obtain ⟨g1,g2⟩:=h4 i d hd
      obtain ⟨w,q1,q2,_⟩:=g2 j x hx
      have hj:=zxc hx
      have hij:i*sz'+j<m*sz':=by
       have:=txn sz' (show i+1<=m from him)
       rw [txb] at this;omega
      refine ⟨w,?_,q2⟩
      rw [tyb,if_pos hij,tyj,<-txq]
      exact q1
     .cases hd
    .obtain ⟨p,hp⟩:=List.getElem?_of_mem hv
     rw [tyb] at hp
     split at hp
     .rename_i hpm
      rw [tyj] at hp
      have hdiv:p / sz'<m:=(Nat.div_lt_iff_lt_mul h3).2 hpm
      obtain ⟨d,hd⟩:=zux (l:=els) (i:=p / sz') (by have:=h.len;omega)
      obtain ⟨g1,g2⟩:=h4 _ d hd
      obtain ⟨x,hx⟩:=zux (l:=zzd d) (i:=p % sz') (by rw [g1];exact Nat.mod_lt _ h3)
      obtain ⟨w,q1,_,q3⟩:=g2 _ x hx
      rw [txq,Nat.mul_comm,Nat.div_add_mod,hp] at q1
      simp only [tza] at q1
      rw [q1];exact q3
     .cases hp
  obtain ⟨cs',q1,q2⟩:=key n (tzp _)
  rw [tzk (by rw [h.len];exact tzp _)] at q2
  exact ⟨cs',q1,q2,rfl,key⟩
theorem yd8 {d d':DV} {v:Value} (h:DR C d v) (k:zbr C.D d=some d'):∃ v',ywo v=some v'/\DR C d' v':=by
 cases d with
 | ref o i kk=>
  simp only [zbr] at k
  split at k
  .rename_i hi
   simp only [tza] at k
   subst k
   obtain ⟨b,off,rfl⟩:=zr7 h hi
   exact ⟨_,rfl,h⟩
  .cases k
 | rfa o n i kk=>
  simp only [zbr] at k
  split at k
  .rename_i hi
   simp only [tza] at k
   subst k
   obtain ⟨b,off,rfl⟩:=zr7 h hi
   exact ⟨_,rfl,h⟩
  .cases k
 | fp l=>
  simp only [zbr,tza] at k
  subst k
  cases h with
  | fp w hb hc hw hr=>exact ⟨_,rfl,.fp w hb hc hw hr⟩
 | fn g a b=>
  simp only [zbr,tza] at k
  subst k
  cases h with
  | fn ha hb h1 h2=>exact ⟨_,rfl,.fn ha hb h1 h2⟩
 | yl l=>
  simp only [zbr] at k
  split at k
  .rename_i hx
   simp only [tza] at k
   subst k
   cases h with
   | yl ho one g=>
    have:=g _ _ _ _ _ _ _ hx
    subst this
    exact ⟨_,rfl,.yl ho rfl g⟩
  .cases k
 | _=>simp [zbr] at k
theorem zb0 {d d':DV} {v:Value} {i:Nat} (h:DR C d v) (k:zr5 i d=some d'):∃ v',ywq i v=some v'/\DR C d' v':=by
 cases h with
 | @tup ds vs hl hr=>
  simp only [zr5] at k
  obtain ⟨v,hv⟩:=zux (l:=vs) (i:=i) (by rw [hl];exact zxc k)
  exact ⟨v,hv,hr i d' v k hv⟩
 | _=>simp [zr5] at k
theorem yyy {t:TypeId} {a:Option Nat} {ds:List DV} {vs:List Value} {k:Nat} {d:DV} (ht:tLd P t=some a) (hl:vs.length=ds.length) (hr:∀ (i:Nat) (d:DV) (v:Value),ds[i]? =some d->vs[i]? =some v->DR C d v) (h:zqw ds k a=some d) :
  ∃ v,ytz P t vs k=some v/\DR C d v:=by
 unfold tLd at ht
 unfold ytz
 split at ht
 .rename_i hag
  obtain ⟨n,hs,rfl⟩:=tzf.1 ht
  simp only [zqw] at h
  split at h
  .rename_i hk
   simp only [tza] at h
   subst h
   rw [hag]
   simp only [hs]
   rw [zmn (by omega)]
   refine ⟨_,rfl,.agg (by simp;omega) (λi d v h1 h2=>?_)⟩
   rw [tyb] at h1 h2
   split at h1
   .rename_i hi
    rw [if_pos hi] at h2
    rw [tyj] at h1 h2
    exact hr _ d v h1 h2
   .cases h1
  .cases h
 .rename_i hag
  simp only [tza] at ht
  subst ht
  simp only [zqw] at h
  obtain ⟨v,hv⟩:=zux (l:=vs) (i:=k) (by rw [hl];exact zxc h)
  rw [hag]
  exact ⟨v,hv,hr k d v h hv⟩
 .cases ht
theorem ys7 {t:TypeId} {f:Nat} {x:DV} {d:DV} {v:Value} (hx:DR C x v) (h:zmk P t f (some x)=some d):∃ v',ywm P t v f=some v'/\DR C d v':=by
 cases hx with
 | @agg ds vs hl hr=>
  simp only [zmk] at h
  split at h
  .rename_i o ft hf
   obtain ⟨a,ha,hp⟩:=tzh.1 h
   obtain ⟨fs,fd,h1,h2,h3,h4,n,h5⟩:=ys6 hf
   subst h3 h4
   obtain ⟨v,g1,g2⟩:=yyy ha hl hr hp
   refine ⟨v,?_,g2⟩
   unfold ywm
   rw [h1]
   simp only [tzn,ymg,h2]
   exact g1
  .cases h
 | _=>simp [zmk] at h
theorem ys8 {t:TypeId} {x i:DV} {d:DV} {v w:Value} (hx:DR C x v) (hi:DR C i w) (h:zw6 P t (some x) (some i)=some d):∃ v',zmv P t v w=some v'/\DR C d v':=by
 cases hx with
 | f hf=>
  cases hf with
  | raw u=>
   simp only [zw6] at h
   split at h
   .rename_i n hn
    simp only [tza] at hn
    subst hn
    rw [zet hi]
    split at h
    .obtain ⟨u',h1,h2⟩:=tzf.1 h
     subst h2
     exact ⟨u',h1,zob u'⟩
    .cases h
   .cases h
  | _=>simp [zw6] at h
 | @agg ds vs hl hr=>
  simp only [zw6,tzn] at h
  split at h
  .rename_i n hn
   obtain ⟨kk,rfl⟩:=zgz hi hn
   split at h
   .rename_i m s e hA
    split at h
    .rename_i hnm
     obtain ⟨h1,h2⟩:=zbz hA
     obtain ⟨a,ha,h⟩:=tzh.1 h
     obtain ⟨v,g1,g2⟩:=yyy ha hl hr h
     refine ⟨v,?_,g2⟩
     unfold zmv
     simp only [h1,tzn,zjt,h2,show Nat.blt n m=true by simpa using hnm]
     exact g1
    .cases h
   .cases h
  .cases h
 | _=>simp [zw6] at h
theorem yd9 {op:BinOp} {t:TypeId} {x y:Operand} {a b d:DV} {va vb:Value} (ha:DR C a va) (hb:DR C b vb) (h:yd6 P op t x y (some a) (some b)=some d):∃ v,zsz P op t x y va vb=some v/\DR C d v:=by
 unfold yd6 at h
 simp only [tzn] at h
 split at h
 .rename_i u hu
  split at h
  .rename_i w hw
   obtain ⟨v,h1,h2⟩:=tzf.1 h
   rw [zhs ha hu,zhs hb hw]
   subst h2
   exact ⟨v,h1,zob v⟩
  .cases h
 .cases h
theorem xwe {op:UnOp} {a d:DV} {va:Value} (ha:DR C a va) (h:dUn P op (some a)=some d):∃ v,unA P op va=some v/\DR C d v:=by
 unfold dUn at h
 simp only [tzn] at h
 split at h
 .rename_i u hu
  obtain ⟨v,h1,h2⟩:=tzf.1 h
  rw [zhs ha hu]
  subst h2
  exact ⟨v,h1,zob v⟩
 .cases h
theorem zhu {k:IntKind} {a:Int}:∀ {es es':List MapEntry} {s:Nat},es.map (·.key)=es'.map (·.key)->zny k a es s=zny k a es' s
 | [],[],_,_=>rfl
 | [],_::_,_,h=>by simp at h
 | _::_,[],_,h=>by simp at h
 | e::es,e'::es',s,h=>by
  simp only [txe,tyi] at h
  simp only [zny,h.1,zhu (s:=s+1) h.2]
theorem zhv {a:ByteArray}:∀ {es es':List MapEntry} {s:Nat},es.map (·.key)=es'.map (·.key)->znz a es s=znz a es' s
 | [],[],_,_=>rfl
 | [],_::_,_,h=>by simp at h
 | _::_,[],_,h=>by simp at h
 | e::es,e'::es',s,h=>by
  simp only [txe,tyi] at h
  simp only [znz,h.1,zhv (s:=s+1) h.2]
theorem zhw {kt:TypeId} {k:Value}:∀ {es es':List MapEntry} {s:Nat},es.map (·.key)=es'.map (·.key)->ztv P kt k es s=ztv P kt k es' s
 | [],[],_,_=>rfl
 | [],_::_,_,h=>by simp at h
 | _::_,[],_,h=>by simp at h
 | e::es,e'::es',s,h=>by
  simp only [txe,tyi] at h
  simp only [ztv,h.1,zhw (s:=s+1) h.2]
theorem zhx {kt:TypeId} {k:Value} {es es':List MapEntry} (h:es.map (·.key)=es'.map (·.key)):zy1 P kt k es=zy1 P kt k es':=by
 unfold zy1
 cases P.underlying kt with
 | none=>rfl
 | some d=>
  simp only [tzn]
  unfold xyg
  cases d<;>(try rfl)<;>first
   | (cases k<;>first | rfl | exact zhu h | exact zhv h)
   | rw [zhw h]
theorem yvu {ks:List Value} {es:List MapEntry} (hl:es.length=ks.length) (h:∀ (i:Nat) (e:MapEntry) (k:Value),es[i]? =some e->ks[i]? =some k->e.key=k):es.map (·.key)=(zxb ks).map (·.key):=by
 refine ty8 (λi=>?_)
 simp only [zxb,tzr,Option.map_map]
 rcases tz9 i es.length with g | g
 .obtain ⟨e,he⟩:=zux g
  obtain ⟨k,hk⟩:=zux (l:=ks) (i:=i) (by omega)
  rw [he,hk]
  simp [h i e k he hk]
 .rw [tzt g,tzt (by omega)];rfl
theorem ys9 {t kt:TypeId} {z:Option Value} (h:zer P t=some (kt,z)):∃ et,P.underlying t=some (.map kt et)/\z=zxn P et:=by
 unfold zer at h
 split at h
 .rename_i kt' et hu
  simp only [tza,tzl] at h
  exact ⟨et,by rw [hu,h.1],h.2.symm⟩
 .cases h
theorem ze4 {ok b:Bool} {d:DV} {v:Value} (h:DR C d v):DR C (zs2 ok b d) (ywl ok b v):=by
 cases ok with
 | false=>exact h
 | true=>
  refine .tup (vs:=[v,.bool b]) rfl (λi d' v' h1 h2=>?_)
  match i with
  | 0=>simp at h1 h2;subst h1 h2;exact h
  | 1=>simp at h1 h2;subst h1 h2;exact zvs _
  | i+2=>simp at h1
theorem zb1 (hr:HR C) {o:Nat} {ks:List Value} {vs:List DV} {v:Value} (h:C.D[o]? =some (.map ks vs)) (hv:DR C (.mp o) v):∃ es ck,v=.map (some (C.σ o))/\C.H.get (C.σ o)=some (.map es ck)/\es.length=ks.length/\vs.length=ks.length /\
  es.map (·.key)=(zxb ks).map (·.key)/\(∀ (i:Nat) (e:MapEntry) (k:Value),es[i]? =some e->ks[i]? =some k->e.key=k)/\∀ (i:Nat) (e:MapEntry) (d:DV),es[i]? =some e->vs[i]? =some d->DR C d e.val:=by
 obtain ⟨es,ck,g1,g2,g3,g4,g5⟩:=hr.ob o _ h
 cases hv with
 | mp ho one g=>exact ⟨es,ck,g _ _ h,g1,g2,g3,yvu g2 g4,g4,g5⟩
theorem yvv (hr:HR C) {t:TypeId} {x k d:DV} {vx vk:Value} {ok:Bool} (hx:DR C x vx) (hk:DR C k vk) (h:zs3 P C.D (zer P t) x (toV k) ok=some d):∃ v,zui P t vx vk ok C.H=some v/\DR C d v:=by
 unfold zs3 at h
 split at h
 .rename_i kt z hM
  split at h
  .rename_i o
   split at h
   .rename_i ks vs hD
    split at h
    .rename_i kv hkv
     obtain ⟨es,ck,e1,e2,e3,e4,e5,e6,e7⟩:=zb1 hr hD hx
     obtain ⟨et,u1,u2⟩:=ys9 hM
     have ek:=zhs hk hkv
     subst e1 ek
     have hl:zui P t (.map (some (C.σ o))) vk ok C.H=zf9 P ok kt et vk es:=by
      unfold zui
      rw [u1]
      simp only [zms,e2,tzn]
     rw [hl]
     unfold zf9
     rw [zhx e5]
     split at h
     .rename_i i hf
      simp only [hf]
      obtain ⟨d',h1,rfl⟩:=tzf.1 h
      obtain ⟨e,he⟩:=zux (l:=es) (i:=i) (by have:=zxc h1;omega)
      refine ⟨_,by rw [he];rfl,ze4 (e7 i e d' he h1)⟩
     .rename_i hf
      simp only [hf]
      obtain ⟨zv,h1,rfl⟩:=tzf.1 h
      rw [u2] at h1
      exact ⟨_,by rw [h1];rfl,ze4 (zob zv)⟩
     .cases h
    .cases h
   .cases h
  .cases h
 .cases h
theorem yca (hr:HR C) {t:TypeId} {x d:DV} {v:Value} (hx:DR C x v) (h:zbl C.D x (zex P t)=some d):∃ v',(P.underlying t).bind (ymi C.H v)=some v'/\DR C d v':=by
 unfold zex at h
 cases hu:P.underlying t with
 | none=>rw [hu] at h;simp [zbl] at h
 | some dsc=>
  rw [hu] at h
  simp only [tz2] at h
  simp only [tzn]
  have sl:∀ n,zix C.D x=some n->∃ a c,v=.slice a n c:=by
   intro n hn
   cases hx with
   | f hf=>
    cases hf with
    | raw u=>
     unfold zix at hn
     split at hn<;>first | (cases hn;done) | skip
     .rename_i heq;simp at heq
     .rename_i heq
      simp only [DV.f.injEq,FV.raw.injEq] at heq
      subst heq
      simp only [tza] at hn
      subst hn
      exact ⟨none,0,rfl⟩
     all_goals (rename_i heq;simp at heq)
    | nil=>simp only [zix,tze,tza] at hn;subst hn;exact ⟨none,0,rfl⟩
    | lst w hn'=>simp only [zix,tza] at hn;subst hn;subst hn';exact ⟨_,_,rfl⟩
   | row ho one g=>
    simp only [zix] at hn
    split at hn
    .rename_i sz els hD
     simp only [tza] at hn
     subst hn
     exact ⟨_,_,(g _ _ hD).1⟩
    .cases hn
   | @apl o len _ ho one g=>
    simp only [zix] at hn
    split at hn
    .rename_i e sz els hD
     split at hn
     .rename_i hl
      simp only [tza] at hn
      subst hn
      have:=(g.2 _ _ _ hD).2 hl
      cases len with
      | zero=>exact ⟨_,_,this⟩
      | succ n=>exact ⟨_,_,this⟩
     .cases hn
    .cases hn
   | @prt o m off len _ ho one hm g=>
    simp only [zix] at hn
    split at hn
    .rename_i e sz els hD
     split at hn
     .rename_i hl
      simp only [tza] at hn
      subst hn
      obtain ⟨_,c,e1⟩:=(g.2 _ _ _ hD).2 hl
      exact ⟨_,_,e1⟩
     .cases hn
    .cases hn
   | _=>simp [zix] at hn
  cases dsc with
  | string=>
   simp only [znj,zbl] at h
   split at h
   .simp only [tza] at h
    subst h
    rw [zet hx]
    exact ⟨_,rfl,zvs _⟩
   .cases h
  | slice e=>
   simp only [znj,zbl] at h
   obtain ⟨n,hn,rfl⟩:=tzf.1 h
   obtain ⟨a,c,rfl⟩:=sl n hn
   exact ⟨_,rfl,zvs _⟩
  | map kt et=>
   simp only [znj,zbl] at h
   split at h
   .rename_i o
    split at h
    .rename_i ks vs hD
     simp only [tza] at h
     subst h
     obtain ⟨es,ck,e1,e2,e3,_⟩:=zb1 hr hD hx
     subst e1
     refine ⟨zka ks.length,?_,zvs _⟩
     simp only [ymi,zms,e2,tz2,e3]
    .cases h
   .cases h
  | _=>simp [znj,zbl] at h
end Go.Dv
namespace Go.Dv
open Go Go.Sim
variable {W:Nat->Prop} {C C' C'':Ctx} {P:Program} {tm:Trie DV} {tmH:Trie Value}
theorem yyz:∀ {els:List DV} {cs:List Value} {l:List UInt8},zue els=some l->cs.length=els.length->(∀ (i:Nat) (d:DV) (v:Value),els[i]? =some d->cs[i]? =some v->DR C d v)->zmt cs=some l
 | [],[],l,h,_,_=>h
 | [],_::_,l,h,hl,_=>by simp at hl
 | _::_,[],l,h,hl,_=>by simp at hl
 | d::els,v::cs,l,h,hl,hr=>by
  unfold zue at h
  split at h
  .rename_i heq;simp at heq
  .rename_i n els' heq
   simp only [tyi] at heq
   obtain ⟨rfl,rfl⟩:=heq
   obtain ⟨l',h1,rfl⟩:=tzf.1 h
   have:=zet (hr 0 _ v rfl rfl)
   subst this
   simp only [zmt,yyz h1 (by simpa using hl) (λi d v a b=>hr (i+1) d v a b)]
  .cases h
theorem yra {els:List DV}:∀ {l:List UInt8},zue els=some l->∀ d∈els,zqv 1 d=true:=by
 induction els with
 | nil=>intro l h d hd;cases hd
 | cons e els ih=>
  intro l h d hd
  unfold zue at h
  split at h
  .rename_i heq;simp at heq
  .rename_i n els' heq
   simp only [tyi] at heq
   obtain ⟨rfl,rfl⟩:=heq
   obtain ⟨l',h1,rfl⟩:=tzf.1 h
   rcases tzu.1 hd with rfl | hd
   .rfl
   .exact ih h1 d hd
  .cases h
theorem Cl.flat {els:List DV} {cs:List Value} (h:Cl C 1 els cs) (h1:∀ d∈els,∀ l,d≠.agg l):cs.length=els.length/\∀ (i:Nat) (d:DV) (v:Value),els[i]? =some d->cs[i]? =some v->DR C d v:=by
 refine ⟨by rw [h.len,Nat.mul_one],λi d v hd hv=>?_⟩
 have hc:zzd d=[d]:=by
  cases d with
  | agg l=>exact absurd rfl (h1 _ (tzg hd) l)
  | _=>rfl
 obtain ⟨w,g1,g2⟩:=h.el i d 0 d hd (by rw [hc];rfl)
 rw [Nat.mul_one,Nat.add_zero,hv] at g1
 simp only [tza] at g1
 rw [g1];exact g2
theorem yvw {els:List DV}:∀ {l:List UInt8},zue els=some l->∀ d∈els,∀ l',d≠.agg l':=by
 induction els with
 | nil=>intro l h d hd;cases hd
 | cons e els ih=>
  intro l h d hd
  unfold zue at h
  split at h
  .rename_i heq;simp at heq
  .rename_i n els' heq
   simp only [tyi] at heq
   obtain ⟨rfl,rfl⟩:=heq
   obtain ⟨l',h1,rfl⟩:=tzf.1 h
   rcases tzu.1 hd with rfl | hd
   .intro l' h;cases h
   .exact ih h1 d hd
  .cases h
theorem zpe {s d:TypeId} {v:Value} (h:zkm v=true) (H H':Hp):zx7 P H s d v=zx7 P H' s d v:=by
 unfold zx7
 cases P.underlying s with
 | none=>rfl
 | some ds=>
  cases P.underlying d with
  | none=>rfl
  | some dd=>
   simp only
   have:zju P H v ds dd=zju P H' v ds dd:=by
    unfold zju
    cases ds<;>cases dd<;>(try rfl)
    cases v<;>(try rfl)
    rename_i a n c
    cases a with
    | none=>cases n<;>cases c<;>rfl
    | some a=>simp [zkm] at h
   rw [this]
theorem ykc (hr:HR C) {s d:TypeId} {x r:DV} {v:Value} (hx:DR C x v) (h:zbq P C.D s d x=some r):∃ v',zx7 P C.H s d v=some v'/\DR C r v':=by
 unfold zbq at h
 split at h
 .rename_i hS
  obtain ⟨l,h1,rfl⟩:=tzf.1 h
  obtain ⟨els,h2,h3⟩:=tzh.1 h1
  have hl:=zg0 hr hx h2
  unfold yvn at hS
  split at hS
  .rename_i e hs
   split at hS
   .rename_i hd
    split at hS
    .rename_i he
     refine ⟨zyx l,?_,zvs _⟩
     unfold zx7
     rw [hs,hd]
     simp only
     have:zju P C.H v (.slice e) .string=some (zyx l):=by
      obtain ⟨cs,g1,g2,g3,_⟩:=hl.cells (sz:=1) (yra h3)
      obtain ⟨g4,g5⟩:=g2.flat (yvw h3)
      have hb:=yyz h3 g4 g5
      rcases hl.ex with ⟨c,rfl,rfl,rfl⟩ | ⟨b,o,cap,sz',cs',rfl,_⟩
      .simp only [zue,tza] at h3
       subst h3
       simp only [tze,zju,he]
      .simp only [zju,he]
       have g1:C.H.readAt ⟨b,o,none⟩ (els.length*1)=some cs:=g1
       rw [Nat.mul_one] at g1
       rw [g1]
       simp only [hb,tz2]
     rw [this];rfl
    .cases hS
   .cases hS
  .cases hS
 .split at h
  .rename_i u
   split at h
   .rename_i hn
    obtain ⟨v',h1,rfl⟩:=tzf.1 h
    rw [zet hx]
    exact ⟨v',by rw [zpe hn C.H xwa];exact h1,zvs _⟩
   .cases h
  .cases h
theorem zg1 {x:List FV} {b o n sz:Nat} {c:List Value} {S:Nat->Prop} {H:Hp} (w:Nat->Nat->Value) (hn:n=x.length) (hb:S b) (hc:H.row b=some c) (hz:0<sz) (ho:o+x.length*sz<=c.length)
  (hs:∀ (i:Nat) (y:FV),x[i]? =some y->(zxj y).length=sz)
  (hw:∀ (i:Nat) (y:FV) (j:Nat) (z:FV),x[i]? =some y->(zxj y)[j]? =some z->c[o+i*sz+j]? =some (w i j)/\oneCell (w i j)=true/\zq2 z=true)
  (hr:∀ (i:Nat) (y:FV) (j:Nat) (z:FV),x[i]? =some y->(zxj y)[j]? =some z->FR S H z (w i j)) {l h cap' o':Nat} (hl:l<=h) (hh:h<=n) (hcap:cap'<U->h-l<=cap') (ho':o'=o+l*sz∨(h=l/\o'=o)):FR S H (.lst ((x.take h).drop l)) (.slice (some ⟨b,o',none⟩) (h-l) cap'):=by
 have hlen:((x.take h).drop l).length=h-l:=by simp;omega
 have hget:∀ i y,((x.take h).drop l)[i]? =some y->x[l+i]? =some y/\l+i<h:=λi y hy=>by
  rw [tyj,tyb] at hy
  split at hy
  .rename_i g;exact ⟨hy,g⟩
  .cases hy
 rcases ho' with rfl | ⟨rfl,rfl⟩
 .refine .lst (λi j=>w (l+i) j) (by rw [hlen]) hb hc hz ?_ hcap (λi y hy=>hs _ y (hget i y hy).1) (λi y j z hy hz'=>?_) (λi y j z hy hz'=>hr _ y j z (hget i y hy).1 hz')
  .rw [hlen,txq,<-txb]
   have:=txn sz (show l+(h-l)<=x.length by omega);omega
  .have:=hw _ y j z (hget i y hy).1 hz'
   rw [txb,<-txq] at this
   exact this
 .refine .lst (λi j=>w (h+i) j) (by rw [hlen]) hb hc hz ?_ hcap (λi y hy=>hs _ y (hget i y hy).1) (λi y j z hy hz'=>?_) (λi y j z hy hz'=>hr _ y j z (hget i y hy).1 hz')
  .rw [hlen,Nat.sub_self,Nat.zero_mul];omega
  .have:=(hget i y hy).2;omega
theorem ze5 {e s len c l h:Nat} {a:Option Addr} {lo hi:Option Value} {H:Hp} (hs:zyn P e=some s) (hl:zx1 0 lo=some l) (hh:zx1 len hi=some h):zq6 P e a len c lo hi none H=zmr s a len c l h H:=by
 unfold zq6
 simp only [hs,hl,hh]
theorem zt5 {s b o len c l h:Nat} {H:Hp} (hl:l<=h) (hh:h<=len∨(c<U/\h<=c)) (hlen:c<U∨h<=len) :
  zmr s (some ⟨b,o,none⟩) len c l h H=some (.slice (some ⟨b,(if l=0 then o else if c<U/\c=l then o else o+l*s),none⟩) (h-l) (if l=0 then c else if c<U then c-l else U+1),H):=by
 unfold zmr
 have hc:(Nat.ble l h&&(Nat.ble h len||(Nat.blt c U&&Nat.ble h c)))=true:=by
  simp only [tzc,Bool.or_eq_true,txw,txl]
  exact ⟨hl,hh⟩
 rw [hc]
 cases l with
 | zero=>simp
 | succ l=>
  simp only [Nat.succ_ne_zero,if_false]
  unfold ywj
  by_cases hcU:c<U
  .rw [show Nat.blt c U=true by simpa using hcU]
   simp only [hcU,true_and,if_true]
   by_cases hcl:c=l+1
   .subst hcl;simp
   .have:Nat.beq c (l+1)=false:=by
     cases hq:Nat.beq c (l+1) with
     | true=>exact absurd (tzo hq) hcl
     | false=>rfl
    rw [this,if_neg hcl,zoa]
  .have hb:Nat.blt c U=false:=by cases hq:Nat.blt c U with | false=>rfl | true=>rw [txl] at hq;omega
   rw [hb]
   simp only [hcU,false_and,if_false,zoa]
   have hcl:zrm c (l+1)=U+1:=by unfold zrm;rw [hb]
   by_cases hll:l+1<len
   .rw [show Nat.blt (l+1) len=true by simpa using hll,hcl]
   .have hb2:Nat.blt (l+1) len=false:=by cases hq:Nat.blt (l+1) len with | false=>rfl | true=>rw [txl] at hq;omega
    have:h=l+1:=by omega
    subst this
    rw [hb2,hcl]
    simp
theorem yrb {t:TypeId} {l h:Nat} {ho:Option Nat} {x d:DV} {v:Value} {lo hi:Option Value} (hx:DR C x v) (hT:zws C.D (tSl P t) l ho x=some d) (hlo:zx1 0 lo=some l) (hhi:∀ n,zx1 n hi=some (ho.getD n)) :
  ∃ v',(P.underlying t).bind (zo4 P C.H v lo hi none)=some (.val v' C.H)/\DR C d v':=by
 cases hS:tSl P t with
 | none=>rw [hS] at hT;unfold zws at hT;split at hT<;>simp at hT
 | some T=>
  rw [hS] at hT
  obtain ⟨h1,h2,h3,_⟩:=zoc hS
  rw [h1]
  simp only [tzn]
  have key:∀ a n c,v=.slice a n c->zo4 P C.H v lo hi none (.slice T.e)=zsc (zmr T.sz a n c l (ho.getD n) C.H):=by
   intro a n c e
   subst e
   simp only [zo4]
   rw [ze5 h3 hlo (hhi n)]
  cases hx with
  | f hf=>
   cases hf with
   | raw u=>
    unfold zws at hT
    split at hT<;>first | (cases hT;done) | skip
    .rename_i heq;simp at heq
    .rename_i heq
     simp only [DV.f.injEq,FV.raw.injEq] at heq
     subst heq
     simp only at hT
     split at hT
     .rename_i hc
      simp only [tza] at hT
      subst hT
      rw [key none 0 0 rfl,hc.1,hc.2]
      exact ⟨_,rfl,zvs _⟩
     .cases hT
    all_goals (rename_i heq;simp at heq)
   | nil=>
    simp only [zws] at hT
    split at hT
    .rename_i hc
     simp only [tza] at hT
     subst hT
     rw [key none 0 0 rfl]
     have hg:ho.getD 0=0:=by have:=hc.2.1;simpa using this
     have hl:l=0:=by have:=hc.1;simp at this;omega
     rw [hg,hl]
     exact ⟨_,rfl,.f (by simpa using FR.nil)⟩
    .cases hT
   | @lst y b o n cap sz c w hn hb hc hz hol hcap hs hw hr=>
    simp only [zws] at hT
    split at hT
    .rename_i hcd
     simp only [tza] at hT
     subst hT
     obtain ⟨c1,c2,c3⟩:=hcd
     rw [<-hn] at c1 c2 ⊢
     rw [key (some ⟨b,o,none⟩) n cap rfl,zt5 c1 (.inl c2) (.inr c2)]
     refine ⟨_,rfl,.f ?_⟩
     by_cases hl0:l=0
     .subst hl0
      exact zg1 w hn hb hc hz hol hs hw hr (tz6 _) c2 (by simp;intro g;have:=hcap g;omega) (.inl (by simp))
     .simp only [hl0,if_false]
      by_cases hy:y=[]
      .subst hy;simp at hn;omega
      .obtain ⟨y0,hy0⟩:=zux (l:=y) (i:=0) (by cases y<;>simp at hy ⊢)
       have hsz:sz=T.sz:=by
        rw [<-hs 0 y0 hy0]
        have:=tzx.1 c3 y0 (tzg hy0)
        exact tzo this
       subst hsz
       refine zg1 w hn hb hc hz hol hs hw hr c1 c2 ?_ ?_
       .split
        .rename_i g;intro _;have:=hcap g;omega
        .intro g;omega
       .split
        .rename_i g
         have:=hcap g.1
         exact .inr ⟨by omega,rfl⟩
        .exact .inl rfl
    .cases hT
  | @row o off len cap _ hol one g=>
   simp only [zws] at hT
   split at hT
   .rename_i sz els hD
    split at hT
    .rename_i hcd
     simp only [tza] at hT
     subst hT
     obtain ⟨c1,c2,c3⟩:=hcd
     obtain ⟨e,g1,g2,g3⟩:=g _ _ hD
     rw [key _ _ _ e,zt5 c2 (.inr ⟨g3,c3⟩) (.inl g3)]
     refine ⟨_,rfl,?_⟩
     have fin:∀ off' len' cap' a,(∀ sz',sz'=sz->a=off'*sz')->off'+cap'<=els.length->len'<=cap'->cap'<U->DR C (.row o off' len' cap') (.slice (some ⟨C.σ o,a,none⟩) len' cap'):=by
      intro off' len' cap' a h1 h2 h3 h4
      refine .row hol rfl (λsz' els' hx'=>?_)
      rw [hD] at hx'
      simp only [tza,DObj.arr.injEq] at hx'
      exact ⟨by rw [h1 sz' hx'.1.symm],by rw [<-hx'.2];exact h2,h3,h4⟩
     by_cases hl0:l=0
     .subst hl0
      simp only [if_true,Nat.sub_zero]
      exact fin _ _ _ _ (λsz' h=>by rw [h]) g1 c3 g3
     .simp only [hl0,if_false]
      by_cases hlc:l=cap
      .subst hlc
       simp only [if_true,g3,and_self,Nat.sub_self]
       have:ho.getD len-l=0:=by omega
       rw [this]
       exact fin _ _ _ _ (λsz' h=>by rw [h]) (by omega) (tzp _) (by omega)
      .simp only [hlc,if_false,g3,if_true,Ne.symm hlc,and_false]
       exact fin _ _ _ _ (λsz' h=>by rw [h,txb,c1]) (by omega) (by omega) (by omega)
    .cases hT
   .cases hT
  | @apl o len _ hol one g=>
   simp only [zws] at hT
   split at hT
   .rename_i e sz els hD
    split at hT
    .rename_i hcd
     simp only [tza] at hT
     subst hT
     obtain ⟨c1,c2,c3,c4,c5⟩:=hcd
     have e1:=(g.2 _ _ _ hD).2 c2
     obtain ⟨m,rfl⟩:∃ m,len=m+1:=⟨len-1,by omega⟩
     rw [key _ _ _ (show v=.slice (some ⟨C.σ o,0,none⟩) (m+1) (U+2*C.σ o) from e1),zt5 c4 (.inl c5) (.inr c5)]
     refine ⟨_,rfl,?_⟩
     have fin:∀ a c,a=l*sz->DR C (.prt o (m+1) l (ho.getD (m+1)-l)) (.slice (some ⟨C.σ o,a,none⟩) (ho.getD (m+1)-l) c):=by
      intro a c h1
      refine .prt hol rfl (by omega) ⟨g.1,λe' sz' els' hx'=>?_⟩
      rw [hD] at hx'
      simp only [tza,DObj.app.injEq] at hx'
      rw [<-hx'.2.2]
      refine ⟨by omega,λ_=>⟨by omega,c,?_⟩⟩
      rw [h1,hx'.2.1]
     by_cases hl0:l=0
     .subst hl0
      simp only [if_true,Nat.sub_zero]
      exact fin _ _ (by simp)
     .simp only [hl0,if_false,show ¬U+2*C.σ o<U by omega,false_and]
      exact fin _ _ (by rw [c1];simp)
    .cases hT
   .cases hT
  | _=>simp [zws] at hT
theorem znm {x:FV} (h:zq2 x=true):zxj x=[x]:=by
 cases x with
 | agg l=>simp [zq2] at h
 | raw v=>rfl
 | lst l=>rfl
theorem zhy {t:TypeId} {l h:Nat} {ho:Option Nat} {x d:DV} {v:Value} {lo hi:Option Value} (hx:DR C x v) (hT:zvp P C.D t l ho x=some d) (hlo:zx1 0 lo=some l) (hhi:∀ n,zx1 n hi=some (ho.getD n)) :
  ∃ v',(P.underlying t).bind (zo4 P C.H v lo hi none)=some (.val v' C.H)/\DR C d v':=by
 by_cases hfp:∃ cs,x=.fp cs
 .obtain ⟨cs,rfl⟩:=hfp
  cases hx with
  | @fp _ b off c w hb hc hw hr=>
  simp only [zvp] at hT
  unfold zgw at hT
  split at hT
  .rename_i m e hA
   split at hT
   .rename_i hcd
    obtain ⟨c1,c2,c3,c5,c4⟩:=hcd
    simp only [tza] at hT
    subst hT
    obtain ⟨a1,a2⟩:=zbz hA
    rw [a1]
    simp only [tzn]
    have hU:m<U:=by
     show m<18446744073709551616
     omega
    have key:zo4 P C.H (.pointer (some ⟨b,off,none⟩)) lo hi none (.array m e)=zsc (zmr 1 (some ⟨b,off,none⟩) m m l (ho.getD m) C.H):=by
     show (match Nat.blt m U with
      | true=>zsc (zq6 P e (some ⟨b,off,none⟩) m m lo hi none C.H)
      | false=>none)=_
     rw [show Nat.blt m U=true by rw [txl];exact hU]
     simp only
     rw [ze5 a2 hlo (hhi m)]
    rw [key,zt5 (by omega) (.inl c2) (.inr c2)]
    refine ⟨_,rfl,.f ?_⟩
    have hone:∀ (i:Nat) (y:FV),cs[i]? =some y->zq2 y=true:=λi y hy=>tzx.1 c4 y (tzg hy)
    have hcl:off+cs.length<=c.length:=by
     obtain ⟨y,hy⟩:=zux (l:=cs) (i:=cs.length-1) (by omega)
     have:=zxc (hw _ y hy).1
     omega
    refine zg1 (n:=cs.length) (sz:=1) (o:=off) (λi _=>w i) rfl hb hc (by omega) (by omega) (λi y hy=>by rw [znm (hone i y hy)];rfl) (λi y j z hy hz=>?_) (λi y j z hy hz=>?_) (by omega) (by omega) (λ_=>?_) ?_
    .rw [znm (hone i y hy)] at hz
     cases j with
     | zero=>
      simp only [txp,tza] at hz
      subst hz
      have:=hw i y hy
      simp only [Nat.mul_one,Nat.add_zero]
      exact ⟨this.1,this.2,hone i y hy⟩
     | succ j=>simp at hz
    .rw [znm (hone i y hy)] at hz
     cases j with
     | zero=>
      simp only [txp,tza] at hz
      subst hz
      exact hr i y hy
     | succ j=>simp at hz
    .split
     .omega
     .first | omega | (rw [if_pos hU];omega)
    .left
     split
     .rename_i g;omega
     .rw [if_neg (by omega)]
   .cases hT
  .cases hT
 .have e:zvp P C.D t l ho x=zws C.D (tSl P t) l ho x:=by
   cases x with
   | fp cs=>exact absurd ⟨cs,rfl⟩ hfp
   | _=>rfl
  rw [e] at hT
  exact yrb (h:=h) hx hT hlo hhi
theorem yrc (ht:TR C tm tmH) {x:Option Operand} {r:Option Value} (h:xx9 tm x=some r):zq0 P tmH x=some r:=by
 cases x with
 | none=>simpa [xx9,zq0] using h
 | some x=>
  simp only [xx9] at h
  obtain ⟨v,h1,rfl⟩:=tzf.1 h
  obtain ⟨d,h2,h3⟩:=tzh.1 h1
  obtain ⟨w,g1,g2⟩:=zzq (P:=P) ht h2
  simp only [zq0,g1,tz2,zhs g2 h3]
theorem yvx (ht:TR C tm tmH) {t:TypeId} {x:Operand} {lo hi mx:Option Operand} {d:DV} (h:zvq P tm C.D t (zzk tm x) lo hi mx=some d):∃ v,zss P tmH C.H t x lo hi mx=some (.val v C.H)/\DR C d v:=by
 cases hx:zzk tm x with
 | none=>rw [hx] at h;simp [zvq] at h
 | some dx=>
  obtain ⟨vx,e1,e2⟩:=zzq (P:=P) ht hx
  rw [hx] at h
  unfold zss
  rw [e1]
  simp only
  unfold zvq at h
  split at h
  .rename_i s heq
   simp only [tza] at heq
   subst heq
   split at h
   .rename_i l hl
    split at h
    .rename_i r hr
     split at h
     .split at h
      .rename_i hu
       obtain ⟨v,h1,rfl⟩:=tzf.1 h
       rw [yrc ht hl,yrc ht hr]
       simp only [zq0]
       rw [hu]
       simp only [tzn,zo4,zet e2,h1]
       exact ⟨v,rfl,zvs v⟩
      .cases h
     .cases h
    .cases h
   .cases h
  .rename_i d0 _ heq
   simp only [tza] at heq
   subst heq
   split at h
   .split at h
    .rename_i l hl
     have hlo:∃ lv,zq0 P tmH lo=some lv/\zx1 0 lv=some l:=by
      cases lo with
      | none=>simp only [bdD,tza] at hl;subst hl;exact ⟨none,rfl,rfl⟩
      | some x=>
       simp only [bdD] at hl
       obtain ⟨d1,h2,h3⟩:=tzh.1 hl
       obtain ⟨w,g1,g2⟩:=zzq (P:=P) ht h2
       obtain ⟨kk,rfl⟩:=zgz g2 h3
       exact ⟨some (.int kk (.ofNat l)),by simp only [zq0,g1,tz2],rfl⟩
     obtain ⟨lv,l1,l2⟩:=hlo
     rw [l1]
     simp only
     split at h
     .simp only [zq0]
      exact zhy (h:=0) e2 h l2 (λn=>rfl)
     .rename_i hx'
      split at h
      .rename_i m hm
       obtain ⟨d1,h2,h3⟩:=tzh.1 hm
       obtain ⟨w,g1,g2⟩:=zzq (P:=P) ht h2
       obtain ⟨kk,rfl⟩:=zgz g2 h3
       simp only [zq0,g1,tz2]
       exact zhy (h:=0) e2 h l2 (λn=>rfl)
      .cases h
    .cases h
   .cases h
  .cases h
theorem zs4:∀ {c:List Value} {o:Nat} {vs:List Value},o+vs.length<=c.length->zyu c o vs=some (c.take o++vs++c.drop (o+vs.length))
 | c,0,[],_=>by simp [zyu]
 | [],0,_::_,h=>by simp at h
 | x::c,0,v::vs,h=>by
  have:=zs4 (c:=c) (o:=0) (vs:=vs) (by simp at h ⊢;omega)
  simp only [zyu,this]
  simp
 | [],o+1,vs,h=>by simp at h
 | x::c,o+1,vs,h=>by
  have:=zs4 (c:=c) (o:=o) (vs:=vs) (by simp at h;omega)
  rw [show o+1+vs.length=(o+vs.length)+1 by omega,List.drop_succ_cons]
  cases vs<;>simp [zyu,this]
theorem zr8 {n:Nat} {d:DV} {v:Value} (h:zqv n d=true) (k:DR C d v):DRs C (zzd d) (cellsOf v)/\(∀ w∈cellsOf v,oneCell w=true)/\(cellsOf v).length=n:=by
 obtain ⟨h1,h2⟩:=zxa h
 have one:∀ d:DV,zut d=true->DR C d v->cellsOf v=[v]:=λd hd hv=>by
  have:=zht hv hd
  cases v<;>first | rfl | (simp [oneCell] at this)
 cases d with
 | agg ds=>
  cases k with
  | @agg _ vs hl hr=>
   refine ⟨⟨hl,hr⟩,λw hw=>?_,by rw [<-h1];exact hl⟩
   obtain ⟨i,hi⟩:=List.getElem?_of_mem hw
   obtain ⟨d,hd⟩:=zux (l:=ds) (i:=i) (by rw [<-hl];exact zxc hi)
   exact zht (hr i d w hd hi) (h2 d (tzg hd))
 | _=>
  simp only [zzd,tzw,forall_eq] at h2
  have e:=one _ h2 k
  rw [e]
  refine ⟨⟨rfl,λi d' v' g1 g2=>?_⟩,λw hw=>?_,h1⟩
  .cases i with
   | zero=>simp [zzd] at g1 g2;subst g1 g2;exact k
   | succ i=>simp [zzd] at g1
  .simp only [tzw] at hw
   subst hw
   exact zht k h2
def PR (C:Ctx) (a:List (Nat×DV)) (b:List (Nat×Value)):Prop:=b.length=a.length/\∀ (i:Nat) (x:Nat×DV) (y:Nat×Value),a[i]? =some x->b[i]? =some y->y.1=x.1/\DR C x.2 y.2
theorem zkq (ht:TR C tm tmH):∀ {l:List (Nat×Operand)} {ps:List (Nat×DV)},zud tm l=some ps->∃ vs,zx6 P tmH l=some vs/\PR C ps vs
 | [],ps,h=>by
  simp only [zud,tza] at h
  subst h
  exact ⟨[],rfl,rfl,λi x y h=>by simp at h⟩
 | (i,x)::l,ps,h=>by
  simp only [zud] at h
  split at h
  .rename_i d hd
   obtain ⟨ps',h1,rfl⟩:=tzf.1 h
   obtain ⟨v,g1,g2⟩:=zzq (P:=P) ht hd
   obtain ⟨vs,g3,g4,g5⟩:=zkq ht h1
   refine ⟨(i,v)::vs,by simp only [zx6,g1,g3],by simp [g4],λk a b h1 h2=>?_⟩
   cases k with
   | zero=>simp at h1 h2;subst h1 h2;exact ⟨rfl,g2⟩
   | succ k=>exact g5 k a b (by simpa using h1) (by simpa using h2)
  .cases h
theorem DRs.putAt {a d:List DV} {as ds:List Value} {o:Nat} (h:DRs C a as) (k:DRs C d ds) (ho:o+d.length<=a.length):DRs C (putAt a o d) (as.take o++ds++as.drop (o+ds.length)):=by
 unfold Dv.putAt
 have h1:DRs C (a.take o) (as.take o):=⟨by simp [h.1],λi d v h1 h2=>by
  rw [tyb] at h1 h2
  split at h1
  .rename_i g;rw [if_pos g] at h2;exact h.2 i d v h1 h2
  .cases h1⟩
 have h2:DRs C (a.drop (o+d.length)) (as.drop (o+ds.length)):=⟨by simp [h.1,k.1],λi d v h1 h2=>by
  rw [tyj] at h1 h2
  rw [k.1] at h2
  exact h.2 _ d v h1 h2⟩
 exact (h1.append k).append h2
theorem yy0 {pl:Nat->Option (Nat×Nat)}:∀ {ps:List (Nat×DV)} {vs:List (Nat×Value)} {cs cs':List DV} {ws:List Value},zkl pl cs ps=some cs'->PR C ps vs->DRs C cs ws->∃ ws',zjr pl ws vs=some ws'/\DRs C cs' ws'
 | [],vs,cs,cs',ws,h,hp,hc=>by
  have:vs=[]:=tzy hp.1
  subst this
  simp only [zkl,tza] at h
  subst h
  exact ⟨ws,rfl,hc⟩
 | (i,d)::ps,[],cs,cs',ws,h,hp,hc=>by have:=hp.1;simp at this
 | (i,d)::ps,(j,v)::vs,cs,cs',ws,h,hp,hc=>by
  obtain ⟨e1,e2⟩:=hp.2 0 _ _ rfl rfl
  simp only at e1 e2
  subst e1
  simp only [zkl] at h
  split at h
  .rename_i o n hpl
   split at h
   .rename_i hk
    obtain ⟨g1,g2,g3⟩:=zr8 hk.1 e2
    have hln:=(zxa hk.1).1
    have hput:=hc.putAt (o:=o) g1 (by rw [hln];exact hk.2)
    obtain ⟨ws',q1,q2⟩:=yy0 h ⟨by have:=hp.1;simp at this;exact this,λk a b h1 h2=>hp.2 (k+1) a b h1 h2⟩ hput
    refine ⟨ws',?_,q2⟩
    simp only [zjr,hpl,g3]
    rw [show Nat.beq n n=true by simp]
    simp only
    rw [zs4 (by rw [g3,hc.1];exact hk.2)]
    exact q1
   .cases h
  .cases h
theorem yrd (ht:TR C tm tmH) {t:TypeId} {ps:Array (Nat×Operand)} {d:DV} (h:zew (tBd P t) (zud tm ps.toList)=some d):∃ v,zsr P tmH C.H t ps=some (.val v C.H)/\DR C d v:=by
 unfold zew at h
 split at h
 .rename_i z pl hB
  split at h
  .rename_i l hl
   obtain ⟨cs,h1,rfl⟩:=tzf.1 h
   obtain ⟨vs,g1,g2⟩:=zkq (P:=P) ht hl
   unfold tBd at hB
   split at hB
   .rename_i zv hz
    split at hB
    .rename_i pl' hpl
     simp only [tza,tzl] at hB
     obtain ⟨rfl,rfl⟩:=hB
     have hzr:DRs C ((cellsOf zv).map rv) (cellsOf zv):=⟨by simp,λi d v h1 h2=>by
      simp only [tzr] at h1
      rw [h2] at h1
      simp only [tz2,tza] at h1
      subst h1
      exact zvs v⟩
     obtain ⟨ws,q1,q2⟩:=yy0 h1 g2 hzr
     refine ⟨.agg ⟨ws⟩,?_,.agg q2.1 q2.2⟩
     unfold zsr
     rw [g1]
     simp only
     unfold ywi
     rw [hz]
     simp only
     obtain ⟨dsc,u1,u2⟩:=tzh.1 hpl
     rw [u1]
     simp only [tzn]
     cases dsc<;>simp only [yen] at u2<;>first | (cases u2;done) | skip
     .obtain ⟨p',p1,rfl⟩:=tzf.1 u2
      simp only [ywh,p1]
      rw [q1];rfl
     .obtain ⟨p',p1,rfl⟩:=tzf.1 u2
      simp only [ywh,p1]
      rw [q1];rfl
    .cases hB
   .cases hB
  .cases h
 .cases h
theorem zof {f:Value->Value->Sem Value} {ds:List DV} {vs:List Value} {d:DV} (hd:DRs C ds vs) (h:zpc P f ds=some d):∃ v x l,vs=x::l/\zrr P f x l=some v/\DR C d v:=by
 unfold zpc at h
 split at h
 .rename_i x l hl
  obtain ⟨v,h1,rfl⟩:=tzf.1 h
  exact ⟨v,x,l,zbx hl hd.1 hd.2,h1,zvs v⟩
 .cases h
end Go.Dv
namespace Go.Dv
open Go Go.Sim
variable {W:Nat->Prop} {C C' C'':Ctx} {P:Program} {tm:Trie DV} {tmH:Trie Value}
theorem Cl.single {n:Nat} {d:DV} {v:Value} (h:zqv n d=true) (k:DR C d v):Cl C n [d] (cellsOf v):=by
 obtain ⟨g1,g2,g3⟩:=zr8 h k
 refine ⟨by simp [g3],λi x hx=>?_,λi x j y hx hy=>?_,g2⟩
 .cases i with
  | zero=>simp at hx;subst hx;exact h
  | succ i=>simp at hx
 .cases i with
  | zero=>
   simp at hx;subst hx
   obtain ⟨w,hw⟩:=zux (l:=cellsOf v) (i:=j) (by rw [g1.1];exact zxc hy)
   exact ⟨w,by rw [Nat.zero_mul,txj];exact hw,g1.2 j y w hy hw⟩
  | succ i=>simp at hx
theorem Cl.nil {sz:Nat}:Cl C sz [] []:=⟨by simp,λi d h=>by simp at h,λi d j x h=>by simp at h,λv h=>by cases h⟩
theorem Cl.append {sz:Nat} {a b:List DV} {as bs:List Value} (h:Cl C sz a as) (k:Cl C sz b bs):Cl C sz (a++b) (as++bs):=by
 refine ⟨by rw [tz5,tz5,h.len,k.len,txb],λi d hd=>?_,λi d j x hd hx=>?_,λv hv=>?_⟩
 .rcases tz9 i a.length with g | g
  .rw [tzs g] at hd;exact h.ok i d hd
  .rw [tzv g] at hd;exact k.ok _ d hd
 .rcases tz9 i a.length with g | g
  .rw [tzs g] at hd
   obtain ⟨w,h1,h2⟩:=h.el i d j x hd hx
   exact ⟨w,by rw [tzs (zxc h1)];exact h1,h2⟩
  .rw [tzv g] at hd
   obtain ⟨w,h1,h2⟩:=k.el _ d j x hd hx
   refine ⟨w,?_,h2⟩
   have e:i*sz+j=as.length+((i-a.length)*sz+j):=by
    rw [h.len,<-txq,<-txb];congr 2;omega
   rw [e,tzv (by omega),Nat.add_sub_cancel_left]
   exact h1
 .rcases tyh.1 hv with hv | hv
  .exact h.one v hv
  .exact k.one v hv
theorem Cl.take {sz:Nat} {a:List DV} {as:List Value} (h:Cl C sz a as) (n:Nat) (hn:n<=a.length):Cl C sz (a.take n) (as.take (n*sz)):=by
 have hlt:∀ {i j:Nat},i<n->j<sz->i*sz+j<n*sz:=λ{i j} hi hj=>by
  have:=txn sz (show i+1<=n from hi)
  rw [txb] at this;omega
 refine ⟨?_,λi d hd=>?_,λi d j x hd hx=>?_,λv hv=>h.one v (ty3 hv)⟩
 .rw [tyw,tyw,h.len,Nat.min_eq_left hn,Nat.min_eq_left (txn _ hn)]
 .rw [tyb] at hd
  split at hd
  .exact h.ok i d hd
  .cases hd
 .rw [tyb] at hd
  split at hd
  .rename_i hi
   obtain ⟨w,h1,h2⟩:=h.el i d j x hd hx
   have hj:j<sz:=by rw [<-(zxa (h.ok i d hd)).1];exact zxc hx
   exact ⟨w,by rw [tyb,if_pos (hlt hi hj)];exact h1,h2⟩
  .cases hd
theorem Cl.drop {sz:Nat} {a:List DV} {as:List Value} (h:Cl C sz a as) (n:Nat):Cl C sz (a.drop n) (as.drop (n*sz)):=by
 refine ⟨?_,λi d hd=>?_,λi d j x hd hx=>?_,λv hv=>h.one v (List.mem_of_mem_drop hv)⟩
 .rw [tyx,tyx,h.len,<-Nat.sub_mul]
 .rw [tyj] at hd;exact h.ok _ d hd
 .rw [tyj] at hd
  obtain ⟨w,h1,h2⟩:=h.el _ d j x hd hx
  refine ⟨w,?_,h2⟩
  rw [tyj,<-txq,<-txb]
  exact h1
theorem Cl.putAt {sz o:Nat} {a b:List DV} {as bs:List Value} (h:Cl C sz a as) (k:Cl C sz b bs) (ho:o+b.length<=a.length):zyu as (o*sz) bs=some (as.take (o*sz)++bs++as.drop ((o+b.length)*sz))/\Cl C sz (Dv.putAt a o b) (as.take (o*sz)++bs++as.drop ((o+b.length)*sz)):=by
 refine ⟨?_,((h.take o (by omega)).append k).append (h.drop _)⟩
 have e:o*sz+bs.length=(o+b.length)*sz:=by rw [k.len,txb]
 rw [zs4 (by rw [e,h.len];exact txn _ ho),e]
theorem Cl.set {sz i k:Nat} {els:List DV} {cs:List Value} {x d d':DV} {vs:List Value} (h:Cl C sz els cs) (hx:els[i]? =some x) (hd:DRs C (zzd d) vs) (h1:(zzd d).all zut=true) (hk:k+(zzd d).length<=sz)
  (hd':d'=if (zzd d).length=sz then d else .agg (Dv.putAt (zzd x) k (zzd d))) (hv:∀ v∈vs,oneCell v=true) :
  zyu cs (i*sz+k) vs=some (cs.take (i*sz+k)++vs++cs.drop (i*sz+k+vs.length))/\Cl C sz (els.set i d') (cs.take (i*sz+k)++vs++cs.drop (i*sz+k+vs.length)):=by
 have hil:=zxc hx
 have hfit:i*sz+k+vs.length<=cs.length:=by
  rw [hd.1,h.len]
  have:=txn sz (show i+1<=els.length from hil)
  rw [txb] at this;omega
 obtain ⟨x1,x2⟩:=zxa (h.ok i x hx)
 have hcell:(zzd d').length=sz/\(∀ y∈zzd d',zut y=true)/\∀ j y,(zzd d')[j]? =some y->(k<=j/\j<k+(zzd d).length/\(zzd d)[j-k]? =some y)∨(¬(k<=j/\j<k+(zzd d).length)/\(zzd x)[j]? =some y):=by
  subst hd'
  split
  .rename_i hsz
   refine ⟨hsz,tzx.1 h1,λj y hy=>.inl ⟨by omega,?_,?_⟩⟩
   .have:=zxc hy;omega
   .have:k=0:=by omega
    subst this;exact hy
  .rename_i hsz
   show (Dv.putAt (zzd x) k (zzd d)).length=sz/\(∀ y∈Dv.putAt (zzd x) k (zzd d),zut y=true)/\∀ j y,(Dv.putAt (zzd x) k (zzd d))[j]? =some y->_
   refine ⟨by simp only [Dv.putAt,tz5,tyw,tyx];omega,λy hy=>?_,λj y hy=>?_⟩
   .unfold Dv.putAt at hy
    rcases tyh.1 hy with hy | hy
    .rcases tyh.1 hy with hy | hy
     .exact x2 y (ty3 hy)
     .exact tzx.1 h1 y hy
    .exact x2 y (List.mem_of_mem_drop hy)
   .have hkl:((zzd x).take k).length=k:=by simp;omega
    unfold Dv.putAt at hy
    rw [tyd] at hy
    rcases tz9 j k with g | g
    .rw [tzs (by omega),tyb,if_pos g] at hy
     exact .inr ⟨by omega,hy⟩
    .rw [tzv (by omega),hkl] at hy
     rcases tz9 (j-k) (zzd d).length with g' | g'
     .rw [tzs g'] at hy
      exact .inl ⟨g,by omega,hy⟩
     .rw [tzv g',tyj,show k+(zzd d).length+(j-k-(zzd d).length)=j by omega] at hy
      exact .inr ⟨by omega,hy⟩
 have hget:∀ p,(cs.take (i*sz+k)++vs++cs.drop (i*sz+k+vs.length))[p]? =if i*sz+k<=p/\p<i*sz+k+vs.length then vs[p-(i*sz+k)]? else cs[p]?:=by
  intro p
  have hl1:(cs.take (i*sz+k)).length=i*sz+k:=by simp;omega
  rw [tyd]
  rcases tz9 p (i*sz+k) with g | g
  .rw [tzs (by omega),tyb,if_pos g,if_neg (by omega)]
  .rw [tzv (by omega),hl1]
   rcases tz9 (p-(i*sz+k)) vs.length with g' | g'
   .rw [tzs g',if_pos ⟨g,by omega⟩]
   .rw [tzv g',tyj,if_neg (by omega)]
    congr 1;omega
 refine ⟨zs4 hfit,⟨?_,λp q hq=>?_,λp q j y hq hy=>?_,λv hvv=>?_⟩⟩
 .have:=h.len;simp;omega
 .rw [tya] at hq
  split at hq
  .simp only [tza] at hq
   subst hq
   rw [zod]
   exact ⟨hcell.1,tzx.2 hcell.2.1⟩
  .exact h.ok p q hq
 .rw [hget]
  rw [tya] at hq
  split at hq
  .rename_i hip
   simp only [tza] at hq
   subst hq hip
   rcases hcell.2.2 j y hy with ⟨a1,a2,a3⟩ | ⟨a1,a2⟩
   .obtain ⟨w,hw⟩:=zux (l:=vs) (i:=j-k) (by rw [hd.1];exact zxc a3)
    refine ⟨w,?_,hd.2 _ y w a3 hw⟩
    rw [if_pos ⟨by omega,by rw [hd.1];omega⟩,show i*sz+j-(i*sz+k)=j-k by omega]
    exact hw
   .obtain ⟨w,g1,g2⟩:=h.el i x j y hx a2
    exact ⟨w,by rw [if_neg (by rw [hd.1];omega)];exact g1,g2⟩
  .rename_i hip
   obtain ⟨w,g1,g2⟩:=h.el p q j y hq hy
   have hj:j<sz:=by rw [<-(zxa (h.ok p q hq)).1];exact zxc hy
   refine ⟨w,?_,g2⟩
   rw [if_neg]
   .exact g1
   .rw [hd.1]
    intro ⟨b1,b2⟩
    rcases Nat.lt_or_gt_of_ne hip with g | g
    .have:=txn sz (show i+1<=p from g)
     rw [txb] at this;omega
    .have:=txn sz (show p+1<=i from g)
     rw [txb] at this;omega
 .rcases tyh.1 hvv with hvv | hvv
  .rcases tyh.1 hvv with hvv | hvv
   .exact h.one v (ty3 hvv)
   .exact hv v hvv
  .exact h.one v (List.mem_of_mem_drop hvv)
structure Made (base:Nat) (Wo:Nat->Prop) (C:Ctx) (d:DV) (D':DH) (r:Option ARes):Prop where
 ex:∃ C' v,r=some (.val v C'.H)/\C'.D=D'/\HR C'/\Nx (λo=>base<=o/\Wo o) C C'/\DR C' d v
theorem Made.same {base:Nat} {Wo:Nat->Prop} (hr:HR C) {d:DV} {v:Value} (h:DR C d v):Made base Wo C d C.D (some (.val v C.H)):=⟨C,v,rfl,rfl,hr,Nx.refl hr,h⟩
theorem yre (hr:HR C) {e sz:Nat} {els:List DV} {cs:List Value} (hc:Cl C sz els cs) (base:Nat) (Wo:Nat->Prop):∃ C',C'.H=C.H.new (.cells cs e none)/\C'.D=C.D++[.arr sz els]/\HR C'/\Nx (λo=>base<=o/\Wo o) C C'/\C'.σ C.D.length=C.H.n:=by
 obtain ⟨C',a1,a2,a3,a4,a5,a6⟩:=hr.new (B:=.cells cs e none) (x:=.arr sz els) (λc e k h=>by simp at h) (λe sz els h=>by simp at h) (λC' nx hg=>⟨cs,e,hg,hc.mono nx hr⟩)
 exact ⟨C',a1,a2,a4,a5.weak (λ_ h=>h.elim),a6⟩
theorem ycb {C':Ctx} {x:DObj} {D:DH} {n:Nat} (h:C'.D=D++[x]) (hs:C'.σ D.length=n):DR C' (.ref D.length 0 0) (.pointer (some ⟨n,0,none⟩)):=
 .ref (by rw [h];simp) rfl (λsz els _=>by rw [hs,Nat.zero_mul])
theorem yrf (hr:HR C) {e base:Nat} {Wo:Nat->Prop} {d d':DV} {v:Value} {D':DH} (hd:DR C d v) (h:yem C.D (some d)=some (.val d' D')):Made base Wo C d' D' (some (yfc C.H e v)):=by
 simp only [yem] at h
 split at h
 .rename_i hok
  simp only [tza,DRes.val.injEq] at h
  obtain ⟨rfl,rfl⟩:=h
  obtain ⟨C',a1,a2,a3,a4,a5⟩:=yre hr (e:=e) (Cl.single hok hd) base Wo
  exact ⟨C',_,by rw [a1];rfl,a2,a3,a4,ycb a2 a5⟩
 .cases h
theorem yrg (hr:HR C) {e base:Nat} {Wo:Nat->Prop} {d':DV} {D':DH} (h:zkj P C.D e=some (.val d' D')):Made base Wo C d' D' (zge P C.H e):=by
 unfold zkj at h
 unfold zge
 split at h
 .rename_i z hz
  rw [hz]
  exact yrf hr (zob z) h
 .cases h
theorem yrh {sz:Nat} {z:DV} {zv:Value} (hok:zqv sz z=true) (hz:DR C z zv):∀ n,Cl C sz (List.replicate n z) (rep (cellsOf zv) n)
 | 0=>Cl.nil
 | n+1=>by
  have:=(Cl.single hok hz).append (yrh hok hz n)
  simpa [List.replicate_succ,rep] using this
theorem yy1 {e n:Nat} {T:SlT} {t:TypeId} (hT:tSl P t=some T) (hz:0<T.sz):∃ cs,zgd P T.e n=some cs/\Cl C T.sz (List.replicate n T.z) cs:=by
 obtain ⟨h1,h2,h3,h4,⟨z,h5,h6⟩,h7,h8⟩:=zoc hT
 have hzz:DR C T.z z:=by rw [h6];exact zob z
 unfold zgd
 rw [h3]
 simp only
 cases n with
 | zero=>exact ⟨[],by simp,Cl.nil⟩
 | succ n=>
  have:Nat.beq ((n+1)*T.sz) 0=false:=by
   cases hq:Nat.beq ((n+1)*T.sz) 0 with
   | false=>rfl
   | true=>
    have e1:=tzo hq
    have e2:=Nat.mul_pos (Nat.succ_pos n) hz
    exact absurd e1 (Nat.ne_of_gt e2)
  rw [this,h5]
  simp only
  rw [(zr8 h7 hzz).2.2]
  rw [show Nat.beq T.sz T.sz=true by simp]
  exact ⟨_,rfl,yrh h7 hzz _⟩
theorem yri {C':Ctx} {sz n m k:Nat} {els:List DV} {D:DH} (h:C'.D=D++[.arr sz els]) (hs:C'.σ D.length=k) (hn:n<=m) (hm:m=els.length) (hU:m<U):DR C' (.row D.length 0 n m) (.slice (some ⟨k,0,none⟩) n m):=
 .row (by rw [h];simp) rfl (λsz' els' hx=>by
  rw [h,zyi] at hx
  simp only [tza,DObj.arr.injEq] at hx
  refine ⟨by rw [hs,Nat.zero_mul],by rw [<-hx.2];omega,hn,hU⟩)
theorem ykd (hr:HR C) (ht:TR C tm tmH) {t:TypeId} {l c:Operand} {base:Nat} {Wo:Nat->Prop} {d':DV} {D':DH} (h:zez C.D (tSl P t) (zzk tm l) (zzk tm c)=some (.val d' D')):Made base Wo C d' D' (zxe P tmH C.H t l c):=by
 unfold zez at h
 split at h
 .rename_i T hT
  split at h
  .rename_i n hn
   split at h
   .rename_i m hm
    obtain ⟨dn,n1,n2⟩:=tzh.1 hn
    obtain ⟨dm,m1,m2⟩:=tzh.1 hm
    obtain ⟨vn,n3,n4⟩:=zzq (P:=P) ht n1
    obtain ⟨vm,m3,m4⟩:=zzq (P:=P) ht m1
    rw [ze3 n4 n2] at n3
    rw [ze3 m4 m2] at m3
    obtain ⟨h1,h2,h3,h4,_⟩:=zoc hT
    unfold zr4 at h
    split at h
    .rename_i hc
     simp only [tza,DRes.val.injEq] at h
     obtain ⟨rfl,rfl⟩:=h
     obtain ⟨cs,z1,z2⟩:=yy1 (C:=C) (e:=0) (n:=m) hT hc.2.2.2
     obtain ⟨C',a1,a2,a3,a4,a5⟩:=yre hr (e:=T.e) z2 base Wo
     refine ⟨C',.slice (some ⟨C.H.n,0,none⟩) n m,?_,a2,a3,a4,yri a2 a5 hc.1 (by simp) (by have:=hc.2.2.1;unfold U;omega)⟩
     unfold zxe
     simp only [h2,n3,m3,tzn,xt0,h4]
     have:(Nat.ble n m&&Nat.ble (m*T.by_) 140737488355328&&Nat.blt m 9223372036854775808)=true:=by
      simp only [tzc,txw,txl]
      exact ⟨⟨hc.1,hc.2.1⟩,hc.2.2.1⟩
     rw [this]
     simp only [z1,tz2,xtz,a1]
    .cases h
   .cases h
  .cases h
 .cases h
theorem ze6 {sz:Nat} (hz:0<sz):∀ {ps:List (Nat×DV)} {vs:List (Nat×Value)} {els els':List DV} {cs:List Value},zp6 sz els ps=some els'->PR C ps vs->Cl C sz els cs->∃ cs',zjr (λi=>some (i*sz,sz)) cs vs=some cs'/\Cl C sz els' cs'/\els'.length=els.length
 | [],vs,els,els',cs,h,hp,hc=>by
  have:vs=[]:=tzy hp.1
  subst this
  simp only [zp6,tza] at h
  subst h
  exact ⟨cs,rfl,hc,rfl⟩
 | (i,d)::ps,[],els,els',cs,h,hp,hc=>by have:=hp.1;simp at this
 | (i,d)::ps,(j,v)::vs,els,els',cs,h,hp,hc=>by
  obtain ⟨e1,e2⟩:=hp.2 0 _ _ rfl rfl
  simp only at e1 e2
  subst e1
  simp only [zp6] at h
  split at h
  .rename_i hk
   obtain ⟨x,hx⟩:=zux hk.1
   obtain ⟨g1,g2,g3⟩:=zr8 hk.2 e2
   obtain ⟨l1,l2⟩:=zxa hk.2
   obtain ⟨s1,s2⟩:=hc.set (k:=0) (d':=d) hx g1 (tzx.2 l2) (by omega) (by rw [if_pos l1]) g2
   obtain ⟨cs',q1,q2,q3⟩:=ze6 hz h ⟨by have:=hp.1;simp at this;exact this,λk a b h1 h2=>hp.2 (k+1) a b h1 h2⟩ s2
   refine ⟨cs',?_,q2,by rw [q3];simp⟩
   simp only [zjr,g3]
   rw [show Nat.beq sz sz=true by simp]
   simp only
   rw [Nat.add_zero] at s1 q1
   rw [s1]
   exact q1
  .cases h
theorem ziz (hr:HR C) (ht:TR C tm tmH) {t:TypeId} {T:SlT} {len base:Nat} {ps:Array (Nat×Operand)} {Wo:Nat->Prop} {d':DV} {D':DH} (hT:tSl P t=some T) (h:zx2 C.D T len (zud tm ps.toList)=some (.val d' D')) :
  Made base Wo C d' D' (zy0 P tmH C.H t len ps):=by
 unfold zx2 at h
 split at h
 .rename_i l hl
  split at h
  .rename_i hc
   obtain ⟨els,e1,e2⟩:=tzf.1 h
   simp only [DRes.val.injEq] at e2
   obtain ⟨rfl,rfl⟩:=e2
   obtain ⟨vs,g1,g2⟩:=zkq (P:=P) ht hl
   obtain ⟨h1,h2,h3,_⟩:=zoc hT
   obtain ⟨cs,z1,z2⟩:=yy1 (C:=C) (e:=0) (n:=len) hT hc.2.2
   obtain ⟨cs',q1,q2,q3⟩:=ze6 hc.2.2 e1 g2 z2
   obtain ⟨C',a1,a2,a3,a4,a5⟩:=yre hr (e:=T.e) q2 base Wo
   refine ⟨C',.slice (some ⟨C.H.n,0,none⟩) len len,?_,a2,a3,a4,yri a2 a5 (tzp _) (by rw [q3];simp) (by have:=hc.2.1;unfold U;omega)⟩
   unfold zy0
   simp only [h2,g1,h3]
   have:(Nat.ble (len*T.sz) 16777216&&Nat.ble len 16777216)=true:=by
    simp only [tzc,txw]
    exact ⟨hc.1,hc.2.1⟩
   rw [this]
   simp only [z1,q1,tz2,xtz,a1]
  .cases h
 .cases h
theorem ycc (hr:HR C) {base:Nat} {Wo:Nat->Prop}:Made base Wo C (.mp C.D.length) (C.D++[.map [] []]) (some (ywp C.H)):=by
 obtain ⟨C',a1,a2,a3,a4,a5,a6⟩:=hr.new (B:=.map [] 0) (x:=.map [] []) (λc e k h=>by simp at h) (λe sz els h=>by simp at h) (λC' nx hg=>⟨[],0,hg,rfl,rfl,λi e k h=>by simp at h,λi e k h=>by simp at h⟩)
 exact ⟨C',.map (some C.H.n),by rw [a1];rfl,a2,a4,a5.weak (λ_ h=>h.elim),.mp (by rw [a2];simp) rfl (λks vs hx=>by rw [a6])⟩
end Go.Dv
namespace Go.Dv
open Go Go.Sim
variable {W:Nat->Prop} {C C' C'':Ctx} {P:Program} {tm:Trie DV} {tmH:Trie Value}
theorem _root_.Go.Sim.Wf.putD {H:Hp} (w:Wf H) {i:Nat} {B:Blk} (hi:i<H.n) (hB:∀ c e k,B=.cells c e (some k)->k<H.n):Wf (H.put i B):=by
 refine ⟨λj B' h=>?_,λj c e k h=>?_⟩
 .rw [Hp.get_put] at h
  simp only [Hp.n_put]
  split at h
  .omega
  .exact w.dom j B' h
 .rw [Hp.get_put] at h
  simp only [Hp.n_put]
  split at h
  .simp only [tza] at h;exact hB c e k h
  .exact w.cls j c e k h
theorem yrj {H:Hp} {b p:Nat} {cs vs cs':List Value} {e:TypeId} (hg:H.get b=some (.cells cs e none)) (h1:∀ v∈vs,oneCell v=true) (hs:zyu cs p vs=some cs'):H.write b p vs=some (H.put b (.cells cs' e none)):=by
 unfold Hp.write
 rw [tzx.2 h1,hg]
 simp only [tzn,Hp.writeIn,hs]
theorem yrk {H:Hp} {b p k:Nat} {r:List Nat} {cs vs cs':List Value} {e:TypeId} (hg:H.get b=some (.cells cs e (some k))) (hk:H.stk k=b::r) (h1:∀ v∈vs,oneCell v=true) (hs:zyu cs p vs=some cs') :
  H.write b p vs=some (H.put1 b (.cells cs' e (some k)) k):=by
 unfold Hp.write
 rw [tzx.2 h1,hg]
 simp only [tzn,Hp.writeIn,hk,zf8]
 rw [show Nat.beq b b=true by simp]
 simp only [hs]
theorem zb2 (hr:HR C) {o sz p:Nat} {els els':List DV} {vs:List Value} (hD:C.D[o]? =some (.arr sz els)) (hl:els'.length=els.length) (h1:∀ v∈vs,oneCell v=true)
  (hs:∀ cs,Cl C sz els cs->∃ cs',zyu cs p vs=some cs'/\Cl C sz els' cs') :
  ∃ C',C.H.write (C.σ o) p vs=some C'.H/\C'.D=C.D.set o (.arr sz els')/\HR C'/\Nx (λq=>q=o) C C'/\C'.σ=C.σ:=by
 obtain ⟨cs,e,g1,g2⟩:=hr.ob o _ hD
 obtain ⟨cs',q1,q2⟩:=hs cs g2
 obtain ⟨C',a1,a2,a3,a4,a5,a6⟩:=hr.put (x':=.arr sz els') (B:=.cells cs' e none) hD (λe s l h=>by simp at h) (λe s l h=>by simp at h) ⟨rfl,hl,rfl⟩ (λc e k h=>by simp at h) (λC' nx hg hσ=>⟨cs',e,hg,q2.mono nx hr⟩)
 exact ⟨C',by rw [a1];exact yrj g1 h1 q1,a2,a4,a5,a6⟩
theorem zb3 (hr:HR C) {o e sz p:Nat} {els els':List DV} {vs:List Value} (hD:C.D[o]? =some (.app e sz els)) (hne:els≠[]) (hl:els'.length=els.length) (h1:∀ v∈vs,oneCell v=true)
  (hs:∀ cs,Cl C sz els cs->∃ cs',zyu cs p vs=some cs'/\Cl C sz els' cs') :
  ∃ C',C.H.write (C.σ o) p vs=some C'.H/\C'.D=C.D.set o (.app e sz els')/\HR C'/\Nx (λq=>q=o) C C'/\C'.σ=C.σ:=by
 obtain ⟨cs,k,r,g1,g2,g3⟩:=hr.ob o _ hD hne
 obtain ⟨cs',q1,q2⟩:=hs cs g3
 obtain ⟨C',a1,a2,a3,a4,a5,a6⟩:=hr.put1 (cs':=cs') hD hne hl g1 (λC' nx=>q2.mono nx hr)
 exact ⟨C',by rw [a1];exact yrk g1 g2 h1 q1,a2,a4,a5,a6⟩
theorem yvy {d:DV} {v:Value} (h1:(zzd d).all zut=true) (k:DR C d v):DRs C (zzd d) (cellsOf v)/\(∀ w∈cellsOf v,oneCell w=true)/\(cellsOf v).length=(zzd d).length:=by
 have:=zr8 (n:=(zzd d).length) (by rw [zod];exact ⟨rfl,h1⟩) k
 exact this
theorem zg2 {sz i k:Nat} {els els':List DV} {d:DV} {v:Value} {cs:List Value} (hc:Cl C sz els cs) (hd:DR C d v) (h:ysq sz els i k d=some els') :
  els'.length=els.length/\(∀ w∈cellsOf v,oneCell w=true)/\(cellsOf v).length=(zzd d).length/\∃ cs',zyu cs (i*sz+k) (cellsOf v)=some cs'/\Cl C sz els' cs':=by
 unfold ysq at h
 split at h
 .rename_i x hx
  split at h
  .rename_i hk
   simp only [tza] at h
   subst h
   obtain ⟨g1,g2,g3⟩:=yvy hk.1 hd
   obtain ⟨s1,s2⟩:=hc.set hx g1 hk.1 hk.2 rfl g2
   exact ⟨by simp,g2,g3,_,s1,s2⟩
  .cases h
 .cases h
theorem yvz (hr:HR C) (ht:TR C tm tmH) {t:TypeId} {a x:Operand} {base:Nat} {d':DV} {D':DH} (h:zpd C.D base (zyn P t) (zzk tm a) (zzk tm x)=some (.val d' D')) :
  Made base (λo=>zyl (zzk tm a)=some o) C d' D' (zq8 P tmH C.H t a x):=by
 unfold zpd at h
 split at h
 .rename_i n hn
  split at h
  .rename_i pa hpa
   split at h
   .rename_i d hd
    obtain ⟨vp,p1,p2⟩:=zzq (P:=P) ht hpa
    obtain ⟨v,v1,v2⟩:=zzq (P:=P) ht hd
    have fin:∀ b off (C':Ctx),vp=.pointer (some ⟨b,off,none⟩)->(cellsOf v).length=n->C.H.write b off (cellsOf v)=some C'.H->zq8 P tmH C.H t a x=some (.val undef C'.H):=by
     intro b off C' e1 e2 e3
     subst e1
     unfold zq8
     rw [p1,v1]
     simp only [tzn,zmu]
     unfold ywg
     rw [hn]
     simp only [e2]
     rw [show Nat.beq n n=true by simp]
     simp only [e3]
     rfl
    unfold zkk at h
    split at h
    .rename_i o i k
     split at h
     .rename_i sz els hD
      split at h
      .rename_i hc
       cases hst:ysq sz els i k d with
       | none=>rw [hst] at h;simp [hpD] at h
       | some els'=>
        rw [hst] at h
        simp only [tz2,hpD,tza,DRes.val.injEq] at h
        obtain ⟨rfl,rfl⟩:=h
        obtain ⟨cs0,e0,g0,hcl0⟩:=hr.ob o _ hD
        obtain ⟨s1,s2,s3,_⟩:=zg2 hcl0 v2 hst
        obtain ⟨C',a1,a2,a3,a4,a5⟩:=zb2 hr (p:=i*sz+k) (vs:=cellsOf v) hD s1 s2 (λcs hcl=>(zg2 hcl v2 hst).2.2.2)
        cases p2 with
        | ref ho one g=>exact ⟨C',undef,fin _ _ C' (g _ _ hD) (by rw [s3];exact hc.2) a1,a2,a3,a4.weak (λq hq=>by subst hq;exact ⟨hc.1,by rw [hpa];rfl⟩),zvs _⟩
      .simp [hpD] at h
     .simp [hpD] at h
    .rename_i o m i k
     split at h
     .rename_i e sz els hD
      split at h
      .rename_i hc
       cases hst:ysq sz els i k d with
       | none=>rw [hst] at h;simp [hpD] at h
       | some els'=>
        rw [hst] at h
        simp only [tz2,hpD,tza,DRes.val.injEq] at h
        obtain ⟨rfl,rfl⟩:=h
        cases p2 with
        | rfa ho one hm g=>
         have hne:els≠[]:=λq=>by subst q;have:=hc.2.2;simp at this;omega
         obtain ⟨cs0,k0,r0,g0,g1,hcl0⟩:=hr.ob o _ hD hne
         obtain ⟨s1,s2,s3,_⟩:=zg2 hcl0 v2 hst
         obtain ⟨C',a1,a2,a3,a4,a5⟩:=zb3 hr (p:=i*sz+k) (vs:=cellsOf v) hD hne s1 s2 (λcs hcl=>(zg2 hcl v2 hst).2.2.2)
         exact ⟨C',undef,fin _ _ C' ((g.2 _ _ _ hD).2 hc.2.2) (by rw [s3];exact hc.2.1) a1,a2,a3,a4.weak (λq hq=>by subst hq;exact ⟨hc.1,by rw [hpa];rfl⟩),zvs _⟩
      .simp [hpD] at h
     .simp [hpD] at h
    .simp [hpD] at h
   .cases h
  .cases h
 .cases h
theorem ze7:∀ (l:List Value),yl4 l l.length=some (l,true)
 | []=>rfl
 | v::l=>by simp only [tzd,yl4,ze7 l]
theorem yrl {t:TypeId} {T:SlT} (hT:tSl P t=some T):ywk P T.e T.sz=true:=by
 obtain ⟨h1,h2,h3,h4,⟨z,h5,h6⟩,h7,h8⟩:=zoc hT
 unfold ywk
 rw [h5]
 have hz:DR ⟨λ_=>0,λ_=>False,xwa,[]⟩ T.z z:=by rw [h6];exact zob z
 simp only [(zr8 h7 hz).2.2]
 simp
def apK (H:Hp) (T:SlT) (base:Option Addr) (len c:Nat) (new:List Value):Nat->Option (Value×Hp)
 | 0=>some (.slice base len c,H)
 | m+1=>match base with
  | some a=>zti H T.e T.sz a len c (len+(m+1)) new
  | none=>match Nat.beq len 0&&Nat.beq c 0 with
   | true=>some (zi8 H (m+1),Hp.newIn H new T.e H.n [H.n])
   | false=>none
theorem ztn {t:TypeId} {T:SlT} {H:Hp} {base:Option Addr} {len c n:Nat} {x:Value} {new:List Value} (hT:tSl P t=some T) (hn:xyf x=some n) (hf:zq7 H T.sz n x=some new) (hl:new.length=n*T.sz) (h1:∀ v∈new,oneCell v=true) (hb:bnd (len+n) T.by_) :
  zrn P H t (.slice base len c) x=apK H T base len c new n:=by
 obtain ⟨g1,g2,g3,g4,_,_,g8⟩:=zoc hT
 unfold zrn
 simp only [g2,g3,g4,xsz,hn,hf,tz2]
 unfold zjs
 have:(Nat.beq new.length (n*T.sz)&&Nat.ble ((len+n)*T.by_) 1099511627776&&Nat.ble T.by_ 65536&&Nat.ble (len+n) 1099511627776&&new.all oneCell)=true:=by
  simp only [tzc,txw,tzx]
  exact ⟨⟨⟨⟨by rw [hl];simp,hb.1⟩,g8⟩,hb.2⟩,h1⟩
 rw [this]
 cases n with
 | zero=>rfl
 | succ m=>
  simp only [yrl hT]
  cases base<;>rfl
theorem zr9 {α:Type} {l:List α} {i:Nat} {x:α} (h:l[i]? =some x):l.set i x=l:=by
 refine ty8 (λj=>?_)
 rw [tya]
 by_cases e:i=j
 .subst e;rw [if_pos rfl,if_pos (zxc h),h]
 .rw [if_neg e]
theorem zog {C':Ctx} {o e sz:Nat} {els:List DV} (hD:C'.D[o]? =some (.app e sz els)) {v:Value} (hv:v=apV (C'.σ o) els.length):DR C' (.apl o els.length) v:=
 .apl (zxc hD) (by subst hv;cases els.length<;>rfl) ⟨λsz' els' h=>(by rw [hD] at h;cases h),λe' sz' els' h=>(by
  rw [hD] at h
  simp only [tza,DObj.app.injEq] at h
  rw [<-h.2.2]
  exact ⟨tzp _,λ_=>hv⟩)⟩
theorem yep (hr:HR C) {e sz:Nat} {els:List DV} {cs:List Value} (hne:els≠[]) (hc:Cl C sz els cs) (base:Nat) (Wo:Nat->Prop) :
  ∃ C',C'.H=C.H.newIn cs e C.H.n [C.H.n]/\C'.D=C.D++[.app e sz els]/\HR C'/\Nx (λo=>base<=o/\Wo o) C C'/\DR C' (.apl C.D.length els.length) (zi8 C.H els.length):=by
 obtain ⟨C',a1,a2,a3,a4,a5,a6⟩:=hr.newIn (e:=e) hne (λC' nx=>hc.mono nx hr)
 refine ⟨C',a1,a2,a4,a5.weak (λ_ h=>h.elim),zog (e:=e) (sz:=sz) (els:=els) (by rw [a2,zyi]) ?_⟩
 rw [a6]
 cases hl:els.length with
 | zero=>exact absurd (tzy hl) hne
 | succ n=>rfl
theorem yv0 (hr:HR C) {t tx:TypeId} {T:SlT} {base:Nat} {s x:DV} {vs vx:Value} {new:List DV} {d':DV} {D':DH} (hT:tSl P t=some T) (hs:DR C s vs) (hx:Lies C new new.length vx) (hok:∀ d∈new,zqv T.sz d=true)
  (h:zw7 C.D base T s new=some (d',D')):Made base (λo=>zyl (some s)=some o) C d' D' (zsc (zrn P C.H t vs vx)):=by
 obtain ⟨ws,w1,w2,w3,_⟩:=hx.cells hok
 unfold zw7 at h
 split at h
 ·-- nothing yet
  split at h
  .rename_i hb
   simp only [tza,tzl] at h
   obtain ⟨rfl,rfl⟩:=h
   rw [zet hs,ztn hT w3 w1 w2.len w2.one (by rw [txj];exact hb)]
   cases hn:new.length with
   | zero=>
    have:new=[]:=tzy hn
    subst this
    obtain ⟨C',a1,a2,a3,a4,a5,a6⟩:=hr.nilApp T.e T.sz
    refine ⟨C',.slice none 0 0,by simp only [apK,zsc,a1],a2,a4,a5.weak (λ_ h=>h.elim),?_⟩
    exact zog (els:=[]) (by rw [a2,zyi]) rfl
   | succ m=>
    have hne:new≠[]:=λq=>by subst q;simp at hn
    obtain ⟨C',a1,a2,a3,a4,a5⟩:=yep hr (e:=T.e) hne w2 base (λo=>zyl (some zyw)=some o)
    rw [hn] at a5
    simp only [apK]
    rw [show (Nat.beq 0 0&&Nat.beq 0 0)=true from rfl]
    exact ⟨C',_,by simp only [zsc,a1],a2,a3,a4,a5⟩
  .cases h
 .rename_i o len
  split at h
  .rename_i e sz els hD
   split at h
   .rename_i hc
    obtain ⟨c1,c2,c3,c4,c5⟩:=hc
    simp only [tza,tzl] at h
    obtain ⟨rfl,rfl⟩:=h
    cases hs with
    | apl hol one g=>
     have e1:=(g.2 _ _ _ hD).2 c3
     subst c1 c2 c3
     have lenE:(els++new).length=els.length+new.length:=by simp
     cases hn:new.length with
     | zero=>
      have:new=[]:=tzy hn
      subst this
      rw [tyv,zr9 hD,Nat.add_zero]
      refine ⟨C,vs,?_,rfl,hr,Nx.refl hr,zog hD e1⟩
      have:∀ b c,zrn P C.H t (.slice b els.length c) vx=some (.slice b els.length c,C.H):=λb c=>by
       rw [ztn hT w3 w1 w2.len w2.one c5]
       rfl
      rw [e1]
      unfold apV
      cases hl:els.length with
      | zero=>have:=this none 0;rw [hl] at this;simp only [this,zsc]
      | succ m=>have:=this (some ⟨C.σ o,0,none⟩) (U+2*C.σ o);rw [hl] at this;simp only [this,zsc]
     | succ m=>
      have hne:els++new≠[]:=λq=>by simp at q;rw [q.2] at hn;simp at hn
      by_cases hels:els=[]
      .subst hels
       simp only [tze,txj,ty2] at *
       obtain ⟨C',a1,a2,a3,a4,a5,a6⟩:=hr.grow (els':=new) (c:=C.H.n) (H':=C.H.newIn ws T.e C.H.n [C.H.n]) (cs':=ws) (rest:=[]) hD (by simp;omega) (.inr rfl) (hr.wf.newInD (by omega)) (by simp) (λb hb _=>by simp only [Hp.get_newIn];rw [if_neg (by omega)]) (λk hk hkc=>by simp only [Hp.stk_newIn];rw [if_neg hkc]) (by simp) (by simp) (λC' nx=>w2.mono nx hr)
       have hvs:vs=.slice none 0 0:=e1
       rw [hvs,ztn hT w3 w1 w2.len w2.one (by rw [txj];exact c5),hn]
       simp only [apK]
       rw [show (Nat.beq 0 0&&Nat.beq 0 0)=true from rfl]
       refine ⟨C',zi8 C.H (m+1),by simp only [zsc,a1],a2,a4,a5.weak (λq hq=>by subst hq;exact ⟨c4,rfl⟩),?_⟩
       rw [<-hn]
       refine zog (e:=T.e) (sz:=T.sz) (by rw [a2];simp [hol]) ?_
       rw [a6,hn];rfl
      .obtain ⟨cs,k,r,g1,g2,g3⟩:=hr.ob o _ hD hels
       have hcl:Cls C o k:=⟨T.e,T.sz,els,cs,T.e,hD,hels,g1⟩
       have hown:=hcl.own
       have hkn:=hcl.lt hr
       have hon:=hown.lt hr
       obtain ⟨l0,hl0⟩:∃ l0,els.length=l0+1:=⟨els.length-1,by cases els with | nil=>exact absurd rfl hels | cons=>simp⟩
       have hvs:vs=.slice (some ⟨C.σ o,0,none⟩) els.length (U+2*C.σ o):=by rw [e1,hl0];rfl
       have key:zti C.H T.e T.sz ⟨C.σ o,0,none⟩ els.length (U+2*C.σ o) (els.length+(m+1)) ws=some (zi8 C.H (els.length+(m+1)),Hp.newIn (C.H.put (C.σ o) (.cells cs T.e (some k))) (cs++ws) T.e k (C.H.n::zci (C.σ o) true (C.H.stk k))):=by
        unfold zti
        have hbf:Nat.blt (U+2*C.σ o) U=false:=by cases hq:Nat.blt (U+2*C.σ o) U with | false=>rfl | true=>rw [txl] at hq;omega
        simp only [hbf]
        rw [show (Nat.beq 0 0&&Nat.beq (U+2*C.σ o) (U+2*C.σ o))=true by simp]
        simp only [g1,tzn,yzx,g2,zf8]
        rw [show Nat.beq (C.σ o) (C.σ o)=true by simp,show Nat.beq T.e T.e=true by simp]
        simp only [Bool.and_self]
        rw [show els.length*T.sz=cs.length from g3.len.symm,ze7]
       obtain ⟨C',a1,a2,a3,a4,a5,a6⟩:=hr.grow (els':=els++new) (c:=k) (H':=Hp.newIn (C.H.put (C.σ o) (.cells cs T.e (some k))) (cs++ws) T.e k (C.H.n::zci (C.σ o) true (C.H.stk k))) (cs':=cs++ws) (rest:=zci (C.σ o) true (C.H.stk k)) hD (by rw [lenE];omega) (.inl hcl)
        ((hr.wf.putD hon (λc' e' k' h=>by simp only [Blk.cells.injEq,tza] at h;omega)).newInD (by simp;omega)) (by simp) (λb hb hno=>by
         simp only [Hp.get_newIn,Hp.n_put,Hp.get_put]
         rw [if_neg (by omega),if_neg (λq=>hno (by rw [q];exact hown))]) (λc hc hck=>by simp only [Hp.stk_newIn,Hp.stk_put];rw [if_neg hck]) (by simp) (by simp) (λC' nx=>(g3.append w2).mono nx hr)
       rw [hvs,ztn hT w3 w1 w2.len w2.one c5,hn]
       simp only [apK,key]
       refine ⟨C',zi8 C.H (els.length+(m+1)),by simp only [zsc,a1],a2,a4,a5.weak (λq hq=>by subst hq;exact ⟨c4,rfl⟩),?_⟩
       rw [<-hn,<-lenE]
       refine zog (e:=T.e) (sz:=T.sz) (by rw [a2];simp [hol]) ?_
       rw [a6,lenE,hn];rfl
   .cases h
  .cases h
 .rename_i o off len cap
  split at h
  .rename_i sz els hD
   split at h
   .rename_i hc
    obtain ⟨c1,c2,c3⟩:=hc
    subst c1
    have hrow:∃ hol one g,hs=DR.row (C:=C) hol one g:=by cases hs with | row hol one g=>exact ⟨hol,one,g,rfl⟩
    obtain ⟨hol,one,g,-⟩:=hrow
    obtain ⟨e1,g1,g2,g3⟩:=g _ _ hD
    obtain ⟨cs,ce,q1,q2⟩:=hr.ob o _ hD
    rw [e1,ztn hT w3 w1 w2.len w2.one c2]
    have hbt:Nat.blt cap U=true:=by rw [txl];exact g3
    split at h
    .rename_i hroom
     split at h
     .rename_i hbase
      simp only [tza,tzl] at h
      obtain ⟨rfl,rfl⟩:=h
      cases hn:new.length with
      | zero=>
       have:new=[]:=tzy hn
       subst this
       have:Dv.putAt els (off+len) []=els:=by simp [Dv.putAt]
       rw [this,zr9 hD,Nat.add_zero]
       exact ⟨C,_,rfl,rfl,hr,Nx.refl hr,.row hol rfl (λsz' els' h'=>by rw [hD] at h';simp only [tza,DObj.arr.injEq] at h';exact ⟨by rw [<-h'.1],by rw [<-h'.2];exact g1,g2,g3⟩)⟩
      | succ m=>
       have hpl:(Dv.putAt els (off+len) new).length=els.length:=by
        simp only [Dv.putAt,tz5,tyw,tyx];omega
       obtain ⟨C',a1,a2,a3,a4,a5⟩:=zb2 hr (p:=(off+len)*T.sz) (els':=Dv.putAt els (off+len) new) (vs:=ws) hD hpl w2.one (λcs hcl=>⟨_,hcl.putAt w2 (by omega)⟩)
       simp only [apK]
       unfold zti
       simp only [hbt]
       rw [show Nat.ble (len+(m+1)) cap=true by rw [txw];omega]
       rw [txb] at a1
       refine ⟨C',.slice (some ⟨C.σ o,off*T.sz,none⟩) (len+(m+1)) cap,by simp only [a1,tz2,zsc],a2,a3,a4.weak (λq hq=>by subst hq;exact ⟨hbase,rfl⟩),?_⟩
       refine .row (by rw [a2];simpa using hol) rfl (λsz' els' h'=>?_)
       rw [a2] at h'
       simp [hol] at h'
       refine ⟨by rw [a5,<-h'.1],by rw [<-h'.2,hpl];exact g1,by omega,g3⟩
     .cases h
    .rename_i hroom
     have hbf0:∀ m,new.length=m+1->Nat.ble (len+(m+1)) cap=false:=λm hm=>by cases hq:Nat.ble (len+(m+1)) cap with | false=>rfl | true=>rw [txw] at hq;omega
     split at h
     .rename_i hw
      obtain ⟨hbase,rfl,rfl⟩:=hw
      simp only [tza,tzl] at h
      obtain ⟨rfl,rfl⟩:=h
      obtain ⟨m,hm⟩:∃ m,new.length=m+1:=⟨new.length-1,by omega⟩
      have hclo:=q2.append w2
      have hne:els++new≠[]:=λq=>by simp at q;rw [q.2] at hm;simp at hm
      obtain ⟨C',a1,a2,a3,a4,a5,a6⟩:=hr.conv (e:=T.e) hD hne (λC' nx=>hclo.mono nx hr)
      have lenE:(els++new).length=els.length+new.length:=by simp
      rw [hm]
      simp only [apK]
      unfold zti
      simp only [hbt,hbf0 m hm]
      simp only [Hp.read,zoe q1]
      rw [zmn (by rw [q2.len,Nat.zero_mul,txj];exact tzp _)]
      refine ⟨C',zi8 C.H (els.length+(m+1)),?_,a2,a4,a5.weak (λq hq=>by subst hq;exact ⟨hbase,rfl⟩),?_⟩
      .rw [a1]
       simp only [tz2,zsc,Nat.zero_mul,List.drop_zero,<-q2.len,ty0]
      .rw [<-hm,<-lenE]
       refine zog (e:=T.e) (sz:=T.sz) (by rw [a2];simp [hol]) ?_
       rw [a6,lenE,hm];rfl
     simp only [tza,tzl] at h
     obtain ⟨rfl,rfl⟩:=h
     obtain ⟨m,hm⟩:∃ m,new.length=m+1:=⟨new.length-1,by omega⟩
     have hclo:=((q2.drop off).take len (by simp;omega)).append w2
     obtain ⟨C',a1,a2,a3,a4,a5⟩:=yep hr (e:=T.e) (λq=>by simp at q;rw [q.2] at hm;simp at hm) hclo base (λp=>zyl (some (.row o off len cap))=some p)
     have hl:((els.drop off).take len++new).length=len+(m+1):=by simp;omega
     rw [hl] at a5
     rw [hm]
     simp only [apK]
     unfold zti
     simp only [hbt]
     have hbf:Nat.ble (len+(m+1)) cap=false:=by cases hq:Nat.ble (len+(m+1)) cap with | false=>rfl | true=>rw [txw] at hq;omega
     rw [hbf]
     simp only [Hp.read,zoe q1]
     rw [zmn (by rw [q2.len,<-txb];exact txn _ c3)]
     exact ⟨C',_,by simp only [tz2,zsc,a1],a2,a3,a4,a5⟩
   .cases h
  .cases h
 .cases h
theorem ze8 (hr:HR C) {n b p:Nat} {ws:List Value} {D':DH} {base o:Nat} {dv:Option DV} (hdv:zyl dv=some o) (hb:base<=o) (h0:ws=[]->C.D=D') (hn:ws≠[]->0<n)
  (hw:ws≠[]->∃ C',C.H.write b p ws=some C'.H/\C'.D=D'/\HR C'/\Nx (λq=>q=o) C C'):Made base (λq=>zyl dv=some q) C (rv (zka n)) D' (zjv C.H n (some ⟨b,p,none⟩) ws):=by
 cases ws with
 | nil=>rw [<-h0 rfl];exact Made.same hr (zvs _)
 | cons a l=>
  obtain ⟨C',a1,a2,a3,a4⟩:=hw (by simp)
  refine ⟨C',zka n,?_,a2,a3,a4.weak (λq hq=>by subst hq;exact ⟨hb,hdv⟩),zvs _⟩
  unfold zjv
  simp only
  rw [show Nat.blt 0 n=true by rw [txl];exact hn (by simp)]
  simp only [a1]
  rfl
theorem yke (hr:HR C) {t:TypeId} {T:SlT} {base:Nat} {s:DV} {vs vx:Value} {new:List DV} {d':DV} {D':DH} (hT:tSl P t=some T) (hs:DR C s vs) (hx:Lies C new new.length vx) (hok:∀ d∈new,zqv T.sz d=true)
  (h:ys2 C.D base T s new=some (.val d' D')):Made base (λo=>zyl (some s)=some o) C d' D' (zha P C.H t vs vx):=by
 obtain ⟨ws0,_,_,w3,w4⟩:=hx.cells hok
 obtain ⟨h1,h2,h3,h4,_⟩:=zoc hT
 unfold ys2 at h
 split at h
 .rename_i o off len cap
  split at h
  .rename_i sz els hD
   split at h
   .rename_i hc
    obtain ⟨rfl,c1,c2,c3⟩:=hc
    simp only [tza,DRes.val.injEq] at h
    obtain ⟨rfl,rfl⟩:=h
    obtain ⟨ws,w1,w2⟩:=w4 (min new.length len) (Nat.min_le_left _ _)
    have hrow:∃ hol one g,hs=DR.row (C:=C) hol one g:=by cases hs with | row hol one g=>exact ⟨hol,one,g,rfl⟩
    obtain ⟨hol,one,g,-⟩:=hrow
    obtain ⟨e1,g1,g2,g3⟩:=g _ _ hD
    subst e1
    have hcp:zha P C.H t (.slice (some ⟨C.σ o,off*T.sz,none⟩) len cap) vx=zjv C.H (min new.length len) (some ⟨C.σ o,off*T.sz,none⟩) ws:=by
     unfold zha
     simp only [h2,h3,w3]
     show (zq7 C.H T.sz (min new.length len) vx).bind _=_
     rw [w1];rfl
    rw [hcp]
    have hml:(new.take (min new.length len)).length=min new.length len:=by simp
    have hpl:(Dv.putAt els off (new.take (min new.length len))).length=els.length:=by
     simp only [Dv.putAt,tz5,tyw,tyx];omega
    have hz:ws=[]->new.take (min new.length len)=[]:=λq=>by
     have:=w2.len
     rw [q,tze] at this
     rcases Nat.mul_eq_zero.1 this.symm with q | q
     .exact tzy q
     .omega
    refine ze8 hr rfl c2 (λq=>?_) (λq=>?_) (λq=>?_)
    .rw [hz q]
     have:Dv.putAt els off []=els:=by simp [Dv.putAt]
     rw [this,zr9 hD]
    .rcases ty4 (min new.length len) with g | g
     .exact absurd (tzy (by rw [w2.len,hml,g,Nat.zero_mul])) q
     .exact g
    .obtain ⟨C',a1,a2,a3,a4,a5⟩:=zb2 hr (p:=off*T.sz) (els':=Dv.putAt els off (new.take (min new.length len))) (vs:=ws) hD hpl w2.one (λcs hcl=>⟨_,hcl.putAt w2 (by omega)⟩)
     exact ⟨C',a1,a2,a3,a4⟩
   .cases h
  .cases h
 .rename_i o len
  split at h
  .rename_i e sz els hD
   split at h
   .rename_i hc
    obtain ⟨rfl,c1,c2,rfl⟩:=hc
    simp only [tza,DRes.val.injEq] at h
    obtain ⟨rfl,rfl⟩:=h
    obtain ⟨ws,w1,w2⟩:=w4 (min new.length els.length) (Nat.min_le_left _ _)
    have hrow:∃ hol one g,hs=DR.apl (C:=C) hol one g:=by cases hs with | apl hol one g=>exact ⟨hol,one,g,rfl⟩
    obtain ⟨hol,one,g,-⟩:=hrow
    have e1:=(g.2 _ _ _ hD).2 rfl
    subst e1
    have hcp:∀ a c,zha P C.H t (.slice a els.length c) vx=zjv C.H (min new.length els.length) a ws:=by
     intro a c
     unfold zha
     simp only [h2,h3,w3]
     show (zq7 C.H T.sz (min new.length els.length) vx).bind _=_
     rw [w1];rfl
    have hml:(new.take (min new.length els.length)).length=min new.length els.length:=by simp
    have hpl:(Dv.putAt els 0 (new.take (min new.length els.length))).length=els.length:=by
     simp only [Dv.putAt,tz5,tyw,tyx];omega
    by_cases hels:els=[]
    .subst hels
     have hw0:ws=[]:=tzy (by rw [w2.len];simp)
     rw [show apV (C.σ o) ([]:List DV).length=.slice none 0 0 from rfl]
     have:zha P C.H t (.slice none 0 0) vx=some (.val (zka 0) C.H):=by
      have:=hcp none 0
      rw [hw0] at this
      simpa [zjv] using this
     rw [this]
     have h2:(Dv.putAt ([]:List DV) 0 (new.take (min new.length ([]:List DV).length)))=[]:=by simp [Dv.putAt]
     rw [h2,zr9 hD]
     have:=Made.same (base:=base) (Wo:=λq=>zyl (some (.apl o ([]:List DV).length))=some q) hr (zvs (C:=C) (zka 0))
     simpa using this
    .obtain ⟨l0,hl0⟩:∃ l0,els.length=l0+1:=⟨els.length-1,by cases els with | nil=>exact absurd rfl hels | cons=>simp⟩
     have hav:apV (C.σ o) els.length=.slice (some ⟨C.σ o,0,none⟩) els.length (U+2*C.σ o):=by rw [hl0];rfl
     rw [hav,hcp]
     have hz:ws=[]->new.take (min new.length els.length)=[]:=λq=>by
      have:=w2.len
      rw [q,tze] at this
      rcases Nat.mul_eq_zero.1 this.symm with q | q
      .exact tzy q
      .omega
     refine ze8 hr rfl c2 (λq=>?_) (λq=>?_) (λq=>?_)
     .rw [hz q]
      have:Dv.putAt els 0 []=els:=by simp [Dv.putAt]
      rw [this,zr9 hD]
     .rcases ty4 (min new.length els.length) with g | g
      .exact absurd (tzy (by rw [w2.len,hml,g,Nat.zero_mul])) q
      .exact g
     .obtain ⟨C',a1,a2,a3,a4,a5⟩:=zb3 hr (p:=0) (els':=Dv.putAt els 0 (new.take (min new.length els.length))) (vs:=ws) hD hels hpl w2.one (λcs hcl=>by
       have:=hcl.putAt (o:=0) w2 (by omega)
       rw [Nat.zero_mul] at this
       exact ⟨_,this⟩)
      exact ⟨C',a1,a2,a3,a4⟩
   .cases h
  .cases h
 .cases h
theorem yrm (hr:HR C) {t:TypeId} {base:Nat} {x:DV} {vx:Value} {d':DV} {D':DH} (hx:DR C x vx) (h:zhp C.D base (tSl P t) x=some (.val d' D')):Made base (λo=>zyl (some x)=some o) C d' D' (zmw P C.H t vx):=by
 unfold zhp at h
 split at h
 .rename_i o n off len
  split at h
  .rename_i T hT
   obtain ⟨h1,h2,h3,_,⟨z,hz,hzT⟩,hok,_⟩:=zoc hT
   split at h
   .rename_i e sz els hD
    split at h
    .rename_i hc
     obtain ⟨c1,c2,c3,c4,c5⟩:=hc
     subst c1
     simp only [tza,DRes.val.injEq] at h
     obtain ⟨rfl,rfl⟩:=h
     cases hx with
     | prt hol one hn g=>
      obtain ⟨_,c,rfl⟩:=(g.2 _ _ _ hD).2 c4
      have hne:els≠[]:=λq=>by rw [q] at c4;simp at c4;omega
      have htup:DR C (.tup []) (.tuple #[]):=.tup rfl λi d v h=>by simp at h
      cases len with
      | zero=>
       have e1:Dv.putAt els off (List.replicate 0 T.z)=els:=by simp [Dv.putAt]
       rw [e1,zr9 hD]
       have:zmw P C.H t (.slice (some ⟨C.σ o,off*1,none⟩) 0 c)=some (.val (.tuple #[]) C.H):=by unfold zmw;rw [h2]
       rw [this]
       exact Made.same hr htup
      | succ m=>
       have hcz:Nat.beq (cellsOf z).length 1=true:=by
        have h5:=(zxa hok).1
        rw [c2,hzT] at h5
        have h6:(zzd (ofV z)).length=(cellsOf z).length:=by cases z<;>simp [ofV,zzd,cellsOf]
        rw [<-h6,h5];rfl
       have hcl:Cl C 1 (List.replicate (m+1) T.z) (rep (cellsOf z) (m+1)):=by
        have:=yrh (C:=C) (sz:=T.sz) hok (zv:=z) (by rw [hzT];exact zob z) (m+1)
        rwa [c2] at this
       obtain ⟨C',a1,a2,a3,a4,a5⟩:=zb3 hr (p:=off*1) (els':=Dv.putAt els off (List.replicate (m+1) T.z)) (vs:=rep (cellsOf z) (m+1)) hD hne (by
        simp only [Dv.putAt,tz5,tyw,tyx,tyz];omega) hcl.one (λcs hcl'=>⟨_,hcl'.putAt hcl (by rw [tyz];omega)⟩)
       refine ⟨C',.tuple #[],?_,a2,a3,a4.weak (λq hq=>by subst hq;exact ⟨c3,rfl⟩),.tup rfl λi d v h=>by simp at h⟩
       unfold zmw
       simp only [h2,hz,hcz,a1]
       rfl
    .cases h
   .cases h
  .cases h
 .cases h
theorem zhz (hr:HR C) {t:TypeId} {x k d:DV} {vx vk v:Value} {base:Nat} {D':DH} (hx:DR C x vx) (hk:DR C k vk) (hd:DR C d v) (h:zu7 P C.D base (zer P t) x (toV k) d=some D') :
  Made base (λo=>zyl (some x)=some o) C (rv undef) D' (hpV undef (zro P t vx vk v C.H)):=by
 unfold zu7 at h
 split at h
 .rename_i kt z hM
  split at h
  .rename_i o
   split at h
   .rename_i ks vs hD
    split at h
    .rename_i kv hkv
     split at h
     .rename_i hb
      obtain ⟨es,ck,e1,e2,e3,e4,e5,e6,e7⟩:=zb1 hr hD hx
      obtain ⟨et,u1,u2⟩:=ys9 hM
      have ek:=zhs hk hkv
      subst e1 ek
      have hu:zro P t (.map (some (C.σ o))) vk v C.H=zea P C.H (C.σ o) kt vk v es ck:=by
       unfold zro
       rw [u1]
       simp only [e2]
      rw [hu]
      unfold zea
      rw [zhx e5]
      have fin:∀ (es':List MapEntry) (ck':Nat) (ks':List Value) (vs':List DV),es'.length=ks'.length->vs'.length=ks'.length->(∀ (i:Nat) (e:MapEntry) (k:Value),es'[i]? =some e->ks'[i]? =some k->e.key=k)->(∀ (i:Nat) (e:MapEntry) (d:DV),es'[i]? =some e->vs'[i]? =some d->DR C d e.val) ->
        Made base (λp=>zyl (some (.mp o))=some p) C (rv undef) (C.D.set o (.map ks' vs')) (some (.val undef (C.H.put (C.σ o) (.map es' ck')))):=by
       intro es' ck' ks' vs' f1 f2 f3 f4
       obtain ⟨C',a1,a2,a3,a4,a5,a6⟩:=hr.put (x':=.map ks' vs') (B:=.map es' ck') hD (λe s l h=>by simp at h) (λe s l h=>by simp at h) rfl (λc e k h=>by simp at h) (λC' nx hg hσ=>⟨es',ck',hg,f1,f2,f3,λi e d g1 g2=>(f4 i e d g1 g2).mono nx hr⟩)
       exact ⟨C',undef,by rw [a1],a2,a4,a5.weak (λq hq=>by subst hq;exact ⟨hb,rfl⟩),zvs _⟩
      split at h
      .rename_i i hf
       split at h
       .rename_i k' hk'
        split at h
        .rename_i hsm
         simp only [tza] at h
         subst h
         obtain ⟨e,he⟩:=zux (l:=es) (i:=i) (by have:=zxc hk';omega)
         have hke:=e6 i e k' he hk'
         simp only [hf,he]
         rw [hke,hsm]
         refine fin _ _ _ _ (by simp [e3]) (by simp [e4]) (λj e' k2 g1 g2=>?_) (λj e' d' g1 g2=>?_)
         .rw [tya] at g1 g2
          split at g1
          .rename_i hij
           rw [if_pos hij] at g2
           split at g1
           .rename_i hl1
            rw [if_pos (by omega)] at g2
            simp only [tza] at g1 g2
            subst g1 g2;rfl
           .cases g1
          .rename_i hij
           rw [if_neg hij] at g2
           exact e6 j e' k2 g1 g2
         .rw [tya] at g1 g2
          split at g1
          .rename_i hij
           rw [if_pos hij] at g2
           split at g1
           .rename_i hl1
            rw [if_pos (by omega)] at g2
            simp only [tza] at g1 g2
            subst g1 g2;exact hd
           .cases g1
          .rename_i hij
           rw [if_neg hij] at g2
           exact e7 j e' d' g1 g2
        .cases h
       .cases h
      .rename_i hf
       simp only [tza] at h
       subst h
       simp only [hf]
       refine fin _ _ _ _ (by simp [e3]) (by simp [e4]) (λj e' k2 g1 g2=>?_) (λj e' d' g1 g2=>?_)
       .rcases tz9 j es.length with q | q
        .rw [tzs q] at g1
         rw [tzs (by omega)] at g2
         exact e6 j e' k2 g1 g2
        .rw [tzv q] at g1
         rw [tzv (by omega)] at g2
         have h1:=zxc g1
         simp at h1
         have:j-es.length=0:=by omega
         rw [this] at g1
         rw [show j-ks.length=0 by omega] at g2
         simp at g1 g2
         subst g1 g2;rfl
       .rcases tz9 j es.length with q | q
        .rw [tzs q] at g1
         rw [tzs (by omega)] at g2
         exact e7 j e' d' g1 g2
        .rw [tzv q] at g1
         rw [tzv (by omega)] at g2
         have h1:=zxc g1
         simp at h1
         have:j-es.length=0:=by omega
         rw [this] at g1
         rw [show j-vs.length=0 by omega] at g2
         simp at g1 g2
         subst g1 g2;exact hd
      .cases h
     .cases h
    .cases h
   .cases h
  .cases h
 .cases h
end Go.Dv
namespace Go.Dv
open Go Go.Sim
variable {W:Nat->Prop} {C C' C'':Ctx} {P:Program} {tm:Trie DV} {tmH:Trie Value} {base:Nat}
def xo6 (C:Ctx) (d:DV) (D':DH) (r:Option ARes):Prop:=D'=C.D/\∃ v,r=some (.val v C.H)/\DR C d v
theorem zyh {D D':DH} {o:Option DV} {d:DV} (h:zv1 D o=some (.val d D')):o=some d/\D'=D:=by
 cases o with
 | none=>simp [zv1] at h
 | some x=>simp only [zv1,tza,DRes.val.injEq] at h;exact ⟨by rw [h.1],h.2.symm⟩
theorem yy2 (ht:TR C tm tmH) {x:Operand} {d:DV} (h:zzk tm x=some d):∃ v,zn1 P tmH C.H x=some (.val v C.H)/\DR C d v:=by
 obtain ⟨v,h1,h2⟩:=zzq (P:=P) ht h
 exact ⟨v,by unfold zn1;rw [h1];rfl,h2⟩
theorem zg3 (hr:HR C) (ht:TR C tm tmH) {op:Op} {d:DV} {D':DH} (hc:zz0 op=.pure∨zz0 op=.read) (h:dop P base tm C.D op=some (.val d D')):xo6 C d D' (zw1 op P tmH C.H):=by
 cases op with
 | move x=>
  obtain ⟨h1,rfl⟩:=zyh h
  exact ⟨rfl,yy2 ht h1⟩
 | assign x=>
  obtain ⟨h1,rfl⟩:=zyh h
  exact ⟨rfl,yy2 ht h1⟩
 | pick c a b=>
  obtain ⟨h1,rfl⟩:=zyh h
  refine ⟨rfl,?_⟩
  show ∃ v,zlm P tmH C.H c a b=_/\_
  cases hcv:zzk tm c with
  | none=>rw [hcv] at h1;simp [yvo] at h1
  | some dc=>
   obtain ⟨vc,c1,c2⟩:=zzq (P:=P) ht hcv
   rw [hcv] at h1
   unfold yvo at h1
   unfold zlm
   split at h1
   .rename_i heq
    simp only [tza] at heq
    subst heq
    rw [c1,zet c2]
    obtain ⟨v,g1,g2⟩:=zzq (P:=P) ht h1
    exact ⟨v,by simp only [g1];rfl,g2⟩
   .rename_i heq
    simp only [tza] at heq
    subst heq
    rw [c1,zet c2]
    obtain ⟨v,g1,g2⟩:=zzq (P:=P) ht h1
    exact ⟨v,by simp only [g1];rfl,g2⟩
   .cases h1
 | build t ps=>
  obtain ⟨h1,rfl⟩:=zyh h
  exact ⟨rfl,yrd ht h1⟩
 | load t a=>
  simp only [dop] at h
  split at h
  .rename_i n hn
   obtain ⟨h1,rfl⟩:=zyh h
   obtain ⟨p,h2,h3⟩:=tzh.1 h1
   obtain ⟨vp,g1,g2⟩:=zzq (P:=P) ht h2
   obtain ⟨b,off,v,q1,q2,q3⟩:=yyx hr hn g2 h3
   refine ⟨rfl,v,?_,q3⟩
   show zn2 P tmH C.H t a=_
   unfold zn2
   rw [g1]
   simp only [tzn,q1,q2];rfl
  .cases h
 | nilCheck x=>
  obtain ⟨h1,rfl⟩:=zyh h
  obtain ⟨p,h2,h3⟩:=tzh.1 h1
  obtain ⟨vp,g1,g2⟩:=zzq (P:=P) ht h2
  obtain ⟨v,q1,q2⟩:=yd8 g2 h3
  refine ⟨rfl,v,?_,q2⟩
  show zw0 P tmH C.H x=_
  unfold zw0
  rw [g1]
  simp only [tzn,q1];rfl
 | binOp op t x y t'=>
  obtain ⟨h1,rfl⟩:=zyh h
  refine ⟨rfl,?_⟩
  cases hx:zzk tm x with
  | none=>rw [hx] at h1;simp [yd6] at h1
  | some dx=>
   cases hy:zzk tm y with
   | none=>rw [hx,hy] at h1;unfold yd6 at h1;split at h1<;>simp at h1
   | some dy=>
    rw [hx,hy] at h1
    obtain ⟨vx,g1,g2⟩:=zzq (P:=P) ht hx
    obtain ⟨vy,g3,g4⟩:=zzq (P:=P) ht hy
    obtain ⟨v,q1,q2⟩:=yd9 g2 g4 h1
    refine ⟨v,?_,q2⟩
    show yst P tmH C.H op t x y=_
    unfold yst
    simp only [g1,g3,q1];rfl
 | unOp op t x=>
  obtain ⟨h1,rfl⟩:=zyh h
  refine ⟨rfl,?_⟩
  cases hx:zzk tm x with
  | none=>rw [hx] at h1;simp [dUn] at h1
  | some dx=>
   rw [hx] at h1
   obtain ⟨vx,g1,g2⟩:=zzq (P:=P) ht hx
   obtain ⟨v,q1,q2⟩:=xwe g2 h1
   refine ⟨v,?_,q2⟩
   show oUn P tmH C.H op x=_
   unfold oUn
   simp only [g1,tzn,q1];rfl
 | convert s t x=>
  obtain ⟨h1,rfl⟩:=zyh h
  obtain ⟨p,h2,h3⟩:=tzh.1 h1
  obtain ⟨vp,g1,g2⟩:=zzq (P:=P) ht h2
  obtain ⟨v,q1,q2⟩:=ykc hr g2 h3
  refine ⟨rfl,v,?_,q2⟩
  show zjw P tmH C.H s t x=_
  unfold zjw
  rw [g1]
  simp only [tzn,q1];rfl
 | makeFunc fn a b=>
  change zbs C.D fn (zy5 tm a.toList) (zy5 tm b.toList)=some (.val d D') at h
  unfold zbs at h
  split at h
  .rename_i g
   split at h
   .rename_i l hl
    split at h
    .rename_i m hm
     simp only [tza,DRes.val.injEq] at h
     obtain ⟨rfl,rfl⟩:=h
     obtain ⟨vs,g1,g2⟩:=zvh (P:=P) ht hl
     obtain ⟨ws,g3,g4⟩:=zvh (P:=P) ht hm
     refine ⟨rfl,.func (.func g) ⟨vs⟩ ⟨ws⟩,?_,.fn g2.1 g4.1 g2.2 g4.2⟩
     show zln P tmH C.H (.func g) a b=_
     unfold zln
     simp only [g1,g3]
    .cases h
   .cases h
  .cases h
 | slice t x lo hi mx=>
  obtain ⟨h1,rfl⟩:=zyh h
  exact ⟨rfl,yvx ht h1⟩
 | fieldAddr s x f=>
  simp only [dop] at h
  split at h
  .rename_i o ft hf
   obtain ⟨h1,rfl⟩:=zyh h
   obtain ⟨p,h2,h3⟩:=tzh.1 h1
   obtain ⟨vp,g1,g2⟩:=zzq (P:=P) ht h2
   obtain ⟨v,q1,q2⟩:=yvr hf g2 h3
   refine ⟨rfl,v,?_,q2⟩
   show zxf P tmH C.H s x f=_
   unfold zxf
   simp only [g1,q1];rfl
  .cases h
 | field t x f=>
  obtain ⟨h1,rfl⟩:=zyh h
  refine ⟨rfl,?_⟩
  cases hx:zzk tm x with
  | none=>rw [hx] at h1;simp [zmk] at h1
  | some dx=>
   rw [hx] at h1
   obtain ⟨vx,g1,g2⟩:=zzq (P:=P) ht hx
   obtain ⟨v,q1,q2⟩:=ys7 g2 h1
   refine ⟨v,?_,q2⟩
   show zst P tmH C.H t x f=_
   unfold zst
   simp only [g1,q1];rfl
 | indexAddr t x i=>
  obtain ⟨h1,rfl⟩:=zyh h
  refine ⟨rfl,?_⟩
  cases hx:zzk tm x with
  | none=>rw [hx] at h1;simp [xyz] at h1
  | some dx=>
   rw [hx] at h1
   simp only [xyz] at h1
   split at h1
   .rename_i n hn
    obtain ⟨di,h2,h3⟩:=tzh.1 hn
    obtain ⟨vx,g1,g2⟩:=zzq (P:=P) ht hx
    obtain ⟨vi,g3,g4⟩:=zzq (P:=P) ht h2
    obtain ⟨kk,rfl⟩:=zgz g4 h3
    obtain ⟨v,q1,q2⟩:=yvs (kk:=kk) g2 h1
    refine ⟨v,?_,q2⟩
    show zxg P tmH C.H t x i=_
    unfold zxg
    simp only [g1,g3,q1];rfl
   .cases h1
 | index t x i=>
  obtain ⟨h1,rfl⟩:=zyh h
  refine ⟨rfl,?_⟩
  cases hx:zzk tm x with
  | none=>rw [hx] at h1;simp [zw6] at h1
  | some dx=>
   cases hi:zzk tm i with
   | none=>rw [hx,hi] at h1;unfold zw6 at h1;split at h1<;>simp at h1
   | some di=>
    rw [hx,hi] at h1
    obtain ⟨vx,g1,g2⟩:=zzq (P:=P) ht hx
    obtain ⟨vi,g3,g4⟩:=zzq (P:=P) ht hi
    obtain ⟨v,q1,q2⟩:=ys8 g2 g4 h1
    refine ⟨v,?_,q2⟩
    show zsu P tmH C.H t x i=_
    unfold zsu
    simp only [g1,g3,q1];rfl
 | lookup t m k ok=>
  simp only [dop] at h
  split at h
  .rename_i dm hm
   split at h
   .rename_i dk hk
    obtain ⟨h1,rfl⟩:=zyh h
    obtain ⟨vm,g1,g2⟩:=zzq (P:=P) ht hm
    obtain ⟨vk,g3,g4⟩:=zzq (P:=P) ht hk
    obtain ⟨v,q1,q2⟩:=yvv hr g2 g4 h1
    refine ⟨rfl,v,?_,q2⟩
    show zw9 P tmH C.H t m k ok=_
    unfold zw9
    simp only [g1,g3,q1];rfl
   .cases h
  .cases h
 | extract x i=>
  obtain ⟨h1,rfl⟩:=zyh h
  obtain ⟨p,h2,h3⟩:=tzh.1 h1
  obtain ⟨vp,g1,g2⟩:=zzq (P:=P) ht h2
  obtain ⟨v,q1,q2⟩:=zb0 g2 h3
  refine ⟨rfl,v,?_,q2⟩
  show zv7 P tmH C.H x i=_
  unfold zv7
  rw [g1]
  simp only [tzn,q1];rfl
 | call c=>
  change zp7 P tm C.D base c=some (.val d D') at h
  unfold zp7 at h
  split at h
  .rename_i l hl
   obtain ⟨vs,g1,g2⟩:=zvh (P:=P) ht hl
   have key:∀ b,c.callee=.builtin b->zw1 (.call c) P tmH C.H=zz8 P c.argTypes.toList vs C.H b:=by
    intro b hb
    show zsd P tmH C.H c=_
    unfold zsd
    rw [g1,hb]
   split at h
   .rename_i b hb
    rw [key b hb]
    obtain ⟨cal,ca,ct⟩:=c
    simp only at hb
    subst hb
    cases b<;>simp only [zz0,reduceCtorEq,or_self] at hc<;>simp only [zx0,reduceCtorEq] at h
    .split at h
     .rename_i t ts hts
      split at h
      .rename_i x
       obtain ⟨h1,rfl⟩:=zyh h
       obtain ⟨vx,hvx⟩:∃ vx,vs=[vx]:=by
        match vs,g2.1 with
        | [v],_=>exact ⟨v,rfl⟩
       subst hvx
       obtain ⟨v,q1,q2⟩:=yca hr (g2.2 0 _ _ rfl rfl) h1
       refine ⟨rfl,v,?_,q2⟩
       simp only [hts,zz8,on1,q1];rfl
      .cases h
     .cases h
    .obtain ⟨h1,rfl⟩:=zyh h
     obtain ⟨v,x,l',rfl,q1,q2⟩:=zof g2 h1
     refine ⟨rfl,v,?_,q2⟩
     simp only [zz8,zo3,q1];rfl
    .obtain ⟨h1,rfl⟩:=zyh h
     obtain ⟨v,x,l',rfl,q1,q2⟩:=zof g2 h1
     refine ⟨rfl,v,?_,q2⟩
     simp only [zz8,zo3,q1];rfl
   .rename_i f hf
    obtain ⟨p,h2,h3⟩:=tzh.1 h
    unfold zu8 at h3
    split at h3
    .simp at h3
    .split at h3<;>simp at h3
    .cases h3
   .cases h
  .cases h
 | _=>first | (simp [dop] at h;done) | (simp [zz0] at hc)
end Go.Dv
namespace Go.Dv
open Go Go.Sim
variable {W:Nat->Prop} {C C' C'':Ctx} {P:Program} {tm:Trie DV} {tmH:Trie Value} {base:Nat}
def OpW (Q:Par) (tm:Trie DV) (op:Op) (o:Nat):Prop:=
 match zz0 op with
 | .eff=>match zvg Q tm op with
  | none=>True
  | some p=>p=some o
 | _=>False
theorem Made.weak {Wo Wo':Nat->Prop} {d:DV} {D':DH} {r:Option ARes} (h:Made base Wo C d D' r) (hw:∀ o,Wo o->Wo' o):Made base Wo' C d D' r:=by
 obtain ⟨C',v,h1,h2,h3,h4,h5⟩:=h.ex
 exact ⟨C',v,h1,h2,h3,h4.weak (λo g=>⟨g.1,hw o g.2⟩),h5⟩
theorem yrn (Q:Par) (hr:HR C) (ht:TR C tm tmH) {op:Op} {d:DV} {D':DH} (h:dop P base tm C.D op=some (.val d D')):Made base (OpW Q tm op) C d D' (zw1 op P tmH C.H):=by
 have same:zz0 op=.pure∨zz0 op=.read->Made base (OpW Q tm op) C d D' (zw1 op P tmH C.H):=λhc=>by
  obtain ⟨h1,v,h2,h3⟩:=zg3 hr ht hc h
  rw [h1,h2]
  exact Made.same hr h3
 cases op with
 | alloc e=>exact yrg hr h
 | box e x=>
  cases hx:zzk tm x with
  | none=>simp only [dop,hx,yem] at h;cases h
  | some dx=>
   obtain ⟨v,g1,g2⟩:=zzq (P:=P) ht hx
   have:zw1 (.box e x) P tmH C.H=some (yfc C.H e v):=by
    show yfd P tmH C.H e x=_
    unfold yfd;rw [g1];rfl
   rw [this]
   simp only [dop,hx] at h
   exact yrf hr g2 h
 | buildSlice t len ps=>
  simp only [dop] at h
  split at h
  .rename_i T hT
   exact ziz hr ht hT h
  .cases h
 | makeSlice t l c=>exact ykd hr ht h
 | makeMap t r=>
  cases r with
  | none=>
   simp only [dop,tza,DRes.val.injEq] at h
   obtain ⟨rfl,rfl⟩:=h
   exact ycc hr
  | some x=>simp [dop] at h
 | store t a x=>
  refine (yvz hr ht h).weak (λo g=>?_)
  exact g
 | insert t m k v=>
  simp only [dop] at h
  split at h
  .rename_i dm hm
   split at h
   .rename_i dk hk
    split at h
    .rename_i dv hv
     obtain ⟨vm,g1,g2⟩:=zzq (P:=P) ht hm
     obtain ⟨vk,g3,g4⟩:=zzq (P:=P) ht hk
     obtain ⟨vv,g5,g6⟩:=zzq (P:=P) ht hv
     cases hu:zu7 P C.D base (zer P t) dm (toV dk) dv with
     | none=>rw [hu] at h;simp [hpD] at h
     | some D2=>
      rw [hu] at h
      simp only [hpD,tza,DRes.val.injEq] at h
      obtain ⟨rfl,rfl⟩:=h
      have:zw1 (.insert t m k v) P tmH C.H=hpV undef (zro P t vm vk vv C.H):=by
       show zwg P tmH C.H t m k v=_
       unfold zwg;simp only [g1,g3,g5]
      rw [this]
      refine (zhz hr g2 g4 g6 hu).weak (λo g=>?_)
      show zyl (zzk tm m)=some o
      rw [hm];exact g
    .cases h
   .cases h
  .cases h
 | mapUpdate t m k v=>
  simp only [dop] at h
  split at h
  .rename_i dm hm
   split at h
   .rename_i dk hk
    split at h
    .rename_i dv hv
     obtain ⟨vm,g1,g2⟩:=zzq (P:=P) ht hm
     obtain ⟨vk,g3,g4⟩:=zzq (P:=P) ht hk
     obtain ⟨vv,g5,g6⟩:=zzq (P:=P) ht hv
     cases hu:zu7 P C.D base (zer P t) dm (toV dk) dv with
     | none=>rw [hu] at h;simp [hpD] at h
     | some D2=>
      rw [hu] at h
      simp only [hpD,tza,DRes.val.injEq] at h
      obtain ⟨rfl,rfl⟩:=h
      have:zw1 (.mapUpdate t m k v) P tmH C.H=hpV undef (zro P t vm vk vv C.H):=by
       show zwg P tmH C.H t m k v=_
       unfold zwg;simp only [g1,g3,g5]
      rw [this]
      refine (zhz hr g2 g4 g6 hu).weak (λo g=>?_)
      show zyl (zzk tm m)=some o
      rw [hm];exact g
    .cases h
   .cases h
  .cases h
 | call c=>
  by_cases hc:zz0 (.call c)=.pure∨zz0 (.call c)=.read
  .exact same hc
  change zp7 P tm C.D base c=some (.val d D') at h
  unfold zp7 at h
  split at h
  .rename_i l hl
   obtain ⟨vs,g1,g2⟩:=zvh (P:=P) ht hl
   have key:∀ b,c.callee=.builtin b->zw1 (.call c) P tmH C.H=zz8 P c.argTypes.toList vs C.H b:=by
    intro b hb
    show zsd P tmH C.H c=_
    unfold zsd
    rw [g1,hb]
   split at h
   .rename_i b hb
    rw [key b hb]
    obtain ⟨cal,ca,ct⟩:=c
    simp only at hb
    subst hb
    have arg0:∀ s x,l=[s,x]->∃ y ys,ca.toList=y::ys/\zzk tm y=some s:=by
     intro s x hlx
     subst hlx
     cases hca:ca.toList with
     | nil=>simp only [hca,zy5,tza] at hl;cases hl
     | cons y ys=>
      simp only [hca,zy5] at hl
      split at hl
      .rename_i d0 hd0
       obtain ⟨l',h1,h2⟩:=tzf.1 hl
       simp only [tyi] at h2
       exact ⟨y,ys,rfl,by rw [hd0,h2.1]⟩
      .cases hl
    have two:∀ s x,l=[s,x]->∃ v w,vs=[v,w]/\DR C s v/\DR C x w:=by
     intro s x hlx
     subst hlx
     match vs,g2 with
     | [v,w],g2=>exact ⟨v,w,rfl,g2.2 0 _ _ rfl rfl,g2.2 1 _ _ rfl rfl⟩
     | [],g2=>exact absurd g2.1 (by simp)
     | [_],g2=>exact absurd g2.1 (by simp)
     | _::_::_::_,g2=>exact absurd g2.1 (by simp)
    cases b<;>simp only [zx0,reduceCtorEq] at h<;>try (exact absurd (.inr rfl) hc)
    .split at h
     .rename_i st tx hats
      split at h
      .rename_i hsrc
       split at h
       .rename_i s x
        obtain ⟨v,w,rfl,k1,k2⟩:=two s x rfl
        obtain ⟨y,ys,k3,k4⟩:=arg0 s x rfl
        split at h
        .rename_i T hT
         split at h
         .rename_i new hnew
          split at h
          .rename_i hok
           cases hap:zw7 C.D base T s new with
           | none=>rw [hap] at h;simp [zey] at h
           | some q=>
            obtain ⟨q1,q2⟩:=q
            rw [hap] at h
            simp only [zey,tza,DRes.val.injEq] at h
            obtain ⟨rfl,rfl⟩:=h
            have:zz8 P ct.toList [v,w] C.H .append=zsc (zrn P C.H st v w):=by
             simp only [zz8,hats,hsrc,on2]
            rw [this]
            refine (yv0 (tx:=tx) (x:=x) hr hT k1 (zg0 hr k2 hnew) (tzx.1 hok) hap).weak (λo g=>?_)
            show (match zvg Q tm (.call ⟨.builtin .append,ca,ct⟩) with | none=>True | some p=>p=some o)
            simp only [zvg,k3,k4]
            exact g
          .cases h
         .cases h
        .cases h
       .cases h
      .cases h
     .cases h
    .split at h
     .rename_i t hats
      split at h
      .rename_i x
       obtain ⟨v,rfl,k1⟩:∃ v,vs=[v]/\DR C x v:=by
        match vs,g2 with
        | [v],g2=>exact ⟨v,rfl,g2.2 0 _ _ rfl rfl⟩
        | [],g2=>exact absurd g2.1 (by simp)
        | _::_::_,g2=>exact absurd g2.1 (by simp)
       obtain ⟨y,ys,k3,k4⟩:∃ y ys,ca.toList=y::ys/\zzk tm y=some x:=by
        cases hca:ca.toList with
        | nil=>simp only [hca,zy5,tza] at hl;cases hl
        | cons y ys=>
         simp only [hca,zy5] at hl
         split at hl
         .rename_i d0 hd0
          obtain ⟨l',h1,h2⟩:=tzf.1 hl
          simp only [tyi] at h2
          exact ⟨y,ys,rfl,by rw [hd0,h2.1]⟩
         .cases hl
       have:zz8 P ct.toList [v] C.H .clear=zmw P C.H t v:=by
        simp only [zz8,hats,on1]
       rw [this]
       refine (yrm hr k1 h).weak (λo g=>?_)
       show (match zvg Q tm (.call ⟨.builtin .clear,ca,ct⟩) with | none=>True | some p=>p=some o)
       simp only [zvg,k3,k4]
       exact g
      .cases h
     .cases h
    .split at h
     .rename_i t ts hats
      split at h
      .rename_i s x
       obtain ⟨v,w,rfl,k1,k2⟩:=two s x rfl
       obtain ⟨y,ys,k3,k4⟩:=arg0 s x rfl
       split at h
       .rename_i T hT
        split at h
        .rename_i new hnew
         split at h
         .rename_i hok
          have:zz8 P ct.toList [v,w] C.H .copy=zha P C.H t v w:=by
           simp only [zz8,hats,on2]
          rw [this]
          refine (yke hr hT k1 (zg0 hr k2 hnew) (tzx.1 hok) h).weak (λo g=>?_)
          show (match zvg Q tm (.call ⟨.builtin .copy,ca,ct⟩) with | none=>True | some p=>p=some o)
          simp only [zvg,k3,k4]
          exact g
         .cases h
        .cases h
       .cases h
      .cases h
     .cases h
   .rename_i f hf
    obtain ⟨p,h2,h3⟩:=tzh.1 h
    unfold zu8 at h3
    split at h3
    .simp at h3
    .split at h3<;>simp at h3
    .cases h3
   .cases h
  .cases h
 | _=>first | exact same (.inl rfl) | exact same (.inr rfl) | (simp [dop] at h;done)
def zb4 (P:Program) (g:FuncId):Prop:=∃ fn c,P.funcs[g]? =some fn/\fn.body=some c/\(fn.name== "runtime.NumGoroutine")=false
theorem yy3 {g:FuncId} {args:List Value} (h:zb4 P g):ymj P g args=some (.enter g args):=by
 obtain ⟨fn,c,h1,h2,h3⟩:=h
 unfold ymj
 simp only [h1,h2,h3]
 rfl
def zb5 (r:DRes):Prop:=∃ d D,r=.val d D
theorem zt6 {D:DH} {o:Option DV} {r:DRes} (h:zv1 D o=some r):zb5 r:=by
 cases o with
 | none=>simp [zv1] at h
 | some x=>simp only [zv1,tza] at h;exact ⟨x,D,h.symm⟩
theorem zb6 {d:DV} {o:Option DH} {r:DRes} (h:hpD d o=some r):zb5 r:=by
 cases o with
 | none=>simp [hpD] at h
 | some x=>simp only [hpD,tza] at h;exact ⟨d,x,h.symm⟩
theorem ykf {D:DH} {o:Option DV} {r:DRes} (h:yem D o=some r):zb5 r:=by
 unfold yem at h
 split at h
 .split at h
  .simp only [tza] at h;exact ⟨_,_,h.symm⟩
  .cases h
 .cases h
theorem yro {D:DH} {T:SlT} {d:DV} {x:List DV} {r:DRes} (h:ys2 D base T d x=some r):zb5 r:=by
 unfold ys2 at h
 split at h
 .split at h
  .split at h
   .simp only [tza] at h;exact ⟨_,_,h.symm⟩
   .cases h
  .cases h
 .split at h
  .split at h
   .simp only [tza] at h;exact ⟨_,_,h.symm⟩
   .cases h
  .cases h
 .cases h
theorem yv1 {D:DH} {T:Option SlT} {d:DV} {r:DRes} (h:zhp D base T d=some r):zb5 r:=by
 unfold zhp at h
 split at h
 .split at h
  .split at h
   .split at h
    .simp only [tza] at h;exact ⟨_,_,h.symm⟩
    .cases h
   .cases h
  .cases h
 .cases h
theorem zmo {D:DH} {ats:List TypeId} {args:List DV} {b:Builtin} {r:DRes} (h:zx0 P D base ats args b=some r):zb5 r:=by
 cases b<;>simp only [zx0,reduceCtorEq] at h
 .split at h
  .split at h
   .split at h
    .split at h
     .split at h
      .split at h
       .rename_i new _ _
        generalize zw7 D base _ _ new=q at h
        cases q with
        | none=>simp [zey] at h
        | some q=>
         obtain ⟨a,b⟩:=q
         simp only [zey,tza] at h
         exact ⟨_,_,h.symm⟩
       .cases h
      .cases h
     .cases h
    .cases h
   .cases h
  .cases h
 .split at h
  .split at h
   .exact yv1 h
   .cases h
  .cases h
 .split at h
  .split at h
   .split at h
    .split at h
     .split at h
      .exact yro h
      .cases h
     .cases h
    .cases h
   .cases h
  .cases h
 .split at h
  .split at h
   .exact zt6 h
   .cases h
  .cases h
 .exact zt6 h
 .exact zt6 h
theorem yrp {D:DH} {op:Op} {r:DRes} (hc:∀ c,op≠.call c) (h:dop P base tm D op=some r):zb5 r:=by
 cases op with
 | call c=>exact absurd rfl (hc c)
 | alloc e=>
  simp only [dop,zkj] at h
  split at h
  .split at h
   .simp only [tza] at h;exact ⟨_,_,h.symm⟩
   .cases h
  .cases h
 | box e x=>exact ykf h
 | buildSlice t len ps=>
  simp only [dop] at h
  split at h
  .unfold zx2 at h
   split at h
   .split at h
    .obtain ⟨_,_,q⟩:=tzf.1 h
     exact ⟨_,_,q.symm⟩
    .cases h
   .cases h
  .cases h
 | makeSlice t l c=>
  change zez D (tSl P t) (zzk tm l) (zzk tm c)=_ at h
  unfold zez zr4 at h
  split at h
  .split at h
   .split at h
    .split at h
     .simp only [tza] at h;exact ⟨_,_,h.symm⟩
     .cases h
    .cases h
   .cases h
  .cases h
 | makeMap t r'=>
  cases r' with
  | none=>simp only [dop,tza] at h;exact ⟨_,_,h.symm⟩
  | some x=>simp [dop] at h
 | makeFunc fn a b=>
  change zbs D fn (zy5 tm a.toList) (zy5 tm b.toList)=_ at h
  unfold zbs at h
  split at h
  .split at h
   .split at h
    .simp only [tza] at h;exact ⟨_,_,h.symm⟩
    .cases h
   .cases h
  .cases h
 | store t a x=>
  change zpd D base (zyn P t) (zzk tm a) (zzk tm x)=_ at h
  unfold zpd at h
  split at h
  .split at h
   .split at h
    .exact zb6 h
    .cases h
   .cases h
  .cases h
 | insert t m k v=>
  simp only [dop] at h
  split at h
  .split at h
   .split at h
    .exact zb6 h
    .cases h
   .cases h
  .cases h
 | mapUpdate t m k v=>
  simp only [dop] at h
  split at h
  .split at h
   .split at h
    .exact zb6 h
    .cases h
   .cases h
  .cases h
 | load t a=>
  simp only [dop] at h
  split at h
  .exact zt6 h
  .cases h
 | fieldAddr s x f=>
  simp only [dop] at h
  split at h
  .exact zt6 h
  .cases h
 | lookup t m k ok=>
  simp only [dop] at h
  split at h
  .split at h
   .exact zt6 h
   .cases h
  .cases h
 | _=>first | exact zt6 h | (simp [dop] at h;done)
theorem ze9 (ht:TR C tm tmH) {op:Op} {g:FuncId} {args:List DV} (h:dop P base tm C.D op=some (.enter g args)) (hg:zb4 P g):∃ vs,zw1 op P tmH C.H=some (.enter g vs)/\DRs C args vs/\zz0 op=.eff/\∀ Q,zvg Q tm op=if (Q.ann g).raw=true then none else some none:=by
 by_cases hcall:∃ c,op=.call c
 .obtain ⟨c,rfl⟩:=hcall
  change zp7 P tm C.D base c=some (.enter g args) at h
  unfold zp7 at h
  split at h
  .rename_i l hl
   obtain ⟨vs,g1,g2⟩:=zvh (P:=P) ht hl
   split at h
   .obtain ⟨d,D,q⟩:=zmo h
    cases q
   .rename_i f hf
    obtain ⟨p,h2,h3⟩:=tzh.1 h
    obtain ⟨v,e1,e2⟩:=zzq (P:=P) ht h2
    unfold zu8 at h3
    split at h3
    .rename_i g' a b
     simp only [tza,DRes.enter.injEq] at h3
     obtain ⟨rfl,rfl⟩:=h3
     cases e2 with
     | @fn _ _ _ as bs ha hb q1 q2=>
      refine ⟨as++vs++bs,?_,(DRs.append (DRs.append ⟨ha,q1⟩ g2) ⟨hb,q2⟩),?_,λQ=>?_⟩
      .show zsd P tmH C.H c=_
       unfold zsd
       rw [g1,hf]
       simp only [e1]
       exact yy3 hg
      .obtain ⟨cal,ca,ct⟩:=c
       simp only at hf
       subst hf;rfl
      .obtain ⟨cal,ca,ct⟩:=c
       simp only at hf
       subst hf
       simp only [zvg,h2]
       cases (Q.ann g').raw<;>rfl
    .split at h3<;>simp at h3
    .cases h3
   .cases h
  .cases h
 .obtain ⟨d,D,q⟩:=yrp (λc e=>hcall ⟨c,e⟩) h
  cases q
theorem yrq (ht:TR C tm tmH) {op:Op} {l:Nat} {args:List DV} (h:dop P base tm C.D op=some (.yield l args)):∃ vs,zw1 op P tmH C.H=some (.yield (C.σ l) vs)/\DRs C args vs:=by
 by_cases hcall:∃ c,op=.call c
 .obtain ⟨c,rfl⟩:=hcall
  change zp7 P tm C.D base c=some (.yield l args) at h
  unfold zp7 at h
  split at h
  .rename_i as hl
   obtain ⟨vs,g1,g2⟩:=zvh (P:=P) ht hl
   split at h
   .obtain ⟨d,D,q⟩:=zmo h
    cases q
   .rename_i f hf
    obtain ⟨p,h2,h3⟩:=tzh.1 h
    obtain ⟨v,e1,e2⟩:=zzq (P:=P) ht h2
    unfold zu8 at h3
    split at h3
    .simp at h3
    .split at h3
     .rename_i hD
      simp only [tza,DRes.yield.injEq] at h3
      obtain ⟨rfl,rfl⟩:=h3
      cases e2 with
      | yl ho one g=>
       have:=g _ _ _ _ _ _ _ hD
       subst this
       refine ⟨vs,?_,g2⟩
       show zsd P tmH C.H c=_
       unfold zsd
       rw [g1,hf]
       simp only [e1]
       rfl
     .cases h3
    .cases h3
   .cases h
  .cases h
 .obtain ⟨d,D,q⟩:=yrp (λc e=>hcall ⟨c,e⟩) h
  cases q
end Go.Dv
namespace Go.Dv
open Go Go.Sim
variable {W:Nat->Prop} {C C' C'':Ctx} {P:Program} {tm:Trie DV} {tmH:Trie Value} {base:Nat}
theorem zlw {g:DV->Option (FV×List Nat)}:∀ {l:List DV} {xs:List FV} {is:List Nat},zml g l=some (xs,is)->xs.length=l.length/\(∀ (i:Nat) (d:DV),l[i]? =some d->∃ x ids,g d=some (x,ids)/\xs[i]? =some x/\∀ o∈ids,o∈is)/\∀ o∈is,∃ d∈l,∃ x ids,g d=some (x,ids)/\o∈ids
 | [],xs,is,h=>by
  simp only [zml,tza,tzl] at h
  obtain ⟨rfl,rfl⟩:=h
  exact ⟨rfl,λi d h=>by simp at h,λo h=>by cases h⟩
 | d::l,xs,is,h=>by
  simp only [zml] at h
  split at h
  .rename_i x i hx
   split at h
   .rename_i xs' is' hl
    simp only [tza,tzl] at h
    obtain ⟨rfl,rfl⟩:=h
    obtain ⟨h1,h2,h3⟩:=zlw hl
    refine ⟨by simp [h1],λk e hk=>?_,λo ho=>?_⟩
    .cases k with
     | zero=>simp at hk;subst hk;exact ⟨x,i,hx,rfl,λo ho=>txf _ ho⟩
     | succ k=>
      obtain ⟨y,ids,a,b,c⟩:=h2 k e (by simpa using hk)
      exact ⟨y,ids,a,b,λo ho=>txg _ (c o ho)⟩
    .rcases tyh.1 ho with ho | ho
     .exact ⟨d,tz0 ..,x,i,hx,ho⟩
     .obtain ⟨e,a,b⟩:=h3 o ho
      exact ⟨e,tzq _ a,b⟩
   .cases h
  .cases h
theorem zg4 {S:Nat->Prop} {H:Hp} {x:FV} {v:Value} (h:FR S H x v):FR S H (zu9 x) v:=by
 unfold zu9
 split
 .cases h;exact .nil
 .exact h
theorem zoh {x:FV} (h:zq2 x=true):zq2 (zu9 x)=true:=by
 unfold zu9
 split
 .rfl
 .exact h
theorem ykg (hr:HR C) {S':Nat->Prop} (hS:∀ b,C.S b->S' b):∀ k,
  (∀ (d:DV) (v:Value) (x:FV) (ids:List Nat),(∀ l,d≠.agg l)->DR C d v->frz base C.D k d=some (x,ids)->(∀ o∈ids,∀ y,C.D[o]? =some y->zkp y=true->S' (C.σ o))->FR S' C.H x v/\(zut d=true->zq2 x=true)) /\
  (∀ (sz:Nat) (d:DV) (w:Nat->Value) (x:FV) (ids:List Nat),zqv sz d=true->(∀ (j:Nat) (y:DV),(zzd d)[j]? =some y->DR C y (w j))->frz base C.D k d=some (x,ids)->(∀ o∈ids,∀ y,C.D[o]? =some y->zkp y=true->S' (C.σ o)) ->
   (zxj x).length=sz/\∀ (j:Nat) (y:FV),(zxj x)[j]? =some y->FR S' C.H y (w j)/\zq2 y=true):=by
 have plain:∀ (x:FV) (v:Value),DR C (.f x) v->FR S' C.H (zu9 x) v:=λx v h=>by
  cases h with
  | f h=>exact zg4 (h.mono hS (λ_ _=>rfl))
 intro k
 induction k with
 | zero=>
  have first:∀ (d:DV) (v:Value) (x:FV) (ids:List Nat),(∀ l,d≠.agg l)->DR C d v->frz base C.D 0 d=some (x,ids)->(∀ o∈ids,∀ y,C.D[o]? =some y->zkp y=true->S' (C.σ o))->FR S' C.H x v/\(zut d=true->zq2 x=true):=by
   intro d v x ids hna hd h _
   cases d<;>simp only [frz,tza,tzl,reduceCtorEq] at h
   obtain ⟨rfl,rfl⟩:=h
   exact ⟨plain _ _ hd,zoh⟩
  refine ⟨first,λsz d w x ids hok hw h hids=>?_⟩
  obtain ⟨l1,l2⟩:=zxa hok
  cases d<;>simp only [frz,tza,tzl,reduceCtorEq] at h
  rename_i y
  obtain ⟨rfl,rfl⟩:=h
  have h1:=l2 (.f y) (tzw.2 rfl)
  have hc:zxj (zu9 y)=[zu9 y]:=by
   have:=zoh h1
   cases hq:zu9 y with
   | agg=>rw [hq] at this;simp [zq2] at this
   | _=>rfl
  rw [hc]
  refine ⟨by simpa [zzd] using l1,λj z hz=>?_⟩
  cases j with
  | zero=>simp at hz;subst hz;exact ⟨plain _ _ (hw 0 _ rfl),zoh h1⟩
  | succ j=>simp at hz
 | succ k ih=>
  obtain ⟨ih1,ih2⟩:=ih
  have lst:∀ (o off len:Nat) (sz:Nat) (els:List DV) (cs:List Value) (xs:List FV) (is:List Nat) (b cap:Nat),C.H.row b=some cs->S' b->Cl C sz els cs->0<sz∨len=0->off+len<=els.length->(cap<U->len<=cap) ->
    zml (frz base C.D k) ((els.drop off).take len)=some (xs,is)->(∀ o∈is,∀ y,C.D[o]? =some y->zkp y=true->S' (C.σ o))->FR S' C.H (.lst xs) (.slice (some ⟨b,off*sz,none⟩) len cap):=by
   intro o off len sz els cs xs is b cap hrow hb hc hsz hle hcap hf hids
   obtain ⟨f1,f2,f3⟩:=zlw hf
   have hlen:((els.drop off).take len).length=len:=by simp;omega
   have hx:∀ (i:Nat) (x:FV),xs[i]? =some x->∃ d ids,els[off+i]? =some d/\frz base C.D k d=some (x,ids)/\∀ o∈ids,o∈is:=λi x hx=>by
    obtain ⟨d,hd⟩:=zux (l:=(els.drop off).take len) (i:=i) (by rw [<-f1];exact zxc hx)
    obtain ⟨y,ids,a1,a2,a3⟩:=f2 i d hd
    rw [a2] at hx
    simp only [tza] at hx
    subst hx
    rw [tyb] at hd
    split at hd
    .rw [tyj] at hd
     exact ⟨d,ids,hd,a1,a3⟩
    .cases hd
   have hcell:∀ (i:Nat) (x:FV),xs[i]? =some x->(zxj x).length=sz/\∀ (j:Nat) (y:FV),(zxj x)[j]? =some y->cs[off*sz+i*sz+j]? =some ((cs[off*sz+i*sz+j]?).getD undef)/\FR S' C.H y ((cs[off*sz+i*sz+j]?).getD undef)/\zq2 y=true:=λi x hxi=>by
    obtain ⟨d,ids,a1,a2,a3⟩:=hx i x hxi
    have hok:=hc.ok _ d a1
    obtain ⟨q1,q2⟩:=ih2 sz d (λj=>(cs[(off+i)*sz+j]?).getD undef) x ids hok (λj y hy=>by
     obtain ⟨w,w1,w2⟩:=hc.el _ d j y a1 hy
     rw [w1];exact w2) a2 (λo ho=>hids o (a3 o ho))
    refine ⟨q1,λj y hy=>?_⟩
    obtain ⟨z,hz⟩:=zux (l:=zzd d) (i:=j) (by rw [(zxa hok).1,<-q1];exact zxc hy)
    obtain ⟨w,w1,w2⟩:=hc.el _ d j z a1 hz
    have e:=q2 j y hy
    rw [txb] at w1 e
    rw [w1] at e ⊢
    exact ⟨rfl,e.1,e.2⟩
   by_cases hl0:len=0
   .subst hl0
    have:xs=[]:=tzy (by rw [f1];simp)
    subst this
    refine .lst (sz:=1) (λ_ _=>undef) rfl hb hrow (by omega) ?_ hcap (λi x h=>by simp at h) (λi x j y h=>by simp at h) (λi x j y h=>by simp at h)
    rw [hc.len]
    have:=txn sz (show off<=els.length by omega)
    simpa using this
   .have hz:0<sz:=by omega
    refine .lst (λi j=>(cs[off*sz+i*sz+j]?).getD undef) (by rw [f1,hlen]) hb hrow hz ?_ hcap (λi x h=>(hcell i x h).1) (λi x j y h1 h2=>?_) (λi x j y h1 h2=>((hcell i x h1).2 j y h2).2.1)
    .rw [f1,hlen,hc.len,<-txb];exact txn _ hle
    .obtain ⟨q1,q2,q3⟩:=(hcell i x h1).2 j y h2
     exact ⟨q1,hc.one _ (tzg q1),q3⟩
  have first:∀ (d:DV) (v:Value) (x:FV) (ids:List Nat),(∀ l,d≠.agg l)->DR C d v->frz base C.D (k+1) d=some (x,ids)->(∀ o∈ids,∀ y,C.D[o]? =some y->zkp y=true->S' (C.σ o))->FR S' C.H x v/\(zut d=true->zq2 x=true):=by
   intro d v x ids hna hd h hids
   cases d with
   | f y=>
    simp only [frz,tza,tzl] at h
    obtain ⟨rfl,rfl⟩:=h
    exact ⟨plain _ _ hd,zoh⟩
   | agg l=>exact absurd rfl (hna l)
   | row o off len cap=>
    simp only [frz] at h
    split at h
    .rename_i sz els hD
     split at h
     .rename_i hb
      obtain ⟨⟨xs,is⟩,f1,f2⟩:=tzf.1 h
      simp only [tzl] at f2
      obtain ⟨rfl,rfl⟩:=f2
      cases hd with
      | row ho one g=>
       obtain ⟨e1,g1,g2,g3⟩:=g _ _ hD
       obtain ⟨cs,h1,h2⟩:=zby hr hD
       subst e1
       refine ⟨?_,λ_=>rfl⟩
       exact lst o off len sz els cs xs is (C.σ o) cap h1 (hids o (tz0 ..) _ hD rfl) h2 (.inl hb.2.2) hb.2.1 (λ_=>g2) f1 (λp hp=>hids p (tzq _ hp))
     .cases h
    .cases h
   | apl o len=>
    simp only [frz] at h
    split at h
    .rename_i e sz els hD
     split at h
     .rename_i hb
      obtain ⟨⟨xs,is⟩,f1,f2⟩:=tzf.1 h
      simp only [tzl] at f2
      obtain ⟨rfl,rfl⟩:=f2
      cases hd with
      | apl ho one g=>
       obtain ⟨hb1,rfl,hb3⟩:=hb
       have e1:=(g.2 _ _ _ hD).2 rfl
       refine ⟨?_,λ_=>rfl⟩
       by_cases hne:els=[]
       .subst hne
        simp only [zml,tza,tzl] at f1
        obtain ⟨rfl,rfl⟩:=f1
        rw [e1]
        exact .nil
       .obtain ⟨cs,h1,h2⟩:=zgy hr hD hne
        obtain ⟨l0,hl0⟩:∃ l0,els.length=l0+1:=⟨els.length-1,by cases els with | nil=>exact absurd rfl hne | cons=>simp⟩
        have hv:v=.slice (some ⟨C.σ o,0*sz,none⟩) els.length (U+2*C.σ o):=by rw [e1,hl0,Nat.zero_mul];rfl
        rw [hv]
        refine lst o 0 els.length sz els cs xs is (C.σ o) _ h1 (hids o (tz0 ..) _ hD ?_) h2 (.inl hb3) (by omega) (λg=>by omega) ?_ (λp hp=>hids p (tzq _ hp))
        .cases els with
         | nil=>exact absurd rfl hne
         | cons=>rfl
        .rw [List.drop_zero,ty0];exact f1
     .cases h
    .cases h
   | _=>simp [frz] at h
  refine ⟨first,λsz d w x ids hok hw h hids=>?_⟩
  obtain ⟨l1,l2⟩:=zxa hok
  by_cases hag:∃ l,d=.agg l
  .obtain ⟨l,rfl⟩:=hag
   simp only [frz] at h
   split at h
   .rename_i hone
    obtain ⟨⟨xs,is⟩,f1,f2⟩:=tzf.1 h
    simp only [tzl] at f2
    obtain ⟨rfl,rfl⟩:=f2
    obtain ⟨g1,g2,g3⟩:=zlw f1
    refine ⟨by rw [<-l1];exact g1,λj y hy=>?_⟩
    change xs[j]? =some y at hy
    obtain ⟨d,hd⟩:=zux (l:=l) (i:=j) (by rw [<-g1];exact zxc hy)
    obtain ⟨x,ids',a1,a2,a3⟩:=g2 j d hd
    rw [a2] at hy
    simp only [tza] at hy
    subst hy
    have hod:=l2 d (tzg hd)
    have:=ih1 d (w j) x ids' (λl' e=>by subst e;simp [zut] at hod) (hw j d hd) a1 (λo ho=>hids o (a3 o ho))
    exact ⟨this.1,this.2 hod⟩
   .cases h
  .have hna:∀ l,d≠.agg l:=λl e=>hag ⟨l,e⟩
   have hcd:zzd d=[d]:=by cases d<;>first | rfl | exact absurd rfl (hna _)
   rw [hcd] at l1 l2
   have hod:=l2 d (tzw.2 rfl)
   obtain ⟨q1,q2⟩:=first d (w 0) x ids hna (hw 0 d (by rw [hcd];rfl)) h hids
   have hcf:zxj x=[x]:=by
    have:=q2 hod
    cases x with
    | agg=>simp [zq2] at this
    | _=>rfl
   rw [hcf]
   refine ⟨l1,λj y hy=>?_⟩
   cases j with
   | zero=>simp at hy;subst hy;exact ⟨q1,q2 hod⟩
   | succ j=>simp at hy
theorem ycd:∀ k {d:DV} {x:FV} {ids:List Nat} {D:DH},frz base D k d=some (x,ids)->∀ o∈ids,base<=o/\((∃ sz els,D[o]? =some (.arr sz els))∨∃ e sz els,D[o]? =some (.app e sz els)):=by
 intro k
 induction k with
 | zero=>
  intro d x ids D h
  cases d<;>simp only [frz,tza,tzl,reduceCtorEq] at h
  obtain ⟨_,rfl⟩:=h
  intro o ho;cases ho
 | succ k ih=>
  have key:∀ {l:List DV} {xs:List FV} {is:List Nat} {D:DH},zml (frz base D k) l=some (xs,is)->∀ o∈is,base<=o/\((∃ sz els,D[o]? =some (.arr sz els))∨∃ e sz els,D[o]? =some (.app e sz els)):=by
   intro l xs is D h o ho
   obtain ⟨_,_,h3⟩:=zlw h
   obtain ⟨d,_,x,ids,a,b⟩:=h3 o ho
   exact ih a o b
  intro d x ids D h
  cases d with
  | f y=>
   simp only [frz,tza,tzl] at h
   obtain ⟨_,rfl⟩:=h
   intro o ho;cases ho
  | agg l=>
   simp only [frz] at h
   split at h
   .obtain ⟨⟨xs,is⟩,f1,f2⟩:=tzf.1 h
    simp only [tzl] at f2
    obtain ⟨rfl,rfl⟩:=f2
    exact key f1
   .cases h
  | row o off len cap=>
   simp only [frz] at h
   split at h
   .rename_i sz els hD
    split at h
    .rename_i hb
     obtain ⟨⟨xs,is⟩,f1,f2⟩:=tzf.1 h
     simp only [tzl] at f2
     obtain ⟨rfl,rfl⟩:=f2
     intro p hp
     rcases tzu.1 hp with rfl | hp
     .exact ⟨hb.1,.inl ⟨_,_,hD⟩⟩
     .exact key f1 p hp
    .cases h
   .cases h
  | apl o len=>
   simp only [frz] at h
   split at h
   .rename_i e sz els hD
    split at h
    .rename_i hb
     obtain ⟨⟨xs,is⟩,f1,f2⟩:=tzf.1 h
     simp only [tzl] at f2
     obtain ⟨rfl,rfl⟩:=f2
     intro p hp
     rcases tzu.1 hp with rfl | hp
     .exact ⟨hb.1,.inr ⟨_,_,_,hD⟩⟩
     .exact key f1 p hp
    .cases h
   .cases h
  | _=>simp [frz] at h
theorem HR.freezeL:∀ (ids:List Nat) {C:Ctx} (hr:HR C) (D0:DH),(∀ o∈ids,base<=o/\(C.D[o]? =D0[o]?∨C.D[o]? =some .dead)/\((∃ sz els,D0[o]? =some (.arr sz els))∨∃ e sz els,D0[o]? =some (.app e sz els))) ->
  ∃ C',C'.H=C.H/\C'.D=zes C.D ids/\C'.σ=C.σ/\HR C'/\Nx (λo=>base<=o) C C'/\∀ o∈ids,∀ y,C.D[o]? =some y->zkp y=true->C'.S (C.σ o)
 | [],C,hr,D0,_=>⟨C,rfl,rfl,rfl,hr,Nx.refl hr,λo ho=>by cases ho⟩
 | o::ids,C,hr,D0,h=>by
  obtain ⟨h1,h2,h3⟩:=h o (tz0 ..)
  have step:∃ C1,C1.H=C.H/\C1.D=C.D.set o .dead/\C1.σ=C.σ/\HR C1/\Nx (λp=>p=o) C C1/\∀ y,C.D[o]? =some y->zkp y=true->C1.S (C.σ o):=by
   rcases h2 with h2 | h2
   .rcases h3 with ⟨sz,els,h3⟩ | ⟨e,sz,els,h3⟩
    .rw [h3] at h2
     obtain ⟨C1,a1,a2,a3,a4,a5,a6⟩:=hr.freeze h2 (.inl ⟨_,_,rfl⟩)
     exact ⟨C1,a1,a2,a3,a4,a5,λy hy=>by rw [h2] at hy;simp only [tza] at hy;subst hy;exact a6⟩
    .rw [h3] at h2
     obtain ⟨C1,a1,a2,a3,a4,a5,a6⟩:=hr.freeze h2 (.inr ⟨_,_,_,rfl⟩)
     exact ⟨C1,a1,a2,a3,a4,a5,λy hy=>by rw [h2] at hy;simp only [tza] at hy;subst hy;exact a6⟩
   .obtain ⟨C1,a1,a2,a3,a4,a5,a6⟩:=hr.drop1 o
    exact ⟨C1,a1,a2,a6,a4,a5,λy hy ho=>by rw [h2] at hy;simp only [tza] at hy;subst hy;simp [zkp] at ho⟩
  obtain ⟨C1,a1,a2,a3,a4,a5,a6⟩:=step
  obtain ⟨C',b1,b2,b3,b4,b5,b6⟩:=HR.freezeL ids a4 D0 (λp hp=>by
   obtain ⟨q1,q2,q3⟩:=h p (tzq _ hp)
   refine ⟨q1,?_,q3⟩
   rw [a2,tya]
   by_cases e:o=p
   .subst e
    rw [if_pos rfl]
    right
    have:o<C.D.length:=by
     rcases q2 with q | q
     .rcases q3 with ⟨_,_,g⟩ | ⟨_,_,_,g⟩
      .rw [g] at q;exact zxc q
      .rw [g] at q;exact zxc q
     .exact zxc q
    rw [if_pos this]
   .rw [if_neg e];exact q2)
  refine ⟨C',b1.trans a1,by rw [b2,a2];rfl,b3.trans a3,b4,(a5.weak (λp hp=>by subst hp;exact h1)).trans b5,λp hp y hy ho=>?_⟩
  by_cases e:p=o
  .subst e
   exact b5.S _ (a6 y hy ho)
  .rcases tzu.1 hp with hp | hp
   .exact absurd hp e
   .have:=b6 p hp y (by rw [a2,tya,if_neg (Ne.symm e)];exact hy) ho
    rw [a3] at this
    exact this
theorem FR.sub {S S':Nat->Prop} {H:Hp} (hS:∀ b,S b->S' b) {x:FV} {v:Value} (h:FR S H x v):FR S' H x v:=h.mono hS (λ_ _=>rfl)
theorem zda (hr:HR C) {S':Nat->Prop} (hS:∀ b,C.S b->S' b) {d d':DV} {v:Value} {ids:List Nat} (hna:∀ l,d≠.agg l) (hd:DR C d v) (h:zhq base C.D d=some (d',ids)) (hids:∀ o∈ids,∀ y,C.D[o]? =some y->zkp y=true->S' (C.σ o)) :
  ∃ x,d'=.f x/\FR S' C.H x v:=by
 unfold zhq at h
 obtain ⟨⟨x,is⟩,f1,f2⟩:=tzf.1 h
 simp only [tzl] at f2
 obtain ⟨rfl,rfl⟩:=f2
 exact ⟨x,rfl,((ykg hr hS 4).1 d v x is hna hd f1 hids).1⟩
theorem yy4 {d d':DV} {ids:List Nat} {D:DH} (h:zhq base D d=some (d',ids)):∀ o∈ids,base<=o/\((∃ sz els,D[o]? =some (.arr sz els))∨∃ e sz els,D[o]? =some (.app e sz els)):=by
 unfold zhq at h
 obtain ⟨⟨x,is⟩,f1,f2⟩:=tzf.1 h
 simp only [tzl] at f2
 obtain ⟨_,rfl⟩:=f2
 exact ycd 4 f1
theorem zqa {g:DV->Option (DV×List Nat)}:∀ {l xs:List DV} {is:List Nat},zbm g l=some (xs,is)->xs.length=l.length/\(∀ (i:Nat) (d:DV),l[i]? =some d->∃ x ids,g d=some (x,ids)/\xs[i]? =some x/\∀ o∈ids,o∈is)/\∀ o∈is,∃ d∈l,∃ x ids,g d=some (x,ids)/\o∈ids
 | [],xs,is,h=>by
  simp only [zbm,tza,tzl] at h
  obtain ⟨rfl,rfl⟩:=h
  exact ⟨rfl,λi d h=>by simp at h,λo h=>by cases h⟩
 | d::l,xs,is,h=>by
  simp only [zbm] at h
  split at h
  .rename_i x i hx
   split at h
   .rename_i xs' is' hl
    simp only [tza,tzl] at h
    obtain ⟨rfl,rfl⟩:=h
    obtain ⟨h1,h2,h3⟩:=zqa hl
    refine ⟨by simp [h1],λk e hk=>?_,λo ho=>?_⟩
    .cases k with
     | zero=>simp at hk;subst hk;exact ⟨x,i,hx,rfl,λo ho=>txf _ ho⟩
     | succ k=>
      obtain ⟨y,ids,a,b,c⟩:=h2 k e (by simpa using hk)
      exact ⟨y,ids,a,b,λo ho=>txg _ (c o ho)⟩
    .rcases tyh.1 ho with ho | ho
     .exact ⟨d,tz0 ..,x,i,hx,ho⟩
     .obtain ⟨e,a,b⟩:=h3 o ho
      exact ⟨e,tzq _ a,b⟩
   .cases h
  .cases h
theorem zdb (hr:HR C) {d d':DV} {v:Value} {ids:List Nat} (hd:DR C d v) (h:zbn base C.D d=some (d',ids)) (hC:C'.H=C.H) (hS:∀ b,C.S b->C'.S b) (hids:∀ o∈ids,∀ y,C.D[o]? =some y->zkp y=true->C'.S (C.σ o)):DR C' d' v:=by
 have one:(∀ l,d≠.agg l)->zhq base C.D d=some (d',ids)->DR C' d' v:=λhna h=>by
  obtain ⟨x,rfl,q⟩:=zda hr hS hna hd h hids
  exact .f (by rw [hC];exact q)
 cases d with
 | agg l=>
  simp only [zbn] at h
  split at h
  .rename_i hone
   obtain ⟨⟨xs,is⟩,f1,f2⟩:=tzf.1 h
   simp only [tzl] at f2
   obtain ⟨rfl,rfl⟩:=f2
   obtain ⟨g1,g2,g3⟩:=zqa f1
   cases hd with
   | @agg _ vs hl hv=>
    refine .agg (by rw [hl,g1]) (λi x w h1 h2=>?_)
    obtain ⟨e,he⟩:=zux (l:=l) (i:=i) (by rw [<-g1];exact zxc h1)
    obtain ⟨y,ids',a1,a2,a3⟩:=g2 i e he
    rw [a2] at h1
    simp only [tza] at h1
    subst h1
    have hoe:=tzx.1 hone e (tzg he)
    obtain ⟨z,rfl,q⟩:=zda hr hS (λl' e'=>by subst e';simp [zut] at hoe) (hv i e w he h2) a1 (λo ho=>hids o (a3 o ho))
    exact .f (by rw [hC];exact q)
  .cases h
 | fn g a b=>
  unfold zbn at h
  split at h
  .rename_i heq;cases heq
  .rename_i heq
   simp only [DV.fn.injEq] at heq
   obtain ⟨rfl,rfl,rfl⟩:=heq
   simp only [tza,tzl] at h
   obtain ⟨rfl,rfl⟩:=h
   cases hd with
   | fn ha hb h1 h2=>exact .fn ha hb (λi d v h=>by simp at h) (λi d v h=>by simp at h)
  .exact one (λl e=>by cases e) h
 | _=>exact one (λl e=>by cases e) h
theorem zlx {d d':DV} {ids:List Nat} {D:DH} (h:zbn base D d=some (d',ids)):∀ o∈ids,base<=o/\((∃ sz els,D[o]? =some (.arr sz els))∨∃ e sz els,D[o]? =some (.app e sz els)):=by
 unfold zbn at h
 split at h
 .split at h
  .obtain ⟨⟨xs,is⟩,f1,f2⟩:=tzf.1 h
   simp only [tzl] at f2
   obtain ⟨_,rfl⟩:=f2
   obtain ⟨g1,g2,g3⟩:=zqa f1
   intro o ho
   obtain ⟨e,_,x,ids,a,b⟩:=g3 o ho
   exact yy4 a o b
  .cases h
 .simp only [tza,tzl] at h
  obtain ⟨_,rfl⟩:=h
  intro o ho;cases ho
 .exact yy4 h
theorem zb7 (hr:HR C) {d d':DV} {v:Value} {ids:List Nat} (hd:DR C d v) (h:znh base C.D d=some (d',ids)):∃ C',C'.H=C.H/\C'.D=zes C.D ids/\C'.σ=C.σ/\HR C'/\Nx (λo=>base<=o) C C'/\DR C' d' v:=by
 have hids:∀ o∈ids,base<=o/\((∃ sz els,C.D[o]? =some (.arr sz els))∨∃ e sz els,C.D[o]? =some (.app e sz els)):=by
  unfold znh at h
  split at h
  .obtain ⟨⟨xs,is⟩,f1,f2⟩:=tzf.1 h
   simp only [tzl] at f2
   obtain ⟨_,rfl⟩:=f2
   obtain ⟨g1,g2,g3⟩:=zqa f1
   intro o ho
   obtain ⟨e,_,x,ids,a,b⟩:=g3 o ho
   exact zlx a o b
  .exact zlx h
 obtain ⟨C',a1,a2,a3,a4,a5,a6⟩:=HR.freezeL ids hr C.D (λo ho=>⟨(hids o ho).1,.inl rfl,(hids o ho).2⟩)
 refine ⟨C',a1,a2,a3,a4,a5,?_⟩
 unfold znh at h
 split at h
 .rename_i l
  obtain ⟨⟨xs,is⟩,f1,f2⟩:=tzf.1 h
  simp only [tzl] at f2
  obtain ⟨rfl,rfl⟩:=f2
  obtain ⟨g1,g2,g3⟩:=zqa f1
  cases hd with
  | @tup _ vs hl hv=>
   refine .tup (by rw [hl,g1]) (λi x w h1 h2=>?_)
   obtain ⟨e,he⟩:=zux (l:=l) (i:=i) (by rw [<-g1];exact zxc h1)
   obtain ⟨y,ids',b1,b2,b3⟩:=g2 i e he
   rw [b2] at h1
   simp only [tza] at h1
   subst h1
   exact zdb hr (hv i e w he h2) b1 a1 a5.S (λo ho=>a6 o (b3 o ho))
 .exact zdb hr hd h a1 a5.S a6
theorem ykh {d:DV} {v:Value} (h:DR C d v):DR C (zuw d) v:=by
 cases h with
 | f h=>exact .f (zg4 h)
 | @agg ds vs hl hv=>
  refine .agg (by simp [hl]) (λi x w h1 h2=>?_)
  simp only [tzr] at h1
  obtain ⟨e,he,rfl⟩:=tzf.1 h1
  have:=hv i e w he h2
  cases e with
  | f x=>
   cases this with
   | f h=>exact .f (zg4 h)
  | _=>exact this
 | tup hl hv=>exact .tup hl hv
 | fn ha hb h1 h2=>exact .fn ha hb h1 h2
 | yl ho one g=>exact .yl ho one g
 | ref ho one g=>exact .ref ho one g
 | rfa ho one hn g=>exact .rfa ho one hn g
 | row ho one g=>exact .row ho one g
 | apl ho one g=>exact .apl ho one g
 | prt ho one hn g=>exact .prt ho one hn g
 | mp ho one g=>exact .mp ho one g
 | fp w hb hc hw hr=>exact .fp w hb hc hw hr
theorem TR.putS {t:Tmp} {d:DV} {v:Value} (ht:TR C tm tmH) (hv:tmH.get t=some v) (hd:DR C d v):TR C (tm.put t d) tmH:=λu e he=>by
 rw [Trie.get_put] at he
 split at he
 .rename_i q;subst q;simp only [tza] at he;subst he;exact ⟨v,hv,hd⟩
 .exact ht u e he
theorem HR.turn2 (hr:HR C) {o sz:Nat} {els els':List DV} (ho:C.D[o]? =some (.arr sz els)) (hl:els'.length=els.length) (hob:∀ cs e,C.H.get (C.σ o)=some (.cells cs e none)->Cl C sz els cs->Cl C sz els' cs) :
  ∃ C',C'.H=C.H/\C'.D=C.D.set o (.arr sz els')/\HR C'/\Nx (λp=>p=o) C C':=by
 have hol:=zxc ho
 have hown:Own C o (C.σ o):=⟨_,ho,rfl,rfl⟩
 have u:Upd o C ⟨C.σ,C.S,C.H,C.D.set o (.arr sz els')⟩:=
  {
   n:=tzp _
   S:=rfl
   wf:=hr.wf
   len:=by simp
   D:=λp h=>by simp [tya,Ne.symm h]
   σ:=λp h=>rfl
   get:=λ_ _ _=>rfl
   stk:=λ_ _ _=>rfl
   evo:=λy h hy=>by
    simp [hol] at hy
    subst hy
    exact .inr ⟨_,ho,rfl,hl,rfl⟩
   own:=λb g=>by
    obtain ⟨y,h1,h2,h3⟩:=g
    exact .inl (by rw [h3];exact hown)
   cls:=λk g=>by
    obtain ⟨e,sz,els,cs,e',h1,h2,h3⟩:=g
    simp [hol] at h1 }
 have nx:=u.nx hr
 refine ⟨⟨C.σ,C.S,C.H,C.D.set o (.arr sz els')⟩,rfl,rfl,u.hr hr (λy hy=>?_),nx⟩
 simp [hol] at hy
 subst hy
 obtain ⟨cs,e,g1,g2⟩:=hr.ob o _ ho
 exact ⟨cs,e,g1,(hob cs e g1 g2).mono nx hr⟩
theorem HR.turn (hr:HR C) {o sz:Nat} {els els':List DV} (ho:C.D[o]? =some (.arr sz els)) (hl:els'.length=els.length) (hob:∀ cs,Cl C sz els cs->Cl C sz els' cs) :
  ∃ C',C'.H=C.H/\C'.D=C.D.set o (.arr sz els')/\HR C'/\Nx (λp=>p=o) C C':=hr.turn2 ho hl λcs _ _=>hob cs
theorem yy5:∀ {l:List Nat} {D:DH} {o:Nat} {x:DObj},(zes D l)[o]? =some x->x≠.dead->D[o]? =some x
 | [],D,o,x,h,_=>h
 | a::l,D,o,x,h,hd=>by
  have:=yy5 (l:=l) (D:=D.set a .dead) h hd
  rw [tya] at this
  split at this
  .split at this
   .simp only [tza] at this;exact absurd this.symm hd
   .cases this
  .exact this
theorem HR.nilApps (hr:HR C) (e sz:Nat):∀ (n:Nat),∃ C',C'.H=C.H/\C'.D=C.D++List.replicate n (.app e sz [])/\HR C'/\Nx (λ_=>False) C C'/\(∀ o,o<C.D.length->C'.σ o=C.σ o)/\∀ i,i<n->DR C' (.apl (C.D.length+i) 0) (.slice none 0 0)
 | 0=>⟨C,rfl,by simp,hr,Nx.refl hr,λ_ _=>rfl,λi h=>absurd h (txs _)⟩
 | n+1=>by
  obtain ⟨C1,a1,a2,a3,a4,a5,a6⟩:=HR.nilApps hr e sz n
  obtain ⟨C2,b1,b2,b3,b4,b5,b6⟩:=a3.nilApp e sz
  have nx:=a4.trans b5
  refine ⟨C2,b1.trans a1,by rw [b2,a2,tyd,<-List.replicate_succ'],b4,nx,λo ho=>(nx.kp o ho (λh=>h)).2.1,λi hi=>?_⟩
  by_cases h:i=n
  .subst h
   have hl:C1.D.length=C.D.length+i:=by rw [a2];simp
   have:=zog (C':=C2) (o:=C1.D.length) (e:=e) (sz:=sz) (els:=[]) (by rw [b2,zyi]) (v:=.slice none 0 0) rfl
   rw [hl] at this
   exact this
  .exact (a6 i (by omega)).mono b5 a3
theorem yy6:∀ {ds:List DV} {ys:List FV},ysp ds=some ys->∀ {j:Nat} {y:FV},ys[j]? =some y->ds[j]? =some (.f y)
 | [],ys,h,j,y,hy=>by simp [ysp] at h;subst h;simp at hy
 | d::ds,ys,h,j,y,hy=>by
  cases d with
  | f x=>
   simp only [ysp] at h
   obtain ⟨zs,h1,rfl⟩:=tzf.1 h
   cases j with
   | zero=>simpa using hy
   | succ j=>
    simp only [txr] at hy ⊢
    exact yy6 h1 hy
  | _=>simp [ysp] at h
theorem yki (hr:HR C) {s s':SD} {g:Gh} (hD:C.D=s.D) (ht:TR C s.tm tmH) (h:zwi base s g=some s'):∃ C',C'.H=C.H/\C'.D=s'.D/\HR C'/\Nx (λo=>base<=o) C C'/\TR C' s'.tm tmH:=by
 obtain ⟨stm,sD⟩:=s
 simp only at hD ht
 subst hD
 cases g with
 | frz t=>
  simp only [zwi] at h
  split at h
  .rename_i d hd
   split at h
   .rename_i d' is hf
    simp only [tza] at h
    subst h
    obtain ⟨v,h1,h2⟩:=ht t d hd
    obtain ⟨C',a1,a2,a3,a4,a5,a6⟩:=zb7 hr h2 hf
    exact ⟨C',a1,a2,a4,a5,(ht.mono a5 hr).putS h1 a6⟩
   .cases h
  .cases h
 | frzP t=>
  simp only [zwi] at h
  split at h
  .rename_i o ht'
   split at h
   .rename_i sz d hD
    split at h
    .rename_i ys hys
     split at h
     .rename_i hb
      simp only [tza] at h
      subst h
      obtain ⟨v,h1,h2⟩:=ht t _ ht'
      obtain ⟨C',a1,a2,a3,a4,a5,a6⟩:=hr.freeze hD (.inl ⟨sz,[d],rfl⟩)
      obtain ⟨cs,e,g1,g2⟩:=hr.ob o _ hD
      have hv:v=.pointer (some ⟨C.σ o,0,none⟩):=by
       cases h2 with
       | ref ho one h=>simpa using h _ _ hD
      have nx:Nx (λo=>base<=o) C C':=a5.weak (λp hp=>by subst hp;exact hb.1)
      refine ⟨C',a1,a2,a4,nx,(ht.mono nx hr).putS h1 ?_⟩
      subst hv
      have hel:∀ (j:Nat) (y:FV),ys[j]? =some y->∃ w,cs[j]? =some w/\DR C (.f y) w:=λj y hy=>by
       have:=g2.el 0 d j (.f y) rfl (yy6 hys hy)
       simpa using this
      rw [<-a3]
      refine .fp (λj=>(cs[j]?).getD undef) (by rw [a3];exact a6 rfl) (c:=cs) (by rw [a1,a3];exact zoe g1) (λj y hy=>?_) (λj y hy=>?_)
      .obtain ⟨w,e1,e2⟩:=hel j y hy
       simp only [txj,e1,tye,true_and]
       exact g2.one w (tzg e1)
      .obtain ⟨w,e1,e2⟩:=hel j y hy
       simp only [e1,tye]
       cases e2.mono nx hr with
       | f h=>exact h
     .cases h
    .cases h
   .cases h
  .cases h
 | own t e sz=>
  simp only [zwi] at h
  split at h
  .rename_i hd
   simp only [tza] at h
   subst h
   obtain ⟨v,h1,h2⟩:=ht t _ hd
   obtain ⟨C',a1,a2,a3,a4,a5,a6⟩:=hr.nilApp e sz
   refine ⟨C',a1,a2,a4,a5.weak (λ_ h=>h.elim),(ht.mono a5 hr).putS h1 ?_⟩
   rw [zet h2]
   exact zog (els:=[]) (by rw [a2,zyi]) rfl
  .cases h
 | ownC t k e sz=>
  simp only [zwi] at h
  split at h
  .rename_i o i j ht'
   split at h
   .rename_i s' els hD
    split at h
    .rename_i cs hels
     split at h
     .rename_i hcs
      split at h
      .rename_i hb
       simp only [tza] at h
       subst h
       obtain ⟨C1,a1,a2,a3,a4,a5,a6⟩:=hr.nilApp e sz
       have hol:=zxc hD
       have hD1:C1.D[o]? =some (.arr s' els):=by rw [a2,tzs hol];exact hD
       have hil:=zxc hels
       have hapl:∀ v,DR C1 zyw v->DR C1 (.apl C.D.length 0) v:=λv hv=>by
        rw [zet hv]
        exact zog (els:=[]) (by rw [a2,zyi]) rfl
       have hcl:∀ ws,Cl C1 s' els ws->Cl C1 s' (els.set i (.agg (cs.set (j+k) (.apl C.D.length 0)))) ws:=λws w2=>by
        obtain ⟨l1,l2⟩:=zxa (w2.ok i _ hels)
        change cs.length=s' at l1
        refine ⟨by rw [w2.len];simp,λp d hp=>?_,λp d q x hp hx=>?_,w2.one⟩
        .rw [tya] at hp
         split at hp
         .simp only [hil,if_true,tza] at hp
          subst hp
          rw [zod]
          refine ⟨by show (cs.set _ _).length=s';rw [tz3];exact l1,tzx.2 (λx hx=>?_)⟩
          rcases List.mem_or_eq_of_mem_set hx with hx | hx
          .exact l2 x hx
          .subst hx;rfl
         .exact w2.ok p d hp
        .rw [tya] at hp
         split at hp
         .rename_i hip
          simp only [hil,if_true,tza] at hp
          subst hp hip
          change (cs.set (j+k) (.apl C.D.length 0))[q]? =some x at hx
          rw [tya] at hx
          split at hx
          .rename_i hq
           have hjk:=zxc hcs
           simp only [hjk,if_true,tza] at hx
           subst hx hq
           obtain ⟨w,g1,g2⟩:=w2.el i _ (j+k) _ hels hcs
           exact ⟨w,g1,hapl w g2⟩
          .exact w2.el i _ q x hels hx
         .exact w2.el p d q x hp hx
       obtain ⟨C2,b1,b2,b3,b4⟩:=a4.turn hD1 (by simp) hcl
       have nx:Nx (λo=>base<=o) C C2:=(a5.weak (λ_ h=>h.elim)).trans (b4.weak (λp hp=>by subst hp;exact hb))
       refine ⟨C2,b1.trans a1,?_,b3,nx,ht.mono nx hr⟩
       rw [b2,a2,List.set_append_left _ _ hol]
      .cases h
     .cases h
    .cases h
   .cases h
  .cases h
 | frzI t k=>
  simp only [zwi] at h
  split at h
  .rename_i o off len cap ht'
   split at h
   .rename_i i hi
    split at h
    .rename_i sz els hD
     split at h
     .rename_i d hd
      split at h
      .rename_i x hx
       split at h
       .rename_i y is hf
        split at h
        .rename_i sz' els' hk
         split at h
         .rename_i hc
          obtain ⟨hb,h1,rfl⟩:=hc
          simp only [tza] at h
          subst h
          have hD':=yy5 hk (by simp)
          rw [hD] at hD'
          simp only [tza,DObj.arr.injEq] at hD'
          obtain ⟨rfl,rfl⟩:=hD'
          obtain ⟨cs,e,g1,g2⟩:=hr.ob o _ hD
          obtain ⟨w,e1,e2⟩:=g2.el (off+i) d 0 x hd (by rw [hx];rfl)
          obtain ⟨C1,a1,a2,a3,a4,a5,a6⟩:=zb7 hr e2 hf
          have hil:=zxc hd
          have hD1:C1.D[o]? =some (.arr 1 els):=by rw [a2];exact hk
          obtain ⟨C2,b1,b2,b3,b4⟩:=a4.turn2 (els':=els.set (off+i) (.f y)) hD1 (by simp) (λws e' hg w2=>by
           have hws:ws=cs:=by
            rw [a1,a3,g1] at hg
            simp only [tza,Blk.cells.injEq] at hg
            exact hg.1.symm
           subst hws
           refine ⟨by rw [w2.len];simp,λp d hp=>?_,λp d q z hp hz=>?_,w2.one⟩
           .rw [tya] at hp
            split at hp
            .simp only [hil,if_true,tza] at hp
             subst hp
             rw [zod]
             exact ⟨rfl,by simp [zzd,zut,h1]⟩
            .exact w2.ok p d hp
           .rw [tya] at hp
            split at hp
            .rename_i hip
             simp only [hil,if_true,tza] at hp
             subst hp hip
             cases q with
             | zero=>
              simp only [zzd,txp,tza] at hz
              subst hz
              exact ⟨w,e1,a6⟩
             | succ q=>simp [zzd] at hz
            .exact w2.el p d q z hp hz)
          have nx:Nx (λo=>base<=o) C C2:=a5.trans (b4.weak (λp hp=>by subst hp;exact hb))
          exact ⟨C2,b1.trans a1,by rw [b2,a2],b3,nx,ht.mono nx hr⟩
         .cases h
        .cases h
       .cases h
      .cases h
     .cases h
    .cases h
   .cases h
  .cases h
 | ownAll t e sz=>
  simp only [zwi] at h
  split at h
  .rename_i o off len cap ht'
   split at h
   .rename_i els hD
    split at h
    .rename_i hc
     obtain ⟨hb,hnil⟩:=hc
     simp only [tza] at h
     subst h
     obtain ⟨C1,a1,a2,a3,a4,a5,a6⟩:=hr.nilApps e sz els.length
     have hol:=zxc hD
     have hD1:C1.D[o]? =some (.arr 1 els):=by rw [a2,tzs hol];exact hD
     obtain ⟨C2,b1,b2,b3,b4⟩:=a3.turn (els':=(List.range els.length).map λi=>.apl (C.D.length+i) 0) hD1 (by simp) (λws w2=>by
      refine ⟨by rw [w2.len];simp,λp d hp=>?_,λp d q z hp hz=>?_,w2.one⟩
      .simp only [tzr,tzf] at hp
       obtain ⟨i,_,rfl⟩:=hp
       rw [zod]
       exact ⟨rfl,rfl⟩
      .simp only [tzr,tzf] at hp
       obtain ⟨i,hi,rfl⟩:=hp
       have hlt:p<els.length:=by
        have:=zxc hi
        simpa using this
       rw [tz7 hlt,tza] at hi
       subst hi
       cases q with
       | succ q=>simp [zzd] at hz
       | zero=>
        simp only [zzd,txp,tza] at hz
        subst hz
        have hn:=tzx.1 hnil els[p] (List.getElem_mem hlt)
        have he:els[p]=zyw:=by
         revert hn
         generalize els[p]=d
         intro hn
         unfold ze0 at hn
         split at hn
         .rfl
         .cases hn
        obtain ⟨w,g1,g2⟩:=w2.el p els[p] 0 zyw (tzb hlt) (by rw [he];rfl)
        refine ⟨w,g1,?_⟩
        rw [zet g2]
        exact a6 p hlt)
     have nx:Nx (λo=>base<=o) C C2:=(a4.weak (λ_ h=>h.elim)).trans (b4.weak (λp hp=>by subst hp;exact hb))
     refine ⟨C2,b1.trans a1,?_,b3,nx,ht.mono nx hr⟩
     rw [b2,a2,List.set_append_left _ _ hol]
    .cases h
   .cases h
  .cases h
end Go.Dv
