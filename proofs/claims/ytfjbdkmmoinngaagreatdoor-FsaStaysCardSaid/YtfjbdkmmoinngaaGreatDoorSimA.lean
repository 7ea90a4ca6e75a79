/- Texts of this proof, part SimA. -/
import Derived.Test.YtfjbdkmmoinngaaGreatDoorAl
import Derived.CallsIn
import Derived.Laws.Sem
import Derived.Below
import Derived.Laws.World
import Derived.IntWalk
import Derived.Laws.Strings
import Derived.Laws.BytesString
import Derived.Deep.Upon
import Derived.RangeFuncIn
set_option linter.unusedVariables false
set_option linter.unusedSimpArgs false
set_option linter.unusedSectionVars false
noncomputable section
namespace Go.Sim
open Go
inductive Trie (α:Type) where
 | leaf
 | node (l:Trie α) (v:Option α) (r:Trie α)
def Trie.get {α:Type} (t:Trie α):Nat->Option α:=
 Trie.rec (motive:=λ_=>Nat->Option α) (λ_=>none)
  (λ_ v _ gl gr k=>Nat.rec (motive:=λ_=>Option α) v (λk _=>Bool.rec (motive:=λ_=>Option α) (gr (Nat.div k 2)) (gl (Nat.div k 2)) (Nat.beq (Nat.mod k 2) 0)) k) t
def Trie.mkL {α:Type} (l:Trie α) (v:Option α) (r:Trie α):Trie α:=Trie.casesOn l (.node .leaf v r) λa x b=>.node (.node a x b) v r
def Trie.mkR {α:Type} (l:Trie α) (v:Option α) (r:Trie α):Trie α:=Trie.casesOn r (.node l v .leaf) λa x b=>.node l v (.node a x b)
def Trie.set {α:Type} (x:α) (f:Nat):Trie α->Nat->Trie α:=
 Nat.rec (motive:=λ_=>Trie α->Nat->Trie α) (λt _=>t)
  (λ_ ih t k=>Trie.casesOn t
   (Nat.casesOn k (.node .leaf (some x) .leaf) λk=>Bool.rec (motive:=λ_=>Trie α) (Trie.mkR .leaf none (ih .leaf (Nat.div k 2))) (Trie.mkL (ih .leaf (Nat.div k 2)) none .leaf) (Nat.beq (Nat.mod k 2) 0))
   λl v r=>Nat.casesOn k (.node l (some x) r) λk=>Bool.rec (motive:=λ_=>Trie α) (Trie.mkR l v (ih r (Nat.div k 2))) (Trie.mkL (ih l (Nat.div k 2)) v r) (Nat.beq (Nat.mod k 2) 0)) f
def Trie.put {α:Type} (t:Trie α) (k:Nat) (x:α):Trie α:=Trie.set x (Nat.succ k) t k
structure ALoop where
 state:LoopState
 pending:Option Code
 fn:FuncId
 tm:Trie Value
 nt:Nat
 params:Array Tmp
 assign:Code
 body:Code
 defers:Nat
inductive Blk where
 | cells (c:List Value) (elem:TypeId) (cls:Option Nat)
 | ro (c:List Value)
 | map (es:List MapEntry) (clock:Nat)
 | loop (l:ALoop)
 | defs (d:Option (List Deferred))
structure Hp where
 b:Trie Blk
 s:Trie (List Nat)
 n:Nat
def Hp.get (H:Hp) (i:Nat):Option Blk:=H.b.get i
def Hp.put (H:Hp) (i:Nat) (B:Blk):Hp:=Hp.casesOn H λb s n=>⟨b.put i B,s,n⟩
def Hp.stk (H:Hp) (k:Nat):List Nat:=(H.s.get k).getD []
def Hp.new (H:Hp) (B:Blk):Hp:=Hp.casesOn H λb s n=>⟨b.put n B,s,Nat.succ n⟩
def Hp.newIn (H:Hp) (c:List Value) (e:TypeId) (k:Nat) (st:List Nat):Hp:=Hp.casesOn H λb s n=>⟨b.put n (.cells c e (some k)),s.put k st,Nat.succ n⟩
def Hp.put1 (H:Hp) (i:Nat) (B:Blk) (k:Nat):Hp:=Hp.casesOn H λb s n=>⟨b.put i B,s.put k [i],n⟩
def Hp.skip (H:Hp):Hp:=Hp.casesOn H λb s n=>⟨b,s,Nat.succ n⟩
def zfh (i:Nat):List Nat->Bool
 | []=>false
 | j::l=>match Nat.beq i j with
  | true=>true
  | false=>zfh i l
def Hp.rowOf (H:Hp) (i:Nat):Blk->Option (List Value)
 | .cells c _ none=>some c
 | .cells c _ (some k)=>match zfh i (H.stk k) with
  | true=>some c
  | false=>none
 | .ro c=>some c
 | _=>none
def Hp.row (H:Hp) (i:Nat):Option (List Value):=(H.get i).bind (H.rowOf i)
def zu2:Value->Bool
 | .bool _ | .int .. | .string _ | .pointer none | .map none | .nilFunc | .nilIface=>true
 | .slice none 0 0=>true
 | _=>false
def zyj:Value->Bool
 | .agg cs=>cs.toList.all zu2
 | .tuple cs=>cs.toList.isEmpty
 | .iface _ v=>match v with
  | .int .. | .bool _ | .string _=>true
  | .agg cs=>cs.toList.all zu2
  | _=>false
 | v=>zu2 v
def oneCell:Value->Bool
 | .agg _ | .tuple _=>false
 | _=>true
def cellsOf:Value->List Value
 | .agg cs=>cs.toList
 | v=>[v]
def U:Nat:=18446744073709551616
def zzs {α:Type} (P:Program):Sem α->Option α
 | .pure a=>some a
 | .program k=>zzs P (k P)
 | .mark _ k=>zzs P k
 | _=>none
def zw2 (v:Value):Option Value:=match zyj v with
 | true=>some v
 | false=>none
def zq5:Option Value->Option Value:=@Option.rec Value (λ_=>Option Value) (some undef) (λv=>some v)
def znh (_:Program):Nat:=0
def yzb (P:Program) (g:Nat):Option Value:=match Nat.blt g (znh P) with
 | true=>some (.pointer (some ⟨g,0,none⟩))
 | false=>none
def xo8:Operand->Program->Trie Value->Option Value:=
 @Operand.rec (λ_=>Program->Trie Value->Option Value) (λt _ tm=>zq5 (tm.get t)) (λv _ _=>zw2 v) (λg P _=>yzb P g) (λf _ _=>some (.func (.func f) #[] #[]))
def zyk (P:Program) (tm:Trie Value) (x:Operand):Option Value:=xo8 x P tm
def zq6 (P:Program) (tm:Trie Value):List Operand->Option (List Value)
 | []=>some []
 | x::l=>match zyk P tm x with
  | some v=>match zq6 P tm l with
   | some vs=>some (v::vs)
   | none=>none
  | none=>none
inductive ARes where
 | val (v:Value) (H:Hp)
 | enter (f:FuncId) (args:List Value)
 | yield (l:Nat) (args:List Value)
 | defer (d:Deferred)
 | recover
 | panic (v:Value)
def zth (H:Hp):Option Value->Option ARes
 | some v=>some (.val v H)
 | none=>none
def hpV (v:Value):Option Hp->Option ARes
 | some H=>some (.val v H)
 | none=>none
def zu3:Option (Value×Hp)->Option ARes
 | some (v,H)=>some (.val v H)
 | none=>none
def xs1:TypeDesc->Bool
 | .struct _ | .array _ _=>true
 | _=>false
def zk9 (P:Program) (t:TypeId):Option Bool:=(P.underlying t).map xs1
def zyl (P:Program) (t:TypeId):Option Nat:=(P.info? t).map (·.size)
def zhn (P:Program) (t:TypeId):Option Nat:=(P.info? t).map (·.bytes)
def zxa (P:Program) (t:TypeId):Option Value:=((P.info? t).bind (·.zero)).bind zw2
def xy9:TypeDesc->Option TypeId
 | .slice e=>some e
 | _=>none
def zio (P:Program) (t:TypeId):Option TypeId:=(P.underlying t).bind xy9
def ydx:TypeDesc->Bool
 | .slice _=>true
 | .string=>true
 | _=>false
def zvt (P:Program) (t:TypeId):Bool:=
 match P.underlying t with
 | some d=>ydx d
 | none=>false
def cut:List Value->Nat->Nat->Option (List Value)
 | _,0,0=>some []
 | [],0,n+1=>none
 | v::l,0,n+1=>match cut l 0 n with
  | some r=>some (v::r)
  | none=>none
 | [],o+1,n=>none
 | _::l,o+1,n=>cut l o n
def Hp.read (H:Hp) (i o n:Nat):Option (List Value):=
 match H.row i with
 | some c=>cut c o n
 | none=>none
def zyy:List Value->Nat->List Value->Option (List Value)
 | c,0,[]=>some c
 | [],0,_::_=>none
 | _::l,0,v::vs=>match zyy l 0 vs with
  | some r=>some (v::r)
  | none=>none
 | [],_+1,_=>none
 | x::l,o+1,vs=>match zyy l o vs with
  | some r=>some (x::r)
  | none=>none
def Hp.writeIn (H:Hp) (i o:Nat) (vs:List Value):Blk->Option Hp
 | .cells c e none=>match zyy c o vs with
  | some c'=>some (H.put i (.cells c' e none))
  | none=>none
 | .cells c e (some k)=>match zfh i (H.stk k) with
  | true=>match zyy c o vs with
   | some c'=>some (H.put1 i (.cells c' e (some k)) k)
   | none=>none
  | false=>none
 | _=>none
def Hp.write (H:Hp) (i o:Nat) (vs:List Value):Option Hp:=
 match vs.all oneCell with
 | true=>(H.get i).bind (H.writeIn i o vs)
 | false=>none
def one:List Value->Option Value
 | [v]=>some v
 | _=>none
def xxz:List Value->Value:=λl=>.agg l.toArray
def zqg (P:Program) (H:Hp) (t:TypeId) (i o:Nat):Option Value:=
 match zk9 P t with
 | some true=>match zyl P t with
  | some n=>(H.read i o n).map xxz
  | none=>none
 | some false=>(H.read i o 1).bind one
 | none=>none
def yxw (P:Program) (H:Hp) (t:TypeId) (i o:Nat) (v:Value):Option Hp:=
 match zyl P t with
 | some n=>match Nat.beq (cellsOf v).length n with
  | true=>H.write i o (cellsOf v)
  | false=>none
 | none=>none
def ytt (P:Program) (t:TypeId) (cs:List Value) (o:Nat):Option Value:=
 match zk9 P t with
 | some true=>match zyl P t with
  | some n=>(cut cs o n).map xxz
  | none=>none
 | some false=>cs[o]?
 | none=>none
def zja (P:Program):List Field->Option (List (Nat×Nat))
 | []=>some []
 | f::l=>match zyl P f.type with
  | some n=>match zja P l with
   | some r=>some ((f.offset,n)::r)
   | none=>none
  | none=>none
def zjb (place:Nat->Option (Nat×Nat)):List Value->List (Nat×Value)->Option (List Value)
 | cells,[]=>some cells
 | cells,(i,v)::rest=>match place i with
  | none=>none
  | some (o,n)=>match Nat.beq (cellsOf v).length n with
   | true=>match zyy cells o (cellsOf v) with
    | some cells'=>zjb place cells' rest
    | none=>none
   | false=>none
def zx7 (P:Program) (tm:Trie Value):List (Nat×Operand)->Option (List (Nat×Value))
 | []=>some []
 | (i,x)::l=>match zyk P tm x with
  | some v=>match zx7 P tm l with
   | some vs=>some ((i,v)::vs)
   | none=>none
  | none=>none
def rep (z:List Value):Nat->List Value
 | 0=>[]
 | n+1=>z++rep z n
def yxx (P:Program) (z:Value) (ps:List (Nat×Value)):TypeDesc->Option Value
 | .struct fs=>match zja P fs.toList with
  | some pl=>(zjb (λi=>pl[i]?) (cellsOf z) ps).map xxz
  | none=>none
 | .array _ e=>match zyl P e with
  | some n=>(zjb (λi=>some (i*n,n)) (cellsOf z) ps).map xxz
  | none=>none
 | _=>none
def yxy (P:Program) (t:TypeId) (ps:List (Nat×Value)):Option Value:=
 match zxa P t with
 | some z=>(P.underlying t).bind (yxx P z ps)
 | none=>none
def zho (P:Program) (e:TypeId) (n:Nat):Option (List Value):=
 match zyl P e with
 | some s=>match Nat.beq (n*s) 0 with
  | true=>some []
  | false=>match zxa P e with
   | some z=>match Nat.beq (cellsOf z).length s with
    | true=>some (rep (cellsOf z) n)
    | false=>none
   | none=>none
 | none=>none
def zs4 (c l:Nat):Nat:=match Nat.blt c U with
 | true=>c-l
 | false=>U+1
def zx3 (dflt:Nat):Option Value->Option Nat
 | none=>some dflt
 | some (.int _ (.ofNat n))=>some n
 | _=>none
def yxz (s:Nat) (a:Addr) (len c l h:Nat) (H:Hp):Option (Value×Hp):=
 match Nat.blt c U with
 | true=>some (.slice (some (match Nat.beq c l with | true=>a | false=>a.add (l*s))) (h-l) (c-l),H)
 | false=>match Nat.blt l len with
  | true=>some (.slice (some (a.add (l*s))) (h-l) (zs4 c l),H)
  | false=>match Nat.beq h l with
   | true=>some (.slice (some (a.add (l*s))) 0 (zs4 c l),H)
   | false=>none
def zn9 (s:Nat) (a:Option Addr) (len c l h:Nat) (H:Hp):Option (Value×Hp):=
 match Nat.ble l h&&(Nat.ble h len||(Nat.blt c U&&Nat.ble h c)) with
 | true=>match a with
  | none=>match Nat.beq h 0 with
   | true=>some (.slice none 0 0,H)
   | false=>none
  | some a=>match l with
   | 0=>some (.slice (some a) h c,H)
   | l+1=>yxz s a len c (l+1) h H
 | false=>none
def ymo (s:Nat) (a:Option Addr) (len l h m:Nat) (H:Hp):Option (Value×Hp):=
 match Nat.ble l h&&Nat.ble h m&&Nat.ble m len&&Nat.blt m U with
 | true=>match a with
  | none=>match Nat.beq m 0 with
   | true=>some (.slice none 0 0,H)
   | false=>none
  | some a=>match Nat.blt 0 m with
   | true=>some (.slice (some (match Nat.beq m l with | true=>a | false=>a.add (l*s))) (h-l) (m-l),H)
   | false=>none
 | false=>none
def zqp (P:Program) (e:TypeId) (a:Option Addr) (len c:Nat) (lo hi mx:Option Value) (H:Hp):Option (Value×Hp):=
 match zyl P e with
 | some s=>match zx3 0 lo with
  | some l=>match zx3 len hi with
   | some h=>match mx with
    | none=>zn9 s a len c l h H
    | some m=>match hi with
     | some _=>match zx3 0 (some m) with
      | some m=>ymo s a len l h m H
      | none=>none
     | none=>none
   | none=>none
  | none=>none
 | none=>none
def xxa:Value->Option Nat
 | .slice _ n _=>some n
 | .string s=>some s.size
 | _=>none
def ymp (x:UInt8):Value:=.int .u8 (.ofNat x.toNat)
def Hp.readAt (H:Hp) (a:Addr) (n:Nat):Option (List Value):=
 match a with
 | ⟨b,o,none⟩=>H.read b o n
 | _=>none
def zqq (H:Hp) (s n:Nat):Value->Option (List Value)
 | .slice (some a) _ _=>H.readAt a (n*s)
 | .slice none _ _=>match n with
  | 0=>some []
  | _=>none
 | .string b=>match Nat.beq s 1 with
  | true=>some ((b.data.toList.take n).map ymp)
  | false=>none
 | _=>none
def xr7 (H:Hp) (sz:Nat) (x:Value):Option (Nat×List Value):=
 match xxa x with
 | some n=>(zqq H sz n x).map λl=>(n,l)
 | none=>none
def yka:List Value->Nat->Option (List Value×Bool)
 | [],0=>some ([],true)
 | _::_,0=>some ([],false)
 | [],_+1=>none
 | v::l,n+1=>match yka l n with
  | some (r,b)=>some (v::r,b)
  | none=>none
def ztw (i:Nat) (full:Bool):List Nat->List Nat
 | []=>[]
 | j::l=>match Nat.beq j i with
  | true=>match full with
   | true=>j::l.take 99
   | false=>[j]
  | false=>ztw i full l
def zq7 (H:Hp) (need:Nat):Value:=.slice (some ⟨H.n,0,none⟩) need (U+2*H.n)
def zfi (H:Hp) (e i n need:Nat) (new:List Value):Blk->Option (Value×Hp)
 | .cells cs e' (some k)=>match zfh i (H.stk k)&&Nat.beq e' e with
  | true=>match yka cs n with
   | some (old,full)=>some (zq7 H need,Hp.newIn (H.put i (.cells old e (some k))) (old++new) e k (H.n::ztw i full (H.stk k)))
   | none=>none
  | false=>none
 | _=>none
def zvh (H:Hp) (e sz:Nat) (a:Addr) (len c need:Nat) (new:List Value):Option (Value×Hp):=
 match a with
 | ⟨i,o,none⟩=>match Nat.blt c U with
  | true=>match Nat.ble need c with
   | true=>(H.write i (o+len*sz) new).map λH'=>(.slice (some ⟨i,o,none⟩) need c,H')
   | false=>(H.read i o (len*sz)).map λold=>(zq7 H need,Hp.newIn H (old++new) e H.n [H.n])
  | false=>match Nat.beq o 0&&Nat.beq c (U+2*i) with
   | true=>(H.get i).bind (zfi H e i (len*sz) need new)
   | false=>none
 | _=>none
def yx0 (P:Program) (e sz:Nat):Bool:=match zxa P e with
 | some z=>Nat.beq (cellsOf z).length sz
 | none=>false
def zjc (P:Program) (H:Hp) (e sz by_:Nat) (base:Option Addr) (len c n:Nat) (new:List Value):Option (Value×Hp):=
 match Nat.beq new.length (n*sz)&&Nat.ble ((len+n)*by_) 1099511627776&&Nat.ble by_ 65536&&Nat.ble (len+n) 1099511627776&&new.all oneCell with
 | true=>match n with
  | 0=>some (.slice base len c,H)
  | m+1=>match yx0 P e sz with
   | true=>match base with
    | some a=>zvh H e sz a len c (len+(m+1)) new
    | none=>match Nat.beq len 0&&Nat.beq c 0 with
     | true=>some (zq7 H (m+1),Hp.newIn H new e H.n [H.n])
     | false=>none
   | false=>none
 | false=>none
def zs5 (P:Program) (H:Hp) (st:TypeId) (s x:Value):Option (Value×Hp):=
 match zio P st with
 | some e=>match s with
  | .slice base len c=>match zyl P e with
   | some sz=>match zhn P e with
    | some by_=>match xr7 H sz x with
     | some (n,new)=>zjc P H e sz by_ base len c n new
     | none=>none
    | none=>none
   | none=>none
  | _=>none
 | none=>none
def eqI:Int->Int->Bool
 | .ofNat a,.ofNat b=>Nat.beq a b
 | .negSucc a,.negSucc b=>Nat.beq a b
 | _,_=>false
def ltI:Int->Int->Bool
 | .ofNat a,.ofNat b=>Nat.blt a b
 | .ofNat _,.negSucc _=>false
 | .negSucc _,.ofNat _=>true
 | .negSucc a,.negSucc b=>Nat.blt b a
def eqB:List UInt8->List UInt8->Bool
 | [],[]=>true
 | a::l,b::m=>match Nat.beq a.toNat b.toNat with
  | true=>eqB l m
  | false=>false
 | _,_=>false
def eqK:IntKind->IntKind->Bool
 | .i8,.i8 | .i16,.i16 | .i32,.i32 | .i64,.i64 | .u8,.u8 | .u16,.u16 | .u32,.u32 | .u64,.u64=>true
 | _,_=>false
def ziq (P:Program) (kt:TypeId) (k x:Value):Option Bool:=zzs P (Op.equal kt k x)
def zti (P:Program) (kt:TypeId) (k:Value):List MapEntry->Nat->Option (Option Nat)
 | [],_=>some none
 | e::es,i=>match zyj e.key with
  | true=>match ziq P kt k e.key with
   | some true=>some (some i)
   | some false=>zti P kt k es (i+1)
   | none=>none
  | false=>none
def zni (k:IntKind) (a:Int):List MapEntry->Nat->Option (Option Nat)
 | [],_=>some none
 | e::es,i=>match e.key with
  | .int j b=>match eqK k j with
   | true=>match eqI a b with
    | true=>some (some i)
    | false=>zni k a es (i+1)
   | false=>none
  | _=>none
def znj (a:ByteArray):List MapEntry->Nat->Option (Option Nat)
 | [],_=>some none
 | e::es,i=>match e.key with
  | .string b=>match eqB a.data.toList b.data.toList with
   | true=>some (some i)
   | false=>znj a es (i+1)
  | _=>none
def xxb (P:Program) (kt:TypeId) (k:Value) (es:List MapEntry):TypeDesc->Option (Option Nat)
 | .int _=>match k with
  | .int j a=>zni j a es 0
  | _=>none
 | .bool=>none
 | .string=>match k with
  | .string a=>znj a es 0
  | _=>none
 | _=>match zyj k with
  | true=>match zzs P (Instr.checkKey false 10000 kt k) with
   | some ()=>match zzs P (Instr.checkKey true 10000 kt k) with
    | some ()=>zti P kt k es 0
    | none=>none
   | none=>none
  | false=>none
def zx0 (P:Program) (kt:TypeId) (k:Value) (es:List MapEntry):Option (Option Nat):=(P.underlying kt).bind (xxb P kt k es)
def zma (H:Hp):Value->Option (List MapEntry)
 | .map none=>some []
 | .map (some r)=>match H.get r with
  | some (.map es _)=>some es
  | _=>none
 | _=>none
def yx1 (ok b:Bool) (v:Value):Value:=match ok with
 | true=>.tuple #[v,.bool b]
 | false=>v
def xs2 (ok:Bool) (e:MapEntry):Value:=yx1 ok true e.val
def zfj (P:Program) (ok:Bool) (kt et:TypeId) (k:Value) (es:List MapEntry):Option Value:=
 match zx0 P kt k es with
 | some (some i)=>(es[i]?).map (xs2 ok)
 | some none=>(zxa P et).map (yx1 ok false)
 | none=>none
def zug (P:Program) (t:TypeId) (m k:Value) (ok:Bool) (H:Hp):Option Value:=
 match P.underlying t with
 | some (.map kt et)=>(zma H m).bind (zfj P ok kt et k)
 | _=>none
def zfk (P:Program) (H:Hp) (r kt:Nat) (k v:Value) (es:List MapEntry) (clock:Nat):Option Hp:=
 match zx0 P kt k es with
 | some (some i)=>match es[i]? with
  | some e=>match zyj e.key&&Instr.sameBits 10000 e.key k with
   | true=>some (H.put r (.map (es.set i ⟨k,v,e.born⟩) clock))
   | false=>none
  | none=>none
 | some none=>some (H.put r (.map (es++[⟨k,v,clock⟩]) (clock+1)))
 | none=>none
def zs6 (P:Program) (t:TypeId) (m k v:Value) (H:Hp):Option Hp:=
 match P.underlying t with
 | some (.map kt _)=>match m with
  | .map (some r)=>match H.get r with
   | some (.map es clock)=>zfk P H r kt k v es clock
   | _=>none
  | _=>none
 | _=>none
def zmb:List Value->Option (List UInt8)
 | []=>some []
 | .int .u8 (.ofNat n)::l=>match zmb l with
  | some r=>some (UInt8.ofNat n::r)
  | none=>none
 | _=>none
def zxf (l:List UInt8):Value:=.string ⟨l.toArray⟩
def zmc:Value->Option (Nat×Nat)
 | .pointer (some ⟨b,o,none⟩)=>some (b,o)
 | _=>none
def zs7 (a:Addr) (len s n:Nat):Option Value:=match Nat.blt n len with
 | true=>some (.pointer (some (a.add (n*s))))
 | false=>none
def zd1 (P:Program) (x:Value) (n:Nat):TypeDesc->Option Value
 | .slice e=>match x with
  | .slice (some a) len _=>(zyl P e).bind λs=>zs7 a len s n
  | _=>none
 | .array len e=>match x with
  | .pointer (some a)=>(zyl P e).bind λs=>zs7 a len s n
  | _=>none
 | _=>none
def zxz (P:Program) (t:TypeId) (x i:Value):Option Value:=
 match i with
 | .int _ (.ofNat n)=>(P.underlying t).bind (zd1 P x n)
 | _=>none
def znk (P:Program) (x:Value) (f:Nat):TypeDesc->Option Value
 | .struct fs=>match x with
  | .pointer (some a)=>match fs.toList[f]? with
   | some fd=>match zyl P fd.type with
    | some (_+1)=>some (.pointer (some (a.add fd.offset)))
    | _=>none
   | none=>none
  | _=>none
 | _=>none
def ztj (P:Program) (s:TypeId) (x:Value) (f:Nat):Option Value:=(P.underlying s).bind (znk P x f)
def ymq (P:Program) (x:Value) (f:Nat):TypeDesc->Option Value
 | .struct fs=>match x with
  | .agg cs=>match fs.toList[f]? with
   | some fd=>ytt P fd.type cs.toList fd.offset
   | none=>none
  | _=>none
 | _=>none
def yx2 (P:Program) (t:TypeId) (x:Value) (f:Nat):Option Value:=(P.underlying t).bind (ymq P x f)
def zjd (P:Program) (x:Value) (n:Nat):TypeDesc->Option Value
 | .string=>match x with
  | .string s=>(s.data.toList[n]?).map ymp
  | _=>none
 | .array len e=>match x with
  | .agg cs=>match zyl P e with
   | some sz=>match Nat.blt n len with
    | true=>ytt P e cs.toList (n*sz)
    | false=>none
   | none=>none
  | _=>none
 | _=>none
def zmd (P:Program) (t:TypeId) (x i:Value):Option Value:=
 match i with
 | .int _ (.ofNat n)=>(P.underlying t).bind (zjd P x n)
 | _=>none
def ytu:Value->Value->Option Bool
 | .slice none _ _,.slice (some _) _ _ | .slice (some _) _ _,.slice none _ _=>some false
 | .pointer none,.pointer (some _) | .pointer (some _),.pointer none=>some false
 | .map none,.map (some _) | .map (some _),.map none=>some false
 | .nilFunc,.func .. | .func ..,.nilFunc=>some false
 | _,_=>none
def xmb (x y:Value):TypeDesc->Option Bool
 | .slice _=>match x,y with | .slice ..,.slice ..=>ytu x y | _,_=>none
 | .pointer _=>match x,y with | .pointer _,.pointer _=>ytu x y | _,_=>none
 | .map ..=>match x,y with | .map _,.map _=>ytu x y | _,_=>none
 | .func ..=>match x,y with | .nilFunc,.func ..=>some false | .func ..,.nilFunc=>some false | _,_=>none
 | _=>none
def xo9 (b:Bool):BinOp->Option Value
 | .eql=>some (.bool b)
 | .neq=>some (.bool !b)
 | _=>none
def zvu (k:IntKind) (n:Int):Int:=
 match k with
 | .i64=>match n with
  | .ofNat m=>match Nat.ble m 9223372036854775807 with
   | true=>.ofNat m
   | false=>IntKind.i64.wrap n
  | .negSucc m=>match Nat.ble m 9223372036854775807 with
   | true=>.negSucc m
   | false=>IntKind.i64.wrap n
 | .u8=>match n with
  | .ofNat m=>.ofNat (m % 256)
  | .negSucc m=>IntKind.u8.wrap n
 | .u64=>match n with
  | .ofNat m=>.ofNat (m % 18446744073709551616)
  | .negSucc m=>IntKind.u64.wrap n
 | k=>k.wrap n
def ztx (P:Program) (op:BinOp) (t:TypeId) (x y:Operand) (vx vy:Value):Option Value:=
 match zyj vx&&zyj vy with
 | true=>(zzs P (do eqGuard op t x y vx vy;binOp op t vx vy)).bind zw2
 | false=>match (P.underlying t).bind (xmb vx vy) with
  | some b=>xo9 b op
  | none=>none
def yx3 (k:IntKind) (a b:Int):BinOp->Option Value
 | .add=>some (.int k (zvu k (a+b)))
 | .sub=>some (.int k (zvu k (a-b)))
 | .mul=>some (.int k (zvu k (a*b)))
 | .eql=>some (.bool (eqI a b))
 | .neq=>some (.bool !(eqI a b))
 | .lss=>some (.bool (ltI a b))
 | .leq=>some (.bool !(ltI b a))
 | .gtr=>some (.bool (ltI b a))
 | .geq=>some (.bool !(ltI a b))
 | .quo=>match b with
  | .ofNat (m+1)=>some (.int k (zvu k (a.tdiv (.ofNat (m+1)))))
  | _=>none
 | .rem=>match b with
  | .ofNat (m+1)=>some (.int k (a.tmod (.ofNat (m+1))))
  | _=>none
 | _=>none
def ymr (a b:ByteArray):BinOp->Option Value
 | .add=>match Nat.blt (a.size+b.size) 9223372036854775807 with
  | true=>some (zxf (a.data.toList++b.data.toList))
  | false=>none
 | .eql=>some (.bool (eqB a.data.toList b.data.toList))
 | .neq=>some (.bool !(eqB a.data.toList b.data.toList))
 | _=>none
def zd2 (r:Option Value) (s:Unit->Option Value):Option Value:=match r with
 | some v=>some v
 | none=>s ()
def zty (P:Program) (op:BinOp) (t:TypeId) (x y:Operand) (vx vy:Value):Option Value:=
 match vx with
 | .int k a=>match vy with
  | .int j b=>match eqK k j with
   | true=>zd2 (yx3 k a b op) λ_=>ztx P op t x y vx vy
   | false=>ztx P op t x y vx vy
  | _=>ztx P op t x y vx vy
 | .string a=>match vy with
  | .string b=>zd2 (ymr a b op) λ_=>ztx P op t x y vx vy
  | _=>ztx P op t x y vx vy
 | _=>ztx P op t x y vx vy
def unA (P:Program) (op:UnOp) (v:Value):Option Value:=
 match op with
 | .not=>match v with
  | .bool b=>some (.bool !b)
  | _=>none
 | .neg=>match v with
  | .int k n=>some (.int k (zvu k (0-n)))
  | _=>none
 | _=>match zyj v with
  | true=>(zzs P (Op.unary op v)).bind zw2
  | false=>none
def zje (P:Program) (H:Hp) (x:Value):TypeDesc->TypeDesc->Option Value
 | .slice e,.string=>match x with
  | .slice (some a) n _=>match P.underlying e with
   | some (.int .u8)=>match H.readAt a n with
    | some cs=>(zmb cs).map zxf
    | none=>none
   | _=>none
  | .slice none 0 0=>match P.underlying e with
   | some (.int .u8)=>some (zxf [])
   | _=>none
  | _=>none
 | _,.int k=>match x with
  | .int _ n=>some (.int k (zvu k n))
  | _=>none
 | _,_=>none
def zx8 (P:Program) (H:Hp) (s d:TypeId) (x:Value):Option Value:=
 match P.underlying s with
 | some ds=>match P.underlying d with
  | some dd=>zd2 (zje P H x ds dd) λ_=>match zyj x with
   | true=>(zzs P (convert s d x)).bind zw2
   | false=>none
  | none=>none
 | none=>none
def zs8 (P:Program) (f:Value->Value->Sem Value):Value->List Value->Option Value
 | x,[]=>zw2 x
 | x,y::l=>match zyj x&&zyj y with
  | true=>match zzs P (f x y) with
   | some z=>zs8 P f z l
   | none=>none
  | false=>none
def zlt (n:Nat):Value:=.int .i64 (.ofNat n)
def yms (H:Hp) (x:Value):TypeDesc->Option Value
 | .string=>match x with
  | .string s=>some (zlt s.size)
  | _=>none
 | .array n _=>some (zlt n)
 | .slice _=>match x with
  | .slice _ n _=>some (zlt n)
  | _=>none
 | .map _ _=>(zma H x).map λes=>zlt es.length
 | _=>none
def xna (x:Value):TypeDesc->Option Value
 | .slice _=>match x with
  | .slice _ _ c=>match Nat.blt c U with
   | true=>some (zlt c)
   | false=>none
  | _=>none
 | _=>none
def zjf (H:Hp) (n:Nat) (base:Option Addr) (cs:List Value):Option ARes:=
 match cs with
 | []=>some (.val (zlt n) H)
 | _=>match Nat.blt 0 n with
  | true=>match base with
   | some ⟨i,o,none⟩=>hpV (zlt n) (H.write i o cs)
   | _=>none
  | false=>none
def zir (P:Program) (H:Hp) (t:TypeId) (d x:Value):Option ARes:=
 match zio P t with
 | some e=>match zyl P e with
  | some s=>match d with
   | .slice base n _=>match xxa x with
    | some m=>(zqq H s (Nat.min m n) x).bind (zjf H (Nat.min m n) base)
    | none=>none
   | _=>none
  | none=>none
 | none=>none
def zme (P:Program) (H:Hp) (t:TypeId) (x:Value):Option ARes:=
 match zio P t with
 | some e=>match x with
  | .slice none _ _=>some (.val (.tuple #[]) H)
  | .slice (some ⟨i,o,none⟩) n _=>match n with
   | 0=>some (.val (.tuple #[]) H)
   | m+1=>match zxa P e with
    | some z=>match Nat.beq (cellsOf z).length 1 with
     | true=>hpV (.tuple #[]) (H.write i o (rep (cellsOf z) (m+1)))
     | false=>none
    | none=>none
  | _=>none
 | none=>none
def on1 (args:List Value) (f:Value->Option ARes):Option ARes:=match args with
 | [x]=>f x
 | _=>none
def on2 (args:List Value) (f:Value->Value->Option ARes):Option ARes:=match args with
 | [x,y]=>f x y
 | _=>none
def zon (args:List Value) (f:Value->List Value->Option ARes):Option ARes:=match args with
 | x::l=>f x l
 | _=>none
def zyd (P:Program) (ats:List TypeId) (args:List Value) (H:Hp):Builtin->Option ARes
 | .append=>match ats with
  | [st,tx]=>match zvt P tx with
   | true=>on2 args λs x=>zu3 (zs5 P H st s x)
   | false=>none
  | _=>none
 | .len=>match ats with
  | t::_=>on1 args λx=>zth H ((P.underlying t).bind (yms H x))
  | []=>none
 | .cap=>match ats with
  | t::_=>on1 args λx=>zth H ((P.underlying t).bind (xna x))
  | []=>none
 | .copy=>match ats with
  | t::_=>on2 args λd x=>zir P H t d x
  | []=>none
 | .clear=>match ats with
  | [t]=>on1 args λx=>zme P H t x
  | _=>none
 | .max=>zon args λx l=>zth H (zs8 P Builtin.max2 x l)
 | .min=>zon args λx l=>zth H (zs8 P Builtin.min2 x l)
 | .recover=>some .recover
 | _=>none
def ymt (P:Program) (f:FuncId) (args:List Value):Option ARes:=
 match P.funcs[f]? with
 | some fn=>match fn.body with
  | some _=>if fn.name== "runtime.NumGoroutine" then none else some (.enter f args)
  | none=>none
 | none=>none
def zq8 (P:Program) (args:List Value):Value->Option ARes
 | .func fn first cap=>match fn with
  | .func f=>ymt P f (first.toList++args++cap.toList)
  | .yield l=>match first.toList++cap.toList with
   | []=>some (.yield l args)
   | _=>none
  | _=>none
 | _=>none
def znl (P:Program) (tm:Trie Value) (H:Hp) (x:Operand):Option ARes:=zth H (zyk P tm x)
def zm4 (P:Program) (tm:Trie Value) (H:Hp) (c a b:Operand):Option ARes:=
 match zyk P tm c with
 | some (.bool true)=>zth H (zyk P tm a)
 | some (.bool false)=>zth H (zyk P tm b)
 | _=>none
def yfq (H:Hp) (e:TypeId) (v:Value):ARes:=.val (.pointer (some ⟨H.n,0,none⟩)) (H.new (.cells (cellsOf v) e none))
def zhp (P:Program) (H:Hp) (e:TypeId):Option ARes:=(zxa P e).map (yfq H e)
def yfr (P:Program) (tm:Trie Value) (H:Hp) (e:TypeId) (x:Operand):Option ARes:=(zyk P tm x).map (yfq H e)
def zsd (P:Program) (tm:Trie Value) (H:Hp) (t:TypeId) (ps:Array (Nat×Operand)):Option ARes:=
 match zx7 P tm ps.toList with
 | some l=>zth H (yxy P t l)
 | none=>none
def xs3 (H:Hp) (e n m:Nat) (cs:List Value):ARes:=.val (.slice (some ⟨H.n,0,none⟩) n m) (H.new (.cells cs e none))
def zy0 (P:Program) (tm:Trie Value) (H:Hp) (t:TypeId) (len:Nat) (ps:Array (Nat×Operand)):Option ARes:=
 match zio P t with
 | some e=>match zx7 P tm ps.toList with
  | some l=>match zyl P e with
   | some s=>match Nat.ble (len*s) 16777216&&Nat.ble len 16777216 with
    | true=>match zho P e len with
     | some z=>(zjb (λi=>some (i*s,s)) z l).map (xs3 H e len len)
     | none=>none
    | false=>none
   | none=>none
  | none=>none
 | none=>none
def znm (P:Program) (tm:Trie Value) (H:Hp) (t:TypeId) (a:Operand):Option ARes:=
 match (zyk P tm a).bind zmc with
 | some (i,off)=>zth H (zqg P H t i off)
 | none=>none
def zqr (P:Program) (tm:Trie Value) (H:Hp) (t:TypeId) (a x:Operand):Option ARes:=
 match (zyk P tm a).bind zmc with
 | some (i,off)=>match zyk P tm x with
  | some v=>hpV undef (yxw P H t i off v)
  | none=>none
 | none=>none
def yx4:Value->Option Value
 | .pointer (some a)=>some (.pointer (some a))
 | .func (.func f) a b=>some (.func (.func f) a b)
 | .func (.yield f) a b=>some (.func (.yield f) a b)
 | _=>none
def zw3 (P:Program) (tm:Trie Value) (H:Hp) (x:Operand):Option ARes:=zth H ((zyk P tm x).bind yx4)
def ysr (P:Program) (tm:Trie Value) (H:Hp) (op:BinOp) (t:TypeId) (x y:Operand):Option ARes:=
 match zyk P tm x with
 | some vx=>match zyk P tm y with
  | some vy=>zth H (zty P op t x y vx vy)
  | none=>none
 | none=>none
def oUn (P:Program) (tm:Trie Value) (H:Hp) (op:UnOp) (x:Operand):Option ARes:=zth H ((zyk P tm x).bind (unA P op))
def zjg (P:Program) (tm:Trie Value) (H:Hp) (s d:TypeId) (x:Operand):Option ARes:=zth H ((zyk P tm x).bind (zx8 P H s d))
def ymu:TypeDesc->Bool
 | .interface _=>true
 | _=>false
def zqs (P:Program) (tm:Trie Value) (H:Hp) (t:TypeId) (x:Operand):Option ARes:=
 match (P.underlying t).map ymu with
 | some false=>(zyk P tm x).map λv=>.val (.iface t v) H
 | _=>none
def zm5 (P:Program) (tm:Trie Value) (H:Hp) (fn:Fn) (a b:Array Operand):Option ARes:=
 match fn with
 | .func f=>match zq6 P tm a.toList with
  | some l=>match zq6 P tm b.toList with
   | some m=>some (.val (.func (.func f) l.toArray m.toArray) H)
   | none=>none
  | none=>none
 | _=>none
def yx5 (H:Hp):ARes:=.val (.map (some H.n)) (H.new (.map [] 0))
def xxc (P:Program) (tm:Trie Value) (H:Hp) (t:TypeId) (r:Option Operand):Option ARes:=
 match r with
 | none=>some (yx5 H)
 | some x=>match zyk P tm x with
  | some (.int _ _)=>match P.underlying t with
   | some (.map _ _)=>some (yx5 H)
   | _=>none
  | _=>none
def xs4:Value->Option Nat
 | .int .i64 (.ofNat n)=>some n
 | _=>none
def zxc (P:Program) (tm:Trie Value) (H:Hp) (t:TypeId) (l c:Operand):Option ARes:=
 match zio P t with
 | some e=>match (zyk P tm l).bind xs4 with
  | some n=>match (zyk P tm c).bind xs4 with
   | some m=>match zhn P e with
    | some by_=>match Nat.ble n m&&Nat.ble (m*by_) 140737488355328&&Nat.blt m 9223372036854775808 with
     | true=>(zho P e m).map (xs3 H e n m)
     | false=>none
    | none=>none
   | none=>none
  | none=>none
 | none=>none
def zqh (P:Program) (tm:Trie Value):Option Operand->Option (Option Value)
 | none=>some none
 | some x=>(zyk P tm x).map some
def zlu (s:ByteArray) (lo hi mx:Option Value):Option Value:=
 match mx with
 | none=>match zx3 0 lo with
  | some a=>match zx3 s.size hi with
   | some b=>match Nat.ble a b&&Nat.ble b s.size with
    | true=>some (zxf ((s.data.toList.drop a).take (b-a)))
    | false=>none
   | none=>none
  | none=>none
 | some _=>none
def zoo (P:Program) (H:Hp) (x:Value) (lo hi mx:Option Value):TypeDesc->Option ARes
 | .string=>match x with
  | .string s=>zth H (zlu s lo hi mx)
  | _=>none
 | .slice e=>match x with
  | .slice a len c=>zu3 (zqp P e a len c lo hi mx H)
  | _=>none
 | .array n e=>match x with
  | .pointer (some ⟨i,o,none⟩)=>match Nat.blt n U with
   | true=>zu3 (zqp P e (some ⟨i,o,none⟩) n n lo hi mx H)
   | false=>none
  | _=>none
 | _=>none
def zse (P:Program) (tm:Trie Value) (H:Hp) (t:TypeId) (x:Operand) (lo hi mx:Option Operand):Option ARes:=
 match zyk P tm x with
 | some v=>match zqh P tm lo with
  | some l=>match zqh P tm hi with
   | some h=>match zqh P tm mx with
    | some m=>(P.underlying t).bind (zoo P H v l h m)
    | none=>none
   | none=>none
  | none=>none
 | none=>none
def zxd (P:Program) (tm:Trie Value) (H:Hp) (s:TypeId) (x:Operand) (f:Nat):Option ARes:=
 match zyk P tm x with
 | some v=>zth H (ztj P s v f)
 | none=>none
def zsf (P:Program) (tm:Trie Value) (H:Hp) (s:TypeId) (x:Operand) (f:Nat):Option ARes:=
 match zyk P tm x with
 | some v=>zth H (yx2 P s v f)
 | none=>none
def zxe (P:Program) (tm:Trie Value) (H:Hp) (t:TypeId) (x i:Operand):Option ARes:=
 match zyk P tm x with
 | some v=>match zyk P tm i with
  | some n=>zth H (zxz P t v n)
  | none=>none
 | none=>none
def zsg (P:Program) (tm:Trie Value) (H:Hp) (t:TypeId) (x i:Operand):Option ARes:=
 match zyk P tm x with
 | some v=>match zyk P tm i with
  | some n=>zth H (zmd P t v n)
  | none=>none
 | none=>none
def zvi (P:Program) (tm:Trie Value) (H:Hp) (t:TypeId) (m k:Operand) (ok:Bool):Option ARes:=
 match zyk P tm m with
 | some vm=>match zyk P tm k with
  | some vk=>zth H (zug P t vm vk ok H)
  | none=>none
 | none=>none
def zwn (P:Program) (tm:Trie Value) (H:Hp) (t:TypeId) (m k v:Operand):Option ARes:=
 match zyk P tm m with
 | some vm=>match zyk P tm k with
  | some vk=>match zyk P tm v with
   | some vv=>hpV undef (zs6 P t vm vk vv H)
   | none=>none
  | none=>none
 | none=>none
def ymv (r:Value):Option Value:=match r with
 | .tuple cs=>match cs.toList with
  | [a,.bool b]=>match zyj a with
   | true=>some (.tuple #[a,.bool b])
   | false=>none
  | _=>none
 | r=>zw2 r
def zu4 (P:Program) (tm:Trie Value) (H:Hp) (x:Operand) (xt at_:TypeId) (ok:Bool):Option ARes:=
 match zyk P tm x with
 | some v=>match zyj v with
  | true=>zth H ((zzs P (Instr.typeAssert v xt at_ ok)).bind ymv)
  | false=>none
 | none=>none
def yx6 (i:Nat):Value->Option Value
 | .tuple vs=>vs.toList[i]?
 | _=>none
def zv5 (P:Program) (tm:Trie Value) (H:Hp) (x:Operand) (i:Nat):Option ARes:=zth H ((zyk P tm x).bind (yx6 i))
def ztz (P:Program) (tm:Trie Value) (H:Hp) (c:Call):Option ARes:=
 match zq6 P tm c.args.toList with
 | some l=>match c.callee with
  | .builtin b=>zyd P c.argTypes.toList l H b
  | .value f=>match zyk P tm f with
   | some v=>zq8 P l v
   | none=>none
  | _=>none
 | none=>none
def zop (P:Program) (tm:Trie Value) (c:Call):Option ARes:=
 match c.callee with
 | .value f=>match zyk P tm f with
  | some (.func fn a b)=>match zq6 P tm c.args.toList with
   | some l=>some (.defer { target:=.fn fn b,args:=a++l.toArray })
   | none=>none
  | _=>none
 | _=>none
def zjh (P:Program) (tm:Trie Value) (x:Operand):Option ARes:=
 match zyk P tm x with
 | some (.iface t v)=>some (.panic (.iface t v))
 | _=>none
def zw4:Op->Program->Trie Value->Hp->Option ARes:=
 @Op.rec (λ_=>Program->Trie Value->Hp->Option ARes)
  (fun x P tm H => znl P tm H x) -- move
  (fun x P tm H => znl P tm H x) -- assign
  (λc a b P tm H=>zm4 P tm H c a b)
  (λe P tm H=>zhp P H e)
  (λe x P tm H=>yfr P tm H e x)
  (λt ps P tm H=>zsd P tm H t ps)
  (λt len ps P tm H=>zy0 P tm H t len ps)
  (fun t m k v P tm H => zwn P tm H t m k v) -- insert
  (λt a P tm H=>znm P tm H t a)
  (λt a x P tm H=>zqr P tm H t a x)
  (fun _ _ _ _ => none) -- ready
  (fun _ _ _ _ => none) -- waits
  (λx P tm H=>zw3 P tm H x)
  (λop t x y _ P tm H=>ysr P tm H op t x y)
  (λop _ x P tm H=>oUn P tm H op x)
  (λs d x P tm H=>zjg P tm H s d x)
  (fun _ _ _ _ _ => none) -- sliceToArrayPointer
  (λt x P tm H=>zqs P tm H t x)
  (λfn a b P tm H=>zm5 P tm H fn a b)
  (λt r P tm H=>xxc P tm H t r)
  (fun _ _ _ _ _ => none) -- makeChan
  (λt l c P tm H=>zxc P tm H t l c)
  (λt x lo hi mx P tm H=>zse P tm H t x lo hi mx)
  (λs x f P tm H=>zxd P tm H s x f)
  (λs x f P tm H=>zsf P tm H s x f)
  (λt x i P tm H=>zxe P tm H t x i)
  (λt x i P tm H=>zsg P tm H t x i)
  (λt m k ok P tm H=>zvi P tm H t m k ok)
  (λt m k v P tm H=>zwn P tm H t m k v)
  (fun _ _ _ _ _ _ => none) -- mapEntry
  (fun _ _ _ _ _ _ _ => none) -- entryStore
  (fun _ _ _ _ _ => none) -- range
  (fun _ _ _ _ _ => none) -- next
  (fun _ _ _ _ => none) -- entry
  (λx xt at_ ok P tm H=>zu4 P tm H x xt at_ ok)
  (λx i P tm H=>zv5 P tm H x i)
  (λc P tm H=>ztz P tm H c)
  (fun _ _ _ _ => none) -- go
  (λc P tm H=>zop P tm c)
  (λx P tm H=>zjh P tm x)
  (fun _ _ _ _ _ => none) -- send
  (fun _ _ _ _ _ _ => none) -- recv
  (fun _ _ _ _ _ => none) -- select
def aop (P:Program) (tm:Trie Value) (H:Hp) (op:Op):Option ARes:=zw4 op P tm H
end Go.Sim
namespace Go.Sim
open Go
inductive AItem where
 | code (c:Code)
 | inBlock (id:Nat)
 | inLoop (body:Code)
 | ops (all:List Oper) (i:Nat) (rest:List Oper)
 | inRange (l:Nat)
 | endRange (l:Nat)
 | beginRound
structure AK where
 fn:FuncId
 nt:Nat
 defers:List Deferred
 mode:FrameMode
 kind:CallKind
 roundOf:Option Nat
structure AFrame where
 tm:Trie Value
 todo:List AItem
 k:AK
structure Cfg where
 tm:Trie Value
 todo:List AItem
 k:AK
 cs:List AFrame
 H:Hp
def ydy {α:Type} (i:IntKind) (k:Value->α) (n:Int):α:=
 match n with
 | .ofNat m=>Nat.rec (motive:=λ_=>α) (k (.int i (.ofNat 0))) (λj _=>k (.int i (.ofNat (Nat.succ j)))) m
 | .negSucc m=>Nat.rec (motive:=λ_=>α) (k (.int i (.negSucc 0))) (λj _=>k (.int i (.negSucc (Nat.succ j)))) m
def xs5 {α:Type} (k:Value->α) (b:Bool):α:=Bool.rec (motive:=λ_=>α) (k (.bool false)) (k (.bool true)) b
def yx7 {α:Type} (v:Value) (k:Value->α):α:=
 match v with
 | .int i n=>ydy i k n
 | .bool b=>xs5 k b
 | v=>k v
def putD (tm:Trie Value) (nt d:Nat) (v:Value):Trie Value:=
 match Nat.blt d nt with
 | true=>yx7 v λv=>tm.put d v
 | false=>tm
def put (tm:Trie Value) (nt:Nat) (d:Option Tmp) (v:Value):Trie Value:=
 match d with
 | some d=>putD tm nt d v
 | none=>tm
def ykb (tm:Trie Value):Nat->List Value->Trie Value
 | _,[]=>tm
 | d,v::l=>yx7 v λv=>ykb (tm.put d v) (d+1) l
def ymw:Bool->Bool->Bool
 | true,true=>true
 | false,false=>true
 | _,_=>false
def zoq (all:List Oper) (tm:Trie Value) (j:Nat) (want:Bool):Bool:=
 match all[j]? with
 | some oj=>match oj.dst with
  | some d=>match tm.get d with
   | some (.bool b)=>ymw b want
   | _=>false
  | none=>false
 | none=>false
def zyp (all:List Oper) (tm:Trie Value) (g:Option (Nat×Bool)):Bool:=
 match g with
 | none=>true
 | some (j,want)=>zoq all tm j want
def zq9 (id:Nat):List AItem->Option (List AItem)
 | .inBlock j::k=>match Nat.beq j id with
  | true=>some k
  | false=>zq9 id k
 | _::k=>zq9 id k
 | []=>none
def ymx (f:FuncId) (args:List Value) (kind:CallKind) (fn:Func):Option AFrame:=
 match fn.body with
 | some c=>match Nat.ble args.length fn.ntmps with
  | true=>some ⟨ykb .leaf 0 args,[.code c],⟨f,fn.ntmps,[],.run,kind,none⟩⟩
  | false=>none
 | none=>none
def zor (P:Program) (f:FuncId) (args:List Value) (kind:CallKind):Option AFrame:=(P.funcs[f]?).bind (ymx f args kind)
def zv1 (v:Value):AFrame->Option AFrame
 | ⟨tm,.ops all i (o::rest)::k,K⟩=>some ⟨put tm K.nt o.dst v,.ops all (i+1) rest::k,K⟩
 | ⟨tm,.inRange l::k,K⟩=>some ⟨tm,.endRange l::k,K⟩
 | _=>none
def ymy (ch:List PanicEntry):FrameMode->FrameMode
 | .panicking chain=>.panicking (ch++chain)
 | _=>.panicking ch
def AK.withMode (m:FrameMode):AK->AK
 | ⟨fn,nt,ds,_,kd,ro⟩=>⟨fn,nt,ds,m,kd,ro⟩
def AK.withDefers (ds:List Deferred):AK->AK
 | ⟨fn,nt,_,m,kd,ro⟩=>⟨fn,nt,ds,m,kd,ro⟩
def zpa:FrameMode->FrameMode
 | .panicking ({ recovered:=true,.. }::older)=>
  match older.dropWhile (!·.goexit) with
  | []=>.returning
  | rest=>.panicking rest
 | m=>m
def zvm (P:Program) (H:Hp) (tm:Trie Value):List ResultVar->Option (List Value)
 | []=>some []
 | .tmp t::l=>match zvm P H tm l with
  | some r=>some ((tm.get t).getD undef::r)
  | none=>none
 | .cell a t::l=>match zmc ((tm.get a).getD undef) with
  | some (i,o)=>match zqg P H t i o with
   | some v=>match zvm P H tm l with
    | some r=>some (v::r)
    | none=>none
   | none=>none
  | none=>none
def zji:List Value->Value
 | [v]=>v
 | vs=>.tuple vs.toArray
def zuh (P:Program) (H:Hp) (f:FuncId) (tm:Trie Value):Option Value:=
 match P.funcs[f]? with
 | some fn=>(zvm P H tm fn.results.toList).map zji
 | none=>none
def znn (cs:List AFrame) (H:Hp):Option AFrame->Option Cfg
 | some ⟨tm,todo,K⟩=>some ⟨tm,todo,K,cs,H⟩
 | none=>none
def zui (kind:CallKind) (v:Value) (cs:List AFrame) (H:Hp):Option Cfg:=
 match cs with
 | c::rest=>match kind with
  | .normal=>znn rest H (zv1 v c)
  | .deferred=>match c with
   | ⟨tm,todo,K⟩=>some ⟨tm,todo,K.withMode (zpa K.mode),rest,H⟩
  | _=>none
 | []=>none
def zxn (H:Hp) (l:Nat):Option ALoop:=
 match H.get l with
 | some (.loop r)=>some r
 | _=>none
def zw5 (H:Hp) (l:Nat) (jump:Option Code):Option (Value×Hp):=
 match zxn H l with
 | some ⟨_,_,fn,tm,nt,ps,asg,body,ds⟩=>match jump with
  | none=>some (.bool true,H.put l (.loop ⟨.ready,none,fn,tm,nt,ps,asg,body,ds⟩))
  | some j=>some (.bool false,H.put l (.loop ⟨.done,some j,fn,tm,nt,ps,asg,body,ds⟩))
 | none=>none
def yx8 (c:Cfg) (l:Nat) (jump:Option Code):Option Cfg:=
 match zw5 c.H l jump with
 | some (v,H')=>match c.k.kind with
  | .normal=>zui .normal v c.cs H'
  | _=>none
 | none=>none
def zmf (c:Cfg) (jump:Option Code):Option Cfg:=
 match c.k.roundOf with
 | none=>match jump with
  | none=>match c with
   | ⟨tm,todo,K,cs,H⟩=>some ⟨tm,todo,K.withMode .returning,cs,H⟩
  | some .ret=>match c with
   | ⟨tm,todo,K,cs,H⟩=>some ⟨tm,todo,K.withMode .returning,cs,H⟩
  | _=>none
 | some l=>yx8 c l jump
def zvn (m:FrameMode):Value×FrameMode:=
 match m with
 | .panicking ({ v,recovered:=false,goexit:=false }::older)=>(v,.panicking ({ v,recovered:=true }::older))
 | m=>(.nilIface,m)
def yx9 (kind:CallKind) (cs:List AFrame):Option (Value×List AFrame):=
 match kind with
 | .deferred=>match cs with
  | ⟨tm,todo,K⟩::rest=>some ((zvn K.mode).1,⟨tm,todo,K.withMode (zvn K.mode).2⟩::rest)
  | []=>none
 | _=>none
def zqt (tm:Trie Value) (nt:Nat):List Tmp->List Value->Trie Value
 | t::ts,v::vs=>zqt (put tm nt (some t) v) nt ts vs
 | _,_=>tm
def zjj (l:Nat) (args:List Value):ALoop->Option AFrame
 | ⟨_,_,fn,tm,nt,ps,asg,body,_⟩=>match Nat.beq args.length ps.toList.length with
  | true=>some ⟨zqt tm nt ps.toList args,[.code asg,.beginRound,.code body],⟨fn,nt,[],.run,.normal,some l⟩⟩
  | false=>none
def zjk (P:Program) (fr:AFrame) (cs:List AFrame) (H:Hp):ARes->Option Cfg
 | .val v H'=>znn cs H' (zv1 v fr)
 | .enter f args=>znn (fr::cs) H (zor P f args .normal)
 | .yield l args=>znn (fr::cs) H ((zxn H l).bind (zjj l args))
 | .defer d=>match fr with
  | ⟨tm,todo,K⟩=>match K.roundOf with
   | none=>znn cs H (zv1 undef ⟨tm,todo,K.withDefers (d::K.defers)⟩)
   | some _=>none
 | .recover=>match fr with
  | ⟨tm,todo,K⟩=>match K.roundOf with
   | none=>match yx9 K.kind cs with
    | some (v,cs')=>znn cs' H (zv1 v ⟨tm,todo,K⟩)
    | none=>none
   | some _=>none
 | .panic v=>match fr with
  | ⟨tm,todo,K⟩=>some ⟨tm,todo,K.withMode (ymy [{ v,recovered:=false }] K.mode),cs,H⟩
abbrev Sub:=FuncId->List Value->Hp->Option (Value×Hp)
abbrev xxd:=FuncId->Nat->List Oper->Trie Value->Nat->Hp->Option (Trie Value×Hp)
def zww (fn:FuncId) (tm:Trie Value) (nt:Nat) (ps:Array Tmp) (asg body:Code) (ro:Option Nat) (H:Hp):Option (List Deferred×Hp):=
 match ro with
 | some l=>match zxn H l with
  | some r=>some ([],H.new (.loop ⟨.ready,none,fn,tm,nt,ps,asg,body,r.defers⟩))
  | none=>none
 | none=>some ([{ target:=.collected H.n,args:=#[] }],(H.new (.defs (some []))).new (.loop ⟨.ready,none,fn,tm,nt,ps,asg,body,H.n⟩))
def ywa (P:Program) (tm:Trie Value) (k:List AItem) (K:AK) (cs:List AFrame) (f:Operand) (mark:List Deferred) (H:Hp):Option Cfg:=
 match zyk P tm f with
 | some v=>match zq8 P [.func (.yield (Nat.pred H.n)) #[] #[]] v with
  | some (.enter g args)=>znn (⟨tm,.inRange (Nat.pred H.n)::k,K.withDefers (mark++K.defers)⟩::cs) H (zor P g args .normal)
  | _=>none
 | none=>none
def zd3 (tm:Trie Value) (k:List AItem) (K:AK) (cs:List AFrame) (H:Hp) (l:Nat):ALoop->Option Cfg
 | ⟨st,p,f,tm',nt',ps,asg,body,d⟩=>match st with
  | .ready=>some ⟨tm,k,K,cs,H.put l (.loop ⟨.busy,p,f,tm',nt',ps,asg,body,d⟩)⟩
  | _=>none
def xx0 (tm:Trie Value) (k:List AItem) (K:AK) (cs:List AFrame) (H:Hp) (l:Nat):ALoop->Option Cfg
 | ⟨st,p,f,tm',nt',ps,asg,body,d⟩=>match st with
  | .busy=>none
  | _=>some ⟨tm,(match p with | some j=>.code j::k | none=>k),K,cs,H.put l (.loop ⟨.exhausted,p,f,tm',nt',ps,asg,body,d⟩)⟩
def Cfg.to (k:List AItem):Cfg->Option Cfg
 | ⟨tm,_,K,cs,H⟩=>some ⟨tm,k,K,cs,H⟩
def ymz (k:List AItem) (a b:Code) (c:Cfg):Option Value->Option Cfg
 | some (.bool true)=>c.to (.code a::k)
 | some (.bool false)=>c.to (.code b::k)
 | _=>none
def yfs (c:Cfg) (id:Nat):Option (List AItem)->Option Cfg
 | some k=>c.to k
 | none=>zmf c (some (.exit id))
def ywb (P:Program) (f:Operand) (ps:Array Tmp) (asg body:Code) (k:List AItem):Cfg->Option Cfg
 | ⟨tm,_,K,cs,H⟩=>match zww K.fn tm K.nt ps asg body K.roundOf H with
  | some (mark,H2)=>ywa P tm k K cs f mark H2
  | none=>none
def xnb (draw:xxd) (id:Nat) (ops:List Oper) (k:List AItem):Cfg->Option Cfg
 | ⟨tm,_,K,cs,H⟩=>match K.roundOf with
  | none=>match draw K.fn id ops tm K.nt H with
   | some (tm',H')=>some ⟨tm',k,K,cs,H'⟩
   | none=>none
  | some _=>none
def ym0 (P:Program) (tm:Trie Value) (o:Oper) (ih:Nat->Trie Value->Hp->Option Cfg) (all:List Oper) (i:Nat) (rest:List Oper) (k:List AItem) (K:AK) (cs:List AFrame) (H:Hp) (f:FuncId) (args:List Value):Option (Value×Hp)->Option Cfg
 | some (v,H')=>ih (Nat.succ i) (put tm K.nt o.dst v) H'
 | none=>zjk P ⟨tm,.ops all i (o::rest)::k,K⟩ cs H (.enter f args)
def yft (P:Program) (sum:Sub) (tm:Trie Value) (o:Oper) (ih:Nat->Trie Value->Hp->Option Cfg) (all:List Oper) (i:Nat) (rest:List Oper) (k:List AItem) (K:AK) (cs:List AFrame) (H:Hp):Option ARes->Option Cfg
 | some (.val v H')=>ih (Nat.succ i) (put tm K.nt o.dst v) H'
 | some (.enter f args)=>ym0 P tm o ih all i rest k K cs H f args (sum f args H)
 | some r=>zjk P ⟨tm,.ops all i (o::rest)::k,K⟩ cs H r
 | none=>none
def zsh (P:Program) (sum:Sub) (all:List Oper) (k:List AItem) (K:AK) (cs:List AFrame):List Oper->Nat->Trie Value->Hp->Option Cfg:=
 @List.rec Oper (λ_=>Nat->Trie Value->Hp->Option Cfg) (λ_ tm H=>some ⟨tm,k,K,cs,H⟩)
  (λo rest ih i tm H=>match zyp all tm o.guard with
   | true=>yft P sum tm o ih all i rest k K cs H (zw4 o.op P tm H)
   | false=>ih (Nat.succ i) (put tm K.nt o.dst undef) H)
def xmc (P:Program) (sum:Sub) (all:List Oper) (i:Nat) (rest:List Oper) (k:List AItem):Cfg->Option Cfg
 | ⟨tm,_,K,cs,H⟩=>zsh P sum all k K cs rest i tm H
abbrev Env:=xxd×Sub
def xs6:Code->Env->Program->List AItem->Cfg->Option Cfg:=
 @Code.rec (λ_=>Env->Program->List AItem->Cfg->Option Cfg)
  (fun _ _ k c => c.to k) -- skip
  (λid ops dr E P k c=>match dr with
   | false=>xmc P E.2 ops.toList 0 ops.toList k c
   | true=>xnb E.1 id ops.toList k c)
  (λa b _ _ _ _ k c=>c.to (.code a::.code b::k))
  (λx a b _ _ _ P k c=>ymz k a b c (zyk P c.tm x))
  (λid b _ _ _ k c=>c.to (.code b::.inBlock id::k))
  (λb _ _ _ k c=>c.to (.code b::.inLoop b::k))
  (λf ps asg body _ _ _ P k c=>ywb P f ps asg body k c)
  (λid _ _ k c=>yfs c id (zq9 id k))
  (fun _ _ _ _ _ _ => none) -- scope
  (fun _ _ _ k c => c.to k) -- label
  (fun _ _ _ _ _ => none) -- goto
  (λ_ _ k c=>zmf c (some .ret))
  (fun _ _ _ _ _ => none) -- refuse
def xs7 (k:List AItem):Cfg->Option Cfg
 | ⟨tm,_,K,cs,H⟩=>match K.roundOf with
  | some l=>(zxn H l).bind (zd3 tm k K cs H l)
  | none=>none
def xl0 (l:Nat) (k:List AItem):Cfg->Option Cfg
 | ⟨tm,_,K,cs,H⟩=>(zxn H l).bind (xx0 tm k K cs H l)
def xs8:AItem->Env->Program->List AItem->Cfg->Option Cfg:=
 @AItem.rec (λ_=>Env->Program->List AItem->Cfg->Option Cfg)
  (λx draw P k c=>xs6 x draw P k c)
  (λ_ _ _ k c=>c.to k)
  (λb _ _ k c=>c.to (.code b::.inLoop b::k))
  (λall i rest E P k c=>xmc P E.2 all i rest k c)
  (λ_ _ _ _ _=>none)
  (λl _ _ k c=>xl0 l k c)
  (λ_ _ k c=>xs7 k c)
def xs9:List AItem->Env->Program->Cfg->Option Cfg:=
 @List.rec AItem (λ_=>Env->Program->Cfg->Option Cfg) (λ_ _ c=>zmf c none) (λx k _ draw P c=>xs8 x draw P k c)
def ywc (P:Program) (tm:Trie Value) (todo:List AItem) (K:AK) (cs:List AFrame) (H:Hp) (ds:List Deferred):Deferred->Option Cfg
 | ⟨.collected b,_⟩=>match H.get b with
  | some (.defs (some l))=>some ⟨tm,todo,K.withDefers (l++ds),cs,H.put b (.defs none)⟩
  | _=>none
 | ⟨.fn f cap,args⟩=>match zq8 P args.toList (.func f #[] cap) with
  | some (.enter f args)=>znn (⟨tm,todo,K.withDefers ds⟩::cs) H (zor P f args .deferred)
  | _=>none
 | _=>none
def zd4 (P:Program) (tm:Trie Value) (K:AK) (cs:List AFrame) (H:Hp):Option Cfg:=
 match K.mode with
 | .run=>none
 | .panicking ch=>match cs with
  | ⟨tm,todo,K⟩::rest=>some ⟨tm,todo,K.withMode (ymy ch K.mode),rest,H⟩
  | []=>none
 | .returning=>match zuh P H K.fn tm with
  | some v=>zui K.kind v cs H
  | none=>none
def zfl (P:Program):Cfg->Option Cfg
 | ⟨tm,todo,K,cs,H⟩=>match K.defers with
  | d::ds=>ywc P tm todo K cs H ds d
  | []=>zd4 P tm K cs H
def xnc:FrameMode->Env->Program->Cfg->Option Cfg:=
 @FrameMode.rec (λ_=>Env->Program->Cfg->Option Cfg) (λdraw P c=>xs9 c.todo draw P c) (λ_ P c=>zfl P c) (λ_ _ P c=>zfl P c)
def zt0 (draw:Env) (P:Program) (c:Cfg):Option Cfg:=xnc c.k.mode draw P c
def xxe (P:Program) (f:FuncId):Cfg->Option (Value×Hp)
 | ⟨tm,_,⟨fn,_,[],.returning,.normal,none⟩,[],H⟩=>match Nat.beq fn f with
  | true=>match zuh P H fn tm with
   | some v=>some (v,H)
   | none=>none
  | false=>none
 | _=>none
def ywd {α:Type} (H:Hp) (k:Hp->α):α:=
 Hp.casesOn H λb s n=>Trie.casesOn b (k ⟨.leaf,s,n⟩) λx y z=>Nat.casesOn n (k ⟨.node x y z,s,0⟩) λm=>k ⟨.node x y z,s,Nat.succ m⟩
def ym1 {α:Type} (k:Cfg->α):Cfg->α
 | ⟨tm,todo,K,cs,H⟩=>ywd H λH=>k ⟨tm,todo,K,cs,H⟩
def xra (P:Program) (f:FuncId) (ih:Cfg->Option (Value×Hp)) (c:Cfg):Option Cfg->Option (Value×Hp)
 | some c'=>ym1 ih c'
 | none=>xxe P f c
def yfu (draw:Env) (P:Program) (f:FuncId):Nat->Cfg->Option (Value×Hp):=
 @Nat.rec (λ_=>Cfg->Option (Value×Hp)) (λ_=>none) (λ_ ih c=>xra P f ih c (zt0 draw P c))
inductive PI where
 | run (i:Nat)
 | again (i:Nat)
abbrev zqi:=FuncId->Nat->Option (List PI×List Nat)
def eqA:Option Addr->Option Addr->Bool
 | none,none=>true
 | some ⟨a,o,none⟩,some ⟨b,p,none⟩=>match Nat.beq a b with
  | true=>Nat.beq o p
  | false=>false
 | _,_=>false
def yzc:Value->Value->Bool
 | .bool a,.bool b=>ymw a b
 | .int j a,.int k b=>match eqK j k with
  | true=>eqI a b
  | false=>false
 | .string a,.string b=>eqB a.data.toList b.data.toList
 | .pointer a,.pointer b=>eqA a b
 | .slice a m c,.slice b n d=>match Nat.beq m n with
  | true=>match Nat.beq c d with
   | true=>eqA a b
   | false=>false
  | false=>false
 | .map none,.map none=>true
 | .map (some a),.map (some b)=>Nat.beq a b
 | .nilFunc,.nilFunc=>true
 | .nilIface,.nilIface=>true
 | _,_=>false
def ym2:List Value->List Value->Bool
 | [],[]=>true
 | v::l,w::m=>match yzc v w with
  | true=>ym2 l m
  | false=>false
 | _,_=>false
def eqV (v w:Value):Bool:=
 match v with
 | .agg l=>match w with
  | .agg m=>ym2 l.toList m.toList
  | _=>false
 | .tuple l=>match w with
  | .tuple m=>ym2 l.toList m.toList
  | _=>false
 | .iface t v=>match w with
  | .iface u w=>match Nat.beq t u with
   | true=>yzc v w
   | false=>false
  | _=>false
 | .func f a b=>match f with
  | .func i=>match w with
   | .func g c d=>match g with
    | .func j=>match Nat.beq i j with
     | true=>match ym2 a.toList c.toList with
      | true=>ym2 b.toList d.toList
      | false=>false
     | false=>false
    | _=>false
   | _=>false
  | _=>false
 | v=>yzc v w
inductive Cls where
 | pure | read | fresh | eff
def zz7:Op->Cls
 | .move _ | .assign _ | .pick .. | .build .. | .nilCheck _ | .binOp .. | .unOp .. | .makeInterface .. | .makeFunc .. | .fieldAddr .. | .field .. | .indexAddr .. | .index .. | .typeAssert .. | .extract .. | .slice ..=>.pure
 | .load .. | .lookup .. | .convert ..=>.read
 | .call { callee:=.builtin .len,.. } | .call { callee:=.builtin .cap,.. } | .call { callee:=.builtin .max,.. } | .call { callee:=.builtin .min,.. }=>.read
 | .alloc _ | .box .. | .buildSlice .. | .makeSlice ..=>.fresh
 | _=>.eff
def ym3 (H:Hp):Option ARes->Option ARes
 | some (.val v H')=>match Nat.beq H'.n H.n with
  | true=>some (.val v H')
  | false=>none
 | r=>r
def zm6 (H:Hp) (r:Option ARes):Cls->Option ARes
 | .pure=>ym3 H r
 | _=>r
def zuw (sub:Sub) (d:Option Tmp) (tm:Trie Value) (nt:Nat) (H:Hp):Option ARes->Option (Trie Value×Hp)
 | some (.val v H')=>some (put tm nt d v,H')
 | some (.enter f args)=>match sub f args H with
  | some (v,H')=>some (put tm nt d v,H')
  | none=>none
 | _=>none
def ytv (sub:Sub) (P:Program) (all:List Oper) (tm:Trie Value) (nt:Nat) (H:Hp):Oper->Option (Trie Value×Hp)
 | ⟨dst,op,_,_,_,g⟩=>match zyp all tm g with
  | true=>zuw sub dst tm nt H (zm6 H (zw4 op P tm H) (zz7 op))
  | false=>some (put tm nt dst undef,H)
def yzd (tm:Trie Value) (nt:Nat) (dst:Option Tmp):Option ARes->Bool
 | some (.val v _)=>match dst with
  | some d=>match Nat.blt d nt with
   | true=>match tm.get d with
    | some w=>eqV v w
    | none=>false
   | false=>false
  | none=>false
 | _=>false
def zno (P:Program) (all:List Oper) (tm:Trie Value) (nt:Nat) (H:Hp):Oper->Bool
 | ⟨dst,op,_,_,_,g⟩=>match zyp all tm g with
  | true=>yzd tm nt dst (zw4 op P tm H)
  | false=>true
def zs9 (sub:Sub) (P:Program) (all:List Oper) (tm:Trie Value) (nt:Nat) (H:Hp):PI->Option (Trie Value×Hp)
 | .run i=>(all[i]?).bind (ytv sub P all tm nt H)
 | .again i=>match (all[i]?).map (zno P all tm nt H) with
  | some true=>some (tm,H)
  | _=>none
def zpb (sub:Sub) (P:Program) (all:List Oper) (nt:Nat):List PI->Trie Value->Hp->Option (Trie Value×Hp)
 | [],tm,H=>some (tm,H)
 | x::rest,tm,H=>match zs9 sub P all tm nt H x with
  | some (tm',H')=>zpb sub P all nt rest tm' H'
  | none=>none
end Go.Sim
namespace Go.Sim
open Go
@[simp] theorem Trie.get_leaf {α : Type} (k : Nat) : (Trie.leaf : Trie α).get k = none := rfl
@[simp] theorem Trie.get_node_zero {α : Type} (l r : Trie α) (v : Option α) : (Trie.node l v r).get 0 = v := rfl
theorem Trie.get_node_succ {α:Type} (l r:Trie α) (v:Option α) (k:Nat):(Trie.node l v r).get (k+1)=if k % 2=0 then l.get (k / 2) else r.get (k / 2):=by
 show Bool.rec (motive:=λ_=>Option α) (r.get (k / 2)) (l.get (k / 2)) (Nat.beq (k % 2) 0)=_;by_cases h:k % 2=0
 .simp_all
 have:Nat.beq (k % 2) 0=false:=by
  cases hb:Nat.beq (k % 2) 0 with
  | false=>rfl
  | true=>exact absurd (tzo hb) h
 rw [this,if_neg h]
@[simp] theorem Trie.mkL_eq {α : Type} (l r : Trie α) (v : Option α) : Trie.mkL l v r = .node l v r := by cases l <;> rfl
@[simp] theorem Trie.mkR_eq {α : Type} (l r : Trie α) (v : Option α) : Trie.mkR l v r = .node l v r := by cases r <;> rfl
theorem Trie.set_zero {α:Type} (x:α) (f:Nat) (t:Trie α):Trie.set x (f+1) t 0=match t with | .leaf=>.node .leaf (some x) .leaf | .node l v r=>.node l (some x) r:=by
 cases t<;>rfl
theorem Trie.set_succ {α:Type} (x:α) (f k:Nat) (t:Trie α):Trie.set x (f+1) t (k+1)=match t with
  | .leaf=>if k % 2=0 then .node (Trie.set x f .leaf (k / 2)) none .leaf else .node .leaf none (Trie.set x f .leaf (k / 2))
  | .node l v r=>if k % 2=0 then .node (Trie.set x f l (k / 2)) v r else .node l v (Trie.set x f r (k / 2)):=by
 have hb:∀ (A B:Trie α),Bool.rec (motive:=λ_=>Trie α) A B (Nat.beq (k % 2) 0)=if k % 2=0 then B else A:=by
  intro A B
  by_cases h:k % 2=0
  .simp_all
  .have:Nat.beq (k % 2) 0=false:=by
    cases hb:Nat.beq (k % 2) 0 with
    | false=>rfl
    | true=>exact absurd (tzo hb) h
   rw [this,if_neg h]
 cases t with
 | leaf=>
  show Bool.rec (motive:=λ_=>Trie α) (Trie.mkR .leaf none (Trie.set x f .leaf (k / 2))) (Trie.mkL (Trie.set x f .leaf (k / 2)) none .leaf) (Nat.beq (k % 2) 0)=_
  rw [hb];simp
 | node l v r=>
  show Bool.rec (motive:=λ_=>Trie α) (Trie.mkR l v (Trie.set x f r (k / 2))) (Trie.mkL (Trie.set x f l (k / 2)) v r) (Nat.beq (k % 2) 0)=_
  rw [hb];simp
theorem Trie.get_set {α:Type} (x:α):∀ (f:Nat) (t:Trie α) (k j:Nat),k<f->(Trie.set x f t k).get j=if j=k then some x else t.get j:=by
 intro f
 induction f with
 | zero=>intro t k j h;omega
 | succ f ih=>
  intro t k j h;cases k with
  | zero=>
   rw [Trie.set_zero];cases j with
   | zero=>cases t<;>simp
   | succ j=>cases t<;>simp [Trie.get_node_succ]
  | succ k=>
   rw [Trie.set_succ];have hk:k / 2<f:=by omega
   cases j with
   | zero=>cases t<;>simp<;>split<;>simp
   | succ j=>
    have key:∀ l v r,(if k % 2=0 then Trie.node (Trie.set x f l (k / 2)) v r else Trie.node l v (Trie.set x f r (k / 2))).get (j+1)=if j+1=k+1 then some x else (Trie.node l v r).get (j+1):=by
     intro l v r;by_cases hk2:k % 2=0
     .rw [if_pos hk2,Trie.get_node_succ,Trie.get_node_succ];by_cases hj:j % 2=0
      .grind
      rw [if_neg hj,if_neg hj,if_neg (by omega)]
     rw [if_neg hk2,Trie.get_node_succ,Trie.get_node_succ];by_cases hj:j % 2=0
     .rw [if_pos hj,if_pos hj,if_neg (by omega)]
     .grind
    cases t with
    | leaf=>
     have:=key .leaf none .leaf;simpa [Trie.get_node_succ] using this
    | node l v r=>exact key l v r
theorem Trie.get_put {α:Type} (t:Trie α) (k j:Nat) (x:α):(t.put k x).get j=if j=k then some x else t.get j:=Trie.get_set x _ t k j (tyu k)
theorem zwr {i:Nat}:∀ {l:List Nat},zfh i l=true↔i∈l:=by
 intro l
 induction l with
 | nil=>simp [zfh]
 | cons j l ih=>
  rw [zfh];cases h:Nat.beq i j with
  | true=>simp [tzo h]
  | false=>
   have:i≠j:=λe=>by subst e;simp at h
   simp [ih,this]
@[simp] theorem Hp.get_put (H : Hp) (i j : Nat) (B : Blk) : (H.put i B).get j = if j = i then some B else H.get j := by
 cases H;exact Trie.get_put _ _ _ _
@[simp] theorem Hp.stk_put (H : Hp) (i k : Nat) (B : Blk) : (H.put i B).stk k = H.stk k := by cases H; rfl
@[simp] theorem Hp.n_put (H : Hp) (i : Nat) (B : Blk) : (H.put i B).n = H.n := by cases H; rfl
@[simp] theorem Hp.get_new (H : Hp) (j : Nat) (B : Blk) : (H.new B).get j = if j = H.n then some B else H.get j := by
 cases H;exact Trie.get_put _ _ _ _
@[simp] theorem Hp.stk_new (H : Hp) (k : Nat) (B : Blk) : (H.new B).stk k = H.stk k := by cases H; rfl
@[simp] theorem Hp.n_new (H : Hp) (B : Blk) : (H.new B).n = H.n + 1 := by cases H; rfl
@[simp] theorem Hp.get_put1 (H : Hp) (i j k : Nat) (B : Blk) : (H.put1 i B k).get j = if j = i then some B else H.get j := by
 cases H;exact Trie.get_put _ _ _ _
@[simp] theorem Hp.stk_put1 (H : Hp) (i j k : Nat) (B : Blk) : (H.put1 i B k).stk j = if j = k then [i] else H.stk j := by
 cases H
 show ((Trie.put _ _ _).get j).getD []=_
 rw [Trie.get_put];split<;>rfl
@[simp] theorem Hp.n_put1 (H : Hp) (i k : Nat) (B : Blk) : (H.put1 i B k).n = H.n := by cases H; rfl
@[simp] theorem Hp.get_newIn (H : Hp) (c : List Value) (e : TypeId) (k : Nat) (st : List Nat) (j : Nat) : (H.newIn c e k st).get j = if j = H.n then some (.cells c e (some k)) else H.get j := by
 cases H;exact Trie.get_put _ _ _ _
@[simp] theorem Hp.stk_newIn (H : Hp) (c : List Value) (e : TypeId) (k : Nat) (st : List Nat) (j : Nat) : (H.newIn c e k st).stk j = if j = k then st else H.stk j := by
 cases H
 show ((Trie.put _ _ _).get j).getD []=_
 rw [Trie.get_put];split<;>rfl
@[simp] theorem Hp.n_newIn (H : Hp) (c : List Value) (e : TypeId) (k : Nat) (st : List Nat) : (H.newIn c e k st).n = H.n + 1 := by cases H; rfl
@[simp] theorem Hp.get_skip (H : Hp) (j : Nat) : H.skip.get j = H.get j := by cases H; rfl
@[simp] theorem Hp.stk_skip (H : Hp) (j : Nat) : H.skip.stk j = H.stk j := by cases H; rfl
@[simp] theorem Hp.n_skip (H : Hp) : H.skip.n = H.n + 1 := by cases H; rfl
structure Ren where
 blk:Nat->Option (Nat×Nat)
 cap:Nat->Nat
def Ren.Ext (ρ ρ':Ren):Prop:=∀ i p,ρ.blk i=some p->ρ'.blk i=some p/\ρ'.cap i=ρ.cap i
theorem Ren.Ext.refl (ρ:Ren):ρ.Ext ρ:=λ_ _ h=>⟨h,rfl⟩
theorem Ren.Ext.trans {a b c:Ren} (h:a.Ext b) (k:b.Ext c):a.Ext c:=λi p hi=>by
 obtain ⟨h1,h2⟩:=h i p hi;obtain ⟨k1,k2⟩:=k i p h1;exact ⟨k1,k2.trans h2⟩
def Ren.add (ρ:Ren) (i:Nat) (p:Nat×Nat) (c:Nat):Ren:=⟨λj=>if j=i then some p else ρ.blk j,λj=>if j=i then c else ρ.cap j⟩
theorem Ren.ext_add {ρ:Ren} {i:Nat} (h:ρ.blk i=none) (p:Nat×Nat) (c:Nat):ρ.Ext (ρ.add i p c):=by
 intro j q hj;have:j≠i:=λe=>by rw [e,h] at hj;cases hj
 simp [Ren.add,this,hj]
@[simp] theorem Ren.add_same (ρ : Ren) (i : Nat) (p : Nat × Nat) (c : Nat) : (ρ.add i p c).blk i = some p := by simp [Ren.add]
@[simp] theorem Ren.add_cap (ρ : Ren) (i : Nat) (p : Nat × Nat) (c : Nat) : (ρ.add i p c).cap i = c := by simp [Ren.add]
theorem Ren.add_other (ρ:Ren) {i j:Nat} (h:j≠i) (p:Nat×Nat) (c:Nat):(ρ.add i p c).blk j=ρ.blk j:=by simp [Ren.add,h]
def Ren.addr (ρ:Ren) (a b:Addr):Prop:=a.spot=none/\∃ p,ρ.blk a.block=some p/\b=⟨p.1,p.2+a.off,none⟩
theorem Ren.addr.mono {ρ ρ':Ren} (h:ρ.Ext ρ') {a b:Addr} (k:ρ.addr a b):ρ'.addr a b:=by
 obtain ⟨h1,p,h2,h3⟩:=k;exact ⟨h1,p,(h _ _ h2).1,h3⟩
theorem Ren.addr.add {ρ:Ren} {a b:Addr} (k:ρ.addr a b) (n:Nat):ρ.addr (a.add n) (b.add n):=by
 obtain ⟨h1,p,h2,rfl⟩:=k;unfold Addr.add;by_cases hn:n=0
 .rw [if_pos hn,if_pos hn];exact ⟨h1,p,h2,rfl⟩
 rw [if_neg hn,if_neg hn];exact ⟨rfl,p,h2,by simp [txq]⟩
def ytw (ρ:Ren) (n c c':Nat):Prop:=n<=c'/\(c<U->c'=c)/\(∀ i,c=U+2*i->∃ p,ρ.blk i=some p/\c'=ρ.cap i)
theorem ytw.mono {ρ ρ':Ren} (h:ρ.Ext ρ') {n c c':Nat} (k:ytw ρ n c c'):ytw ρ' n c c':=by
 refine ⟨k.1,k.2.1,λi hc=>?_⟩;obtain ⟨p,h1,h2⟩:=k.2.2 i hc;obtain ⟨g1,g2⟩:=h _ _ h1;exact ⟨p,g1,by rw [g2];exact h2⟩
inductive FnR (ρ:Ren):Fn->Fn->Prop
 | func (f:FuncId):FnR ρ (.func f) (.func f)
 | yield (l:Nat) (p:Nat×Nat) (h:ρ.blk l=some p):FnR ρ (.yield l) (.yield p.1)
theorem FnR.mono {ρ ρ':Ren} (h:ρ.Ext ρ') {a b:Fn} (k:FnR ρ a b):FnR ρ' a b:=by
 cases k with
 | func f=>exact .func f
 | yield l p hl=>exact .yield l p (h _ _ hl).1
mutual
inductive VR (ρ:Ren):Value->Value->Prop
 | bool (b:Bool):VR ρ (.bool b) (.bool b)
 | int (k:IntKind) (n:Int):VR ρ (.int k n) (.int k n)
 | string (s:ByteArray):VR ρ (.string s) (.string s)
 | nilPtr:VR ρ (.pointer none) (.pointer none)
 | ptr {a b:Addr} (h:ρ.addr a b):VR ρ (.pointer (some a)) (.pointer (some b))
 | nilSlice:VR ρ (.slice none 0 0) (.slice none 0 0)
 | slice {a b:Addr} {n c c':Nat} (h:ρ.addr a b) (hc:ytw ρ n c c'):VR ρ (.slice (some a) n c) (.slice (some b) n c')
 | slice0 {a b:Addr} {c c':Nat} {p:Nat×Nat} (ha:a.spot=none) (hp:ρ.blk a.block=some p) (hb:b.block=p.1) (hs:b.spot=none) (hU:c=U+1) (hc:ytw ρ 0 c c'):VR ρ (.slice (some a) 0 c) (.slice (some b) 0 c')
 | slice00 (a b:Addr):VR ρ (.slice (some a) 0 0) (.slice (some b) 0 0)
 | nilMap:VR ρ (.map none) (.map none)
 | map {r:Nat} {p:Nat×Nat} (h:ρ.blk r=some p):VR ρ (.map (some r)) (.map (some p.1))
 | func {f f':Fn} {a a' b b':List Value} (h:FnR ρ f f') (ha:VRs ρ a a') (hb:VRs ρ b b'):VR ρ (.func f ⟨a⟩ ⟨b⟩) (.func f' ⟨a'⟩ ⟨b'⟩)
 | nilFunc:VR ρ .nilFunc .nilFunc
 | iface {t:TypeId} {v x:Value} (h:VR ρ v x):VR ρ (.iface t v) (.iface t x)
 | nilIface:VR ρ .nilIface .nilIface
 | agg {l m:List Value} (h:VRs ρ l m):VR ρ (.agg ⟨l⟩) (.agg ⟨m⟩)
 | tuple {l m:List Value} (h:VRs ρ l m):VR ρ (.tuple ⟨l⟩) (.tuple ⟨m⟩)
inductive VRs (ρ:Ren):List Value->List Value->Prop
 | nil:VRs ρ [] []
 | cons {v x:Value} {l m:List Value} (h:VR ρ v x) (hs:VRs ρ l m):VRs ρ (v::l) (x::m)
end
mutual
theorem VR.mono {ρ ρ':Ren} (h:ρ.Ext ρ'):∀ {v x:Value},VR ρ v x->VR ρ' v x
 | _,_,.bool b=>.bool b
 | _,_,.int k n=>.int k n
 | _,_,.string s=>.string s
 | _,_,.nilPtr=>.nilPtr
 | _,_,.ptr k=>.ptr (k.mono h)
 | _,_,.nilSlice=>.nilSlice
 | _,_,.slice k c=>.slice (k.mono h) (c.mono h)
 | _,_,.slice0 ha hp hb hs hU c=>.slice0 ha (h _ _ hp).1 hb hs hU (c.mono h)
 | _,_,.slice00 a b=>.slice00 a b
 | _,_,.nilMap=>.nilMap
 | _,_,.map k=>.map (h _ _ k).1
 | _,_,.func f a b=>.func (f.mono h) (VRs.mono h a) (VRs.mono h b)
 | _,_,.nilFunc=>.nilFunc
 | _,_,.iface k=>.iface (VR.mono h k)
 | _,_,.nilIface=>.nilIface
 | _,_,.agg k=>.agg (VRs.mono h k)
 | _,_,.tuple k=>.tuple (VRs.mono h k)
theorem VRs.mono {ρ ρ':Ren} (h:ρ.Ext ρ'):∀ {l m:List Value},VRs ρ l m->VRs ρ' l m
 | _,_,.nil=>.nil
 | _,_,.cons k ks=>.cons (VR.mono h k) (VRs.mono h ks)
end
section
variable {ρ:Ren}
theorem VRs.length {l m:List Value} (h:VRs ρ l m):m.length=l.length:=by
 induction l generalizing m with
 | nil=>cases h;rfl
 | cons v l ih=>cases h with | cons h hs=>simp [ih hs]
theorem VRs.append {l m l' m':List Value} (h:VRs ρ l m) (k:VRs ρ l' m'):VRs ρ (l++l') (m++m'):=by
 induction l generalizing m with
 | nil=>cases h;exact k
 | cons v l ih=>cases h with | cons h hs=>exact .cons h (ih hs)
theorem VRs.get {l m:List Value} (h:VRs ρ l m) {i:Nat} {v:Value} (k:l[i]? =some v):∃ x,m[i]? =some x/\VR ρ v x:=by
 induction l generalizing m i with
 | nil=>simp at k
 | cons u l ih=>
  cases h with
  | cons h hs=>
   grind
theorem VRs.of_get {l m:List Value} (hl:m.length=l.length) (h:∀ (i:Nat) (v:Value),l[i]? =some v->∃ x,m[i]? =some x/\VR ρ v x):VRs ρ l m:=by
 induction l generalizing m with
 | nil=>cases m with | nil=>exact .nil | cons=>simp at hl
 | cons u l ih=>
  cases m with
  | nil=>simp at hl
  | cons y m=>
   obtain ⟨x,hx,hr⟩:=h 0 u rfl;simp at hx;subst hx;exact .cons hr (ih (by simpa using hl) λi v hi=>by simpa using h (i+1) v (by simpa using hi))
theorem VR.undef:VR ρ undef undef:=.tuple .nil
theorem zmg {v:Value} (h:zu2 v=true):VR ρ v v:=by
 unfold zu2 at h;split at h<;>first | (cases h;done) | constructor
theorem zux:∀ {l:List Value},l.all zu2=true->VRs ρ l l
 | [],_=>.nil
 | v::l,h=>by
  simp only [List.all_cons,tzc] at h;exact .cons (zmg h.1) (zux h.2)
theorem zz9 {v:Value} (h:zyj v=true):VR ρ v v:=by
 unfold zyj at h;split at h
 .rename_i cs;exact .agg (l:=cs.toList) (m:=cs.toList) (zux h)
 .rename_i cs;have:cs.toList=[]:=by simpa using h
  have e:cs=⟨[]⟩:=by cases cs;simp_all
  subst e;exact .tuple .nil
 .rename_i t v;split at h
  .exact .iface (.int _ _)
  .exact .iface (.bool _)
  .exact .iface (.string _)
  .rename_i cs;exact .iface (.agg (l:=cs.toList) (m:=cs.toList) (zux h))
  .cases h
 .exact zmg h
theorem ytx {v x:Value} (h:zu2 v=true) (k:VR ρ v x):x=v:=by
 cases k<;>first | rfl | (simp [zu2] at h)
theorem znp:∀ {l m:List Value},l.all zu2=true->VRs ρ l m->m=l
 | [],m,_,k=>by cases k;rfl
 | v::l,m,h,k=>by
  simp only [List.all_cons,tzc] at h;cases k with
  | cons k ks=>rw [ytx h.1 k,znp h.2 ks]
theorem zx9 {v x:Value} (h:zyj v=true) (k:VR ρ v x):x=v:=by
 cases k with
 | agg k=>rw [znp (by simpa [zyj] using h) k]
 | tuple k=>
  rename_i l m;have:l=[]:=by simpa [zyj] using h
  subst this;cases k;rfl
 | iface k=>
  rename_i t v x;cases k with
  | agg k=>rw [znp (by simpa [zyj] using h) k]
  | _=>first | rfl | (simp [zyj] at h)
 | _=>first | rfl | (simp [zyj,zu2] at h)
theorem zy3 {v w:Value} (h:zw2 v=some w):w=v/\zyj v=true:=by
 unfold zw2 at h;cases hs:zyj v with
 | true=>simp [hs] at h;exact ⟨h.symm,rfl⟩
 | false=>simp [hs] at h
theorem VR.cells {v x:Value} (h:VR ρ v x):VRs ρ (cellsOf v) x.cells.toList:=by
 cases h with
 | agg k=>exact k
 | slice0 ha hp hb hs hU hc=>exact .cons (.slice0 ha hp hb hs hU hc) .nil
 | slice00 a b=>exact .cons (.slice00 a b) .nil
 | _=>exact .cons (by constructor<;>assumption) .nil
theorem VR.oneCell {v x:Value} (h:VR ρ v x) (k:Sim.oneCell v=true):x.oneCell'=true:=by
 cases h<;>first | rfl | (simp [Sim.oneCell] at k)
end
theorem zxs {α:Type} {P:Program}:∀ {t:Sem α} {a:α},zzs P t=some a->∀ w,t.run P w=.ok a w:=by
 intro t
 induction t with
 | pure a=>intro b h w;simp [zzs] at h;subst h;rfl
 | program k ih=>intro b h w;simp only [zzs] at h;simp only [Sem.run];exact ih _ h w
 | mark m k ih=>intro b h w;simp only [zzs] at h;simp only [Sem.run];exact ih h w
 | _=>intro b h;simp [zzs] at h
end Go.Sim
namespace Go.Sim
open Go
inductive L2 {α β:Type} (R:α->β->Prop):List α->List β->Prop
 | nil:L2 R [] []
 | cons {a:α} {b:β} {l:List α} {m:List β} (h:R a b) (hs:L2 R l m):L2 R (a::l) (b::m)
theorem L2.mono {α β:Type} {R S:α->β->Prop} (h:∀ a b,R a b->S a b) {l:List α} {m:List β} (k:L2 R l m):L2 S l m:=by
 induction k with
 | nil=>exact .nil
 | cons h' _ ih=>exact .cons (h _ _ h') ih
theorem L2.length {α β:Type} {R:α->β->Prop} {l:List α} {m:List β} (k:L2 R l m):m.length=l.length:=by
 induction k with
 | nil=>rfl
 | cons _ _ ih=>simp [ih]
theorem L2.get {α β:Type} {R:α->β->Prop} {l:List α} {m:List β} (k:L2 R l m) {i:Nat} {a:α} (h:l[i]? =some a):∃ b,m[i]? =some b/\R a b:=by
 induction k generalizing i with
 | nil=>simp at h
 | cons h' _ ih=>
  grind
theorem L2.append {α β:Type} {R:α->β->Prop} {l l':List α} {m m':List β} (k:L2 R l m) (k':L2 R l' m'):L2 R (l++l') (m++m'):=by
 induction k with
 | nil=>exact k'
 | cons h _ ih=>exact .cons h ih
theorem L2.set {α β:Type} {R:α->β->Prop} {l:List α} {m:List β} (k:L2 R l m) (i:Nat) {a:α} {b:β} (h:R a b):L2 R (l.set i a) (m.set i b):=by
 induction k generalizing i with
 | nil=>exact .nil
 | cons h' hs ih=>
  cases i with
  | zero=>exact .cons h hs
  | succ i=>exact .cons h' (ih i)
def TR (ρ:Ren) (tm:Trie Value) (nt:Nat) (tmps:Array Value):Prop:=tmps.size=nt/\∀ t,VR ρ ((tm.get t).getD undef) (tmps.getD t undef)
theorem TR.mono {ρ ρ':Ren} (h:ρ.Ext ρ') {tm:Trie Value} {nt:Nat} {tmps:Array Value} (k:TR ρ tm nt tmps):TR ρ' tm nt tmps:=⟨k.1,λt=>(k.2 t).mono h⟩
def ER (ρ:Ren) (e e':MapEntry):Prop:=VR ρ e.key e'.key/\VR ρ e.val e'.val/\e'.born=e.born
theorem ER.mono {ρ ρ':Ren} (h:ρ.Ext ρ') {a b:MapEntry} (k:ER ρ a b):ER ρ' a b:=⟨k.1.mono h,k.2.1.mono h,k.2.2⟩
inductive DR (ρ:Ren):Deferred->Deferred->Prop
 | fn {f f':Fn} {a a' b b':List Value} (h:FnR ρ f f') (ha:VRs ρ a a') (hb:VRs ρ b b'):DR ρ ⟨.fn f ⟨a⟩,⟨b⟩⟩ ⟨.fn f' ⟨a'⟩,⟨b'⟩⟩
 | collected {r:Nat} {p:Nat×Nat} (h:ρ.blk r=some p):DR ρ ⟨.collected r,#[]⟩ ⟨.collected p.1,#[]⟩
theorem DR.mono {ρ ρ':Ren} (h:ρ.Ext ρ') {a b:Deferred} (k:DR ρ a b):DR ρ' a b:=by
 cases k with
 | fn h1 h2 h3=>exact .fn (h1.mono h) (h2.mono h) (h3.mono h)
 | collected h1=>exact .collected (h _ _ h1).1
structure LR (ρ:Ren) (l:ALoop) (l':Loop):Prop where
 state:l'.state=l.state
 pending:l'.pending=l.pending
 fn:l'.fn=l.fn
 tm:TR ρ l.tm l.nt l'.tmps
 params:l'.params=l.params
 assign:l'.assign=l.assign
 body:l'.body=l.body
 defers:∃ p,ρ.blk l.defers=some p/\l'.defers=p.1
theorem LR.mono {ρ ρ':Ren} (h:ρ.Ext ρ') {a:ALoop} {b:Loop} (k:LR ρ a b):LR ρ' a b:=
 ⟨k.state,k.pending,k.fn,k.tm.mono h,k.params,k.assign,k.body,let ⟨p,h1,h2⟩:=k.defers;⟨p,(h _ _ h1).1,h2⟩⟩
def Blk.mut:Blk->Prop
 | .ro _=>False
 | _=>True
def same (i:Nat) (B:Blk) (j:Nat) (C:Blk):Prop:=
 match B,C with
 | .cells _ _ (some k),.cells _ _ (some k')=>k=k'
 | _,_=>i=j
def live (H:Hp) (i:Nat):Blk->Prop
 | .cells _ _ (some k)=>i∈H.stk k
 | _=>True
def Blk.len:Blk->Nat
 | .cells c _ _=>c.length
 | _=>0
def Hp.len (H:Hp) (i:Nat):Nat:=((H.get i).map Blk.len).getD 0
def ym4 (n:Nat) (fz:Nat×Nat):Prop:=∀ j,j<n->¬(fz.1<=j/\j<fz.2)
def BR (P:Program) (ρ:Ren) (i:Nat) (p:Nat×Nat) (W:World):Blk->Prop
 | .cells c e cls=>∃ C fz,W.heap[p.1]? =some (.cells C e fz)/\p.2=0/\ym4 C.size fz/\(∀ (j:Nat) (v:Value),c[j]? =some v->∃ x,C[j]? =some x/\VR ρ v x) /\
   (cls≠none->∃ sz,zyl P e=some sz/\ρ.cap i*sz<=C.size)
 | .ro c=>∃ C e fz,W.heap[p.1]? =some (.cells C e fz)/\∀ (j:Nat) (v:Value),c[j]? =some v->∃ x,C[p.2+j]? =some x/\VR ρ v x
 | .map es ck=>∃ es',W.heap[p.1]? =some (.map es' ck)/\L2 (ER ρ) es es'.toList
 | .loop l=>∃ l',W.heap[p.1]? =some (.loop l')/\LR ρ l l'
 | .defs none=>W.heap[p.1]? =some (.deferred none)
 | .defs (some d)=>∃ d',W.heap[p.1]? =some (.deferred (some d'))/\L2 (DR ρ) d d'
theorem BR.mono {P:Program} {ρ ρ':Ren} (h:ρ.Ext ρ') {i:Nat} {p:Nat×Nat} (hi:ρ.blk i=some p) {W W':World} (hW:W'.heap[p.1]? =W.heap[p.1]?) {B:Blk} (k:BR P ρ i p W B):BR P ρ' i p W' B:=by
 cases B with
 | cells c e cls=>
  obtain ⟨C,fz,h1,h2,h3,h4,h5⟩:=k;refine ⟨C,fz,hW.trans h1,h2,h3,λj v hj=>?_,λhc=>?_⟩
  .obtain ⟨x,hx,hr⟩:=h4 j v hj;exact ⟨x,hx,hr.mono h⟩
  obtain ⟨sz,g1,g2⟩:=h5 hc;exact ⟨sz,g1,by rw [(h _ _ hi).2];exact g2⟩
 | ro c=>
  obtain ⟨C,e,fz,h1,h4⟩:=k;refine ⟨C,e,fz,hW.trans h1,λj v hj=>?_⟩;obtain ⟨x,hx,hr⟩:=h4 j v hj;exact ⟨x,hx,hr.mono h⟩
 | map es ck=>obtain ⟨es',h1,h2⟩:=k;exact ⟨es',hW.trans h1,h2.mono λ_ _=>ER.mono h⟩
 | loop l=>obtain ⟨l',h1,h2⟩:=k;exact ⟨l',hW.trans h1,h2.mono h⟩
 | defs d=>
  cases d with
  | none=>exact hW.trans k
  | some d=>obtain ⟨d',h1,h2⟩:=k;exact ⟨d',hW.trans h1,h2.mono λ_ _=>DR.mono h⟩
def zuj (H:Hp):List Nat->Prop
 | []=>True
 | j::l=>(∀ m∈l,H.len m<=H.len j)/\zuj H l
structure Rep (P:Program) (ρ:Ren) (H:Hp) (W:World):Prop where
 blk:∀ i B p,H.get i=some B->live H i B->ρ.blk i=some p->BR P ρ i p W B
 sep:∀ i j B C p q,H.get i=some B->H.get j=some C->live H i B->live H j C->B.mut->¬same i B j C->ρ.blk i=some p->ρ.blk j=some q->p.1≠q.1
 new:∀ i,H.n<=i->ρ.blk i=none
 dom:∀ i B,H.get i=some B->i<H.n
 low:∀ i p,ρ.blk i=some p->p.1<W.heap.size
 glob:∀ g,g<(znh P)->ρ.blk g=some (g,0)
 mem:∀ k j,j∈H.stk k->∃ c e,H.get j=some (.cells c e (some k))
 len:∀ k,zuj H (H.stk k)
 gl:(znh P)<=H.n
theorem Rep.stk {P:Program} {ρ:Ren} {H:Hp} {W:World} (R:Rep P ρ H W) {k j:Nat} (h:j∈H.stk k):j<H.n:=let ⟨_,_,g⟩:=R.mem k j h;R.dom j _ g
structure Fr (ρ ρ':Ren) (H H':Hp) (W W':World):Prop where
 ext:ρ.Ext ρ'
 os:W'.os=W.os
 tape:W'.tape=W.tape
 output:W'.output=W.output
 size:W.heap.size<=W'.heap.size
 same:∀ b,b<W.heap.size->(∀ i B p,H.get i=some B->B.mut->ρ.blk i=some p->p.1≠b)->W'.heap[b]? =W.heap[b]?
 fresh:∀ i B p,H'.get i=some B->B.mut->ρ'.blk i=some p->W.heap.size<=p.1∨∃ j C q,H.get j=some C/\C.mut/\ρ.blk j=some q/\q.1=p.1
 n:H.n<=H'.n
 ghost:∀ i,i<H.n->ρ.blk i=none->ρ'.blk i=none/\H'.get i=H.get i
theorem Fr.refl (ρ:Ren) (H:Hp) (W:World):Fr ρ ρ H H W W:=
 ⟨.refl ρ,rfl,rfl,rfl,tzp _,λ_ _ _=>rfl,λi B p h1 h2 h3=>.inr ⟨i,B,p,h1,h2,h3,rfl⟩,tzp _,λ_ _ h=>⟨h,rfl⟩⟩
theorem Fr.trans {ρ ρ' ρ'':Ren} {H H' H'':Hp} {W W' W'':World} (h:Fr ρ ρ' H H' W W') (k:Fr ρ' ρ'' H' H'' W' W''):Fr ρ ρ'' H H'' W W'':=by
 refine ⟨h.ext.trans k.ext,k.os.trans h.os,k.tape.trans h.tape,k.output.trans h.output,tys h.size k.size,λb hb hn=>?_,λi B p h1 h2 h3=>?_,tys h.n k.n,λi hi hn=>let ⟨g1,g2⟩:=h.ghost i hi hn;let ⟨k1,k2⟩:=k.ghost i (tyf hi h.n) g1;⟨k1,k2.trans g2⟩⟩
 .rw [k.same b (tyf hb h.size) ?_,h.same b hb hn];intro i B p h1 h2 h3 e;rcases h.fresh i B p h1 h2 h3 with g | ⟨j,C,q,g1,g2,g3,g4⟩
  .omega
  exact hn j C q g1 g2 g3 (g4.trans e)
 .rcases k.fresh i B p h1 h2 h3 with g | ⟨j,C,q,g1,g2,g3,g4⟩
  .exact .inl (tys h.size g)
  rcases h.fresh j C q g1 g2 g3 with g | ⟨j',C',q',f1,f2,f3,f4⟩
  .exact .inl (g4▸g)
  .grind
theorem zos:∀ {c:List Value} {o n:Nat} {l:List Value},cut c o n=some l->l.length=n/\o+n<=max c.length o/\∀ j,j<n->l[j]? =c[o+j]?/\o+j<c.length
 | c,0,0,l,h=>by simp [cut] at h;subst h;simp
 | [],0,n+1,l,h=>by simp [cut] at h
 | v::c,0,n+1,l,h=>by
  simp only [cut] at h;split at h
  .rename_i r hr;simp at h;subst h;obtain ⟨h1,h2,h3⟩:=zos hr;refine ⟨by simp [h1],by simp;omega,λj hj=>?_⟩;cases j with
   | zero=>simp
   | succ j=>
    simp_all
  .simp at h
 | [],o+1,n,l,h=>by simp [cut] at h
 | v::c,o+1,n,l,h=>by
  have hc:cut c o n=some l:=by cases n<;>simpa [cut] using h
  obtain ⟨h1,h2,h3⟩:=zos hc;refine ⟨h1,by simp;omega,λj hj=>?_⟩;have:=h3 j hj;rw [show o+1+j=(o+j)+1 from by omega];simpa using this
theorem zt1:∀ {c:List Value} {o:Nat} {vs c':List Value},zyy c o vs=some c'->c'.length=c.length/\(vs=[]∨o+vs.length<=c.length) /\
  ∀ j,c'[j]? =if o<=j/\j<o+vs.length then vs[j-o]? else c[j]?
 | c,0,[],c',h=>by simp [zyy] at h;subst h;simp
 | [],0,_::_,c',h=>by simp [zyy] at h
 | x::c,0,v::vs,c',h=>by
  simp only [zyy] at h
  split at h
  .rename_i r hr
   simp at h;subst h
   obtain ⟨h1,h2,h3⟩:=zt1 hr
   refine ⟨by simp [h1],.inr ?_,λj=>?_⟩
   .grind
   .grind
  .simp at h
 | [],o+1,vs,c',h=>by cases vs<;>simp [zyy] at h
 | x::c,o+1,vs,c',h=>by
  have he:zyy (x::c) (o+1) vs=(match zyy c o vs with | some r=>some (x::r) | none=>none):=by cases vs<;>rfl
  have hc:∃ r,zyy c o vs=some r/\c'=x::r:=by
   grind
  obtain ⟨r,hr,rfl⟩:=hc
  obtain ⟨h1,h2,h3⟩:=zt1 hr
  refine ⟨by simp [h1],?_,λj=>?_⟩
  .grind
  .grind
def zd5 (C:Array Value) (k:Nat):List Value->Array Value
 | []=>C
 | x::xs=>zd5 (C.setIfInBounds k x) (k+1) xs
theorem zuk:∀ (xs:List Value) (C:Array Value) (k:Nat),(zd5 C k xs).size=C.size
 | [],C,k=>rfl
 | x::xs,C,k=>by rw [zd5,zuk];simp
theorem zlv:∀ (xs:List Value) (C:Array Value) (k j:Nat),k+xs.length<=C.size->(zd5 C k xs)[j]? =if k<=j/\j<k+xs.length then xs[j-k]? else C[j]?
 | [],C,k,j,_=>by rw [if_neg (by simp only [tze];omega)];rfl
 | x::xs,C,k,j,h=>by
  simp only [tzd] at h;rw [zd5,zlv xs _ _ j (by simp only [Array.size_setIfInBounds];omega)];by_cases g:k+1<=j/\j<k+1+xs.length
  .grind
  grind
def zif (W:World) (b:Nat) (o:Obj):World:={ W with heap:=W.heap.setIfInBounds b o }
@[simp] theorem wput_size (W : World) (b : Nat) (o : Obj) : (zif W b o).heap.size = W.heap.size := by simp [zif]
theorem ztk (W:World) {b:Nat} (h:b<W.heap.size) (o:Obj):(zif W b o).heap[b]? =some o:=by simp [zif,h]
theorem ztl (W:World) {b c:Nat} (h:c≠b) (o:Obj):(zif W b o).heap[c]? =W.heap[c]?:=by simp [zif,Ne.symm h]
theorem ym5 (W:World) (b:Nat) (o o':Obj):zif (zif W b o) b o'=zif W b o':=by simp [zif]
theorem zd6 {W:World} {b o:Nat} {C:Array Value} {e:TypeId} {fz:Nat×Nat} (h:W.heap[b]? =some (.cells C e fz)) (v:Value) :
  W.setCell ⟨b,o,none⟩ v=zif W b (.cells (C.setIfInBounds o v) e fz):=by
 unfold World.setCell zif;congr 1;refine Array.ext_getElem? λi=>?_;rw [Array.getElem?_modify,ty9];by_cases e':b=i
 .grind
 simp [e']
theorem zu5 (P:Program) {b o:Nat} {e:TypeId} {fz:Nat×Nat}:∀ (xs:List Value) (i:Nat) (C:Array Value) (W:World),W.heap[b]? =some (.cells C e fz) ->
  (∀ x∈xs,x.oneCell'=true)->(xs=[]∨o+i+xs.length<=C.size)->ym4 C.size fz ->
  (storeCells ⟨b,o,none⟩ xs i).run P W=.ok () (zif W b (.cells (zd5 C (o+i) xs) e fz))
 | [],i,C,W,h,_,_,_=>by
  show Result.ok () W=_
  congr 1
  unfold zif
  have:W.heap.setIfInBounds b (.cells C e fz)=W.heap:=by
   grind
  rw [zd5,this]
 | x::xs,i,C,W,h,h1,hl0,ht=>by
  have hl:o+i+(xs.length+1)<=C.size:=by
   rcases hl0 with g | g
   .cases g
   .exact g
  have hb:b<W.heap.size:=(txm.1 h).1
  have hadd:(⟨b,o,none⟩:Addr).add i=⟨b,o+i,none⟩:=by
   unfold Addr.add;split
   .rename_i e0;subst e0;rfl
   .rfl
  have hcell:W.cell? ⟨b,o+i,none⟩=some (C[o+i]'(by omega)):=by
   simp [World.cell?,h]
  have hfr:W.frozen? ⟨b,o+i,none⟩=false:=by
   obtain ⟨lo,hi⟩:=fz
   simp only [World.frozen?,h]
   have:=ht (o+i) (by omega)
   cases hd:(decide (lo<=o+i)&&decide (o+i<hi)) with
   | false=>rfl
   | true=>simp at hd;exact absurd hd this
  show (store ((⟨b,o,none⟩:Addr).add i) x >>= λ_=>storeCells ⟨b,o,none⟩ xs (i+1)).run P W=_
  rw [tzz,hadd,run_store P W _ x .plain (h1 x (by simp)),hcell]
  simp only [hfr,Bool.false_eq_true,if_false,tzm]
  rw [zd6 h,zu5 P xs (i+1) (C.setIfInBounds (o+i) x) _ (ztk W hb _) (λy hy=>h1 y (by simp [hy])) (.inr (by simp only [Array.size_setIfInBounds];omega)) (by simpa using ht),ym5]
  rw [zd5,txq]
theorem zwf (P:Program) {b o:Nat} {C:Array Value} {e:TypeId} {fz:Nat×Nat} {W:World} (h:W.heap[b]? =some (.cells C e fz)) :
  ∀ (xs:List Value) (i:Nat) (acc:Array Value),(∀ (j:Nat) (x:Value),xs[j]? =some x->C[o+i+j]? =some x) ->
   (loadCellsFrom ⟨b,o,none⟩ i xs.length acc).run P W=.ok (acc++xs.toArray) W
 | [],i,acc,_=>by show Result.ok acc W=_;simp
 | x::xs,i,acc,hx=>by
  have hadd:(⟨b,o,none⟩:Addr).add i=⟨b,o+i,none⟩:=by
   unfold Addr.add;split
   .rename_i e0;subst e0;rfl
   .rfl
  have hcell:W.cell? ⟨b,o+i,none⟩=some x:=by
   simp only [World.cell?,h]
   exact hx 0 x rfl
  show (load ((⟨b,o,none⟩:Addr).add i) >>= λv=>loadCellsFrom ⟨b,o,none⟩ (i+1) xs.length (acc.push v)).run P W=_
  rw [tzz,hadd,run_load,hcell]
  simp only [tzm]
  rw [zwf P h xs (i+1) (acc.push x) λj y hy=>by
   have:=hx (j+1) y (by simpa using hy)
   rw [show o+(i+1)+j=o+i+(j+1) from by omega];exact this]
  simp
end Go.Sim
namespace Go.Sim
open Go
variable {P:Program} {ρ:Ren} {H:Hp} {W:World}
theorem zuj.congr {H H':Hp}:∀ {l:List Nat},(∀ m∈l,H'.len m=H.len m)->zuj H l->zuj H' l
 | [],_,_=>trivial
 | j::l,h,k=>⟨λm hm=>by rw [h m (by simp [hm]),h j (by simp)];exact k.1 m hm,zuj.congr (λm hm=>h m (by simp [hm])) k.2⟩
theorem Rep.row (R:Rep P ρ H W) {i:Nat} {c:List Value} (h:H.row i=some c) {p:Nat×Nat} (hp:ρ.blk i=some p) :
  ∃ C e fz,W.heap[p.1]? =some (.cells C e fz)/\∀ (j:Nat) (v:Value),c[j]? =some v->∃ x,C[p.2+j]? =some x/\VR ρ v x:=by
 unfold Hp.row at h;cases hg:H.get i with
 | none=>rw [hg] at h;simp at h
 | some B=>
  rw [hg] at h;simp only [tzn] at h;cases B with
  | cells c' e cls=>
   have hl:live H i (.cells c' e cls)/\c'=c:=by
    cases cls with
    | none=>simp [Hp.rowOf] at h;exact ⟨trivial,h⟩
    | some k=>
     simp only [Hp.rowOf] at h;cases hm:zfh i (H.stk k) with
     | true=>rw [hm] at h;simp at h;exact ⟨zwr.1 hm,h⟩
     | false=>rw [hm] at h;simp at h
   obtain ⟨hl,rfl⟩:=hl;obtain ⟨C,fz,h1,h2,_,h4,_⟩:=R.blk i _ p hg hl hp;exact ⟨C,e,fz,h1,λj v hj=>by rw [h2,txj];exact h4 j v hj⟩
  | ro c'=>
   simp [Hp.rowOf] at h;subst h;obtain ⟨C,e,fz,h1,h4⟩:=R.blk i _ p hg trivial hp;exact ⟨C,e,fz,h1,h4⟩
  | map es ck=>simp [Hp.rowOf] at h
  | loop l=>simp [Hp.rowOf] at h
  | defs d=>simp [Hp.rowOf] at h
theorem Rep.read (R:Rep P ρ H W) {i o n:Nat} {l:List Value} (h:H.read i o n=some l) {b:Addr} (ha:ρ.addr ⟨i,o,none⟩ b) :
  ∃ (g f:Nat) (C:Array Value) (e:TypeId) (fz:Nat×Nat) (m:List Value),b=⟨g,f,none⟩/\W.heap[g]? =some (.cells C e fz)/\l.length=n/\VRs ρ l m/\∀ (j:Nat) (x:Value),m[j]? =some x->C[f+j]? =some x:=by
 unfold Hp.read at h;cases hr:H.row i with
 | none=>rw [hr] at h;simp at h
 | some c=>
  rw [hr] at h;simp only at h;obtain ⟨h1,_,h3⟩:=zos h;obtain ⟨_,p,hp,rfl⟩:=ha;simp only at hp;obtain ⟨C,e,fz,hW,hc⟩:=R.row hr hp;have key:∀ j,j<n->∃ v x,l[j]? =some v/\C[p.2+o+j]? =some x/\VR ρ v x:=(by grind)
  have hsz:∀ j,j<n->p.2+o+j<C.size:=λj hj=>by
   grind
  refine ⟨p.1,p.2+o,C,e,fz,((List.range n).map λj=>C.getD (p.2+o+j) undef),rfl,hW,h1,VRs.of_get (by simp [h1]) λj v hj=>?_,λj x hj=>?_⟩
  .have hjn:j<n:=by have:=(tyl.1 hj).1;omega
   obtain ⟨v',x,g1,g2,g3⟩:=key j hjn;rw [g1] at hj;simp at hj;subst hj;refine ⟨x,?_,g3⟩;simp only [tzr,tz7 hjn,tz2,tyc,g2,tye]
  .have hjn:j<n:=by have:=(tyl.1 hj).1;simpa using this
   simp only [tzr,tz7 hjn,tz2,tza] at hj;rw [<-hj,tyc,Array.getElem?_eq_getElem (hsz j hjn)];rfl
theorem Rep.loadCells (R:Rep P ρ H W) {i o n:Nat} {l:List Value} (h:H.read i o n=some l) {b:Addr} (ha:ρ.addr ⟨i,o,none⟩ b) :
  ∃ m,VRs ρ l m/\m.length=n/\(Go.loadCells b n).run P W=.ok m.toArray W:=by
 obtain ⟨g,f,C,e,fz,m,rfl,h1,h2,h3,h4⟩:=R.read h ha;have hl:m.length=n:=by rw [h3.length,h2]
 refine ⟨m,h3,hl,?_⟩;have:=zwf P h1 m 0 #[] (λj x hx=>by simpa using h4 j x hx);rw [hl] at this;simpa [Go.loadCells] using this
theorem Rep.load (R:Rep P ρ H W) {i o:Nat} {v:Value} (h:H.read i o 1=some [v]) {b:Addr} (ha:ρ.addr ⟨i,o,none⟩ b) :
  ∃ x,VR ρ v x/\(Go.load b).run P W=.ok x W:=by
 obtain ⟨g,f,C,e,fz,m,rfl,h1,h2,h3,h4⟩:=R.read h ha;cases h3 with
 | cons hv hs=>
  cases hs;rename_i x;refine ⟨x,hv,?_⟩;have:W.cell? ⟨g,f,none⟩=some x:=by simp only [World.cell?,h1];simpa using h4 0 x rfl
  rw [run_load,this]
theorem Rep.getLt (R:Rep P ρ H W) {i:Nat} {p:Nat×Nat} (h:ρ.blk i=some p):i<H.n:=by
 rcases tz9 i H.n with g | g
 .exact g
 rw [R.new i g] at h;cases h
theorem Rep.turn (R:Rep P ρ H W) {i:Nat} {B B':Blk} {p:Nat×Nat} (hB:H.get i=some B) (hl:live H i B) (hm:B.mut) (hp:ρ.blk i=some p) {H':Hp}
  (hg:∀ j,H'.get j=if j=i then some B' else H.get j) (hn:H'.n=H.n)
  (hs:∀ k,H'.stk k=H.stk k∨(H'.stk k=[i]/\∃ c e,B=.cells c e (some k)))
  (hsame:∀ j C,same i B' j C->same i B j C) (hsame':∀ j C,same j C i B'->same j C i B) (hlive:live H' i B') (hlen:B'.len=B.len) (hmut:B'.mut)
  (hst:∀ c e k,B=.cells c e (some k)->H'.stk k=[i]) (hB':∀ c e k,B=.cells c e (some k)->∃ c' e',B'=.cells c' e' (some k)) {W':World} (hsz:W'.heap.size=W.heap.size) (ho:∀ b,b≠p.1->W'.heap[b]? =W.heap[b]?)
  (hos:W'.os=W.os) (ht:W'.tape=W.tape) (hout:W'.output=W.output) (hBR:BR P ρ i p W' B'):Rep P ρ H' W'/\Fr ρ ρ H H' W W':=by
 have hget:∀ j C,j≠i->H'.get j=some C->H.get j=some C:=λj C h g=>by rw [hg,if_neg h] at g;exact g
 have hlv:∀ j C,j≠i->live H' j C->live H j C:=by
  intro j C hj hc;unfold live at hc ⊢;split<;>rename_i k
  .grind
  trivial
 have hns:∀ j C,j≠i->H'.get j=some C->live H' j C->¬same i B j C:=by
  intro j C hj hC hc hsm;unfold same at hsm;split at hsm
  .rename_i k _ _ k';subst hsm;have:=hst _ _ _ rfl;unfold live at hc;simp only at hc;rw [this] at hc;simp at hc;exact hj hc
  .exact hj hsm.symm
 have hlenH:∀ j,H'.len j=H.len j:=by
  intro j;unfold Hp.len;rw [hg];by_cases e:j=i
  .subst e;rw [if_pos rfl,hB];simp [hlen]
  .rw [if_neg e]
 have hdisj:∀ j C q,j≠i->H'.get j=some C->live H' j C->ρ.blk j=some q->q.1≠p.1:=λj C q hj hC hc hq e=>
  R.sep i j B C p q hB (hget j C hj hC) hl (hlv j C hj hc) hm (hns j C hj hC hc) hp hq e.symm
 refine ⟨⟨λj C q hj hc hq=>?_,λa b A C pa pb ha hb hla hlb hma hn' hpa hpb=>?_,λj hj=>R.new j (hn▸hj),λj C hj=>?_,λj q hq=>hsz▸R.low j q hq,R.glob,λk j hj=>?_,λk=>?_,hn▸R.gl⟩,
  ⟨.refl ρ,hos,ht,hout,Nat.le_of_eq hsz.symm,λb hb hno=>ho b λe=>hno i B p hB hm hp e.symm,λj C q hj hc hq=>.inr ?_,Nat.le_of_eq hn.symm,λj _ hj=>⟨hj,by rw [hg,if_neg (λe=>by rw [e,hp] at hj;cases hj)]⟩⟩⟩
 .by_cases e:j=i
  .simp_all
  have hbr:=R.blk j C q (hget j C e hj) (hlv j C e hc) hq;exact hbr.mono (.refl ρ) hq (ho q.1 (hdisj j C q e hj hc hq))
 .by_cases ea:a=i
  .subst ea;rw [hg,if_pos rfl] at ha;simp at ha;subst ha;by_cases eb:b=a
   .subst eb;rw [hg,if_pos rfl] at hb;simp at hb;subst hb;exfalso;apply hn';unfold same;split
    .rename_i h1 h2;simp_all
    .rfl
   .grind
  .by_cases eb:b=i
   .grind
   exact R.sep a b A C pa pb (hget a A ea ha) (hget b C eb hb) (hlv a A ea hla) (hlv b C eb hlb) hma hn' hpa hpb
 .by_cases e:j=i
  .subst e;rw [hn];exact R.dom j B hB
  rw [hn];exact R.dom j C (hget j C e hj)
 .have key:∀ c e,B=.cells c e (some k)->∃ c e,H'.get i=some (.cells c e (some k)):=λc e hb=>by
   simp_all
  rcases hs k with g | ⟨g,c,e,g'⟩
  .rw [g] at hj;obtain ⟨c,e,g'⟩:=R.mem k j hj;by_cases e':j=i
   .simp_all
   simp_all
  .simp_all
 .rcases hs k with g | ⟨g,_⟩
  .rw [g];exact (R.len k).congr λm _=>hlenH m
  .rw [g];exact ⟨by simp,trivial⟩
 .grind
theorem VRs.one {ρ:Ren}:∀ {l m:List Value},l.all oneCell=true->VRs ρ l m->∀ x∈m,x.oneCell'=true
 | [],m,_,h=>by cases h;simp
 | v::l,m,h1,h=>by
  simp only [List.all_cons,tzc] at h1;cases h with
  | cons hv hs=>
   intro x hx;rcases tzu.1 hx with e | e
   .subst e;exact hv.oneCell h1.1
   .exact VRs.one h1.2 hs x e
theorem Rep.write (R:Rep P ρ H W) {i o:Nat} {vs xs:List Value} {H':Hp} (h:H.write i o vs=some H') (hx:VRs ρ vs xs) {b:Addr} (ha:ρ.addr ⟨i,o,none⟩ b) :
  ∃ W',(storeCells b xs).run P W=.ok () W'/\Rep P ρ H' W'/\Fr ρ ρ H H' W W'/\W'.drawn=W.drawn/\H'.n=H.n:=by
 unfold Hp.write at h;cases hone:vs.all oneCell with
 | false=>rw [hone] at h;simp at h
 | true=>
 rw [hone] at h;simp only at h;cases hg:H.get i with
 | none=>rw [hg] at h;simp at h
 | some B=>
 rw [hg] at h;simp only [tzn] at h;have hx1:∀ x∈xs,x.oneCell'=true:=hx.one hone;cases B with
 | ro c=>simp [Hp.writeIn] at h
 | map es ck=>simp [Hp.writeIn] at h
 | loop l=>simp [Hp.writeIn] at h
 | defs d=>simp [Hp.writeIn] at h
 | cells c e cls=>
  have hc:live H i (.cells c e cls)/\∃ c',zyy c o vs=some c'/\((cls=none/\H'=H.put i (.cells c' e none))∨∃ k,cls=some k/\H'=H.put1 i (.cells c' e (some k)) k):=by
   cases cls with
   | none=>
    simp only [Hp.writeIn] at h;cases hs:zyy c o vs with
    | none=>rw [hs] at h;simp at h
    | some c'=>rw [hs] at h;simp at h;exact ⟨trivial,c',rfl,.inl ⟨rfl,h.symm⟩⟩
   | some k=>
    simp only [Hp.writeIn] at h;cases hm:zfh i (H.stk k) with
    | false=>rw [hm] at h;simp at h
    | true=>
     rw [hm] at h;simp only at h;cases hs:zyy c o vs with
     | none=>rw [hs] at h;simp at h
     | some c'=>rw [hs] at h;simp at h;exact ⟨zwr.1 hm,c',rfl,.inr ⟨k,rfl,h.symm⟩⟩
  obtain ⟨hl,c',hsp,hH⟩:=hc;obtain ⟨_,p,hp,rfl⟩:=ha;simp only at hp;obtain ⟨C,fz,h1,h2,h3,h4,h5⟩:=R.blk i _ p hg hl hp;rw [h2,txj];obtain ⟨s1,s2,s3⟩:=zt1 hsp
  have hcs:c.length<=C.size:=by
   rcases ty4 c.length with g | g
   .omega
   obtain ⟨x,hx,_⟩:=h4 (c.length-1) _ (tzb (by omega));have:=(txm.1 hx).1;omega
  have hsz:xs=[]∨o+0+xs.length<=C.size:=by
   rcases s2 with g | g
   .subst g;cases hx;exact .inl rfl
   .right;rw [hx.length];omega
  have hst:=zu5 P xs 0 C W h1 hx1 hsz h3;have hb:p.1<W.heap.size:=(txm.1 h1).1;refine ⟨_,hst,?_⟩
  have hget':∀ (j:Nat) (v:Value),c'[j]? =some v->∃ x,(zd5 C (o+0) xs)[j]? =some x/\VR ρ v x:=by
   intro j v hj;rw [s3] at hj;rcases hsz with g | g
   .subst g;have:vs=[]:=by cases hx;rfl
    subst this;rw [if_neg (by simp only [tze];omega)] at hj;exact h4 j v hj
   rw [zlv _ _ _ _ g,hx.length,Nat.add_zero];by_cases hr:o<=j/\j<o+vs.length
   .rw [if_pos hr] at hj ⊢;exact hx.get hj
   rw [if_neg hr] at hj ⊢;exact h4 j v hj
  have hBR:BR P ρ i p (zif W p.1 (.cells (zd5 C (o+0) xs) e fz)) (.cells c' e cls):=
   ⟨_,fz,ztk W hb _,h2,by rw [zuk];exact h3,hget',λhc=>by rw [zuk];exact h5 hc⟩
  have fin:=λ(hg':∀ j,H'.get j=if j=i then some (.cells c' e cls) else H.get j) (hn:H'.n=H.n) hs hlive hst'=>
   R.turn (B':=.cells c' e cls) hg hl trivial hp hg' hn hs (λj C h=>by unfold same at h ⊢;cases C<;>(first | exact h | (split<;>simp_all)))
    (λj C h=>by unfold same at h ⊢;cases C<;>(first | exact h | (split<;>simp_all))) hlive (by simp [Blk.len,s1]) trivial hst' (λc2 e2 k2 h=>by simp at h;obtain ⟨_,_,rfl⟩:=h;exact ⟨_,_,rfl⟩) (wput_size W p.1 (.cells (zd5 C (o+0) xs) e fz)) (λb hb=>ztl W hb _) rfl rfl rfl hBR
  rcases hH with ⟨rfl,rfl⟩ | ⟨k,rfl,rfl⟩
  .obtain ⟨r1,r2⟩:=fin (λj=>by simp) (by simp) (λk=>.inl (by simp)) trivial (λc2 e2 k hk=>by simp at hk);exact ⟨r1,r2,rfl,by simp⟩
  obtain ⟨r1,r2⟩:=fin (λj=>by simp) (by simp) (λk'=>by
    by_cases e':k'=k
    .subst e';exact .inr ⟨by simp,c,e,rfl⟩
    .simp_all) (by simp [live]) (λc2 e2 k2 hk=>by simp at hk;obtain ⟨_,_,rfl⟩:=hk;simp)
  exact ⟨r1,r2,rfl,by simp⟩
end Go.Sim
namespace Go.Sim
open Go
variable {P:Program} {ρ:Ren} {H:Hp} {W:World}
def Blk.solo:Blk->Prop
 | .cells _ _ (some _)=>False
 | _=>True
theorem Rep.drew (R:Rep P ρ H W) (n:Nat):Rep P ρ H { W with drawn:=n }:=
 ⟨λi B p h1 h2 h3=>(R.blk i B p h1 h2 h3).mono (.refl ρ) h3 rfl,R.sep,R.new,R.dom,R.low,R.glob,R.mem,R.len,R.gl⟩
theorem Fr.drew (n:Nat):Fr ρ ρ H H W { W with drawn:=n }:=
 ⟨.refl ρ,rfl,rfl,rfl,tzp _,λ_ _ _=>rfl,λi B p h1 h2 h3=>.inr ⟨i,B,p,h1,h2,h3,rfl⟩,tzp _,λ_ _ h=>⟨h,rfl⟩⟩
theorem Rep.skip (R:Rep P ρ H W) (p:Nat×Nat) (hp:p.1<W.heap.size) (c:Nat):Rep P (ρ.add H.n p c) H.skip W/\Fr ρ (ρ.add H.n p c) H H.skip W W:=by
 have hnew:ρ.blk H.n=none:=R.new _ (tzp _);have hext:=Ren.ext_add hnew p c;have hne:∀ i B,H.get i=some B->i≠H.n:=λi B h e=>by have:=R.dom i B h;omega
 refine ⟨⟨λi B q h hl hq=>?_,λi j B C q r hi hj hli hlj hm hn hq hr=>?_,λi hi=>?_,λi B h=>?_,λi q hq=>?_,λg hg=>?_,λk j hj=>?_,λk=>?_,?_⟩,
  ⟨hext,rfl,rfl,rfl,tzp _,λ_ _ _=>rfl,λi B q h1 h2 h3=>.inr ?_,by simp,λi hi hn=>⟨by rw [Ren.add_other _ (by omega)];exact hn,by rw [Hp.get_skip]⟩⟩⟩
 .rw [Hp.get_skip] at h;rw [Ren.add_other _ (hne i B h)] at hq;exact (R.blk i B q h (by unfold live at hl ⊢;split<;>simp_all) hq).mono hext hq rfl
 .rw [Hp.get_skip] at hi hj;rw [Ren.add_other _ (hne i B hi)] at hq;rw [Ren.add_other _ (hne j C hj)] at hr;exact R.sep i j B C q r hi hj (by unfold live at hli ⊢;split<;>simp_all) (by unfold live at hlj ⊢;split<;>simp_all) hm hn hq hr
 .simp only [Hp.n_skip] at hi;rw [Ren.add_other _ (by omega)];exact R.new i (by omega)
 .rw [Hp.get_skip] at h;have:=R.dom i B h;simp only [Hp.n_skip];omega
 .by_cases e:i=H.n
  .simp_all
  rw [Ren.add_other _ e] at hq;exact R.low i q hq
 .rw [Ren.add_other _ (by have:=R.gl;omega)];exact R.glob g hg
 .rw [Hp.stk_skip] at hj;rw [Hp.get_skip];exact R.mem k j hj
 .rw [Hp.stk_skip];exact (R.len k).congr λm _=>by unfold Hp.len;rw [Hp.get_skip]
 .have:=R.gl;simp only [Hp.n_skip];omega
 .rw [Hp.get_skip] at h1;exact ⟨i,B,q,h1,h2,by rwa [Ren.add_other _ (hne i B h1)] at h3,rfl⟩
theorem Rep.fresh (R:Rep P ρ H W) {B:Blk} {o:Obj} {H':Hp} (c:Nat) (hg:∀ j,H'.get j=if j=H.n then some B else H.get j) (hn:H'.n=H.n+1)
  (hs:∀ k,H'.stk k=H.stk k∨(H'.stk k=[H.n]/\∃ c e,B=.cells c e (some k))) (hB:B.solo∨∃ c e,B=.cells c e (some H.n))
  {W':World} (hh:W'.heap=W.heap.push o) (hos:W'.os=W.os) (ht:W'.tape=W.tape) (hout:W'.output=W.output)
  (hBR:BR P (ρ.add H.n (W.heap.size,0) c) H.n (W.heap.size,0) W' B):Rep P (ρ.add H.n (W.heap.size,0) c) H' W'/\Fr ρ (ρ.add H.n (W.heap.size,0) c) H H' W W':=by
 have hnew:ρ.blk H.n=none:=R.new _ (tzp _);have hext:=Ren.ext_add hnew (W.heap.size,0) c;have hne:∀ i B,H.get i=some B->i≠H.n:=λi B h e=>by have:=R.dom i B h;omega
 have hget:∀ i C,i≠H.n->H'.get i=some C->H.get i=some C:=λi C h g=>by rw [hg,if_neg h] at g;exact g
 have hold:∀ b,b<W.heap.size->W'.heap[b]? =W.heap[b]?:=λb hb=>by rw [hh,Array.getElem?_push,if_neg (by omega)]
 have hlv:∀ i C,i≠H.n->live H' i C->live H i C:=by
  intro i C hi hl;unfold live at hl ⊢;split<;>rename_i k
  .grind
  trivial
 have hlen:∀ m,m≠H.n->H'.len m=H.len m:=λm hm=>by unfold Hp.len;rw [hg,if_neg hm]
 refine ⟨⟨λi C q h hl hq=>?_,λi j A C q r hi hj hli hlj hm hnn hq hr=>?_,λi hi=>?_,λi C h=>?_,λi q hq=>?_,λg hg'=>?_,λk j hj=>?_,λk=>?_,?_⟩,
  ⟨hext,hos,ht,hout,by rw [hh];simp,λb hb _=>hold b hb,λi C q h1 h2 h3=>?_,by omega,λi hi hn'=>⟨by rw [Ren.add_other _ (by omega)];exact hn',by rw [hg,if_neg (by omega)]⟩⟩⟩
 .by_cases e:i=H.n
  .simp_all
  rw [Ren.add_other _ e] at hq;exact (R.blk i C q (hget i C e h) (hlv i C e hl) hq).mono hext hq (hold _ (R.low i q hq))
 .by_cases ei:i=H.n
  .subst ei;rw [Ren.add_same] at hq;simp at hq;subst hq;by_cases ej:j=H.n
   .subst ej;rw [hi] at hj;simp at hj;subst hj;exfalso;apply hnn;unfold same;split
    .rename_i h1 h2;simp_all
    .rfl
   .rw [Ren.add_other _ ej] at hr;have:=R.low j r hr;simp only;omega
  rw [Ren.add_other _ ei] at hq;have hlow:=R.low i q hq;by_cases ej:j=H.n
  .subst ej;rw [Ren.add_same] at hr;simp at hr;subst hr;simp only;omega
  rw [Ren.add_other _ ej] at hr;exact R.sep i j A C q r (hget i A ei hi) (hget j C ej hj) (hlv i A ei hli) (hlv j C ej hlj) hm hnn hq hr
 .rw [Ren.add_other _ (by omega)];exact R.new i (by omega)
 .by_cases e:i=H.n
  .omega
  have:=R.dom i C (hget i C e h);omega
 .rw [hh];by_cases e:i=H.n
  .subst e;rw [Ren.add_same] at hq;simp at hq;subst hq;simp
  rw [Ren.add_other _ e] at hq;have:=R.low i q hq;simp;omega
 .rw [Ren.add_other _ (by have:=R.gl;omega)];exact R.glob g hg'
 .rcases hs k with g | ⟨g,g'⟩<;>rw [g] at hj
  .have:=R.stk hj;rw [hg,if_neg (by omega)];exact R.mem k j hj
  .simp_all
 .rcases hs k with g | ⟨g,_⟩<;>rw [g]
  .exact (R.len k).congr λm hm=>hlen m (by have:=R.stk hm;omega)
  .exact ⟨by simp,trivial⟩
 .have:=R.gl;omega
 .by_cases e:i=H.n
  .subst e;rw [Ren.add_same] at h3;simp at h3;subst h3;exact .inl (tzp _)
  .rw [Ren.add_other _ e] at h3;exact .inr ⟨i,C,q,hget i C e h1,h2,h3,rfl⟩
theorem Rep.newRow (R:Rep P ρ H W) {vs:List Value} {C:Array Value} (e:TypeId) (hv:VRs ρ vs C.toList) :
  Rep P (ρ.add H.n (W.heap.size,0) 0) (H.new (.cells vs e none)) (W.alloc (.cells C e))/\Fr ρ (ρ.add H.n (W.heap.size,0) 0) H (H.new (.cells vs e none)) W (W.alloc (.cells C e)):=by
 have hext:=Ren.ext_add (R.new _ (tzp _)) (W.heap.size,0) 0;refine R.fresh (B:=.cells vs e none) (o:=.cells C e) 0 (λj=>by simp) (by simp) (λk=>.inl (by simp)) (.inl trivial) rfl rfl rfl rfl ⟨C,(0,0),(by show (W.heap.push _)[W.heap.size]? =_;simp),rfl,λj _ h=>by simp at h,λj v hj=>?_,λh=>absurd rfl h⟩;obtain ⟨x,hx,hr⟩:=hv.get hj;exact ⟨x,by simpa using hx,hr.mono hext⟩
theorem Rep.newObj (R:Rep P ρ H W) {B:Blk} {o:Obj} (hB:B.solo) (hBR:BR P (ρ.add H.n (W.heap.size,0) 0) H.n (W.heap.size,0) (W.alloc o) B) :
  Rep P (ρ.add H.n (W.heap.size,0) 0) (H.new B) (W.alloc o)/\Fr ρ (ρ.add H.n (W.heap.size,0) 0) H (H.new B) W (W.alloc o):=
 R.fresh (o:=o) 0 (λj=>by simp) (by simp) (λk=>.inl (by simp)) (.inl hB) rfl rfl rfl rfl hBR
theorem Rep.newCls (R:Rep P ρ H W) {vs:List Value} {C:Array Value} {e sz cap:Nat} {W1:World} (h1:W1.heap=W.heap) (hos:W1.os=W.os) (ht:W1.tape=W.tape) (hout:W1.output=W.output)
  (hv:∀ (j:Nat) (v:Value),vs[j]? =some v->∃ x,C[j]? =some x/\VR ρ v x) (hs:zyl P e=some sz) (hc:cap*sz<=C.size) :
  Rep P (ρ.add H.n (W.heap.size,0) cap) (H.newIn vs e H.n [H.n]) (W1.alloc (.cells C e))/\Fr ρ (ρ.add H.n (W.heap.size,0) cap) H (H.newIn vs e H.n [H.n]) W (W1.alloc (.cells C e)):=by
 have hext:=Ren.ext_add (R.new _ (tzp _)) (W.heap.size,0) cap
 refine R.fresh (B:=.cells vs e (some H.n)) cap (o:=.cells C e) (λj=>by simp) (by simp) (λk=>by
   by_cases hk:k=H.n
   .subst hk;exact .inr ⟨by simp,_,_,rfl⟩
   .simp_all) (.inr ⟨_,_,rfl⟩) (by show W1.heap.push _=_;rw [h1]) hos ht hout
  ⟨C,(0,0),(by show (W1.heap.push _)[W.heap.size]? =_;rw [h1];simp),rfl,λj _ h=>by simp at h,λj v hj=>?_,λ_=>⟨sz,hs,by rw [Ren.add_cap];exact hc⟩⟩
 obtain ⟨x,hx,hr⟩:=hv j v hj;exact ⟨x,hx,hr.mono hext⟩
theorem zjl:∀ {c:List Value} {n:Nat} {l:List Value} {b:Bool},yka c n=some (l,b)->l.length=n/\n<=c.length/\l=c.take n/\(b=true->c.length=n)
 | [],0,l,b,h=>by simp [yka] at h;obtain ⟨rfl,rfl⟩:=h;simp
 | v::c,0,l,b,h=>by simp [yka] at h;obtain ⟨rfl,rfl⟩:=h;simp
 | [],n+1,l,b,h=>by simp [yka] at h
 | v::c,n+1,l,b,h=>by
  simp only [yka] at h;split at h
  .rename_i r b' hr;simp at h;obtain ⟨rfl,rfl⟩:=h;obtain ⟨h1,h2,h3,h4⟩:=zjl hr;exact ⟨by simp [h1],by simp;omega,by simp [<-h3],λhb=>by simp [h4 hb]⟩
  .simp at h
theorem zhq {i:Nat} {full:Bool}:∀ {s:List Nat},i∈s->∃ t,ztw i full s=i::t/\(full=false->t=[])/\∃ pre post n',s=pre++i::post/\t=post.take n'
 | j::l,h=>by
  unfold ztw;cases hb:Nat.beq j i with
  | true=>
   have e:=tzo hb;subst e;cases full with
   | true=>exact ⟨l.take 99,rfl,by simp,[],l,99,rfl,rfl⟩
   | false=>exact ⟨[],rfl,λ_=>rfl,[],l,0,rfl,by simp⟩
  | false=>
   have hij:i≠j:=λe=>by subst e;simp at hb
   have:i∈l:=by rcases tzu.1 h with e | e;exact absurd e hij;exact e
   obtain ⟨t,h1,h2,pre,post,n',h3,h4⟩:=zhq (full:=full) this;exact ⟨t,h1,h2,j::pre,post,n',by simp [h3],h4⟩
theorem znq {H:Hp} {i:Nat}:∀ {pre post:List Nat},zuj H (pre++i::post)->(∀ m∈post,H.len m<=H.len i)/\zuj H post
 | [],post,h=>h
 | j::pre,post,h=>znq (pre:=pre) h.2
theorem zuj.sub {H:Hp}:∀ {l:List Nat},zuj H l->∀ n,zuj H (l.take n)
 | [],_,n=>by simp [zuj]
 | j::l,h,0=>by simp [zuj]
 | j::l,h,n+1=>⟨λm hm=>h.1 m (ty3 hm),zuj.sub h.2 n⟩
theorem Rep.grow (R:Rep P ρ H W) {i k n e sz cap:Nat} {cs old new:List Value} {full:Bool} (hg:H.get i=some (.cells cs e (some k))) (hl:i∈H.stk k) (hcut:yka cs n=some (old,full))
  {p q:Nat×Nat} (hp:ρ.blk i=some p) {C C':Array Value} {fz fz':Nat×Nat} (hC:W.heap[p.1]? =some (.cells C e fz)) (hs:zyl P e=some sz) {W':World}
  (hq2:q.2=0) (hC':W'.heap[q.1]? =some (.cells C' e fz')) (hfz:ym4 C'.size fz') (hcap:cap*sz<=C'.size)
  (hnew:∀ (j:Nat) (v:Value),(old++new)[j]? =some v->∃ x,C'[j]? =some x/\VR ρ v x)
  (hq:q.1=W.heap.size∨(q=p/\C'.size=C.size/\fz'=fz/\∀ j,j<n->C'[j]? =C[j]?))
  (hsz:W.heap.size<=W'.heap.size) (hlt:q.1<W'.heap.size) (ho:∀ b,b<W.heap.size->b≠q.1->W'.heap[b]? =W.heap[b]?) (hos:W'.os=W.os) (ht:W'.tape=W.tape) (hout:W'.output=W.output) :
  let H':=Hp.newIn (H.put i (.cells old e (some k))) (old++new) e k (H.n::ztw i full (H.stk k))
  Rep P (ρ.add H.n q cap) H' W'/\Fr ρ (ρ.add H.n q cap) H H' W W':=by
 intro H';have hfresh:ρ.blk H.n=none:=R.new _ (tzp _);have hext:=Ren.ext_add hfresh q cap;have hne:∀ j B,H.get j=some B->j≠H.n:=λj B h e=>by have:=R.dom j B h;omega
 have hin:i≠H.n:=hne i _ hg;obtain ⟨c1,c2,c3,c4⟩:=zjl hcut;obtain ⟨t,k1,k2,pre,post,n',k3,k5⟩:=zhq (full:=full) hl;have k4:∀ m,m∈t->m∈post:=λm hm=>by rw [k5] at hm;exact ty3 hm
 obtain ⟨C0,fz0,b1,b2,b3,b4,b5⟩:=R.blk i _ p hg hl hp;rw [hC] at b1;simp at b1;obtain ⟨rfl,rfl⟩:=b1;have hget:∀ j,H'.get j=if j=H.n then some (.cells (old++new) e (some k)) else if j=i then some (.cells old e (some k)) else H.get j:=λj=>by simp [H']
 have hstk:∀ j,H'.stk j=if j=k then H.n::i::t else H.stk j:=λj=>by simp [H',k1]
 have hn':H'.n=H.n+1:=by simp [H']
 have hsub:∀ m,m∈t->m∈H.stk k:=λm hm=>by rw [k3];simp [k4 m hm]
 have hgo:∀ j B,j≠H.n->j≠i->H'.get j=some B->H.get j=some B:=λj B h1 h2 h=>by rw [hget,if_neg h1,if_neg h2] at h;exact h
 have hlv:∀ j B,j≠H.n->j≠i->live H' j B->live H j B:=by
  intro j B h1 h2 h;unfold live at h ⊢;split<;>rename_i k'
  .grind
  trivial
 have hlenold:H.len i=cs.length:=by simp [Hp.len,hg,Blk.len]
 have hold:∀ m,m∈t->H.len m<=n/\full=true:=by
  intro m hm;cases hf:full with
  | false=>rw [k2 hf] at hm;simp at hm
  | true=>
   have:=(znq (k3▸R.len k)).1 m (k4 m hm);rw [hlenold,c4 hf] at this;exact ⟨this,rfl⟩
 -- where a row lies that is none of the two
 have hwhere:∀ j B r,j≠H.n->j≠i->H'.get j=some B->live H' j B->ρ.blk j=some r->r.1≠q.1∨(q=p/\∃ c,B=.cells c e (some k)/\c.length<=n)∨(q=p/\∃ c e',B=.cells c e' (some k)/\c.length<=n):=by
  intro j B r h1 h2 h3 h4 h5;rcases hq with g | ⟨g,_⟩
  .exact .inl (by have:=R.low j r h5;omega)
  by_cases hsm:same i (.cells cs e (some k)) j B;rotate_left
  .left;rw [g];exact λe'=>R.sep i j _ B p r hg (hgo j B h1 h2 h3) hl (hlv j B h1 h2 h4) trivial hsm hp h5 e'.symm
  cases B with
  | cells c e' cls=>
   cases cls with
   | none=>exact absurd hsm (λh=>by simp [same] at h;exact h2 h.symm)
   | some k'=>
    simp [same] at hsm;subst hsm
    have hmem:j∈t:=by
     have:=h4;simp [live] at this;rw [hstk,if_pos rfl] at this;rcases tzu.1 this with g' | g'
     .exact absurd g' h1
     .simp_all
    have:=(hold j hmem).1;have hl':H.len j=c.length:=by simp [Hp.len,hgo j _ h1 h2 h3,Blk.len]
    exact .inr (.inr ⟨g,c,e',rfl,by omega⟩)
  | _=>simp [same] at hsm;exact absurd hsm.symm h2
 refine ⟨⟨λj B r hj hlj hr=>?_,λa b A B pa pb ha hb hla hlb hma hns hpa hpb=>?_,λj hj=>?_,λj B hj=>?_,λj r hr=>?_,λg hg'=>?_,λk' j hj=>?_,λk'=>?_,?_⟩,
  ⟨hext,hos,ht,hout,hsz,λb hb hno=>?_,λj B r h1 h2 h3=>?_,by omega,λj hj hn0=>⟨by rw [Ren.add_other _ (by omega)];exact hn0,by rw [hget,if_neg (by omega),if_neg (λe=>by rw [e,hp] at hn0;cases hn0)]⟩⟩⟩
 .by_cases e1:j=H.n
  .subst e1;rw [hget,if_pos rfl] at hj;simp at hj;subst hj;rw [Ren.add_same] at hr;simp at hr;subst hr;refine ⟨C',fz',hC',hq2,hfz,λm v hm=>?_,λ_=>⟨sz,hs,by rw [Ren.add_cap];exact hcap⟩⟩;obtain ⟨x,hx,hv⟩:=hnew m v hm;exact ⟨x,hx,hv.mono hext⟩
  .by_cases e2:j=i
   .subst e2;rw [hget,if_neg e1,if_pos rfl] at hj;simp at hj;subst hj;rw [Ren.add_other _ e1,hp] at hr;simp at hr;subst hr
    have hb4:∀ (m:Nat) (v:Value),old[m]? =some v->∃ x,C[m]? =some x/\VR ρ v x:=λm v hm=>b4 m v (by
     grind)
    obtain ⟨sz',s1,s2⟩:=b5 (by simp);rcases hq with g | ⟨rfl,g2,rfl,g3⟩
    .have hpn:p.1≠q.1:=by have:=R.low j p hp;omega
     refine ⟨C,fz,(ho p.1 (R.low j p hp) hpn).trans hC,b2,b3,λm v hm=>?_,λ_=>⟨sz',s1,by rw [(hext _ _ hp).2];exact s2⟩⟩;obtain ⟨x,hx,hv⟩:=hb4 m v hm;exact ⟨x,hx,hv.mono hext⟩
    refine ⟨C',fz',hC',b2,hfz,λm v hm=>?_,λ_=>⟨sz',s1,by rw [(hext _ _ hp).2,g2];exact s2⟩⟩;obtain ⟨x,hx,hv⟩:=hb4 m v hm;have hmn:m<n:=by have:=(tyl.1 hm).1;omega
    exact ⟨x,by rw [g3 m hmn];exact hx,hv.mono hext⟩
   .rw [Ren.add_other _ e1] at hr;have hbr:=R.blk j B r (hgo j B e1 e2 hj) (hlv j B e1 e2 hlj) hr;by_cases hrq:r.1=q.1
    .rcases hwhere j B r e1 e2 hj hlj hr with g | ⟨g,c,rfl,hcl⟩ | ⟨g,c,e',rfl,hcl⟩
     .exact absurd hrq g
     all_goals
      obtain ⟨C2,fz2,d1,d2,d3,d4,d5⟩:=hbr
      rcases hq with g' | ⟨_,g2,g4,g3⟩
      .have:=R.low j r hr;omega
      .subst g
       rw [hrq,hC] at d1
       simp at d1;obtain ⟨rfl,rfl,rfl⟩:=d1
       refine ⟨C',fz',by rw [hrq];exact hC',d2,hfz,λm v hm=>?_,λ_=>?_⟩
       .obtain ⟨x,hx,hv⟩:=d4 m v hm
        have hmn:m<n:=by have:=(tyl.1 hm).1;omega
        exact ⟨x,by rw [g3 m hmn];exact hx,hv.mono hext⟩
       .obtain ⟨sz',s1,s2⟩:=d5 (by simp)
        exact ⟨sz',s1,by rw [(hext _ _ hr).2,g2];exact s2⟩
    .exact hbr.mono hext hr (ho r.1 (R.low j r hr) hrq)
 ·-- the class of a row, as far as it counts here
  have sy:∀ x X y Y,same x X y Y->same y Y x X:=(by intro x X y Y h;rcases X with ⟨c1,e1,_ | k1⟩ | _ | _ | _ | _<;>rcases Y with ⟨c2,e2,_ | k2⟩ | _ | _ | _ | _<;>exact Eq.symm h)
  have far:∀ x X r,x≠H.n->x≠i->H'.get x=some X->live H' x X->¬same x X i (.cells cs e (some k))->ρ.blk x=some r->r.1≠q.1/\r.1≠p.1:=by
   intro x X r h1 h2 h3 h4 h5 h6;have hpr:p.1≠r.1:=R.sep i x _ X p r hg (hgo x X h1 h2 h3) hl (hlv x X h1 h2 h4) trivial (λhh=>h5 (sy _ _ _ _ hh)) hp h6;rcases hq with g | ⟨g,_⟩
   .grind
   rw [g];exact ⟨hpr.symm,hpr.symm⟩
  have cl:∀ x X c,x≠H.n->x≠i->(same x X i (.cells c e (some k))↔same x X i (.cells cs e (some k))):=by
   intro x X c _ _;unfold same;cases X with
   | cells c' e' cls=>cases cls<;>rfl
   | _=>rfl
  have cl2:∀ x X c,x≠H.n->x≠i->same x X i (.cells cs e (some k))->same x X H.n (.cells c e (some k)):=by
   intro x X c h1 h2 h;unfold same at h ⊢;cases X with
   | cells c' e' cls=>cases cls with
    | none=>exact absurd h h2
    | some k'=>exact h
   | _=>exact absurd h h2
  by_cases ea:a=H.n
  .subst ea;rw [hget,if_pos rfl] at ha;simp at ha;subst ha;rw [Ren.add_same] at hpa;simp at hpa;subst hpa;by_cases eb:b=H.n
   .subst eb;rw [hget,if_pos rfl] at hb;simp at hb;subst hb;exact absurd rfl hns
   rw [Ren.add_other _ eb] at hpb;by_cases eb2:b=i
   .subst eb2;rw [hget,if_neg eb,if_pos rfl] at hb;simp at hb;subst hb;exact absurd rfl hns
   .grind
  rw [Ren.add_other _ ea] at hpa;by_cases ea2:a=i
  .subst ea2;rw [hget,if_neg ea,if_pos rfl] at ha;simp at ha;subst ha;rw [hp] at hpa;simp at hpa;subst hpa;by_cases eb:b=H.n
   .subst eb;rw [hget,if_pos rfl] at hb;simp at hb;subst hb;exact absurd rfl hns
   rw [Ren.add_other _ eb] at hpb;by_cases eb2:b=a
   .subst eb2;rw [hget,if_neg eb,if_pos rfl] at hb;simp at hb;subst hb;exact absurd rfl hns
   .grind
  by_cases eb:b=H.n
  .subst eb;rw [hget,if_pos rfl] at hb;simp at hb;subst hb;rw [Ren.add_same] at hpb;simp at hpb;subst hpb;exact (far a A pa ea ea2 ha hla (λhh=>hns (cl2 a A _ ea ea2 hh)) hpa).1
  rw [Ren.add_other _ eb] at hpb;by_cases eb2:b=i
  .grind
  exact R.sep a b A B pa pb (hgo a A ea ea2 ha) (hgo b B eb eb2 hb) (hlv a A ea ea2 hla) (hlv b B eb eb2 hlb) hma hns hpa hpb
 .rw [Ren.add_other _ (by omega)];exact R.new j (by omega)
 .by_cases e1:j=H.n
  .omega
  by_cases e2:j=i
  .subst e2;have:=R.dom j _ hg;omega
  have:=R.dom j B (hgo j B e1 e2 hj);omega
 .by_cases e1:j=H.n
  .simp_all
  rw [Ren.add_other _ e1] at hr;have:=R.low j r hr;omega
 .rw [Ren.add_other _ (by have:=R.gl;omega)];exact R.glob g hg'
 .rw [hstk] at hj;split at hj
  .rename_i hk;subst hk;rcases tzu.1 hj with g | g
   .simp_all
   by_cases h2:j=i
   .simp_all
   have hm:=hsub j (by rcases tzu.1 g with g | g;exact absurd g h2;exact g);have:=R.stk hm;rw [hget,if_neg (by omega),if_neg h2];exact R.mem _ j hm
  .rename_i hk;have:=R.stk hj;obtain ⟨c',e',g⟩:=R.mem k' j hj;have h2:j≠i:=λh2=>by subst h2;rw [hg] at g;simp at g;exact hk g.2.2.symm
   rw [hget,if_neg (by omega),if_neg h2];exact ⟨c',e',g⟩
 .have l1:H'.len H.n=(old++new).length:=by unfold Hp.len;rw [hget,if_pos rfl];rfl
  have l2:H'.len i=n:=by unfold Hp.len;rw [hget,if_neg hin,if_pos rfl];simp [Blk.len,c1]
  have l3:∀ m,m≠H.n->m≠i->H'.len m=H.len m:=λm h1 h2=>by unfold Hp.len;rw [hget,if_neg h1,if_neg h2]
  rw [hstk];split
  .have l4:∀ m,m∈t->H'.len m=H.len m:=by
    intro m hm;have h1:m≠H.n:=by have:=R.stk (hsub m hm);omega
    by_cases h2:m=i
    .subst h2;rw [l2,hlenold,c4 (hold m hm).2]
    .exact l3 m h1 h2
   refine ⟨λm hm=>?_,λm hm=>?_,?_⟩
   .grind
   .rw [l2,l4 m hm];exact (hold m hm).1
   refine zuj.congr l4 ?_;rw [k5];exact (znq (k3▸R.len k)).2.sub n'
  .rename_i hk;refine (R.len k').congr λm hm=>?_;have h1:m≠H.n:=by have:=R.stk hm;omega
   by_cases h2:m=i
   .subst h2;obtain ⟨c',e',g⟩:=R.mem k' m hm;rw [hg] at g;simp at g;exact absurd g.2.2.symm hk
   .exact l3 m h1 h2
 .have:=R.gl;omega
 .refine ho b hb λe'=>?_;rcases hq with g | ⟨g,_⟩
  .omega
  exact hno i _ p hg trivial hp (by rw [e',g])
 .by_cases e1:j=H.n
  .subst e1;rw [Ren.add_same] at h3;simp at h3;subst h3;rcases hq with g | ⟨g,_⟩
   .exact .inl (by omega)
   exact .inr ⟨i,_,p,hg,trivial,hp,by rw [g]⟩
  .rw [Ren.add_other _ e1] at h3;by_cases e2:j=i
   .subst e2;exact .inr ⟨j,_,r,hg,trivial,h3,rfl⟩
   .grind
end Go.Sim
namespace Go.Sim
open Go
variable {P:Program} {ρ:Ren} {H:Hp} {W:World}
theorem zzz {s:Sem Value} {x:Value} {W W':World} (h:s.run P W=.ok x W'):(do pure (Next.value (<-s)):Sem Next).run P W=.ok (.value x) W':=by
 simp [h]
theorem ywe {s:Sem Unit} {W W':World} (h:s.run P W=.ok () W'):(do s;pure Next.skip:Sem Next).run P W=.ok .skip W':=by
 simp [h]
theorem zzw {t:TypeId} {d:TypeDesc} (h:P.underlying t=some d) (W:World):(underlying t).run P W=.ok d W:=by
 simp [underlying,h]
theorem zr2 {t:TypeId} {i:TypeInfo} (h:P.info? t=some i) (W:World):(typeInfo t).run P W=.ok i W:=by
 unfold typeInfo;simp [h]
theorem zy4 {t n:Nat} (h:zyl P t=some n) (W:World):(sizeOf t).run P W=.ok n W:=by
 unfold zyl at h;cases hi:P.info? t with
 | none=>rw [hi] at h;simp at h
 | some i=>rw [hi] at h;simp at h;subst h;simp [sizeOf,zr2 hi]
theorem znr {t n:Nat} (h:zhn P t=some n):∃ i,P.info? t=some i/\i.bytes=n:=by
 unfold zhn at h;cases hi:P.info? t with
 | none=>rw [hi] at h;simp at h
 | some i=>rw [hi] at h;simp at h;exact ⟨i,rfl,h⟩
theorem zr3 {t:TypeId} {z:Value} (h:zxa P t=some z):zyj z=true/\∀ W,(zeroValue t).run P W=.ok z W:=by
 unfold zxa at h;cases hi:P.info? t with
 | none=>rw [hi] at h;simp at h
 | some i=>
  rw [hi] at h;simp only [tzn] at h;cases hz:i.zero with
  | none=>rw [hz] at h;simp at h
  | some z'=>
   rw [hz] at h;simp only [tzn] at h;obtain ⟨rfl,hs⟩:=zy3 h;exact ⟨hs,λW=>by unfold zeroValue;simp [zr2 hi,hz]⟩
theorem zot {t:TypeId} {b:Bool} (h:zk9 P t=some b) (W:World):(isAgg t).run P W=.ok b W:=by
 unfold zk9 at h;cases hd:P.underlying t with
 | none=>rw [hd] at h;simp at h
 | some d=>
  rw [hd] at h;simp at h;subst h;unfold isAgg;simp only [tzz,zzw hd,tzm];cases d<;>rfl
theorem zws {t e:TypeId} (h:zio P t=some e):P.underlying t=some (.slice e):=by
 unfold zio at h;cases hd:P.underlying t with
 | none=>rw [hd] at h;simp at h
 | some d=>rw [hd] at h;cases d<;>simp [xy9] at h;rw [h]
theorem yfv {l:List Value} {v:Value} (h:one l=some v):l=[v]:=by
 unfold one at h;split at h<;>simp at h;subst h;rfl
theorem zhr (R:Rep P ρ H W) {t:TypeId} {i o:Nat} {v:Value} (h:zqg P H t i o=some v) {b:Addr} (ha:ρ.addr ⟨i,o,none⟩ b) :
  ∃ x,VR ρ v x/\(loadVar t b).run P W=.ok x W:=by
 unfold zqg at h;split at h
 .rename_i hagg;split at h
  .rename_i n hn;cases hr:H.read i o n with
   | none=>rw [hr] at h;simp at h
   | some l=>
    rw [hr] at h;simp [xxz] at h;subst h;obtain ⟨m,hm,hl,hrun⟩:=R.loadCells hr ha;refine ⟨.agg m.toArray,.agg hm,?_⟩;unfold loadVar;simp [zot hagg,zy4 hn,hrun]
  .simp at h
 .rename_i hagg;cases hr:H.read i o 1 with
  | none=>rw [hr] at h;simp at h
  | some l=>
   rw [hr] at h;simp only [tzn] at h;have:=yfv h;subst this;obtain ⟨x,hx,hrun⟩:=R.load hr ha;refine ⟨x,hx,?_⟩;unfold loadVar;simp only [tzz,zot hagg,tzm,Bool.false_eq_true,if_false];exact hrun
 .simp at h
theorem yze (R:Rep P ρ H W) {t:TypeId} {i o:Nat} {v x:Value} {H':Hp} (h:yxw P H t i o v=some H') (hv:VR ρ v x) {b:Addr} (ha:ρ.addr ⟨i,o,none⟩ b) :
  ∃ W',(storeVar t b x).run P W=.ok () W'/\Rep P ρ H' W'/\Fr ρ ρ H H' W W':=by
 unfold yxw at h;split at h
 .rename_i n hn;split at h
  .rename_i hl;have hl':=tzo hl;obtain ⟨W',h1,h2,h3,_⟩:=R.write h hv.cells ha;refine ⟨W',?_,h2,h3⟩;have hsz:x.cells.size=n:=by rw [<-ty5,hv.cells.length,hl']
   unfold storeVar;simp [zy4 hn,hsz,h1]
  .simp at h
 .simp at h
theorem VR.bool_eq {b:Bool} {x:Value} (h:VR ρ (.bool b) x):x=.bool b:=by cases h;rfl
theorem VR.int_eq {k:IntKind} {n:Int} {x:Value} (h:VR ρ (.int k n) x):x=.int k n:=by cases h;rfl
theorem VR.string_eq {s:ByteArray} {x:Value} (h:VR ρ (.string s) x):x=.string s:=by cases h;rfl
theorem zzk (R:Rep P ρ H W) {tm:Trie Value} {nt:Nat} {a:Act} (ht:TR ρ tm nt a.tmps) {x:Operand} {v:Value} (h:zyk P tm x=some v):VR ρ v (a.eval x):=by
 cases x with
 | tmp t=>
  have h':zq5 (tm.get t)=some v:=h;have:=ht.2 t;cases hg:tm.get t with
  | none=>
   rw [hg] at h' this;have e:v=undef:=by simpa [zq5] using h'.symm
   subst e;exact this
  | some u=>
   rw [hg] at h' this;have e:v=u:=by simpa [zq5] using h'.symm
   subst e;exact this
 | const u=>
  obtain ⟨rfl,hs⟩:=zy3 (show zw2 u=some v from h);exact zz9 hs
 | global g=>
  have h':yzb P g=some v:=h;unfold yzb at h';split at h'
  .rename_i hg;simp at h';subst h';refine .ptr ⟨rfl,(g,0),R.glob g ?_,by simp⟩;simpa [txl] using hg
  .simp at h'
 | func f=>
  have h':some (Value.func (.func f) #[] #[])=some v:=h;simp at h';subst h';exact .func (.func f) .nil .nil
theorem zul (R:Rep P ρ H W) {tm:Trie Value} {nt:Nat} {a:Act} (ht:TR ρ tm nt a.tmps):∀ {xs:List Operand} {vs:List Value},zq6 P tm xs=some vs->VRs ρ vs (xs.map a.eval)
 | [],vs,h=>by simp [zq6] at h;subst h;exact .nil
 | x::xs,vs,h=>by
  simp only [zq6] at h;split at h
  .rename_i v hv;split at h
   .rename_i us hus;simp at h;subst h;exact .cons (zzk R ht hv) (zul R ht hus)
   .simp at h
  .simp at h
theorem zw6 (R:Rep P ρ H W) {tm:Trie Value} {nt:Nat} {a:Act} (ht:TR ρ tm nt a.tmps):∀ {xs:List (Nat×Operand)} {vs:List (Nat×Value)},zx7 P tm xs=some vs ->
  L2 (λu w=>w.1=u.1/\VR ρ u.2 w.2) vs (xs.map λ(i,x)=>(i,a.eval x))
 | [],vs,h=>by simp [zx7] at h;subst h;exact .nil
 | (i,x)::xs,vs,h=>by
  simp only [zx7] at h
  split at h
  .rename_i v hv
   split at h
   .rename_i us hus
    simp at h;subst h
    exact .cons ⟨rfl,zzk R ht hv⟩ (zw6 R ht hus)
   .simp at h
  .simp at h
def zxy (P:Program) (ρ:Ren) (H:Hp) (W:World) (res:Result Next):ARes->Prop
 | .val v H'=>∃ ρ' x W',(res=.ok (.value x) W'∨(res=.ok .skip W'/\x=undef))/\VR ρ' v x/\Rep P ρ' H' W'/\Fr ρ ρ' H H' W W'
 | .enter f args=>∃ xs:List Value,res=.ok (.enter f xs.toArray) W/\VRs ρ args xs
 | .yield l args=>∃ (p:Nat×Nat) (xs:List Value),ρ.blk l=some p/\res=(Instr.yield p.1 xs.toArray).run P W/\VRs ρ args xs
 | .defer d=>∃ d',res=.ok (.defer d') W/\DR ρ d d'
 | .recover=>res=.ok .recover W
 | .panic v=>∃ x,res=.halt (.panic x) W/\VR ρ v x
theorem zxy.pure (R:Rep P ρ H W) {v x:Value} (h:VR ρ v x) {res:Result Next} (hr:res=.ok (.value x) W):zxy P ρ H W res (.val v H):=
 ⟨ρ,x,W,.inl hr,h,R,.refl ρ H W⟩
theorem zye {H:Hp} {o:Option Value} {r:ARes} (h:zth H o=some r):∃ v,o=some v/\r=.val v H:=by
 unfold zth at h;split at h<;>simp at h;exact ⟨_,rfl,h.symm⟩
theorem zlw {v:Value} {o:Option Hp} {r:ARes} (h:hpV v o=some r):∃ H,o=some H/\r=.val v H:=by
 unfold hpV at h;split at h<;>simp at h;exact ⟨_,rfl,h.symm⟩
theorem ztm {o:Option (Value×Hp)} {r:ARes} (h:zu3 o=some r):∃ v H,o=some (v,H)/\r=.val v H:=by
 unfold zu3 at h;split at h<;>simp at h;exact ⟨_,_,rfl,h.symm⟩
theorem zpc {v:Value} {p:Nat×Nat} (h:zmc v=some p):v=.pointer (some ⟨p.1,p.2,none⟩):=by
 unfold zmc at h;split at h<;>simp at h;subst h;rfl
section ops
variable {tm:Trie Value} {nt:Nat} {a:Act} {o:Oper} {r:ARes} (R:Rep P ρ H W) (ht:TR ρ tm nt a.tmps)
include R ht
theorem zhs {x:Operand} (h:znl P tm H x=some r) (ho:o.op=.move x∨o.op=.assign x):zxy P ρ H W ((execOp a.eval o).run P W) r:=by
 obtain ⟨v,hv,rfl⟩:=zye h;refine .pure R (zzk R ht hv) ?_;unfold execOp;rcases ho with ho | ho<;>rw [ho]<;>rfl
theorem yty {c x y:Operand} (h:zm4 P tm H c x y=some r) (ho:o.op=.pick c x y):zxy P ρ H W ((execOp a.eval o).run P W) r:=by
 unfold zm4 at h;split at h
 .rename_i hc;obtain ⟨v,hv,rfl⟩:=zye h;have hc':a.eval c=.bool true:=(zzk R ht hc).bool_eq;refine .pure R (zzk R ht hv) ?_;unfold execOp;rw [ho];simp [hc',asBool]
 .rename_i hc;obtain ⟨v,hv,rfl⟩:=zye h;have hc':a.eval c=.bool false:=(zzk R ht hc).bool_eq;refine .pure R (zzk R ht hv) ?_;unfold execOp;rw [ho];simp [hc',asBool]
 .simp at h
theorem zht {e:TypeId} {v x:Value} (hv:VR ρ v x) {res:Result Next} (hr:res=.ok (.value (.pointer (some ⟨W.heap.size,0,none⟩))) (W.alloc (.cells x.cells e))) :
  zxy P ρ H W res (yfq H e v):=by
 obtain ⟨h1,h2⟩:=R.newRow e hv.cells;exact ⟨_,_,_,.inl hr,.ptr ⟨rfl,(W.heap.size,0),Ren.add_same _ _ _ _,by simp⟩,h1,h2⟩
theorem yzf {e:TypeId} (h:zhp P H e=some r) (ho:o.op=.alloc e):zxy P ρ H W ((execOp a.eval o).run P W) r:=by
 unfold zhp at h;cases hz:zxa P e with
 | none=>rw [hz] at h;simp at h
 | some z=>
  rw [hz] at h;simp at h;subst h;obtain ⟨hs,hrun⟩:=zr3 hz;refine zht R ht (zz9 hs) ?_;unfold execOp;rw [ho];refine zzz ?_;unfold Instr.alloc;simp [hrun,newVar,newRow]
theorem ym6 {e:TypeId} {x:Operand} (h:yfr P tm H e x=some r) (ho:o.op=.box e x):zxy P ρ H W ((execOp a.eval o).run P W) r:=by
 unfold yfr at h;cases hv:zyk P tm x with
 | none=>rw [hv] at h;simp at h
 | some v=>
  rw [hv] at h;simp at h;subst h;refine zht R ht (zzk R ht hv) ?_;unfold execOp;rw [ho];refine zzz ?_;unfold Instr.box;simp [newVar,newRow]
theorem yzg {t:TypeId} {x:Operand} (h:znm P tm H t x=some r) (ho:o.op=.load t x):zxy P ρ H W ((execOp a.eval o).run P W) r:=by
 unfold znm at h;split at h
 .rename_i i off hx;obtain ⟨u,hu,hu'⟩:=tzh.1 hx;obtain ⟨v,hv,rfl⟩:=zye h;have e:=zpc hu';subst e;have hE:=zzk R ht hu;generalize hy:a.eval x=y at hE;cases hE with
  | ptr ha=>
   obtain ⟨w,hw,hrun⟩:=zhr R hv ha;refine .pure R hw ?_;unfold execOp;rw [ho];refine zzz ?_;simp [Instr.loadAt,Instr.sureAddr,hy,hrun]
 .simp at h
theorem zd7 {t:TypeId} {x y:Operand} (h:zqr P tm H t x y=some r) (ho:o.op=.store t x y):zxy P ρ H W ((execOp a.eval o).run P W) r:=by
 unfold zqr at h;split at h
 .rename_i i off hx;split at h
  .rename_i v hv;obtain ⟨u,hu,hu'⟩:=tzh.1 hx;obtain ⟨H',hH,rfl⟩:=zlw h;have e:=zpc hu';subst e;have hE:=zzk R ht hu;generalize hy:a.eval x=z at hE;cases hE with
   | ptr ha=>
    obtain ⟨W',hrun,h1,h2⟩:=yze R hH (zzk R ht hv) ha;refine ⟨ρ,undef,W',.inr ⟨?_,rfl⟩,.undef,h1,h2⟩;unfold execOp;rw [ho];refine ywe ?_;simp [Instr.storeAt,Instr.sureAddr,hy,hrun]
  .simp at h
 .simp at h
theorem zis {x:Operand} (h:zw3 P tm H x=some r) (ho:o.op=.nilCheck x):zxy P ρ H W ((execOp a.eval o).run P W) r:=by
 unfold zw3 at h;obtain ⟨v,hv,rfl⟩:=zye h;obtain ⟨u,hu,hu'⟩:=tzh.1 hv;have hE:=zzk R ht hu;generalize hy:a.eval x=y at hE;unfold yx4 at hu';split at hu'<;>simp at hu'<;>subst hu'
 .refine .pure R hE ?_;unfold execOp;rw [ho];cases hE with | ptr ha=>simp [hy]
 .refine .pure R hE ?_;unfold execOp;rw [ho];cases hE with | func hf ha hb=>cases hf;simp [hy]
 refine .pure R hE ?_;unfold execOp;rw [ho];cases hE with | func hf ha hb=>cases hf;simp [hy]
theorem zfm {x:Operand} {i:Nat} (h:zv5 P tm H x i=some r) (ho:o.op=.extract x i):zxy P ρ H W ((execOp a.eval o).run P W) r:=by
 unfold zv5 at h;obtain ⟨v,hv,rfl⟩:=zye h;obtain ⟨u,hu,hu'⟩:=tzh.1 hv;have hE:=zzk R ht hu;generalize hy:a.eval x=y at hE;cases u<;>simp [yx6] at hu'
 cases hE with
 | tuple hs=>
  rename_i l m;obtain ⟨w,hw,hvw⟩:=hs.get (i:=i) (by simpa using hu');refine .pure R hvw ?_;unfold execOp;rw [ho];refine zzz ?_;simp [hy,Instr.extract,hw]
theorem yzh {t:TypeId} {x:Operand} (h:zqs P tm H t x=some r) (ho:o.op=.makeInterface t x):zxy P ρ H W ((execOp a.eval o).run P W) r:=by
 unfold zqs at h;split at h
 .rename_i hd;cases hv:zyk P tm x with
  | none=>rw [hv] at h;simp at h
  | some v=>
   rw [hv] at h;simp at h;subst h;obtain ⟨d,hd1,hd2⟩:=tzf.1 hd;refine .pure R (.iface (zzk R ht hv)) ?_;unfold execOp;rw [ho];refine zzz ?_;unfold Instr.makeInterface;simp only [tzz,zzw hd1,tzm];cases d<;>first | rfl | (simp [ymu] at hd2)
 .simp at h
theorem ytz {fn:Fn} {x y:Array Operand} (h:zm5 P tm H fn x y=some r) (ho:o.op=.makeFunc fn x y):zxy P ρ H W ((execOp a.eval o).run P W) r:=by
 unfold zm5 at h;split at h
 .rename_i f;split at h
  .rename_i l hl;split at h
   .rename_i m hm;simp at h;subst h;refine .pure R (x:=.func (.func f) (x.map a.eval) (y.map a.eval)) ?_ ?_
    .have e1:x.map a.eval=⟨x.toList.map a.eval⟩:=by apply Array.ext';simp
     have e2:y.map a.eval=⟨y.toList.map a.eval⟩:=by apply Array.ext';simp
     rw [e1,e2];exact .func (.func f) (zul R ht hl) (zul R ht hm)
    .unfold execOp;rw [ho];rfl
   .simp at h
  .simp at h
 .simp at h
theorem zmh {res:Result Next} (hr:res=.ok (.value (.map (some W.heap.size))) (W.alloc (.map #[] 0))):zxy P ρ H W res (yx5 H):=by
 obtain ⟨h1,h2⟩:=R.newObj (B:=.map [] 0) (o:=.map #[] 0) trivial ⟨#[],(by show (W.heap.push _)[W.heap.size]? =_;simp),.nil⟩;exact ⟨_,_,_,.inl hr,.map (p:=(W.heap.size,0)) (Ren.add_same _ _ _ _),h1,h2⟩
theorem yt0 {t:TypeId} {x:Option Operand} (h:xxc P tm H t x=some r) (ho:o.op=.makeMap t x):zxy P ρ H W ((execOp a.eval o).run P W) r:=by
 unfold xxc at h;split at h
 .simp at h;subst h;refine zmh R ht ?_;unfold execOp;rw [ho];refine zzz ?_;unfold Instr.makeMap;simp
 rename_i y;split at h
 .rename_i k n hy;split at h
  .rename_i kt et hd;simp at h;subst h;refine zmh R ht ?_;have hy':a.eval y=.int k n:=(zzk R ht hy).int_eq;unfold execOp;rw [ho];refine zzz ?_;unfold Instr.makeMap;simp [hy',zzw hd,asInt,asIntOf]
  .simp at h
 .simp at h
end ops
end Go.Sim
namespace Go.Sim
open Go
variable {P:Program} {ρ:Ren} {H:Hp} {W:World}
theorem zou:∀ {c:List Value} {o:Nat} {vs c':List Value},zyy c o vs=some c'->o+vs.length<=c.length
 | c,0,[],c',h=>by simp
 | [],0,_::_,c',h=>by simp [zyy] at h
 | x::c,0,v::vs,c',h=>by
  simp only [zyy] at h;split at h
  .rename_i r hr;have:=zou hr;simp at this ⊢;omega
  .simp at h
 | [],o+1,vs,c',h=>by cases vs<;>simp [zyy] at h
 | x::c,o+1,vs,c',h=>by
  have he:zyy (x::c) (o+1) vs=(match zyy c o vs with | some r=>some (x::r) | none=>none):=by cases vs<;>rfl
  rw [he] at h;split at h
  .rename_i r hr;have:=zou hr;simp;omega
  .simp at h
theorem zhu (o:Nat):∀ (l:List Value) (k:Nat) (C:Array Value),(l.zipIdx k).foldl (λ(cs:Array Value) (x:Value×Nat)=>cs.setIfInBounds (o+x.2) x.1) C=zd5 C (o+k) l
 | [],k,C=>rfl
 | x::l,k,C=>by rw [List.zipIdx_cons,List.foldl_cons,zhu o l (k+1)];rw [zd5,txq]
theorem yzi {c:List Value} {o:Nat} {vs c':List Value} (h:zyy c o vs=some c') {C:Array Value} (hc:VRs ρ c C.toList) {xs:List Value} (hx:VRs ρ vs xs):VRs ρ c' (zd5 C o xs).toList:=by
 obtain ⟨h1,_,h3⟩:=zt1 h;have hle:=zou h;have hC:C.size=c.length:=by rw [<-ty5,hc.length]
 refine VRs.of_get (by rw [ty5,zuk,h1,hC]) λj v hj=>?_;rw [h3] at hj;rw [txy,zlv _ _ _ _ (by rw [hx.length,hC];exact hle),hx.length];split
 .rename_i g;rw [if_pos g] at hj;exact hx.get hj
 rename_i g;rw [if_neg g] at hj;obtain ⟨x,e,hv⟩:=hc.get hj;exact ⟨x,by simpa using e,hv⟩
theorem ztn {place:Nat->Option (Nat×Nat)}:∀ {ps qs:List (Nat×Value)} {c r:List Value} {C:Array Value},zjb place c ps=some r->VRs ρ c C.toList->L2 (λu w=>w.1=u.1/\VR ρ u.2 w.2) ps qs ->
  ∃ C',Instr.fill place C qs=some C'/\VRs ρ r C'.toList
 | [],qs,c,r,C,h,hc,hp=>by
  cases hp;simp [zjb] at h;subst h;exact ⟨C,rfl,hc⟩
 | (i,v)::ps,qs,c,r,C,h,hc,hp=>by
  cases hp with
  | cons h1 hs=>
   rename_i w qs
   obtain ⟨j,x⟩:=w
   obtain ⟨e,hv⟩:=h1
   simp only at e hv
   subst e
   simp only [zjb] at h
   split at h
   .simp at h
   .rename_i o n hpl
    split at h
    .rename_i hl
     have hl':=tzo hl
     split at h
     .rename_i c' hsp
      have hle:=zou hsp
      have hC:C.size=c.length:=by rw [<-ty5,hc.length]
      have hxs:x.cells.size=n:=by rw [<-ty5,hv.cells.length,hl']
      obtain ⟨C',g1,g2⟩:=ztn h (yzi hsp hc hv.cells) hs
      refine ⟨C',?_,g2⟩
      unfold Instr.fill
      simp only [hpl]
      rw [if_neg (by rw [hxs];simp;rw [hC];omega)]
      have hf:(x.cells.zipIdx.foldl (λ(cs:Array Value) (x:Value×Nat)=>cs.setIfInBounds (o+x.2) x.1) C)=zd5 C o x.cells.toList:=by
       rw [<-Array.foldl_toList,Array.toList_zipIdx,zhu];rfl
      rw [<-hf] at g1
      exact g1
     .simp at h
    .simp at h
theorem zmi:∀ {fs:List Field} {pl:List (Nat×Nat)},zja P fs=some pl->∀ W,(fs.mapM λf=>do pure (f.offset,<-sizeOf f.type):Sem (List (Nat×Nat))).run P W=.ok pl W
 | [],pl,h,W=>by simp [zja] at h;subst h;rfl
 | f::fs,pl,h,W=>by
  simp only [zja] at h;split at h
  .rename_i n hn;split at h
   .rename_i r hr;simp at h;subst h;rw [List.mapM_cons];simp only [tzz,txh,zy4 hn,tzm,zmi hr]
   .simp at h
  .simp at h
theorem yzj {l:List Value} {C:Array Value} (h:VRs ρ l C.toList):VR ρ (xxz l) (.agg C):=.agg (m:=C.toList) h
theorem yzk {t:TypeId} {ps:List (Nat×Value)} {v:Value} (h:yxy P t ps=some v) {qs:List (Nat×Value)} (hp:L2 (λu w=>w.1=u.1/\VR ρ u.2 w.2) ps qs) (W:World) :
  ∃ x,VR ρ v x/\(Instr.build t qs.toArray).run P W=.ok x W:=by
 unfold yxy at h;split at h
 .rename_i z hz;obtain ⟨hs,hzr⟩:=zr3 hz;obtain ⟨d,hd,h⟩:=tzh.1 h;unfold yxx at h;split at h
  .rename_i fs;split at h
   .rename_i pl hpl;obtain ⟨l,hl,rfl⟩:=tzf.1 h;obtain ⟨C',h1,h2⟩:=ztn (C:=z.cells) hl (zz9 hs).cells hp;refine ⟨_,yzj h2,?_⟩;unfold Instr.build;simp only [tzz,hzr,tzm,zzw hd];rw [Array.mapM_eq_mapM_toList];simp only [Sem.run_map,zmi hpl,tzm];have e:(λx=>(pl.toArray)[x]?)=λ(i:Nat)=>pl[i]?:=by funext i;simp
    rw [e,h1];rfl
   .simp at h
  .rename_i n e;split at h
   .rename_i sz hsz;obtain ⟨l,hl,rfl⟩:=tzf.1 h;obtain ⟨C',h1,h2⟩:=ztn (C:=z.cells) hl (zz9 hs).cells hp;refine ⟨_,yzj h2,?_⟩;unfold Instr.build;simp only [tzz,hzr,tzm,zzw hd,zy4 hsz,h1];rfl
   .simp at h
  .simp at h
 .simp at h
theorem zns {z:List Value}:∀ n,(rep z n).length=n*z.length
 | 0=>by simp [rep]
 | n+1=>by rw [rep,tz5,zns n,Nat.succ_mul];omega
theorem ym7 {z:List Value}:∀ (n i:Nat),i<n*z.length->(rep z n)[i]? =z[i % z.length]?
 | 0,i,h=>by simp at h
 | n+1,i,h=>by
  rw [Nat.succ_mul] at h;rw [rep];by_cases hi:i<z.length
  .rw [tzs hi,txu hi]
  have hi':z.length<=i:=by omega
  rw [tzv hi',ym7 n _ (by omega),<-Nat.mod_eq_sub_mod hi']
theorem yfw (zero:Array Value) (n m:Nat) (h:m=n*zero.size):(Array.range m).map (λi=>zero[i % zero.size]!)=(rep zero.toList n).toArray:=by
 subst h;apply Array.ext';apply ty8;intro i;simp only [Array.toList_map,Array.toList_range,tzr];by_cases hi:i<n*zero.size
 .rw [tz7 hi,ym7 n i (by simpa using hi)];have hz:0<zero.size:=by rcases ty4 zero.size with g | g;rw [g] at hi;simp at hi;exact g
  have hm:i % zero.size<zero.size:=Nat.mod_lt _ hz;simp [getElem!_pos,hm]
 .rw [tzt (by simpa using hi),tzt (by rw [zns];simpa using hi)];rfl
theorem zt2 {e n:Nat} {l:List Value} (h:zho P e n=some l):(∀ ρ:Ren,VRs ρ l l)/\∃ s,zyl P e=some s/\l.length=n*s /\
  (n*s≠0->∃ z,(∀ W,(zeroValue e).run P W=.ok z W)/\z.cells.size=s/\(Array.range (n*s)).map (λi=>z.cells[i % z.cells.size]!)=l.toArray):=by
 unfold zho at h;split at h;rotate_left
 .simp at h
 rename_i s hs;split at h
 .rename_i h0;have:=tzo h0;simp at h;subst h;exact ⟨λ_=>.nil,s,hs,by simpa using this.symm,λg=>absurd this g⟩
 rename_i h0;split at h
 .rename_i z hz;split at h
  .rename_i hl;have hl':=tzo hl;simp at h;subst h;obtain ⟨hs1,hzr⟩:=zr3 hz;have hcz:z.cells.toList=cellsOf z:=by cases z<;>rfl
   refine ⟨λρ=>?_,s,hs,by rw [zns,hl'],λ_=>⟨z,hzr,by rw [<-ty5,hcz,hl'],?_⟩⟩
   .have hz2:VRs ρ (cellsOf z) (cellsOf z):=by have:=(zz9 (ρ:=ρ) hs1).cells;rwa [hcz] at this
    have:∀ m,VRs ρ (rep (cellsOf z) m) (rep (cellsOf z) m):=by
     intro m
     induction m with
     | zero=>exact .nil
     | succ m ih=>exact hz2.append ih
    exact this n
   .rw [yfw _ n _ (by rw [<-ty5,hcz,hl']),hcz]
  .simp at h
 .simp at h
section ops
variable {tm:Trie Value} {nt:Nat} {a:Act} {o:Oper} {r:ARes} (R:Rep P ρ H W) (ht:TR ρ tm nt a.tmps)
include R ht
theorem zd8 {t:TypeId} {ps:Array (Nat×Operand)} (h:zsd P tm H t ps=some r) (ho:o.op=.build t ps):zxy P ρ H W ((execOp a.eval o).run P W) r:=by
 unfold zsd at h;split at h
 .rename_i l hl;obtain ⟨v,hv,rfl⟩:=zye h;obtain ⟨x,hx,hrun⟩:=yzk hv (zw6 R ht hl) W;refine .pure R hx ?_;unfold execOp;rw [ho];refine zzz ?_;have e:ps.map (λ(i,x)=>(i,a.eval x))=(ps.toList.map λ(i,x)=>(i,a.eval x)).toArray:=by apply Array.ext';simp
  rw [e];exact hrun
 .simp at h
theorem zhv {e n m:Nat} {cs:List Value} {C:Array Value} (hv:VRs ρ cs C.toList) (hnm:n<=m) (hm:m<U) {res:Result Next} (hr:res=.ok (.value (.slice (some ⟨W.heap.size,0,none⟩) n m)) (W.alloc (.cells C e))) :
  zxy P ρ H W res (xs3 H e n m cs):=by
 obtain ⟨h1,h2⟩:=R.newRow e hv;exact ⟨_,_,_,.inl hr,.slice ⟨rfl,(W.heap.size,0),Ren.add_same _ _ _ _,by simp⟩ ⟨hnm,λ_=>rfl,λh=>by omega⟩,h1,h2⟩
theorem zm7 {t:TypeId} {len:Nat} {ps:Array (Nat×Operand)} (h:zy0 P tm H t len ps=some r) (ho:o.op=.buildSlice t len ps):zxy P ρ H W ((execOp a.eval o).run P W) r:=by
 unfold zy0 at h;split at h;rotate_left
 .simp at h
 rename_i e he;split at h
 .rename_i l hl;split at h
  .rename_i s hs;split at h
   .rename_i hle;split at h
    .rename_i z hz;obtain ⟨cs,hcs,rfl⟩:=tzf.1 h;obtain ⟨z1,s',hs',z3,z4⟩:=zt2 hz;rw [hs] at hs';simp at hs';subst hs';obtain ⟨C',g1,g2⟩:=ztn (C:=z.toArray) hcs (by simpa using z1 ρ) (zw6 R ht hl);simp only [tzc,txw] at hle;refine zhv R ht g2 (tzp _) (by unfold U;omega) ?_;unfold execOp;rw [ho];refine zzz ?_;have e1:ps.map (λ(i,x)=>(i,a.eval x))=(ps.toList.map λ(i,x)=>(i,a.eval x)).toArray:=by apply Array.ext';simp
     rw [e1];unfold Instr.buildSlice;simp only [tzz,zzw (zws he),tzm,zy4 hs];rw [if_neg (by omega)];by_cases h0:len*s=0
     .have hz0:z=[]:=tzy (by rw [z3,h0]);subst hz0;rw [if_pos h0];simp only [tzz,txh,tzm,h0];have:(Array.range 0).map (λi=>(#[]:Array Value)[i % (#[]:Array Value).size]!)=[].toArray:=by simp
      rw [this,g1];simp [newRow]
     .obtain ⟨zv,hzr,hzs,heq⟩:=z4 h0;rw [if_neg h0];simp only [tzz,hzr,txh,tzm,heq,g1];simp [newRow]
    .simp at h
   .simp at h
  .simp at h
 .simp at h
end ops
end Go.Sim
namespace Go.Sim
open Go Go.IntWalk
variable {P:Program} {ρ:Ren} {H:Hp} {W:World}
theorem zmj (a b:Int):eqI a b=(a==b):=by
 cases a<;>cases b<;>simp only [eqI]
 .rename_i m n;rw [ty1];simp;omega
 .symm;simp [beq_eq_false_iff_ne]
 .symm;simp [beq_eq_false_iff_ne]
 .rename_i m n;rw [ty1];simp
theorem ywf (a b:Int):ltI a b=decide (a<b):=by
 cases a<;>cases b<;>simp only [ltI]
 .rename_i m n;rw [ty1];simp [txl]
 .grind
 .grind
 rename_i m n;rw [ty1];simp only [txl,decide_eq_true_iff,Int.negSucc_eq];omega
theorem zd9:∀ (a b:List UInt8),eqB a b=(a==b)
 | [],[]=>rfl
 | [],_::_=>rfl
 | _::_,[]=>rfl
 | x::a,y::b=>by
  rw [eqB];cases h:Nat.beq x.toNat y.toNat with
  | true=>
   have:x=y:=UInt8.toNat_inj.1 (tzo h);subst this;simp [zd9 a b]
  | false=>
   have:x≠y:=λe=>by subst e;simp at h
   simp [this]
theorem ym8 (n:Int):IntKind.u64.wrap n=n % 18446744073709551616:=by
 unfold IntKind.wrap;simp [IntKind.bits,IntKind.signed]
theorem zr4 (k:IntKind) (n:Int):zvu k n=k.wrap n:=by
 unfold zvu;cases k<;>simp only
 .cases n with
  | ofNat m=>
   simp only;split
   .rename_i h;have h:=Nat.le_of_ble_eq_true h;rw [i64_in];simp only [ty7];omega
   .rfl
  | negSucc m=>
   simp only;split
   .rename_i h;have h:=Nat.le_of_ble_eq_true h;rw [i64_in];simp only [Int.negSucc_eq];omega
   .rfl
 .cases n with
  | ofNat m=>simp only [IntKind.wrap_u8,ty7];omega
  | negSucc m=>rfl
 .cases n with
  | ofNat m=>simp only [ym8,ty7];omega
  | negSucc m=>rfl
section guard
variable (op:BinOp) (t:TypeId) (x y:Operand) (W:World)
theorem ym9 (k j:IntKind) (a b:Int):(eqGuard op t x y (.int k a) (.int j b)).run P W=.ok () W:=by cases op<;>rfl
theorem zca (a b:ByteArray):(eqGuard op t x y (.string a) (.string b)).run P W=.ok () W:=by cases op<;>rfl
theorem zjm (a b:Option Addr) (m n c d:Nat):(eqGuard op t x y (.slice a m c) (.slice b n d)).run P W=.ok () W:=by cases op<;>rfl
theorem zcb (a b:Option Addr):(eqGuard op t x y (.pointer a) (.pointer b)).run P W=.ok () W:=by cases op<;>rfl
theorem zcc (a b:Option Nat):(eqGuard op t x y (.map a) (.map b)).run P W=.ok () W:=by cases op<;>rfl
theorem yfx (f:Fn) (a b:Array Value):(eqGuard op t x y .nilFunc (.func f a b)).run P W=.ok () W:=by cases op<;>rfl
theorem yfy (f:Fn) (a b:Array Value):(eqGuard op t x y (.func f a b) .nilFunc).run P W=.ok () W:=by cases op<;>rfl
end guard
theorem zcd {k:IntKind} {a b:Int} {op:BinOp} {v:Value} (h:yx3 k a b op=some v) (t:TypeId) (W:World):(binOp op t (.int k a) (.int k b)).run P W=.ok v W:=by
 have hle:∀ x y:Int,(!decide (y<x))=decide (x<=y):=λx y=>by rw [ty1];simp
 unfold yx3 at h;split at h
 .simp only [tza] at h;subst h;simp [binOp,Op.intArith,zr4]
 .simp only [tza] at h;subst h;simp [binOp,Op.intArith,zr4]
 .simp only [tza] at h;subst h;simp [binOp,Op.intArith,zr4]
 .simp only [tza] at h;subst h;simp [binOp,Op.intCmp,zmj]
 .simp only [tza] at h;subst h;simp only [binOp,Op.intCmp,zmj,ne_eq,not_true,if_false];rfl
 .simp only [tza] at h;subst h;simp only [binOp,Op.intCmp,ywf,ne_eq,not_true,if_false];rfl
 .simp only [tza] at h;subst h;simp only [binOp,Op.intCmp,ywf,ne_eq,not_true,if_false,hle];rfl
 .simp only [tza] at h;subst h;simp only [binOp,Op.intCmp,ywf,ne_eq,not_true,if_false,gt_iff_lt];rfl
 .simp only [tza] at h;subst h;simp only [binOp,Op.intCmp,ywf,ne_eq,not_true,if_false,hle,ge_iff_le];rfl
 .cases b with
  | ofNat n=>
   cases n with
   | zero=>simp at h
   | succ m=>
    simp only [tza] at h;subst h;have:¬(Int.ofNat (m+1)=0):=by simp only [ty7];omega
    simp only [zr4];simp only [binOp,Op.intDiv,ne_eq,not_true,if_false,if_neg this];rfl
  | negSucc n=>simp at h
 .cases b with
  | ofNat n=>
   cases n with
   | zero=>simp at h
   | succ m=>
    simp only [tza] at h;subst h;have:¬(Int.ofNat (m+1)=0):=by simp only [ty7];omega
    simp only [binOp,Op.intDiv,ne_eq,not_true,if_false,if_neg this];rfl
  | negSucc n=>simp at h
 .simp at h
theorem ydz (x:ByteArray):x.toList=x.data.toList:=ByteArray.toList_eq x
theorem yt1 (a b:ByteArray):(⟨(a.data.toList++b.data.toList).toArray⟩:ByteArray)=a++b:=by
 have:(a++b).data=a.data++b.data:=by simp
 cases hab:(a++b);rw [hab] at this;simp only at this;congr 1;rw [this];apply Array.ext';simp
theorem zce {a b:ByteArray} {op:BinOp} {v:Value} (h:ymr a b op=some v) (t:TypeId) (W:World):zyj v=true/\(binOp op t (.string a) (.string b)).run P W=.ok v W:=by
 unfold ymr at h;split at h
 .split at h
  .rename_i hb;rw [txl] at hb;simp only [tza] at h;subst h;refine ⟨rfl,?_⟩
   have hm:¬(((a.size+b.size:Nat):Int)>IntKind.i64.max):=by
    have:IntKind.i64.max=9223372036854775807:=by decide
    rw [this];omega
   simp only [binOp,Op.stringOp,if_neg hm,zxf,yt1];rfl
  .simp at h
 .simp only [tza] at h;subst h;refine ⟨rfl,?_⟩;simp only [binOp,Op.stringOp,zd9,ydz];rfl
 .simp only [tza] at h;subst h;refine ⟨rfl,?_⟩;simp only [binOp,Op.stringOp,zd9,ydz];rfl
 .simp at h
theorem zpd {r:Option Value} {s:Unit->Option Value} {v:Value} (h:zd2 r s=some v):r=some v∨s ()=some v:=by
 unfold zd2 at h;split at h
 .exact .inl h
 exact .inr h
theorem yla {k j:IntKind} (h:eqK k j=true):k=j:=by cases k<;>cases j<;>simp [eqK] at h<;>rfl
theorem xxf {t:TypeId} {x y:Value} {b:Bool} (h:∀ W,(Op.equal t x y).run P W=.ok b W) {op:BinOp} {v:Value} (hv:xo9 b op=some v) (hb1:binOp .eql t x y=(do pure (.bool (<-Op.equal t x y)))) (hb2:binOp .neq t x y=(do pure (.bool (!(<-Op.equal t x y))))) (W:World) :
  (binOp op t x y).run P W=.ok v W/\zyj v=true:=by
 unfold xo9 at hv;split at hv<;>simp at hv<;>subst hv
 .rw [hb1];simp [h];rfl
 rw [hb2];simp [h];rfl
theorem zwg {op:BinOp} {t:TypeId} {x y:Operand} {vx vy wx wy v:Value} (h:ztx P op t x y vx vy=some v) (hx:VR ρ vx wx) (hy:VR ρ vy wy) (W:World) :
  ∃ w,VR ρ v w/\(do eqGuard op t x y wx wy;binOp op t wx wy:Sem Value).run P W=.ok w W:=by
 unfold ztx at h;split at h
 .rename_i hs;simp only [tzc] at hs;obtain ⟨u,hu,hu'⟩:=tzh.1 h;obtain ⟨rfl,hsv⟩:=zy3 hu';rw [zx9 hs.1 hx,zx9 hs.2 hy];exact ⟨_,zz9 hsv,zxs hu W⟩
 .split at h
  .rename_i b hb;obtain ⟨d,hd,hb⟩:=tzh.1 hb
   have fin:∀ {x' y':Value},(eqGuard op t x y x' y').run P W=.ok () W->(∀ W,(Op.equal t x' y').run P W=.ok b W)->binOp .eql t x' y'=(do pure (.bool (<-Op.equal t x' y')))->binOp .neq t x' y'=(do pure (.bool (!(<-Op.equal t x' y')))) ->
     ∃ w,VR ρ v w/\(do eqGuard op t x y x' y';binOp op t x' y':Sem Value).run P W=.ok w W:=by
    intro x' y' h1 h2 h3 h4
    obtain ⟨g1,g2⟩:=xxf h2 h h3 h4 W
    exact ⟨v,zz9 g2,by rw [tzz,h1];exact g1⟩
   have und:∀ x' y',(Op.equal t x' y')=Op.equalIn (9999+1) t x' y':=λ_ _=>rfl;have eqs:∀ x' y' b,(∀ W,(Op.equalIn (9999+1) t x' y').run P W=.ok b W)->∀ W,(Op.equal t x' y').run P W=.ok b W:=λ_ _ _ h=>h;unfold xmb at hb;split at hb
   .split at hb
    .unfold ytu at hb;split at hb<;>simp at hb<;>subst hb
     .rename_i e1 e2;simp at e1 e2;obtain ⟨rfl,rfl,rfl⟩:=e1;obtain ⟨rfl,rfl,rfl⟩:=e2;cases hx<;>cases hy<;>exact fin (zjm _ _ _ _ _ _ _ _ _ _ _) (eqs _ _ _ λW=>by unfold Op.equalIn;simp only [tzz,zzw hd,tzm];rfl) rfl rfl
     .rename_i e1 e2;simp at e1 e2;obtain ⟨rfl,rfl,rfl⟩:=e1;obtain ⟨rfl,rfl,rfl⟩:=e2;cases hx<;>cases hy<;>exact fin (zjm _ _ _ _ _ _ _ _ _ _ _) (eqs _ _ _ λW=>by unfold Op.equalIn;simp only [tzz,zzw hd,tzm];rfl) rfl rfl
     all_goals (rename_i e1 e2;simp at e1 e2)
    .simp at hb
   .split at hb
    .unfold ytu at hb;split at hb<;>simp at hb<;>subst hb
     any_goals (rename_i e1 e2;simp at e1 e2;done)
     .rename_i e1 e2;simp at e1 e2;subst e1 e2;cases hx;cases hy;exact fin (zcb _ _ _ _ _ _ _) (eqs _ _ _ λW=>by unfold Op.equalIn;simp only [tzz,zzw hd,tzm];rfl) rfl rfl
     rename_i e1 e2;simp at e1 e2;subst e1 e2;cases hx;cases hy;exact fin (zcb _ _ _ _ _ _ _) (eqs _ _ _ λW=>by unfold Op.equalIn;simp only [tzz,zzw hd,tzm];rfl) rfl rfl
    .simp at hb
   .split at hb
    .unfold ytu at hb;split at hb<;>simp at hb<;>subst hb
     any_goals (rename_i e1 e2;simp at e1 e2;done)
     .rename_i e1 e2;simp at e1 e2;subst e1 e2;cases hx;cases hy;exact fin (zcc _ _ _ _ _ _ _) (eqs _ _ _ λW=>by unfold Op.equalIn;simp only [tzz,zzw hd,tzm];rfl) rfl rfl
     rename_i e1 e2;simp at e1 e2;subst e1 e2;cases hx;cases hy;exact fin (zcc _ _ _ _ _ _ _) (eqs _ _ _ λW=>by unfold Op.equalIn;simp only [tzz,zzw hd,tzm];rfl) rfl rfl
    .simp at hb
   .split at hb<;>simp at hb<;>subst hb
    .cases hx;cases hy;exact fin (yfx _ _ _ _ _ _ _ _) (eqs _ _ _ λW=>by unfold Op.equalIn;simp only [tzz,zzw hd,tzm];rfl) rfl rfl
    cases hx;cases hy;exact fin (yfy _ _ _ _ _ _ _ _) (eqs _ _ _ λW=>by unfold Op.equalIn;simp only [tzz,zzw hd,tzm];rfl) rfl rfl
   .simp at hb
  .simp at h
end Go.Sim
namespace Go.Sim
open Go Go.IntWalk
variable {P:Program} {ρ:Ren} {H:Hp} {W:World}
theorem yt2 {op:BinOp} {t:TypeId} {x y:Operand} {vx vy wx wy v:Value} (h:zty P op t x y vx vy=some v) (hx:VR ρ vx wx) (hy:VR ρ vy wy) (W:World) :
  ∃ w,VR ρ v w/\(do eqGuard op t x y wx wy;binOp op t wx wy:Sem Value).run P W=.ok w W:=by
 unfold zty at h;split at h
 .rename_i k a;split at h
  .rename_i j b;split at h
   .rename_i hk;have:=yla hk;subst this
    replace h:=zpd h
    rcases h with h | h
    .have e1:=hx.int_eq;have e2:=hy.int_eq;subst e1 e2;refine ⟨v,?_,by rw [tzz,ym9];exact zcd h t W⟩;have:zyj v=true:=(by unfold yx3 at h;split at h<;>first | (simp only [tza] at h;subst h;rfl) | (split at h<;>simp at h<;>subst h<;>rfl) | (simp at h));exact zz9 this
    .exact zwg h hx hy W
   .exact zwg h hx hy W
  .exact zwg h hx hy W
 .split at h
  .replace h:=zpd h
   rcases h with h | h
   .have e1:=hx.string_eq;have e2:=hy.string_eq;subst e1 e2;obtain ⟨g1,g2⟩:=zce (P:=P) h t W;exact ⟨v,zz9 g1,by rw [tzz,zca];exact g2⟩
   .exact zwg h hx hy W
  .exact zwg h hx hy W
 .exact zwg h hx hy W
theorem ylb {op:UnOp} {v w u:Value} (h:unA P op v=some u) (hv:VR ρ v w) (W:World):VR ρ u u/\(Op.unary op w).run P W=.ok u W:=by
 unfold unA at h;split at h
 .split at h
  .simp only [tza] at h;subst h;have e:=hv.bool_eq;subst e;exact ⟨.bool _,rfl⟩
  .simp at h
 .split at h
  .simp only [tza] at h;subst h;have e:=hv.int_eq;subst e;exact ⟨.int _ _,by rw [zr4];rfl⟩
  .simp at h
 split at h
 .rename_i hs;obtain ⟨r,hr,hr'⟩:=tzh.1 h;obtain ⟨rfl,hsr⟩:=zy3 hr';rw [zx9 hs hv];exact ⟨zz9 hsr,zxs hr W⟩
 .simp at h
theorem zhw {t:TypeId} {cs:List Value} {o:Nat} {v:Value} (h:ytt P t cs o=some v) {C:Array Value} (hc:VRs ρ cs C.toList) (W:World) :
  ∃ x,VR ρ v x/\(part t C o).run P W=.ok x W:=by
 unfold ytt at h;split at h
 .rename_i hagg;split at h
  .rename_i n hn;obtain ⟨l,hl,rfl⟩:=tzf.1 h;obtain ⟨h1,_,h3⟩:=zos hl;have hC:C.size=cs.length:=by rw [<-ty5,hc.length]
   refine ⟨.agg (C.extract o (o+n)),yzj (VRs.of_get ?_ λj v hj=>?_),?_⟩
   .grind
   .have hjn:j<n:=by have:=(tyl.1 hj).1;omega
    obtain ⟨g1,g2⟩:=h3 j hjn;rw [g1] at hj;obtain ⟨x,hx,hv⟩:=hc.get hj;refine ⟨x,?_,hv⟩;rw [txy,Array.getElem?_extract,if_pos (by omega)];simpa using hx
   .unfold part;simp [zot hagg,zy4 hn]
  .simp at h
 .rename_i hagg;obtain ⟨x,hx,hv⟩:=hc.get h;refine ⟨x,hv,?_⟩;unfold part;have:C[o]? =some x:=by simpa using hx
  simp [zot hagg,this]
 .simp at h
theorem zmk:∀ {l m:List Value} {bs:List UInt8},zmb l=some bs->VRs ρ l m->∃ ns:List Nat,m=ns.map (λn=>Value.int .u8 (.ofNat n))/\bs=ns.map UInt8.ofNat
 | [],m,bs,h,hv=>by cases hv;simp [zmb] at h;subst h;exact ⟨[],rfl,rfl⟩
 | v::l,m,bs,h,hv=>by
  cases hv with
  | cons h1 hs=>
   cases v with
   | int k n=>
    cases k<;>cases n<;>simp only [zmb] at h<;>try (simp at h;done)
    split at h
    .rename_i r hr;simp at h;subst h;obtain ⟨ns,e1,e2⟩:=zmk hr hs;have:=h1.int_eq;subst this e1 e2;exact ⟨_::ns,rfl,rfl⟩
    .simp at h
   | _=>simp [zmb] at h
theorem zcf:∀ (ns:List Int) (s:ByteArray),ns.foldl (λr n=>r.push (UInt8.ofNat n.toNat)) s=⟨(s.data.toList++ns.map λn=>UInt8.ofNat n.toNat).toArray⟩
 | [],s=>by cases s;simp
 | n::ns,s=>by rw [List.foldl_cons,zcf ns];simp [ByteArray.push]
theorem zpe {a:Addr} {l:List Value} (h:H.readAt a 0=some l):l=[]:=by
 obtain ⟨i,o,sp⟩:=a;cases sp with
 | none=>
  simp only [Hp.readAt,Hp.read] at h;split at h
  .exact tzy (zos h).1
  .cases h
 | some _=>simp [Hp.readAt] at h
theorem zjn (R:Rep P ρ H W) {a:Addr} {n c c' k:Nat} {b:Addr} {l:List Value} (hv:VR ρ (.slice (some a) n c) (.slice (some b) n c')) (h:H.readAt a k=some l) (hk:n=0->k=0) :
  ∃ m,VRs ρ l m/\m.length=k/\∀ W',W'.heap=W.heap->(Go.loadCells b k).run P W'=.ok m.toArray W':=by
 cases hv with
 | slice ha hc=>
  obtain ⟨i,o,sp⟩:=a;cases sp with
  | none=>
   obtain ⟨g,f,C,e,fz,m,rfl,h1,h2,h3,h4⟩:=R.read h ha;have hl:m.length=k:=by rw [h3.length,h2]
   refine ⟨m,h3,hl,λW' hW=>?_⟩;have:=zwf P (W:=W') (by rw [hW];exact h1) m 0 #[] (λj x hx=>by simpa using h4 j x hx);rw [hl] at this;simpa [Go.loadCells] using this
  | some _=>simp [Hp.readAt] at h
 | slice0 ha hp hb hs hU hc=>
  have:=hk rfl;subst this;rw [zpe h];exact ⟨[],.nil,rfl,λW' _=>rfl⟩
 | slice00 a b=>
  have:=hk rfl;subst this;rw [zpe h];exact ⟨[],.nil,rfl,λW' _=>rfl⟩
theorem yzl (R:Rep P ρ H W) {s d:TypeId} {v w u:Value} (h:zx8 P H s d v=some u) (hv:VR ρ v w):∃ x,VR ρ u x/\(convert s d w).run P W=.ok x W:=by
 unfold zx8 at h;split at h;rotate_left
 .simp at h
 rename_i ds hds;split at h;rotate_left
 .simp at h
 rename_i dd hdd
 replace h:=zpd h
 rcases h with h | h;rotate_left
 .split at h
  .rename_i hs;obtain ⟨r,hr,hr'⟩:=tzh.1 h;obtain ⟨rfl,hsr⟩:=zy3 hr';rw [zx9 hs hv];exact ⟨_,zz9 hsr,zxs hr W⟩
  .simp at h
 unfold zje at h;split at h;rotate_left
 .rename_i k hne;split at h
  .rename_i j n;simp only [tza] at h;subst h;have e:=hv.int_eq;subst e;refine ⟨_,.int _ _,?_⟩;unfold convert;simp only [tzz,zzw hds,zzw hdd,tzm,zr4];rfl
  .simp at h
 .simp at h
 rename_i e;split at h
 .rename_i a n c;split at h
  .rename_i he;split at h
   .rename_i cs hcs;obtain ⟨bs,hbs,rfl⟩:=tzf.1 h;obtain ⟨b,c',hw⟩:∃ b c',w=.slice (some b) n c':=by cases hv<;>exact ⟨_,_,rfl⟩
    subst hw;obtain ⟨m,hm,hml,hrun⟩:=zjn R hv hcs (λh=>h)
    replace hrun:=hrun W rfl
    obtain ⟨ns,e1,e2⟩:=zmk hbs hm;refine ⟨_,.string _,?_⟩;rw [run_convert_bytes_string W s d e _ _ _ hds he hdd];have e3:m=(ns.map Int.ofNat).map (Value.int .u8):=by rw [e1];simp
    rw [e3] at hrun;rw [run_bytesToString W b n c' _ hrun,zcf,e2];simp
   .simp at h
  .simp at h
 .rename_i n1 n2;split at h
  .rename_i he;simp only [tza] at h;subst h;cases hv;refine ⟨_,.string _,?_⟩;rw [run_convert_bytes_string W s d e _ _ _ hds he hdd];rfl
  .simp at h
 .simp at h
theorem zml {a b:Addr} {len s n:Nat} {v:Value} (h:zs7 a len s n=some v) (ha:ρ.addr a b):n<len/\VR ρ v (.pointer (some (b.add (n*s)))):=by
 unfold zs7 at h;split at h
 .rename_i hb;rw [txl] at hb;simp only [tza] at h;subst h;exact ⟨hb,.ptr (ha.add _)⟩
 .simp at h
theorem zjo {t:TypeId} {v i w j u:Value} (h:zxz P t v i=some u) (hv:VR ρ v w) (hi:VR ρ i j) (W:World):∃ x,VR ρ u x/\(Instr.indexAt t w j).run P W=.ok x W:=by
 unfold zxz at h;split at h;rotate_left
 .simp at h
 rename_i k n;have e:=hi.int_eq;subst e
 replace h:=tzh.1 h
 obtain ⟨d,hd,h⟩:=h;unfold zd1 at h;split at h
 .rename_i e;split at h
  .rename_i a len c
   replace h:=tzh.1 h
   obtain ⟨s,hs,h⟩:=h;cases hv with
   | slice0 _ _ _ _ _ _=>simp [zs7,Nat.blt,Nat.ble] at h
   | slice00 _ _=>simp [zs7,Nat.blt,Nat.ble] at h
   | slice ha hc=>
    obtain ⟨g1,g2⟩:=zml h ha;refine ⟨_,g2,?_⟩;unfold Instr.indexAt;have hr:(0<=Int.ofNat n/\Int.ofNat n<(len:Int)):=⟨Int.natCast_nonneg n,by simp only [ty7];omega⟩;simp only [asIntOf,tzz,txh,tzm,zzw hd,zy4 hs,if_pos hr,hr,and_self,if_true,Sem.run_ite];rfl
  .simp at h
 .rename_i len e;split at h
  .rename_i a
   replace h:=tzh.1 h
   obtain ⟨s,hs,h⟩:=h;cases hv with
   | ptr ha=>
    obtain ⟨g1,g2⟩:=zml h ha;refine ⟨_,g2,?_⟩;unfold Instr.indexAt;have hr:(0<=Int.ofNat n/\Int.ofNat n<(len:Int)):=⟨Int.natCast_nonneg n,by simp only [ty7];omega⟩;simp only [asIntOf,Instr.sureAddr,tzz,txh,tzm,zzw hd,zy4 hs,if_pos hr,hr,and_self,if_true,Sem.run_ite];rfl
  .simp at h
 .simp at h
theorem zjp {t:TypeId} {v w u:Value} {f:Nat} (h:ztj P t v f=some u) (hv:VR ρ v w) (W:World):∃ x,VR ρ u x/\(Instr.fieldAt t w f).run P W=.ok x W:=by
 replace h:=tzh.1 h
 obtain ⟨d,hd,h⟩:=h;unfold znk at h;split at h
 .rename_i fs;split at h
  .rename_i a;split at h
   .rename_i fd hfd;split at h
    .rename_i n hn;simp only [tza] at h;subst h;cases hv with
     | ptr ha=>
      rename_i b;refine ⟨_,.ptr (ha.add _),?_⟩;have hf:fs[f]? =some fd:=by simpa using hfd
      unfold Instr.fieldAt;simp only [tzz,zzw hd,tzm,hf,Instr.sureAddr,txh];unfold fieldPlace;simp only [tzz,zy4 hn,tzm,Nat.succ_ne_zero,if_false,txh]
    .simp at h
   .simp at h
  .simp at h
 .simp at h
theorem yzm {t:TypeId} {v w u:Value} {f:Nat} (h:yx2 P t v f=some u) (hv:VR ρ v w) (W:World):∃ x,VR ρ u x/\(Instr.field t w f).run P W=.ok x W:=by
 replace h:=tzh.1 h
 obtain ⟨d,hd,h⟩:=h;unfold ymq at h;split at h
 .rename_i fs;split at h
  .rename_i cs;split at h
   .rename_i fd hfd;cases hv with
    | agg hc=>
     rename_i l m;obtain ⟨x,hx,hrun⟩:=zhw (C:=⟨m⟩) h hc W;refine ⟨x,hx,?_⟩;have hf:fs[f]? =some fd:=by simpa using hfd
     unfold Instr.field;simp only [tzz,zzw hd,tzm,hf,asAgg,txh];exact hrun
   .simp at h
  .simp at h
 .simp at h
theorem yzn {t:TypeId} {v i w j u:Value} (h:zmd P t v i=some u) (hv:VR ρ v w) (hi:VR ρ i j) (W:World):∃ x,VR ρ u x/\(Instr.index t w j).run P W=.ok x W:=by
 unfold zmd at h;split at h;rotate_left
 .simp at h
 rename_i k n;have e:=hi.int_eq;subst e
 replace h:=tzh.1 h
 obtain ⟨d,hd,h⟩:=h;unfold zjd at h;split at h
 .split at h
  .rename_i s;obtain ⟨b,hb,rfl⟩:=tzf.1 h;have e:=hv.string_eq;subst e;refine ⟨_,.int _ _,?_⟩;unfold Instr.index
   have hb':s[n]? =some b:=by
    have:n<s.size:=by have:=(tyl.1 hb).1;simpa using this
    rw [getElem?_pos s n this];have h2:=(tyl.1 hb).2;rw [<-h2];rfl
   simp only [asIntOf,tzz,txh,tzm,zzw hd];rw [if_pos (show (0:Int)<=Int.ofNat n from Int.natCast_nonneg n)];show Sem.run P (match s[n]? with | some b=>pure (Value.int IntKind.u8 ↑b.toNat) | none=>boundsPanic k (Int.ofNat n) (↑s.size) BoundsCode.index) W=_;rw [hb'];rfl
  .simp at h
 .rename_i len e;split at h
  .rename_i cs;split at h
   .rename_i sz hsz;split at h
    .rename_i hlt;rw [txl] at hlt;cases hv with
     | agg hc=>
      rename_i l m;obtain ⟨x,hx,hrun⟩:=zhw (C:=⟨m⟩) h hc W;refine ⟨x,hx,?_⟩;have hr:(0<=Int.ofNat n/\Int.ofNat n<(len:Int)):=⟨Int.natCast_nonneg n,by simp only [ty7];omega⟩;unfold Instr.index;simp only [asIntOf,tzz,txh,tzm,zzw hd,hr,and_self,if_true,zy4 hsz];exact hrun
    .simp at h
   .simp at h
  .simp at h
 .simp at h
end Go.Sim
namespace Go.Sim
open Go Go.IntWalk
variable {P:Program} {ρ:Ren} {H:Hp} {W:World}
theorem zov {v:Value} {n:Nat} (h:xs4 v=some n):v=.int .i64 (.ofNat n):=by
 unfold xs4 at h;split at h<;>simp at h;subst h;rfl
inductive VO (ρ:Ren):Option Value->Option Value->Prop
 | none:VO ρ none none
 | some {v w:Value} (h:VR ρ v w):VO ρ (some v) (some w)
theorem yt3 {d n:Nat} {v:Value} (h:zx3 d (some v)=some n):∃ k,v=.int k (.ofNat n):=by
 unfold zx3 at h;split at h<;>simp at h
 .rename_i e;cases e
 .simp_all
theorem zw7 {v w:Value} (hv:VR ρ v w) {d n y:Nat} (h:zx3 d (some v)=some n) (hy:n<=y) (code:BoundsCode) (W:World):(Instr.sliceBound w y code).run P W=.ok n W:=by
 obtain ⟨k,rfl⟩:=yt3 h;have e:=hv.int_eq;subst e;unfold Instr.sliceBound;have hr:(0<=Int.ofNat n/\Int.ofNat n<=(y:Int)):=⟨Int.natCast_nonneg n,by simp only [ty7];omega⟩;simp only [asIntOf,tzz,txh,tzm,if_pos hr,hr,and_self,if_true];rfl
theorem zjq {lo hi lo' hi':Option Value} (hl:VO ρ lo lo') (hh:VO ρ hi hi') {len cap l h:Nat} (bl:zx3 0 lo=some l) (bh:zx3 len hi=some h) (h1:l<=h) (h2:h<=cap) (b:Bool) (W:World) :
  (Instr.sliceBounds b len cap lo' hi' none).run P W=.ok (l,h,cap) W:=by
 unfold Instr.sliceBounds;cases hl with
 | none=>
  simp [zx3] at bl;subst bl;cases hh with
  | none=>simp [zx3] at bh;subst bh;simp
  | some hv=>simp [zw7 hv bh h2]
 | some hv0=>
  cases hh with
  | none=>simp [zx3] at bh;subst bh;simp [zw7 hv0 bl h1]
  | some hv=>simp [zw7 hv bh h2,zw7 hv0 bl h1]
theorem ylc {lo lo':Option Value} {hi hi' mx mx':Value} (hl:VO ρ lo lo') (hh:VR ρ hi hi') (hm:VR ρ mx mx') {len cap l h m:Nat} (bl:zx3 0 lo=some l) (bh:zx3 len (some hi)=some h) (bm:zx3 0 (some mx)=some m)
  (h1:l<=h) (h2:h<=m) (h3:m<=cap) (b:Bool) (W:World) :
  (Instr.sliceBounds b len cap lo' (some hi') (some mx')).run P W=.ok (l,h,m) W:=by
 unfold Instr.sliceBounds;cases hl with
 | none=>simp [zx3] at bl;subst bl;simp [zw7 hm bm h3,zw7 hh bh h2]
 | some hv0=>simp [zw7 hm bm h3,zw7 hh bh h2,zw7 hv0 bl h1]
theorem ytw.low {n c c':Nat} (h:ytw ρ n c c') (hc:c<U):c'=c:=h.2.1 hc
theorem xxg:0<U:=by unfold U;omega
theorem zqu {c l:Nat} (h:U<=c):zs4 c l=U+1:=by
 have hb:Nat.blt c U=false:=by cases hb:Nat.blt c U with | false=>rfl | true=>rw [txl] at hb;omega
 unfold zs4;rw [hb]
theorem yfz {n c:Nat} (h:n<=c):ytw ρ n (U+1) c:=⟨h,λh=>by omega,λi h=>by omega⟩
theorem zcg {n n' c c' l:Nat} (h:ytw ρ n c c') (hc:U<=c) (hn:n'<=c'-l):ytw ρ n' (zs4 c l) (c'-l):=by
 rw [zqu hc];exact yfz hn
theorem zmm (R:Rep P ρ H W) {e:TypeId} {a:Option Addr} {len c:Nat} {lo hi mx lo' hi' mx':Option Value} {v:Value} {H':Hp} (h:zqp P e a len c lo hi mx H=some (v,H'))
  {b:Option Addr} {c':Nat} (hv:VR ρ (.slice a len c) (.slice b len c')) (hl:VO ρ lo lo') (hh:VO ρ hi hi') (hm:VO ρ mx mx') (isS:Bool) :
  ∃ ρ' l h m s,(Instr.sliceBounds isS len c' lo' hi' mx').run P W=.ok (l,h,m) W/\zyl P e=some s/\VR ρ' v (.slice (if m=l then b else b.map (·.add (l*s))) (h-l) (m-l))/\Rep P ρ' H' W/\Fr ρ ρ' H H' W W:=by
 unfold zqp at h;split at h;rotate_left
 .simp at h
 rename_i s hs;split at h;rotate_left
 .simp at h
 rename_i l bl;split at h;rotate_left
 .simp at h
 rename_i k bh;split at h;rotate_left
 .rename_i mv;split at h;rotate_left
  .simp at h
  rename_i hv0;split at h;rotate_left
  .simp at h
  rename_i m bm;cases hm with
  | some hm=>
   cases hh with
   | some hh=>
    unfold ymo at h;split at h;rotate_left
    .simp at h
    rename_i hc;simp only [tzc,txw,txl] at hc;obtain ⟨⟨⟨hlk,hkm⟩,hml⟩,hmU⟩:=hc;split at h
    .split at h
     .rename_i h0;have h0:=tzo h0;simp at h;obtain ⟨rfl,rfl⟩:=h;subst h0;have e1:k=0:=by omega
      subst e1;have e2:l=0:=by omega
      subst e2;cases hv;exact ⟨ρ,0,0,0,s,ylc hl hh hm bl bh bm (tzp _) (tzp _) (tz6 _) isS W,hs,by simpa using VR.nilSlice,R,.refl ρ H W⟩
     .simp at h
    rename_i a;split at h;rotate_left
    .simp at h
    rename_i hm0;rw [txl] at hm0;cases hv with
    | slice0 _ _ _ _ _ _=>omega
    | slice00 _ _=>omega
    | slice ha hca=>
     rename_i b;simp at h;obtain ⟨rfl,rfl⟩:=h;have hmc:m<=c':=tys hml hca.1;refine ⟨ρ,l,k,m,s,ylc hl hh hm bl bh bm hlk hkm hmc isS W,hs,?_,R,.refl ρ H W⟩;have hcap:ytw ρ (k-l) (m-l) (m-l):=⟨by omega,λ_=>rfl,λi hh=>by omega⟩;cases hq:Nat.beq m l with
     | true=>
      have:=tzo hq;rw [if_pos this];exact .slice ha hcap
     | false=>
      have:m≠l:=λe=>by subst e;simp at hq
      rw [if_neg this];exact .slice (ha.add _) hcap
 cases hm;unfold zn9 at h;split at h;rotate_left
 .simp at h
 rename_i hc;simp only [tzc,Bool.or_eq_true,txw,txl] at hc;obtain ⟨hlk,hk⟩:=hc;split at h
 .split at h
  .rename_i h0;have h0:=tzo h0;simp at h;obtain ⟨rfl,rfl⟩:=h;subst h0;have:l=0:=by omega
   subst this;cases hv;exact ⟨ρ,0,0,0,s,zjq hl hh bl bh (tzp _) (tz6 _) isS W,hs,by simpa using VR.nilSlice,R,.refl ρ H W⟩
  .simp at h
 rename_i a;cases hv with
 | slice0 ha hp hb hs0 hU hca=>
  rename_i b p;have hcU:¬c<U:=by omega
  have hk0:k=0:=(by omega);subst hk0;have hl0:l=0:=by omega
  subst hl0;simp at h;obtain ⟨rfl,rfl⟩:=h;refine ⟨ρ,0,0,c',s,zjq hl hh bl bh (tzp _) (tz6 _) isS W,hs,?_,R,.refl ρ H W⟩
  have e1:(if c'=0 then some b else Option.map (λx=>x.add (0*s)) (some b))=some b:=by
   split
   .rfl
   simp [Addr.add]
  rw [e1];exact .slice0 ha hp hb hs0 hU hca
 | slice00 a b=>
  have hk0:k=0:=by
   rcases hk with g | ⟨g1,g2⟩
   .omega
   omega
  subst hk0;have hl0:l=0:=by omega
  subst hl0;simp at h;obtain ⟨rfl,rfl⟩:=h;refine ⟨ρ,0,0,0,s,zjq hl hh bl bh (tzp _) (tz6 _) isS W,hs,?_,R,.refl ρ H W⟩;exact .slice00 _ _
 | slice ha hca=>
  rename_i b
  have hkc:k<=c':=by
   rcases hk with g | ⟨g1,g2⟩
   .exact tys g hca.1
   .rw [hca.low g1];exact g2
  have hb:=zjq (P:=P) hl hh bl bh hlk hkc isS W;split at h
  .simp at h;obtain ⟨rfl,rfl⟩:=h;refine ⟨ρ,0,k,c',s,hb,hs,?_,R,.refl ρ H W⟩
   have e1:(if c'=0 then some b else Option.map (λx=>x.add (0*s)) (some b))=some b:=by
    split
    .rfl
    simp [Addr.add]
   rw [e1];exact .slice ha ⟨hkc,hca.2.1,hca.2.2⟩
  rename_i l;unfold yxz at h;split at h
  .rename_i hcU;rw [txl] at hcU;have ec:=hca.low hcU;subst ec;simp at h;obtain ⟨rfl,rfl⟩:=h;refine ⟨ρ,l+1,k,c',s,hb,hs,?_,R,.refl ρ H W⟩;have hcap:ytw ρ (k-(l+1)) (c'-(l+1)) (c'-(l+1)):=⟨by omega,λ_=>rfl,λi hh=>by omega⟩;cases hq:Nat.beq c' (l+1) with
   | true=>
    have:=tzo hq;rw [if_pos this];exact .slice ha hcap
   | false=>
    have:c'≠l+1:=λe=>by subst e;simp at hq
    rw [if_neg this];exact .slice (ha.add _) hcap
  rename_i hcU
  have hcU:U<=c:=by
   rcases tz9 c U with g | g
   .rw [<-txl] at g;rw [g] at hcU;cases hcU
   .exact g
  split at h
  .rename_i hll;rw [txl] at hll;simp at h;obtain ⟨rfl,rfl⟩:=h;refine ⟨ρ,l+1,k,c',s,hb,hs,?_,R,.refl ρ H W⟩;have:=hca.1;rw [if_neg (by omega)];exact .slice (ha.add _) (zcg hca hcU (by omega))
  split at h
  .rename_i hkl;have hkl:=tzo hkl;subst hkl;simp at h;obtain ⟨rfl,rfl⟩:=h
   have hspb:∀ (x:Addr) (n:Nat),x.spot=none->(x.add n).spot=none/\(x.add n).block=x.block:=by
    intro x n hx;unfold Addr.add;split
    .exact ⟨hx,rfl⟩
    exact ⟨rfl,rfl⟩
   obtain ⟨ha1,p,hp,rfl⟩:=ha;obtain ⟨q1,q2⟩:=hspb a ((l+1)*s) ha1;have hcl:=zcg (n':=0) (l:=l+1) hca hcU (tz6 _);have hU2:zs4 c (l+1)=U+1:=zqu hcU;refine ⟨ρ,l+1,l+1,c',s,hb,hs,?_,R,.refl ρ H W⟩;rw [Nat.sub_self];split
   .exact .slice0 q1 (by rw [q2];exact hp) rfl rfl hU2 hcl
   obtain ⟨r1,r2⟩:=hspb (⟨p.1,p.2+a.off,none⟩:Addr) ((l+1)*s) rfl;exact .slice0 q1 (by rw [q2];exact hp) r2 r1 hU2 hcl
  .simp at h
theorem zit {s:ByteArray} {lo hi mx lo' hi' mx':Option Value} {v:Value} (h:zlu s lo hi mx=some v) (hl:VO ρ lo lo') (hh:VO ρ hi hi') (hm:VO ρ mx mx') {t:TypeId} (ht:P.underlying t=some .string) (W:World) :
  VR ρ v v/\(Instr.slice t (.string s) lo' hi' mx').run P W=.ok v W:=by
 unfold zlu at h;split at h
 .split at h
  .rename_i l bl;split at h
   .rename_i k bh;split at h
    .rename_i hc;simp only [tzc,txw] at hc;simp at h;subst h;cases hm;refine ⟨.string _,?_⟩;unfold Instr.slice;simp only [tzz,zzw ht,tzm];have e:s.extract l k=⟨((s.data.toList.drop l).take (k-l)).toArray⟩:=(by apply ByteArray.ext;apply Array.ext';simp [ByteArray.data_extract,List.drop_take]);simp only [Option.isSome_none,Bool.false_eq_true,if_false,tzz,zjq hl hh bl bh hc.1 hc.2 false W,tzm,e];rfl
    .simp at h
   .simp at h
  .simp at h
 .simp at h
section ops
variable {tm:Trie Value} {nt:Nat} {a:Act} {o:Oper} {r:ARes} (R:Rep P ρ H W) (ht:TR ρ tm nt a.tmps)
include R ht
theorem zpf {x:Option Operand} {v:Option Value} (h:zqh P tm x=some v):VO ρ v (x.map a.eval):=by
 unfold zqh at h;split at h
 .simp at h;subst h;exact .none
 obtain ⟨u,hu,rfl⟩:=tzf.1 h;exact .some (zzk R ht hu)
theorem zch {t:TypeId} {x:Operand} {lo hi mx:Option Operand} (h:zse P tm H t x lo hi mx=some r) (ho:o.op=.slice t x lo hi mx):zxy P ρ H W ((execOp a.eval o).run P W) r:=by
 unfold zse at h;split at h;rotate_left
 .simp at h
 rename_i v hv;split at h;rotate_left
 .simp at h
 rename_i l hl;split at h;rotate_left
 .simp at h
 rename_i k hk;split at h;rotate_left
 .simp at h
 rename_i m hm
 replace hv:=zzk R ht hv
 replace hl:=zpf R ht hl
 replace hk:=zpf R ht hk
 replace hm:=zpf R ht hm
 obtain ⟨d,hd,h⟩:=tzh.1 h
 have hexec:∀ res,(Instr.sliceAt t (a.eval x) (lo.map a.eval) (hi.map a.eval) (mx.map a.eval)).run P W=.ok res W->(execOp a.eval o).run P W=.ok (.value res) W:=λres hr=>by
  unfold execOp;rw [ho];exact zzz hr
 unfold zoo at h;split at h
 .split at h
  .rename_i s;obtain ⟨u,hu,rfl⟩:=zye h;have e:=hv.string_eq;obtain ⟨g1,g2⟩:=zit hu hl hk hm hd W;refine .pure R g1 (hexec _ ?_);rw [e];unfold Instr.sliceAt;simp only [tzz,zzw hd,tzm];exact g2
  .simp at h
 .rename_i e;split at h
  .rename_i b len c _;obtain ⟨u,H',hu,rfl⟩:=ztm h
   obtain ⟨b',c',hb'⟩:∃ b' c',a.eval x=.slice b' len c':=by
    generalize a.eval x=y at hv;cases hv with
    | nilSlice=>exact ⟨_,_,rfl⟩
    | slice _ _=>exact ⟨_,_,rfl⟩
    | slice0 _ _ _ _ _ _=>exact ⟨_,_,rfl⟩
    | slice00 _ _=>exact ⟨_,_,rfl⟩
   rw [hb'] at hv;obtain ⟨ρ',l',h',m',s,g1,g2,g3,g4,g5⟩:=zmm R hu hv hl hk hm true;refine ⟨ρ',_,W,.inl (hexec _ ?_),g3,g4,g5⟩;rw [hb'];unfold Instr.sliceAt;simp only [tzz,zzw hd,tzm];unfold Instr.slice;simp only [tzz,zzw hd,tzm,g1,zy4 g2];rfl
  .simp at h
 .rename_i n e;split at h
  .rename_i i off _;split at h
   .rename_i hU;rw [txl] at hU;obtain ⟨u,H',hu,rfl⟩:=ztm h;generalize hy:a.eval x=y at hv;cases hv with
    | ptr ha=>
     rename_i b;have hv2:VR ρ (.slice (some ⟨i,off,none⟩) n n) (.slice (some b) n n):=.slice ha ⟨tzp _,λ_=>rfl,λh=>by omega⟩;obtain ⟨ρ',l',h',m',s,g1,g2,g3,g4,g5⟩:=zmm R hu hv2 hl hk hm false;refine ⟨ρ',_,W,.inl (hexec _ ?_),g3,g4,g5⟩;rw [hy];unfold Instr.sliceAt;simp only [tzz,zzw hd,tzm,Instr.sureAddr,txh,g1,zy4 g2];split<;>simp_all
   .simp at h
  .simp at h
 .simp at h
theorem zjr {t:TypeId} {l c:Operand} (h:zxc P tm H t l c=some r) (ho:o.op=.makeSlice t l c):zxy P ρ H W ((execOp a.eval o).run P W) r:=by
 unfold zxc at h;split at h;rotate_left
 .simp at h
 rename_i e he;split at h;rotate_left
 .simp at h
 rename_i n hn;split at h;rotate_left
 .simp at h
 rename_i m hm;split at h
 .rename_i by_ hby;split at h
  .rename_i hc;simp only [tzc,txw,txl] at hc;obtain ⟨⟨hnm,hroom⟩,hm63⟩:=hc;obtain ⟨cs,hcs,rfl⟩:=tzf.1 h;obtain ⟨vn,hvn,hvn'⟩:=tzh.1 hn;obtain ⟨vm,hvm,hvm'⟩:=tzh.1 hm;have e1:=zov hvn';have e2:=zov hvm';subst e1 e2;have x1:=(zzk R ht hvn).int_eq;have x2:=(zzk R ht hvm).int_eq;obtain ⟨i,hi,rfl⟩:=znr hby;obtain ⟨z1,s,hs,z3,z4⟩:=zt2 hcs;have wl:IntKind.i64.wrap (n:Int)=n:=by rw [IntKind.wrap_i64];omega
   have wc:IntKind.i64.wrap (m:Int)=m:=by rw [IntKind.wrap_i64];omega
   have n1:¬((m:Int)<0):=by omega
   have n2:¬(281474976710656<(i.bytes:Int)*m):=(by grind);have n3:¬((n:Int)<0):=by omega
   have n4:¬((m:Int)<n):=by omega
   have n5:¬(140737488355328<m*i.bytes):=by omega
   refine zhv R ht (C:=cs.toArray) (by simpa using z1 ρ) hnm (by unfold U;omega) ?_;unfold execOp;rw [ho];refine zzz ?_;rw [x1,x2];by_cases hz:m*s=0
   .have:cs=[]:=tzy (by rw [z3,hz]);subst this;simp [Instr.makeSlice,zzw (zws he),asInt,asIntOf,zr2 hi,zy4 hs,wl,wc,n1,n2,n3,n4,n5,hz,newRow,askRoom,roomBytes,Array.range_zero']
   .obtain ⟨zv,hzr,hzs,heq⟩:=z4 hz;simp [Instr.makeSlice,zzw (zws he),asInt,asIntOf,zr2 hi,zy4 hs,wl,wc,n1,n2,n3,n4,n5,hz,newRow,askRoom,roomBytes,hzr,<-heq]
  .simp at h
 .simp at h
theorem zci {x:Operand} {xt at_:TypeId} {ok:Bool} (h:zu4 P tm H x xt at_ ok=some r) (ho:o.op=.typeAssert x xt at_ ok):zxy P ρ H W ((execOp a.eval o).run P W) r:=by
 unfold zu4 at h;split at h;rotate_left
 .simp at h
 rename_i v hv;split at h
 .rename_i hs;obtain ⟨u,hu,rfl⟩:=zye h;obtain ⟨w,hw,hw'⟩:=tzh.1 hu;have e:=zx9 hs (zzk R ht hv)
  have hr:VR ρ u w/\u=w:=by
   unfold ymv at hw';split at hw'
   .rename_i cs;split at hw'
    .rename_i p b hp;split at hw'
     .rename_i hsp;simp at hw';subst hw';have:cs=#[p,.bool b]:=by apply Array.ext';exact hp
      subst this;exact ⟨.tuple (.cons (zz9 hsp) (.cons (.bool _) .nil)),rfl⟩
     .simp at hw'
    .simp at hw'
   .obtain ⟨rfl,hsr⟩:=zy3 hw';exact ⟨zz9 hsr,rfl⟩
  refine .pure R hr.1 ?_;unfold execOp;rw [ho];refine zzz ?_;rw [e];exact zxs hw W
 .simp at h
end ops
end Go.Sim
namespace Go.Sim
open Go Go.IntWalk
variable {P:Program} {ρ:Ren} {H:Hp} {W:World}
def hit (es:List MapEntry):Option Nat->Option (Nat×Value)
 | none=>none
 | some i=>(es[i]?).map λe=>(i,e.val)
def ziu (es:List MapEntry) (i:Nat):Option Nat->Option (Nat×Value)
 | none=>none
 | some j=>(es[j-i]?).map λe=>(j,e.val)
theorem xrb (a b:ByteArray):(a.data.toList==b.data.toList)=(a==b):=by
 obtain ⟨x⟩:=a;obtain ⟨y⟩:=b;have e:((⟨x⟩:ByteArray)==⟨y⟩)=(x==y):=rfl;rw [e,ty1];simp only [beq_iff_eq];exact ⟨λh=>Array.ext' h,λh=>by rw [h]⟩
theorem zjs {j:IntKind} {a:Int}:∀ {es es':List MapEntry} {i:Nat} {r:Option Nat},zni j a es i=some r->L2 (ER ρ) es es' ->
  ∀ kd,Instr.findNow (.int kd) (.int j a) es' i=some (ziu es' i r)/\(∀ n,r=some n->i<=n/\n<i+es.length)
 | [],es',i,r,h,hl,kd=>by cases hl;simp [zni] at h;subst h;exact ⟨rfl,λn h=>by cases h⟩
 | e::es,es',i,r,h,hl,kd=>by
  cases hl with
  | cons he hs=>
   rename_i e' es'
   simp only [zni] at h
   split at h
   .rename_i k b hk
    have hkey:=he.1
    rw [hk] at hkey
    have hkey:=hkey.int_eq
    split at h
    .rename_i hjk
     have:=yla hjk
     subst this
     rw [zmj] at h
     cases hq:(a==b) with
     | true=>
      rw [hq] at h
      simp at h;subst h
      refine ⟨?_,λn h=>by simp at h;subst h;simp⟩
      unfold Instr.findNow
      simp [hkey,Instr.sameNow,hq,ziu]
     | false=>
      rw [hq] at h
      simp only at h
      obtain ⟨g1,g2⟩:=zjs h hs kd
      refine ⟨?_,λn hn=>by obtain ⟨x,y⟩:=g2 n hn;simp;omega⟩
      unfold Instr.findNow
      simp only [hkey,Instr.sameNow,if_true,hq,g1]
      cases r with
      | none=>rfl
      | some n=>
       obtain ⟨x,y⟩:=g2 n rfl
       simp only [ziu]
       rw [show n-i=(n-(i+1))+1 from by omega]
       simp
    .simp at h
   .simp at h
theorem zjt {a:ByteArray}:∀ {es es':List MapEntry} {i:Nat} {r:Option Nat},znj a es i=some r->L2 (ER ρ) es es' ->
  Instr.findNow .string (.string a) es' i=some (ziu es' i r)/\(∀ n,r=some n->i<=n/\n<i+es.length)
 | [],es',i,r,h,hl=>by cases hl;simp [znj] at h;subst h;exact ⟨rfl,λn h=>by cases h⟩
 | e::es,es',i,r,h,hl=>by
  cases hl with
  | cons he hs=>
   rename_i e' es'
   simp only [znj] at h
   split at h
   .rename_i b hk
    have hkey:=he.1
    rw [hk] at hkey
    have hkey:=hkey.string_eq
    have hb:(a.data.toList==b.data.toList)=(a==b):=xrb a b
    rw [zd9,hb] at h
    cases hq:(a==b) with
    | true=>
     rw [hq] at h
     simp at h;subst h
     refine ⟨?_,λn h=>by simp at h;subst h;simp⟩
     unfold Instr.findNow
     simp [hkey,Instr.sameNow,hq,ziu]
    | false=>
     rw [hq] at h
     simp only at h
     obtain ⟨g1,g2⟩:=zjt h hs
     refine ⟨?_,λn hn=>by obtain ⟨x,y⟩:=g2 n hn;simp;omega⟩
     unfold Instr.findNow
     simp only [hkey,Instr.sameNow,hq,g1]
     cases r with
     | none=>rfl
     | some n=>
      obtain ⟨x,y⟩:=g2 n rfl
      simp only [ziu]
      rw [show n-i=(n-(i+1))+1 from by omega]
      simp
   .simp at h
theorem zju {kt:TypeId} {k:Value}:∀ {es es':List MapEntry} {i:Nat} {r:Option Nat},zti P kt k es i=some r->L2 (ER ρ) es es' ->
  (∀ W,(Instr.findAsking kt k es' i).run P W=.ok (ziu es' i r) W)/\(∀ n,r=some n->i<=n/\n<i+es.length)
 | [],es',i,r,h,hl=>by cases hl;simp [zti] at h;subst h;exact ⟨λW=>rfl,λn h=>by cases h⟩
 | e::es,es',i,r,h,hl=>by
  cases hl with
  | cons he hs=>
   rename_i e' es'
   simp only [zti] at h
   split at h
   .rename_i hsk
    have hkey:=zx9 hsk he.1
    unfold ziq at h
    split at h
    .rename_i hq
     simp at h;subst h
     refine ⟨λW=>?_,λn h=>by simp at h;subst h;simp⟩
     unfold Instr.findAsking
     simp [hkey,zxs hq W,ziu]
    .rename_i hq
     obtain ⟨g1,g2⟩:=zju h hs
     refine ⟨λW=>?_,λn hn=>by obtain ⟨x,y⟩:=g2 n hn;simp;omega⟩
     unfold Instr.findAsking
     simp only [tzz,hkey,zxs hq W,tzm,Bool.false_eq_true,if_false,g1 W]
     cases r with
     | none=>rfl
     | some n=>
      obtain ⟨x,y⟩:=g2 n rfl
      simp only [ziu]
      rw [show n-i=(n-(i+1))+1 from by omega]
      simp
    .simp at h
   .simp at h
theorem znt (es:List MapEntry) (r:Option Nat):ziu es 0 r=hit es r:=by cases r<;>rfl
theorem zpg {kt:TypeId} {k k':Value} {es es':List MapEntry} {r:Option Nat} (h:zx0 P kt k es=some r) (hl:L2 (ER ρ) es es') (hk:VR ρ k k') :
  k'=k/\(∀ b W,(Instr.checkKey b 10000 kt k).run P W=.ok () W)/\(∀ W,(Instr.findKey kt k es').run P W=.ok (hit es' r) W)/\(∀ n,r=some n->n<es.length)/\VR ρ k k:=by
 unfold zx0 at h;obtain ⟨d,hd,h⟩:=tzh.1 h;unfold xxb at h
 have last:(zyj k=true)->(∀ a,d=.int a->False)->(d=.string->False)->(d=.bool->False) ->
   (match zyj k with
  | true=>match zzs P (Instr.checkKey false 10000 kt k) with
   | some ()=>match zzs P (Instr.checkKey true 10000 kt k) with
    | some ()=>zti P kt k es 0
    | none=>none
   | none=>none
  | false=>none)=some r->k'=k/\(∀ b W,(Instr.checkKey b 10000 kt k).run P W=.ok () W)/\(∀ W,(Instr.findKey kt k es').run P W=.ok (hit es' r) W)/\(∀ n,r=some n->n<es.length)/\VR ρ k k:=by
  intro hs n1 n2 n3 h
  rw [hs] at h
  simp only at h
  split at h
  .rename_i c1
   split at h
   .rename_i c2
    obtain ⟨g1,g2⟩:=zju h hl
    refine ⟨zx9 hs hk,λb W=>?_,λW=>?_,λn hn=>by have:=(g2 n hn).2;omega,zz9 hs⟩
    .cases b with
     | false=>exact zxs c1 W
     | true=>exact zxs c2 W
    .unfold Instr.findKey
     simp only [tzz,zzw hd,tzm]
     have:Instr.findNow d k es' 0=none∨(es'=[]/\Instr.findNow d k es' 0=some none):=by
      cases es' with
      | nil=>exact .inr ⟨rfl,rfl⟩
      | cons e es'=>
       left
       unfold Instr.findNow
       have:Instr.sameNow d k e.key=none:=by
        unfold Instr.sameNow
        split
        .exact absurd rfl (λe=>n1 _ e)
        .exact absurd rfl (λe=>n2 e)
        .exact absurd rfl (λe=>n3 e)
        .rfl
       rw [this]
     rcases this with g | ⟨rfl,g⟩
     .rw [g];simp only;rw [g1,znt]
     .rw [g]
      cases hl
      simp [zti] at h;subst h
      rfl
   .simp at h
  .simp at h
 split at h
 .split at h
  .rename_i kd _ j a _;obtain ⟨g1,g2⟩:=zjs h hl kd;refine ⟨hk.int_eq,λb W=>?_,λW=>?_,λn hn=>by have:=(g2 n hn).2;omega,.int _ _⟩
   .unfold Instr.checkKey;simp only [tzz,zzw hd,tzm];rfl
   unfold Instr.findKey;simp only [tzz,zzw hd,tzm,g1,znt];rfl
  .simp at h
 .simp at h
 .split at h
  .rename_i a _;obtain ⟨g1,g2⟩:=zjt h hl;refine ⟨hk.string_eq,λb W=>?_,λW=>?_,λn hn=>by have:=(g2 n hn).2;omega,.string _⟩
   .unfold Instr.checkKey;simp only [tzz,zzw hd,tzm];rfl
   unfold Instr.findKey;simp only [tzz,zzw hd,tzm,g1,znt];rfl
  .simp at h
 .grind
theorem L2.modify {α β:Type} {R:α->β->Prop} {l:List α} {m:List β} (k:L2 R l m) {i:Nat} {a:α} {f:β->β} (h:∀ b,m[i]? =some b->R a (f b)):L2 R (l.set i a) (m.modify i f):=by
 induction k generalizing i with
 | nil=>simpa using L2.nil
 | cons h' hs ih=>
  cases i with
  | zero=>simpa using L2.cons (h _ rfl) hs
  | succ i=>simpa using L2.cons h' (ih λb hb=>h b (by simpa using hb))
theorem Rep.mapBlk (R:Rep P ρ H W) {r:Nat} {es:List MapEntry} {ck:Nat} (h:H.get r=some (.map es ck)) {p:Nat×Nat} (hp:ρ.blk r=some p) :
  ∃ es',W.heap[p.1]? =some (.map es' ck)/\L2 (ER ρ) es es'.toList:=by
 obtain ⟨es',h1,h2⟩:=R.blk r _ p h trivial hp;exact ⟨es',h1,h2⟩
theorem zr5 {r:Nat} {es:Array MapEntry} {ck:Nat} (h:W.heap[r]? =some (.map es ck)):(getObj r).run P W=.ok (.map es ck) W:=by
 unfold getObj;simp only [Sem.run,h]
theorem zhx {r:Nat} {es:Array MapEntry} {ck:Nat} (o:Obj) (h:W.heap[r]? =some (.map es ck)):(setObj r o).run P W=.ok () (zif W r o):=by
 unfold setObj;simp only [Sem.run,h];rfl
theorem Rep.putMap (R:Rep P ρ H W) {r:Nat} {es:List MapEntry} {ck:Nat} (h:H.get r=some (.map es ck)) {p:Nat×Nat} (hp:ρ.blk r=some p) {es2:List MapEntry} {es2':Array MapEntry} {ck2:Nat}
  (hl:L2 (ER ρ) es2 es2'.toList):Rep P ρ (H.put r (.map es2 ck2)) (zif W p.1 (.map es2' ck2))/\Fr ρ ρ H (H.put r (.map es2 ck2)) W (zif W p.1 (.map es2' ck2)):=by
 obtain ⟨es',h1,_⟩:=R.mapBlk h hp;have hb:p.1<W.heap.size:=(txm.1 h1).1
 exact R.turn (B':=.map es2 ck2) h trivial trivial hp (λj=>by simp) (by simp) (λk=>.inl (by simp)) (λj C h=>h) (λj C h=>by unfold same at h ⊢;cases C<;>(first | exact h | (split<;>simp_all))) trivial rfl trivial
  (λc e k h=>by simp at h) (λc e k h=>by simp at h) (wput_size W p.1 _) (λb hb=>ztl W hb _) rfl rfl rfl ⟨es2',ztk W hb _,hl⟩
theorem zfn (R:Rep P ρ H W) {t:TypeId} {m k m' k':Value} {ok:Bool} {v:Value} (h:zug P t m k ok H=some v) (hm:VR ρ m m') (hk:VR ρ k k'):∃ x,VR ρ v x/\(Instr.lookup t m' k' ok).run P W=.ok x W:=by
 unfold zug at h;split at h;rotate_left
 .simp at h
 rename_i kt et hd;obtain ⟨es,hes,h⟩:=tzh.1 h
 obtain ⟨es',hget,hl⟩:∃ es':Array MapEntry,((m'=.map none/\es'=#[])∨∃ q ck,m'=.map (some q)/\W.heap[q]? =some (.map es' ck))/\L2 (ER ρ) es es'.toList:=by
  unfold zma at hes;split at hes
  .simp at hes;subst hes;cases hm;exact ⟨#[],.inl ⟨rfl,rfl⟩,.nil⟩
  .rename_i r;split at hes
   .rename_i es0 ck hg;simp at hes;subst hes;cases hm with
    | map hp=>
     obtain ⟨es',h1,h2⟩:=R.mapBlk hg hp;exact ⟨es',.inr ⟨_,_,rfl,h1⟩,h2⟩
   .simp at hes
  .simp at hes
 have hrun:∀ (r:Option Nat) (x:Value),zx0 P kt k es=some r->((∃ i e,r=some i/\es'.toList[i]? =some e/\x=e.val)∨(r=none/\∀ W,(zeroValue et).run P W=.ok x W))->
   (Instr.lookup t m' k' ok).run P W=.ok (if ok then .tuple #[x,.bool r.isSome] else x) W:=by
  intro r x hf hx
  obtain ⟨f1,f2,f3,f4,f5⟩:=zpg hf hl hk
  subst f1
  unfold Instr.lookup
  simp only [tzz,zzw hd,tzm]
  rcases hget with ⟨rfl,rfl⟩ | ⟨q,ck,rfl,hq⟩
  .simp only [tzz,txh,tzm,f2,f3]
   rcases hx with ⟨i,e,rfl,he,rfl⟩ | ⟨rfl,hz⟩
   .simp_all
   .simp only [hit,tzz,hz,txh,tzm]
    rfl
  .simp only [tzz,zr5 hq,txh,tzm,f2,f3]
   rcases hx with ⟨i,e,rfl,he,rfl⟩ | ⟨rfl,hz⟩
   .simp only [hit,he,tz2,txh,tzz,tzm]
    rfl
   .simp only [hit,tzz,hz,txh,tzm]
    rfl
 unfold zfj at h
 have fv:∀ b (v x:Value),VR ρ v x->VR ρ (yx1 ok b v) (if ok then .tuple #[x,.bool b] else x):=by
  intro b v x hv;cases ok with
  | true=>exact .tuple (.cons hv (.cons (.bool _) .nil))
  | false=>exact hv
 split at h
 .rename_i i hf;obtain ⟨e,he,rfl⟩:=tzf.1 h;obtain ⟨e',he',her⟩:=hl.get he;exact ⟨_,fv true _ _ her.2.1,hrun (some i) e'.val hf (.inl ⟨i,e',rfl,he',rfl⟩)⟩
 .rename_i hf;obtain ⟨z,hz,rfl⟩:=tzf.1 h;obtain ⟨hs,hzr⟩:=zr3 hz;exact ⟨_,fv false _ _ (zz9 hs),hrun none z hf (.inr ⟨rfl,hzr⟩)⟩
 .simp at h
theorem zfo (R:Rep P ρ H W) {t:TypeId} {m k v m' k' v':Value} {H':Hp} (h:zs6 P t m k v H=some H') (hm:VR ρ m m') (hk:VR ρ k k') (hv:VR ρ v v') :
  ∃ W',(Instr.mapUpdate t m' k' v').run P W=.ok () W'/\Rep P ρ H' W'/\Fr ρ ρ H H' W W':=by
 unfold zs6 at h;split at h;rotate_left
 .simp at h
 rename_i kt et hd;split at h;rotate_left
 .simp at h
 rename_i r;split at h;rotate_left
 .simp at h
 rename_i es ck hg;cases hm with
 | map hp=>
  rename_i p;obtain ⟨es',h1,hl⟩:=R.mapBlk hg hp;unfold zfk at h;split at h
  .rename_i i hf;obtain ⟨f1,f2,f3,f4,f5⟩:=zpg hf hl hk;subst f1;split at h
   .rename_i e he;split at h
    .rename_i hsb;simp at h;subst h;obtain ⟨e',he',her⟩:=hl.get he;have he2:es'[i]? =some e':=by simpa using he'
     have hsb':Instr.sameBits 10000 e'.key k'=true:=(by simp only [tzc] at hsb;rw [zx9 hsb.1 her.1];exact hsb.2)
     obtain ⟨g1,g2⟩:=R.putMap (es2:=es.set i ⟨k',v,e.born⟩) (es2':=es'.modify i λe=>{ e with key:=k',val:=v' }) (ck2:=ck) hg hp (by
      rw [Array.toList_modify]
      refine hl.modify λb hb=>?_
      rw [he'] at hb;simp at hb;subst hb
      exact ⟨f5,hv,her.2.2⟩)
     refine ⟨_,?_,g1,g2⟩;unfold Instr.mapUpdate;simp only [tzz,zzw hd,tzm,zr5 h1,f2,f3,hit,he',tz2,he2,tye];unfold Instr.keyThatStays;simp only [hsb',if_true,txh,tzm,zhx _ h1]
    .simp at h
   .simp at h
  .rename_i hf;obtain ⟨f1,f2,f3,f4,f5⟩:=zpg hf hl hk;subst f1;simp at h;subst h
   obtain ⟨g1,g2⟩:=R.putMap (es2:=es++[⟨k',v,ck⟩]) (es2':=es'.push ⟨k',v',ck⟩) (ck2:=ck+1) hg hp (by
    rw [Array.toList_push]
    exact hl.append (.cons ⟨f5,hv,rfl⟩ .nil))
   refine ⟨_,?_,g1,g2⟩;unfold Instr.mapUpdate;simp only [tzz,zzw hd,tzm,zr5 h1,f2,f3,hit,zhx _ h1]
  .simp at h
section ops
variable {tm:Trie Value} {nt:Nat} {a:Act} {o:Oper} {r:ARes} (R:Rep P ρ H W) (ht:TR ρ tm nt a.tmps)
include R ht
theorem zcj {t:TypeId} {m k:Operand} {ok:Bool} (h:zvi P tm H t m k ok=some r) (ho:o.op=.lookup t m k ok):zxy P ρ H W ((execOp a.eval o).run P W) r:=by
 unfold zvi at h;split at h
 .rename_i vm hm;split at h
  .rename_i vk hk;obtain ⟨v,hv,rfl⟩:=zye h;obtain ⟨x,hx,hrun⟩:=zfn R hv (zzk R ht hm) (zzk R ht hk);refine .pure R hx ?_;unfold execOp;rw [ho];exact zzz hrun
  .simp at h
 .simp at h
theorem zmn {t:TypeId} {m k v:Operand} (h:zwn P tm H t m k v=some r) (ho:o.op=.mapUpdate t m k v∨o.op=.insert t m k v):zxy P ρ H W ((execOp a.eval o).run P W) r:=by
 unfold zwn at h;split at h
 .rename_i vm hm;split at h
  .rename_i vk hk;split at h
   .rename_i vv hv;obtain ⟨H',hH,rfl⟩:=zlw h;obtain ⟨W',hrun,h1,h2⟩:=zfo R hH (zzk R ht hm) (zzk R ht hk) (zzk R ht hv);refine ⟨ρ,undef,W',.inr ⟨?_,rfl⟩,.undef,h1,h2⟩;unfold execOp;rcases ho with ho | ho<;>rw [ho]<;>exact ywe hrun
   .simp at h
  .simp at h
 .simp at h
end ops
end Go.Sim
namespace Go.Sim
open Go Go.IntWalk
variable {P:Program} {ρ:Ren} {H:Hp} {W:World}
theorem Rep.loadCellsAt (R:Rep P ρ H W) {i o n:Nat} {l:List Value} (h:H.read i o n=some l) {b:Addr} (ha:ρ.addr ⟨i,o,none⟩ b) :
  ∃ m,VRs ρ l m/\m.length=n/\∀ W',W'.heap=W.heap->(Go.loadCells b n).run P W'=.ok m.toArray W':=by
 obtain ⟨g,f,C,e,fz,m,rfl,h1,h2,h3,h4⟩:=R.read h ha;have hl:m.length=n:=by rw [h3.length,h2]
 refine ⟨m,h3,hl,λW' hW=>?_⟩;have:=zwf P (W:=W') (by rw [hW];exact h1) m 0 #[] (λj x hx=>by simpa using h4 j x hx);rw [hl] at this;simpa [Go.loadCells] using this
theorem zmo (R:Rep P ρ H W) {s n:Nat} {x x':Value} {cs:List Value} (h:zqq H s n x=some cs) (hx:VR ρ x x') (hn:∀ k,xxa x=some k->n<=k) :
  ∃ m,VRs ρ cs m/\∀ W',W'.heap=W.heap->(Builtin.firstCells s n x').run P W'=.ok m.toArray W':=by
 unfold zqq at h;split at h
 .rename_i a len cap;obtain ⟨b,c',hw⟩:∃ b c',x'=.slice (some b) len c':=by cases hx<;>exact ⟨_,_,rfl⟩
  subst hw;obtain ⟨m,h1,h2,h3⟩:=zjn R hx h (λh0=>by have:=hn len rfl;subst h0;simp at this;rw [this];simp);exact ⟨m,h1,h3⟩
 .split at h
  .simp at h;subst h;cases hx;exact ⟨[],.nil,λW' _=>rfl⟩
  .simp at h
 .rename_i b;split at h
  .simp at h;subst h;have e:=hx.string_eq;subst e;refine ⟨(b.data.toList.map ymp).take n,?_,λW' _=>?_⟩
   .refine zux ?_;rw [tzx];intro x hx;have:=ty3 hx;simp only [tyg] at this;obtain ⟨y,_,rfl⟩:=this;rfl
   .show Result.ok _ W'=_;congr 1;apply Array.ext';simp;rfl
  .simp at h
 .simp at h
theorem yt4 (R:Rep P ρ H W) {sz n:Nat} {x x':Value} {new:List Value} (h:xr7 H sz x=some (n,new)) (hx:VR ρ x x') {tx:TypeId} (ht:zvt P tx=true) (hl:new.length=n*sz) (h1:new.all oneCell=true) :
  ∃ news,VRs ρ new news/\∀ W',W'.heap=W.heap->Src P sz tx x' n news W':=by
 unfold xr7 at h;split at h
 .rename_i n' hn;obtain ⟨cs,hcs,e⟩:=tzf.1 h;simp at e;obtain ⟨rfl,rfl⟩:=e;obtain ⟨m,hm,hrun⟩:=zmo R hcs hx (λk hk=>by rw [hn] at hk;simp at hk;omega);refine ⟨m,hm,λW' hW=>⟨?_,λw=>?_,hrun W' hW,hrun _ hW,by rw [hm.length,hl],hm.one h1⟩⟩
  .unfold zvt at ht;split at ht
   .rename_i d hd;unfold ydx at ht;split at ht
    .exact .inl ⟨_,hd⟩
    .exact .inr hd
    .simp at ht
   .simp at ht
  .unfold xxa at hn;split at hn
   .simp at hn;subst hn;cases hx<;>rfl
   .simp at hn;subst hn;rw [hx.string_eq];rfl
   .simp at hn
 .simp at h
theorem zow {w w':World} (t tx ty e:TypeId) (i:TypeInfo) (ht:P.underlying t=some (.slice e)) (hi:P.info? e=some i) (a:Addr) (sLen sCap:Nat) (x:Value) (n:Nat) (news:List Value) (hs:Src P i.size tx x n news w)
  (hroom:sLen+n<=sCap) (hst:(storeCells (a.add (sLen*i.size)) news).run P w=.ok () w') :
  (Builtin.append_ #[t,tx] ty #[.slice (some a) sLen sCap,x]).run P w=.ok (.slice (some a) (sLen+n) sCap) w':=by
 rcases hs.kind with ⟨e',hk⟩ | hk<;>simp [Builtin.append_,run_underlying ht,run_underlying hk,sizeOf,typeInfo,hi,hs.len,hroom,hs.cells,hst]
theorem ywg:∀ {c:List Value} {n:Nat},n<=c.length->cut c 0 n=some (c.take n)
 | c,0,h=>by cases c<;>simp [cut]
 | [],n+1,h=>by simp at h
 | v::c,n+1,h=>by
  simp only [tzd] at h;simp only [cut,ywg (c:=c) (n:=n) (by omega),List.take_succ_cons]
theorem zjv {ρ:Ren} {vs us:List Value} (h:VRs ρ vs us) (z:Array Value) (k:Nat):∀ (j:Nat) (v:Value),vs[j]? =some v->∃ x,(us.toArray++Builtin.zeroCells z k)[j]? =some x/\VR ρ v x:=by
 intro j v hj;obtain ⟨x,hx,hv⟩:=h.get hj;have:j<us.length:=(tyl.1 hx).1;refine ⟨x,?_,hv⟩;rw [Array.getElem?_append,if_pos (by simpa using this)];simpa using hx
theorem yle {ρ:Ren} {i n c:Nat} {p:Nat×Nat} (hn:n<=c) (hp:ρ.blk i=some p) (hc:ρ.cap i=c):ytw ρ n (U+2*i) c:=
 ⟨hn,λh=>by omega,λj h=>by
  have:j=i:=by omega
  subst this
  exact ⟨p,hp,hc.symm⟩⟩
theorem zfp (R:Rep P ρ H W) {e sz len c n:Nat} {i:TypeInfo} (hi:P.info? e=some i) (hsz:i.size=sz) {base base':Option Addr} {c':Nat} {x':Value} {new:List Value} {v:Value} {H':Hp}
  (h:zjc P H e sz i.bytes base len c n new=some (v,H')) (hv:VR ρ (.slice base len c) (.slice base' len c')) {news:List Value} (hnew:VRs ρ new news) {t tx:TypeId} (ht:P.underlying t=some (.slice e))
  (hs:new.length=n*sz->new.all oneCell=true->∀ W',W'.heap=W.heap->Src P sz tx x' n news W') (ty:TypeId) :
  ∃ ρ' y W',(Builtin.append_ #[t,tx] ty #[.slice base' len c',x']).run P W=.ok y W'/\VR ρ' v y/\Rep P ρ' H' W'/\Fr ρ ρ' H H' W W':=by
 unfold zjc at h;split at h;rotate_left
 .simp at h
 rename_i hc;simp only [tzc,txw] at hc;obtain ⟨⟨⟨⟨hl,hby⟩,hb6⟩,h40⟩,hone⟩:=hc
 replace hl:=tzo hl
 replace hs:=hs hl hone
 have hsW:=hs W rfl
 have hle:len<=c':=by cases hv with
  | nilSlice=>exact tzp _
  | slice _ hc=>exact hc.1
  | slice0 _ _ _ _ _ _=>exact tz6 _
  | slice00 _ _=>exact tzp _
 split at h
 .simp at h;obtain ⟨rfl,rfl⟩:=h;have:new=[]:=tzy (by rw [hl];simp);subst this;cases hnew;subst hsz;exact ⟨ρ,_,W,run_append_nothing W t tx ty e i ht hi base' len c' hle x' hsW,hv,R,.refl ρ H W⟩
 rename_i m;simp only [Nat.succ_eq_add_one] at hl hby h40 hs hsW h;split at h;rotate_left
 .simp at h
 rename_i hz0;unfold yx0 at hz0;split at hz0;rotate_left
 .simp at hz0
 rename_i z hz;have hz0:=tzo hz0
 have hzi:i.zero=some z:=by
  unfold zxa at hz;rw [hi] at hz;simp only [tzn] at hz;cases hq:i.zero with
  | none=>rw [hq] at hz;simp at hz
  | some z'=>rw [hq] at hz;simp only [tzn] at hz;rw [(zy3 hz).1]
 have hzc:z.cells.size=sz:=by
  have:z.cells.toList=cellsOf z:=by cases z<;>rfl
  rw [<-ty5,this,hz0]
 have hnl:news.length=(m+1)*sz:=by rw [hnew.length,hl]
 have h63:((len+(m+1):Nat):Int)<=9223372036854775807:=by omega
 have hsizes:∀ (us:List Value) (k cap:Nat),us.length=k*sz->k<=cap->cap*sz<=(us.toArray++Builtin.zeroCells z.cells (cap-k)).size:=(by intro us k cap h1 h2;rw [Array.size_append,size_zeroCells,hzc,List.size_toArray,h1,<-txb];rw [show k+(cap-k)=cap from by omega];exact tzp _)
 -- a new array of a class of its own
 have own:∀ (old olds:List Value),VRs ρ old olds->old.length=len*sz->(Builtin.firstCells i.size len (.slice base' len c')).run P W.drew=.ok olds.toArray W.drew->c'<len+(m+1) ->
   v=zq7 H (len+(m+1))->H'=Hp.newIn H (old++new) e H.n [H.n] ->
   ∃ ρ' y W',(Builtin.append_ #[t,tx] ty #[.slice base' len c',x']).run P W=.ok y W'/\VR ρ' v y/\Rep P ρ' H' W'/\Fr ρ ρ' H H' W W':=by
  rintro old olds hold hol hrun hlt rfl rfl
  subst hsz
  have hfit:=growslice_fits (bytes:=i.bytes) hlt (by omega)
  have hr:=run_append_grow_src (P:=P) W t tx ty e i z ht hi hzi base' len c' olds hrun x' (m+1) news hsW hlt h63 hfit
  have hge:=grownCap_ge W (len+(m+1)) c' e
  obtain ⟨g1,g2⟩:=R.newCls (W1:=W.drew) (vs:=old++new) (C:=(olds++news).toArray++Builtin.zeroCells z.cells (grownCap W (len+(m+1)) c' e-(len+(m+1)))) (e:=e) (sz:=i.size) (cap:=grownCap W (len+(m+1)) c' e) rfl rfl rfl rfl
   (zjv (hold.append hnew) _ _) (by unfold zyl;rw [hi];rfl) (hsizes _ _ _ (by rw [tz5,hold.length,hnl,hol,<-txb]) hge)
  refine ⟨_,_,_,hr,?_,g1,g2⟩
  exact .slice ⟨rfl,_,Ren.add_same _ _ _ _,by simp⟩ (yle hge (Ren.add_same _ _ _ _) (Ren.add_cap _ _ _ _))
 split at h;rotate_left
 .split at h
  .rename_i h0;simp only [tzc] at h0;have hlen0:=tzo h0.1;have hc0:=tzo h0.2;subst hlen0 hc0;simp at h;obtain ⟨rfl,rfl⟩:=h;cases hv with
   | nilSlice=>
    refine own [] [] .nil (by simp) (by simp [Builtin.firstCells]) (by omega) (by simp) (by simp)
  .simp at h
 rename_i a;cases hv with
 | slice00 a b=>
  unfold zvh at h;split at h
  .rename_i j o;split at h
   .split at h
    .rename_i hroom;rw [txw] at hroom;omega
    obtain ⟨old,ho,e2⟩:=tzf.1 h;simp at e2;obtain ⟨rfl,rfl⟩:=e2;rw [Nat.zero_mul] at ho;have ho0:old=[]:=zpe (a:=⟨j,o,none⟩) ho;subst ho0;exact own [] [] .nil (by simp) (by simp [Builtin.firstCells,Go.loadCells,Go.loadCellsFrom]) (by omega) (by rw [txj]) (by simp)
   .rename_i hcU;have:Nat.blt 0 U=true:=by rw [txl];exact xxg
    rw [this] at hcU;cases hcU
  .simp at h
 | slice0 ha hp hb hs0 hU2 hca=>
  unfold zvh at h;split at h
  .rename_i j o;split at h
   .rename_i hcU;rw [txl] at hcU;have:=xxg;omega
   split at h
   .rename_i hoc;simp only [tzc] at hoc;have hcj:=tzo hoc.2;simp only at hp;have:=R.getLt hp;omega
   .simp at h
  .simp at h
 | slice ha hca=>
  rename_i b;unfold zvh at h;split at h;rotate_left
  .simp at h
  rename_i j o;split at h
  .rename_i hcU;rw [txl] at hcU;have ec:=hca.low hcU;subst ec;split at h
   .rename_i hroom;rw [txw] at hroom;obtain ⟨H2,hw,e2⟩:=tzf.1 h;simp at e2;obtain ⟨rfl,rfl⟩:=e2
    have ha2:ρ.addr ⟨j,o+len*sz,none⟩ (b.add (len*sz)):=by
     have:=ha.add (len*sz);unfold Addr.add at this ⊢;by_cases h0:len*sz=0
     .rw [if_pos h0] at this ⊢;rw [h0];rw [if_pos h0] at this;simpa using this
     .rw [if_neg h0] at this ⊢;rw [if_neg h0] at this;exact this
    obtain ⟨W',g1,g2,g3,_⟩:=R.write hw hnew ha2;subst hsz;exact ⟨ρ,_,W',zow t tx ty e i ht hi b len c' x' (m+1) news hsW hroom g1,.slice ha ⟨hroom,λ_=>rfl,λi h=>by omega⟩,g2,g3⟩
   .rename_i hroom
    have hlt:c'<len+(m+1):=by
     rcases tz9 c' (len+(m+1)) with g | g
     .exact g
     have g':Nat.ble (len+(m+1)) c'=true:=Nat.ble_eq_true_of_le g;rw [g'] at hroom;cases hroom
    obtain ⟨old,ho,e2⟩:=tzf.1 h;simp at e2;obtain ⟨rfl,rfl⟩:=e2;obtain ⟨olds,k1,k2,k3⟩:=R.loadCellsAt ho ha;refine own old olds k1 (by rw [<-k1.length,k2]) ?_ hlt rfl rfl;have:=k3 W.drew rfl;rw [<-hsz] at this;exact this
  rename_i hcU;split at h;rotate_left
  .simp at h
  rename_i hoc;simp only [tzc] at hoc;have ho0:=tzo hoc.1;have hcj:=tzo hoc.2;subst ho0 hcj;obtain ⟨B,hB,h⟩:=tzh.1 h;unfold zfi at h;split at h;rotate_left
  .simp at h
  rename_i cs e' k;split at h;rotate_left
  .simp at h
  rename_i hmem;simp only [tzc] at hmem;have hee:=tzo hmem.2;subst hee;have hmem:=zwr.1 hmem.1;split at h;rotate_left
  .simp at h
  rename_i old full hcut;simp only [tza,tzl] at h;obtain ⟨rfl,rfl⟩:=h;obtain ⟨c1,c2,c3,c4⟩:=zjl hcut;obtain ⟨p,hp⟩:∃ p,ρ.blk j=some p:=by obtain ⟨_,p,hp,_⟩:=ha;exact ⟨p,hp⟩
  obtain ⟨C,fz,b1,b2,b3,b4,b5⟩:=R.blk j _ p hB (by simpa [live] using hmem) hp;obtain ⟨sz',s1,s2⟩:=b5 (by simp);have hszT:zyl P e'=some sz:=by unfold zyl;rw [hi,<-hsz];rfl
  rw [hszT] at s1;simp at s1;subst s1;have hcap:c'=ρ.cap j:=(by obtain ⟨q,q1,q2⟩:=hca.2.2 j rfl;exact q2);have hbp:b=⟨p.1,0,none⟩:=(by obtain ⟨_,q,q1,q2⟩:=ha;rw [hp] at q1;simp at q1;subst q1;simp [q2,b2]);subst hbp;have hrow:H.row j=some cs:=(by unfold Hp.row;rw [hB];simp [Hp.rowOf,zwr.2 hmem]);have hread:H.read j 0 (len*sz)=some old:=(by unfold Hp.read;rw [hrow];simp only;rw [ywg c2,c3]);obtain ⟨olds,k1,k2,k3⟩:=R.loadCellsAt hread ha;by_cases hroom:len+(m+1)<=c';rotate_left
  .have hlt:c'<len+(m+1):=by omega
   have hfit:=growslice_fits (bytes:=i.bytes) hlt (by omega);have hr:=run_append_grow_src (P:=P) W t tx ty e' i z ht hi hzi (some ⟨p.1,0,none⟩) len c' olds (by rw [hsz];exact k3 W.drew rfl) x' (m+1) news (hsz.symm▸hsW) hlt h63 hfit;have hge:=grownCap_ge W (len+(m+1)) c' e'
   obtain ⟨g1,g2⟩:=R.grow (new:=new) (q:=(W.heap.size,0)) (cap:=grownCap W (len+(m+1)) c' e') (fz':=(0,0)) (C':=(olds++news).toArray++Builtin.zeroCells z.cells (grownCap W (len+(m+1)) c' e'-(len+(m+1))))
    (W':=W.drew.alloc (.cells ((olds++news).toArray++Builtin.zeroCells z.cells (grownCap W (len+(m+1)) c' e'-(len+(m+1)))) e')) hB hmem hcut hp b1 hszT rfl
    (show (W.heap.push _)[W.heap.size]? =_ from Array.getElem?_push_size) (λj _ h=>absurd h.2 (txs _)) (hsizes (olds++news) _ _ (by rw [tz5,hnl,k2,<-txb]) hge)
    (zjv (us:=olds++news) (k1.append hnew) _ _) (.inl rfl) (show W.heap.size<=(W.heap.push _).size by simp) (show W.heap.size<(W.heap.push _).size by simp) (λb hb hne=>show (W.heap.push _)[b]? =_ by rw [Array.getElem?_push,if_neg (by omega)]) rfl rfl rfl
   refine ⟨_,_,_,hr,?_,g1,g2⟩;exact .slice ⟨rfl,_,Ren.add_same _ _ _ _,by simp⟩ (yle hge (Ren.add_same _ _ _ _) (Ren.add_cap _ _ _ _))
  have hfit:len*sz+0+news.length<=C.size:=(by rw [hnl,Nat.add_zero,<-txb];exact tys (txn _ (hcap▸hroom)) s2);have hst:=zu5 P (o:=len*sz) news 0 C W b1 hsW.one (.inr hfit) b3;have hb:p.1<W.heap.size:=(txm.1 b1).1
  have hadd:(⟨p.1,0,none⟩:Addr).add (len*sz)=⟨p.1,len*sz,none⟩:=by
   unfold Addr.add;split
   .rename_i e0;rw [e0]
   .simp
  have hr:=zow t tx ty e' i ht hi ⟨p.1,0,none⟩ len c' x' (m+1) news (hsz.symm▸hsW) hroom (by rw [hsz,hadd];exact hst);have hset:=zlv news C (len*sz+0)
  obtain ⟨g1,g2⟩:=R.grow (new:=new) (q:=p) (cap:=c') (C':=zd5 C (len*sz+0) news) (fz':=fz) (W':=zif W p.1 (.cells (zd5 C (len*sz+0) news) e' fz)) hB hmem hcut hp b1 hszT b2 (ztk W hb _) (by rw [zuk];exact b3) (by rw [zuk,hcap];exact s2)
   (λq v hq=>by
    rw [hset q hfit]
    rcases tz9 q (len*sz) with g | g
    .rw [tzs (show q<old.length by omega)] at hq
     rw [if_neg (by omega)]
     have hq2:cs[q]? =some v:=by
      rw [c3,List.getElem?_take_of_lt g] at hq
      exact hq
     exact b4 q v hq2
    .rw [tzv (show old.length<=q by omega),c1] at hq
     obtain ⟨x,hx,hv⟩:=hnew.get hq
     have:=(tyl.1 hx).1
     rw [if_pos (by omega)]
     exact ⟨x,by simpa using hx,hv⟩)
   (.inr ⟨rfl,zuk _ _ _,rfl,λq hq=>by rw [hset q hfit,if_neg (by omega)]⟩) (by simp) (by simpa using hb) (λb _ h=>ztl W h _) rfl rfl rfl
  refine ⟨_,_,_,hr,?_,g1,g2⟩;exact .slice ⟨rfl,p,Ren.add_same _ _ _ _,by simp [b2]⟩ (yle hroom (Ren.add_same _ _ _ _) (Ren.add_cap _ _ _ _))
end Go.Sim
namespace Go.Sim
open Go Go.IntWalk
variable {P:Program} {ρ:Ren} {H:Hp} {W:World}
theorem zfq (R:Rep P ρ H W) {st tx:TypeId} {s x s' x' v:Value} {H':Hp} (h:zs5 P H st s x=some (v,H')) (htx:zvt P tx=true) (hs:VR ρ s s') (hx:VR ρ x x') (ty:TypeId) :
  ∃ ρ' y W',(Builtin.append_ #[st,tx] ty #[s',x']).run P W=.ok y W'/\VR ρ' v y/\Rep P ρ' H' W'/\Fr ρ ρ' H H' W W':=by
 unfold zs5 at h;split at h;rotate_left
 .simp at h
 rename_i e he;split at h;rotate_left
 .simp at h
 rename_i base len c;split at h;rotate_left
 .simp at h
 rename_i sz hsz;split at h;rotate_left
 .simp at h
 rename_i by_ hby;split at h;rotate_left
 .simp at h
 rename_i n new hnew;obtain ⟨i,hi,rfl⟩:=znr hby;have hisz:i.size=sz:=by unfold zyl at hsz;rw [hi] at hsz;simpa using hsz
 obtain ⟨base',c',hb⟩:∃ b' c',s'=.slice b' len c':=by
  cases hs with
  | nilSlice=>exact ⟨_,_,rfl⟩
  | slice _ _=>exact ⟨_,_,rfl⟩
  | slice0 _ _ _ _ _ _=>exact ⟨_,_,rfl⟩
  | slice00 _ _=>exact ⟨_,_,rfl⟩
 subst hb
 have hnews:∃ news,VRs ρ new news/\(new.length=n*sz->new.all oneCell=true->∀ W',W'.heap=W.heap->Src P sz tx x' n news W'):=by
  unfold zjc at h;split at h
  .rename_i hc;simp only [tzc] at hc;obtain ⟨news,g1,g2⟩:=yt4 R hnew hx htx (tzo hc.1.1.1.1) hc.2;exact ⟨news,g1,λ_ _=>g2⟩
  .simp at h
 obtain ⟨news,g1,g2⟩:=hnews;exact zfp R hi hisz h hs g1 (zws he) g2 ty
theorem yt5 (R:Rep P ρ H W) {t:TypeId} {d:TypeDesc} {x x' v:Value} (hd:P.underlying t=some d) (h:yms H x d=some v) (hx:VR ρ x x') {ats:Array TypeId} (ha:ats[0]? =some t) (ty:TypeId) :
  VR ρ v v/\(Builtin.len_ ats ty #[x']).run P W=.ok v W:=by
 unfold yms at h;split at h
 .split at h
  .simp at h;subst h;rw [hx.string_eq];refine ⟨.int _ _,?_⟩;unfold Builtin.len_;simp [ha,zzw hd];rfl
  .simp at h
 .simp at h;subst h;refine ⟨.int _ _,?_⟩;unfold Builtin.len_;simp [ha,zzw hd];rfl
 .split at h
  .simp at h;subst h;refine ⟨.int _ _,?_⟩;unfold Builtin.len_;cases hx<;>(simp [ha,zzw hd];rfl)
  .simp at h
 .obtain ⟨es,hes,rfl⟩:=tzf.1 h;refine ⟨.int _ _,?_⟩;unfold zma at hes;split at hes
  .simp at hes;subst hes;cases hx;unfold Builtin.len_;simp [ha,zzw hd];rfl
  .rename_i r;split at hes
   .rename_i es0 ck hg;simp at hes;subst hes;cases hx with
    | map hp=>
     obtain ⟨es',h1,h2⟩:=R.mapBlk hg hp;have hl:es'.size=es0.length:=by rw [<-ty5,h2.length]
     unfold Builtin.len_;simp [ha,zzw hd,zr5 h1,hl];rfl
   .simp at hes
  .simp at hes
 .simp at h
theorem yt6 {t:TypeId} {d:TypeDesc} {x x' v:Value} (hd:P.underlying t=some d) (h:xna x d=some v) (hx:VR ρ x x') {ats:Array TypeId} (ha:ats[0]? =some t) (ty:TypeId) (W:World) :
  VR ρ v v/\(Builtin.cap_ ats ty #[x']).run P W=.ok v W:=by
 unfold xna at h;split at h
 .split at h
  .split at h
   .rename_i hc;rw [txl] at hc;simp at h;subst h;refine ⟨.int _ _,?_⟩;unfold Builtin.cap_;cases hx with
    | nilSlice=>simp [ha,zzw hd];rfl
    | slice _ hcc=>rw [hcc.low hc];simp [ha,zzw hd];rfl
    | slice0 _ _ _ _ hU _=>have:=xxg;omega
    | slice00 _ _=>simp [ha,zzw hd];rfl
   .simp at h
  .simp at h
 .simp at h
theorem yzo (R:Rep P ρ H W) {t:TypeId} {d x d' x':Value} {r:ARes} (h:zir P H t d x=some r) (hd:VR ρ d d') (hx:VR ρ x x') {ats:Array TypeId} (ha:ats[0]? =some t) (ty:TypeId) :
  ∃ v H' W',r=.val v H'/\VR ρ v v/\(Builtin.copy_ ats ty #[d',x']).run P W=.ok v W'/\Rep P ρ H' W'/\Fr ρ ρ H H' W W':=by
 unfold zir at h;split at h;rotate_left
 .simp at h
 rename_i e he;split at h;rotate_left
 .simp at h
 rename_i s hs;split at h;rotate_left
 .simp at h
 rename_i base n c;split at h;rotate_left
 .simp at h
 rename_i m hm;obtain ⟨cs,hcs,h⟩:=tzh.1 h;obtain ⟨news,g1,g2⟩:=zmo R hcs hx (λk hk=>by rw [hm] at hk;simp at hk;subst hk;exact Nat.min_le_left _ _)
 obtain ⟨base',c',hb⟩:∃ b' c',d'=.slice b' n c':=by
  cases hd with
  | nilSlice=>exact ⟨_,_,rfl⟩
  | slice _ _=>exact ⟨_,_,rfl⟩
  | slice0 _ _ _ _ _ _=>exact ⟨_,_,rfl⟩
  | slice00 _ _=>exact ⟨_,_,rfl⟩
 subst hb
 have hlen:∀ w,(Builtin.lenOf x').run P w=.ok m w:=by
  intro w;unfold xxa at hm;split at hm
  .simp at hm;subst hm;cases hx<;>rfl
  .simp at hm;subst hm;rw [hx.string_eq];rfl
  .simp at hm
 unfold zjf at h;split at h
 .simp at h;subst h;cases g1;refine ⟨_,H,W,rfl,.int _ _,?_,R,.refl ρ H W⟩;unfold Builtin.copy_;simp [ha,zzw (zws he),hlen,zy4 hs,g2 W rfl];cases base'<;>simp [storeCells]<;>rfl
 split at h
 .rename_i hpos;rw [txl] at hpos;split at h
  .rename_i i o;obtain ⟨H',hH,rfl⟩:=zlw h;cases hd with
   | slice0 _ _ _ _ _ _=>simp at hpos
   | slice00 _ _=>simp at hpos
   | slice hA hc=>
    obtain ⟨W',k1,k2,k3,_⟩:=R.write hH g1 hA;refine ⟨_,H',W',rfl,.int _ _,?_,k2,k3⟩;unfold Builtin.copy_;simp [ha,zzw (zws he),hlen,zy4 hs,g2 W rfl,k1];rfl
  .simp at h
 .simp at h
theorem zfr {z:Value} (hz:(cellsOf z).length=1) (n:Nat):(Builtin.zeroCells z.cells n).toList=rep (cellsOf z) n:=by
 have hc:z.cells.toList=cellsOf z:=by cases z<;>rfl
 obtain ⟨u,hu⟩:∃ u,cellsOf z=[u]:=by
  cases h:cellsOf z with
  | nil=>rw [h] at hz;cases hz
  | cons a l=>cases l with
   | nil=>exact ⟨a,rfl⟩
   | cons b l=>rw [h] at hz;simp at hz
 have hz':z.cells=#[u]:=by rw [hu] at hc;rw [<-Array.toList_inj];exact hc
 have hr:rep [u] n=List.replicate n u:=by
  induction n with
  | zero=>rfl
  | succ n ih=>simp only [rep,ih,List.replicate_succ];rfl
 rw [hu,hr,hz'];unfold Builtin.zeroCells;apply List.ext_getElem
 .simp
 grind
theorem VRs.refl_rep {ρ:Ren} {z:Value} (h:zyj z=true):∀ n,VRs ρ (rep (cellsOf z) n) (rep (cellsOf z) n)
 | 0=>.nil
 | n+1=>by
  have hz:VRs ρ (cellsOf z) z.cells.toList:=(zz9 h).cells;have hc:z.cells.toList=cellsOf z:=by cases z<;>rfl
  rw [hc] at hz;simp only [rep];exact hz.append (VRs.refl_rep h n)
theorem zck (R:Rep P ρ H W) {t:TypeId} {x x':Value} {r:ARes} (h:zme P H t x=some r) (hx:VR ρ x x') {ats:Array TypeId} (ha:ats[0]? =some t) (ty:TypeId) :
  ∃ v H' W',r=.val v H'/\VR ρ v v/\(Builtin.clear_ ats ty #[x']).run P W=.ok v W'/\Rep P ρ H' W'/\Fr ρ ρ H H' W W':=by
 unfold zme at h;split at h;rotate_left
 .cases h
 rename_i e he;split at h;rotate_left 2
 .cases h
 .simp only [tza] at h;subst h;cases hx with
  | nilSlice=>
   refine ⟨_,H,W,rfl,.tuple .nil,?_,R,.refl ρ H W⟩;unfold Builtin.clear_;simp [ha,zzw (zws he)]
 rename_i i o n c;split at h
 .simp only [tza] at h;subst h
  obtain ⟨b',c',hb⟩:∃ b' c',x'=.slice (some b') 0 c':=by
   cases hx with
   | slice _ _=>exact ⟨_,_,rfl⟩
   | slice0 _ _ _ _ _ _=>exact ⟨_,_,rfl⟩
   | slice00 _ _=>exact ⟨_,_,rfl⟩
  subst hb;refine ⟨_,H,W,rfl,.tuple .nil,?_,R,.refl ρ H W⟩;unfold Builtin.clear_;simp [ha,zzw (zws he)]
 rename_i m;split at h
 .rename_i z hz;split at h
  .rename_i hl;have hl:=tzo hl;obtain ⟨H',hH,rfl⟩:=zlw h;obtain ⟨hzs,hzr⟩:=zr3 hz;cases hx with
   | slice hA hc=>
    obtain ⟨W',k1,k2,k3,_⟩:=R.write hH (VRs.refl_rep hzs (m+1)) hA;refine ⟨_,H',W',rfl,.tuple .nil,?_,k2,k3⟩;unfold Builtin.clear_;rw [<-zfr hl (m+1)] at k1;simp [ha,zzw (zws he),hzr,k1]
  .cases h
 .cases h
theorem zra {f:Value->Value->Sem Value}:∀ {l m:List Value} {x x' v:Value},zs8 P f x l=some v->VR ρ x x'->VRs ρ l m->∀ W,VR ρ v v/\(m.foldlM f x').run P W=.ok v W
 | [],m,x,x',v,h,hx,hl,W=>by
  cases hl;simp only [zs8] at h;obtain ⟨rfl,hs⟩:=zy3 h;refine ⟨zz9 hs,?_⟩;rw [zx9 hs hx];rfl
 | y::l,m,x,x',v,h,hx,hl,W=>by
  cases hl with
  | cons hy hl=>
   simp only [zs8] at h;split at h
   .rename_i hs;simp only [tzc] at hs;split at h
    .rename_i z hz
     have hzs:VR ρ z z:=by
      cases l with
      | nil=>simp only [zs8] at h;exact zz9 (zy3 h).2
      | cons a l=>
       simp only [zs8] at h;split at h
       .rename_i h2;simp only [tzc] at h2;exact zz9 h2.1
       .simp at h
     obtain ⟨g1,g2⟩:=zra h hzs hl W;refine ⟨g1,?_⟩;rw [List.foldlM_cons,tzz,zx9 hs.1 hx,zx9 hs.2 hy,zxs hz W];exact g2
    .simp at h
   .simp at h
theorem zfs (R:Rep P ρ H W) {b:Builtin} {ats:Array TypeId} {args xs:List Value} {r:ARes} (h:zyd P ats.toList args H b=some r) (hx:VRs ρ args xs) (ty:TypeId) (consts:Array Bool) :
  zxy P ρ H W ((Go.builtin b ats ty consts ⟨xs⟩).run P W) r:=by
 have hat:∀ {t l},ats.toList=t::l->ats[0]? =some t:=λ{t l} e=>by rw [<-txy,e];rfl
 cases b with
 | append=>
  simp only [zyd] at h;split at h
  .rename_i st tx hats;have e:ats=#[st,tx]:=by apply Array.ext';exact hats
   subst e;split at h
   .rename_i hsrc;unfold on2 at h;split at h
    .cases hx with
     | cons h1 hx=>cases hx with
      | cons h2 hx=>cases hx with
       | nil=>
        obtain ⟨v,H',hv,rfl⟩:=ztm h
        obtain ⟨ρ',y,W',g1,g2,g3,g4⟩:=zfq R hv hsrc h1 h2 ty
        exact ⟨ρ',y,W',.inl (zzz g1),g2,g3,g4⟩
    .simp at h
   .simp at h
  .simp at h
 | len=>
  simp only [zyd] at h;split at h
  .rename_i t l hats;unfold on1 at h;split at h
   .cases hx with
    | cons h1 hx=>cases hx with
     | nil=>
      obtain ⟨v,hv,rfl⟩:=zye h;obtain ⟨d,hd,hv⟩:=tzh.1 hv;obtain ⟨g1,g2⟩:=yt5 R hd hv h1 (hat hats) ty;exact .pure R g1 (zzz g2)
   .simp at h
  .simp at h
 | cap=>
  simp only [zyd] at h;split at h
  .rename_i t l hats;unfold on1 at h;split at h
   .cases hx with
    | cons h1 hx=>cases hx with
     | nil=>
      obtain ⟨v,hv,rfl⟩:=zye h;obtain ⟨d,hd,hv⟩:=tzh.1 hv;obtain ⟨g1,g2⟩:=yt6 hd hv h1 (hat hats) ty W;exact .pure R g1 (zzz g2)
   .simp at h
  .simp at h
 | copy=>
  simp only [zyd] at h;split at h
  .rename_i t l hats;unfold on2 at h;split at h
   .cases hx with
    | cons h1 hx=>cases hx with
     | cons h2 hx=>cases hx with
      | nil=>
       obtain ⟨v,H',W',rfl,g1,g2,g3,g4⟩:=yzo R h h1 h2 (hat hats) ty
       exact ⟨ρ,v,W',.inl (zzz g2),g1,g3,g4⟩
   .simp at h
  .simp at h
 | clear=>
  simp only [zyd] at h;split at h
  .rename_i t hats;unfold on1 at h;split at h
   .cases hx with
    | cons h1 hx=>cases hx with
     | nil=>
      obtain ⟨v,H',W',rfl,g1,g2,g3,g4⟩:=zck R h h1 (hat hats) ty;exact ⟨ρ,v,W',.inl (zzz g2),g1,g3,g4⟩
   .simp at h
  .simp at h
 | max=>
  simp only [zyd] at h;unfold zon at h;split at h
  .cases hx with
   | cons h1 hx=>
    obtain ⟨v,hv,rfl⟩:=zye h;obtain ⟨g1,g2⟩:=zra hv h1 hx W;exact .pure R g1 (zzz g2)
  .simp at h
 | min=>
  simp only [zyd] at h;unfold zon at h;split at h
  .cases hx with
   | cons h1 hx=>
    obtain ⟨v,hv,rfl⟩:=zye h;obtain ⟨g1,g2⟩:=zra hv h1 hx W;exact .pure R g1 (zzz g2)
  .simp at h
 | recover=>
  simp [zyd] at h;subst h;rfl
 | _=>simp [zyd] at h
theorem yzp {f:FuncId} {args xs:List Value} {r:ARes} (h:ymt P f args=some r) (hx:VRs ρ args xs):zxy P ρ H W ((callFunc f ⟨xs⟩).run P W) r:=by
 unfold ymt at h;split at h
 .rename_i fn hf;split at h
  .rename_i c hc;split at h
   .simp at h
   rename_i hn;simp at h;subst h;refine ⟨xs,?_,hx⟩;have hn':¬(fn.name = "runtime.NumGoroutine"):=λe=>hn (by rw [e];rfl);unfold callFunc;simp [hf,hn',hc]
  .simp at h
 .simp at h
theorem zt3 {v w:Value} {args xs:List Value} {r:ARes} (h:zq8 P args v=some r) (hv:VR ρ v w) (hx:VRs ρ args xs) :
  zxy P ρ H W ((do let d <-Deferred.ofValue w ⟨xs⟩;invoke d.target d.args:Sem Next).run P W) r:=by
 unfold zq8 at h;split at h
 .rename_i fn first cap
  cases hv with
  | func hf ha hb=>
   split at h
   .rename_i f;cases hf;have:=yzp (H:=H) (W:=W) h (ha.append (hx.append hb) |> λk=>by simpa using k);simpa [Deferred.ofValue,invoke] using this
   .rename_i l;split at h
    .rename_i he;simp at h;subst h;cases hf with
     | yield _ p hp=>
      simp at he;obtain ⟨e1,e2⟩:=he;subst e1 e2;cases ha;cases hb;exact ⟨p,xs,hp,by simp [Deferred.ofValue,invoke],hx⟩
    .simp at h
   .simp at h
 .simp at h
section ops
variable {tm:Trie Value} {nt:Nat} {a:Act} {o:Oper} {r:ARes} (R:Rep P ρ H W) (ht:TR ρ tm nt a.tmps)
include R ht
theorem yzq (xs:Array Operand):xs.map a.eval=⟨xs.toList.map a.eval⟩:=by apply Array.ext';simp
theorem yt7 {c:Call} (h:ztz P tm H c=some r) (ho:o.op=.call c):zxy P ρ H W ((execOp a.eval o).run P W) r:=by
 unfold ztz at h;split at h
 .rename_i l hl
  replace hl:=zul R ht hl
  split at h
  .rename_i b hb;have:=zfs R h hl o.type (c.args.map λ| .const _=>true | _=>false);unfold execOp;rw [ho];unfold resolve;simp only [hb,tzz,txh,tzm,invoke];rw [yzq R ht];exact this
  .rename_i f hf;split at h
   .rename_i v hv;have:=zt3 (H:=H) (W:=W) h (zzk R ht hv) hl;unfold execOp;rw [ho];unfold resolve;simp only [hf];rw [yzq R ht];exact this
   .simp at h
  .simp at h
 .simp at h
theorem yzr {c:Call} (h:zop P tm c=some r) (ho:o.op=.defer c):zxy P ρ H W ((execOp a.eval o).run P W) r:=by
 unfold zop at h;split at h
 .rename_i f hf;split at h
  .rename_i fn x y hv;split at h
   .rename_i l hl;simp at h;subst h;have hE:=zzk R ht hv;generalize hz:a.eval f=z at hE;cases hE with
    | func hfn ha hb=>
     have e:∀ (q:List Value),(⟨q⟩:Array Value)++l.toArray=⟨q++l⟩:=by intro q;simp
     rw [e];refine ⟨_,?_,.fn hfn hb (ha.append (zul R ht hl))⟩;unfold execOp;rw [ho];simp only [resolve,hf,hz,Deferred.ofValue];rw [yzq R ht];simp
   .simp at h
  .simp at h
 .simp at h
theorem yt8 {op:BinOp} {t:TypeId} {x y:Operand} {st:TypeId} (h:ysr P tm H op t x y=some r) (ho:o.op=.binOp op t x y st):zxy P ρ H W ((execOp a.eval o).run P W) r:=by
 unfold ysr at h;split at h
 .rename_i vx hx;split at h
  .rename_i vy hy;obtain ⟨v,hv,rfl⟩:=zye h;obtain ⟨w,g1,g2⟩:=yt2 hv (zzk R ht hx) (zzk R ht hy) W;refine .pure R g1 ?_;unfold execOp;rw [ho];exact zzz g2
  .simp at h
 .simp at h
theorem ylf {op:UnOp} {t:TypeId} {x:Operand} (h:oUn P tm H op x=some r) (ho:o.op=.unOp op t x):zxy P ρ H W ((execOp a.eval o).run P W) r:=by
 unfold oUn at h;obtain ⟨v,hv,rfl⟩:=zye h;obtain ⟨u,hu,hv⟩:=tzh.1 hv;obtain ⟨g1,g2⟩:=ylb hv (zzk R ht hu) W;refine .pure R g1 ?_;unfold execOp;rw [ho];exact zzz g2
theorem yzs {s d:TypeId} {x:Operand} (h:zjg P tm H s d x=some r) (ho:o.op=.convert s d x):zxy P ρ H W ((execOp a.eval o).run P W) r:=by
 unfold zjg at h;obtain ⟨v,hv,rfl⟩:=zye h;obtain ⟨u,hu,hv⟩:=tzh.1 hv;obtain ⟨w,g1,g2⟩:=yzl R hv (zzk R ht hu);refine .pure R g1 ?_;unfold execOp;rw [ho];exact zzz g2
theorem zm8 {s:TypeId} {x:Operand} {f:Nat} (h:zxd P tm H s x f=some r) (ho:o.op=.fieldAddr s x f):zxy P ρ H W ((execOp a.eval o).run P W) r:=by
 unfold zxd at h;split at h
 .rename_i u hu;obtain ⟨v,hv,rfl⟩:=zye h;obtain ⟨w,g1,g2⟩:=zjp hv (zzk R ht hu) W;refine .pure R g1 ?_;unfold execOp;rw [ho];exact zzz g2
 .simp at h
theorem zcl {s:TypeId} {x:Operand} {f:Nat} (h:zsf P tm H s x f=some r) (ho:o.op=.field s x f):zxy P ρ H W ((execOp a.eval o).run P W) r:=by
 unfold zsf at h;split at h
 .rename_i u hu;obtain ⟨v,hv,rfl⟩:=zye h;obtain ⟨w,g1,g2⟩:=yzm hv (zzk R ht hu) W;refine .pure R g1 ?_;unfold execOp;rw [ho];exact zzz g2
 .simp at h
theorem zm9 {t:TypeId} {x i:Operand} (h:zxe P tm H t x i=some r) (ho:o.op=.indexAddr t x i):zxy P ρ H W ((execOp a.eval o).run P W) r:=by
 unfold zxe at h;split at h
 .rename_i u hu;split at h
  .rename_i n hn;obtain ⟨v,hv,rfl⟩:=zye h;obtain ⟨w,g1,g2⟩:=zjo hv (zzk R ht hu) (zzk R ht hn) W;refine .pure R g1 ?_;unfold execOp;rw [ho];exact zzz g2
  .simp at h
 .simp at h
theorem zcm {t:TypeId} {x i:Operand} (h:zsg P tm H t x i=some r) (ho:o.op=.index t x i):zxy P ρ H W ((execOp a.eval o).run P W) r:=by
 unfold zsg at h;split at h
 .rename_i u hu;split at h
  .rename_i n hn;obtain ⟨v,hv,rfl⟩:=zye h;obtain ⟨w,g1,g2⟩:=yzn hv (zzk R ht hu) (zzk R ht hn) W;refine .pure R g1 ?_;unfold execOp;rw [ho];exact zzz g2
  .simp at h
 .simp at h
theorem yzt {x:Operand} (h:zjh P tm x=some r) (ho:o.op=.panic x):zxy P ρ H W ((execOp a.eval o).run P W) r:=by
 unfold zjh at h;split at h
 .rename_i t v hv;simp at h;subst h;have hE:=zzk R ht hv;generalize hz:a.eval x=z at hE;cases hE with
  | iface hw=>
   refine ⟨_,?_,.iface hw⟩;unfold execOp;rw [ho];simp [hz,Instr.panic,goPanic]
 .simp at h
theorem zto (h:aop P tm H o.op=some r):zxy P ρ H W ((execOp a.eval o).run P W) r:=by
 unfold aop at h;cases ho:o.op<;>rw [ho] at h<;>(try (simp [zw4] at h;done))
 case move x=>exact zhs R ht (show znl P tm H x=some r from h) (.inl ho)
 case assign x=>exact zhs R ht (show znl P tm H x=some r from h) (.inr ho)
 case pick c x y=>exact yty R ht (show zm4 P tm H c x y=some r from h) ho
 case alloc e=>exact yzf R ht (show zhp P H e=some r from h) ho
 case box e x=>exact ym6 R ht (show yfr P tm H e x=some r from h) ho
 case build t ps=>exact zd8 R ht (show zsd P tm H t ps=some r from h) ho
 case buildSlice t len ps=>exact zm7 R ht (show zy0 P tm H t len ps=some r from h) ho
 case insert t m k v=>exact zmn R ht (show zwn P tm H t m k v=some r from h) (.inr ho)
 case load t x=>exact yzg R ht (show znm P tm H t x=some r from h) ho
 case store t x y=>exact zd7 R ht (show zqr P tm H t x y=some r from h) ho
 case nilCheck x=>exact zis R ht (show zw3 P tm H x=some r from h) ho
 case binOp op t x y s=>exact yt8 R ht (show ysr P tm H op t x y=some r from h) ho
 case unOp op t x=>exact ylf R ht (show oUn P tm H op x=some r from h) ho
 case convert s d x=>exact yzs R ht (show zjg P tm H s d x=some r from h) ho
 case makeInterface t x=>exact yzh R ht (show zqs P tm H t x=some r from h) ho
 case makeFunc fn x y=>exact ytz R ht (show zm5 P tm H fn x y=some r from h) ho
 case makeMap t x=>exact yt0 R ht (show xxc P tm H t x=some r from h) ho
 case makeSlice t l c=>exact zjr R ht (show zxc P tm H t l c=some r from h) ho
 case slice t x lo hi mx=>exact zch R ht (show zse P tm H t x lo hi mx=some r from h) ho
 case fieldAddr s x f=>exact zm8 R ht (show zxd P tm H s x f=some r from h) ho
 case field s x f=>exact zcl R ht (show zsf P tm H s x f=some r from h) ho
 case indexAddr t x i=>exact zm9 R ht (show zxe P tm H t x i=some r from h) ho
 case index t x i=>exact zcm R ht (show zsg P tm H t x i=some r from h) ho
 case lookup t m k ok=>exact zcj R ht (show zvi P tm H t m k ok=some r from h) ho
 case mapUpdate t m k v=>exact zmn R ht (show zwn P tm H t m k v=some r from h) (.inl ho)
 case typeAssert x xt at_ ok=>exact zci R ht (show zu4 P tm H x xt at_ ok=some r from h) ho
 case extract x i=>exact zfm R ht (show zv5 P tm H x i=some r from h) ho
 case call c=>exact yt7 R ht (show ztz P tm H c=some r from h) ho
 case defer c=>exact yzr R ht (show zop P tm c=some r from h) ho
 case panic x=>exact yzt R ht (show zjh P tm x=some r from h) ho
end ops
end Go.Sim
namespace Go.Sim
open Go Go.IntWalk
variable {P:Program} {ρ:Ren} {H:Hp} {W:World}
inductive IR (ρ:Ren):AItem->Item->Prop
 | code (c:Code):IR ρ (.code c) (.code c)
 | inBlock (id:Nat):IR ρ (.inBlock id) (.inBlock id)
 | inLoop (c:Code):IR ρ (.inLoop c) (.inLoop c)
 | ops {ops:Array Oper} {all rest:List Oper} {i:Nat} (ha:ops.toList=all) (hr:rest=all.drop i):IR ρ (.ops all i rest) (.inRegion ops (List.range' i rest.length))
 | inRange {l:Nat} {p:Nat×Nat} (h:ρ.blk l=some p):IR ρ (.inRange l) (.inRangeFunc p.1)
 | endRange {l:Nat} {p:Nat×Nat} (h:ρ.blk l=some p):IR ρ (.endRange l) (.endRangeFunc p.1)
 | beginRound:IR ρ .beginRound .beginRound
theorem IR.mono {ρ ρ':Ren} (h:ρ.Ext ρ') {a:AItem} {b:Item} (k:IR ρ a b):IR ρ' a b:=by
 cases k with
 | inRange hl=>exact .inRange (h _ _ hl).1
 | endRange hl=>exact .endRange (h _ _ hl).1
 | ops ha hr=>exact .ops ha hr
 | _=>constructor
def PR (ρ:Ren) (e e':PanicEntry):Prop:=VR ρ e.v e'.v/\e'.recovered=e.recovered/\e'.goexit=e.goexit
theorem PR.mono {ρ ρ':Ren} (h:ρ.Ext ρ') {a b:PanicEntry} (k:PR ρ a b):PR ρ' a b:=⟨k.1.mono h,k.2⟩
inductive MR (ρ:Ren):FrameMode->FrameMode->Prop
 | run:MR ρ .run .run
 | returning:MR ρ .returning .returning
 | panicking {c c':List PanicEntry} (h:L2 (PR ρ) c c'):MR ρ (.panicking c) (.panicking c')
theorem MR.mono {ρ ρ':Ren} (h:ρ.Ext ρ') {a b:FrameMode} (k:MR ρ a b):MR ρ' a b:=by
 cases k with
 | run=>exact .run
 | returning=>exact .returning
 | panicking hc=>exact .panicking (hc.mono λ_ _=>PR.mono h)
inductive RO (ρ:Ren):Option Nat->Option Nat->Prop
 | none:RO ρ none none
 | some {l:Nat} {p:Nat×Nat} (h:ρ.blk l=some p):RO ρ (some l) (some p.1)
theorem RO.mono {ρ ρ':Ren} (h:ρ.Ext ρ') {a b:Option Nat} (k:RO ρ a b):RO ρ' a b:=by
 cases k with
 | none=>exact .none
 | some hl=>exact .some (h _ _ hl).1
structure FR (ρ:Ren) (f:AFrame) (fr:Frame):Prop where
 fn:fr.fn=f.k.fn
 tm:TR ρ f.tm f.k.nt fr.tmps
 todo:L2 (IR ρ) f.todo fr.todo
 defers:L2 (DR ρ) f.k.defers fr.defers
 mode:MR ρ f.k.mode fr.mode
 kind:fr.kind=f.k.kind
 round:RO ρ f.k.roundOf fr.roundOf
theorem FR.mono {ρ ρ':Ren} (h:ρ.Ext ρ') {a:AFrame} {b:Frame} (k:FR ρ a b):FR ρ' a b:=
 ⟨k.fn,k.tm.mono h,k.todo.mono λ_ _=>IR.mono h,k.defers.mono λ_ _=>DR.mono h,k.mode.mono h,k.kind,k.round.mono h⟩
structure CR (P:Program) (ρ:Ren) (c:Cfg) (fr:Frame) (cs:List Frame) (W:World):Prop where
 top:FR ρ ⟨c.tm,c.todo,c.k⟩ fr
 cs:L2 (FR ρ) c.cs cs
 rep:Rep P ρ c.H W
def zus (P:Program) (ρ:Ren) (H:Hp) (W:World) (fr:Frame) (cs:List Frame) (c':Cfg):Prop:=
 ∀ below,∃ ρ' fr' cs' W',Steps P (lone fr (cs++below) W) (lone fr' (cs'++below) W')/\CR P ρ' c' fr' cs' W'/\Fr ρ ρ' H c'.H W W'
theorem zus.one {fr fr':Frame} {cs cs':List Frame} {W':World} {ρ':Ren} {c':Cfg} (h:∀ below,step P (lone fr (cs++below) W)=.next (lone fr' (cs'++below) W')) (hc:CR P ρ' c' fr' cs' W') (hf:Fr ρ ρ' H c'.H W W'):zus P ρ H W fr cs c':=
 λbelow=>⟨ρ',fr',cs',W',.one (h below),hc,hf⟩
theorem zrb {α:Type} (v:Value) (k:Value->α):yx7 v k=k v:=by
 unfold yx7;split
 .rename_i i n;unfold ydy;cases n with
  | ofNat m=>cases m<;>rfl
  | negSucc m=>cases m<;>rfl
 .rename_i b;cases b<;>rfl
 .rfl
theorem TR.put {tm:Trie Value} {nt:Nat} {a:Act} (h:TR ρ tm nt a.tmps) (d:Option Tmp) {v x:Value} (hv:VR ρ v x):TR ρ (Sim.put tm nt d v) nt (a.put d x).tmps:=by
 cases d with
 | none=>exact h
 | some d=>
  show TR ρ (putD tm nt d v) nt (a.tmps.setIfInBounds d x);unfold putD;refine ⟨by simp [h.1],λt=>?_⟩;split
  .rename_i hd;rw [txl] at hd;rw [zrb,Trie.get_put];by_cases e:t=d
   .subst e;rw [if_pos rfl,tyc,ty9,if_pos rfl,if_pos (by rw [h.1];exact hd)];exact hv
   rw [if_neg e,tyc,ty9,if_neg (Ne.symm e),<-tyc];exact h.2 t
  rename_i hd
  have hd':nt<=d:=Nat.le_of_not_lt λg=>by
   have:Nat.blt d nt=true:=by rw [txl];exact g
   rw [this] at hd;cases hd
  have hsz:a.tmps.size<=d:=by rw [h.1];exact hd'
  rw [tyc,ty9];by_cases e:d=t
  .subst e;rw [if_pos rfl,if_neg (Nat.not_lt.2 hsz)];have:=h.2 d;rw [tyc,Array.getElem?_eq_none hsz] at this;exact this
  .rw [if_neg e,<-tyc];exact h.2 t
theorem ywh:∀ (l:List Value) (tm:Trie Value) (d t:Nat),(ykb tm d l).get t=if d<=t/\t<d+l.length then l[t-d]? else tm.get t
 | [],tm,d,t=>by rw [if_neg (by simp only [tze];omega)];rfl
 | v::l,tm,d,t=>by
  unfold ykb;rw [zrb,ywh l,Trie.get_put];simp only [tzd];by_cases g:d+1<=t/\t<d+1+l.length
  .grind
  grind
theorem TR.enter {args xs:List Value} (h:VRs ρ args xs) {n:Nat} (hn:args.length<=n):TR ρ (ykb .leaf 0 args) n ((⟨xs⟩:Array Value)++Array.replicate (n-xs.length) undef):=by
 have hl:=h.length;refine ⟨by simp;omega,λt=>?_⟩;rw [ywh,tyc,Array.getElem?_append];by_cases g:t<args.length
 .rw [if_pos (by omega),if_pos (by simp;omega)];obtain ⟨x,hx,hv⟩:=h.get (i:=t) (tzb g);simp only [Nat.sub_zero,tzb g,tye];have:(⟨xs⟩:Array Value)[t]? =some x:=by simpa using hx
  rw [this];exact hv
 .rw [if_neg (by omega),if_neg (by simp;omega)];simp only [Trie.get_leaf,Option.getD_none];rw [Array.getElem?_replicate];split<;>exact .undef
theorem L2.cons_inv {α β:Type} {R:α->β->Prop} {a:α} {l:List α} {m:List β} (h:L2 R (a::l) m):∃ b m',m=b::m'/\R a b/\L2 R l m':=by
 cases h with | cons h hs=>exact ⟨_,_,rfl,h,hs⟩
theorem zjw (i n:Nat):List.range' i (n+1)=i::List.range' (i+1) n:=rfl
theorem zxp {f f':AFrame} {fr:Frame} {v x:Value} (h:zv1 v f=some f') (F:FR ρ f fr) (hv:VR ρ v x):FR ρ f' (fr.finish x):=by
 obtain ⟨tm,todo,K⟩:=f;obtain ⟨fn,tmps,todo',ds,md,kd,ro⟩:=fr;obtain ⟨F1,F2,F3,F4,F5,F6,F7⟩:=F;simp only at F1 F2 F3 F4 F5 F6 F7;cases todo with
 | nil=>simp [zv1] at h
 | cons y k=>
  obtain ⟨b,m',e,hb,hm⟩:=F3.cons_inv;subst e;cases y with
  | ops all i rest=>
   cases rest with
   | nil=>simp [zv1] at h
   | cons o rest=>
    simp only [zv1,tza] at h;subst h;cases hb with
    | ops ha hr=>
     rename_i ops
     have ho:ops[i]? =some o:=by
      rw [<-txy,ha];have:(all.drop i)[0]? =some o:=by rw [<-hr];rfl
      simpa using this
     have hrest:rest=all.drop (i+1):=by
      have:(all.drop i).drop 1=rest:=by rw [<-hr];rfl
      rw [<-this,List.drop_drop]
     have e:({ fn:=fn,tmps:=tmps,todo:=.inRegion ops (List.range' i (o::rest).length)::m',defers:=ds,mode:=md,kind:=kd,roundOf:=ro }:Frame).finish x =
       { fn:=fn,tmps:=((⟨tmps,ds⟩:Act).put o.dst x).tmps,todo:=.inRegion ops (List.range' (i+1) rest.length)::m',defers:=ds,mode:=md,kind:=kd,roundOf:=ro }:=by
      rw [tzd,zjw]
      unfold Frame.finish
      simp only [ho,tzn]
      cases o.dst<;>rfl
     rw [e];exact ⟨F1,TR.put (a:=⟨tmps,ds⟩) F2 o.dst hv,.cons (.ops ha hrest) hm,F4,F5,F6,F7⟩
  | inRange l=>
   simp only [zv1,tza] at h;subst h;cases hb with
   | inRange hl=>exact ⟨F1,F2,.cons (.endRange hl) hm,F4,F5,F6,F7⟩
  | _=>simp [zv1] at h
theorem zt4 {f:FuncId} {args xs:List Value} {kd:CallKind} {g:AFrame} (h:zor P f args kd=some g) (hx:VRs ρ args xs):FR ρ g (Frame.enter P f ⟨xs⟩ kd):=by
 unfold zor at h;obtain ⟨fn,hf,h⟩:=tzh.1 h;unfold ymx at h;split at h
 .rename_i c hc;split at h
  .rename_i hn;rw [txw] at hn;simp at h;subst h;refine ⟨rfl,?_,?_,.nil,.run,rfl,.none⟩
   .show TR ρ (ykb .leaf 0 args) fn.ntmps ((⟨xs⟩:Array Value)++Array.replicate (((P.funcs[f]?).map (·.ntmps)).getD 0-xs.length) undef);rw [hf];exact TR.enter hx hn
   .show L2 (IR ρ) [.code c] [.code (((P.funcs[f]?).bind (·.body)).getD _)];rw [hf];simp only [tzn,hc,tye];exact .cons (.code c) .nil
  .simp at h
 .simp at h
theorem Rep.loopBlk (R:Rep P ρ H W) {l:Nat} {r:ALoop} (h:zxn H l=some r) {p:Nat×Nat} (hp:ρ.blk l=some p):∃ l',W.heap[p.1]? =some (.loop l')/\LR ρ r l':=by
 unfold zxn at h;split at h
 .rename_i r' hg;simp at h;subst h;exact R.blk l _ p hg trivial hp
 .simp at h
theorem zvg {l:Nat} {r:ALoop} (h:zxn H l=some r):H.get l=some (.loop r):=by
 unfold zxn at h;split at h
 .simp at h;subst h;assumption
 .simp at h
theorem zvj {r:Nat} {l:Loop} (h:W.heap[r]? =some (.loop l)):(Instr.getLoop r).run P W=.ok l W:=by
 unfold Instr.getLoop getObj;simp only [tzz,Sem.run,h,tzm];rfl
theorem zt5 {r:Nat} {l:Loop} (o:Obj) (h:W.heap[r]? =some (.loop l)):(setObj r o).run P W=.ok () (zif W r o):=by
 unfold setObj;simp only [Sem.run,h];rfl
theorem Rep.putLoop (R:Rep P ρ H W) {l:Nat} {r r2:ALoop} (h:zxn H l=some r) {p:Nat×Nat} (hp:ρ.blk l=some p) {l2:Loop} (hl:LR ρ r2 l2) :
  Rep P ρ (H.put l (.loop r2)) (zif W p.1 (.loop l2))/\Fr ρ ρ H (H.put l (.loop r2)) W (zif W p.1 (.loop l2)):=by
 obtain ⟨l',h1,_⟩:=R.loopBlk h hp;have hb:p.1<W.heap.size:=(txm.1 h1).1
 exact R.turn (B':=.loop r2) (zvg h) trivial trivial hp (λj=>by simp) (by simp) (λk=>.inl (by simp)) (λj C h=>h) (λj C h=>by unfold same at h ⊢;cases C<;>(first | exact h | (split<;>simp_all))) trivial rfl trivial
  (λc e k h=>by simp at h) (λc e k h=>by simp at h) (wput_size W p.1 _) (λb hb=>ztl W hb _) rfl rfl rfl ⟨l2,ztk W hb _,hl⟩
theorem zmp:∀ {ps:List Tmp} {args xs:List Value} {tm:Trie Value} {nt:Nat} {tmps:Array Value},VRs ρ args xs->TR ρ tm nt tmps ->
  TR ρ (zqt tm nt ps args) nt ((ps.zip xs).foldl (λtmps (t,a)=>tmps.setIfInBounds t a) tmps)
 | [],args,xs,tm,nt,tmps,hx,h=>by simpa [zqt] using h
 | t::ps,[],xs,tm,nt,tmps,hx,h=>by cases hx;simpa [zqt] using h
 | t::ps,v::args,xs,tm,nt,tmps,hx,h=>by
  cases hx with
  | cons hv hs=>
   simp only [zqt,List.zip_cons_cons,List.foldl_cons]
   exact zmp hs (TR.put (a:=⟨tmps,[]⟩) h (some t) hv)
theorem yzu (R:Rep P ρ H W) {l:Nat} {args xs:List Value} {g:AFrame} (h:(zxn H l).bind (zjj l args)=some g) {p:Nat×Nat} (hp:ρ.blk l=some p) (hx:VRs ρ args xs) :
  ∃ f tmps asg body,(Instr.yield p.1 ⟨xs⟩).run P W=.ok (.round p.1 f tmps asg body) W/\FR ρ g (Frame.round p.1 f tmps asg body .normal):=by
 obtain ⟨r,hr,h⟩:=tzh.1 h;obtain ⟨l',h1,h2⟩:=R.loopBlk hr hp;unfold zjj at h;split at h;rename_i st pend fn tm nt ps asg body ds;split at h
 .rename_i hn;have hn:=tzo hn;simp at h;subst h;have hps:l'.params=ps:=h2.params;refine ⟨l'.fn,(l'.params.zip ⟨xs⟩).foldl (λtmps (x:Tmp×Value)=>tmps.setIfInBounds x.1 x.2) l'.tmps,l'.assign,l'.body,?_,?_⟩
  .unfold Instr.yield;simp only [tzz,zvj h1,tzm];rw [if_neg (by rw [hps];simp [hx.length,hn])];rfl
  refine ⟨h2.fn,?_,?_,.nil,.run,rfl,.some hp⟩
  .show TR ρ (zqt tm nt ps.toList args) nt ((l'.params.zip ⟨xs⟩).foldl (λtmps (x:Tmp×Value)=>tmps.setIfInBounds x.1 x.2) l'.tmps);rw [hps,<-Array.foldl_toList,Array.toList_zip];exact zmp hx h2.tm
  .show L2 (IR ρ) [.code asg,.beginRound,.code body] [.code l'.assign,.beginRound,.code l'.body];rw [h2.assign,h2.body];exact .cons (.code _) (.cons .beginRound (.cons (.code _) .nil))
 .simp at h
theorem znu {id:Nat}:∀ {k:List AItem} {k':List Item},L2 (IR ρ) k k'->(∀ r,zq9 id k=some r->∃ r',exitTo id k'=some r'/\L2 (IR ρ) r r')/\(zq9 id k=none->exitTo id k'=none)
 | [],k',h=>by cases h;exact ⟨λr hr=>by simp [zq9] at hr,λ_=>rfl⟩
 | x::k,k',h=>by
  cases h with
  | cons hx hs=>
   have ih:=znu (id:=id) hs;cases hx with
   | inBlock j=>
    simp only [zq9,exitTo];cases hb:Nat.beq j id with
    | true=>
     simp_all
    | false=>
     have:¬(j==id)=true:=λe=>by simp at e;subst e;simp at hb
     simp only [if_neg this];exact ih
   | _=>simpa only [zq9,exitTo] using ih
end Go.Sim
