/- Texts of this proof, part SimA. -/
import Derived.CallsIn
import Derived.Laws.Sem
import Derived.Below
import Derived.Laws.World
import Derived.IntWalk
import Derived.Laws.Strings
import Derived.Laws.BytesString
import Derived.Deep.Upon
import Derived.RangeFuncIn
noncomputable section
set_option linter.unusedVariables false
set_option linter.unusedSimpArgs false
set_option linter.unusedSectionVars false
namespace Go.Sim
open Go
/-! ### tries -/
inductive Trie (α:Type) where
 | leaf
 | node (l:Trie α) (v:Option α) (r:Trie α)
def Trie.get {α:Type} (t:Trie α):Nat→Option α:=
 Trie.rec (motive:=fun _=>Nat→Option α) (fun _=>none)
  (fun _ v _ gl gr k=>Nat.rec (motive:=fun _=>Option α) v (fun k _=>Bool.rec (motive:=fun _=>Option α) (gr (Nat.div k 2)) (gl (Nat.div k 2)) (Nat.beq (Nat.mod k 2) 0)) k) t
def Trie.mkL {α:Type} (l:Trie α) (v:Option α) (r:Trie α):Trie α:=Trie.casesOn l (.node .leaf v r) fun a x b=>.node (.node a x b) v r
def Trie.mkR {α:Type} (l:Trie α) (v:Option α) (r:Trie α):Trie α:=Trie.casesOn r (.node l v .leaf) fun a x b=>.node l v (.node a x b)
def Trie.set {α:Type} (x:α) (f:Nat):Trie α→Nat→Trie α:=
 Nat.rec (motive:=fun _=>Trie α→Nat→Trie α) (fun t _=>t)
  (fun _ ih t k=>Trie.casesOn t
   (Nat.casesOn k (.node .leaf (some x) .leaf) fun k=>Bool.rec (motive:=fun _=>Trie α) (Trie.mkR .leaf none (ih .leaf (Nat.div k 2))) (Trie.mkL (ih .leaf (Nat.div k 2)) none .leaf) (Nat.beq (Nat.mod k 2) 0))
   fun l v r=>Nat.casesOn k (.node l (some x) r) fun k=>Bool.rec (motive:=fun _=>Trie α) (Trie.mkR l v (ih r (Nat.div k 2))) (Trie.mkL (ih l (Nat.div k 2)) v r) (Nat.beq (Nat.mod k 2) 0)) f
def Trie.put {α:Type} (t:Trie α) (k:Nat) (x:α):Trie α:=Trie.set x (Nat.succ k) t k
/-! ### blocks and the heap -/
structure ALoop where
 state:LoopState
 pending:Option Code
 fn:FuncId
 tm:Trie Value
 nt:Nat
 params:Array Tmp
 assign:Code
 body:Code
 defers:Nat
inductive Blk where
 | cells (c:List Value) (elem:TypeId) (cls:Option Nat)
 | ro (c:List Value)
 | map (es:List MapEntry) (clock:Nat)
 | loop (l:ALoop)
 | defs (d:Option (List Deferred))
structure Hp where
 b:Trie Blk
 s:Trie (List Nat)
 n:Nat
def Hp.get (H:Hp) (i:Nat):Option Blk:=H.b.get i
def Hp.put (H:Hp) (i:Nat) (B:Blk):Hp:=Hp.casesOn H fun b s n=>⟨b.put i B,s,n⟩
def Hp.stk (H:Hp) (k:Nat):List Nat:=(H.s.get k).getD []
def Hp.new (H:Hp) (B:Blk):Hp:=Hp.casesOn H fun b s n=>⟨b.put n B,s,Nat.succ n⟩
def Hp.newIn (H:Hp) (c:List Value) (e:TypeId) (k:Nat) (st:List Nat):Hp:=Hp.casesOn H fun b s n=>⟨b.put n (.cells c e (some k)),s.put k st,Nat.succ n⟩
def Hp.put1 (H:Hp) (i:Nat) (B:Blk) (k:Nat):Hp:=Hp.casesOn H fun b s n=>⟨b.put i B,s.put k [i],n⟩
def Hp.skip (H:Hp):Hp:=Hp.casesOn H fun b s n=>⟨b,s,Nat.succ n⟩
def memN (i:Nat):List Nat→Bool
 | []=>false
 | j::l=>match Nat.beq i j with
  | true=>true
  | false=>memN i l
def Hp.rowOf (H:Hp) (i:Nat):Blk→Option (List Value)
 | .cells c _ none=>some c
 | .cells c _ (some k)=>match memN i (H.stk k) with
  | true=>some c
  | false=>none
 | .ro c=>some c
 | _=>none
def Hp.row (H:Hp) (i:Nat):Option (List Value):=(H.get i).bind (H.rowOf i)
/-! ### values -/
def simple1:Value→Bool
 | .bool _ | .int .. | .string _ | .pointer none | .map none | .nilFunc | .nilIface=>true
 | .slice none 0 0=>true
 | _=>false
def simple:Value→Bool
 | .agg cs=>cs.toList.all simple1
 | .tuple cs=>cs.toList.isEmpty
 | .iface _ v=>match v with
  | .int .. | .bool _ | .string _=>true
  | .agg cs=>cs.toList.all simple1
  | _=>false
 | v=>simple1 v
def oneCell:Value→Bool
 | .agg _ | .tuple _=>false
 | _=>true
def cellsOf:Value→List Value
 | .agg cs=>cs.toList
 | v=>[v]
def U:Nat:=18446744073709551616
/-! ### what the run of an operation on values without addresses gives -/
def pureRun {α:Type} (P:Program):Sem α→Option α
 | .pure a=>some a
 | .program k=>pureRun P (k P)
 | .mark _ k=>pureRun P k
 | _=>none
def ifSimple (v:Value):Option Value:=match simple v with
 | true=>some v
 | false=>none
def orUndef:Option Value→Option Value:=@Option.rec Value (fun _=>Option Value) (some undef) (fun v=>some v)
def gsize (_:Program):Nat:=0
def globalV (P:Program) (g:Nat):Option Value:=match Nat.blt g (gsize P) with
 | true=>some (.pointer (some ⟨g,0,none⟩))
 | false=>none
def evalT:Operand→Program→Trie Value→Option Value:=
 @Operand.rec (fun _=>Program→Trie Value→Option Value) (fun t _ tm=>orUndef (tm.get t)) (fun v _ _=>ifSimple v) (fun g P _=>globalV P g) (fun f _ _=>some (.func (.func f) #[] #[]))
def evalO (P:Program) (tm:Trie Value) (x:Operand):Option Value:=evalT x P tm
def evals (P:Program) (tm:Trie Value):List Operand→Option (List Value)
 | []=>some []
 | x::l=>match evalO P tm x with
  | some v=>match evals P tm l with
   | some vs=>some (v::vs)
   | none=>none
  | none=>none
inductive ARes where
 | val (v:Value) (H:Hp)
 | enter (f:FuncId) (args:List Value)
 | yield (l:Nat) (args:List Value)
 | defer (d:Deferred)
 | recover
 | panic (v:Value)
def valH (H:Hp):Option Value→Option ARes
 | some v=>some (.val v H)
 | none=>none
def hpV (v:Value):Option Hp→Option ARes
 | some H=>some (.val v H)
 | none=>none
def pairV:Option (Value×Hp)→Option ARes
 | some (v,H)=>some (.val v H)
 | none=>none
/-! ### types -/
def isAggD:TypeDesc→Bool
 | .struct _ | .array _ _=>true
 | _=>false
def isAggT (P:Program) (t:TypeId):Option Bool:=(P.underlying t).map isAggD
def sizeT (P:Program) (t:TypeId):Option Nat:=(P.info? t).map (·.size)
def bytesT (P:Program) (t:TypeId):Option Nat:=(P.info? t).map (·.bytes)
def zeroT (P:Program) (t:TypeId):Option Value:=((P.info? t).bind (·.zero)).bind ifSimple
def elemD:TypeDesc→Option TypeId
 | .slice e=>some e
 | _=>none
def elemT (P:Program) (t:TypeId):Option TypeId:=(P.underlying t).bind elemD
def isSrcD:TypeDesc→Bool
 | .slice _=>true
 | .string=>true
 | _=>false
def isSrcT (P:Program) (t:TypeId):Bool:=
 match P.underlying t with
 | some d=>isSrcD d
 | none=>false
/-! ### memory -/
def cut:List Value→Nat→Nat→Option (List Value)
 | _,0,0=>some []
 | [],0,n+1=>none
 | v::l,0,n+1=>match cut l 0 n with
  | some r=>some (v::r)
  | none=>none
 | [],o+1,n=>none
 | _::l,o+1,n=>cut l o n
def Hp.read (H:Hp) (i o n:Nat):Option (List Value):=
 match H.row i with
 | some c=>cut c o n
 | none=>none
def splice:List Value→Nat→List Value→Option (List Value)
 | c,0,[]=>some c
 | [],0,_::_=>none
 | _::l,0,v::vs=>match splice l 0 vs with
  | some r=>some (v::r)
  | none=>none
 | [],_+1,_=>none
 | x::l,o+1,vs=>match splice l o vs with
  | some r=>some (x::r)
  | none=>none
def Hp.writeIn (H:Hp) (i o:Nat) (vs:List Value):Blk→Option Hp
 | .cells c e none=>match splice c o vs with
  | some c'=>some (H.put i (.cells c' e none))
  | none=>none
 | .cells c e (some k)=>match memN i (H.stk k) with
  | true=>match splice c o vs with
   | some c'=>some (H.put1 i (.cells c' e (some k)) k)
   | none=>none
  | false=>none
 | _=>none
def Hp.write (H:Hp) (i o:Nat) (vs:List Value):Option Hp:=
 match vs.all oneCell with
 | true=>(H.get i).bind (H.writeIn i o vs)
 | false=>none
def one:List Value→Option Value
 | [v]=>some v
 | _=>none
def aggL:List Value→Value:=fun l=>.agg l.toArray
def loadA (P:Program) (H:Hp) (t:TypeId) (i o:Nat):Option Value:=
 match isAggT P t with
 | some true=>match sizeT P t with
  | some n=>(H.read i o n).map aggL
  | none=>none
 | some false=>(H.read i o 1).bind one
 | none=>none
def storeA (P:Program) (H:Hp) (t:TypeId) (i o:Nat) (v:Value):Option Hp:=
 match sizeT P t with
 | some n=>match Nat.beq (cellsOf v).length n with
  | true=>H.write i o (cellsOf v)
  | false=>none
 | none=>none
def partA (P:Program) (t:TypeId) (cs:List Value) (o:Nat):Option Value:=
 match isAggT P t with
 | some true=>match sizeT P t with
  | some n=>(cut cs o n).map aggL
  | none=>none
 | some false=>cs[o]?
 | none=>none
def places (P:Program):List Field→Option (List (Nat×Nat))
 | []=>some []
 | f::l=>match sizeT P f.type with
  | some n=>match places P l with
   | some r=>some ((f.offset,n)::r)
   | none=>none
  | none=>none
def fillA (place:Nat→Option (Nat×Nat)):List Value→List (Nat×Value)→Option (List Value)
 | cells,[]=>some cells
 | cells,(i,v)::rest=>match place i with
  | none=>none
  | some (o,n)=>match Nat.beq (cellsOf v).length n with
   | true=>match splice cells o (cellsOf v) with
    | some cells'=>fillA place cells' rest
    | none=>none
   | false=>none
def evalParts (P:Program) (tm:Trie Value):List (Nat×Operand)→Option (List (Nat×Value))
 | []=>some []
 | (i,x)::l=>match evalO P tm x with
  | some v=>match evalParts P tm l with
   | some vs=>some ((i,v)::vs)
   | none=>none
  | none=>none
def rep (z:List Value):Nat→List Value
 | 0=>[]
 | n+1=>z++rep z n
def buildD (P:Program) (z:Value) (ps:List (Nat×Value)):TypeDesc→Option Value
 | .struct fs=>match places P fs.toList with
  | some pl=>(fillA (fun i=>pl[i]?) (cellsOf z) ps).map aggL
  | none=>none
 | .array _ e=>match sizeT P e with
  | some n=>(fillA (fun i=>some (i*n,n)) (cellsOf z) ps).map aggL
  | none=>none
 | _=>none
def buildA (P:Program) (t:TypeId) (ps:List (Nat×Value)):Option Value:=
 match zeroT P t with
 | some z=>(P.underlying t).bind (buildD P z ps)
 | none=>none
def zerosA (P:Program) (e:TypeId) (n:Nat):Option (List Value):=
 match sizeT P e with
 | some s=>match Nat.beq (n*s) 0 with
  | true=>some []
  | false=>match zeroT P e with
   | some z=>match Nat.beq (cellsOf z).length s with
    | true=>some (rep (cellsOf z) n)
    | false=>none
   | none=>none
 | none=>none
/-! ### slices -/
def capLess (c l:Nat):Nat:=match Nat.blt c U with
 | true=>c-l
 | false=>U+1
def boundA (dflt:Nat):Option Value→Option Nat
 | none=>some dflt
 | some (.int _ (.ofNat n))=>some n
 | _=>none
def sliceL (s:Nat) (a:Addr) (len c l h:Nat) (H:Hp):Option (Value×Hp):=
 match Nat.blt c U with
 | true=>some (.slice (some (match Nat.beq c l with | true=>a | false=>a.add (l*s))) (h-l) (c-l),H)
 | false=>match Nat.blt l len with
  | true=>some (.slice (some (a.add (l*s))) (h-l) (capLess c l),H)
  | false=>match Nat.beq h l with
   | true=>some (.slice (some (a.add (l*s))) 0 (capLess c l),H)
   | false=>none
def slice2 (s:Nat) (a:Option Addr) (len c l h:Nat) (H:Hp):Option (Value×Hp):=
 match Nat.ble l h&&(Nat.ble h len||(Nat.blt c U&&Nat.ble h c)) with
 | true=>match a with
  | none=>match Nat.beq h 0 with
   | true=>some (.slice none 0 0,H)
   | false=>none
  | some a=>match l with
   | 0=>some (.slice (some a) h c,H)
   | l+1=>sliceL s a len c (l+1) h H
 | false=>none
def slice3 (s:Nat) (a:Option Addr) (len l h m:Nat) (H:Hp):Option (Value×Hp):=
 match Nat.ble l h&&Nat.ble h m&&Nat.ble m len&&Nat.blt m U with
 | true=>match a with
  | none=>match Nat.beq m 0 with
   | true=>some (.slice none 0 0,H)
   | false=>none
  | some a=>match Nat.blt 0 m with
   | true=>some (.slice (some (match Nat.beq m l with | true=>a | false=>a.add (l*s))) (h-l) (m-l),H)
   | false=>none
 | false=>none
def sliceA (P:Program) (e:TypeId) (a:Option Addr) (len c:Nat) (lo hi mx:Option Value) (H:Hp):Option (Value×Hp):=
 match sizeT P e with
 | some s=>match boundA 0 lo with
  | some l=>match boundA len hi with
   | some h=>match mx with
    | none=>slice2 s a len c l h H
    | some m=>match hi with
     | some _=>match boundA 0 (some m) with
      | some m=>slice3 s a len l h m H
      | none=>none
     | none=>none
   | none=>none
  | none=>none
 | none=>none
def lenA:Value→Option Nat
 | .slice _ n _=>some n
 | .string s=>some s.size
 | _=>none
def byteV (x:UInt8):Value:=.int .u8 (.ofNat x.toNat)
def Hp.readAt (H:Hp) (a:Addr) (n:Nat):Option (List Value):=
 match a with
 | ⟨b,o,none⟩=>H.read b o n
 | _=>none
def firstA (H:Hp) (s n:Nat):Value→Option (List Value)
 | .slice (some a) _ _=>H.readAt a (n*s)
 | .slice none _ _=>match n with
  | 0=>some []
  | _=>none
 | .string b=>match Nat.beq s 1 with
  | true=>some ((b.data.toList.take n).map byteV)
  | false=>none
 | _=>none
def newA (H:Hp) (sz:Nat) (x:Value):Option (Nat×List Value):=
 match lenA x with
 | some n=>(firstA H sz n x).map fun l=>(n,l)
 | none=>none
def cutE:List Value→Nat→Option (List Value×Bool)
 | [],0=>some ([],true)
 | _::_,0=>some ([],false)
 | [],_+1=>none
 | v::l,n+1=>match cutE l n with
  | some (r,b)=>some (v::r,b)
  | none=>none
def keepS (i:Nat) (full:Bool):List Nat→List Nat
 | []=>[]
 | j::l=>match Nat.beq j i with
  | true=>match full with
   | true=>j::l.take 99
   | false=>[j]
  | false=>keepS i full l
def grown (H:Hp) (need:Nat):Value:=.slice (some ⟨H.n,0,none⟩) need (U+2*H.n)
def appendL (H:Hp) (e i n need:Nat) (new:List Value):Blk→Option (Value×Hp)
 | .cells cs e' (some k)=>match memN i (H.stk k)&&Nat.beq e' e with
  | true=>match cutE cs n with
   | some (old,full)=>some (grown H need,Hp.newIn (H.put i (.cells old e (some k))) (old++new) e k (H.n::keepS i full (H.stk k)))
   | none=>none
  | false=>none
 | _=>none
def appendM (H:Hp) (e sz:Nat) (a:Addr) (len c need:Nat) (new:List Value):Option (Value×Hp):=
 match a with
 | ⟨i,o,none⟩=>match Nat.blt c U with
  | true=>match Nat.ble need c with
   | true=>(H.write i (o+len*sz) new).map fun H'=>(.slice (some ⟨i,o,none⟩) need c,H')
   | false=>(H.read i o (len*sz)).map fun old=>(grown H need,Hp.newIn H (old++new) e H.n [H.n])
  | false=>match Nat.beq o 0&&Nat.beq c (U+2*i) with
   | true=>(H.get i).bind (appendL H e i (len*sz) need new)
   | false=>none
 | _=>none
def zeroOK (P:Program) (e sz:Nat):Bool:=match zeroT P e with
 | some z=>Nat.beq (cellsOf z).length sz
 | none=>false
def appendN (P:Program) (H:Hp) (e sz by_:Nat) (base:Option Addr) (len c n:Nat) (new:List Value):Option (Value×Hp):=
 match Nat.beq new.length (n*sz)&&Nat.ble ((len+n)*by_) 1099511627776&&Nat.ble by_ 65536&&Nat.ble (len+n) 1099511627776&&new.all oneCell with
 | true=>match n with
  | 0=>some (.slice base len c,H)
  | m+1=>match zeroOK P e sz with
   | true=>match base with
    | some a=>appendM H e sz a len c (len+(m+1)) new
    | none=>match Nat.beq len 0&&Nat.beq c 0 with
     | true=>some (grown H (m+1),Hp.newIn H new e H.n [H.n])
     | false=>none
   | false=>none
 | false=>none
def appendA (P:Program) (H:Hp) (st:TypeId) (s x:Value):Option (Value×Hp):=
 match elemT P st with
 | some e=>match s with
  | .slice base len c=>match sizeT P e with
   | some sz=>match bytesT P e with
    | some by_=>match newA H sz x with
     | some (n,new)=>appendN P H e sz by_ base len c n new
     | none=>none
    | none=>none
   | none=>none
  | _=>none
 | none=>none
/-! ### maps -/
def eqI:Int→Int→Bool
 | .ofNat a,.ofNat b=>Nat.beq a b
 | .negSucc a,.negSucc b=>Nat.beq a b
 | _,_=>false
def ltI:Int→Int→Bool
 | .ofNat a,.ofNat b=>Nat.blt a b
 | .ofNat _,.negSucc _=>false
 | .negSucc _,.ofNat _=>true
 | .negSucc a,.negSucc b=>Nat.blt b a
def eqB:List UInt8→List UInt8→Bool
 | [],[]=>true
 | a::l,b::m=>match Nat.beq a.toNat b.toNat with
  | true=>eqB l m
  | false=>false
 | _,_=>false
def eqK:IntKind→IntKind→Bool
 | .i8,.i8 | .i16,.i16 | .i32,.i32 | .i64,.i64 | .u8,.u8 | .u16,.u16 | .u32,.u32 | .u64,.u64=>true
 | _,_=>false
def keyEq (P:Program) (kt:TypeId) (k x:Value):Option Bool:=pureRun P (Op.equal kt k x)
def findA (P:Program) (kt:TypeId) (k:Value):List MapEntry→Nat→Option (Option Nat)
 | [],_=>some none
 | e::es,i=>match simple e.key with
  | true=>match keyEq P kt k e.key with
   | some true=>some (some i)
   | some false=>findA P kt k es (i+1)
   | none=>none
  | false=>none
def findI (k:IntKind) (a:Int):List MapEntry→Nat→Option (Option Nat)
 | [],_=>some none
 | e::es,i=>match e.key with
  | .int j b=>match eqK k j with
   | true=>match eqI a b with
    | true=>some (some i)
    | false=>findI k a es (i+1)
   | false=>none
  | _=>none
def findS (a:ByteArray):List MapEntry→Nat→Option (Option Nat)
 | [],_=>some none
 | e::es,i=>match e.key with
  | .string b=>match eqB a.data.toList b.data.toList with
   | true=>some (some i)
   | false=>findS a es (i+1)
  | _=>none
def findK (P:Program) (kt:TypeId) (k:Value) (es:List MapEntry):TypeDesc→Option (Option Nat)
 | .int _=>match k with
  | .int j a=>findI j a es 0
  | _=>none
 | .bool=>none
 | .string=>match k with
  | .string a=>findS a es 0
  | _=>none
 | _=>match simple k with
  | true=>match pureRun P (Instr.checkKey false 10000 kt k) with
   | some ()=>match pureRun P (Instr.checkKey true 10000 kt k) with
    | some ()=>findA P kt k es 0
    | none=>none
   | none=>none
  | false=>none
def findT (P:Program) (kt:TypeId) (k:Value) (es:List MapEntry):Option (Option Nat):=(P.underlying kt).bind (findK P kt k es)
def mapGet (H:Hp):Value→Option (List MapEntry)
 | .map none=>some []
 | .map (some r)=>match H.get r with
  | some (.map es _)=>some es
  | _=>none
 | _=>none
def foundV (ok b:Bool) (v:Value):Value:=match ok with
 | true=>.tuple #[v,.bool b]
 | false=>v
def entryV (ok:Bool) (e:MapEntry):Value:=foundV ok true e.val
def lookupM (P:Program) (ok:Bool) (kt et:TypeId) (k:Value) (es:List MapEntry):Option Value:=
 match findT P kt k es with
 | some (some i)=>(es[i]?).map (entryV ok)
 | some none=>(zeroT P et).map (foundV ok false)
 | none=>none
def lookupA (P:Program) (t:TypeId) (m k:Value) (ok:Bool) (H:Hp):Option Value:=
 match P.underlying t with
 | some (.map kt et)=>(mapGet H m).bind (lookupM P ok kt et k)
 | _=>none
def updateM (P:Program) (H:Hp) (r kt:Nat) (k v:Value) (es:List MapEntry) (clock:Nat):Option Hp:=
 match findT P kt k es with
 | some (some i)=>match es[i]? with
  | some e=>match simple e.key&&Instr.sameBits 10000 e.key k with
   | true=>some (H.put r (.map (es.set i ⟨k,v,e.born⟩) clock))
   | false=>none
  | none=>none
 | some none=>some (H.put r (.map (es++[⟨k,v,clock⟩]) (clock+1)))
 | none=>none
def updateA (P:Program) (t:TypeId) (m k v:Value) (H:Hp):Option Hp:=
 match P.underlying t with
 | some (.map kt _)=>match m with
  | .map (some r)=>match H.get r with
   | some (.map es clock)=>updateM P H r kt k v es clock
   | _=>none
  | _=>none
 | _=>none
/-! ### operations -/
def bytesA:List Value→Option (List UInt8)
 | []=>some []
 | .int .u8 (.ofNat n)::l=>match bytesA l with
  | some r=>some (UInt8.ofNat n::r)
  | none=>none
 | _=>none
def strL (l:List UInt8):Value:=.string ⟨l.toArray⟩
def addrOf:Value→Option (Nat×Nat)
 | .pointer (some ⟨b,o,none⟩)=>some (b,o)
 | _=>none
def elemAt (a:Addr) (len s n:Nat):Option Value:=match Nat.blt n len with
 | true=>some (.pointer (some (a.add (n*s))))
 | false=>none
def indexD (P:Program) (x:Value) (n:Nat):TypeDesc→Option Value
 | .slice e=>match x with
  | .slice (some a) len _=>(sizeT P e).bind fun s=>elemAt a len s n
  | _=>none
 | .array len e=>match x with
  | .pointer (some a)=>(sizeT P e).bind fun s=>elemAt a len s n
  | _=>none
 | _=>none
def indexAddrA (P:Program) (t:TypeId) (x i:Value):Option Value:=
 match i with
 | .int _ (.ofNat n)=>(P.underlying t).bind (indexD P x n)
 | _=>none
def fieldAddrD (P:Program) (x:Value) (f:Nat):TypeDesc→Option Value
 | .struct fs=>match x with
  | .pointer (some a)=>match fs.toList[f]? with
   | some fd=>match sizeT P fd.type with
    | some (_+1)=>some (.pointer (some (a.add fd.offset)))
    | _=>none
   | none=>none
  | _=>none
 | _=>none
def fieldAddrA (P:Program) (s:TypeId) (x:Value) (f:Nat):Option Value:=(P.underlying s).bind (fieldAddrD P x f)
def fieldD (P:Program) (x:Value) (f:Nat):TypeDesc→Option Value
 | .struct fs=>match x with
  | .agg cs=>match fs.toList[f]? with
   | some fd=>partA P fd.type cs.toList fd.offset
   | none=>none
  | _=>none
 | _=>none
def fieldA (P:Program) (t:TypeId) (x:Value) (f:Nat):Option Value:=(P.underlying t).bind (fieldD P x f)
def indexVD (P:Program) (x:Value) (n:Nat):TypeDesc→Option Value
 | .string=>match x with
  | .string s=>(s.data.toList[n]?).map byteV
  | _=>none
 | .array len e=>match x with
  | .agg cs=>match sizeT P e with
   | some sz=>match Nat.blt n len with
    | true=>partA P e cs.toList (n*sz)
    | false=>none
   | none=>none
  | _=>none
 | _=>none
def indexA (P:Program) (t:TypeId) (x i:Value):Option Value:=
 match i with
 | .int _ (.ofNat n)=>(P.underlying t).bind (indexVD P x n)
 | _=>none
def nilEq:Value→Value→Option Bool
 | .slice none _ _,.slice (some _) _ _ | .slice (some _) _ _,.slice none _ _=>some false
 | .pointer none,.pointer (some _) | .pointer (some _),.pointer none=>some false
 | .map none,.map (some _) | .map (some _),.map none=>some false
 | .nilFunc,.func .. | .func ..,.nilFunc=>some false
 | _,_=>none
def nilD (x y:Value):TypeDesc→Option Bool
 | .slice _=>match x,y with | .slice ..,.slice ..=>nilEq x y | _,_=>none
 | .pointer _=>match x,y with | .pointer _,.pointer _=>nilEq x y | _,_=>none
 | .map ..=>match x,y with | .map _,.map _=>nilEq x y | _,_=>none
 | .func ..=>match x,y with | .nilFunc,.func ..=>some false | .func ..,.nilFunc=>some false | _,_=>none
 | _=>none
def eqOp (b:Bool):BinOp→Option Value
 | .eql=>some (.bool b)
 | .neq=>some (.bool !b)
 | _=>none
def wrapF (k:IntKind) (n:Int):Int:=
 match k with
 | .i64=>match n with
  | .ofNat m=>match Nat.ble m 9223372036854775807 with
   | true=>.ofNat m
   | false=>IntKind.i64.wrap n
  | .negSucc m=>match Nat.ble m 9223372036854775807 with
   | true=>.negSucc m
   | false=>IntKind.i64.wrap n
 | .u8=>match n with
  | .ofNat m=>.ofNat (m % 256)
  | .negSucc m=>IntKind.u8.wrap n
 | .u64=>match n with
  | .ofNat m=>.ofNat (m % 18446744073709551616)
  | .negSucc m=>IntKind.u64.wrap n
 | k=>k.wrap n
def slowBin (P:Program) (op:BinOp) (t:TypeId) (x y:Operand) (vx vy:Value):Option Value:=
 match simple vx&&simple vy with
 | true=>(pureRun P (do eqGuard op t x y vx vy;binOp op t vx vy)).bind ifSimple
 | false=>match (P.underlying t).bind (nilD vx vy) with
  | some b=>eqOp b op
  | none=>none
def intBin (k:IntKind) (a b:Int):BinOp→Option Value
 | .add=>some (.int k (wrapF k (a+b)))
 | .sub=>some (.int k (wrapF k (a-b)))
 | .mul=>some (.int k (wrapF k (a*b)))
 | .eql=>some (.bool (eqI a b))
 | .neq=>some (.bool !(eqI a b))
 | .lss=>some (.bool (ltI a b))
 | .leq=>some (.bool !(ltI b a))
 | .gtr=>some (.bool (ltI b a))
 | .geq=>some (.bool !(ltI a b))
 | .quo=>match b with
  | .ofNat (m+1)=>some (.int k (wrapF k (a.tdiv (.ofNat (m+1)))))
  | _=>none
 | .rem=>match b with
  | .ofNat (m+1)=>some (.int k (a.tmod (.ofNat (m+1))))
  | _=>none
 | _=>none
def strBin (a b:ByteArray):BinOp→Option Value
 | .add=>match Nat.blt (a.size+b.size) 9223372036854775807 with
  | true=>some (strL (a.data.toList++b.data.toList))
  | false=>none
 | .eql=>some (.bool (eqB a.data.toList b.data.toList))
 | .neq=>some (.bool !(eqB a.data.toList b.data.toList))
 | _=>none
def orSlow (r:Option Value) (s:Unit→Option Value):Option Value:=match r with
 | some v=>some v
 | none=>s ()
def binA (P:Program) (op:BinOp) (t:TypeId) (x y:Operand) (vx vy:Value):Option Value:=
 match vx with
 | .int k a=>match vy with
  | .int j b=>match eqK k j with
   | true=>orSlow (intBin k a b op) fun _=>slowBin P op t x y vx vy
   | false=>slowBin P op t x y vx vy
  | _=>slowBin P op t x y vx vy
 | .string a=>match vy with
  | .string b=>orSlow (strBin a b op) fun _=>slowBin P op t x y vx vy
  | _=>slowBin P op t x y vx vy
 | _=>slowBin P op t x y vx vy
def unA (P:Program) (op:UnOp) (v:Value):Option Value:=
 match op with
 | .not=>match v with
  | .bool b=>some (.bool !b)
  | _=>none
 | .neg=>match v with
  | .int k n=>some (.int k (wrapF k (0-n)))
  | _=>none
 | _=>match simple v with
  | true=>(pureRun P (Op.unary op v)).bind ifSimple
  | false=>none
def convD (P:Program) (H:Hp) (x:Value):TypeDesc→TypeDesc→Option Value
 | .slice e,.string=>match x with
  | .slice (some a) n _=>match P.underlying e with
   | some (.int .u8)=>match H.readAt a n with
    | some cs=>(bytesA cs).map strL
    | none=>none
   | _=>none
  | .slice none 0 0=>match P.underlying e with
   | some (.int .u8)=>some (strL [])
   | _=>none
  | _=>none
 | _,.int k=>match x with
  | .int _ n=>some (.int k (wrapF k n))
  | _=>none
 | _,_=>none
def convA (P:Program) (H:Hp) (s d:TypeId) (x:Value):Option Value:=
 match P.underlying s with
 | some ds=>match P.underlying d with
  | some dd=>orSlow (convD P H x ds dd) fun _=>match simple x with
   | true=>(pureRun P (convert s d x)).bind ifSimple
   | false=>none
  | none=>none
 | none=>none
def minmax (P:Program) (f:Value→Value→Sem Value):Value→List Value→Option Value
 | x,[]=>ifSimple x
 | x,y::l=>match simple x&&simple y with
  | true=>match pureRun P (f x y) with
   | some z=>minmax P f z l
   | none=>none
  | false=>none
def natV (n:Nat):Value:=.int .i64 (.ofNat n)
def lenD (H:Hp) (x:Value):TypeDesc→Option Value
 | .string=>match x with
  | .string s=>some (natV s.size)
  | _=>none
 | .array n _=>some (natV n)
 | .slice _=>match x with
  | .slice _ n _=>some (natV n)
  | _=>none
 | .map _ _=>(mapGet H x).map fun es=>natV es.length
 | _=>none
def capD (x:Value):TypeDesc→Option Value
 | .slice _=>match x with
  | .slice _ _ c=>match Nat.blt c U with
   | true=>some (natV c)
   | false=>none
  | _=>none
 | _=>none
def copyTo (H:Hp) (n:Nat) (base:Option Addr) (cs:List Value):Option ARes:=
 match cs with
 | []=>some (.val (natV n) H)
 | _=>match Nat.blt 0 n with
  | true=>match base with
   | some ⟨i,o,none⟩=>hpV (natV n) (H.write i o cs)
   | _=>none
  | false=>none
def copyA (P:Program) (H:Hp) (t:TypeId) (d x:Value):Option ARes:=
 match elemT P t with
 | some e=>match sizeT P e with
  | some s=>match d with
   | .slice base n _=>match lenA x with
    | some m=>(firstA H s (Nat.min m n) x).bind (copyTo H (Nat.min m n) base)
    | none=>none
   | _=>none
  | none=>none
 | none=>none
def clearA (P:Program) (H:Hp) (t:TypeId) (x:Value):Option ARes:=
 match elemT P t with
 | some e=>match x with
  | .slice none _ _=>some (.val (.tuple #[]) H)
  | .slice (some ⟨i,o,none⟩) n _=>match n with
   | 0=>some (.val (.tuple #[]) H)
   | m+1=>match zeroT P e with
    | some z=>match Nat.beq (cellsOf z).length 1 with
     | true=>hpV (.tuple #[]) (H.write i o (rep (cellsOf z) (m+1)))
     | false=>none
    | none=>none
  | _=>none
 | none=>none
def on1 (args:List Value) (f:Value→Option ARes):Option ARes:=match args with
 | [x]=>f x
 | _=>none
def on2 (args:List Value) (f:Value→Value→Option ARes):Option ARes:=match args with
 | [x,y]=>f x y
 | _=>none
def onCons (args:List Value) (f:Value→List Value→Option ARes):Option ARes:=match args with
 | x::l=>f x l
 | _=>none
def builtinA (P:Program) (ats:List TypeId) (args:List Value) (H:Hp):Builtin→Option ARes
 | .append=>match ats with
  | [st,tx]=>match isSrcT P tx with
   | true=>on2 args fun s x=>pairV (appendA P H st s x)
   | false=>none
  | _=>none
 | .len=>match ats with
  | t::_=>on1 args fun x=>valH H ((P.underlying t).bind (lenD H x))
  | []=>none
 | .cap=>match ats with
  | t::_=>on1 args fun x=>valH H ((P.underlying t).bind (capD x))
  | []=>none
 | .copy=>match ats with
  | t::_=>on2 args fun d x=>copyA P H t d x
  | []=>none
 | .clear=>match ats with
  | [t]=>on1 args fun x=>clearA P H t x
  | _=>none
 | .max=>onCons args fun x l=>valH H (minmax P Builtin.max2 x l)
 | .min=>onCons args fun x l=>valH H (minmax P Builtin.min2 x l)
 | .recover=>some .recover
 | _=>none
def callA (P:Program) (f:FuncId) (args:List Value):Option ARes:=
 match P.funcs[f]? with
 | some fn=>match fn.body with
  | some _=>if fn.name== "runtime.NumGoroutine" then none else some (.enter f args)
  | none=>none
 | none=>none
def invokeA (P:Program) (args:List Value):Value→Option ARes
 | .func fn first cap=>match fn with
  | .func f=>callA P f (first.toList++args++cap.toList)
  | .yield l=>match first.toList++cap.toList with
   | []=>some (.yield l args)
   | _=>none
  | _=>none
 | _=>none
def oMove (P:Program) (tm:Trie Value) (H:Hp) (x:Operand):Option ARes:=valH H (evalO P tm x)
def oPick (P:Program) (tm:Trie Value) (H:Hp) (c a b:Operand):Option ARes:=
 match evalO P tm c with
 | some (.bool true)=>valH H (evalO P tm a)
 | some (.bool false)=>valH H (evalO P tm b)
 | _=>none
def newV (H:Hp) (e:TypeId) (v:Value):ARes:=.val (.pointer (some ⟨H.n,0,none⟩)) (H.new (.cells (cellsOf v) e none))
def oAlloc (P:Program) (H:Hp) (e:TypeId):Option ARes:=(zeroT P e).map (newV H e)
def oBox (P:Program) (tm:Trie Value) (H:Hp) (e:TypeId) (x:Operand):Option ARes:=(evalO P tm x).map (newV H e)
def oBuild (P:Program) (tm:Trie Value) (H:Hp) (t:TypeId) (ps:Array (Nat×Operand)):Option ARes:=
 match evalParts P tm ps.toList with
 | some l=>valH H (buildA P t l)
 | none=>none
def rowV (H:Hp) (e n m:Nat) (cs:List Value):ARes:=.val (.slice (some ⟨H.n,0,none⟩) n m) (H.new (.cells cs e none))
def oBuildSlice (P:Program) (tm:Trie Value) (H:Hp) (t:TypeId) (len:Nat) (ps:Array (Nat×Operand)):Option ARes:=
 match elemT P t with
 | some e=>match evalParts P tm ps.toList with
  | some l=>match sizeT P e with
   | some s=>match Nat.ble (len*s) 16777216&&Nat.ble len 16777216 with
    | true=>match zerosA P e len with
     | some z=>(fillA (fun i=>some (i*s,s)) z l).map (rowV H e len len)
     | none=>none
    | false=>none
   | none=>none
  | none=>none
 | none=>none
def oLoad (P:Program) (tm:Trie Value) (H:Hp) (t:TypeId) (a:Operand):Option ARes:=
 match (evalO P tm a).bind addrOf with
 | some (i,off)=>valH H (loadA P H t i off)
 | none=>none
def oStore (P:Program) (tm:Trie Value) (H:Hp) (t:TypeId) (a x:Operand):Option ARes:=
 match (evalO P tm a).bind addrOf with
 | some (i,off)=>match evalO P tm x with
  | some v=>hpV undef (storeA P H t i off v)
  | none=>none
 | none=>none
def nilChk:Value→Option Value
 | .pointer (some a)=>some (.pointer (some a))
 | .func (.func f) a b=>some (.func (.func f) a b)
 | .func (.yield f) a b=>some (.func (.yield f) a b)
 | _=>none
def oNilCheck (P:Program) (tm:Trie Value) (H:Hp) (x:Operand):Option ARes:=valH H ((evalO P tm x).bind nilChk)
def oBin (P:Program) (tm:Trie Value) (H:Hp) (op:BinOp) (t:TypeId) (x y:Operand):Option ARes:=
 match evalO P tm x with
 | some vx=>match evalO P tm y with
  | some vy=>valH H (binA P op t x y vx vy)
  | none=>none
 | none=>none
def oUn (P:Program) (tm:Trie Value) (H:Hp) (op:UnOp) (x:Operand):Option ARes:=valH H ((evalO P tm x).bind (unA P op))
def oConv (P:Program) (tm:Trie Value) (H:Hp) (s d:TypeId) (x:Operand):Option ARes:=valH H ((evalO P tm x).bind (convA P H s d))
def isIface:TypeDesc→Bool
 | .interface _=>true
 | _=>false
def oIface (P:Program) (tm:Trie Value) (H:Hp) (t:TypeId) (x:Operand):Option ARes:=
 match (P.underlying t).map isIface with
 | some false=>(evalO P tm x).map fun v=>.val (.iface t v) H
 | _=>none
def oFunc (P:Program) (tm:Trie Value) (H:Hp) (fn:Fn) (a b:Array Operand):Option ARes:=
 match fn with
 | .func f=>match evals P tm a.toList with
  | some l=>match evals P tm b.toList with
   | some m=>some (.val (.func (.func f) l.toArray m.toArray) H)
   | none=>none
  | none=>none
 | _=>none
def newMap (H:Hp):ARes:=.val (.map (some H.n)) (H.new (.map [] 0))
def oMap (P:Program) (tm:Trie Value) (H:Hp) (t:TypeId) (r:Option Operand):Option ARes:=
 match r with
 | none=>some (newMap H)
 | some x=>match evalO P tm x with
  | some (.int _ _)=>match P.underlying t with
   | some (.map _ _)=>some (newMap H)
   | _=>none
  | _=>none
def i64N:Value→Option Nat
 | .int .i64 (.ofNat n)=>some n
 | _=>none
def oMakeSlice (P:Program) (tm:Trie Value) (H:Hp) (t:TypeId) (l c:Operand):Option ARes:=
 match elemT P t with
 | some e=>match (evalO P tm l).bind i64N with
  | some n=>match (evalO P tm c).bind i64N with
   | some m=>match bytesT P e with
    | some by_=>match Nat.ble n m&&Nat.ble (m*by_) 140737488355328&&Nat.blt m 9223372036854775808 with
     | true=>(zerosA P e m).map (rowV H e n m)
     | false=>none
    | none=>none
   | none=>none
  | none=>none
 | none=>none
def evOpt (P:Program) (tm:Trie Value):Option Operand→Option (Option Value)
 | none=>some none
 | some x=>(evalO P tm x).map some
def strSlice (s:ByteArray) (lo hi mx:Option Value):Option Value:=
 match mx with
 | none=>match boundA 0 lo with
  | some a=>match boundA s.size hi with
   | some b=>match Nat.ble a b&&Nat.ble b s.size with
    | true=>some (strL ((s.data.toList.drop a).take (b-a)))
    | false=>none
   | none=>none
  | none=>none
 | some _=>none
def sliceD (P:Program) (H:Hp) (x:Value) (lo hi mx:Option Value):TypeDesc→Option ARes
 | .string=>match x with
  | .string s=>valH H (strSlice s lo hi mx)
  | _=>none
 | .slice e=>match x with
  | .slice a len c=>pairV (sliceA P e a len c lo hi mx H)
  | _=>none
 | .array n e=>match x with
  | .pointer (some ⟨i,o,none⟩)=>match Nat.blt n U with
   | true=>pairV (sliceA P e (some ⟨i,o,none⟩) n n lo hi mx H)
   | false=>none
  | _=>none
 | _=>none
def oSlice (P:Program) (tm:Trie Value) (H:Hp) (t:TypeId) (x:Operand) (lo hi mx:Option Operand):Option ARes:=
 match evalO P tm x with
 | some v=>match evOpt P tm lo with
  | some l=>match evOpt P tm hi with
   | some h=>match evOpt P tm mx with
    | some m=>(P.underlying t).bind (sliceD P H v l h m)
    | none=>none
   | none=>none
  | none=>none
 | none=>none
def oFieldAddr (P:Program) (tm:Trie Value) (H:Hp) (s:TypeId) (x:Operand) (f:Nat):Option ARes:=
 match evalO P tm x with
 | some v=>valH H (fieldAddrA P s v f)
 | none=>none
def oField (P:Program) (tm:Trie Value) (H:Hp) (s:TypeId) (x:Operand) (f:Nat):Option ARes:=
 match evalO P tm x with
 | some v=>valH H (fieldA P s v f)
 | none=>none
def oIndexAddr (P:Program) (tm:Trie Value) (H:Hp) (t:TypeId) (x i:Operand):Option ARes:=
 match evalO P tm x with
 | some v=>match evalO P tm i with
  | some n=>valH H (indexAddrA P t v n)
  | none=>none
 | none=>none
def oIndex (P:Program) (tm:Trie Value) (H:Hp) (t:TypeId) (x i:Operand):Option ARes:=
 match evalO P tm x with
 | some v=>match evalO P tm i with
  | some n=>valH H (indexA P t v n)
  | none=>none
 | none=>none
def oLookup (P:Program) (tm:Trie Value) (H:Hp) (t:TypeId) (m k:Operand) (ok:Bool):Option ARes:=
 match evalO P tm m with
 | some vm=>match evalO P tm k with
  | some vk=>valH H (lookupA P t vm vk ok H)
  | none=>none
 | none=>none
def oUpdate (P:Program) (tm:Trie Value) (H:Hp) (t:TypeId) (m k v:Operand):Option ARes:=
 match evalO P tm m with
 | some vm=>match evalO P tm k with
  | some vk=>match evalO P tm v with
   | some vv=>hpV undef (updateA P t vm vk vv H)
   | none=>none
  | none=>none
 | none=>none
def assertV (r:Value):Option Value:=match r with
 | .tuple cs=>match cs.toList with
  | [a,.bool b]=>match simple a with
   | true=>some (.tuple #[a,.bool b])
   | false=>none
  | _=>none
 | r=>ifSimple r
def oAssert (P:Program) (tm:Trie Value) (H:Hp) (x:Operand) (xt at_:TypeId) (ok:Bool):Option ARes:=
 match evalO P tm x with
 | some v=>match simple v with
  | true=>valH H ((pureRun P (Instr.typeAssert v xt at_ ok)).bind assertV)
  | false=>none
 | none=>none
def compOf (i:Nat):Value→Option Value
 | .tuple vs=>vs.toList[i]?
 | _=>none
def oExtract (P:Program) (tm:Trie Value) (H:Hp) (x:Operand) (i:Nat):Option ARes:=valH H ((evalO P tm x).bind (compOf i))
def oCall (P:Program) (tm:Trie Value) (H:Hp) (c:Call):Option ARes:=
 match evals P tm c.args.toList with
 | some l=>match c.callee with
  | .builtin b=>builtinA P c.argTypes.toList l H b
  | .value f=>match evalO P tm f with
   | some v=>invokeA P l v
   | none=>none
  | _=>none
 | none=>none
def oDefer (P:Program) (tm:Trie Value) (c:Call):Option ARes:=
 match c.callee with
 | .value f=>match evalO P tm f with
  | some (.func fn a b)=>match evals P tm c.args.toList with
   | some l=>some (.defer { target:=.fn fn b,args:=a++l.toArray })
   | none=>none
  | _=>none
 | _=>none
def oPanic (P:Program) (tm:Trie Value) (x:Operand):Option ARes:=
 match evalO P tm x with
 | some (.iface t v)=>some (.panic (.iface t v))
 | _=>none
def aopT:Op→Program→Trie Value→Hp→Option ARes:=
 @Op.rec (fun _=>Program→Trie Value→Hp→Option ARes)
  (fun x P tm H => oMove P tm H x) -- move
  (fun x P tm H => oMove P tm H x) -- assign
  (fun c a b P tm H=>oPick P tm H c a b)
  (fun e P tm H=>oAlloc P H e)
  (fun e x P tm H=>oBox P tm H e x)
  (fun t ps P tm H=>oBuild P tm H t ps)
  (fun t len ps P tm H=>oBuildSlice P tm H t len ps)
  (fun t m k v P tm H => oUpdate P tm H t m k v) -- insert
  (fun t a P tm H=>oLoad P tm H t a)
  (fun t a x P tm H=>oStore P tm H t a x)
  (fun _ _ _ _ => none) -- ready
  (fun _ _ _ _ => none) -- waits
  (fun x P tm H=>oNilCheck P tm H x)
  (fun op t x y _ P tm H=>oBin P tm H op t x y)
  (fun op _ x P tm H=>oUn P tm H op x)
  (fun s d x P tm H=>oConv P tm H s d x)
  (fun _ _ _ _ _ => none) -- sliceToArrayPointer
  (fun t x P tm H=>oIface P tm H t x)
  (fun fn a b P tm H=>oFunc P tm H fn a b)
  (fun t r P tm H=>oMap P tm H t r)
  (fun _ _ _ _ _ => none) -- makeChan
  (fun t l c P tm H=>oMakeSlice P tm H t l c)
  (fun t x lo hi mx P tm H=>oSlice P tm H t x lo hi mx)
  (fun s x f P tm H=>oFieldAddr P tm H s x f)
  (fun s x f P tm H=>oField P tm H s x f)
  (fun t x i P tm H=>oIndexAddr P tm H t x i)
  (fun t x i P tm H=>oIndex P tm H t x i)
  (fun t m k ok P tm H=>oLookup P tm H t m k ok)
  (fun t m k v P tm H=>oUpdate P tm H t m k v)
  (fun _ _ _ _ _ _ => none) -- mapEntry
  (fun _ _ _ _ _ _ _ => none) -- entryStore
  (fun _ _ _ _ _ => none) -- range
  (fun _ _ _ _ _ => none) -- next
  (fun _ _ _ _ => none) -- entry
  (fun x xt at_ ok P tm H=>oAssert P tm H x xt at_ ok)
  (fun x i P tm H=>oExtract P tm H x i)
  (fun c P tm H=>oCall P tm H c)
  (fun _ _ _ _ => none) -- go
  (fun c P tm H=>oDefer P tm c)
  (fun x P tm H=>oPanic P tm x)
  (fun _ _ _ _ _ => none) -- send
  (fun _ _ _ _ _ _ => none) -- recv
  (fun _ _ _ _ _ => none) -- select
def aop (P:Program) (tm:Trie Value) (H:Hp) (op:Op):Option ARes:=aopT op P tm H
end Go.Sim
namespace Go.Sim
open Go
inductive AItem where
 | code (c:Code)
 | inBlock (id:Nat)
 | inLoop (body:Code)
 | ops (all:List Oper) (i:Nat) (rest:List Oper)
 | inRange (l:Nat)
 | endRange (l:Nat)
 | beginRound
structure AK where
 fn:FuncId
 nt:Nat
 defers:List Deferred
 mode:FrameMode
 kind:CallKind
 roundOf:Option Nat
structure AFrame where
 tm:Trie Value
 todo:List AItem
 k:AK
structure Cfg where
 tm:Trie Value
 todo:List AItem
 k:AK
 cs:List AFrame
 H:Hp
def forceI {α:Type} (i:IntKind) (k:Value→α) (n:Int):α:=
 match n with
 | .ofNat m=>Nat.rec (motive:=fun _=>α) (k (.int i (.ofNat 0))) (fun j _=>k (.int i (.ofNat (Nat.succ j)))) m
 | .negSucc m=>Nat.rec (motive:=fun _=>α) (k (.int i (.negSucc 0))) (fun j _=>k (.int i (.negSucc (Nat.succ j)))) m
def forceB {α:Type} (k:Value→α) (b:Bool):α:=Bool.rec (motive:=fun _=>α) (k (.bool false)) (k (.bool true)) b
def forceV {α:Type} (v:Value) (k:Value→α):α:=
 match v with
 | .int i n=>forceI i k n
 | .bool b=>forceB k b
 | v=>k v
def putD (tm:Trie Value) (nt d:Nat) (v:Value):Trie Value:=
 match Nat.blt d nt with
 | true=>forceV v fun v=>tm.put d v
 | false=>tm
def put (tm:Trie Value) (nt:Nat) (d:Option Tmp) (v:Value):Trie Value:=
 match d with
 | some d=>putD tm nt d v
 | none=>tm
def putL (tm:Trie Value):Nat→List Value→Trie Value
 | _,[]=>tm
 | d,v::l=>forceV v fun v=>putL (tm.put d v) (d+1) l
def eqBool:Bool→Bool→Bool
 | true,true=>true
 | false,false=>true
 | _,_=>false
def yieldedA (all:List Oper) (tm:Trie Value) (j:Nat) (want:Bool):Bool:=
 match all[j]? with
 | some oj=>match oj.dst with
  | some d=>match tm.get d with
   | some (.bool b)=>eqBool b want
   | _=>false
  | none=>false
 | none=>false
def wantedA (all:List Oper) (tm:Trie Value) (g:Option (Nat×Bool)):Bool:=
 match g with
 | none=>true
 | some (j,want)=>yieldedA all tm j want
def exitA (id:Nat):List AItem→Option (List AItem)
 | .inBlock j::k=>match Nat.beq j id with
  | true=>some k
  | false=>exitA id k
 | _::k=>exitA id k
 | []=>none
def enterF (f:FuncId) (args:List Value) (kind:CallKind) (fn:Func):Option AFrame:=
 match fn.body with
 | some c=>match Nat.ble args.length fn.ntmps with
  | true=>some ⟨putL .leaf 0 args,[.code c],⟨f,fn.ntmps,[],.run,kind,none⟩⟩
  | false=>none
 | none=>none
def enterA (P:Program) (f:FuncId) (args:List Value) (kind:CallKind):Option AFrame:=(P.funcs[f]?).bind (enterF f args kind)
def finishA (v:Value):AFrame→Option AFrame
 | ⟨tm,.ops all i (o::rest)::k,K⟩=>some ⟨put tm K.nt o.dst v,.ops all (i+1) rest::k,K⟩
 | ⟨tm,.inRange l::k,K⟩=>some ⟨tm,.endRange l::k,K⟩
 | _=>none
def raiseM (ch:List PanicEntry):FrameMode→FrameMode
 | .panicking chain=>.panicking (ch++chain)
 | _=>.panicking ch
def AK.withMode (m:FrameMode):AK→AK
 | ⟨fn,nt,ds,_,kd,ro⟩=>⟨fn,nt,ds,m,kd,ro⟩
def AK.withDefers (ds:List Deferred):AK→AK
 | ⟨fn,nt,_,m,kd,ro⟩=>⟨fn,nt,ds,m,kd,ro⟩
def settleA:FrameMode→FrameMode
 | .panicking ({ recovered:=true,.. }::older)=>
  match older.dropWhile (!·.goexit) with
  | []=>.returning
  | rest=>.panicking rest
 | m=>m
def resultsA (P:Program) (H:Hp) (tm:Trie Value):List ResultVar→Option (List Value)
 | []=>some []
 | .tmp t::l=>match resultsA P H tm l with
  | some r=>some ((tm.get t).getD undef::r)
  | none=>none
 | .cell a t::l=>match addrOf ((tm.get a).getD undef) with
  | some (i,o)=>match loadA P H t i o with
   | some v=>match resultsA P H tm l with
    | some r=>some (v::r)
    | none=>none
   | none=>none
  | none=>none
def tupleOf:List Value→Value
 | [v]=>v
 | vs=>.tuple vs.toArray
def resultA (P:Program) (H:Hp) (f:FuncId) (tm:Trie Value):Option Value:=
 match P.funcs[f]? with
 | some fn=>(resultsA P H tm fn.results.toList).map tupleOf
 | none=>none
def toCfg (cs:List AFrame) (H:Hp):Option AFrame→Option Cfg
 | some ⟨tm,todo,K⟩=>some ⟨tm,todo,K,cs,H⟩
 | none=>none
def doReturnA (kind:CallKind) (v:Value) (cs:List AFrame) (H:Hp):Option Cfg:=
 match cs with
 | c::rest=>match kind with
  | .normal=>toCfg rest H (finishA v c)
  | .deferred=>match c with
   | ⟨tm,todo,K⟩=>some ⟨tm,todo,K.withMode (settleA K.mode),rest,H⟩
  | _=>none
 | []=>none
def loopOf (H:Hp) (l:Nat):Option ALoop:=
 match H.get l with
 | some (.loop r)=>some r
 | _=>none
def endRoundA (H:Hp) (l:Nat) (jump:Option Code):Option (Value×Hp):=
 match loopOf H l with
 | some ⟨_,_,fn,tm,nt,ps,asg,body,ds⟩=>match jump with
  | none=>some (.bool true,H.put l (.loop ⟨.ready,none,fn,tm,nt,ps,asg,body,ds⟩))
  | some j=>some (.bool false,H.put l (.loop ⟨.done,some j,fn,tm,nt,ps,asg,body,ds⟩))
 | none=>none
def leaveR (c:Cfg) (l:Nat) (jump:Option Code):Option Cfg:=
 match endRoundA c.H l jump with
 | some (v,H')=>match c.k.kind with
  | .normal=>doReturnA .normal v c.cs H'
  | _=>none
 | none=>none
def leaveA (c:Cfg) (jump:Option Code):Option Cfg:=
 match c.k.roundOf with
 | none=>match jump with
  | none=>match c with
   | ⟨tm,todo,K,cs,H⟩=>some ⟨tm,todo,K.withMode .returning,cs,H⟩
  | some .ret=>match c with
   | ⟨tm,todo,K,cs,H⟩=>some ⟨tm,todo,K.withMode .returning,cs,H⟩
  | _=>none
 | some l=>leaveR c l jump
def recoverM (m:FrameMode):Value×FrameMode:=
 match m with
 | .panicking ({ v,recovered:=false,goexit:=false }::older)=>(v,.panicking ({ v,recovered:=true }::older))
 | m=>(.nilIface,m)
def recoverA (kind:CallKind) (cs:List AFrame):Option (Value×List AFrame):=
 match kind with
 | .deferred=>match cs with
  | ⟨tm,todo,K⟩::rest=>some ((recoverM K.mode).1,⟨tm,todo,K.withMode (recoverM K.mode).2⟩::rest)
  | []=>none
 | _=>none
def zipSet (tm:Trie Value) (nt:Nat):List Tmp→List Value→Trie Value
 | t::ts,v::vs=>zipSet (put tm nt (some t) v) nt ts vs
 | _,_=>tm
def roundA (l:Nat) (args:List Value):ALoop→Option AFrame
 | ⟨_,_,fn,tm,nt,ps,asg,body,_⟩=>match Nat.beq args.length ps.toList.length with
  | true=>some ⟨zipSet tm nt ps.toList args,[.code asg,.beginRound,.code body],⟨fn,nt,[],.run,.normal,some l⟩⟩
  | false=>none
def applyA (P:Program) (fr:AFrame) (cs:List AFrame) (H:Hp):ARes→Option Cfg
 | .val v H'=>toCfg cs H' (finishA v fr)
 | .enter f args=>toCfg (fr::cs) H (enterA P f args .normal)
 | .yield l args=>toCfg (fr::cs) H ((loopOf H l).bind (roundA l args))
 | .defer d=>match fr with
  | ⟨tm,todo,K⟩=>match K.roundOf with
   | none=>toCfg cs H (finishA undef ⟨tm,todo,K.withDefers (d::K.defers)⟩)
   | some _=>none
 | .recover=>match fr with
  | ⟨tm,todo,K⟩=>match K.roundOf with
   | none=>match recoverA K.kind cs with
    | some (v,cs')=>toCfg cs' H (finishA v ⟨tm,todo,K⟩)
    | none=>none
   | some _=>none
 | .panic v=>match fr with
  | ⟨tm,todo,K⟩=>some ⟨tm,todo,K.withMode (raiseM [{ v,recovered:=false }] K.mode),cs,H⟩
abbrev Sub:=FuncId→List Value→Hp→Option (Value×Hp)
abbrev Draw:=FuncId→Nat→List Oper→Trie Value→Nat→Hp→Option (Trie Value×Hp)
def enterLoopA (fn:FuncId) (tm:Trie Value) (nt:Nat) (ps:Array Tmp) (asg body:Code) (ro:Option Nat) (H:Hp):Option (List Deferred×Hp):=
 match ro with
 | some l=>match loopOf H l with
  | some r=>some ([],H.new (.loop ⟨.ready,none,fn,tm,nt,ps,asg,body,r.defers⟩))
  | none=>none
 | none=>some ([{ target:=.collected H.n,args:=#[] }],(H.new (.defs (some []))).new (.loop ⟨.ready,none,fn,tm,nt,ps,asg,body,H.n⟩))
def rangeA (P:Program) (tm:Trie Value) (k:List AItem) (K:AK) (cs:List AFrame) (f:Operand) (mark:List Deferred) (H:Hp):Option Cfg:=
 match evalO P tm f with
 | some v=>match invokeA P [.func (.yield (Nat.pred H.n)) #[] #[]] v with
  | some (.enter g args)=>toCfg (⟨tm,.inRange (Nat.pred H.n)::k,K.withDefers (mark++K.defers)⟩::cs) H (enterA P g args .normal)
  | _=>none
 | none=>none
def beginA (tm:Trie Value) (k:List AItem) (K:AK) (cs:List AFrame) (H:Hp) (l:Nat):ALoop→Option Cfg
 | ⟨st,p,f,tm',nt',ps,asg,body,d⟩=>match st with
  | .ready=>some ⟨tm,k,K,cs,H.put l (.loop ⟨.busy,p,f,tm',nt',ps,asg,body,d⟩)⟩
  | _=>none
def endA (tm:Trie Value) (k:List AItem) (K:AK) (cs:List AFrame) (H:Hp) (l:Nat):ALoop→Option Cfg
 | ⟨st,p,f,tm',nt',ps,asg,body,d⟩=>match st with
  | .busy=>none
  | _=>some ⟨tm,(match p with | some j=>.code j::k | none=>k),K,cs,H.put l (.loop ⟨.exhausted,p,f,tm',nt',ps,asg,body,d⟩)⟩
def Cfg.to (k:List AItem):Cfg→Option Cfg
 | ⟨tm,_,K,cs,H⟩=>some ⟨tm,k,K,cs,H⟩
def condC (k:List AItem) (a b:Code) (c:Cfg):Option Value→Option Cfg
 | some (.bool true)=>c.to (.code a::k)
 | some (.bool false)=>c.to (.code b::k)
 | _=>none
def exitC (c:Cfg) (id:Nat):Option (List AItem)→Option Cfg
 | some k=>c.to k
 | none=>leaveA c (some (.exit id))
def rangeC (P:Program) (f:Operand) (ps:Array Tmp) (asg body:Code) (k:List AItem):Cfg→Option Cfg
 | ⟨tm,_,K,cs,H⟩=>match enterLoopA K.fn tm K.nt ps asg body K.roundOf H with
  | some (mark,H2)=>rangeA P tm k K cs f mark H2
  | none=>none
def drawC (draw:Draw) (id:Nat) (ops:List Oper) (k:List AItem):Cfg→Option Cfg
 | ⟨tm,_,K,cs,H⟩=>match K.roundOf with
  | none=>match draw K.fn id ops tm K.nt H with
   | some (tm',H')=>some ⟨tm',k,K,cs,H'⟩
   | none=>none
  | some _=>none
def sumRun (P:Program) (tm:Trie Value) (o:Oper) (ih:Nat→Trie Value→Hp→Option Cfg) (all:List Oper) (i:Nat) (rest:List Oper) (k:List AItem) (K:AK) (cs:List AFrame) (H:Hp) (f:FuncId) (args:List Value):Option (Value×Hp)→Option Cfg
 | some (v,H')=>ih (Nat.succ i) (put tm K.nt o.dst v) H'
 | none=>applyA P ⟨tm,.ops all i (o::rest)::k,K⟩ cs H (.enter f args)
def opRun (P:Program) (sum:Sub) (tm:Trie Value) (o:Oper) (ih:Nat→Trie Value→Hp→Option Cfg) (all:List Oper) (i:Nat) (rest:List Oper) (k:List AItem) (K:AK) (cs:List AFrame) (H:Hp):Option ARes→Option Cfg
 | some (.val v H')=>ih (Nat.succ i) (put tm K.nt o.dst v) H'
 | some (.enter f args)=>sumRun P tm o ih all i rest k K cs H f args (sum f args H)
 | some r=>applyA P ⟨tm,.ops all i (o::rest)::k,K⟩ cs H r
 | none=>none
def opsRun (P:Program) (sum:Sub) (all:List Oper) (k:List AItem) (K:AK) (cs:List AFrame):List Oper→Nat→Trie Value→Hp→Option Cfg:=
 @List.rec Oper (fun _=>Nat→Trie Value→Hp→Option Cfg) (fun _ tm H=>some ⟨tm,k,K,cs,H⟩)
  (fun o rest ih i tm H=>match wantedA all tm o.guard with
   | true=>opRun P sum tm o ih all i rest k K cs H (aopT o.op P tm H)
   | false=>ih (Nat.succ i) (put tm K.nt o.dst undef) H)
def opsC (P:Program) (sum:Sub) (all:List Oper) (i:Nat) (rest:List Oper) (k:List AItem):Cfg→Option Cfg
 | ⟨tm,_,K,cs,H⟩=>opsRun P sum all k K cs rest i tm H
abbrev Env:=Draw×Sub
def codeT:Code→Env→Program→List AItem→Cfg→Option Cfg:=
 @Code.rec (fun _=>Env→Program→List AItem→Cfg→Option Cfg)
  (fun _ _ k c => c.to k) -- skip
  (fun id ops dr E P k c=>match dr with
   | false=>opsC P E.2 ops.toList 0 ops.toList k c
   | true=>drawC E.1 id ops.toList k c)
  (fun a b _ _ _ _ k c=>c.to (.code a::.code b::k))
  (fun x a b _ _ _ P k c=>condC k a b c (evalO P c.tm x))
  (fun id b _ _ _ k c=>c.to (.code b::.inBlock id::k))
  (fun b _ _ _ k c=>c.to (.code b::.inLoop b::k))
  (fun f ps asg body _ _ _ P k c=>rangeC P f ps asg body k c)
  (fun id _ _ k c=>exitC c id (exitA id k))
  (fun _ _ _ _ _ _ => none) -- scope
  (fun _ _ _ k c => c.to k) -- label
  (fun _ _ _ _ _ => none) -- goto
  (fun _ _ k c=>leaveA c (some .ret))
  (fun _ _ _ _ _ => none) -- refuse
def beginC (k:List AItem):Cfg→Option Cfg
 | ⟨tm,_,K,cs,H⟩=>match K.roundOf with
  | some l=>(loopOf H l).bind (beginA tm k K cs H l)
  | none=>none
def endC (l:Nat) (k:List AItem):Cfg→Option Cfg
 | ⟨tm,_,K,cs,H⟩=>(loopOf H l).bind (endA tm k K cs H l)
def itemT:AItem→Env→Program→List AItem→Cfg→Option Cfg:=
 @AItem.rec (fun _=>Env→Program→List AItem→Cfg→Option Cfg)
  (fun x draw P k c=>codeT x draw P k c)
  (fun _ _ _ k c=>c.to k)
  (fun b _ _ k c=>c.to (.code b::.inLoop b::k))
  (fun all i rest E P k c=>opsC P E.2 all i rest k c)
  (fun _ _ _ _ _=>none)
  (fun l _ _ k c=>endC l k c)
  (fun _ _ k c=>beginC k c)
def execT:List AItem→Env→Program→Cfg→Option Cfg:=
 @List.rec AItem (fun _=>Env→Program→Cfg→Option Cfg) (fun _ _ c=>leaveA c none) (fun x k _ draw P c=>itemT x draw P k c)
def deferA (P:Program) (tm:Trie Value) (todo:List AItem) (K:AK) (cs:List AFrame) (H:Hp) (ds:List Deferred):Deferred→Option Cfg
 | ⟨.collected b,_⟩=>match H.get b with
  | some (.defs (some l))=>some ⟨tm,todo,K.withDefers (l++ds),cs,H.put b (.defs none)⟩
  | _=>none
 | ⟨.fn f cap,args⟩=>match invokeA P args.toList (.func f #[] cap) with
  | some (.enter f args)=>toCfg (⟨tm,todo,K.withDefers ds⟩::cs) H (enterA P f args .deferred)
  | _=>none
 | _=>none
def endFrameA (P:Program) (tm:Trie Value) (K:AK) (cs:List AFrame) (H:Hp):Option Cfg:=
 match K.mode with
 | .run=>none
 | .panicking ch=>match cs with
  | ⟨tm,todo,K⟩::rest=>some ⟨tm,todo,K.withMode (raiseM ch K.mode),rest,H⟩
  | []=>none
 | .returning=>match resultA P H K.fn tm with
  | some v=>doReturnA K.kind v cs H
  | none=>none
def unwindA (P:Program):Cfg→Option Cfg
 | ⟨tm,todo,K,cs,H⟩=>match K.defers with
  | d::ds=>deferA P tm todo K cs H ds d
  | []=>endFrameA P tm K cs H
def stepM:FrameMode→Env→Program→Cfg→Option Cfg:=
 @FrameMode.rec (fun _=>Env→Program→Cfg→Option Cfg) (fun draw P c=>execT c.todo draw P c) (fun _ P c=>unwindA P c) (fun _ _ P c=>unwindA P c)
def stepA (draw:Env) (P:Program) (c:Cfg):Option Cfg:=stepM c.k.mode draw P c
def doneA (P:Program) (f:FuncId):Cfg→Option (Value×Hp)
 | ⟨tm,_,⟨fn,_,[],.returning,.normal,none⟩,[],H⟩=>match Nat.beq fn f with
  | true=>match resultA P H fn tm with
   | some v=>some (v,H)
   | none=>none
  | false=>none
 | _=>none
def forceH {α:Type} (H:Hp) (k:Hp→α):α:=
 Hp.casesOn H fun b s n=>Trie.casesOn b (k ⟨.leaf,s,n⟩) fun x y z=>Nat.casesOn n (k ⟨.node x y z,s,0⟩) fun m=>k ⟨.node x y z,s,Nat.succ m⟩
def forceC {α:Type} (k:Cfg→α):Cfg→α
 | ⟨tm,todo,K,cs,H⟩=>forceH H fun H=>k ⟨tm,todo,K,cs,H⟩
def runO (P:Program) (f:FuncId) (ih:Cfg→Option (Value×Hp)) (c:Cfg):Option Cfg→Option (Value×Hp)
 | some c'=>forceC ih c'
 | none=>doneA P f c
def runA (draw:Env) (P:Program) (f:FuncId):Nat→Cfg→Option (Value×Hp):=
 @Nat.rec (fun _=>Cfg→Option (Value×Hp)) (fun _=>none) (fun _ ih c=>runO P f ih c (stepA draw P c))
/-! ### regions that draw their order -/
inductive PI where
 | run (i:Nat)
 | again (i:Nat)
abbrev Plans:=FuncId→Nat→Option (List PI×List Nat)
def eqA:Option Addr→Option Addr→Bool
 | none,none=>true
 | some ⟨a,o,none⟩,some ⟨b,p,none⟩=>match Nat.beq a b with
  | true=>Nat.beq o p
  | false=>false
 | _,_=>false
def eqV1:Value→Value→Bool
 | .bool a,.bool b=>eqBool a b
 | .int j a,.int k b=>match eqK j k with
  | true=>eqI a b
  | false=>false
 | .string a,.string b=>eqB a.data.toList b.data.toList
 | .pointer a,.pointer b=>eqA a b
 | .slice a m c,.slice b n d=>match Nat.beq m n with
  | true=>match Nat.beq c d with
   | true=>eqA a b
   | false=>false
  | false=>false
 | .map none,.map none=>true
 | .map (some a),.map (some b)=>Nat.beq a b
 | .nilFunc,.nilFunc=>true
 | .nilIface,.nilIface=>true
 | _,_=>false
def eqVs:List Value→List Value→Bool
 | [],[]=>true
 | v::l,w::m=>match eqV1 v w with
  | true=>eqVs l m
  | false=>false
 | _,_=>false
def eqV (v w:Value):Bool:=
 match v with
 | .agg l=>match w with
  | .agg m=>eqVs l.toList m.toList
  | _=>false
 | .tuple l=>match w with
  | .tuple m=>eqVs l.toList m.toList
  | _=>false
 | .iface t v=>match w with
  | .iface u w=>match Nat.beq t u with
   | true=>eqV1 v w
   | false=>false
  | _=>false
 | .func f a b=>match f with
  | .func i=>match w with
   | .func g c d=>match g with
    | .func j=>match Nat.beq i j with
     | true=>match eqVs a.toList c.toList with
      | true=>eqVs b.toList d.toList
      | false=>false
     | false=>false
    | _=>false
   | _=>false
  | _=>false
 | v=>eqV1 v w
/-! ### classes of operations -/
inductive Cls where
 | pure | read | fresh | eff
def clsOf:Op→Cls
 | .move _ | .assign _ | .pick .. | .build .. | .nilCheck _ | .binOp .. | .unOp .. | .makeInterface .. | .makeFunc .. | .fieldAddr .. | .field .. | .indexAddr .. | .index .. | .typeAssert .. | .extract .. | .slice ..=>.pure
 | .load .. | .lookup .. | .convert ..=>.read
 | .call { callee:=.builtin .len,.. } | .call { callee:=.builtin .cap,.. } | .call { callee:=.builtin .max,.. } | .call { callee:=.builtin .min,.. }=>.read
 | .alloc _ | .box .. | .buildSlice .. | .makeSlice ..=>.fresh
 | _=>.eff
def sameN (H:Hp):Option ARes→Option ARes
 | some (.val v H')=>match Nat.beq H'.n H.n with
  | true=>some (.val v H')
  | false=>none
 | r=>r
def keepN (H:Hp) (r:Option ARes):Cls→Option ARes
 | .pure=>sameN H r
 | _=>r
def drawOp (sub:Sub) (d:Option Tmp) (tm:Trie Value) (nt:Nat) (H:Hp):Option ARes→Option (Trie Value×Hp)
 | some (.val v H')=>some (put tm nt d v,H')
 | some (.enter f args)=>match sub f args H with
  | some (v,H')=>some (put tm nt d v,H')
  | none=>none
 | _=>none
def runPI (sub:Sub) (P:Program) (all:List Oper) (tm:Trie Value) (nt:Nat) (H:Hp):Oper→Option (Trie Value×Hp)
 | ⟨dst,op,_,_,_,g⟩=>match wantedA all tm g with
  | true=>drawOp sub dst tm nt H (keepN H (aopT op P tm H) (clsOf op))
  | false=>some (put tm nt dst undef,H)
def sameRes (tm:Trie Value) (nt:Nat) (dst:Option Tmp):Option ARes→Bool
 | some (.val v _)=>match dst with
  | some d=>match Nat.blt d nt with
   | true=>match tm.get d with
    | some w=>eqV v w
    | none=>false
   | false=>false
  | none=>false
 | _=>false
def againPI (P:Program) (all:List Oper) (tm:Trie Value) (nt:Nat) (H:Hp):Oper→Bool
 | ⟨dst,op,_,_,_,g⟩=>match wantedA all tm g with
  | true=>sameRes tm nt dst (aopT op P tm H)
  | false=>true
def stepPI (sub:Sub) (P:Program) (all:List Oper) (tm:Trie Value) (nt:Nat) (H:Hp):PI→Option (Trie Value×Hp)
 | .run i=>(all[i]?).bind (runPI sub P all tm nt H)
 | .again i=>match (all[i]?).map (againPI P all tm nt H) with
  | some true=>some (tm,H)
  | _=>none
def drawA (sub:Sub) (P:Program) (all:List Oper) (nt:Nat):List PI→Trie Value→Hp→Option (Trie Value×Hp)
 | [],tm,H=>some (tm,H)
 | x::rest,tm,H=>match stepPI sub P all tm nt H x with
  | some (tm',H')=>drawA sub P all nt rest tm' H'
  | none=>none
end Go.Sim
namespace Go.Sim
open Go
/-! ### tries -/
@[simp] theorem Trie.get_leaf {α : Type} (k : Nat) : (Trie.leaf : Trie α).get k = none := rfl
@[simp] theorem Trie.get_node_zero {α : Type} (l r : Trie α) (v : Option α) : (Trie.node l v r).get 0 = v := rfl
theorem Trie.get_node_succ {α:Type} (l r:Trie α) (v:Option α) (k:Nat):(Trie.node l v r).get (k+1)=if k % 2=0 then l.get (k / 2) else r.get (k / 2):=by
 show Bool.rec (motive:=fun _=>Option α) (r.get (k / 2)) (l.get (k / 2)) (Nat.beq (k % 2) 0)=_
 by_cases h:k % 2=0
 ·have:Nat.beq (k % 2) 0=true:=by rw [h];rfl
  rw [this,if_pos h]
 ·have:Nat.beq (k % 2) 0=false:=by
   cases hb:Nat.beq (k % 2) 0 with
   | false=>rfl
   | true=>exact absurd (Nat.eq_of_beq_eq_true hb) h
  rw [this,if_neg h]
@[simp] theorem Trie.mkL_eq {α : Type} (l r : Trie α) (v : Option α) : Trie.mkL l v r = .node l v r := by cases l <;> rfl
@[simp] theorem Trie.mkR_eq {α : Type} (l r : Trie α) (v : Option α) : Trie.mkR l v r = .node l v r := by cases r <;> rfl
theorem Trie.set_zero {α:Type} (x:α) (f:Nat) (t:Trie α):Trie.set x (f+1) t 0=match t with | .leaf=>.node .leaf (some x) .leaf | .node l v r=>.node l (some x) r:=by
 cases t<;>rfl
theorem Trie.set_succ {α:Type} (x:α) (f k:Nat) (t:Trie α):Trie.set x (f+1) t (k+1)=match t with
  | .leaf=>if k % 2=0 then .node (Trie.set x f .leaf (k / 2)) none .leaf else .node .leaf none (Trie.set x f .leaf (k / 2))
  | .node l v r=>if k % 2=0 then .node (Trie.set x f l (k / 2)) v r else .node l v (Trie.set x f r (k / 2)):=by
 have hb:∀ (A B:Trie α),Bool.rec (motive:=fun _=>Trie α) A B (Nat.beq (k % 2) 0)=if k % 2=0 then B else A:=by
  intro A B
  by_cases h:k % 2=0
  ·have:Nat.beq (k % 2) 0=true:=by rw [h];rfl
   rw [this,if_pos h]
  ·have:Nat.beq (k % 2) 0=false:=by
    cases hb:Nat.beq (k % 2) 0 with
    | false=>rfl
    | true=>exact absurd (Nat.eq_of_beq_eq_true hb) h
   rw [this,if_neg h]
 cases t with
 | leaf=>
  show Bool.rec (motive:=fun _=>Trie α) (Trie.mkR .leaf none (Trie.set x f .leaf (k / 2))) (Trie.mkL (Trie.set x f .leaf (k / 2)) none .leaf) (Nat.beq (k % 2) 0)=_
  rw [hb];simp
 | node l v r=>
  show Bool.rec (motive:=fun _=>Trie α) (Trie.mkR l v (Trie.set x f r (k / 2))) (Trie.mkL (Trie.set x f l (k / 2)) v r) (Nat.beq (k % 2) 0)=_
  rw [hb];simp
theorem Trie.get_set {α:Type} (x:α):∀ (f:Nat) (t:Trie α) (k j:Nat),k<f→(Trie.set x f t k).get j=if j=k then some x else t.get j:=by
 intro f
 induction f with
 | zero=>intro t k j h;omega
 | succ f ih=>
  intro t k j h
  cases k with
  | zero=>
   rw [Trie.set_zero]
   cases j with
   | zero=>cases t<;>simp
   | succ j=>cases t<;>simp [Trie.get_node_succ]
  | succ k=>
   rw [Trie.set_succ]
   have hk:k / 2<f:=by omega
   cases j with
   | zero=>cases t<;>simp<;>split<;>simp
   | succ j=>
    have key:∀ l v r,(if k % 2=0 then Trie.node (Trie.set x f l (k / 2)) v r else Trie.node l v (Trie.set x f r (k / 2))).get (j+1)=if j+1=k+1 then some x else (Trie.node l v r).get (j+1):=by
     intro l v r
     by_cases hk2:k % 2=0
     ·rw [if_pos hk2,Trie.get_node_succ,Trie.get_node_succ]
      by_cases hj:j % 2=0
      ·rw [if_pos hj,if_pos hj,ih _ _ _ hk]
       by_cases e:j=k
       ·subst e;simp
       ·rw [if_neg (by omega),if_neg (by omega)]
      ·rw [if_neg hj,if_neg hj,if_neg (by omega)]
     ·rw [if_neg hk2,Trie.get_node_succ,Trie.get_node_succ]
      by_cases hj:j % 2=0
      ·rw [if_pos hj,if_pos hj,if_neg (by omega)]
      ·rw [if_neg hj,if_neg hj,ih _ _ _ hk]
       by_cases e:j=k
       ·subst e;simp
       ·rw [if_neg (by omega),if_neg (by omega)]
    cases t with
    | leaf=>
     have:=key .leaf none .leaf
     simpa [Trie.get_node_succ] using this
    | node l v r=>exact key l v r
theorem Trie.get_put {α:Type} (t:Trie α) (k j:Nat) (x:α):(t.put k x).get j=if j=k then some x else t.get j:=Trie.get_set x _ t k j (Nat.lt_succ_self k)
theorem memN_iff {i:Nat}:∀ {l:List Nat},memN i l=true↔i∈l:=by
 intro l
 induction l with
 | nil=>simp [memN]
 | cons j l ih=>
  rw [memN]
  cases h:Nat.beq i j with
  | true=>simp [Nat.eq_of_beq_eq_true h]
  | false=>
   have:i≠j:=fun e=>by subst e;simp at h
   simp [ih,this]
/-! ### the heap's words -/
@[simp] theorem Hp.get_put (H : Hp) (i j : Nat) (B : Blk) : (H.put i B).get j = if j = i then some B else H.get j := by
 cases H;exact Trie.get_put _ _ _ _
@[simp] theorem Hp.stk_put (H : Hp) (i k : Nat) (B : Blk) : (H.put i B).stk k = H.stk k := by cases H; rfl
@[simp] theorem Hp.n_put (H : Hp) (i : Nat) (B : Blk) : (H.put i B).n = H.n := by cases H; rfl
@[simp] theorem Hp.get_new (H : Hp) (j : Nat) (B : Blk) : (H.new B).get j = if j = H.n then some B else H.get j := by
 cases H;exact Trie.get_put _ _ _ _
@[simp] theorem Hp.stk_new (H : Hp) (k : Nat) (B : Blk) : (H.new B).stk k = H.stk k := by cases H; rfl
@[simp] theorem Hp.n_new (H : Hp) (B : Blk) : (H.new B).n = H.n + 1 := by cases H; rfl
@[simp] theorem Hp.get_put1 (H : Hp) (i j k : Nat) (B : Blk) : (H.put1 i B k).get j = if j = i then some B else H.get j := by
 cases H;exact Trie.get_put _ _ _ _
@[simp] theorem Hp.stk_put1 (H : Hp) (i j k : Nat) (B : Blk) : (H.put1 i B k).stk j = if j = k then [i] else H.stk j := by
 cases H
 show ((Trie.put _ _ _).get j).getD []=_
 rw [Trie.get_put];split<;>rfl
@[simp] theorem Hp.n_put1 (H : Hp) (i k : Nat) (B : Blk) : (H.put1 i B k).n = H.n := by cases H; rfl
@[simp] theorem Hp.get_newIn (H : Hp) (c : List Value) (e : TypeId) (k : Nat) (st : List Nat) (j : Nat) : (H.newIn c e k st).get j = if j = H.n then some (.cells c e (some k)) else H.get j := by
 cases H;exact Trie.get_put _ _ _ _
@[simp] theorem Hp.stk_newIn (H : Hp) (c : List Value) (e : TypeId) (k : Nat) (st : List Nat) (j : Nat) : (H.newIn c e k st).stk j = if j = k then st else H.stk j := by
 cases H
 show ((Trie.put _ _ _).get j).getD []=_
 rw [Trie.get_put];split<;>rfl
@[simp] theorem Hp.n_newIn (H : Hp) (c : List Value) (e : TypeId) (k : Nat) (st : List Nat) : (H.newIn c e k st).n = H.n + 1 := by cases H; rfl
@[simp] theorem Hp.get_skip (H : Hp) (j : Nat) : H.skip.get j = H.get j := by cases H; rfl
@[simp] theorem Hp.stk_skip (H : Hp) (j : Nat) : H.skip.stk j = H.stk j := by cases H; rfl
@[simp] theorem Hp.n_skip (H : Hp) : H.skip.n = H.n + 1 := by cases H; rfl
/-! ### valuations -/
structure Ren where
 blk:Nat→Option (Nat×Nat)
 cap:Nat→Nat
def Ren.Ext (ρ ρ':Ren):Prop:=∀ i p,ρ.blk i=some p→ρ'.blk i=some p∧ρ'.cap i=ρ.cap i
theorem Ren.Ext.refl (ρ:Ren):ρ.Ext ρ:=fun _ _ h=>⟨h,rfl⟩
theorem Ren.Ext.trans {a b c:Ren} (h:a.Ext b) (k:b.Ext c):a.Ext c:=fun i p hi=>by
 obtain ⟨h1,h2⟩:=h i p hi
 obtain ⟨k1,k2⟩:=k i p h1
 exact ⟨k1,k2.trans h2⟩
def Ren.add (ρ:Ren) (i:Nat) (p:Nat×Nat) (c:Nat):Ren:=⟨fun j=>if j=i then some p else ρ.blk j,fun j=>if j=i then c else ρ.cap j⟩
theorem Ren.ext_add {ρ:Ren} {i:Nat} (h:ρ.blk i=none) (p:Nat×Nat) (c:Nat):ρ.Ext (ρ.add i p c):=by
 intro j q hj
 have:j≠i:=fun e=>by rw [e,h] at hj;cases hj
 simp [Ren.add,this,hj]
@[simp] theorem Ren.add_same (ρ : Ren) (i : Nat) (p : Nat × Nat) (c : Nat) : (ρ.add i p c).blk i = some p := by simp [Ren.add]
@[simp] theorem Ren.add_cap (ρ : Ren) (i : Nat) (p : Nat × Nat) (c : Nat) : (ρ.add i p c).cap i = c := by simp [Ren.add]
theorem Ren.add_other (ρ:Ren) {i j:Nat} (h:j≠i) (p:Nat×Nat) (c:Nat):(ρ.add i p c).blk j=ρ.blk j:=by simp [Ren.add,h]
def Ren.addr (ρ:Ren) (a b:Addr):Prop:=a.spot=none∧∃ p,ρ.blk a.block=some p∧b=⟨p.1,p.2+a.off,none⟩
theorem Ren.addr.mono {ρ ρ':Ren} (h:ρ.Ext ρ') {a b:Addr} (k:ρ.addr a b):ρ'.addr a b:=by
 obtain ⟨h1,p,h2,h3⟩:=k
 exact ⟨h1,p,(h _ _ h2).1,h3⟩
theorem Ren.addr.add {ρ:Ren} {a b:Addr} (k:ρ.addr a b) (n:Nat):ρ.addr (a.add n) (b.add n):=by
 obtain ⟨h1,p,h2,rfl⟩:=k
 unfold Addr.add
 by_cases hn:n=0
 ·rw [if_pos hn,if_pos hn];exact ⟨h1,p,h2,rfl⟩
 ·rw [if_neg hn,if_neg hn];exact ⟨rfl,p,h2,by simp [Nat.add_assoc]⟩
def capR (ρ:Ren) (n c c':Nat):Prop:=n≤c'∧(c<U→c'=c)∧(∀ i,c=U+2*i→∃ p,ρ.blk i=some p∧c'=ρ.cap i)
theorem capR.mono {ρ ρ':Ren} (h:ρ.Ext ρ') {n c c':Nat} (k:capR ρ n c c'):capR ρ' n c c':=by
 refine ⟨k.1,k.2.1,fun i hc=>?_⟩
 obtain ⟨p,h1,h2⟩:=k.2.2 i hc
 obtain ⟨g1,g2⟩:=h _ _ h1
 exact ⟨p,g1,by rw [g2];exact h2⟩
inductive FnR (ρ:Ren):Fn→Fn→Prop
 | func (f:FuncId):FnR ρ (.func f) (.func f)
 | yield (l:Nat) (p:Nat×Nat) (h:ρ.blk l=some p):FnR ρ (.yield l) (.yield p.1)
theorem FnR.mono {ρ ρ':Ren} (h:ρ.Ext ρ') {a b:Fn} (k:FnR ρ a b):FnR ρ' a b:=by
 cases k with
 | func f=>exact .func f
 | yield l p hl=>exact .yield l p (h _ _ hl).1
/-! ### values -/
mutual
inductive VR (ρ:Ren):Value→Value→Prop
 | bool (b:Bool):VR ρ (.bool b) (.bool b)
 | int (k:IntKind) (n:Int):VR ρ (.int k n) (.int k n)
 | string (s:ByteArray):VR ρ (.string s) (.string s)
 | nilPtr:VR ρ (.pointer none) (.pointer none)
 | ptr {a b:Addr} (h:ρ.addr a b):VR ρ (.pointer (some a)) (.pointer (some b))
 | nilSlice:VR ρ (.slice none 0 0) (.slice none 0 0)
 | slice {a b:Addr} {n c c':Nat} (h:ρ.addr a b) (hc:capR ρ n c c'):VR ρ (.slice (some a) n c) (.slice (some b) n c')
 | slice0 {a b:Addr} {c c':Nat} {p:Nat×Nat} (ha:a.spot=none) (hp:ρ.blk a.block=some p) (hb:b.block=p.1) (hs:b.spot=none) (hU:c=U+1) (hc:capR ρ 0 c c'):VR ρ (.slice (some a) 0 c) (.slice (some b) 0 c')
 | slice00 (a b:Addr):VR ρ (.slice (some a) 0 0) (.slice (some b) 0 0)
 | nilMap:VR ρ (.map none) (.map none)
 | map {r:Nat} {p:Nat×Nat} (h:ρ.blk r=some p):VR ρ (.map (some r)) (.map (some p.1))
 | func {f f':Fn} {a a' b b':List Value} (h:FnR ρ f f') (ha:VRs ρ a a') (hb:VRs ρ b b'):VR ρ (.func f ⟨a⟩ ⟨b⟩) (.func f' ⟨a'⟩ ⟨b'⟩)
 | nilFunc:VR ρ .nilFunc .nilFunc
 | iface {t:TypeId} {v x:Value} (h:VR ρ v x):VR ρ (.iface t v) (.iface t x)
 | nilIface:VR ρ .nilIface .nilIface
 | agg {l m:List Value} (h:VRs ρ l m):VR ρ (.agg ⟨l⟩) (.agg ⟨m⟩)
 | tuple {l m:List Value} (h:VRs ρ l m):VR ρ (.tuple ⟨l⟩) (.tuple ⟨m⟩)
inductive VRs (ρ:Ren):List Value→List Value→Prop
 | nil:VRs ρ [] []
 | cons {v x:Value} {l m:List Value} (h:VR ρ v x) (hs:VRs ρ l m):VRs ρ (v::l) (x::m)
end
mutual
theorem VR.mono {ρ ρ':Ren} (h:ρ.Ext ρ'):∀ {v x:Value},VR ρ v x→VR ρ' v x
 | _,_,.bool b=>.bool b
 | _,_,.int k n=>.int k n
 | _,_,.string s=>.string s
 | _,_,.nilPtr=>.nilPtr
 | _,_,.ptr k=>.ptr (k.mono h)
 | _,_,.nilSlice=>.nilSlice
 | _,_,.slice k c=>.slice (k.mono h) (c.mono h)
 | _,_,.slice0 ha hp hb hs hU c=>.slice0 ha (h _ _ hp).1 hb hs hU (c.mono h)
 | _,_,.slice00 a b=>.slice00 a b
 | _,_,.nilMap=>.nilMap
 | _,_,.map k=>.map (h _ _ k).1
 | _,_,.func f a b=>.func (f.mono h) (VRs.mono h a) (VRs.mono h b)
 | _,_,.nilFunc=>.nilFunc
 | _,_,.iface k=>.iface (VR.mono h k)
 | _,_,.nilIface=>.nilIface
 | _,_,.agg k=>.agg (VRs.mono h k)
 | _,_,.tuple k=>.tuple (VRs.mono h k)
theorem VRs.mono {ρ ρ':Ren} (h:ρ.Ext ρ'):∀ {l m:List Value},VRs ρ l m→VRs ρ' l m
 | _,_,.nil=>.nil
 | _,_,.cons k ks=>.cons (VR.mono h k) (VRs.mono h ks)
end
section
variable {ρ:Ren}
theorem VRs.length {l m:List Value} (h:VRs ρ l m):m.length=l.length:=by
 induction l generalizing m with
 | nil=>cases h;rfl
 | cons v l ih=>cases h with | cons h hs=>simp [ih hs]
theorem VRs.append {l m l' m':List Value} (h:VRs ρ l m) (k:VRs ρ l' m'):VRs ρ (l++l') (m++m'):=by
 induction l generalizing m with
 | nil=>cases h;exact k
 | cons v l ih=>cases h with | cons h hs=>exact .cons h (ih hs)
theorem VRs.get {l m:List Value} (h:VRs ρ l m) {i:Nat} {v:Value} (k:l[i]? =some v):∃ x,m[i]? =some x∧VR ρ v x:=by
 induction l generalizing m i with
 | nil=>simp at k
 | cons u l ih=>
  cases h with
  | cons h hs=>
   cases i with
   | zero=>simp at k;subst k;exact ⟨_,rfl,h⟩
   | succ i=>simp at k;simpa using ih hs k
theorem VRs.of_get {l m:List Value} (hl:m.length=l.length) (h:∀ (i:Nat) (v:Value),l[i]? =some v→∃ x,m[i]? =some x∧VR ρ v x):VRs ρ l m:=by
 induction l generalizing m with
 | nil=>cases m with | nil=>exact .nil | cons=>simp at hl
 | cons u l ih=>
  cases m with
  | nil=>simp at hl
  | cons y m=>
   obtain ⟨x,hx,hr⟩:=h 0 u rfl
   simp at hx;subst hx
   exact .cons hr (ih (by simpa using hl) fun i v hi=>by simpa using h (i+1) v (by simpa using hi))
theorem VR.undef:VR ρ undef undef:=.tuple .nil
theorem simple1_refl {v:Value} (h:simple1 v=true):VR ρ v v:=by
 unfold simple1 at h
 split at h<;>first | (cases h;done) | constructor
theorem simples_refl:∀ {l:List Value},l.all simple1=true→VRs ρ l l
 | [],_=>.nil
 | v::l,h=>by
  simp only [List.all_cons,Bool.and_eq_true] at h
  exact .cons (simple1_refl h.1) (simples_refl h.2)
theorem simple_refl {v:Value} (h:simple v=true):VR ρ v v:=by
 unfold simple at h
 split at h
 ·rename_i cs;exact .agg (l:=cs.toList) (m:=cs.toList) (simples_refl h)
 ·rename_i cs
  have:cs.toList=[]:=by simpa using h
  have e:cs=⟨[]⟩:=by cases cs;simp_all
  subst e;exact .tuple .nil
 ·rename_i t v
  split at h
  ·exact .iface (.int _ _)
  ·exact .iface (.bool _)
  ·exact .iface (.string _)
  ·rename_i cs;exact .iface (.agg (l:=cs.toList) (m:=cs.toList) (simples_refl h))
  ·cases h
 ·exact simple1_refl h
theorem simple1_eq {v x:Value} (h:simple1 v=true) (k:VR ρ v x):x=v:=by
 cases k<;>first | rfl | (simp [simple1] at h)
theorem simples_eq:∀ {l m:List Value},l.all simple1=true→VRs ρ l m→m=l
 | [],m,_,k=>by cases k;rfl
 | v::l,m,h,k=>by
  simp only [List.all_cons,Bool.and_eq_true] at h
  cases k with
  | cons k ks=>rw [simple1_eq h.1 k,simples_eq h.2 ks]
theorem simple_eq {v x:Value} (h:simple v=true) (k:VR ρ v x):x=v:=by
 cases k with
 | agg k=>rw [simples_eq (by simpa [simple] using h) k]
 | tuple k=>
  rename_i l m
  have:l=[]:=by simpa [simple] using h
  subst this;cases k;rfl
 | iface k=>
  rename_i t v x
  cases k with
  | agg k=>rw [simples_eq (by simpa [simple] using h) k]
  | _=>first | rfl | (simp [simple] at h)
 | _=>first | rfl | (simp [simple,simple1] at h)
theorem ifSimple_some {v w:Value} (h:ifSimple v=some w):w=v∧simple v=true:=by
 unfold ifSimple at h
 cases hs:simple v with
 | true=>simp [hs] at h;exact ⟨h.symm,rfl⟩
 | false=>simp [hs] at h
theorem VR.cells {v x:Value} (h:VR ρ v x):VRs ρ (cellsOf v) x.cells.toList:=by
 cases h with
 | agg k=>exact k
 | slice0 ha hp hb hs hU hc=>exact .cons (.slice0 ha hp hb hs hU hc) .nil
 | slice00 a b=>exact .cons (.slice00 a b) .nil
 | _=>exact .cons (by constructor<;>assumption) .nil
theorem VR.oneCell {v x:Value} (h:VR ρ v x) (k:Sim.oneCell v=true):x.oneCell'=true:=by
 cases h<;>first | rfl | (simp [Sim.oneCell] at k)
end
/-! ### pure runs -/
theorem pureRun_run {α:Type} {P:Program}:∀ {t:Sem α} {a:α},pureRun P t=some a→∀ w,t.run P w=.ok a w:=by
 intro t
 induction t with
 | pure a=>intro b h w;simp [pureRun] at h;subst h;rfl
 | program k ih=>intro b h w;simp only [pureRun] at h;simp only [Sem.run];exact ih _ h w
 | mark m k ih=>intro b h w;simp only [pureRun] at h;simp only [Sem.run];exact ih h w
 | _=>intro b h;simp [pureRun] at h
end Go.Sim
namespace Go.Sim
open Go
inductive L2 {α β:Type} (R:α→β→Prop):List α→List β→Prop
 | nil:L2 R [] []
 | cons {a:α} {b:β} {l:List α} {m:List β} (h:R a b) (hs:L2 R l m):L2 R (a::l) (b::m)
theorem L2.mono {α β:Type} {R S:α→β→Prop} (h:∀ a b,R a b→S a b) {l:List α} {m:List β} (k:L2 R l m):L2 S l m:=by
 induction k with
 | nil=>exact .nil
 | cons h' _ ih=>exact .cons (h _ _ h') ih
theorem L2.length {α β:Type} {R:α→β→Prop} {l:List α} {m:List β} (k:L2 R l m):m.length=l.length:=by
 induction k with
 | nil=>rfl
 | cons _ _ ih=>simp [ih]
theorem L2.get {α β:Type} {R:α→β→Prop} {l:List α} {m:List β} (k:L2 R l m) {i:Nat} {a:α} (h:l[i]? =some a):∃ b,m[i]? =some b∧R a b:=by
 induction k generalizing i with
 | nil=>simp at h
 | cons h' _ ih=>
  cases i with
  | zero=>simp at h;subst h;exact ⟨_,rfl,h'⟩
  | succ i=>simp at h;simpa using ih h
theorem L2.append {α β:Type} {R:α→β→Prop} {l l':List α} {m m':List β} (k:L2 R l m) (k':L2 R l' m'):L2 R (l++l') (m++m'):=by
 induction k with
 | nil=>exact k'
 | cons h _ ih=>exact .cons h ih
theorem L2.set {α β:Type} {R:α→β→Prop} {l:List α} {m:List β} (k:L2 R l m) (i:Nat) {a:α} {b:β} (h:R a b):L2 R (l.set i a) (m.set i b):=by
 induction k generalizing i with
 | nil=>exact .nil
 | cons h' hs ih=>
  cases i with
  | zero=>exact .cons h hs
  | succ i=>exact .cons h' (ih i)
def TR (ρ:Ren) (tm:Trie Value) (nt:Nat) (tmps:Array Value):Prop:=tmps.size=nt∧∀ t,VR ρ ((tm.get t).getD undef) (tmps.getD t undef)
theorem TR.mono {ρ ρ':Ren} (h:ρ.Ext ρ') {tm:Trie Value} {nt:Nat} {tmps:Array Value} (k:TR ρ tm nt tmps):TR ρ' tm nt tmps:=⟨k.1,fun t=>(k.2 t).mono h⟩
def ER (ρ:Ren) (e e':MapEntry):Prop:=VR ρ e.key e'.key∧VR ρ e.val e'.val∧e'.born=e.born
theorem ER.mono {ρ ρ':Ren} (h:ρ.Ext ρ') {a b:MapEntry} (k:ER ρ a b):ER ρ' a b:=⟨k.1.mono h,k.2.1.mono h,k.2.2⟩
inductive DR (ρ:Ren):Deferred→Deferred→Prop
 | fn {f f':Fn} {a a' b b':List Value} (h:FnR ρ f f') (ha:VRs ρ a a') (hb:VRs ρ b b'):DR ρ ⟨.fn f ⟨a⟩,⟨b⟩⟩ ⟨.fn f' ⟨a'⟩,⟨b'⟩⟩
 | collected {r:Nat} {p:Nat×Nat} (h:ρ.blk r=some p):DR ρ ⟨.collected r,#[]⟩ ⟨.collected p.1,#[]⟩
theorem DR.mono {ρ ρ':Ren} (h:ρ.Ext ρ') {a b:Deferred} (k:DR ρ a b):DR ρ' a b:=by
 cases k with
 | fn h1 h2 h3=>exact .fn (h1.mono h) (h2.mono h) (h3.mono h)
 | collected h1=>exact .collected (h _ _ h1).1
structure LR (ρ:Ren) (l:ALoop) (l':Loop):Prop where
 state:l'.state=l.state
 pending:l'.pending=l.pending
 fn:l'.fn=l.fn
 tm:TR ρ l.tm l.nt l'.tmps
 params:l'.params=l.params
 assign:l'.assign=l.assign
 body:l'.body=l.body
 defers:∃ p,ρ.blk l.defers=some p∧l'.defers=p.1
theorem LR.mono {ρ ρ':Ren} (h:ρ.Ext ρ') {a:ALoop} {b:Loop} (k:LR ρ a b):LR ρ' a b:=
 ⟨k.state,k.pending,k.fn,k.tm.mono h,k.params,k.assign,k.body,let ⟨p,h1,h2⟩:=k.defers;⟨p,(h _ _ h1).1,h2⟩⟩
def Blk.mut:Blk→Prop
 | .ro _=>False
 | _=>True
def same (i:Nat) (B:Blk) (j:Nat) (C:Blk):Prop:=
 match B,C with
 | .cells _ _ (some k),.cells _ _ (some k')=>k=k'
 | _,_=>i=j
def live (H:Hp) (i:Nat):Blk→Prop
 | .cells _ _ (some k)=>i∈H.stk k
 | _=>True
def Blk.len:Blk→Nat
 | .cells c _ _=>c.length
 | _=>0
def Hp.len (H:Hp) (i:Nat):Nat:=((H.get i).map Blk.len).getD 0
def thawed (n:Nat) (fz:Nat×Nat):Prop:=∀ j,j<n→¬(fz.1≤j∧j<fz.2)
def BR (P:Program) (ρ:Ren) (i:Nat) (p:Nat×Nat) (W:World):Blk→Prop
 | .cells c e cls=>∃ C fz,W.heap[p.1]? =some (.cells C e fz)∧p.2=0∧thawed C.size fz∧(∀ (j:Nat) (v:Value),c[j]? =some v→∃ x,C[j]? =some x∧VR ρ v x) ∧
   (cls≠none→∃ sz,sizeT P e=some sz∧ρ.cap i*sz≤C.size)
 | .ro c=>∃ C e fz,W.heap[p.1]? =some (.cells C e fz)∧∀ (j:Nat) (v:Value),c[j]? =some v→∃ x,C[p.2+j]? =some x∧VR ρ v x
 | .map es ck=>∃ es',W.heap[p.1]? =some (.map es' ck)∧L2 (ER ρ) es es'.toList
 | .loop l=>∃ l',W.heap[p.1]? =some (.loop l')∧LR ρ l l'
 | .defs none=>W.heap[p.1]? =some (.deferred none)
 | .defs (some d)=>∃ d',W.heap[p.1]? =some (.deferred (some d'))∧L2 (DR ρ) d d'
theorem BR.mono {P:Program} {ρ ρ':Ren} (h:ρ.Ext ρ') {i:Nat} {p:Nat×Nat} (hi:ρ.blk i=some p) {W W':World} (hW:W'.heap[p.1]? =W.heap[p.1]?) {B:Blk} (k:BR P ρ i p W B):BR P ρ' i p W' B:=by
 cases B with
 | cells c e cls=>
  obtain ⟨C,fz,h1,h2,h3,h4,h5⟩:=k
  refine ⟨C,fz,hW.trans h1,h2,h3,fun j v hj=>?_,fun hc=>?_⟩
  ·obtain ⟨x,hx,hr⟩:=h4 j v hj;exact ⟨x,hx,hr.mono h⟩
  ·obtain ⟨sz,g1,g2⟩:=h5 hc;exact ⟨sz,g1,by rw [(h _ _ hi).2];exact g2⟩
 | ro c=>
  obtain ⟨C,e,fz,h1,h4⟩:=k
  refine ⟨C,e,fz,hW.trans h1,fun j v hj=>?_⟩
  obtain ⟨x,hx,hr⟩:=h4 j v hj;exact ⟨x,hx,hr.mono h⟩
 | map es ck=>obtain ⟨es',h1,h2⟩:=k;exact ⟨es',hW.trans h1,h2.mono fun _ _=>ER.mono h⟩
 | loop l=>obtain ⟨l',h1,h2⟩:=k;exact ⟨l',hW.trans h1,h2.mono h⟩
 | defs d=>
  cases d with
  | none=>exact hW.trans k
  | some d=>obtain ⟨d',h1,h2⟩:=k;exact ⟨d',hW.trans h1,h2.mono fun _ _=>DR.mono h⟩
def Sorted (H:Hp):List Nat→Prop
 | []=>True
 | j::l=>(∀ m∈l,H.len m≤H.len j)∧Sorted H l
structure Rep (P:Program) (ρ:Ren) (H:Hp) (W:World):Prop where
 blk:∀ i B p,H.get i=some B→live H i B→ρ.blk i=some p→BR P ρ i p W B
 sep:∀ i j B C p q,H.get i=some B→H.get j=some C→live H i B→live H j C→B.mut→¬same i B j C→ρ.blk i=some p→ρ.blk j=some q→p.1≠q.1
 new:∀ i,H.n≤i→ρ.blk i=none
 dom:∀ i B,H.get i=some B→i<H.n
 low:∀ i p,ρ.blk i=some p→p.1<W.heap.size
 glob:∀ g,g<(gsize P)→ρ.blk g=some (g,0)
 mem:∀ k j,j∈H.stk k→∃ c e,H.get j=some (.cells c e (some k))
 len:∀ k,Sorted H (H.stk k)
 gl:(gsize P)≤H.n
theorem Rep.stk {P:Program} {ρ:Ren} {H:Hp} {W:World} (R:Rep P ρ H W) {k j:Nat} (h:j∈H.stk k):j<H.n:=let ⟨_,_,g⟩:=R.mem k j h;R.dom j _ g
structure Fr (ρ ρ':Ren) (H H':Hp) (W W':World):Prop where
 ext:ρ.Ext ρ'
 os:W'.os=W.os
 tape:W'.tape=W.tape
 output:W'.output=W.output
 size:W.heap.size≤W'.heap.size
 same:∀ b,b<W.heap.size→(∀ i B p,H.get i=some B→B.mut→ρ.blk i=some p→p.1≠b)→W'.heap[b]? =W.heap[b]?
 fresh:∀ i B p,H'.get i=some B→B.mut→ρ'.blk i=some p→W.heap.size≤p.1∨∃ j C q,H.get j=some C∧C.mut∧ρ.blk j=some q∧q.1=p.1
 n:H.n≤H'.n
 ghost:∀ i,i<H.n→ρ.blk i=none→ρ'.blk i=none∧H'.get i=H.get i
theorem Fr.refl (ρ:Ren) (H:Hp) (W:World):Fr ρ ρ H H W W:=
 ⟨.refl ρ,rfl,rfl,rfl,Nat.le_refl _,fun _ _ _=>rfl,fun i B p h1 h2 h3=>.inr ⟨i,B,p,h1,h2,h3,rfl⟩,Nat.le_refl _,fun _ _ h=>⟨h,rfl⟩⟩
theorem Fr.trans {ρ ρ' ρ'':Ren} {H H' H'':Hp} {W W' W'':World} (h:Fr ρ ρ' H H' W W') (k:Fr ρ' ρ'' H' H'' W' W''):Fr ρ ρ'' H H'' W W'':=by
 refine ⟨h.ext.trans k.ext,k.os.trans h.os,k.tape.trans h.tape,k.output.trans h.output,Nat.le_trans h.size k.size,fun b hb hn=>?_,fun i B p h1 h2 h3=>?_,Nat.le_trans h.n k.n,fun i hi hn=>let ⟨g1,g2⟩:=h.ghost i hi hn;let ⟨k1,k2⟩:=k.ghost i (Nat.lt_of_lt_of_le hi h.n) g1;⟨k1,k2.trans g2⟩⟩
 ·rw [k.same b (Nat.lt_of_lt_of_le hb h.size) ?_,h.same b hb hn]
  intro i B p h1 h2 h3 e
  rcases h.fresh i B p h1 h2 h3 with g | ⟨j,C,q,g1,g2,g3,g4⟩
  ·omega
  ·exact hn j C q g1 g2 g3 (g4.trans e)
 ·rcases k.fresh i B p h1 h2 h3 with g | ⟨j,C,q,g1,g2,g3,g4⟩
  ·exact .inl (Nat.le_trans h.size g)
  ·rcases h.fresh j C q g1 g2 g3 with g | ⟨j',C',q',f1,f2,f3,f4⟩
   ·exact .inl (g4▸g)
   ·exact .inr ⟨j',C',q',f1,f2,f3,f4.trans g4⟩
/-! ### lists -/
theorem cut_spec:∀ {c:List Value} {o n:Nat} {l:List Value},cut c o n=some l→l.length=n∧o+n≤max c.length o∧∀ j,j<n→l[j]? =c[o+j]?∧o+j<c.length
 | c,0,0,l,h=>by simp [cut] at h;subst h;simp
 | [],0,n+1,l,h=>by simp [cut] at h
 | v::c,0,n+1,l,h=>by
  simp only [cut] at h
  split at h
  ·rename_i r hr
   simp at h;subst h
   obtain ⟨h1,h2,h3⟩:=cut_spec hr
   refine ⟨by simp [h1],by simp;omega,fun j hj=>?_⟩
   cases j with
   | zero=>simp
   | succ j=>
    have:=h3 j (by omega)
    simp only [Nat.zero_add] at this ⊢
    simpa using this
  ·simp at h
 | [],o+1,n,l,h=>by simp [cut] at h
 | v::c,o+1,n,l,h=>by
  have hc:cut c o n=some l:=by cases n<;>simpa [cut] using h
  obtain ⟨h1,h2,h3⟩:=cut_spec hc
  refine ⟨h1,by simp;omega,fun j hj=>?_⟩
  have:=h3 j hj
  rw [show o+1+j=(o+j)+1 from by omega]
  simpa using this
theorem splice_spec:∀ {c:List Value} {o:Nat} {vs c':List Value},splice c o vs=some c'→c'.length=c.length∧(vs=[]∨o+vs.length≤c.length) ∧
  ∀ j,c'[j]? =if o≤j∧j<o+vs.length then vs[j-o]? else c[j]?
 | c,0,[],c',h=>by simp [splice] at h;subst h;simp
 | [],0,_::_,c',h=>by simp [splice] at h
 | x::c,0,v::vs,c',h=>by
  simp only [splice] at h
  split at h
  ·rename_i r hr
   simp at h;subst h
   obtain ⟨h1,h2,h3⟩:=splice_spec hr
   refine ⟨by simp [h1],.inr ?_,fun j=>?_⟩
   ·rcases h2 with h2 | h2
    ·subst h2;simp
    ·simp;omega
   ·cases j with
    | zero=>simp
    | succ j=>
     have:=h3 j
     simp only [List.getElem?_cons_succ,this,List.length_cons]
     by_cases g:0≤j∧j<0+vs.length
     ·rw [if_pos g,if_pos (by omega)];simp
     ·rw [if_neg g,if_neg (by omega)]
  ·simp at h
 | [],o+1,vs,c',h=>by cases vs<;>simp [splice] at h
 | x::c,o+1,vs,c',h=>by
  have he:splice (x::c) (o+1) vs=(match splice c o vs with | some r=>some (x::r) | none=>none):=by cases vs<;>rfl
  have hc:∃ r,splice c o vs=some r∧c'=x::r:=by
   rw [he] at h
   cases hr:splice c o vs with
   | none=>rw [hr] at h;simp at h
   | some r=>rw [hr] at h;simp at h;exact ⟨r,rfl,h.symm⟩
  obtain ⟨r,hr,rfl⟩:=hc
  obtain ⟨h1,h2,h3⟩:=splice_spec hr
  refine ⟨by simp [h1],?_,fun j=>?_⟩
  ·rcases h2 with h2 | h2
   ·exact .inl h2
   ·exact .inr (by simp;omega)
  ·cases j with
   | zero=>simp
   | succ j=>
    have:=h3 j
    simp only [List.getElem?_cons_succ,this]
    by_cases g:o≤j∧j<o+vs.length
    ·rw [if_pos g,if_pos (by omega),show j+1-(o+1)=j-o from by omega]
    ·rw [if_neg g,if_neg (by omega)]
def setL (C:Array Value) (k:Nat):List Value→Array Value
 | []=>C
 | x::xs=>setL (C.setIfInBounds k x) (k+1) xs
theorem setL_size:∀ (xs:List Value) (C:Array Value) (k:Nat),(setL C k xs).size=C.size
 | [],C,k=>rfl
 | x::xs,C,k=>by rw [setL,setL_size];simp
theorem setL_get:∀ (xs:List Value) (C:Array Value) (k j:Nat),k+xs.length≤C.size→(setL C k xs)[j]? =if k≤j∧j<k+xs.length then xs[j-k]? else C[j]?
 | [],C,k,j,_=>by rw [if_neg (by simp only [List.length_nil];omega)];rfl
 | x::xs,C,k,j,h=>by
  simp only [List.length_cons] at h
  rw [setL,setL_get xs _ _ j (by simp only [Array.size_setIfInBounds];omega)]
  by_cases g:k+1≤j∧j<k+1+xs.length
  ·rw [if_pos g,if_pos (by simp only [List.length_cons];omega),show j-k=(j-(k+1))+1 from by omega];simp
  ·rw [if_neg g]
   by_cases e:j=k
   ·subst e
    rw [if_pos ⟨Nat.le_refl _,by simp⟩,Array.getElem?_setIfInBounds,if_pos rfl,if_pos (by omega)]
    simp
   ·rw [if_neg (by simp only [List.length_cons];omega),Array.getElem?_setIfInBounds,if_neg (Ne.symm e)]
/-! ### the model's memory -/
def wput (W:World) (b:Nat) (o:Obj):World:={ W with heap:=W.heap.setIfInBounds b o }
@[simp] theorem wput_size (W : World) (b : Nat) (o : Obj) : (wput W b o).heap.size = W.heap.size := by simp [wput]
theorem wput_same (W:World) {b:Nat} (h:b<W.heap.size) (o:Obj):(wput W b o).heap[b]? =some o:=by simp [wput,h]
theorem wput_other (W:World) {b c:Nat} (h:c≠b) (o:Obj):(wput W b o).heap[c]? =W.heap[c]?:=by simp [wput,Ne.symm h]
theorem wput_wput (W:World) (b:Nat) (o o':Obj):wput (wput W b o) b o'=wput W b o':=by simp [wput]
theorem setCell_wput {W:World} {b o:Nat} {C:Array Value} {e:TypeId} {fz:Nat×Nat} (h:W.heap[b]? =some (.cells C e fz)) (v:Value) :
  W.setCell ⟨b,o,none⟩ v=wput W b (.cells (C.setIfInBounds o v) e fz):=by
 unfold World.setCell wput
 congr 1
 refine Array.ext_getElem? fun i=>?_
 rw [Array.getElem?_modify,Array.getElem?_setIfInBounds]
 by_cases e':b=i
 ·subst e'
  have hb:b<W.heap.size:=(Array.getElem?_eq_some_iff.1 h).1
  simp only [if_true,h,Option.map_some,hb]
  simp
 ·simp [e']
theorem run_storeCells (P:Program) {b o:Nat} {e:TypeId} {fz:Nat×Nat}:∀ (xs:List Value) (i:Nat) (C:Array Value) (W:World),W.heap[b]? =some (.cells C e fz) →
  (∀ x∈xs,x.oneCell'=true)→(xs=[]∨o+i+xs.length≤C.size)→thawed C.size fz →
  (storeCells ⟨b,o,none⟩ xs i).run P W=.ok () (wput W b (.cells (setL C (o+i) xs) e fz))
 | [],i,C,W,h,_,_,_=>by
  show Result.ok () W=_
  congr 1
  unfold wput
  have:W.heap.setIfInBounds b (.cells C e fz)=W.heap:=by
   refine Array.ext_getElem? fun j=>?_
   rw [Array.getElem?_setIfInBounds]
   by_cases hj:b=j
   ·subst hj;rw [if_pos rfl,if_pos (Array.getElem?_eq_some_iff.1 h).1,h]
   ·simp [hj]
  rw [setL,this]
 | x::xs,i,C,W,h,h1,hl0,ht=>by
  have hl:o+i+(xs.length+1)≤C.size:=by
   rcases hl0 with g | g
   ·cases g
   ·exact g
  have hb:b<W.heap.size:=(Array.getElem?_eq_some_iff.1 h).1
  have hadd:(⟨b,o,none⟩:Addr).add i=⟨b,o+i,none⟩:=by
   unfold Addr.add;split
   ·rename_i e0;subst e0;rfl
   ·rfl
  have hcell:W.cell? ⟨b,o+i,none⟩=some (C[o+i]'(by omega)):=by
   simp [World.cell?,h]
  have hfr:W.frozen? ⟨b,o+i,none⟩=false:=by
   obtain ⟨lo,hi⟩:=fz
   simp only [World.frozen?,h]
   have:=ht (o+i) (by omega)
   cases hd:(decide (lo≤o+i)&&decide (o+i<hi)) with
   | false=>rfl
   | true=>simp at hd;exact absurd hd this
  show (store ((⟨b,o,none⟩:Addr).add i) x >>= fun _=>storeCells ⟨b,o,none⟩ xs (i+1)).run P W=_
  rw [Sem.run_bind,hadd,run_store P W _ x .plain (h1 x (by simp)),hcell]
  simp only [hfr,Bool.false_eq_true,if_false,Result.andThen_ok]
  rw [setCell_wput h,run_storeCells P xs (i+1) (C.setIfInBounds (o+i) x) _ (wput_same W hb _) (fun y hy=>h1 y (by simp [hy])) (.inr (by simp only [Array.size_setIfInBounds];omega)) (by simpa using ht),wput_wput]
  rw [setL,Nat.add_assoc]
theorem run_loadCellsFrom (P:Program) {b o:Nat} {C:Array Value} {e:TypeId} {fz:Nat×Nat} {W:World} (h:W.heap[b]? =some (.cells C e fz)) :
  ∀ (xs:List Value) (i:Nat) (acc:Array Value),(∀ (j:Nat) (x:Value),xs[j]? =some x→C[o+i+j]? =some x) →
   (loadCellsFrom ⟨b,o,none⟩ i xs.length acc).run P W=.ok (acc++xs.toArray) W
 | [],i,acc,_=>by show Result.ok acc W=_;simp
 | x::xs,i,acc,hx=>by
  have hadd:(⟨b,o,none⟩:Addr).add i=⟨b,o+i,none⟩:=by
   unfold Addr.add;split
   ·rename_i e0;subst e0;rfl
   ·rfl
  have hcell:W.cell? ⟨b,o+i,none⟩=some x:=by
   simp only [World.cell?,h]
   exact hx 0 x rfl
  show (load ((⟨b,o,none⟩:Addr).add i) >>= fun v=>loadCellsFrom ⟨b,o,none⟩ (i+1) xs.length (acc.push v)).run P W=_
  rw [Sem.run_bind,hadd,run_load,hcell]
  simp only [Result.andThen_ok]
  rw [run_loadCellsFrom P h xs (i+1) (acc.push x) fun j y hy=>by
   have:=hx (j+1) y (by simpa using hy)
   rw [show o+(i+1)+j=o+i+(j+1) from by omega];exact this]
  simp
end Go.Sim
namespace Go.Sim
open Go
variable {P:Program} {ρ:Ren} {H:Hp} {W:World}
theorem Sorted.congr {H H':Hp}:∀ {l:List Nat},(∀ m∈l,H'.len m=H.len m)→Sorted H l→Sorted H' l
 | [],_,_=>trivial
 | j::l,h,k=>⟨fun m hm=>by rw [h m (by simp [hm]),h j (by simp)];exact k.1 m hm,Sorted.congr (fun m hm=>h m (by simp [hm])) k.2⟩
theorem Rep.row (R:Rep P ρ H W) {i:Nat} {c:List Value} (h:H.row i=some c) {p:Nat×Nat} (hp:ρ.blk i=some p) :
  ∃ C e fz,W.heap[p.1]? =some (.cells C e fz)∧∀ (j:Nat) (v:Value),c[j]? =some v→∃ x,C[p.2+j]? =some x∧VR ρ v x:=by
 unfold Hp.row at h
 cases hg:H.get i with
 | none=>rw [hg] at h;simp at h
 | some B=>
  rw [hg] at h
  simp only [Option.bind_some] at h
  cases B with
  | cells c' e cls=>
   have hl:live H i (.cells c' e cls)∧c'=c:=by
    cases cls with
    | none=>simp [Hp.rowOf] at h;exact ⟨trivial,h⟩
    | some k=>
     simp only [Hp.rowOf] at h
     cases hm:memN i (H.stk k) with
     | true=>rw [hm] at h;simp at h;exact ⟨memN_iff.1 hm,h⟩
     | false=>rw [hm] at h;simp at h
   obtain ⟨hl,rfl⟩:=hl
   obtain ⟨C,fz,h1,h2,_,h4,_⟩:=R.blk i _ p hg hl hp
   exact ⟨C,e,fz,h1,fun j v hj=>by rw [h2,Nat.zero_add];exact h4 j v hj⟩
  | ro c'=>
   simp [Hp.rowOf] at h;subst h
   obtain ⟨C,e,fz,h1,h4⟩:=R.blk i _ p hg trivial hp
   exact ⟨C,e,fz,h1,h4⟩
  | map es ck=>simp [Hp.rowOf] at h
  | loop l=>simp [Hp.rowOf] at h
  | defs d=>simp [Hp.rowOf] at h
theorem Rep.read (R:Rep P ρ H W) {i o n:Nat} {l:List Value} (h:H.read i o n=some l) {b:Addr} (ha:ρ.addr ⟨i,o,none⟩ b) :
  ∃ (g f:Nat) (C:Array Value) (e:TypeId) (fz:Nat×Nat) (m:List Value),b=⟨g,f,none⟩∧W.heap[g]? =some (.cells C e fz)∧l.length=n∧VRs ρ l m∧∀ (j:Nat) (x:Value),m[j]? =some x→C[f+j]? =some x:=by
 unfold Hp.read at h
 cases hr:H.row i with
 | none=>rw [hr] at h;simp at h
 | some c=>
  rw [hr] at h
  simp only at h
  obtain ⟨h1,_,h3⟩:=cut_spec h
  obtain ⟨_,p,hp,rfl⟩:=ha
  simp only at hp
  obtain ⟨C,e,fz,hW,hc⟩:=R.row hr hp
  have key:∀ j,j<n→∃ v x,l[j]? =some v∧C[p.2+o+j]? =some x∧VR ρ v x:=by
   intro j hj
   obtain ⟨g1,g2⟩:=h3 j hj
   obtain ⟨x,hx,hv⟩:=hc (o+j) _ (List.getElem?_eq_getElem g2)
   exact ⟨_,x,by rw [g1];exact List.getElem?_eq_getElem g2,by rw [Nat.add_assoc];exact hx,hv⟩
  have hsz:∀ j,j<n→p.2+o+j<C.size:=fun j hj=>by
   obtain ⟨v,x,_,g2,_⟩:=key j hj
   exact (Array.getElem?_eq_some_iff.1 g2).1
  refine ⟨p.1,p.2+o,C,e,fz,((List.range n).map fun j=>C.getD (p.2+o+j) undef),rfl,hW,h1,VRs.of_get (by simp [h1]) fun j v hj=>?_,fun j x hj=>?_⟩
  ·have hjn:j<n:=by have:=(List.getElem?_eq_some_iff.1 hj).1;omega
   obtain ⟨v',x,g1,g2,g3⟩:=key j hjn
   rw [g1] at hj;simp at hj;subst hj
   refine ⟨x,?_,g3⟩
   simp only [List.getElem?_map,List.getElem?_range hjn,Option.map_some,Array.getD_eq_getD_getElem?,g2,Option.getD_some]
  ·have hjn:j<n:=by have:=(List.getElem?_eq_some_iff.1 hj).1;simpa using this
   simp only [List.getElem?_map,List.getElem?_range hjn,Option.map_some,Option.some.injEq] at hj
   rw [← hj,Array.getD_eq_getD_getElem?,Array.getElem?_eq_getElem (hsz j hjn)];rfl
theorem Rep.loadCells (R:Rep P ρ H W) {i o n:Nat} {l:List Value} (h:H.read i o n=some l) {b:Addr} (ha:ρ.addr ⟨i,o,none⟩ b) :
  ∃ m,VRs ρ l m∧m.length=n∧(Go.loadCells b n).run P W=.ok m.toArray W:=by
 obtain ⟨g,f,C,e,fz,m,rfl,h1,h2,h3,h4⟩:=R.read h ha
 have hl:m.length=n:=by rw [h3.length,h2]
 refine ⟨m,h3,hl,?_⟩
 have:=run_loadCellsFrom P h1 m 0 #[] (fun j x hx=>by simpa using h4 j x hx)
 rw [hl] at this
 simpa [Go.loadCells] using this
theorem Rep.load (R:Rep P ρ H W) {i o:Nat} {v:Value} (h:H.read i o 1=some [v]) {b:Addr} (ha:ρ.addr ⟨i,o,none⟩ b) :
  ∃ x,VR ρ v x∧(Go.load b).run P W=.ok x W:=by
 obtain ⟨g,f,C,e,fz,m,rfl,h1,h2,h3,h4⟩:=R.read h ha
 cases h3 with
 | cons hv hs=>
  cases hs
  rename_i x
  refine ⟨x,hv,?_⟩
  have:W.cell? ⟨g,f,none⟩=some x:=by simp only [World.cell?,h1];simpa using h4 0 x rfl
  rw [run_load,this]
theorem Rep.getLt (R:Rep P ρ H W) {i:Nat} {p:Nat×Nat} (h:ρ.blk i=some p):i<H.n:=by
 rcases Nat.lt_or_ge i H.n with g | g
 ·exact g
 ·rw [R.new i g] at h;cases h
/-! ### a block that is turned in its place -/
theorem Rep.turn (R:Rep P ρ H W) {i:Nat} {B B':Blk} {p:Nat×Nat} (hB:H.get i=some B) (hl:live H i B) (hm:B.mut) (hp:ρ.blk i=some p) {H':Hp}
  (hg:∀ j,H'.get j=if j=i then some B' else H.get j) (hn:H'.n=H.n)
  (hs:∀ k,H'.stk k=H.stk k∨(H'.stk k=[i]∧∃ c e,B=.cells c e (some k)))
  (hsame:∀ j C,same i B' j C→same i B j C) (hsame':∀ j C,same j C i B'→same j C i B) (hlive:live H' i B') (hlen:B'.len=B.len) (hmut:B'.mut)
  (hst:∀ c e k,B=.cells c e (some k)→H'.stk k=[i]) (hB':∀ c e k,B=.cells c e (some k)→∃ c' e',B'=.cells c' e' (some k)) {W':World} (hsz:W'.heap.size=W.heap.size) (ho:∀ b,b≠p.1→W'.heap[b]? =W.heap[b]?)
  (hos:W'.os=W.os) (ht:W'.tape=W.tape) (hout:W'.output=W.output) (hBR:BR P ρ i p W' B'):Rep P ρ H' W'∧Fr ρ ρ H H' W W':=by
 have hget:∀ j C,j≠i→H'.get j=some C→H.get j=some C:=fun j C h g=>by rw [hg,if_neg h] at g;exact g
 have hlv:∀ j C,j≠i→live H' j C→live H j C:=by
  intro j C hj hc
  unfold live at hc ⊢
  split<;>rename_i k
  ·rcases hs k with g | ⟨g,_⟩
   ·simp only at hc;rw [g] at hc;exact hc
   ·simp only at hc;rw [g] at hc;simp at hc;exact absurd hc hj
  ·trivial
 have hns:∀ j C,j≠i→H'.get j=some C→live H' j C→¬same i B j C:=by
  intro j C hj hC hc hsm
  unfold same at hsm
  split at hsm
  ·rename_i k _ _ k'
   subst hsm
   have:=hst _ _ _ rfl
   unfold live at hc
   simp only at hc
   rw [this] at hc
   simp at hc
   exact hj hc
  ·exact hj hsm.symm
 have hlenH:∀ j,H'.len j=H.len j:=by
  intro j
  unfold Hp.len
  rw [hg]
  by_cases e:j=i
  ·subst e;rw [if_pos rfl,hB];simp [hlen]
  ·rw [if_neg e]
 have hdisj:∀ j C q,j≠i→H'.get j=some C→live H' j C→ρ.blk j=some q→q.1≠p.1:=fun j C q hj hC hc hq e=>
  R.sep i j B C p q hB (hget j C hj hC) hl (hlv j C hj hc) hm (hns j C hj hC hc) hp hq e.symm
 refine ⟨⟨fun j C q hj hc hq=>?_,fun a b A C pa pb ha hb hla hlb hma hn' hpa hpb=>?_,fun j hj=>R.new j (hn▸hj),fun j C hj=>?_,fun j q hq=>hsz▸R.low j q hq,R.glob,fun k j hj=>?_,fun k=>?_,hn▸R.gl⟩,
  ⟨.refl ρ,hos,ht,hout,Nat.le_of_eq hsz.symm,fun b hb hno=>ho b fun e=>hno i B p hB hm hp e.symm,fun j C q hj hc hq=>.inr ?_,Nat.le_of_eq hn.symm,fun j _ hj=>⟨hj,by rw [hg,if_neg (fun e=>by rw [e,hp] at hj;cases hj)]⟩⟩⟩
 ·by_cases e:j=i
  ·subst e;rw [hg,if_pos rfl] at hj;simp at hj;subst hj;rw [hp] at hq;simp at hq;subst hq;exact hBR
  ·have hbr:=R.blk j C q (hget j C e hj) (hlv j C e hc) hq
   exact hbr.mono (.refl ρ) hq (ho q.1 (hdisj j C q e hj hc hq))
 ·by_cases ea:a=i
  ·subst ea
   rw [hg,if_pos rfl] at ha;simp at ha;subst ha
   by_cases eb:b=a
   ·subst eb
    rw [hg,if_pos rfl] at hb;simp at hb;subst hb
    exfalso;apply hn'
    unfold same;split
    ·rename_i h1 h2;simp_all
    ·rfl
   ·rw [hp] at hpa;simp at hpa;subst hpa
    exact fun e=>hdisj b C pb eb hb hlb hpb e.symm
  ·by_cases eb:b=i
   ·subst eb
    rw [hp] at hpb;simp at hpb;subst hpb
    exact hdisj a A pa ea ha hla hpa
   ·exact R.sep a b A C pa pb (hget a A ea ha) (hget b C eb hb) (hlv a A ea hla) (hlv b C eb hlb) hma hn' hpa hpb
 ·by_cases e:j=i
  ·subst e;rw [hn];exact R.dom j B hB
  ·rw [hn];exact R.dom j C (hget j C e hj)
 ·have key:∀ c e,B=.cells c e (some k)→∃ c e,H'.get i=some (.cells c e (some k)):=fun c e hb=>by
   obtain ⟨c',e',g⟩:=hB' c e k hb
   exact ⟨c',e',by rw [hg,if_pos rfl,g]⟩
  rcases hs k with g | ⟨g,c,e,g'⟩
  ·rw [g] at hj
   obtain ⟨c,e,g'⟩:=R.mem k j hj
   by_cases e':j=i
   ·subst e';rw [hB] at g';simp at g';exact key c e g'
   ·exact ⟨c,e,by rw [hg,if_neg e'];exact g'⟩
  ·rw [g] at hj;simp at hj;subst hj;exact key c e g'
 ·rcases hs k with g | ⟨g,_⟩
  ·rw [g];exact (R.len k).congr fun m _=>hlenH m
  ·rw [g];exact ⟨by simp,trivial⟩
 ·by_cases e:j=i
  ·subst e;exact ⟨j,B,q,hB,hm,hq,rfl⟩
  ·exact ⟨j,C,q,hget j C e hj,hc,hq,rfl⟩
theorem VRs.one {ρ:Ren}:∀ {l m:List Value},l.all oneCell=true→VRs ρ l m→∀ x∈m,x.oneCell'=true
 | [],m,_,h=>by cases h;simp
 | v::l,m,h1,h=>by
  simp only [List.all_cons,Bool.and_eq_true] at h1
  cases h with
  | cons hv hs=>
   intro x hx
   rcases List.mem_cons.1 hx with e | e
   ·subst e;exact hv.oneCell h1.1
   ·exact VRs.one h1.2 hs x e
theorem Rep.write (R:Rep P ρ H W) {i o:Nat} {vs xs:List Value} {H':Hp} (h:H.write i o vs=some H') (hx:VRs ρ vs xs) {b:Addr} (ha:ρ.addr ⟨i,o,none⟩ b) :
  ∃ W',(storeCells b xs).run P W=.ok () W'∧Rep P ρ H' W'∧Fr ρ ρ H H' W W'∧W'.drawn=W.drawn∧H'.n=H.n:=by
 unfold Hp.write at h
 cases hone:vs.all oneCell with
 | false=>rw [hone] at h;simp at h
 | true=>
 rw [hone] at h
 simp only at h
 cases hg:H.get i with
 | none=>rw [hg] at h;simp at h
 | some B=>
 rw [hg] at h
 simp only [Option.bind_some] at h
 have hx1:∀ x∈xs,x.oneCell'=true:=hx.one hone
 cases B with
 | ro c=>simp [Hp.writeIn] at h
 | map es ck=>simp [Hp.writeIn] at h
 | loop l=>simp [Hp.writeIn] at h
 | defs d=>simp [Hp.writeIn] at h
 | cells c e cls=>
  have hc:live H i (.cells c e cls)∧∃ c',splice c o vs=some c'∧((cls=none∧H'=H.put i (.cells c' e none))∨∃ k,cls=some k∧H'=H.put1 i (.cells c' e (some k)) k):=by
   cases cls with
   | none=>
    simp only [Hp.writeIn] at h
    cases hs:splice c o vs with
    | none=>rw [hs] at h;simp at h
    | some c'=>rw [hs] at h;simp at h;exact ⟨trivial,c',rfl,.inl ⟨rfl,h.symm⟩⟩
   | some k=>
    simp only [Hp.writeIn] at h
    cases hm:memN i (H.stk k) with
    | false=>rw [hm] at h;simp at h
    | true=>
     rw [hm] at h
     simp only at h
     cases hs:splice c o vs with
     | none=>rw [hs] at h;simp at h
     | some c'=>rw [hs] at h;simp at h;exact ⟨memN_iff.1 hm,c',rfl,.inr ⟨k,rfl,h.symm⟩⟩
  obtain ⟨hl,c',hsp,hH⟩:=hc
  obtain ⟨_,p,hp,rfl⟩:=ha
  simp only at hp
  obtain ⟨C,fz,h1,h2,h3,h4,h5⟩:=R.blk i _ p hg hl hp
  rw [h2,Nat.zero_add]
  obtain ⟨s1,s2,s3⟩:=splice_spec hsp
  have hcs:c.length≤C.size:=by
   rcases Nat.eq_zero_or_pos c.length with g | g
   ·omega
   ·obtain ⟨x,hx,_⟩:=h4 (c.length-1) _ (List.getElem?_eq_getElem (by omega))
    have:=(Array.getElem?_eq_some_iff.1 hx).1
    omega
  have hsz:xs=[]∨o+0+xs.length≤C.size:=by
   rcases s2 with g | g
   ·subst g;cases hx;exact .inl rfl
   ·right;rw [hx.length];omega
  have hst:=run_storeCells P xs 0 C W h1 hx1 hsz h3
  have hb:p.1<W.heap.size:=(Array.getElem?_eq_some_iff.1 h1).1
  refine ⟨_,hst,?_⟩
  have hget':∀ (j:Nat) (v:Value),c'[j]? =some v→∃ x,(setL C (o+0) xs)[j]? =some x∧VR ρ v x:=by
   intro j v hj
   rw [s3] at hj
   rcases hsz with g | g
   ·subst g
    have:vs=[]:=by cases hx;rfl
    subst this
    rw [if_neg (by simp only [List.length_nil];omega)] at hj
    exact h4 j v hj
   ·rw [setL_get _ _ _ _ g,hx.length,Nat.add_zero]
    by_cases hr:o≤j∧j<o+vs.length
    ·rw [if_pos hr] at hj ⊢;exact hx.get hj
    ·rw [if_neg hr] at hj ⊢;exact h4 j v hj
  have hBR:BR P ρ i p (wput W p.1 (.cells (setL C (o+0) xs) e fz)) (.cells c' e cls):=
   ⟨_,fz,wput_same W hb _,h2,by rw [setL_size];exact h3,hget',fun hc=>by rw [setL_size];exact h5 hc⟩
  have fin:=fun (hg':∀ j,H'.get j=if j=i then some (.cells c' e cls) else H.get j) (hn:H'.n=H.n) hs hlive hst'=>
   R.turn (B':=.cells c' e cls) hg hl trivial hp hg' hn hs (fun j C h=>by unfold same at h ⊢;cases C<;>(first | exact h | (split<;>simp_all)))
    (fun j C h=>by unfold same at h ⊢;cases C<;>(first | exact h | (split<;>simp_all))) hlive (by simp [Blk.len,s1]) trivial hst' (fun c2 e2 k2 h=>by simp at h;obtain ⟨_,_,rfl⟩:=h;exact ⟨_,_,rfl⟩) (wput_size W p.1 (.cells (setL C (o+0) xs) e fz)) (fun b hb=>wput_other W hb _) rfl rfl rfl hBR
  rcases hH with ⟨rfl,rfl⟩ | ⟨k,rfl,rfl⟩
  ·obtain ⟨r1,r2⟩:=fin (fun j=>by simp) (by simp) (fun k=>.inl (by simp)) trivial (fun c2 e2 k hk=>by simp at hk)
   exact ⟨r1,r2,rfl,by simp⟩
  ·obtain ⟨r1,r2⟩:=fin (fun j=>by simp) (by simp) (fun k'=>by
     by_cases e':k'=k
     ·subst e';exact .inr ⟨by simp,c,e,rfl⟩
     ·exact .inl (by simp [e'])) (by simp [live]) (fun c2 e2 k2 hk=>by simp at hk;obtain ⟨_,_,rfl⟩:=hk;simp)
   exact ⟨r1,r2,rfl,by simp⟩
end Go.Sim
namespace Go.Sim
open Go
variable {P:Program} {ρ:Ren} {H:Hp} {W:World}
def Blk.solo:Blk→Prop
 | .cells _ _ (some _)=>False
 | _=>True
theorem Rep.drew (R:Rep P ρ H W) (n:Nat):Rep P ρ H { W with drawn:=n }:=
 ⟨fun i B p h1 h2 h3=>(R.blk i B p h1 h2 h3).mono (.refl ρ) h3 rfl,R.sep,R.new,R.dom,R.low,R.glob,R.mem,R.len,R.gl⟩
theorem Fr.drew (n:Nat):Fr ρ ρ H H W { W with drawn:=n }:=
 ⟨.refl ρ,rfl,rfl,rfl,Nat.le_refl _,fun _ _ _=>rfl,fun i B p h1 h2 h3=>.inr ⟨i,B,p,h1,h2,h3,rfl⟩,Nat.le_refl _,fun _ _ h=>⟨h,rfl⟩⟩
theorem Rep.skip (R:Rep P ρ H W) (p:Nat×Nat) (hp:p.1<W.heap.size) (c:Nat):Rep P (ρ.add H.n p c) H.skip W∧Fr ρ (ρ.add H.n p c) H H.skip W W:=by
 have hnew:ρ.blk H.n=none:=R.new _ (Nat.le_refl _)
 have hext:=Ren.ext_add hnew p c
 have hne:∀ i B,H.get i=some B→i≠H.n:=fun i B h e=>by have:=R.dom i B h;omega
 refine ⟨⟨fun i B q h hl hq=>?_,fun i j B C q r hi hj hli hlj hm hn hq hr=>?_,fun i hi=>?_,fun i B h=>?_,fun i q hq=>?_,fun g hg=>?_,fun k j hj=>?_,fun k=>?_,?_⟩,
  ⟨hext,rfl,rfl,rfl,Nat.le_refl _,fun _ _ _=>rfl,fun i B q h1 h2 h3=>.inr ?_,by simp,fun i hi hn=>⟨by rw [Ren.add_other _ (by omega)];exact hn,by rw [Hp.get_skip]⟩⟩⟩
 ·rw [Hp.get_skip] at h
  rw [Ren.add_other _ (hne i B h)] at hq
  exact (R.blk i B q h (by unfold live at hl ⊢;split<;>simp_all) hq).mono hext hq rfl
 ·rw [Hp.get_skip] at hi hj
  rw [Ren.add_other _ (hne i B hi)] at hq
  rw [Ren.add_other _ (hne j C hj)] at hr
  exact R.sep i j B C q r hi hj (by unfold live at hli ⊢;split<;>simp_all) (by unfold live at hlj ⊢;split<;>simp_all) hm hn hq hr
 ·simp only [Hp.n_skip] at hi
  rw [Ren.add_other _ (by omega)];exact R.new i (by omega)
 ·rw [Hp.get_skip] at h;have:=R.dom i B h;simp only [Hp.n_skip];omega
 ·by_cases e:i=H.n
  ·subst e;rw [Ren.add_same] at hq;simp at hq;subst hq;exact hp
  ·rw [Ren.add_other _ e] at hq;exact R.low i q hq
 ·rw [Ren.add_other _ (by have:=R.gl;omega)];exact R.glob g hg
 ·rw [Hp.stk_skip] at hj;rw [Hp.get_skip];exact R.mem k j hj
 ·rw [Hp.stk_skip];exact (R.len k).congr fun m _=>by unfold Hp.len;rw [Hp.get_skip]
 ·have:=R.gl;simp only [Hp.n_skip];omega
 ·rw [Hp.get_skip] at h1
  exact ⟨i,B,q,h1,h2,by rwa [Ren.add_other _ (hne i B h1)] at h3,rfl⟩
theorem Rep.fresh (R:Rep P ρ H W) {B:Blk} {o:Obj} {H':Hp} (c:Nat) (hg:∀ j,H'.get j=if j=H.n then some B else H.get j) (hn:H'.n=H.n+1)
  (hs:∀ k,H'.stk k=H.stk k∨(H'.stk k=[H.n]∧∃ c e,B=.cells c e (some k))) (hB:B.solo∨∃ c e,B=.cells c e (some H.n))
  {W':World} (hh:W'.heap=W.heap.push o) (hos:W'.os=W.os) (ht:W'.tape=W.tape) (hout:W'.output=W.output)
  (hBR:BR P (ρ.add H.n (W.heap.size,0) c) H.n (W.heap.size,0) W' B):Rep P (ρ.add H.n (W.heap.size,0) c) H' W'∧Fr ρ (ρ.add H.n (W.heap.size,0) c) H H' W W':=by
 have hnew:ρ.blk H.n=none:=R.new _ (Nat.le_refl _)
 have hext:=Ren.ext_add hnew (W.heap.size,0) c
 have hne:∀ i B,H.get i=some B→i≠H.n:=fun i B h e=>by have:=R.dom i B h;omega
 have hget:∀ i C,i≠H.n→H'.get i=some C→H.get i=some C:=fun i C h g=>by rw [hg,if_neg h] at g;exact g
 have hold:∀ b,b<W.heap.size→W'.heap[b]? =W.heap[b]?:=fun b hb=>by rw [hh,Array.getElem?_push,if_neg (by omega)]
 have hlv:∀ i C,i≠H.n→live H' i C→live H i C:=by
  intro i C hi hl
  unfold live at hl ⊢
  split<;>rename_i k
  ·simp only at hl
   rcases hs k with g | ⟨g,_⟩
   ·rw [g] at hl;exact hl
   ·rw [g] at hl;simp at hl;exact absurd hl hi
  ·trivial
 have hlen:∀ m,m≠H.n→H'.len m=H.len m:=fun m hm=>by unfold Hp.len;rw [hg,if_neg hm]
 refine ⟨⟨fun i C q h hl hq=>?_,fun i j A C q r hi hj hli hlj hm hnn hq hr=>?_,fun i hi=>?_,fun i C h=>?_,fun i q hq=>?_,fun g hg'=>?_,fun k j hj=>?_,fun k=>?_,?_⟩,
  ⟨hext,hos,ht,hout,by rw [hh];simp,fun b hb _=>hold b hb,fun i C q h1 h2 h3=>?_,by omega,fun i hi hn'=>⟨by rw [Ren.add_other _ (by omega)];exact hn',by rw [hg,if_neg (by omega)]⟩⟩⟩
 ·by_cases e:i=H.n
  ·subst e;rw [hg,if_pos rfl] at h;simp at h;subst h;rw [Ren.add_same] at hq;simp at hq;subst hq;exact hBR
  ·rw [Ren.add_other _ e] at hq
   exact (R.blk i C q (hget i C e h) (hlv i C e hl) hq).mono hext hq (hold _ (R.low i q hq))
 ·by_cases ei:i=H.n
  ·subst ei
   rw [Ren.add_same] at hq;simp at hq;subst hq
   by_cases ej:j=H.n
   ·subst ej
    rw [hi] at hj;simp at hj;subst hj
    exfalso;apply hnn;unfold same;split
    ·rename_i h1 h2;simp_all
    ·rfl
   ·rw [Ren.add_other _ ej] at hr
    have:=R.low j r hr
    simp only;omega
  ·rw [Ren.add_other _ ei] at hq
   have hlow:=R.low i q hq
   by_cases ej:j=H.n
   ·subst ej;rw [Ren.add_same] at hr;simp at hr;subst hr;simp only;omega
   ·rw [Ren.add_other _ ej] at hr
    exact R.sep i j A C q r (hget i A ei hi) (hget j C ej hj) (hlv i A ei hli) (hlv j C ej hlj) hm hnn hq hr
 ·rw [Ren.add_other _ (by omega)];exact R.new i (by omega)
 ·by_cases e:i=H.n
  ·omega
  ·have:=R.dom i C (hget i C e h);omega
 ·rw [hh]
  by_cases e:i=H.n
  ·subst e;rw [Ren.add_same] at hq;simp at hq;subst hq;simp
  ·rw [Ren.add_other _ e] at hq;have:=R.low i q hq;simp;omega
 ·rw [Ren.add_other _ (by have:=R.gl;omega)];exact R.glob g hg'
 ·rcases hs k with g | ⟨g,g'⟩<;>rw [g] at hj
  ·have:=R.stk hj
   rw [hg,if_neg (by omega)];exact R.mem k j hj
  ·simp at hj;subst hj
   obtain ⟨c,e,rfl⟩:=g'
   exact ⟨c,e,by rw [hg,if_pos rfl]⟩
 ·rcases hs k with g | ⟨g,_⟩<;>rw [g]
  ·exact (R.len k).congr fun m hm=>hlen m (by have:=R.stk hm;omega)
  ·exact ⟨by simp,trivial⟩
 ·have:=R.gl;omega
 ·by_cases e:i=H.n
  ·subst e;rw [Ren.add_same] at h3;simp at h3;subst h3;exact .inl (Nat.le_refl _)
  ·rw [Ren.add_other _ e] at h3;exact .inr ⟨i,C,q,hget i C e h1,h2,h3,rfl⟩
theorem Rep.newRow (R:Rep P ρ H W) {vs:List Value} {C:Array Value} (e:TypeId) (hv:VRs ρ vs C.toList) :
  Rep P (ρ.add H.n (W.heap.size,0) 0) (H.new (.cells vs e none)) (W.alloc (.cells C e))∧Fr ρ (ρ.add H.n (W.heap.size,0) 0) H (H.new (.cells vs e none)) W (W.alloc (.cells C e)):=by
 have hext:=Ren.ext_add (R.new _ (Nat.le_refl _)) (W.heap.size,0) 0
 refine R.fresh (B:=.cells vs e none) (o:=.cells C e) 0 (fun j=>by simp) (by simp) (fun k=>.inl (by simp)) (.inl trivial) rfl rfl rfl rfl ⟨C,(0,0),(by show (W.heap.push _)[W.heap.size]? =_;simp),rfl,fun j _ h=>by simp at h,fun j v hj=>?_,fun h=>absurd rfl h⟩
 obtain ⟨x,hx,hr⟩:=hv.get hj
 exact ⟨x,by simpa using hx,hr.mono hext⟩
theorem Rep.newObj (R:Rep P ρ H W) {B:Blk} {o:Obj} (hB:B.solo) (hBR:BR P (ρ.add H.n (W.heap.size,0) 0) H.n (W.heap.size,0) (W.alloc o) B) :
  Rep P (ρ.add H.n (W.heap.size,0) 0) (H.new B) (W.alloc o)∧Fr ρ (ρ.add H.n (W.heap.size,0) 0) H (H.new B) W (W.alloc o):=
 R.fresh (o:=o) 0 (fun j=>by simp) (by simp) (fun k=>.inl (by simp)) (.inl hB) rfl rfl rfl rfl hBR
theorem Rep.newCls (R:Rep P ρ H W) {vs:List Value} {C:Array Value} {e sz cap:Nat} {W1:World} (h1:W1.heap=W.heap) (hos:W1.os=W.os) (ht:W1.tape=W.tape) (hout:W1.output=W.output)
  (hv:∀ (j:Nat) (v:Value),vs[j]? =some v→∃ x,C[j]? =some x∧VR ρ v x) (hs:sizeT P e=some sz) (hc:cap*sz≤C.size) :
  Rep P (ρ.add H.n (W.heap.size,0) cap) (H.newIn vs e H.n [H.n]) (W1.alloc (.cells C e))∧Fr ρ (ρ.add H.n (W.heap.size,0) cap) H (H.newIn vs e H.n [H.n]) W (W1.alloc (.cells C e)):=by
 have hext:=Ren.ext_add (R.new _ (Nat.le_refl _)) (W.heap.size,0) cap
 refine R.fresh (B:=.cells vs e (some H.n)) cap (o:=.cells C e) (fun j=>by simp) (by simp) (fun k=>by
   by_cases hk:k=H.n
   ·subst hk;exact .inr ⟨by simp,_,_,rfl⟩
   ·exact .inl (by simp [hk])) (.inr ⟨_,_,rfl⟩) (by show W1.heap.push _=_;rw [h1]) hos ht hout
  ⟨C,(0,0),(by show (W1.heap.push _)[W.heap.size]? =_;rw [h1];simp),rfl,fun j _ h=>by simp at h,fun j v hj=>?_,fun _=>⟨sz,hs,by rw [Ren.add_cap];exact hc⟩⟩
 obtain ⟨x,hx,hr⟩:=hv j v hj
 exact ⟨x,hx,hr.mono hext⟩
/-! ### append where it may write behind the row's end -/
theorem cutE_spec:∀ {c:List Value} {n:Nat} {l:List Value} {b:Bool},cutE c n=some (l,b)→l.length=n∧n≤c.length∧l=c.take n∧(b=true→c.length=n)
 | [],0,l,b,h=>by simp [cutE] at h;obtain ⟨rfl,rfl⟩:=h;simp
 | v::c,0,l,b,h=>by simp [cutE] at h;obtain ⟨rfl,rfl⟩:=h;simp
 | [],n+1,l,b,h=>by simp [cutE] at h
 | v::c,n+1,l,b,h=>by
  simp only [cutE] at h
  split at h
  ·rename_i r b' hr
   simp at h;obtain ⟨rfl,rfl⟩:=h
   obtain ⟨h1,h2,h3,h4⟩:=cutE_spec hr
   exact ⟨by simp [h1],by simp;omega,by simp [← h3],fun hb=>by simp [h4 hb]⟩
  ·simp at h
theorem keepS_spec {i:Nat} {full:Bool}:∀ {s:List Nat},i∈s→∃ t,keepS i full s=i::t∧(full=false→t=[])∧∃ pre post n',s=pre++i::post∧t=post.take n'
 | j::l,h=>by
  unfold keepS
  cases hb:Nat.beq j i with
  | true=>
   have e:=Nat.eq_of_beq_eq_true hb
   subst e
   cases full with
   | true=>exact ⟨l.take 99,rfl,by simp,[],l,99,rfl,rfl⟩
   | false=>exact ⟨[],rfl,fun _=>rfl,[],l,0,rfl,by simp⟩
  | false=>
   have hij:i≠j:=fun e=>by subst e;simp at hb
   have:i∈l:=by rcases List.mem_cons.1 h with e | e;exact absurd e hij;exact e
   obtain ⟨t,h1,h2,pre,post,n',h3,h4⟩:=keepS_spec (full:=full) this
   exact ⟨t,h1,h2,j::pre,post,n',by simp [h3],h4⟩
theorem sorted_mem {H:Hp} {i:Nat}:∀ {pre post:List Nat},Sorted H (pre++i::post)→(∀ m∈post,H.len m≤H.len i)∧Sorted H post
 | [],post,h=>h
 | j::pre,post,h=>sorted_mem (pre:=pre) h.2
theorem Sorted.sub {H:Hp}:∀ {l:List Nat},Sorted H l→∀ n,Sorted H (l.take n)
 | [],_,n=>by simp [Sorted]
 | j::l,h,0=>by simp [Sorted]
 | j::l,h,n+1=>⟨fun m hm=>h.1 m (List.mem_of_mem_take hm),Sorted.sub h.2 n⟩
theorem Rep.grow (R:Rep P ρ H W) {i k n e sz cap:Nat} {cs old new:List Value} {full:Bool} (hg:H.get i=some (.cells cs e (some k))) (hl:i∈H.stk k) (hcut:cutE cs n=some (old,full))
  {p q:Nat×Nat} (hp:ρ.blk i=some p) {C C':Array Value} {fz fz':Nat×Nat} (hC:W.heap[p.1]? =some (.cells C e fz)) (hs:sizeT P e=some sz) {W':World}
  (hq2:q.2=0) (hC':W'.heap[q.1]? =some (.cells C' e fz')) (hfz:thawed C'.size fz') (hcap:cap*sz≤C'.size)
  (hnew:∀ (j:Nat) (v:Value),(old++new)[j]? =some v→∃ x,C'[j]? =some x∧VR ρ v x)
  (hq:q.1=W.heap.size∨(q=p∧C'.size=C.size∧fz'=fz∧∀ j,j<n→C'[j]? =C[j]?))
  (hsz:W.heap.size≤W'.heap.size) (hlt:q.1<W'.heap.size) (ho:∀ b,b<W.heap.size→b≠q.1→W'.heap[b]? =W.heap[b]?) (hos:W'.os=W.os) (ht:W'.tape=W.tape) (hout:W'.output=W.output) :
  let H':=Hp.newIn (H.put i (.cells old e (some k))) (old++new) e k (H.n::keepS i full (H.stk k))
  Rep P (ρ.add H.n q cap) H' W'∧Fr ρ (ρ.add H.n q cap) H H' W W':=by
 intro H'
 have hfresh:ρ.blk H.n=none:=R.new _ (Nat.le_refl _)
 have hext:=Ren.ext_add hfresh q cap
 have hne:∀ j B,H.get j=some B→j≠H.n:=fun j B h e=>by have:=R.dom j B h;omega
 have hin:i≠H.n:=hne i _ hg
 obtain ⟨c1,c2,c3,c4⟩:=cutE_spec hcut
 obtain ⟨t,k1,k2,pre,post,n',k3,k5⟩:=keepS_spec (full:=full) hl
 have k4:∀ m,m∈t→m∈post:=fun m hm=>by rw [k5] at hm;exact List.mem_of_mem_take hm
 obtain ⟨C0,fz0,b1,b2,b3,b4,b5⟩:=R.blk i _ p hg hl hp
 rw [hC] at b1;simp at b1;obtain ⟨rfl,rfl⟩:=b1
 have hget:∀ j,H'.get j=if j=H.n then some (.cells (old++new) e (some k)) else if j=i then some (.cells old e (some k)) else H.get j:=fun j=>by simp [H']
 have hstk:∀ j,H'.stk j=if j=k then H.n::i::t else H.stk j:=fun j=>by simp [H',k1]
 have hn':H'.n=H.n+1:=by simp [H']
 have hsub:∀ m,m∈t→m∈H.stk k:=fun m hm=>by rw [k3];simp [k4 m hm]
 have hgo:∀ j B,j≠H.n→j≠i→H'.get j=some B→H.get j=some B:=fun j B h1 h2 h=>by rw [hget,if_neg h1,if_neg h2] at h;exact h
 have hlv:∀ j B,j≠H.n→j≠i→live H' j B→live H j B:=by
  intro j B h1 h2 h
  unfold live at h ⊢
  split<;>rename_i k'
  ·simp only at h
   rw [hstk] at h
   split at h
   ·rename_i e';subst e'
    rcases List.mem_cons.1 h with g | g
    ·exact absurd g h1
    ·rcases List.mem_cons.1 g with g | g
     ·exact absurd g h2
     ·exact hsub j g
   ·exact h
  ·trivial
 have hlenold:H.len i=cs.length:=by simp [Hp.len,hg,Blk.len]
 have hold:∀ m,m∈t→H.len m≤n∧full=true:=by
  intro m hm
  cases hf:full with
  | false=>rw [k2 hf] at hm;simp at hm
  | true=>
   have:=(sorted_mem (k3▸R.len k)).1 m (k4 m hm)
   rw [hlenold,c4 hf] at this
   exact ⟨this,rfl⟩
 -- where a row lies that is none of the two
 have hwhere:∀ j B r,j≠H.n→j≠i→H'.get j=some B→live H' j B→ρ.blk j=some r→r.1≠q.1∨(q=p∧∃ c,B=.cells c e (some k)∧c.length≤n)∨(q=p∧∃ c e',B=.cells c e' (some k)∧c.length≤n):=by
  intro j B r h1 h2 h3 h4 h5
  rcases hq with g | ⟨g,_⟩
  ·exact .inl (by have:=R.low j r h5;omega)
  ·by_cases hsm:same i (.cells cs e (some k)) j B
   ·cases B with
    | cells c e' cls=>
     cases cls with
     | none=>exact absurd hsm (fun h=>by simp [same] at h;exact h2 h.symm)
     | some k'=>
      simp [same] at hsm;subst hsm
      have hmem:j∈t:=by
       have:=h4;simp [live] at this;rw [hstk,if_pos rfl] at this
       rcases List.mem_cons.1 this with g' | g'
       ·exact absurd g' h1
       ·rcases List.mem_cons.1 g' with g' | g'
        ·exact absurd g' h2
        ·exact g'
      have:=(hold j hmem).1
      have hl':H.len j=c.length:=by simp [Hp.len,hgo j _ h1 h2 h3,Blk.len]
      exact .inr (.inr ⟨g,c,e',rfl,by omega⟩)
    | _=>simp [same] at hsm;exact absurd hsm.symm h2
   ·left
    rw [g]
    exact fun e'=>R.sep i j _ B p r hg (hgo j B h1 h2 h3) hl (hlv j B h1 h2 h4) trivial hsm hp h5 e'.symm
 refine ⟨⟨fun j B r hj hlj hr=>?_,fun a b A B pa pb ha hb hla hlb hma hns hpa hpb=>?_,fun j hj=>?_,fun j B hj=>?_,fun j r hr=>?_,fun g hg'=>?_,fun k' j hj=>?_,fun k'=>?_,?_⟩,
  ⟨hext,hos,ht,hout,hsz,fun b hb hno=>?_,fun j B r h1 h2 h3=>?_,by omega,fun j hj hn0=>⟨by rw [Ren.add_other _ (by omega)];exact hn0,by rw [hget,if_neg (by omega),if_neg (fun e=>by rw [e,hp] at hn0;cases hn0)]⟩⟩⟩
 ·by_cases e1:j=H.n
  ·subst e1
   rw [hget,if_pos rfl] at hj;simp at hj;subst hj
   rw [Ren.add_same] at hr;simp at hr;subst hr
   refine ⟨C',fz',hC',hq2,hfz,fun m v hm=>?_,fun _=>⟨sz,hs,by rw [Ren.add_cap];exact hcap⟩⟩
   obtain ⟨x,hx,hv⟩:=hnew m v hm;exact ⟨x,hx,hv.mono hext⟩
  ·by_cases e2:j=i
   ·subst e2
    rw [hget,if_neg e1,if_pos rfl] at hj;simp at hj;subst hj
    rw [Ren.add_other _ e1,hp] at hr;simp at hr;subst hr
    have hb4:∀ (m:Nat) (v:Value),old[m]? =some v→∃ x,C[m]? =some x∧VR ρ v x:=fun m v hm=>b4 m v (by
     rw [c3,List.getElem?_take] at hm;split at hm;exact hm;simp at hm)
    obtain ⟨sz',s1,s2⟩:=b5 (by simp)
    rcases hq with g | ⟨rfl,g2,rfl,g3⟩
    ·have hpn:p.1≠q.1:=by have:=R.low j p hp;omega
     refine ⟨C,fz,(ho p.1 (R.low j p hp) hpn).trans hC,b2,b3,fun m v hm=>?_,fun _=>⟨sz',s1,by rw [(hext _ _ hp).2];exact s2⟩⟩
     obtain ⟨x,hx,hv⟩:=hb4 m v hm;exact ⟨x,hx,hv.mono hext⟩
    ·refine ⟨C',fz',hC',b2,hfz,fun m v hm=>?_,fun _=>⟨sz',s1,by rw [(hext _ _ hp).2,g2];exact s2⟩⟩
     obtain ⟨x,hx,hv⟩:=hb4 m v hm
     have hmn:m<n:=by have:=(List.getElem?_eq_some_iff.1 hm).1;omega
     exact ⟨x,by rw [g3 m hmn];exact hx,hv.mono hext⟩
   ·rw [Ren.add_other _ e1] at hr
    have hbr:=R.blk j B r (hgo j B e1 e2 hj) (hlv j B e1 e2 hlj) hr
    by_cases hrq:r.1=q.1
    ·rcases hwhere j B r e1 e2 hj hlj hr with g | ⟨g,c,rfl,hcl⟩ | ⟨g,c,e',rfl,hcl⟩
     ·exact absurd hrq g
     all_goals
      obtain ⟨C2,fz2,d1,d2,d3,d4,d5⟩:=hbr
      rcases hq with g' | ⟨_,g2,g4,g3⟩
      ·have:=R.low j r hr;omega
      ·subst g
       rw [hrq,hC] at d1
       simp at d1;obtain ⟨rfl,rfl,rfl⟩:=d1
       refine ⟨C',fz',by rw [hrq];exact hC',d2,hfz,fun m v hm=>?_,fun _=>?_⟩
       ·obtain ⟨x,hx,hv⟩:=d4 m v hm
        have hmn:m<n:=by have:=(List.getElem?_eq_some_iff.1 hm).1;omega
        exact ⟨x,by rw [g3 m hmn];exact hx,hv.mono hext⟩
       ·obtain ⟨sz',s1,s2⟩:=d5 (by simp)
        exact ⟨sz',s1,by rw [(hext _ _ hr).2,g2];exact s2⟩
    ·exact hbr.mono hext hr (ho r.1 (R.low j r hr) hrq)
 ·-- the class of a row, as far as it counts here
  have sy:∀ x X y Y,same x X y Y→same y Y x X:=by
   intro x X y Y h
   rcases X with ⟨c1,e1,_ | k1⟩ | _ | _ | _ | _<;>rcases Y with ⟨c2,e2,_ | k2⟩ | _ | _ | _ | _<;>exact Eq.symm h
  have far:∀ x X r,x≠H.n→x≠i→H'.get x=some X→live H' x X→¬same x X i (.cells cs e (some k))→ρ.blk x=some r→r.1≠q.1∧r.1≠p.1:=by
   intro x X r h1 h2 h3 h4 h5 h6
   have hpr:p.1≠r.1:=R.sep i x _ X p r hg (hgo x X h1 h2 h3) hl (hlv x X h1 h2 h4) trivial (fun hh=>h5 (sy _ _ _ _ hh)) hp h6
   rcases hq with g | ⟨g,_⟩
   ·exact ⟨by have:=R.low x r h6;omega,hpr.symm⟩
   ·rw [g];exact ⟨hpr.symm,hpr.symm⟩
  have cl:∀ x X c,x≠H.n→x≠i→(same x X i (.cells c e (some k))↔same x X i (.cells cs e (some k))):=by
   intro x X c _ _;unfold same;cases X with
   | cells c' e' cls=>cases cls<;>rfl
   | _=>rfl
  have cl2:∀ x X c,x≠H.n→x≠i→same x X i (.cells cs e (some k))→same x X H.n (.cells c e (some k)):=by
   intro x X c h1 h2 h;unfold same at h ⊢;cases X with
   | cells c' e' cls=>cases cls with
    | none=>exact absurd h h2
    | some k'=>exact h
   | _=>exact absurd h h2
  by_cases ea:a=H.n
  ·subst ea
   rw [hget,if_pos rfl] at ha;simp at ha;subst ha
   rw [Ren.add_same] at hpa;simp at hpa;subst hpa
   by_cases eb:b=H.n
   ·subst eb;rw [hget,if_pos rfl] at hb;simp at hb;subst hb;exact absurd rfl hns
   ·rw [Ren.add_other _ eb] at hpb
    by_cases eb2:b=i
    ·subst eb2;rw [hget,if_neg eb,if_pos rfl] at hb;simp at hb;subst hb;exact absurd rfl hns
    ·exact fun e'=>(far b B pb eb eb2 hb hlb (fun hh=>hns (sy _ _ _ _ (cl2 b B _ eb eb2 hh))) hpb).1 e'.symm
  ·rw [Ren.add_other _ ea] at hpa
   by_cases ea2:a=i
   ·subst ea2
    rw [hget,if_neg ea,if_pos rfl] at ha;simp at ha;subst ha
    rw [hp] at hpa;simp at hpa;subst hpa
    by_cases eb:b=H.n
    ·subst eb;rw [hget,if_pos rfl] at hb;simp at hb;subst hb;exact absurd rfl hns
    ·rw [Ren.add_other _ eb] at hpb
     by_cases eb2:b=a
     ·subst eb2;rw [hget,if_neg eb,if_pos rfl] at hb;simp at hb;subst hb;exact absurd rfl hns
     ·exact fun e'=>(far b B pb eb eb2 hb hlb (fun hh=>hns (sy _ _ _ _ ((cl b B _ eb eb2).2 hh))) hpb).2 e'.symm
   ·by_cases eb:b=H.n
    ·subst eb;rw [hget,if_pos rfl] at hb;simp at hb;subst hb
     rw [Ren.add_same] at hpb;simp at hpb;subst hpb
     exact (far a A pa ea ea2 ha hla (fun hh=>hns (cl2 a A _ ea ea2 hh)) hpa).1
    ·rw [Ren.add_other _ eb] at hpb
     by_cases eb2:b=i
     ·subst eb2;rw [hget,if_neg eb,if_pos rfl] at hb;simp at hb;subst hb
      rw [hp] at hpb;simp at hpb;subst hpb
      exact (far a A pa ea ea2 ha hla (fun hh=>hns ((cl a A _ ea ea2).2 hh)) hpa).2
     ·exact R.sep a b A B pa pb (hgo a A ea ea2 ha) (hgo b B eb eb2 hb) (hlv a A ea ea2 hla) (hlv b B eb eb2 hlb) hma hns hpa hpb
 ·rw [Ren.add_other _ (by omega)];exact R.new j (by omega)
 ·by_cases e1:j=H.n
  ·omega
  ·by_cases e2:j=i
   ·subst e2;have:=R.dom j _ hg;omega
   ·have:=R.dom j B (hgo j B e1 e2 hj);omega
 ·by_cases e1:j=H.n
  ·subst e1;rw [Ren.add_same] at hr;simp at hr;subst hr;exact hlt
  ·rw [Ren.add_other _ e1] at hr;have:=R.low j r hr;omega
 ·rw [Ren.add_other _ (by have:=R.gl;omega)];exact R.glob g hg'
 ·rw [hstk] at hj
  split at hj
  ·rename_i hk;subst hk
   rcases List.mem_cons.1 hj with g | g
   ·subst g;exact ⟨_,_,by rw [hget,if_pos rfl]⟩
   ·by_cases h2:j=i
    ·subst h2;exact ⟨_,_,by rw [hget,if_neg hin,if_pos rfl]⟩
    ·have hm:=hsub j (by rcases List.mem_cons.1 g with g | g;exact absurd g h2;exact g)
     have:=R.stk hm
     rw [hget,if_neg (by omega),if_neg h2];exact R.mem _ j hm
  ·rename_i hk
   have:=R.stk hj
   obtain ⟨c',e',g⟩:=R.mem k' j hj
   have h2:j≠i:=fun h2=>by subst h2;rw [hg] at g;simp at g;exact hk g.2.2.symm
   rw [hget,if_neg (by omega),if_neg h2];exact ⟨c',e',g⟩
 ·have l1:H'.len H.n=(old++new).length:=by unfold Hp.len;rw [hget,if_pos rfl];rfl
  have l2:H'.len i=n:=by unfold Hp.len;rw [hget,if_neg hin,if_pos rfl];simp [Blk.len,c1]
  have l3:∀ m,m≠H.n→m≠i→H'.len m=H.len m:=fun m h1 h2=>by unfold Hp.len;rw [hget,if_neg h1,if_neg h2]
  rw [hstk]
  split
  ·have l4:∀ m,m∈t→H'.len m=H.len m:=by
    intro m hm
    have h1:m≠H.n:=by have:=R.stk (hsub m hm);omega
    by_cases h2:m=i
    ·subst h2;rw [l2,hlenold,c4 (hold m hm).2]
    ·exact l3 m h1 h2
   refine ⟨fun m hm=>?_,fun m hm=>?_,?_⟩
   ·rw [l1]
    rcases List.mem_cons.1 hm with g | g
    ·rw [g,l2];simp [c1]
    ·rw [l4 m g];have:=(hold m g).1;simp [c1];omega
   ·rw [l2,l4 m hm];exact (hold m hm).1
   ·refine Sorted.congr l4 ?_
    rw [k5];exact (sorted_mem (k3▸R.len k)).2.sub n'
  ·rename_i hk
   refine (R.len k').congr fun m hm=>?_
   have h1:m≠H.n:=by have:=R.stk hm;omega
   by_cases h2:m=i
   ·subst h2
    obtain ⟨c',e',g⟩:=R.mem k' m hm
    rw [hg] at g;simp at g;exact absurd g.2.2.symm hk
   ·exact l3 m h1 h2
 ·have:=R.gl;omega
 ·refine ho b hb fun e'=>?_
  rcases hq with g | ⟨g,_⟩
  ·omega
  ·exact hno i _ p hg trivial hp (by rw [e',g])
 ·by_cases e1:j=H.n
  ·subst e1;rw [Ren.add_same] at h3;simp at h3;subst h3
   rcases hq with g | ⟨g,_⟩
   ·exact .inl (by omega)
   ·exact .inr ⟨i,_,p,hg,trivial,hp,by rw [g]⟩
  ·rw [Ren.add_other _ e1] at h3
   by_cases e2:j=i
   ·subst e2;exact .inr ⟨j,_,r,hg,trivial,h3,rfl⟩
   ·exact .inr ⟨j,B,r,hgo j B e1 e2 h1,h2,h3,rfl⟩
end Go.Sim
namespace Go.Sim
open Go
variable {P:Program} {ρ:Ren} {H:Hp} {W:World}
theorem run_value {s:Sem Value} {x:Value} {W W':World} (h:s.run P W=.ok x W'):(do pure (Next.value (← s)):Sem Next).run P W=.ok (.value x) W':=by
 simp [h]
theorem run_unit {s:Sem Unit} {W W':World} (h:s.run P W=.ok () W'):(do s;pure Next.skip:Sem Next).run P W=.ok .skip W':=by
 simp [h]
theorem run_und {t:TypeId} {d:TypeDesc} (h:P.underlying t=some d) (W:World):(underlying t).run P W=.ok d W:=by
 simp [underlying,h]
theorem run_info {t:TypeId} {i:TypeInfo} (h:P.info? t=some i) (W:World):(typeInfo t).run P W=.ok i W:=by
 unfold typeInfo;simp [h]
theorem run_size {t n:Nat} (h:sizeT P t=some n) (W:World):(sizeOf t).run P W=.ok n W:=by
 unfold sizeT at h
 cases hi:P.info? t with
 | none=>rw [hi] at h;simp at h
 | some i=>rw [hi] at h;simp at h;subst h;simp [sizeOf,run_info hi]
theorem bytes_info {t n:Nat} (h:bytesT P t=some n):∃ i,P.info? t=some i∧i.bytes=n:=by
 unfold bytesT at h
 cases hi:P.info? t with
 | none=>rw [hi] at h;simp at h
 | some i=>rw [hi] at h;simp at h;exact ⟨i,rfl,h⟩
theorem run_zero {t:TypeId} {z:Value} (h:zeroT P t=some z):simple z=true∧∀ W,(zeroValue t).run P W=.ok z W:=by
 unfold zeroT at h
 cases hi:P.info? t with
 | none=>rw [hi] at h;simp at h
 | some i=>
  rw [hi] at h
  simp only [Option.bind_some] at h
  cases hz:i.zero with
  | none=>rw [hz] at h;simp at h
  | some z'=>
   rw [hz] at h
   simp only [Option.bind_some] at h
   obtain ⟨rfl,hs⟩:=ifSimple_some h
   exact ⟨hs,fun W=>by unfold zeroValue;simp [run_info hi,hz]⟩
theorem run_isAgg {t:TypeId} {b:Bool} (h:isAggT P t=some b) (W:World):(isAgg t).run P W=.ok b W:=by
 unfold isAggT at h
 cases hd:P.underlying t with
 | none=>rw [hd] at h;simp at h
 | some d=>
  rw [hd] at h;simp at h;subst h
  unfold isAgg
  simp only [Sem.run_bind,run_und hd,Result.andThen_ok]
  cases d<;>rfl
theorem elem_und {t e:TypeId} (h:elemT P t=some e):P.underlying t=some (.slice e):=by
 unfold elemT at h
 cases hd:P.underlying t with
 | none=>rw [hd] at h;simp at h
 | some d=>rw [hd] at h;cases d<;>simp [elemD] at h;rw [h]
theorem one_spec {l:List Value} {v:Value} (h:one l=some v):l=[v]:=by
 unfold one at h;split at h<;>simp at h;subst h;rfl
theorem load_sound (R:Rep P ρ H W) {t:TypeId} {i o:Nat} {v:Value} (h:loadA P H t i o=some v) {b:Addr} (ha:ρ.addr ⟨i,o,none⟩ b) :
  ∃ x,VR ρ v x∧(loadVar t b).run P W=.ok x W:=by
 unfold loadA at h
 split at h
 ·rename_i hagg
  split at h
  ·rename_i n hn
   cases hr:H.read i o n with
   | none=>rw [hr] at h;simp at h
   | some l=>
    rw [hr] at h;simp [aggL] at h;subst h
    obtain ⟨m,hm,hl,hrun⟩:=R.loadCells hr ha
    refine ⟨.agg m.toArray,.agg hm,?_⟩
    unfold loadVar
    simp [run_isAgg hagg,run_size hn,hrun]
  ·simp at h
 ·rename_i hagg
  cases hr:H.read i o 1 with
  | none=>rw [hr] at h;simp at h
  | some l=>
   rw [hr] at h
   simp only [Option.bind_some] at h
   have:=one_spec h
   subst this
   obtain ⟨x,hx,hrun⟩:=R.load hr ha
   refine ⟨x,hx,?_⟩
   unfold loadVar
   simp only [Sem.run_bind,run_isAgg hagg,Result.andThen_ok,Bool.false_eq_true,if_false]
   exact hrun
 ·simp at h
theorem store_sound (R:Rep P ρ H W) {t:TypeId} {i o:Nat} {v x:Value} {H':Hp} (h:storeA P H t i o v=some H') (hv:VR ρ v x) {b:Addr} (ha:ρ.addr ⟨i,o,none⟩ b) :
  ∃ W',(storeVar t b x).run P W=.ok () W'∧Rep P ρ H' W'∧Fr ρ ρ H H' W W':=by
 unfold storeA at h
 split at h
 ·rename_i n hn
  split at h
  ·rename_i hl
   have hl':=Nat.eq_of_beq_eq_true hl
   obtain ⟨W',h1,h2,h3,_⟩:=R.write h hv.cells ha
   refine ⟨W',?_,h2,h3⟩
   have hsz:x.cells.size=n:=by rw [← Array.length_toList,hv.cells.length,hl']
   unfold storeVar
   simp [run_size hn,hsz,h1]
  ·simp at h
 ·simp at h
theorem VR.bool_eq {b:Bool} {x:Value} (h:VR ρ (.bool b) x):x=.bool b:=by cases h;rfl
theorem VR.int_eq {k:IntKind} {n:Int} {x:Value} (h:VR ρ (.int k n) x):x=.int k n:=by cases h;rfl
theorem VR.string_eq {s:ByteArray} {x:Value} (h:VR ρ (.string s) x):x=.string s:=by cases h;rfl
/-! ### operands -/
theorem eval_sound (R:Rep P ρ H W) {tm:Trie Value} {nt:Nat} {a:Act} (ht:TR ρ tm nt a.tmps) {x:Operand} {v:Value} (h:evalO P tm x=some v):VR ρ v (a.eval x):=by
 cases x with
 | tmp t=>
  have h':orUndef (tm.get t)=some v:=h
  have:=ht.2 t
  cases hg:tm.get t with
  | none=>
   rw [hg] at h' this
   have e:v=undef:=by simpa [orUndef] using h'.symm
   subst e;exact this
  | some u=>
   rw [hg] at h' this
   have e:v=u:=by simpa [orUndef] using h'.symm
   subst e;exact this
 | const u=>
  obtain ⟨rfl,hs⟩:=ifSimple_some (show ifSimple u=some v from h)
  exact simple_refl hs
 | global g=>
  have h':globalV P g=some v:=h
  unfold globalV at h'
  split at h'
  ·rename_i hg
   simp at h';subst h'
   refine .ptr ⟨rfl,(g,0),R.glob g ?_,by simp⟩
   simpa [Nat.blt_eq] using hg
  ·simp at h'
 | func f=>
  have h':some (Value.func (.func f) #[] #[])=some v:=h
  simp at h';subst h'
  exact .func (.func f) .nil .nil
theorem evals_sound (R:Rep P ρ H W) {tm:Trie Value} {nt:Nat} {a:Act} (ht:TR ρ tm nt a.tmps):∀ {xs:List Operand} {vs:List Value},evals P tm xs=some vs→VRs ρ vs (xs.map a.eval)
 | [],vs,h=>by simp [evals] at h;subst h;exact .nil
 | x::xs,vs,h=>by
  simp only [evals] at h
  split at h
  ·rename_i v hv
   split at h
   ·rename_i us hus
    simp at h;subst h
    exact .cons (eval_sound R ht hv) (evals_sound R ht hus)
   ·simp at h
  ·simp at h
theorem evalParts_sound (R:Rep P ρ H W) {tm:Trie Value} {nt:Nat} {a:Act} (ht:TR ρ tm nt a.tmps):∀ {xs:List (Nat×Operand)} {vs:List (Nat×Value)},evalParts P tm xs=some vs →
  L2 (fun u w=>w.1=u.1∧VR ρ u.2 w.2) vs (xs.map fun (i,x)=>(i,a.eval x))
 | [],vs,h=>by simp [evalParts] at h;subst h;exact .nil
 | (i,x)::xs,vs,h=>by
  simp only [evalParts] at h
  split at h
  ·rename_i v hv
   split at h
   ·rename_i us hus
    simp at h;subst h
    exact .cons ⟨rfl,eval_sound R ht hv⟩ (evalParts_sound R ht hus)
   ·simp at h
  ·simp at h
/-! ### what an operation comes to -/
def ResOK (P:Program) (ρ:Ren) (H:Hp) (W:World) (res:Result Next):ARes→Prop
 | .val v H'=>∃ ρ' x W',(res=.ok (.value x) W'∨(res=.ok .skip W'∧x=undef))∧VR ρ' v x∧Rep P ρ' H' W'∧Fr ρ ρ' H H' W W'
 | .enter f args=>∃ xs:List Value,res=.ok (.enter f xs.toArray) W∧VRs ρ args xs
 | .yield l args=>∃ (p:Nat×Nat) (xs:List Value),ρ.blk l=some p∧res=(Instr.yield p.1 xs.toArray).run P W∧VRs ρ args xs
 | .defer d=>∃ d',res=.ok (.defer d') W∧DR ρ d d'
 | .recover=>res=.ok .recover W
 | .panic v=>∃ x,res=.halt (.panic x) W∧VR ρ v x
theorem ResOK.pure (R:Rep P ρ H W) {v x:Value} (h:VR ρ v x) {res:Result Next} (hr:res=.ok (.value x) W):ResOK P ρ H W res (.val v H):=
 ⟨ρ,x,W,.inl hr,h,R,.refl ρ H W⟩
theorem valH_some {H:Hp} {o:Option Value} {r:ARes} (h:valH H o=some r):∃ v,o=some v∧r=.val v H:=by
 unfold valH at h;split at h<;>simp at h;exact ⟨_,rfl,h.symm⟩
theorem hpV_some {v:Value} {o:Option Hp} {r:ARes} (h:hpV v o=some r):∃ H,o=some H∧r=.val v H:=by
 unfold hpV at h;split at h<;>simp at h;exact ⟨_,rfl,h.symm⟩
theorem pairV_some {o:Option (Value×Hp)} {r:ARes} (h:pairV o=some r):∃ v H,o=some (v,H)∧r=.val v H:=by
 unfold pairV at h;split at h<;>simp at h;exact ⟨_,_,rfl,h.symm⟩
theorem addrOf_some {v:Value} {p:Nat×Nat} (h:addrOf v=some p):v=.pointer (some ⟨p.1,p.2,none⟩):=by
 unfold addrOf at h;split at h<;>simp at h;subst h;rfl
section ops
variable {tm:Trie Value} {nt:Nat} {a:Act} {o:Oper} {r:ARes} (R:Rep P ρ H W) (ht:TR ρ tm nt a.tmps)
include R ht
theorem move_sound {x:Operand} (h:oMove P tm H x=some r) (ho:o.op=.move x∨o.op=.assign x):ResOK P ρ H W ((execOp a.eval o).run P W) r:=by
 obtain ⟨v,hv,rfl⟩:=valH_some h
 refine .pure R (eval_sound R ht hv) ?_
 unfold execOp
 rcases ho with ho | ho<;>rw [ho]<;>rfl
theorem pick_sound {c x y:Operand} (h:oPick P tm H c x y=some r) (ho:o.op=.pick c x y):ResOK P ρ H W ((execOp a.eval o).run P W) r:=by
 unfold oPick at h
 split at h
 ·rename_i hc
  obtain ⟨v,hv,rfl⟩:=valH_some h
  have hc':a.eval c=.bool true:=(eval_sound R ht hc).bool_eq
  refine .pure R (eval_sound R ht hv) ?_
  unfold execOp;rw [ho];simp [hc',asBool]
 ·rename_i hc
  obtain ⟨v,hv,rfl⟩:=valH_some h
  have hc':a.eval c=.bool false:=(eval_sound R ht hc).bool_eq
  refine .pure R (eval_sound R ht hv) ?_
  unfold execOp;rw [ho];simp [hc',asBool]
 ·simp at h
theorem newV_sound {e:TypeId} {v x:Value} (hv:VR ρ v x) {res:Result Next} (hr:res=.ok (.value (.pointer (some ⟨W.heap.size,0,none⟩))) (W.alloc (.cells x.cells e))) :
  ResOK P ρ H W res (newV H e v):=by
 obtain ⟨h1,h2⟩:=R.newRow e hv.cells
 exact ⟨_,_,_,.inl hr,.ptr ⟨rfl,(W.heap.size,0),Ren.add_same _ _ _ _,by simp⟩,h1,h2⟩
theorem alloc_sound {e:TypeId} (h:oAlloc P H e=some r) (ho:o.op=.alloc e):ResOK P ρ H W ((execOp a.eval o).run P W) r:=by
 unfold oAlloc at h
 cases hz:zeroT P e with
 | none=>rw [hz] at h;simp at h
 | some z=>
  rw [hz] at h;simp at h;subst h
  obtain ⟨hs,hrun⟩:=run_zero hz
  refine newV_sound R ht (simple_refl hs) ?_
  unfold execOp;rw [ho]
  refine run_value ?_
  unfold Instr.alloc
  simp [hrun,newVar,newRow]
theorem box_sound {e:TypeId} {x:Operand} (h:oBox P tm H e x=some r) (ho:o.op=.box e x):ResOK P ρ H W ((execOp a.eval o).run P W) r:=by
 unfold oBox at h
 cases hv:evalO P tm x with
 | none=>rw [hv] at h;simp at h
 | some v=>
  rw [hv] at h;simp at h;subst h
  refine newV_sound R ht (eval_sound R ht hv) ?_
  unfold execOp;rw [ho]
  refine run_value ?_
  unfold Instr.box
  simp [newVar,newRow]
theorem oload_sound {t:TypeId} {x:Operand} (h:oLoad P tm H t x=some r) (ho:o.op=.load t x):ResOK P ρ H W ((execOp a.eval o).run P W) r:=by
 unfold oLoad at h
 split at h
 ·rename_i i off hx
  obtain ⟨u,hu,hu'⟩:=Option.bind_eq_some_iff.1 hx
  obtain ⟨v,hv,rfl⟩:=valH_some h
  have e:=addrOf_some hu'
  subst e
  have hE:=eval_sound R ht hu
  generalize hy:a.eval x=y at hE
  cases hE with
  | ptr ha=>
   obtain ⟨w,hw,hrun⟩:=load_sound R hv ha
   refine .pure R hw ?_
   unfold execOp;rw [ho]
   refine run_value ?_
   simp [Instr.loadAt,Instr.sureAddr,hy,hrun]
 ·simp at h
theorem ostore_sound {t:TypeId} {x y:Operand} (h:oStore P tm H t x y=some r) (ho:o.op=.store t x y):ResOK P ρ H W ((execOp a.eval o).run P W) r:=by
 unfold oStore at h
 split at h
 ·rename_i i off hx
  split at h
  ·rename_i v hv
   obtain ⟨u,hu,hu'⟩:=Option.bind_eq_some_iff.1 hx
   obtain ⟨H',hH,rfl⟩:=hpV_some h
   have e:=addrOf_some hu'
   subst e
   have hE:=eval_sound R ht hu
   generalize hy:a.eval x=z at hE
   cases hE with
   | ptr ha=>
    obtain ⟨W',hrun,h1,h2⟩:=store_sound R hH (eval_sound R ht hv) ha
    refine ⟨ρ,undef,W',.inr ⟨?_,rfl⟩,.undef,h1,h2⟩
    unfold execOp;rw [ho]
    refine run_unit ?_
    simp [Instr.storeAt,Instr.sureAddr,hy,hrun]
  ·simp at h
 ·simp at h
theorem nilCheck_sound {x:Operand} (h:oNilCheck P tm H x=some r) (ho:o.op=.nilCheck x):ResOK P ρ H W ((execOp a.eval o).run P W) r:=by
 unfold oNilCheck at h
 obtain ⟨v,hv,rfl⟩:=valH_some h
 obtain ⟨u,hu,hu'⟩:=Option.bind_eq_some_iff.1 hv
 have hE:=eval_sound R ht hu
 generalize hy:a.eval x=y at hE
 unfold nilChk at hu'
 split at hu'<;>simp at hu'<;>subst hu'
 ·refine .pure R hE ?_
  unfold execOp;rw [ho]
  cases hE with | ptr ha=>simp [hy]
 ·refine .pure R hE ?_
  unfold execOp;rw [ho]
  cases hE with | func hf ha hb=>cases hf;simp [hy]
 ·refine .pure R hE ?_
  unfold execOp;rw [ho]
  cases hE with | func hf ha hb=>cases hf;simp [hy]
theorem extract_sound {x:Operand} {i:Nat} (h:oExtract P tm H x i=some r) (ho:o.op=.extract x i):ResOK P ρ H W ((execOp a.eval o).run P W) r:=by
 unfold oExtract at h
 obtain ⟨v,hv,rfl⟩:=valH_some h
 obtain ⟨u,hu,hu'⟩:=Option.bind_eq_some_iff.1 hv
 have hE:=eval_sound R ht hu
 generalize hy:a.eval x=y at hE
 cases u<;>simp [compOf] at hu'
 cases hE with
 | tuple hs=>
  rename_i l m
  obtain ⟨w,hw,hvw⟩:=hs.get (i:=i) (by simpa using hu')
  refine .pure R hvw ?_
  unfold execOp;rw [ho]
  refine run_value ?_
  simp [hy,Instr.extract,hw]
theorem iface_sound {t:TypeId} {x:Operand} (h:oIface P tm H t x=some r) (ho:o.op=.makeInterface t x):ResOK P ρ H W ((execOp a.eval o).run P W) r:=by
 unfold oIface at h
 split at h
 ·rename_i hd
  cases hv:evalO P tm x with
  | none=>rw [hv] at h;simp at h
  | some v=>
   rw [hv] at h;simp at h;subst h
   obtain ⟨d,hd1,hd2⟩:=Option.map_eq_some_iff.1 hd
   refine .pure R (.iface (eval_sound R ht hv)) ?_
   unfold execOp;rw [ho]
   refine run_value ?_
   unfold Instr.makeInterface
   simp only [Sem.run_bind,run_und hd1,Result.andThen_ok]
   cases d<;>first | rfl | (simp [isIface] at hd2)
 ·simp at h
theorem func_sound {fn:Fn} {x y:Array Operand} (h:oFunc P tm H fn x y=some r) (ho:o.op=.makeFunc fn x y):ResOK P ρ H W ((execOp a.eval o).run P W) r:=by
 unfold oFunc at h
 split at h
 ·rename_i f
  split at h
  ·rename_i l hl
   split at h
   ·rename_i m hm
    simp at h;subst h
    refine .pure R (x:=.func (.func f) (x.map a.eval) (y.map a.eval)) ?_ ?_
    ·have e1:x.map a.eval=⟨x.toList.map a.eval⟩:=by apply Array.ext';simp
     have e2:y.map a.eval=⟨y.toList.map a.eval⟩:=by apply Array.ext';simp
     rw [e1,e2]
     exact .func (.func f) (evals_sound R ht hl) (evals_sound R ht hm)
    ·unfold execOp;rw [ho];rfl
   ·simp at h
  ·simp at h
 ·simp at h
theorem newMap_sound {res:Result Next} (hr:res=.ok (.value (.map (some W.heap.size))) (W.alloc (.map #[] 0))):ResOK P ρ H W res (newMap H):=by
 obtain ⟨h1,h2⟩:=R.newObj (B:=.map [] 0) (o:=.map #[] 0) trivial ⟨#[],(by show (W.heap.push _)[W.heap.size]? =_;simp),.nil⟩
 exact ⟨_,_,_,.inl hr,.map (p:=(W.heap.size,0)) (Ren.add_same _ _ _ _),h1,h2⟩
theorem omap_sound {t:TypeId} {x:Option Operand} (h:oMap P tm H t x=some r) (ho:o.op=.makeMap t x):ResOK P ρ H W ((execOp a.eval o).run P W) r:=by
 unfold oMap at h
 split at h
 ·simp at h;subst h
  refine newMap_sound R ht ?_
  unfold execOp;rw [ho]
  refine run_value ?_
  unfold Instr.makeMap
  simp
 ·rename_i y
  split at h
  ·rename_i k n hy
   split at h
   ·rename_i kt et hd
    simp at h;subst h
    refine newMap_sound R ht ?_
    have hy':a.eval y=.int k n:=(eval_sound R ht hy).int_eq
    unfold execOp;rw [ho]
    refine run_value ?_
    unfold Instr.makeMap
    simp [hy',run_und hd,asInt,asIntOf]
   ·simp at h
  ·simp at h
end ops
end Go.Sim
namespace Go.Sim
open Go
variable {P:Program} {ρ:Ren} {H:Hp} {W:World}
/-! ### composites -/
theorem splice_le:∀ {c:List Value} {o:Nat} {vs c':List Value},splice c o vs=some c'→o+vs.length≤c.length
 | c,0,[],c',h=>by simp
 | [],0,_::_,c',h=>by simp [splice] at h
 | x::c,0,v::vs,c',h=>by
  simp only [splice] at h
  split at h
  ·rename_i r hr;have:=splice_le hr;simp at this ⊢;omega
  ·simp at h
 | [],o+1,vs,c',h=>by cases vs<;>simp [splice] at h
 | x::c,o+1,vs,c',h=>by
  have he:splice (x::c) (o+1) vs=(match splice c o vs with | some r=>some (x::r) | none=>none):=by cases vs<;>rfl
  rw [he] at h
  split at h
  ·rename_i r hr;have:=splice_le hr;simp;omega
  ·simp at h
theorem foldl_setL (o:Nat):∀ (l:List Value) (k:Nat) (C:Array Value),(l.zipIdx k).foldl (fun (cs:Array Value) (x:Value×Nat)=>cs.setIfInBounds (o+x.2) x.1) C=setL C (o+k) l
 | [],k,C=>rfl
 | x::l,k,C=>by rw [List.zipIdx_cons,List.foldl_cons,foldl_setL o l (k+1)];rw [setL,Nat.add_assoc]
theorem splice_setL {c:List Value} {o:Nat} {vs c':List Value} (h:splice c o vs=some c') {C:Array Value} (hc:VRs ρ c C.toList) {xs:List Value} (hx:VRs ρ vs xs):VRs ρ c' (setL C o xs).toList:=by
 obtain ⟨h1,_,h3⟩:=splice_spec h
 have hle:=splice_le h
 have hC:C.size=c.length:=by rw [← Array.length_toList,hc.length]
 refine VRs.of_get (by rw [Array.length_toList,setL_size,h1,hC]) fun j v hj=>?_
 rw [h3] at hj
 rw [Array.getElem?_toList,setL_get _ _ _ _ (by rw [hx.length,hC];exact hle),hx.length]
 split
 ·rename_i g;rw [if_pos g] at hj;exact hx.get hj
 ·rename_i g;rw [if_neg g] at hj;obtain ⟨x,e,hv⟩:=hc.get hj;exact ⟨x,by simpa using e,hv⟩
theorem fill_sound {place:Nat→Option (Nat×Nat)}:∀ {ps qs:List (Nat×Value)} {c r:List Value} {C:Array Value},fillA place c ps=some r→VRs ρ c C.toList→L2 (fun u w=>w.1=u.1∧VR ρ u.2 w.2) ps qs →
  ∃ C',Instr.fill place C qs=some C'∧VRs ρ r C'.toList
 | [],qs,c,r,C,h,hc,hp=>by
  cases hp;simp [fillA] at h;subst h;exact ⟨C,rfl,hc⟩
 | (i,v)::ps,qs,c,r,C,h,hc,hp=>by
  cases hp with
  | cons h1 hs=>
   rename_i w qs
   obtain ⟨j,x⟩:=w
   obtain ⟨e,hv⟩:=h1
   simp only at e hv
   subst e
   simp only [fillA] at h
   split at h
   ·simp at h
   ·rename_i o n hpl
    split at h
    ·rename_i hl
     have hl':=Nat.eq_of_beq_eq_true hl
     split at h
     ·rename_i c' hsp
      have hle:=splice_le hsp
      have hC:C.size=c.length:=by rw [← Array.length_toList,hc.length]
      have hxs:x.cells.size=n:=by rw [← Array.length_toList,hv.cells.length,hl']
      obtain ⟨C',g1,g2⟩:=fill_sound h (splice_setL hsp hc hv.cells) hs
      refine ⟨C',?_,g2⟩
      unfold Instr.fill
      simp only [hpl]
      rw [if_neg (by rw [hxs];simp;rw [hC];omega)]
      have hf:(x.cells.zipIdx.foldl (fun (cs:Array Value) (x:Value×Nat)=>cs.setIfInBounds (o+x.2) x.1) C)=setL C o x.cells.toList:=by
       rw [← Array.foldl_toList,Array.toList_zipIdx,foldl_setL];rfl
      rw [← hf] at g1
      exact g1
     ·simp at h
    ·simp at h
theorem places_sound:∀ {fs:List Field} {pl:List (Nat×Nat)},places P fs=some pl→∀ W,(fs.mapM fun f=>do pure (f.offset,← sizeOf f.type):Sem (List (Nat×Nat))).run P W=.ok pl W
 | [],pl,h,W=>by simp [places] at h;subst h;rfl
 | f::fs,pl,h,W=>by
  simp only [places] at h
  split at h
  ·rename_i n hn
   split at h
   ·rename_i r hr
    simp at h;subst h
    rw [List.mapM_cons]
    simp only [Sem.run_bind,Sem.run_pure,run_size hn,Result.andThen_ok,places_sound hr]
   ·simp at h
  ·simp at h
theorem aggL_VR {l:List Value} {C:Array Value} (h:VRs ρ l C.toList):VR ρ (aggL l) (.agg C):=.agg (m:=C.toList) h
theorem build_sound {t:TypeId} {ps:List (Nat×Value)} {v:Value} (h:buildA P t ps=some v) {qs:List (Nat×Value)} (hp:L2 (fun u w=>w.1=u.1∧VR ρ u.2 w.2) ps qs) (W:World) :
  ∃ x,VR ρ v x∧(Instr.build t qs.toArray).run P W=.ok x W:=by
 unfold buildA at h
 split at h
 ·rename_i z hz
  obtain ⟨hs,hzr⟩:=run_zero hz
  obtain ⟨d,hd,h⟩:=Option.bind_eq_some_iff.1 h
  unfold buildD at h
  split at h
  ·rename_i fs
   split at h
   ·rename_i pl hpl
    obtain ⟨l,hl,rfl⟩:=Option.map_eq_some_iff.1 h
    obtain ⟨C',h1,h2⟩:=fill_sound (C:=z.cells) hl (simple_refl hs).cells hp
    refine ⟨_,aggL_VR h2,?_⟩
    unfold Instr.build
    simp only [Sem.run_bind,hzr,Result.andThen_ok,run_und hd]
    rw [Array.mapM_eq_mapM_toList]
    simp only [Sem.run_map,places_sound hpl,Result.andThen_ok]
    have e:(fun x=>(pl.toArray)[x]?)=fun (i:Nat)=>pl[i]?:=by funext i;simp
    rw [e,h1]
    rfl
   ·simp at h
  ·rename_i n e
   split at h
   ·rename_i sz hsz
    obtain ⟨l,hl,rfl⟩:=Option.map_eq_some_iff.1 h
    obtain ⟨C',h1,h2⟩:=fill_sound (C:=z.cells) hl (simple_refl hs).cells hp
    refine ⟨_,aggL_VR h2,?_⟩
    unfold Instr.build
    simp only [Sem.run_bind,hzr,Result.andThen_ok,run_und hd,run_size hsz,h1]
    rfl
   ·simp at h
  ·simp at h
 ·simp at h
theorem rep_length {z:List Value}:∀ n,(rep z n).length=n*z.length
 | 0=>by simp [rep]
 | n+1=>by rw [rep,List.length_append,rep_length n,Nat.succ_mul];omega
theorem rep_get {z:List Value}:∀ (n i:Nat),i<n*z.length→(rep z n)[i]? =z[i % z.length]?
 | 0,i,h=>by simp at h
 | n+1,i,h=>by
  rw [Nat.succ_mul] at h
  rw [rep]
  by_cases hi:i<z.length
  ·rw [List.getElem?_append_left hi,Nat.mod_eq_of_lt hi]
  ·have hi':z.length≤i:=by omega
   rw [List.getElem?_append_right hi',rep_get n _ (by omega),← Nat.mod_eq_sub_mod hi']
theorem zeros_eq (zero:Array Value) (n m:Nat) (h:m=n*zero.size):(Array.range m).map (fun i=>zero[i % zero.size]!)=(rep zero.toList n).toArray:=by
 subst h
 apply Array.ext'
 apply List.ext_getElem?
 intro i
 simp only [Array.toList_map,Array.toList_range,List.getElem?_map]
 by_cases hi:i<n*zero.size
 ·rw [List.getElem?_range hi,rep_get n i (by simpa using hi)]
  have hz:0<zero.size:=by rcases Nat.eq_zero_or_pos zero.size with g | g;rw [g] at hi;simp at hi;exact g
  have hm:i % zero.size<zero.size:=Nat.mod_lt _ hz
  simp [getElem!_pos,hm]
 ·rw [List.getElem?_eq_none (by simpa using hi),List.getElem?_eq_none (by rw [rep_length];simpa using hi)]
  rfl
theorem zeros_sound {e n:Nat} {l:List Value} (h:zerosA P e n=some l):(∀ ρ:Ren,VRs ρ l l)∧∃ s,sizeT P e=some s∧l.length=n*s ∧
  (n*s≠0→∃ z,(∀ W,(zeroValue e).run P W=.ok z W)∧z.cells.size=s∧(Array.range (n*s)).map (fun i=>z.cells[i % z.cells.size]!)=l.toArray):=by
 unfold zerosA at h
 split at h
 ·rename_i s hs
  split at h
  ·rename_i h0
   have:=Nat.eq_of_beq_eq_true h0
   simp at h;subst h
   exact ⟨fun _=>.nil,s,hs,by simpa using this.symm,fun g=>absurd this g⟩
  ·rename_i h0
   split at h
   ·rename_i z hz
    split at h
    ·rename_i hl
     have hl':=Nat.eq_of_beq_eq_true hl
     simp at h;subst h
     obtain ⟨hs1,hzr⟩:=run_zero hz
     have hcz:z.cells.toList=cellsOf z:=by cases z<;>rfl
     refine ⟨fun ρ=>?_,s,hs,by rw [rep_length,hl'],fun _=>⟨z,hzr,by rw [← Array.length_toList,hcz,hl'],?_⟩⟩
     ·have hz2:VRs ρ (cellsOf z) (cellsOf z):=by have:=(simple_refl (ρ:=ρ) hs1).cells;rwa [hcz] at this
      have:∀ m,VRs ρ (rep (cellsOf z) m) (rep (cellsOf z) m):=by
       intro m
       induction m with
       | zero=>exact .nil
       | succ m ih=>exact hz2.append ih
      exact this n
     ·rw [zeros_eq _ n _ (by rw [← Array.length_toList,hcz,hl']),hcz]
    ·simp at h
   ·simp at h
 ·simp at h
section ops
variable {tm:Trie Value} {nt:Nat} {a:Act} {o:Oper} {r:ARes} (R:Rep P ρ H W) (ht:TR ρ tm nt a.tmps)
include R ht
theorem obuild_sound {t:TypeId} {ps:Array (Nat×Operand)} (h:oBuild P tm H t ps=some r) (ho:o.op=.build t ps):ResOK P ρ H W ((execOp a.eval o).run P W) r:=by
 unfold oBuild at h
 split at h
 ·rename_i l hl
  obtain ⟨v,hv,rfl⟩:=valH_some h
  obtain ⟨x,hx,hrun⟩:=build_sound hv (evalParts_sound R ht hl) W
  refine .pure R hx ?_
  unfold execOp;rw [ho]
  refine run_value ?_
  have e:ps.map (fun (i,x)=>(i,a.eval x))=(ps.toList.map fun (i,x)=>(i,a.eval x)).toArray:=by apply Array.ext';simp
  rw [e];exact hrun
 ·simp at h
theorem rowV_sound {e n m:Nat} {cs:List Value} {C:Array Value} (hv:VRs ρ cs C.toList) (hnm:n≤m) (hm:m<U) {res:Result Next} (hr:res=.ok (.value (.slice (some ⟨W.heap.size,0,none⟩) n m)) (W.alloc (.cells C e))) :
  ResOK P ρ H W res (rowV H e n m cs):=by
 obtain ⟨h1,h2⟩:=R.newRow e hv
 exact ⟨_,_,_,.inl hr,.slice ⟨rfl,(W.heap.size,0),Ren.add_same _ _ _ _,by simp⟩ ⟨hnm,fun _=>rfl,fun h=>by omega⟩,h1,h2⟩
theorem buildSlice_sound {t:TypeId} {len:Nat} {ps:Array (Nat×Operand)} (h:oBuildSlice P tm H t len ps=some r) (ho:o.op=.buildSlice t len ps):ResOK P ρ H W ((execOp a.eval o).run P W) r:=by
 unfold oBuildSlice at h
 split at h
 ·rename_i e he
  split at h
  ·rename_i l hl
   split at h
   ·rename_i s hs
    split at h
    ·rename_i hle
     split at h
     ·rename_i z hz
      obtain ⟨cs,hcs,rfl⟩:=Option.map_eq_some_iff.1 h
      obtain ⟨z1,s',hs',z3,z4⟩:=zeros_sound hz
      rw [hs] at hs';simp at hs';subst hs'
      obtain ⟨C',g1,g2⟩:=fill_sound (C:=z.toArray) hcs (by simpa using z1 ρ) (evalParts_sound R ht hl)
      simp only [Bool.and_eq_true,Nat.ble_eq] at hle
      refine rowV_sound R ht g2 (Nat.le_refl _) (by unfold U;omega) ?_
      unfold execOp;rw [ho]
      refine run_value ?_
      have e1:ps.map (fun (i,x)=>(i,a.eval x))=(ps.toList.map fun (i,x)=>(i,a.eval x)).toArray:=by apply Array.ext';simp
      rw [e1]
      unfold Instr.buildSlice
      simp only [Sem.run_bind,run_und (elem_und he),Result.andThen_ok,run_size hs]
      rw [if_neg (by omega)]
      by_cases h0:len*s=0
      ·have hz0:z=[]:=List.eq_nil_of_length_eq_zero (by rw [z3,h0])
       subst hz0
       rw [if_pos h0]
       simp only [Sem.run_bind,Sem.run_pure,Result.andThen_ok,h0]
       have:(Array.range 0).map (fun i=>(#[]:Array Value)[i % (#[]:Array Value).size]!)=[].toArray:=by simp
       rw [this,g1]
       simp [newRow]
      ·obtain ⟨zv,hzr,hzs,heq⟩:=z4 h0
       rw [if_neg h0]
       simp only [Sem.run_bind,hzr,Sem.run_pure,Result.andThen_ok,heq,g1]
       simp [newRow]
     ·simp at h
    ·simp at h
   ·simp at h
  ·simp at h
 ·simp at h
end ops
end Go.Sim
namespace Go.Sim
open Go Go.IntWalk
variable {P:Program} {ρ:Ren} {H:Hp} {W:World}
theorem eqI_eq (a b:Int):eqI a b=(a==b):=by
 cases a<;>cases b<;>simp only [eqI]
 ·rename_i m n
  rw [Bool.eq_iff_iff];simp;omega
 ·symm;simp [beq_eq_false_iff_ne]
 ·symm;simp [beq_eq_false_iff_ne]
 ·rename_i m n
  rw [Bool.eq_iff_iff];simp
theorem ltI_eq (a b:Int):ltI a b=decide (a<b):=by
 cases a<;>cases b<;>simp only [ltI]
 ·rename_i m n
  rw [Bool.eq_iff_iff];simp [Nat.blt_eq]
 ·rename_i m n
  symm;rw [decide_eq_false_iff_not];simp only [Int.ofNat_eq_natCast,Int.negSucc_eq];omega
 ·rename_i m n
  symm;rw [decide_eq_true_iff];simp only [Int.ofNat_eq_natCast,Int.negSucc_eq];omega
 ·rename_i m n
  rw [Bool.eq_iff_iff];simp only [Nat.blt_eq,decide_eq_true_iff,Int.negSucc_eq];omega
theorem eqB_eq:∀ (a b:List UInt8),eqB a b=(a==b)
 | [],[]=>rfl
 | [],_::_=>rfl
 | _::_,[]=>rfl
 | x::a,y::b=>by
  rw [eqB]
  cases h:Nat.beq x.toNat y.toNat with
  | true=>
   have:x=y:=UInt8.toNat_inj.1 (Nat.eq_of_beq_eq_true h)
   subst this
   simp [eqB_eq a b]
  | false=>
   have:x≠y:=fun e=>by subst e;simp at h
   simp [this]
theorem wrap_u64' (n:Int):IntKind.u64.wrap n=n % 18446744073709551616:=by
 unfold IntKind.wrap
 simp [IntKind.bits,IntKind.signed]
theorem wrapF_eq (k:IntKind) (n:Int):wrapF k n=k.wrap n:=by
 unfold wrapF
 cases k<;>simp only
 ·cases n with
  | ofNat m=>
   simp only
   split
   ·rename_i h
    have h:=Nat.le_of_ble_eq_true h
    rw [i64_in];simp only [Int.ofNat_eq_natCast];omega
   ·rfl
  | negSucc m=>
   simp only
   split
   ·rename_i h
    have h:=Nat.le_of_ble_eq_true h
    rw [i64_in];simp only [Int.negSucc_eq];omega
   ·rfl
 ·cases n with
  | ofNat m=>simp only [IntKind.wrap_u8,Int.ofNat_eq_natCast];omega
  | negSucc m=>rfl
 ·cases n with
  | ofNat m=>simp only [wrap_u64',Int.ofNat_eq_natCast];omega
  | negSucc m=>rfl
section guard
variable (op:BinOp) (t:TypeId) (x y:Operand) (W:World)
theorem guard_int (k j:IntKind) (a b:Int):(eqGuard op t x y (.int k a) (.int j b)).run P W=.ok () W:=by cases op<;>rfl
theorem guard_string (a b:ByteArray):(eqGuard op t x y (.string a) (.string b)).run P W=.ok () W:=by cases op<;>rfl
theorem guard_slice (a b:Option Addr) (m n c d:Nat):(eqGuard op t x y (.slice a m c) (.slice b n d)).run P W=.ok () W:=by cases op<;>rfl
theorem guard_ptr (a b:Option Addr):(eqGuard op t x y (.pointer a) (.pointer b)).run P W=.ok () W:=by cases op<;>rfl
theorem guard_map (a b:Option Nat):(eqGuard op t x y (.map a) (.map b)).run P W=.ok () W:=by cases op<;>rfl
theorem guard_f1 (f:Fn) (a b:Array Value):(eqGuard op t x y .nilFunc (.func f a b)).run P W=.ok () W:=by cases op<;>rfl
theorem guard_f2 (f:Fn) (a b:Array Value):(eqGuard op t x y (.func f a b) .nilFunc).run P W=.ok () W:=by cases op<;>rfl
end guard
theorem intBin_sound {k:IntKind} {a b:Int} {op:BinOp} {v:Value} (h:intBin k a b op=some v) (t:TypeId) (W:World):(binOp op t (.int k a) (.int k b)).run P W=.ok v W:=by
 have hle:∀ x y:Int,(!decide (y<x))=decide (x≤y):=fun x y=>by rw [Bool.eq_iff_iff];simp
 unfold intBin at h
 split at h
 ·simp only [Option.some.injEq] at h;subst h;simp [binOp,Op.intArith,wrapF_eq]
 ·simp only [Option.some.injEq] at h;subst h;simp [binOp,Op.intArith,wrapF_eq]
 ·simp only [Option.some.injEq] at h;subst h;simp [binOp,Op.intArith,wrapF_eq]
 ·simp only [Option.some.injEq] at h;subst h;simp [binOp,Op.intCmp,eqI_eq]
 ·simp only [Option.some.injEq] at h;subst h;simp only [binOp,Op.intCmp,eqI_eq,ne_eq,not_true,if_false];rfl
 ·simp only [Option.some.injEq] at h;subst h;simp only [binOp,Op.intCmp,ltI_eq,ne_eq,not_true,if_false];rfl
 ·simp only [Option.some.injEq] at h;subst h;simp only [binOp,Op.intCmp,ltI_eq,ne_eq,not_true,if_false,hle];rfl
 ·simp only [Option.some.injEq] at h;subst h;simp only [binOp,Op.intCmp,ltI_eq,ne_eq,not_true,if_false,gt_iff_lt];rfl
 ·simp only [Option.some.injEq] at h;subst h;simp only [binOp,Op.intCmp,ltI_eq,ne_eq,not_true,if_false,hle,ge_iff_le];rfl
 ·cases b with
  | ofNat n=>
   cases n with
   | zero=>simp at h
   | succ m=>
    simp only [Option.some.injEq] at h;subst h
    have:¬(Int.ofNat (m+1)=0):=by simp only [Int.ofNat_eq_natCast];omega
    simp only [wrapF_eq];simp only [binOp,Op.intDiv,ne_eq,not_true,if_false,if_neg this];rfl
  | negSucc n=>simp at h
 ·cases b with
  | ofNat n=>
   cases n with
   | zero=>simp at h
   | succ m=>
    simp only [Option.some.injEq] at h;subst h
    have:¬(Int.ofNat (m+1)=0):=by simp only [Int.ofNat_eq_natCast];omega
    simp only [binOp,Op.intDiv,ne_eq,not_true,if_false,if_neg this];rfl
  | negSucc n=>simp at h
 ·simp at h
theorem baList (x:ByteArray):x.toList=x.data.toList:=ByteArray.toList_eq x
theorem append_str (a b:ByteArray):(⟨(a.data.toList++b.data.toList).toArray⟩:ByteArray)=a++b:=by
 have:(a++b).data=a.data++b.data:=by simp
 cases hab:(a++b)
 rw [hab] at this
 simp only at this
 congr 1
 rw [this]
 apply Array.ext';simp
theorem strBin_sound {a b:ByteArray} {op:BinOp} {v:Value} (h:strBin a b op=some v) (t:TypeId) (W:World):simple v=true∧(binOp op t (.string a) (.string b)).run P W=.ok v W:=by
 unfold strBin at h
 split at h
 ·split at h
  ·rename_i hb
   rw [Nat.blt_eq] at hb
   simp only [Option.some.injEq] at h;subst h
   refine ⟨rfl,?_⟩
   have hm:¬(((a.size+b.size:Nat):Int)>IntKind.i64.max):=by
    have:IntKind.i64.max=9223372036854775807:=by decide
    rw [this];omega
   simp only [binOp,Op.stringOp,if_neg hm,strL,append_str];rfl
  ·simp at h
 ·simp only [Option.some.injEq] at h;subst h
  refine ⟨rfl,?_⟩
  simp only [binOp,Op.stringOp,eqB_eq,baList];rfl
 ·simp only [Option.some.injEq] at h;subst h
  refine ⟨rfl,?_⟩
  simp only [binOp,Op.stringOp,eqB_eq,baList];rfl
 ·simp at h
theorem orSlow_some {r:Option Value} {s:Unit→Option Value} {v:Value} (h:orSlow r s=some v):r=some v∨s ()=some v:=by
 unfold orSlow at h;split at h
 ·exact .inl h
 ·exact .inr h
theorem eqK_eq {k j:IntKind} (h:eqK k j=true):k=j:=by cases k<;>cases j<;>simp [eqK] at h<;>rfl
theorem eql_run {t:TypeId} {x y:Value} {b:Bool} (h:∀ W,(Op.equal t x y).run P W=.ok b W) {op:BinOp} {v:Value} (hv:eqOp b op=some v) (hb1:binOp .eql t x y=(do pure (.bool (← Op.equal t x y)))) (hb2:binOp .neq t x y=(do pure (.bool (!(← Op.equal t x y))))) (W:World) :
  (binOp op t x y).run P W=.ok v W∧simple v=true:=by
 unfold eqOp at hv
 split at hv<;>simp at hv<;>subst hv
 ·rw [hb1];simp [h];rfl
 ·rw [hb2];simp [h];rfl
theorem slowBin_sound {op:BinOp} {t:TypeId} {x y:Operand} {vx vy wx wy v:Value} (h:slowBin P op t x y vx vy=some v) (hx:VR ρ vx wx) (hy:VR ρ vy wy) (W:World) :
  ∃ w,VR ρ v w∧(do eqGuard op t x y wx wy;binOp op t wx wy:Sem Value).run P W=.ok w W:=by
 unfold slowBin at h
 split at h
 ·rename_i hs
  simp only [Bool.and_eq_true] at hs
  obtain ⟨u,hu,hu'⟩:=Option.bind_eq_some_iff.1 h
  obtain ⟨rfl,hsv⟩:=ifSimple_some hu'
  rw [simple_eq hs.1 hx,simple_eq hs.2 hy]
  exact ⟨_,simple_refl hsv,pureRun_run hu W⟩
 ·split at h
  ·rename_i b hb
   obtain ⟨d,hd,hb⟩:=Option.bind_eq_some_iff.1 hb
   have fin:∀ {x' y':Value},(eqGuard op t x y x' y').run P W=.ok () W→(∀ W,(Op.equal t x' y').run P W=.ok b W)→binOp .eql t x' y'=(do pure (.bool (← Op.equal t x' y')))→binOp .neq t x' y'=(do pure (.bool (!(← Op.equal t x' y')))) →
     ∃ w,VR ρ v w∧(do eqGuard op t x y x' y';binOp op t x' y':Sem Value).run P W=.ok w W:=by
    intro x' y' h1 h2 h3 h4
    obtain ⟨g1,g2⟩:=eql_run h2 h h3 h4 W
    exact ⟨v,simple_refl g2,by rw [Sem.run_bind,h1];exact g1⟩
   have und:∀ x' y',(Op.equal t x' y')=Op.equalIn (9999+1) t x' y':=fun _ _=>rfl
   have eqs:∀ x' y' b,(∀ W,(Op.equalIn (9999+1) t x' y').run P W=.ok b W)→∀ W,(Op.equal t x' y').run P W=.ok b W:=fun _ _ _ h=>h
   unfold nilD at hb
   split at hb
   ·split at hb
    ·unfold nilEq at hb
     split at hb<;>simp at hb<;>subst hb
     ·rename_i e1 e2;simp at e1 e2;obtain ⟨rfl,rfl,rfl⟩:=e1;obtain ⟨rfl,rfl,rfl⟩:=e2
      cases hx<;>cases hy<;>exact fin (guard_slice _ _ _ _ _ _ _ _ _ _ _) (eqs _ _ _ fun W=>by unfold Op.equalIn;simp only [Sem.run_bind,run_und hd,Result.andThen_ok];rfl) rfl rfl
     ·rename_i e1 e2;simp at e1 e2;obtain ⟨rfl,rfl,rfl⟩:=e1;obtain ⟨rfl,rfl,rfl⟩:=e2
      cases hx<;>cases hy<;>exact fin (guard_slice _ _ _ _ _ _ _ _ _ _ _) (eqs _ _ _ fun W=>by unfold Op.equalIn;simp only [Sem.run_bind,run_und hd,Result.andThen_ok];rfl) rfl rfl
     all_goals (rename_i e1 e2;simp at e1 e2)
    ·simp at hb
   ·split at hb
    ·unfold nilEq at hb
     split at hb<;>simp at hb<;>subst hb
     any_goals (rename_i e1 e2;simp at e1 e2;done)
     ·rename_i e1 e2;simp at e1 e2;subst e1 e2
      cases hx;cases hy
      exact fin (guard_ptr _ _ _ _ _ _ _) (eqs _ _ _ fun W=>by unfold Op.equalIn;simp only [Sem.run_bind,run_und hd,Result.andThen_ok];rfl) rfl rfl
     ·rename_i e1 e2;simp at e1 e2;subst e1 e2
      cases hx;cases hy
      exact fin (guard_ptr _ _ _ _ _ _ _) (eqs _ _ _ fun W=>by unfold Op.equalIn;simp only [Sem.run_bind,run_und hd,Result.andThen_ok];rfl) rfl rfl
    ·simp at hb
   ·split at hb
    ·unfold nilEq at hb
     split at hb<;>simp at hb<;>subst hb
     any_goals (rename_i e1 e2;simp at e1 e2;done)
     ·rename_i e1 e2;simp at e1 e2;subst e1 e2
      cases hx;cases hy
      exact fin (guard_map _ _ _ _ _ _ _) (eqs _ _ _ fun W=>by unfold Op.equalIn;simp only [Sem.run_bind,run_und hd,Result.andThen_ok];rfl) rfl rfl
     ·rename_i e1 e2;simp at e1 e2;subst e1 e2
      cases hx;cases hy
      exact fin (guard_map _ _ _ _ _ _ _) (eqs _ _ _ fun W=>by unfold Op.equalIn;simp only [Sem.run_bind,run_und hd,Result.andThen_ok];rfl) rfl rfl
    ·simp at hb
   ·split at hb<;>simp at hb<;>subst hb
    ·cases hx;cases hy
     exact fin (guard_f1 _ _ _ _ _ _ _ _) (eqs _ _ _ fun W=>by unfold Op.equalIn;simp only [Sem.run_bind,run_und hd,Result.andThen_ok];rfl) rfl rfl
    ·cases hx;cases hy
     exact fin (guard_f2 _ _ _ _ _ _ _ _) (eqs _ _ _ fun W=>by unfold Op.equalIn;simp only [Sem.run_bind,run_und hd,Result.andThen_ok];rfl) rfl rfl
   ·simp at hb
  ·simp at h
end Go.Sim
namespace Go.Sim
open Go Go.IntWalk
variable {P:Program} {ρ:Ren} {H:Hp} {W:World}
theorem binA_sound {op:BinOp} {t:TypeId} {x y:Operand} {vx vy wx wy v:Value} (h:binA P op t x y vx vy=some v) (hx:VR ρ vx wx) (hy:VR ρ vy wy) (W:World) :
  ∃ w,VR ρ v w∧(do eqGuard op t x y wx wy;binOp op t wx wy:Sem Value).run P W=.ok w W:=by
 unfold binA at h
 split at h
 ·rename_i k a
  split at h
  ·rename_i j b
   split at h
   ·rename_i hk
    have:=eqK_eq hk
    subst this
    replace h:=orSlow_some h
    rcases h with h | h
    ·have e1:=hx.int_eq
     have e2:=hy.int_eq
     subst e1 e2
     refine ⟨v,?_,by rw [Sem.run_bind,guard_int];exact intBin_sound h t W⟩
     have:simple v=true:=by
      unfold intBin at h
      split at h<;>first | (simp only [Option.some.injEq] at h;subst h;rfl) | (split at h<;>simp at h<;>subst h<;>rfl) | (simp at h)
     exact simple_refl this
    ·exact slowBin_sound h hx hy W
   ·exact slowBin_sound h hx hy W
  ·exact slowBin_sound h hx hy W
 ·split at h
  ·replace h:=orSlow_some h
   rcases h with h | h
   ·have e1:=hx.string_eq
    have e2:=hy.string_eq
    subst e1 e2
    obtain ⟨g1,g2⟩:=strBin_sound (P:=P) h t W
    exact ⟨v,simple_refl g1,by rw [Sem.run_bind,guard_string];exact g2⟩
   ·exact slowBin_sound h hx hy W
  ·exact slowBin_sound h hx hy W
 ·exact slowBin_sound h hx hy W
theorem unA_sound {op:UnOp} {v w u:Value} (h:unA P op v=some u) (hv:VR ρ v w) (W:World):VR ρ u u∧(Op.unary op w).run P W=.ok u W:=by
 unfold unA at h
 split at h
 ·split at h
  ·simp only [Option.some.injEq] at h;subst h
   have e:=hv.bool_eq
   subst e
   exact ⟨.bool _,rfl⟩
  ·simp at h
 ·split at h
  ·simp only [Option.some.injEq] at h;subst h
   have e:=hv.int_eq
   subst e
   exact ⟨.int _ _,by rw [wrapF_eq];rfl⟩
  ·simp at h
 ·split at h
  ·rename_i hs
   obtain ⟨r,hr,hr'⟩:=Option.bind_eq_some_iff.1 h
   obtain ⟨rfl,hsr⟩:=ifSimple_some hr'
   rw [simple_eq hs hv]
   exact ⟨simple_refl hsr,pureRun_run hr W⟩
  ·simp at h
theorem part_sound {t:TypeId} {cs:List Value} {o:Nat} {v:Value} (h:partA P t cs o=some v) {C:Array Value} (hc:VRs ρ cs C.toList) (W:World) :
  ∃ x,VR ρ v x∧(part t C o).run P W=.ok x W:=by
 unfold partA at h
 split at h
 ·rename_i hagg
  split at h
  ·rename_i n hn
   obtain ⟨l,hl,rfl⟩:=Option.map_eq_some_iff.1 h
   obtain ⟨h1,_,h3⟩:=cut_spec hl
   have hC:C.size=cs.length:=by rw [← Array.length_toList,hc.length]
   refine ⟨.agg (C.extract o (o+n)),aggL_VR (VRs.of_get ?_ fun j v hj=>?_),?_⟩
   ·rw [Array.length_toList,Array.size_extract,h1]
    rcases Nat.eq_zero_or_pos n with g | g
    ·subst g;simp;omega
    ·have:=(h3 (n-1) (by omega)).2
     omega
   ·have hjn:j<n:=by have:=(List.getElem?_eq_some_iff.1 hj).1;omega
    obtain ⟨g1,g2⟩:=h3 j hjn
    rw [g1] at hj
    obtain ⟨x,hx,hv⟩:=hc.get hj
    refine ⟨x,?_,hv⟩
    rw [Array.getElem?_toList,Array.getElem?_extract,if_pos (by omega)]
    simpa using hx
   ·unfold part
    simp [run_isAgg hagg,run_size hn]
  ·simp at h
 ·rename_i hagg
  obtain ⟨x,hx,hv⟩:=hc.get h
  refine ⟨x,hv,?_⟩
  unfold part
  have:C[o]? =some x:=by simpa using hx
  simp [run_isAgg hagg,this]
 ·simp at h
theorem bytesA_sound:∀ {l m:List Value} {bs:List UInt8},bytesA l=some bs→VRs ρ l m→∃ ns:List Nat,m=ns.map (fun n=>Value.int .u8 (.ofNat n))∧bs=ns.map UInt8.ofNat
 | [],m,bs,h,hv=>by cases hv;simp [bytesA] at h;subst h;exact ⟨[],rfl,rfl⟩
 | v::l,m,bs,h,hv=>by
  cases hv with
  | cons h1 hs=>
   cases v with
   | int k n=>
    cases k<;>cases n<;>simp only [bytesA] at h<;>try (simp at h;done)
    split at h
    ·rename_i r hr
     simp at h;subst h
     obtain ⟨ns,e1,e2⟩:=bytesA_sound hr hs
     have:=h1.int_eq
     subst this e1 e2
     exact ⟨_::ns,rfl,rfl⟩
    ·simp at h
   | _=>simp [bytesA] at h
theorem fold_push:∀ (ns:List Int) (s:ByteArray),ns.foldl (fun r n=>r.push (UInt8.ofNat n.toNat)) s=⟨(s.data.toList++ns.map fun n=>UInt8.ofNat n.toNat).toArray⟩
 | [],s=>by cases s;simp
 | n::ns,s=>by rw [List.foldl_cons,fold_push ns];simp [ByteArray.push]
theorem readAt_zero {a:Addr} {l:List Value} (h:H.readAt a 0=some l):l=[]:=by
 obtain ⟨i,o,sp⟩:=a
 cases sp with
 | none=>
  simp only [Hp.readAt,Hp.read] at h
  split at h
  ·exact List.eq_nil_of_length_eq_zero (cut_spec h).1
  ·cases h
 | some _=>simp [Hp.readAt] at h
theorem readS_sound (R:Rep P ρ H W) {a:Addr} {n c c' k:Nat} {b:Addr} {l:List Value} (hv:VR ρ (.slice (some a) n c) (.slice (some b) n c')) (h:H.readAt a k=some l) (hk:n=0→k=0) :
  ∃ m,VRs ρ l m∧m.length=k∧∀ W',W'.heap=W.heap→(Go.loadCells b k).run P W'=.ok m.toArray W':=by
 cases hv with
 | slice ha hc=>
  obtain ⟨i,o,sp⟩:=a
  cases sp with
  | none=>
   obtain ⟨g,f,C,e,fz,m,rfl,h1,h2,h3,h4⟩:=R.read h ha
   have hl:m.length=k:=by rw [h3.length,h2]
   refine ⟨m,h3,hl,fun W' hW=>?_⟩
   have:=run_loadCellsFrom P (W:=W') (by rw [hW];exact h1) m 0 #[] (fun j x hx=>by simpa using h4 j x hx)
   rw [hl] at this
   simpa [Go.loadCells] using this
  | some _=>simp [Hp.readAt] at h
 | slice0 ha hp hb hs hU hc=>
  have:=hk rfl
  subst this
  rw [readAt_zero h]
  exact ⟨[],.nil,rfl,fun W' _=>rfl⟩
 | slice00 a b=>
  have:=hk rfl
  subst this
  rw [readAt_zero h]
  exact ⟨[],.nil,rfl,fun W' _=>rfl⟩
theorem convA_sound (R:Rep P ρ H W) {s d:TypeId} {v w u:Value} (h:convA P H s d v=some u) (hv:VR ρ v w):∃ x,VR ρ u x∧(convert s d w).run P W=.ok x W:=by
 unfold convA at h
 split at h
 ·rename_i ds hds
  split at h
  ·rename_i dd hdd
   replace h:=orSlow_some h
   rcases h with h | h
   ·unfold convD at h
    split at h
    ·rename_i e
     split at h
     ·rename_i a n c
      split at h
      ·rename_i he
       split at h
       ·rename_i cs hcs
        obtain ⟨bs,hbs,rfl⟩:=Option.map_eq_some_iff.1 h
        obtain ⟨b,c',hw⟩:∃ b c',w=.slice (some b) n c':=by cases hv<;>exact ⟨_,_,rfl⟩
        subst hw
        obtain ⟨m,hm,hml,hrun⟩:=readS_sound R hv hcs (fun h=>h)
        replace hrun:=hrun W rfl
        obtain ⟨ns,e1,e2⟩:=bytesA_sound hbs hm
        refine ⟨_,.string _,?_⟩
        rw [run_convert_bytes_string W s d e _ _ _ hds he hdd]
        have e3:m=(ns.map Int.ofNat).map (Value.int .u8):=by rw [e1];simp
        rw [e3] at hrun
        rw [run_bytesToString W b n c' _ hrun,fold_push,e2]
        simp
       ·simp at h
      ·simp at h
     ·rename_i n1 n2
      split at h
      ·rename_i he
       simp only [Option.some.injEq] at h;subst h
       cases hv
       refine ⟨_,.string _,?_⟩
       rw [run_convert_bytes_string W s d e _ _ _ hds he hdd]
       rfl
      ·simp at h
     ·simp at h
    ·rename_i k hne
     split at h
     ·rename_i j n
      simp only [Option.some.injEq] at h;subst h
      have e:=hv.int_eq
      subst e
      refine ⟨_,.int _ _,?_⟩
      unfold convert
      simp only [Sem.run_bind,run_und hds,run_und hdd,Result.andThen_ok,wrapF_eq]
      rfl
     ·simp at h
    ·simp at h
   ·split at h
    ·rename_i hs
     obtain ⟨r,hr,hr'⟩:=Option.bind_eq_some_iff.1 h
     obtain ⟨rfl,hsr⟩:=ifSimple_some hr'
     rw [simple_eq hs hv]
     exact ⟨_,simple_refl hsr,pureRun_run hr W⟩
    ·simp at h
  ·simp at h
 ·simp at h
theorem elemAt_sound {a b:Addr} {len s n:Nat} {v:Value} (h:elemAt a len s n=some v) (ha:ρ.addr a b):n<len∧VR ρ v (.pointer (some (b.add (n*s)))):=by
 unfold elemAt at h
 split at h
 ·rename_i hb
  rw [Nat.blt_eq] at hb
  simp only [Option.some.injEq] at h;subst h
  exact ⟨hb,.ptr (ha.add _)⟩
 ·simp at h
theorem indexAddr_sound {t:TypeId} {v i w j u:Value} (h:indexAddrA P t v i=some u) (hv:VR ρ v w) (hi:VR ρ i j) (W:World):∃ x,VR ρ u x∧(Instr.indexAt t w j).run P W=.ok x W:=by
 unfold indexAddrA at h
 split at h
 ·rename_i k n
  have e:=hi.int_eq
  subst e
  replace h:=Option.bind_eq_some_iff.1 h
  obtain ⟨d,hd,h⟩:=h
  unfold indexD at h
  split at h
  ·rename_i e
   split at h
   ·rename_i a len c
    replace h:=Option.bind_eq_some_iff.1 h
    obtain ⟨s,hs,h⟩:=h
    cases hv with
    | slice0 _ _ _ _ _ _=>simp [elemAt,Nat.blt,Nat.ble] at h
    | slice00 _ _=>simp [elemAt,Nat.blt,Nat.ble] at h
    | slice ha hc=>
     obtain ⟨g1,g2⟩:=elemAt_sound h ha
     refine ⟨_,g2,?_⟩
     unfold Instr.indexAt
     have hr:(0≤Int.ofNat n∧Int.ofNat n<(len:Int)):=⟨Int.natCast_nonneg n,by simp only [Int.ofNat_eq_natCast];omega⟩
     simp only [asIntOf,Sem.run_bind,Sem.run_pure,Result.andThen_ok,run_und hd,run_size hs,if_pos hr,hr,and_self,if_true,Sem.run_ite]
     rfl
   ·simp at h
  ·rename_i len e
   split at h
   ·rename_i a
    replace h:=Option.bind_eq_some_iff.1 h
    obtain ⟨s,hs,h⟩:=h
    cases hv with
    | ptr ha=>
     obtain ⟨g1,g2⟩:=elemAt_sound h ha
     refine ⟨_,g2,?_⟩
     unfold Instr.indexAt
     have hr:(0≤Int.ofNat n∧Int.ofNat n<(len:Int)):=⟨Int.natCast_nonneg n,by simp only [Int.ofNat_eq_natCast];omega⟩
     simp only [asIntOf,Instr.sureAddr,Sem.run_bind,Sem.run_pure,Result.andThen_ok,run_und hd,run_size hs,if_pos hr,hr,and_self,if_true,Sem.run_ite]
     rfl
   ·simp at h
  ·simp at h
 ·simp at h
theorem fieldAddr_sound {t:TypeId} {v w u:Value} {f:Nat} (h:fieldAddrA P t v f=some u) (hv:VR ρ v w) (W:World):∃ x,VR ρ u x∧(Instr.fieldAt t w f).run P W=.ok x W:=by
 replace h:=Option.bind_eq_some_iff.1 h
 obtain ⟨d,hd,h⟩:=h
 unfold fieldAddrD at h
 split at h
 ·rename_i fs
  split at h
  ·rename_i a
   split at h
   ·rename_i fd hfd
    split at h
    ·rename_i n hn
     simp only [Option.some.injEq] at h;subst h
     cases hv with
     | ptr ha=>
      rename_i b
      refine ⟨_,.ptr (ha.add _),?_⟩
      have hf:fs[f]? =some fd:=by simpa using hfd
      unfold Instr.fieldAt
      simp only [Sem.run_bind,run_und hd,Result.andThen_ok,hf,Instr.sureAddr,Sem.run_pure]
      unfold fieldPlace
      simp only [Sem.run_bind,run_size hn,Result.andThen_ok,Nat.succ_ne_zero,if_false,Sem.run_pure]
    ·simp at h
   ·simp at h
  ·simp at h
 ·simp at h
theorem field_sound {t:TypeId} {v w u:Value} {f:Nat} (h:fieldA P t v f=some u) (hv:VR ρ v w) (W:World):∃ x,VR ρ u x∧(Instr.field t w f).run P W=.ok x W:=by
 replace h:=Option.bind_eq_some_iff.1 h
 obtain ⟨d,hd,h⟩:=h
 unfold fieldD at h
 split at h
 ·rename_i fs
  split at h
  ·rename_i cs
   split at h
   ·rename_i fd hfd
    cases hv with
    | agg hc=>
     rename_i l m
     obtain ⟨x,hx,hrun⟩:=part_sound (C:=⟨m⟩) h hc W
     refine ⟨x,hx,?_⟩
     have hf:fs[f]? =some fd:=by simpa using hfd
     unfold Instr.field
     simp only [Sem.run_bind,run_und hd,Result.andThen_ok,hf,asAgg,Sem.run_pure]
     exact hrun
   ·simp at h
  ·simp at h
 ·simp at h
theorem index_sound {t:TypeId} {v i w j u:Value} (h:indexA P t v i=some u) (hv:VR ρ v w) (hi:VR ρ i j) (W:World):∃ x,VR ρ u x∧(Instr.index t w j).run P W=.ok x W:=by
 unfold indexA at h
 split at h
 ·rename_i k n
  have e:=hi.int_eq
  subst e
  replace h:=Option.bind_eq_some_iff.1 h
  obtain ⟨d,hd,h⟩:=h
  unfold indexVD at h
  split at h
  ·split at h
   ·rename_i s
    obtain ⟨b,hb,rfl⟩:=Option.map_eq_some_iff.1 h
    have e:=hv.string_eq
    subst e
    refine ⟨_,.int _ _,?_⟩
    unfold Instr.index
    have hb':s[n]? =some b:=by
     have:n<s.size:=by have:=(List.getElem?_eq_some_iff.1 hb).1;simpa using this
     rw [getElem?_pos s n this]
     have h2:=(List.getElem?_eq_some_iff.1 hb).2
     rw [← h2];rfl
    simp only [asIntOf,Sem.run_bind,Sem.run_pure,Result.andThen_ok,run_und hd]
    rw [if_pos (show (0:Int)≤Int.ofNat n from Int.natCast_nonneg n)]
    show Sem.run P (match s[n]? with | some b=>pure (Value.int IntKind.u8 ↑b.toNat) | none=>boundsPanic k (Int.ofNat n) (↑s.size) BoundsCode.index) W=_
    rw [hb']
    rfl
   ·simp at h
  ·rename_i len e
   split at h
   ·rename_i cs
    split at h
    ·rename_i sz hsz
     split at h
     ·rename_i hlt
      rw [Nat.blt_eq] at hlt
      cases hv with
      | agg hc=>
       rename_i l m
       obtain ⟨x,hx,hrun⟩:=part_sound (C:=⟨m⟩) h hc W
       refine ⟨x,hx,?_⟩
       have hr:(0≤Int.ofNat n∧Int.ofNat n<(len:Int)):=⟨Int.natCast_nonneg n,by simp only [Int.ofNat_eq_natCast];omega⟩
       unfold Instr.index
       simp only [asIntOf,Sem.run_bind,Sem.run_pure,Result.andThen_ok,run_und hd,hr,and_self,if_true,run_size hsz]
       exact hrun
     ·simp at h
    ·simp at h
   ·simp at h
  ·simp at h
 ·simp at h
end Go.Sim
namespace Go.Sim
open Go Go.IntWalk
variable {P:Program} {ρ:Ren} {H:Hp} {W:World}
theorem i64N_some {v:Value} {n:Nat} (h:i64N v=some n):v=.int .i64 (.ofNat n):=by
 unfold i64N at h;split at h<;>simp at h;subst h;rfl
inductive VO (ρ:Ren):Option Value→Option Value→Prop
 | none:VO ρ none none
 | some {v w:Value} (h:VR ρ v w):VO ρ (some v) (some w)
theorem bound_some {d n:Nat} {v:Value} (h:boundA d (some v)=some n):∃ k,v=.int k (.ofNat n):=by
 unfold boundA at h;split at h<;>simp at h
 ·rename_i e;cases e
 ·rename_i k m e;simp at e;subst h e;exact ⟨k,rfl⟩
theorem bound_run {v w:Value} (hv:VR ρ v w) {d n y:Nat} (h:boundA d (some v)=some n) (hy:n≤y) (code:BoundsCode) (W:World):(Instr.sliceBound w y code).run P W=.ok n W:=by
 obtain ⟨k,rfl⟩:=bound_some h
 have e:=hv.int_eq
 subst e
 unfold Instr.sliceBound
 have hr:(0≤Int.ofNat n∧Int.ofNat n≤(y:Int)):=⟨Int.natCast_nonneg n,by simp only [Int.ofNat_eq_natCast];omega⟩
 simp only [asIntOf,Sem.run_bind,Sem.run_pure,Result.andThen_ok,if_pos hr,hr,and_self,if_true]
 rfl
theorem bounds2 {lo hi lo' hi':Option Value} (hl:VO ρ lo lo') (hh:VO ρ hi hi') {len cap l h:Nat} (bl:boundA 0 lo=some l) (bh:boundA len hi=some h) (h1:l≤h) (h2:h≤cap) (b:Bool) (W:World) :
  (Instr.sliceBounds b len cap lo' hi' none).run P W=.ok (l,h,cap) W:=by
 unfold Instr.sliceBounds
 cases hl with
 | none=>
  simp [boundA] at bl;subst bl
  cases hh with
  | none=>simp [boundA] at bh;subst bh;simp
  | some hv=>simp [bound_run hv bh h2]
 | some hv0=>
  cases hh with
  | none=>simp [boundA] at bh;subst bh;simp [bound_run hv0 bl h1]
  | some hv=>simp [bound_run hv bh h2,bound_run hv0 bl h1]
theorem bounds3 {lo lo':Option Value} {hi hi' mx mx':Value} (hl:VO ρ lo lo') (hh:VR ρ hi hi') (hm:VR ρ mx mx') {len cap l h m:Nat} (bl:boundA 0 lo=some l) (bh:boundA len (some hi)=some h) (bm:boundA 0 (some mx)=some m)
  (h1:l≤h) (h2:h≤m) (h3:m≤cap) (b:Bool) (W:World) :
  (Instr.sliceBounds b len cap lo' (some hi') (some mx')).run P W=.ok (l,h,m) W:=by
 unfold Instr.sliceBounds
 cases hl with
 | none=>simp [boundA] at bl;subst bl;simp [bound_run hm bm h3,bound_run hh bh h2]
 | some hv0=>simp [bound_run hm bm h3,bound_run hh bh h2,bound_run hv0 bl h1]
theorem capR.low {n c c':Nat} (h:capR ρ n c c') (hc:c<U):c'=c:=h.2.1 hc
theorem U_pos:0<U:=by unfold U;omega
theorem capLess_letter {c l:Nat} (h:U≤c):capLess c l=U+1:=by
 have hb:Nat.blt c U=false:=by cases hb:Nat.blt c U with | false=>rfl | true=>rw [Nat.blt_eq] at hb;omega
 unfold capLess;rw [hb]
theorem capR_any {n c:Nat} (h:n≤c):capR ρ n (U+1) c:=⟨h,fun h=>by omega,fun i h=>by omega⟩
theorem capLess_R {n n' c c' l:Nat} (h:capR ρ n c c') (hc:U≤c) (hn:n'≤c'-l):capR ρ n' (capLess c l) (c'-l):=by
 rw [capLess_letter hc];exact capR_any hn
theorem sliceA_sound (R:Rep P ρ H W) {e:TypeId} {a:Option Addr} {len c:Nat} {lo hi mx lo' hi' mx':Option Value} {v:Value} {H':Hp} (h:sliceA P e a len c lo hi mx H=some (v,H'))
  {b:Option Addr} {c':Nat} (hv:VR ρ (.slice a len c) (.slice b len c')) (hl:VO ρ lo lo') (hh:VO ρ hi hi') (hm:VO ρ mx mx') (isS:Bool) :
  ∃ ρ' l h m s,(Instr.sliceBounds isS len c' lo' hi' mx').run P W=.ok (l,h,m) W∧sizeT P e=some s∧VR ρ' v (.slice (if m=l then b else b.map (·.add (l*s))) (h-l) (m-l))∧Rep P ρ' H' W∧Fr ρ ρ' H H' W W:=by
 unfold sliceA at h
 split at h
 ·rename_i s hs
  split at h
  ·rename_i l bl
   split at h
   ·rename_i k bh
    split at h
    ·cases hm
     unfold slice2 at h
     split at h
     ·rename_i hc
      simp only [Bool.and_eq_true,Bool.or_eq_true,Nat.ble_eq,Nat.blt_eq] at hc
      obtain ⟨hlk,hk⟩:=hc
      split at h
      ·split at h
       ·rename_i h0
        have h0:=Nat.eq_of_beq_eq_true h0
        simp at h;obtain ⟨rfl,rfl⟩:=h
        subst h0
        have:l=0:=by omega
        subst this
        cases hv
        exact ⟨ρ,0,0,0,s,bounds2 hl hh bl bh (Nat.le_refl _) (Nat.zero_le _) isS W,hs,by simpa using VR.nilSlice,R,.refl ρ H W⟩
       ·simp at h
      ·rename_i a
       cases hv with
       | slice0 ha hp hb hs0 hU hca=>
        rename_i b p
        have hcU:¬c<U:=by omega
        have hk0:k=0:=by
         rcases hk with g | ⟨g1,g2⟩
         ·omega
         ·exact absurd g1 hcU
        subst hk0
        have hl0:l=0:=by omega
        subst hl0
        simp at h;obtain ⟨rfl,rfl⟩:=h
        refine ⟨ρ,0,0,c',s,bounds2 hl hh bl bh (Nat.le_refl _) (Nat.zero_le _) isS W,hs,?_,R,.refl ρ H W⟩
        have e1:(if c'=0 then some b else Option.map (fun x=>x.add (0*s)) (some b))=some b:=by
         split
         ·rfl
         ·simp [Addr.add]
        rw [e1]
        exact .slice0 ha hp hb hs0 hU hca
       | slice00 a b=>
        have hk0:k=0:=by
         rcases hk with g | ⟨g1,g2⟩
         ·omega
         ·omega
        subst hk0
        have hl0:l=0:=by omega
        subst hl0
        simp at h;obtain ⟨rfl,rfl⟩:=h
        refine ⟨ρ,0,0,0,s,bounds2 hl hh bl bh (Nat.le_refl _) (Nat.zero_le _) isS W,hs,?_,R,.refl ρ H W⟩
        exact .slice00 _ _
       | slice ha hca=>
        rename_i b
        have hkc:k≤c':=by
         rcases hk with g | ⟨g1,g2⟩
         ·exact Nat.le_trans g hca.1
         ·rw [hca.low g1];exact g2
        have hb:=bounds2 (P:=P) hl hh bl bh hlk hkc isS W
        split at h
        ·simp at h;obtain ⟨rfl,rfl⟩:=h
         refine ⟨ρ,0,k,c',s,hb,hs,?_,R,.refl ρ H W⟩
         have e1:(if c'=0 then some b else Option.map (fun x=>x.add (0*s)) (some b))=some b:=by
          split
          ·rfl
          ·simp [Addr.add]
         rw [e1]
         exact .slice ha ⟨hkc,hca.2.1,hca.2.2⟩
        ·rename_i l
         unfold sliceL at h
         split at h
         ·rename_i hcU
          rw [Nat.blt_eq] at hcU
          have ec:=hca.low hcU
          subst ec
          simp at h;obtain ⟨rfl,rfl⟩:=h
          refine ⟨ρ,l+1,k,c',s,hb,hs,?_,R,.refl ρ H W⟩
          have hcap:capR ρ (k-(l+1)) (c'-(l+1)) (c'-(l+1)):=⟨by omega,fun _=>rfl,fun i hh=>by omega⟩
          cases hq:Nat.beq c' (l+1) with
          | true=>
           have:=Nat.eq_of_beq_eq_true hq
           rw [if_pos this]
           exact .slice ha hcap
          | false=>
           have:c'≠l+1:=fun e=>by subst e;simp at hq
           rw [if_neg this]
           exact .slice (ha.add _) hcap
         ·rename_i hcU
          have hcU:U≤c:=by
           rcases Nat.lt_or_ge c U with g | g
           ·rw [← Nat.blt_eq] at g;rw [g] at hcU;cases hcU
           ·exact g
          split at h
          ·rename_i hll
           rw [Nat.blt_eq] at hll
           simp at h;obtain ⟨rfl,rfl⟩:=h
           refine ⟨ρ,l+1,k,c',s,hb,hs,?_,R,.refl ρ H W⟩
           have:=hca.1
           rw [if_neg (by omega)]
           exact .slice (ha.add _) (capLess_R hca hcU (by omega))
          ·split at h
           ·rename_i hkl
            have hkl:=Nat.eq_of_beq_eq_true hkl
            subst hkl
            simp at h;obtain ⟨rfl,rfl⟩:=h
            have hspb:∀ (x:Addr) (n:Nat),x.spot=none→(x.add n).spot=none∧(x.add n).block=x.block:=by
             intro x n hx;unfold Addr.add;split
             ·exact ⟨hx,rfl⟩
             ·exact ⟨rfl,rfl⟩
            obtain ⟨ha1,p,hp,rfl⟩:=ha
            obtain ⟨q1,q2⟩:=hspb a ((l+1)*s) ha1
            have hcl:=capLess_R (n':=0) (l:=l+1) hca hcU (Nat.zero_le _)
            have hU2:capLess c (l+1)=U+1:=capLess_letter hcU
            refine ⟨ρ,l+1,l+1,c',s,hb,hs,?_,R,.refl ρ H W⟩
            rw [Nat.sub_self]
            split
            ·exact .slice0 q1 (by rw [q2];exact hp) rfl rfl hU2 hcl
            ·obtain ⟨r1,r2⟩:=hspb (⟨p.1,p.2+a.off,none⟩:Addr) ((l+1)*s) rfl
             exact .slice0 q1 (by rw [q2];exact hp) r2 r1 hU2 hcl
           ·simp at h
     ·simp at h
    ·rename_i mv
     split at h
     ·rename_i hv0
      split at h
      ·rename_i m bm
       cases hm with
       | some hm=>
        cases hh with
        | some hh=>
         unfold slice3 at h
         split at h
         ·rename_i hc
          simp only [Bool.and_eq_true,Nat.ble_eq,Nat.blt_eq] at hc
          obtain ⟨⟨⟨hlk,hkm⟩,hml⟩,hmU⟩:=hc
          split at h
          ·split at h
           ·rename_i h0
            have h0:=Nat.eq_of_beq_eq_true h0
            simp at h;obtain ⟨rfl,rfl⟩:=h
            subst h0
            have e1:k=0:=by omega
            subst e1
            have e2:l=0:=by omega
            subst e2
            cases hv
            exact ⟨ρ,0,0,0,s,bounds3 hl hh hm bl bh bm (Nat.le_refl _) (Nat.le_refl _) (Nat.zero_le _) isS W,hs,by simpa using VR.nilSlice,R,.refl ρ H W⟩
           ·simp at h
          ·rename_i a
           split at h
           rotate_left
           ·simp at h
           rename_i hm0
           rw [Nat.blt_eq] at hm0
           cases hv with
           | slice0 _ _ _ _ _ _=>omega
           | slice00 _ _=>omega
           | slice ha hca=>
            rename_i b
            simp at h;obtain ⟨rfl,rfl⟩:=h
            have hmc:m≤c':=Nat.le_trans hml hca.1
            refine ⟨ρ,l,k,m,s,bounds3 hl hh hm bl bh bm hlk hkm hmc isS W,hs,?_,R,.refl ρ H W⟩
            have hcap:capR ρ (k-l) (m-l) (m-l):=⟨by omega,fun _=>rfl,fun i hh=>by omega⟩
            cases hq:Nat.beq m l with
            | true=>
             have:=Nat.eq_of_beq_eq_true hq
             rw [if_pos this]
             exact .slice ha hcap
            | false=>
             have:m≠l:=fun e=>by subst e;simp at hq
             rw [if_neg this]
             exact .slice (ha.add _) hcap
         ·simp at h
      ·simp at h
     ·simp at h
   ·simp at h
  ·simp at h
 ·simp at h
theorem strSlice_sound {s:ByteArray} {lo hi mx lo' hi' mx':Option Value} {v:Value} (h:strSlice s lo hi mx=some v) (hl:VO ρ lo lo') (hh:VO ρ hi hi') (hm:VO ρ mx mx') {t:TypeId} (ht:P.underlying t=some .string) (W:World) :
  VR ρ v v∧(Instr.slice t (.string s) lo' hi' mx').run P W=.ok v W:=by
 unfold strSlice at h
 split at h
 ·split at h
  ·rename_i l bl
   split at h
   ·rename_i k bh
    split at h
    ·rename_i hc
     simp only [Bool.and_eq_true,Nat.ble_eq] at hc
     simp at h;subst h
     cases hm
     refine ⟨.string _,?_⟩
     unfold Instr.slice
     simp only [Sem.run_bind,run_und ht,Result.andThen_ok]
     have e:s.extract l k=⟨((s.data.toList.drop l).take (k-l)).toArray⟩:=by
      apply ByteArray.ext
      apply Array.ext'
      simp [ByteArray.data_extract,List.drop_take]
     simp only [Option.isSome_none,Bool.false_eq_true,if_false,Sem.run_bind,bounds2 hl hh bl bh hc.1 hc.2 false W,Result.andThen_ok,e]
     rfl
    ·simp at h
   ·simp at h
  ·simp at h
 ·simp at h
section ops
variable {tm:Trie Value} {nt:Nat} {a:Act} {o:Oper} {r:ARes} (R:Rep P ρ H W) (ht:TR ρ tm nt a.tmps)
include R ht
theorem evOpt_sound {x:Option Operand} {v:Option Value} (h:evOpt P tm x=some v):VO ρ v (x.map a.eval):=by
 unfold evOpt at h
 split at h
 ·simp at h;subst h;exact .none
 ·obtain ⟨u,hu,rfl⟩:=Option.map_eq_some_iff.1 h
  exact .some (eval_sound R ht hu)
theorem oslice_sound {t:TypeId} {x:Operand} {lo hi mx:Option Operand} (h:oSlice P tm H t x lo hi mx=some r) (ho:o.op=.slice t x lo hi mx):ResOK P ρ H W ((execOp a.eval o).run P W) r:=by
 unfold oSlice at h
 split at h
 ·rename_i v hv
  split at h
  ·rename_i l hl
   split at h
   ·rename_i k hk
    split at h
    ·rename_i m hm
     replace hv:=eval_sound R ht hv
     replace hl:=evOpt_sound R ht hl
     replace hk:=evOpt_sound R ht hk
     replace hm:=evOpt_sound R ht hm
     obtain ⟨d,hd,h⟩:=Option.bind_eq_some_iff.1 h
     have hexec:∀ res,(Instr.sliceAt t (a.eval x) (lo.map a.eval) (hi.map a.eval) (mx.map a.eval)).run P W=.ok res W→(execOp a.eval o).run P W=.ok (.value res) W:=fun res hr=>by
      unfold execOp;rw [ho];exact run_value hr
     unfold sliceD at h
     split at h
     ·split at h
      ·rename_i s
       obtain ⟨u,hu,rfl⟩:=valH_some h
       have e:=hv.string_eq
       obtain ⟨g1,g2⟩:=strSlice_sound hu hl hk hm hd W
       refine .pure R g1 (hexec _ ?_)
       rw [e]
       unfold Instr.sliceAt
       simp only [Sem.run_bind,run_und hd,Result.andThen_ok]
       exact g2
      ·simp at h
     ·rename_i e
      split at h
      ·rename_i b len c _
       obtain ⟨u,H',hu,rfl⟩:=pairV_some h
       obtain ⟨b',c',hb'⟩:∃ b' c',a.eval x=.slice b' len c':=by
        generalize a.eval x=y at hv
        cases hv with
        | nilSlice=>exact ⟨_,_,rfl⟩
        | slice _ _=>exact ⟨_,_,rfl⟩
        | slice0 _ _ _ _ _ _=>exact ⟨_,_,rfl⟩
        | slice00 _ _=>exact ⟨_,_,rfl⟩
       rw [hb'] at hv
       obtain ⟨ρ',l',h',m',s,g1,g2,g3,g4,g5⟩:=sliceA_sound R hu hv hl hk hm true
       refine ⟨ρ',_,W,.inl (hexec _ ?_),g3,g4,g5⟩
       rw [hb']
       unfold Instr.sliceAt
       simp only [Sem.run_bind,run_und hd,Result.andThen_ok]
       unfold Instr.slice
       simp only [Sem.run_bind,run_und hd,Result.andThen_ok,g1,run_size g2]
       rfl
      ·simp at h
     ·rename_i n e
      split at h
      ·rename_i i off _
       split at h
       ·rename_i hU
        rw [Nat.blt_eq] at hU
        obtain ⟨u,H',hu,rfl⟩:=pairV_some h
        generalize hy:a.eval x=y at hv
        cases hv with
        | ptr ha=>
         rename_i b
         have hv2:VR ρ (.slice (some ⟨i,off,none⟩) n n) (.slice (some b) n n):=.slice ha ⟨Nat.le_refl _,fun _=>rfl,fun h=>by omega⟩
         obtain ⟨ρ',l',h',m',s,g1,g2,g3,g4,g5⟩:=sliceA_sound R hu hv2 hl hk hm false
         refine ⟨ρ',_,W,.inl (hexec _ ?_),g3,g4,g5⟩
         rw [hy]
         unfold Instr.sliceAt
         simp only [Sem.run_bind,run_und hd,Result.andThen_ok,Instr.sureAddr,Sem.run_pure,g1,run_size g2]
         split<;>simp_all
       ·simp at h
      ·simp at h
     ·simp at h
    ·simp at h
   ·simp at h
  ·simp at h
 ·simp at h
theorem makeSlice_sound {t:TypeId} {l c:Operand} (h:oMakeSlice P tm H t l c=some r) (ho:o.op=.makeSlice t l c):ResOK P ρ H W ((execOp a.eval o).run P W) r:=by
 unfold oMakeSlice at h
 split at h
 ·rename_i e he
  split at h
  ·rename_i n hn
   split at h
   ·rename_i m hm
    split at h
    ·rename_i by_ hby
     split at h
     ·rename_i hc
      simp only [Bool.and_eq_true,Nat.ble_eq,Nat.blt_eq] at hc
      obtain ⟨⟨hnm,hroom⟩,hm63⟩:=hc
      obtain ⟨cs,hcs,rfl⟩:=Option.map_eq_some_iff.1 h
      obtain ⟨vn,hvn,hvn'⟩:=Option.bind_eq_some_iff.1 hn
      obtain ⟨vm,hvm,hvm'⟩:=Option.bind_eq_some_iff.1 hm
      have e1:=i64N_some hvn'
      have e2:=i64N_some hvm'
      subst e1 e2
      have x1:=(eval_sound R ht hvn).int_eq
      have x2:=(eval_sound R ht hvm).int_eq
      obtain ⟨i,hi,rfl⟩:=bytes_info hby
      obtain ⟨z1,s,hs,z3,z4⟩:=zeros_sound hcs
      have wl:IntKind.i64.wrap (n:Int)=n:=by rw [IntKind.wrap_i64];omega
      have wc:IntKind.i64.wrap (m:Int)=m:=by rw [IntKind.wrap_i64];omega
      have n1:¬((m:Int)<0):=by omega
      have n2:¬(281474976710656<(i.bytes:Int)*m):=by
       have:((i.bytes*m:Nat):Int)≤140737488355328:=by rw [Nat.mul_comm];exact Int.ofNat_le.2 hroom
       rw [Int.natCast_mul] at this;omega
      have n3:¬((n:Int)<0):=by omega
      have n4:¬((m:Int)<n):=by omega
      have n5:¬(140737488355328<m*i.bytes):=by omega
      refine rowV_sound R ht (C:=cs.toArray) (by simpa using z1 ρ) hnm (by unfold U;omega) ?_
      unfold execOp;rw [ho]
      refine run_value ?_
      rw [x1,x2]
      by_cases hz:m*s=0
      ·have:cs=[]:=List.eq_nil_of_length_eq_zero (by rw [z3,hz])
       subst this
       simp [Instr.makeSlice,run_und (elem_und he),asInt,asIntOf,run_info hi,run_size hs,wl,wc,n1,n2,n3,n4,n5,hz,newRow,askRoom,roomBytes,Array.range_zero']
      ·obtain ⟨zv,hzr,hzs,heq⟩:=z4 hz
       simp [Instr.makeSlice,run_und (elem_und he),asInt,asIntOf,run_info hi,run_size hs,wl,wc,n1,n2,n3,n4,n5,hz,newRow,askRoom,roomBytes,hzr,← heq]
     ·simp at h
    ·simp at h
   ·simp at h
  ·simp at h
 ·simp at h
theorem assert_sound {x:Operand} {xt at_:TypeId} {ok:Bool} (h:oAssert P tm H x xt at_ ok=some r) (ho:o.op=.typeAssert x xt at_ ok):ResOK P ρ H W ((execOp a.eval o).run P W) r:=by
 unfold oAssert at h
 split at h
 ·rename_i v hv
  split at h
  ·rename_i hs
   obtain ⟨u,hu,rfl⟩:=valH_some h
   obtain ⟨w,hw,hw'⟩:=Option.bind_eq_some_iff.1 hu
   have e:=simple_eq hs (eval_sound R ht hv)
   have hr:VR ρ u w∧u=w:=by
    unfold assertV at hw'
    split at hw'
    ·rename_i cs
     split at hw'
     ·rename_i p b hp
      split at hw'
      ·rename_i hsp
       simp at hw';subst hw'
       have:cs=#[p,.bool b]:=by apply Array.ext';exact hp
       subst this
       exact ⟨.tuple (.cons (simple_refl hsp) (.cons (.bool _) .nil)),rfl⟩
      ·simp at hw'
     ·simp at hw'
    ·obtain ⟨rfl,hsr⟩:=ifSimple_some hw'
     exact ⟨simple_refl hsr,rfl⟩
   refine .pure R hr.1 ?_
   unfold execOp;rw [ho]
   refine run_value ?_
   rw [e]
   exact pureRun_run hw W
  ·simp at h
 ·simp at h
end ops
end Go.Sim
namespace Go.Sim
open Go Go.IntWalk
variable {P:Program} {ρ:Ren} {H:Hp} {W:World}
def hit (es:List MapEntry):Option Nat→Option (Nat×Value)
 | none=>none
 | some i=>(es[i]?).map fun e=>(i,e.val)
def hitAt (es:List MapEntry) (i:Nat):Option Nat→Option (Nat×Value)
 | none=>none
 | some j=>(es[j-i]?).map fun e=>(j,e.val)
theorem ba_beq (a b:ByteArray):(a.data.toList==b.data.toList)=(a==b):=by
 obtain ⟨x⟩:=a
 obtain ⟨y⟩:=b
 have e:((⟨x⟩:ByteArray)==⟨y⟩)=(x==y):=rfl
 rw [e,Bool.eq_iff_iff]
 simp only [beq_iff_eq]
 exact ⟨fun h=>Array.ext' h,fun h=>by rw [h]⟩
theorem findI_sound {j:IntKind} {a:Int}:∀ {es es':List MapEntry} {i:Nat} {r:Option Nat},findI j a es i=some r→L2 (ER ρ) es es' →
  ∀ kd,Instr.findNow (.int kd) (.int j a) es' i=some (hitAt es' i r)∧(∀ n,r=some n→i≤n∧n<i+es.length)
 | [],es',i,r,h,hl,kd=>by cases hl;simp [findI] at h;subst h;exact ⟨rfl,fun n h=>by cases h⟩
 | e::es,es',i,r,h,hl,kd=>by
  cases hl with
  | cons he hs=>
   rename_i e' es'
   simp only [findI] at h
   split at h
   ·rename_i k b hk
    have hkey:=he.1
    rw [hk] at hkey
    have hkey:=hkey.int_eq
    split at h
    ·rename_i hjk
     have:=eqK_eq hjk
     subst this
     rw [eqI_eq] at h
     cases hq:(a==b) with
     | true=>
      rw [hq] at h
      simp at h;subst h
      refine ⟨?_,fun n h=>by simp at h;subst h;simp⟩
      unfold Instr.findNow
      simp [hkey,Instr.sameNow,hq,hitAt]
     | false=>
      rw [hq] at h
      simp only at h
      obtain ⟨g1,g2⟩:=findI_sound h hs kd
      refine ⟨?_,fun n hn=>by obtain ⟨x,y⟩:=g2 n hn;simp;omega⟩
      unfold Instr.findNow
      simp only [hkey,Instr.sameNow,if_true,hq,g1]
      cases r with
      | none=>rfl
      | some n=>
       obtain ⟨x,y⟩:=g2 n rfl
       simp only [hitAt]
       rw [show n-i=(n-(i+1))+1 from by omega]
       simp
    ·simp at h
   ·simp at h
theorem findS_sound {a:ByteArray}:∀ {es es':List MapEntry} {i:Nat} {r:Option Nat},findS a es i=some r→L2 (ER ρ) es es' →
  Instr.findNow .string (.string a) es' i=some (hitAt es' i r)∧(∀ n,r=some n→i≤n∧n<i+es.length)
 | [],es',i,r,h,hl=>by cases hl;simp [findS] at h;subst h;exact ⟨rfl,fun n h=>by cases h⟩
 | e::es,es',i,r,h,hl=>by
  cases hl with
  | cons he hs=>
   rename_i e' es'
   simp only [findS] at h
   split at h
   ·rename_i b hk
    have hkey:=he.1
    rw [hk] at hkey
    have hkey:=hkey.string_eq
    have hb:(a.data.toList==b.data.toList)=(a==b):=ba_beq a b
    rw [eqB_eq,hb] at h
    cases hq:(a==b) with
    | true=>
     rw [hq] at h
     simp at h;subst h
     refine ⟨?_,fun n h=>by simp at h;subst h;simp⟩
     unfold Instr.findNow
     simp [hkey,Instr.sameNow,hq,hitAt]
    | false=>
     rw [hq] at h
     simp only at h
     obtain ⟨g1,g2⟩:=findS_sound h hs
     refine ⟨?_,fun n hn=>by obtain ⟨x,y⟩:=g2 n hn;simp;omega⟩
     unfold Instr.findNow
     simp only [hkey,Instr.sameNow,hq,g1]
     cases r with
     | none=>rfl
     | some n=>
      obtain ⟨x,y⟩:=g2 n rfl
      simp only [hitAt]
      rw [show n-i=(n-(i+1))+1 from by omega]
      simp
   ·simp at h
theorem findA_sound {kt:TypeId} {k:Value}:∀ {es es':List MapEntry} {i:Nat} {r:Option Nat},findA P kt k es i=some r→L2 (ER ρ) es es' →
  (∀ W,(Instr.findAsking kt k es' i).run P W=.ok (hitAt es' i r) W)∧(∀ n,r=some n→i≤n∧n<i+es.length)
 | [],es',i,r,h,hl=>by cases hl;simp [findA] at h;subst h;exact ⟨fun W=>rfl,fun n h=>by cases h⟩
 | e::es,es',i,r,h,hl=>by
  cases hl with
  | cons he hs=>
   rename_i e' es'
   simp only [findA] at h
   split at h
   ·rename_i hsk
    have hkey:=simple_eq hsk he.1
    unfold keyEq at h
    split at h
    ·rename_i hq
     simp at h;subst h
     refine ⟨fun W=>?_,fun n h=>by simp at h;subst h;simp⟩
     unfold Instr.findAsking
     simp [hkey,pureRun_run hq W,hitAt]
    ·rename_i hq
     obtain ⟨g1,g2⟩:=findA_sound h hs
     refine ⟨fun W=>?_,fun n hn=>by obtain ⟨x,y⟩:=g2 n hn;simp;omega⟩
     unfold Instr.findAsking
     simp only [Sem.run_bind,hkey,pureRun_run hq W,Result.andThen_ok,Bool.false_eq_true,if_false,g1 W]
     cases r with
     | none=>rfl
     | some n=>
      obtain ⟨x,y⟩:=g2 n rfl
      simp only [hitAt]
      rw [show n-i=(n-(i+1))+1 from by omega]
      simp
    ·simp at h
   ·simp at h
theorem hitAt_zero (es:List MapEntry) (r:Option Nat):hitAt es 0 r=hit es r:=by cases r<;>rfl
theorem findT_sound {kt:TypeId} {k k':Value} {es es':List MapEntry} {r:Option Nat} (h:findT P kt k es=some r) (hl:L2 (ER ρ) es es') (hk:VR ρ k k') :
  k'=k∧(∀ b W,(Instr.checkKey b 10000 kt k).run P W=.ok () W)∧(∀ W,(Instr.findKey kt k es').run P W=.ok (hit es' r) W)∧(∀ n,r=some n→n<es.length)∧VR ρ k k:=by
 unfold findT at h
 obtain ⟨d,hd,h⟩:=Option.bind_eq_some_iff.1 h
 unfold findK at h
 have last:(simple k=true)→(∀ a,d=.int a→False)→(d=.string→False)→(d=.bool→False) →
   (match simple k with
  | true=>match pureRun P (Instr.checkKey false 10000 kt k) with
   | some ()=>match pureRun P (Instr.checkKey true 10000 kt k) with
    | some ()=>findA P kt k es 0
    | none=>none
   | none=>none
  | false=>none)=some r→k'=k∧(∀ b W,(Instr.checkKey b 10000 kt k).run P W=.ok () W)∧(∀ W,(Instr.findKey kt k es').run P W=.ok (hit es' r) W)∧(∀ n,r=some n→n<es.length)∧VR ρ k k:=by
  intro hs n1 n2 n3 h
  rw [hs] at h
  simp only at h
  split at h
  ·rename_i c1
   split at h
   ·rename_i c2
    obtain ⟨g1,g2⟩:=findA_sound h hl
    refine ⟨simple_eq hs hk,fun b W=>?_,fun W=>?_,fun n hn=>by have:=(g2 n hn).2;omega,simple_refl hs⟩
    ·cases b with
     | false=>exact pureRun_run c1 W
     | true=>exact pureRun_run c2 W
    ·unfold Instr.findKey
     simp only [Sem.run_bind,run_und hd,Result.andThen_ok]
     have:Instr.findNow d k es' 0=none∨(es'=[]∧Instr.findNow d k es' 0=some none):=by
      cases es' with
      | nil=>exact .inr ⟨rfl,rfl⟩
      | cons e es'=>
       left
       unfold Instr.findNow
       have:Instr.sameNow d k e.key=none:=by
        unfold Instr.sameNow
        split
        ·exact absurd rfl (fun e=>n1 _ e)
        ·exact absurd rfl (fun e=>n2 e)
        ·exact absurd rfl (fun e=>n3 e)
        ·rfl
       rw [this]
     rcases this with g | ⟨rfl,g⟩
     ·rw [g];simp only;rw [g1,hitAt_zero]
     ·rw [g]
      cases hl
      simp [findA] at h;subst h
      rfl
   ·simp at h
  ·simp at h
 split at h
 ·split at h
  ·rename_i kd _ j a _
   obtain ⟨g1,g2⟩:=findI_sound h hl kd
   refine ⟨hk.int_eq,fun b W=>?_,fun W=>?_,fun n hn=>by have:=(g2 n hn).2;omega,.int _ _⟩
   ·unfold Instr.checkKey
    simp only [Sem.run_bind,run_und hd,Result.andThen_ok]
    rfl
   ·unfold Instr.findKey
    simp only [Sem.run_bind,run_und hd,Result.andThen_ok,g1,hitAt_zero]
    rfl
  ·simp at h
 ·simp at h
 ·split at h
  ·rename_i a _
   obtain ⟨g1,g2⟩:=findS_sound h hl
   refine ⟨hk.string_eq,fun b W=>?_,fun W=>?_,fun n hn=>by have:=(g2 n hn).2;omega,.string _⟩
   ·unfold Instr.checkKey
    simp only [Sem.run_bind,run_und hd,Result.andThen_ok]
    rfl
   ·unfold Instr.findKey
    simp only [Sem.run_bind,run_und hd,Result.andThen_ok,g1,hitAt_zero]
    rfl
  ·simp at h
 ·rename_i n1 n2 n3
  cases hs:simple k with
  | true=>exact last hs (fun a e=>n1 a e) (fun e=>n3 e) (fun e=>n2 e) h
  | false=>rw [hs] at h;simp at h
theorem L2.modify {α β:Type} {R:α→β→Prop} {l:List α} {m:List β} (k:L2 R l m) {i:Nat} {a:α} {f:β→β} (h:∀ b,m[i]? =some b→R a (f b)):L2 R (l.set i a) (m.modify i f):=by
 induction k generalizing i with
 | nil=>simpa using L2.nil
 | cons h' hs ih=>
  cases i with
  | zero=>simpa using L2.cons (h _ rfl) hs
  | succ i=>simpa using L2.cons h' (ih fun b hb=>h b (by simpa using hb))
theorem Rep.mapBlk (R:Rep P ρ H W) {r:Nat} {es:List MapEntry} {ck:Nat} (h:H.get r=some (.map es ck)) {p:Nat×Nat} (hp:ρ.blk r=some p) :
  ∃ es',W.heap[p.1]? =some (.map es' ck)∧L2 (ER ρ) es es'.toList:=by
 obtain ⟨es',h1,h2⟩:=R.blk r _ p h trivial hp
 exact ⟨es',h1,h2⟩
theorem run_getMap {r:Nat} {es:Array MapEntry} {ck:Nat} (h:W.heap[r]? =some (.map es ck)):(getObj r).run P W=.ok (.map es ck) W:=by
 unfold getObj;simp only [Sem.run,h]
theorem run_setMap {r:Nat} {es:Array MapEntry} {ck:Nat} (o:Obj) (h:W.heap[r]? =some (.map es ck)):(setObj r o).run P W=.ok () (wput W r o):=by
 unfold setObj;simp only [Sem.run,h];rfl
theorem Rep.putMap (R:Rep P ρ H W) {r:Nat} {es:List MapEntry} {ck:Nat} (h:H.get r=some (.map es ck)) {p:Nat×Nat} (hp:ρ.blk r=some p) {es2:List MapEntry} {es2':Array MapEntry} {ck2:Nat}
  (hl:L2 (ER ρ) es2 es2'.toList):Rep P ρ (H.put r (.map es2 ck2)) (wput W p.1 (.map es2' ck2))∧Fr ρ ρ H (H.put r (.map es2 ck2)) W (wput W p.1 (.map es2' ck2)):=by
 obtain ⟨es',h1,_⟩:=R.mapBlk h hp
 have hb:p.1<W.heap.size:=(Array.getElem?_eq_some_iff.1 h1).1
 exact R.turn (B':=.map es2 ck2) h trivial trivial hp (fun j=>by simp) (by simp) (fun k=>.inl (by simp)) (fun j C h=>h) (fun j C h=>by unfold same at h ⊢;cases C<;>(first | exact h | (split<;>simp_all))) trivial rfl trivial
  (fun c e k h=>by simp at h) (fun c e k h=>by simp at h) (wput_size W p.1 _) (fun b hb=>wput_other W hb _) rfl rfl rfl ⟨es2',wput_same W hb _,hl⟩
theorem lookupA_sound (R:Rep P ρ H W) {t:TypeId} {m k m' k':Value} {ok:Bool} {v:Value} (h:lookupA P t m k ok H=some v) (hm:VR ρ m m') (hk:VR ρ k k'):∃ x,VR ρ v x∧(Instr.lookup t m' k' ok).run P W=.ok x W:=by
 unfold lookupA at h
 split at h
 ·rename_i kt et hd
  obtain ⟨es,hes,h⟩:=Option.bind_eq_some_iff.1 h
  obtain ⟨es',hget,hl⟩:∃ es':Array MapEntry,((m'=.map none∧es'=#[])∨∃ q ck,m'=.map (some q)∧W.heap[q]? =some (.map es' ck))∧L2 (ER ρ) es es'.toList:=by
   unfold mapGet at hes
   split at hes
   ·simp at hes;subst hes
    cases hm
    exact ⟨#[],.inl ⟨rfl,rfl⟩,.nil⟩
   ·rename_i r
    split at hes
    ·rename_i es0 ck hg
     simp at hes;subst hes
     cases hm with
     | map hp=>
      obtain ⟨es',h1,h2⟩:=R.mapBlk hg hp
      exact ⟨es',.inr ⟨_,_,rfl,h1⟩,h2⟩
    ·simp at hes
   ·simp at hes
  have hrun:∀ (r:Option Nat) (x:Value),findT P kt k es=some r→((∃ i e,r=some i∧es'.toList[i]? =some e∧x=e.val)∨(r=none∧∀ W,(zeroValue et).run P W=.ok x W))→
    (Instr.lookup t m' k' ok).run P W=.ok (if ok then .tuple #[x,.bool r.isSome] else x) W:=by
   intro r x hf hx
   obtain ⟨f1,f2,f3,f4,f5⟩:=findT_sound hf hl hk
   subst f1
   unfold Instr.lookup
   simp only [Sem.run_bind,run_und hd,Result.andThen_ok]
   rcases hget with ⟨rfl,rfl⟩ | ⟨q,ck,rfl,hq⟩
   ·simp only [Sem.run_bind,Sem.run_pure,Result.andThen_ok,f2,f3]
    rcases hx with ⟨i,e,rfl,he,rfl⟩ | ⟨rfl,hz⟩
    ·simp only [hit,he,Option.map_some,Sem.run_pure,Sem.run_bind,Result.andThen_ok]
     rfl
    ·simp only [hit,Sem.run_bind,hz,Sem.run_pure,Result.andThen_ok]
     rfl
   ·simp only [Sem.run_bind,run_getMap hq,Sem.run_pure,Result.andThen_ok,f2,f3]
    rcases hx with ⟨i,e,rfl,he,rfl⟩ | ⟨rfl,hz⟩
    ·simp only [hit,he,Option.map_some,Sem.run_pure,Sem.run_bind,Result.andThen_ok]
     rfl
    ·simp only [hit,Sem.run_bind,hz,Sem.run_pure,Result.andThen_ok]
     rfl
  unfold lookupM at h
  have fv:∀ b (v x:Value),VR ρ v x→VR ρ (foundV ok b v) (if ok then .tuple #[x,.bool b] else x):=by
   intro b v x hv
   cases ok with
   | true=>exact .tuple (.cons hv (.cons (.bool _) .nil))
   | false=>exact hv
  split at h
  ·rename_i i hf
   obtain ⟨e,he,rfl⟩:=Option.map_eq_some_iff.1 h
   obtain ⟨e',he',her⟩:=hl.get he
   exact ⟨_,fv true _ _ her.2.1,hrun (some i) e'.val hf (.inl ⟨i,e',rfl,he',rfl⟩)⟩
  ·rename_i hf
   obtain ⟨z,hz,rfl⟩:=Option.map_eq_some_iff.1 h
   obtain ⟨hs,hzr⟩:=run_zero hz
   exact ⟨_,fv false _ _ (simple_refl hs),hrun none z hf (.inr ⟨rfl,hzr⟩)⟩
  ·simp at h
 ·simp at h
theorem updateA_sound (R:Rep P ρ H W) {t:TypeId} {m k v m' k' v':Value} {H':Hp} (h:updateA P t m k v H=some H') (hm:VR ρ m m') (hk:VR ρ k k') (hv:VR ρ v v') :
  ∃ W',(Instr.mapUpdate t m' k' v').run P W=.ok () W'∧Rep P ρ H' W'∧Fr ρ ρ H H' W W':=by
 unfold updateA at h
 split at h
 ·rename_i kt et hd
  split at h
  ·rename_i r
   split at h
   ·rename_i es ck hg
    cases hm with
    | map hp=>
     rename_i p
     obtain ⟨es',h1,hl⟩:=R.mapBlk hg hp
     unfold updateM at h
     split at h
     ·rename_i i hf
      obtain ⟨f1,f2,f3,f4,f5⟩:=findT_sound hf hl hk
      subst f1
      split at h
      ·rename_i e he
       split at h
       ·rename_i hsb
        simp at h;subst h
        obtain ⟨e',he',her⟩:=hl.get he
        have he2:es'[i]? =some e':=by simpa using he'
        have hsb':Instr.sameBits 10000 e'.key k'=true:=by
         simp only [Bool.and_eq_true] at hsb
         rw [simple_eq hsb.1 her.1];exact hsb.2
        obtain ⟨g1,g2⟩:=R.putMap (es2:=es.set i ⟨k',v,e.born⟩) (es2':=es'.modify i fun e=>{ e with key:=k',val:=v' }) (ck2:=ck) hg hp (by
         rw [Array.toList_modify]
         refine hl.modify fun b hb=>?_
         rw [he'] at hb;simp at hb;subst hb
         exact ⟨f5,hv,her.2.2⟩)
        refine ⟨_,?_,g1,g2⟩
        unfold Instr.mapUpdate
        simp only [Sem.run_bind,run_und hd,Result.andThen_ok,run_getMap h1,f2,f3,hit,he',Option.map_some,he2,Option.getD_some]
        unfold Instr.keyThatStays
        simp only [hsb',if_true,Sem.run_pure,Result.andThen_ok,run_setMap _ h1]
       ·simp at h
      ·simp at h
     ·rename_i hf
      obtain ⟨f1,f2,f3,f4,f5⟩:=findT_sound hf hl hk
      subst f1
      simp at h;subst h
      obtain ⟨g1,g2⟩:=R.putMap (es2:=es++[⟨k',v,ck⟩]) (es2':=es'.push ⟨k',v',ck⟩) (ck2:=ck+1) hg hp (by
       rw [Array.toList_push]
       exact hl.append (.cons ⟨f5,hv,rfl⟩ .nil))
      refine ⟨_,?_,g1,g2⟩
      unfold Instr.mapUpdate
      simp only [Sem.run_bind,run_und hd,Result.andThen_ok,run_getMap h1,f2,f3,hit,run_setMap _ h1]
     ·simp at h
   ·simp at h
  ·simp at h
 ·simp at h
section ops
variable {tm:Trie Value} {nt:Nat} {a:Act} {o:Oper} {r:ARes} (R:Rep P ρ H W) (ht:TR ρ tm nt a.tmps)
include R ht
theorem lookup_sound {t:TypeId} {m k:Operand} {ok:Bool} (h:oLookup P tm H t m k ok=some r) (ho:o.op=.lookup t m k ok):ResOK P ρ H W ((execOp a.eval o).run P W) r:=by
 unfold oLookup at h
 split at h
 ·rename_i vm hm
  split at h
  ·rename_i vk hk
   obtain ⟨v,hv,rfl⟩:=valH_some h
   obtain ⟨x,hx,hrun⟩:=lookupA_sound R hv (eval_sound R ht hm) (eval_sound R ht hk)
   refine .pure R hx ?_
   unfold execOp;rw [ho]
   exact run_value hrun
  ·simp at h
 ·simp at h
theorem update_sound {t:TypeId} {m k v:Operand} (h:oUpdate P tm H t m k v=some r) (ho:o.op=.mapUpdate t m k v∨o.op=.insert t m k v):ResOK P ρ H W ((execOp a.eval o).run P W) r:=by
 unfold oUpdate at h
 split at h
 ·rename_i vm hm
  split at h
  ·rename_i vk hk
   split at h
   ·rename_i vv hv
    obtain ⟨H',hH,rfl⟩:=hpV_some h
    obtain ⟨W',hrun,h1,h2⟩:=updateA_sound R hH (eval_sound R ht hm) (eval_sound R ht hk) (eval_sound R ht hv)
    refine ⟨ρ,undef,W',.inr ⟨?_,rfl⟩,.undef,h1,h2⟩
    unfold execOp
    rcases ho with ho | ho<;>rw [ho]<;>exact run_unit hrun
   ·simp at h
  ·simp at h
 ·simp at h
end ops
end Go.Sim
namespace Go.Sim
open Go Go.IntWalk
variable {P:Program} {ρ:Ren} {H:Hp} {W:World}
theorem Rep.loadCellsAt (R:Rep P ρ H W) {i o n:Nat} {l:List Value} (h:H.read i o n=some l) {b:Addr} (ha:ρ.addr ⟨i,o,none⟩ b) :
  ∃ m,VRs ρ l m∧m.length=n∧∀ W',W'.heap=W.heap→(Go.loadCells b n).run P W'=.ok m.toArray W':=by
 obtain ⟨g,f,C,e,fz,m,rfl,h1,h2,h3,h4⟩:=R.read h ha
 have hl:m.length=n:=by rw [h3.length,h2]
 refine ⟨m,h3,hl,fun W' hW=>?_⟩
 have:=run_loadCellsFrom P (W:=W') (by rw [hW];exact h1) m 0 #[] (fun j x hx=>by simpa using h4 j x hx)
 rw [hl] at this
 simpa [Go.loadCells] using this
theorem firstA_sound (R:Rep P ρ H W) {s n:Nat} {x x':Value} {cs:List Value} (h:firstA H s n x=some cs) (hx:VR ρ x x') (hn:∀ k,lenA x=some k→n≤k) :
  ∃ m,VRs ρ cs m∧∀ W',W'.heap=W.heap→(Builtin.firstCells s n x').run P W'=.ok m.toArray W':=by
 unfold firstA at h
 split at h
 ·rename_i a len cap
  obtain ⟨b,c',hw⟩:∃ b c',x'=.slice (some b) len c':=by cases hx<;>exact ⟨_,_,rfl⟩
  subst hw
  obtain ⟨m,h1,h2,h3⟩:=readS_sound R hx h (fun h0=>by have:=hn len rfl;subst h0;simp at this;rw [this];simp)
  exact ⟨m,h1,h3⟩
 ·split at h
  ·simp at h;subst h
   cases hx
   exact ⟨[],.nil,fun W' _=>rfl⟩
  ·simp at h
 ·rename_i b
  split at h
  ·simp at h;subst h
   have e:=hx.string_eq
   subst e
   refine ⟨(b.data.toList.map byteV).take n,?_,fun W' _=>?_⟩
   ·refine simples_refl ?_
    rw [List.all_eq_true]
    intro x hx
    have:=List.mem_of_mem_take hx
    simp only [List.mem_map] at this
    obtain ⟨y,_,rfl⟩:=this
    rfl
   ·show Result.ok _ W'=_
    congr 1
    apply Array.ext'
    simp
    rfl
  ·simp at h
 ·simp at h
theorem newA_sound (R:Rep P ρ H W) {sz n:Nat} {x x':Value} {new:List Value} (h:newA H sz x=some (n,new)) (hx:VR ρ x x') {tx:TypeId} (ht:isSrcT P tx=true) (hl:new.length=n*sz) (h1:new.all oneCell=true) :
  ∃ news,VRs ρ new news∧∀ W',W'.heap=W.heap→Src P sz tx x' n news W':=by
 unfold newA at h
 split at h
 ·rename_i n' hn
  obtain ⟨cs,hcs,e⟩:=Option.map_eq_some_iff.1 h
  simp at e;obtain ⟨rfl,rfl⟩:=e
  obtain ⟨m,hm,hrun⟩:=firstA_sound R hcs hx (fun k hk=>by rw [hn] at hk;simp at hk;omega)
  refine ⟨m,hm,fun W' hW=>⟨?_,fun w=>?_,hrun W' hW,hrun _ hW,by rw [hm.length,hl],hm.one h1⟩⟩
  ·unfold isSrcT at ht
   split at ht
   ·rename_i d hd
    unfold isSrcD at ht
    split at ht
    ·exact .inl ⟨_,hd⟩
    ·exact .inr hd
    ·simp at ht
   ·simp at ht
  ·unfold lenA at hn
   split at hn
   ·simp at hn;subst hn;cases hx<;>rfl
   ·simp at hn;subst hn;rw [hx.string_eq];rfl
   ·simp at hn
 ·simp at h
theorem run_append_st {w w':World} (t tx ty e:TypeId) (i:TypeInfo) (ht:P.underlying t=some (.slice e)) (hi:P.info? e=some i) (a:Addr) (sLen sCap:Nat) (x:Value) (n:Nat) (news:List Value) (hs:Src P i.size tx x n news w)
  (hroom:sLen+n≤sCap) (hst:(storeCells (a.add (sLen*i.size)) news).run P w=.ok () w') :
  (Builtin.append_ #[t,tx] ty #[.slice (some a) sLen sCap,x]).run P w=.ok (.slice (some a) (sLen+n) sCap) w':=by
 rcases hs.kind with ⟨e',hk⟩ | hk<;>simp [Builtin.append_,run_underlying ht,run_underlying hk,sizeOf,typeInfo,hi,hs.len,hroom,hs.cells,hst]
theorem cut_zero:∀ {c:List Value} {n:Nat},n≤c.length→cut c 0 n=some (c.take n)
 | c,0,h=>by cases c<;>simp [cut]
 | [],n+1,h=>by simp at h
 | v::c,n+1,h=>by
  simp only [List.length_cons] at h
  simp only [cut,cut_zero (c:=c) (n:=n) (by omega),List.take_succ_cons]
theorem grown_cells {ρ:Ren} {vs us:List Value} (h:VRs ρ vs us) (z:Array Value) (k:Nat):∀ (j:Nat) (v:Value),vs[j]? =some v→∃ x,(us.toArray++Builtin.zeroCells z k)[j]? =some x∧VR ρ v x:=by
 intro j v hj
 obtain ⟨x,hx,hv⟩:=h.get hj
 have:j<us.length:=(List.getElem?_eq_some_iff.1 hx).1
 refine ⟨x,?_,hv⟩
 rw [Array.getElem?_append,if_pos (by simpa using this)]
 simpa using hx
theorem grownU {ρ:Ren} {i n c:Nat} {p:Nat×Nat} (hn:n≤c) (hp:ρ.blk i=some p) (hc:ρ.cap i=c):capR ρ n (U+2*i) c:=
 ⟨hn,fun h=>by omega,fun j h=>by
  have:j=i:=by omega
  subst this
  exact ⟨p,hp,hc.symm⟩⟩
theorem appendN_sound (R:Rep P ρ H W) {e sz len c n:Nat} {i:TypeInfo} (hi:P.info? e=some i) (hsz:i.size=sz) {base base':Option Addr} {c':Nat} {x':Value} {new:List Value} {v:Value} {H':Hp}
  (h:appendN P H e sz i.bytes base len c n new=some (v,H')) (hv:VR ρ (.slice base len c) (.slice base' len c')) {news:List Value} (hnew:VRs ρ new news) {t tx:TypeId} (ht:P.underlying t=some (.slice e))
  (hs:new.length=n*sz→new.all oneCell=true→∀ W',W'.heap=W.heap→Src P sz tx x' n news W') (ty:TypeId) :
  ∃ ρ' y W',(Builtin.append_ #[t,tx] ty #[.slice base' len c',x']).run P W=.ok y W'∧VR ρ' v y∧Rep P ρ' H' W'∧Fr ρ ρ' H H' W W':=by
 unfold appendN at h
 split at h
 ·rename_i hc
  simp only [Bool.and_eq_true,Nat.ble_eq] at hc
  obtain ⟨⟨⟨⟨hl,hby⟩,hb6⟩,h40⟩,hone⟩:=hc
  replace hl:=Nat.eq_of_beq_eq_true hl
  replace hs:=hs hl hone
  have hsW:=hs W rfl
  have hle:len≤c':=by cases hv with
   | nilSlice=>exact Nat.le_refl _
   | slice _ hc=>exact hc.1
   | slice0 _ _ _ _ _ _=>exact Nat.zero_le _
   | slice00 _ _=>exact Nat.le_refl _
  split at h
  ·simp at h;obtain ⟨rfl,rfl⟩:=h
   have:new=[]:=List.eq_nil_of_length_eq_zero (by rw [hl];simp)
   subst this
   cases hnew
   subst hsz
   exact ⟨ρ,_,W,run_append_nothing W t tx ty e i ht hi base' len c' hle x' hsW,hv,R,.refl ρ H W⟩
  ·rename_i m
   simp only [Nat.succ_eq_add_one] at hl hby h40 hs hsW h
   split at h
   ·rename_i hz0
    unfold zeroOK at hz0
    split at hz0
    ·rename_i z hz
     have hz0:=Nat.eq_of_beq_eq_true hz0
     have hzi:i.zero=some z:=by
      unfold zeroT at hz
      rw [hi] at hz
      simp only [Option.bind_some] at hz
      cases hq:i.zero with
      | none=>rw [hq] at hz;simp at hz
      | some z'=>rw [hq] at hz;simp only [Option.bind_some] at hz;rw [(ifSimple_some hz).1]
     have hzc:z.cells.size=sz:=by
      have:z.cells.toList=cellsOf z:=by cases z<;>rfl
      rw [← Array.length_toList,this,hz0]
     have hnl:news.length=(m+1)*sz:=by rw [hnew.length,hl]
     have h63:((len+(m+1):Nat):Int)≤9223372036854775807:=by omega
     have hsizes:∀ (us:List Value) (k cap:Nat),us.length=k*sz→k≤cap→cap*sz≤(us.toArray++Builtin.zeroCells z.cells (cap-k)).size:=by
      intro us k cap h1 h2
      rw [Array.size_append,size_zeroCells,hzc,List.size_toArray,h1,← Nat.add_mul]
      rw [show k+(cap-k)=cap from by omega];exact Nat.le_refl _
     -- a new array of a class of its own
     have own:∀ (old olds:List Value),VRs ρ old olds→old.length=len*sz→(Builtin.firstCells i.size len (.slice base' len c')).run P W.drew=.ok olds.toArray W.drew→c'<len+(m+1) →
       v=grown H (len+(m+1))→H'=Hp.newIn H (old++new) e H.n [H.n] →
       ∃ ρ' y W',(Builtin.append_ #[t,tx] ty #[.slice base' len c',x']).run P W=.ok y W'∧VR ρ' v y∧Rep P ρ' H' W'∧Fr ρ ρ' H H' W W':=by
      rintro old olds hold hol hrun hlt rfl rfl
      subst hsz
      have hfit:=growslice_fits (bytes:=i.bytes) hlt (by omega)
      have hr:=run_append_grow_src (P:=P) W t tx ty e i z ht hi hzi base' len c' olds hrun x' (m+1) news hsW hlt h63 hfit
      have hge:=grownCap_ge W (len+(m+1)) c' e
      obtain ⟨g1,g2⟩:=R.newCls (W1:=W.drew) (vs:=old++new) (C:=(olds++news).toArray++Builtin.zeroCells z.cells (grownCap W (len+(m+1)) c' e-(len+(m+1)))) (e:=e) (sz:=i.size) (cap:=grownCap W (len+(m+1)) c' e) rfl rfl rfl rfl
       (grown_cells (hold.append hnew) _ _) (by unfold sizeT;rw [hi];rfl) (hsizes _ _ _ (by rw [List.length_append,hold.length,hnl,hol,← Nat.add_mul]) hge)
      refine ⟨_,_,_,hr,?_,g1,g2⟩
      exact .slice ⟨rfl,_,Ren.add_same _ _ _ _,by simp⟩ (grownU hge (Ren.add_same _ _ _ _) (Ren.add_cap _ _ _ _))
     split at h
     ·rename_i a
      cases hv with
      | slice00 a b=>
       unfold appendM at h
       split at h
       ·rename_i j o
        split at h
        ·split at h
         ·rename_i hroom
          rw [Nat.ble_eq] at hroom;omega
         ·obtain ⟨old,ho,e2⟩:=Option.map_eq_some_iff.1 h
          simp at e2;obtain ⟨rfl,rfl⟩:=e2
          rw [Nat.zero_mul] at ho
          have ho0:old=[]:=readAt_zero (a:=⟨j,o,none⟩) ho
          subst ho0
          exact own [] [] .nil (by simp) (by simp [Builtin.firstCells,Go.loadCells,Go.loadCellsFrom]) (by omega) (by rw [Nat.zero_add]) (by simp)
        ·rename_i hcU
         have:Nat.blt 0 U=true:=by rw [Nat.blt_eq];exact U_pos
         rw [this] at hcU;cases hcU
       ·simp at h
      | slice0 ha hp hb hs0 hU2 hca=>
       unfold appendM at h
       split at h
       ·rename_i j o
        split at h
        ·rename_i hcU
         rw [Nat.blt_eq] at hcU
         have:=U_pos;omega
        ·split at h
         ·rename_i hoc
          simp only [Bool.and_eq_true] at hoc
          have hcj:=Nat.eq_of_beq_eq_true hoc.2
          simp only at hp
          have:=R.getLt hp
          omega
         ·simp at h
       ·simp at h
      | slice ha hca=>
       rename_i b
       unfold appendM at h
       split at h
       ·rename_i j o
        split at h
        ·rename_i hcU
         rw [Nat.blt_eq] at hcU
         have ec:=hca.low hcU
         subst ec
         split at h
         ·rename_i hroom
          rw [Nat.ble_eq] at hroom
          obtain ⟨H2,hw,e2⟩:=Option.map_eq_some_iff.1 h
          simp at e2;obtain ⟨rfl,rfl⟩:=e2
          have ha2:ρ.addr ⟨j,o+len*sz,none⟩ (b.add (len*sz)):=by
           have:=ha.add (len*sz)
           unfold Addr.add at this ⊢
           by_cases h0:len*sz=0
           ·rw [if_pos h0] at this ⊢;rw [h0];rw [if_pos h0] at this;simpa using this
           ·rw [if_neg h0] at this ⊢;rw [if_neg h0] at this;exact this
          obtain ⟨W',g1,g2,g3,_⟩:=R.write hw hnew ha2
          subst hsz
          exact ⟨ρ,_,W',run_append_st t tx ty e i ht hi b len c' x' (m+1) news hsW hroom g1,.slice ha ⟨hroom,fun _=>rfl,fun i h=>by omega⟩,g2,g3⟩
         ·rename_i hroom
          have hlt:c'<len+(m+1):=by
           rcases Nat.lt_or_ge c' (len+(m+1)) with g | g
           ·exact g
           ·have g':Nat.ble (len+(m+1)) c'=true:=Nat.ble_eq_true_of_le g
            rw [g'] at hroom;cases hroom
          obtain ⟨old,ho,e2⟩:=Option.map_eq_some_iff.1 h
          simp at e2;obtain ⟨rfl,rfl⟩:=e2
          obtain ⟨olds,k1,k2,k3⟩:=R.loadCellsAt ho ha
          refine own old olds k1 (by rw [← k1.length,k2]) ?_ hlt rfl rfl
          have:=k3 W.drew rfl
          rw [← hsz] at this
          exact this
        ·rename_i hcU
         split at h
         ·rename_i hoc
          simp only [Bool.and_eq_true] at hoc
          have ho0:=Nat.eq_of_beq_eq_true hoc.1
          have hcj:=Nat.eq_of_beq_eq_true hoc.2
          subst ho0 hcj
          obtain ⟨B,hB,h⟩:=Option.bind_eq_some_iff.1 h
          unfold appendL at h
          split at h
          ·rename_i cs e' k
           split at h
           ·rename_i hmem
            simp only [Bool.and_eq_true] at hmem
            have hee:=Nat.eq_of_beq_eq_true hmem.2
            subst hee
            have hmem:=memN_iff.1 hmem.1
            split at h
            ·rename_i old full hcut
             simp only [Option.some.injEq,Prod.mk.injEq] at h
             obtain ⟨rfl,rfl⟩:=h
             obtain ⟨c1,c2,c3,c4⟩:=cutE_spec hcut
             obtain ⟨p,hp⟩:∃ p,ρ.blk j=some p:=by obtain ⟨_,p,hp,_⟩:=ha;exact ⟨p,hp⟩
             obtain ⟨C,fz,b1,b2,b3,b4,b5⟩:=R.blk j _ p hB (by simpa [live] using hmem) hp
             obtain ⟨sz',s1,s2⟩:=b5 (by simp)
             have hszT:sizeT P e'=some sz:=by unfold sizeT;rw [hi,← hsz];rfl
             rw [hszT] at s1;simp at s1;subst s1
             have hcap:c'=ρ.cap j:=by
              obtain ⟨q,q1,q2⟩:=hca.2.2 j rfl
              exact q2
             have hbp:b=⟨p.1,0,none⟩:=by
              obtain ⟨_,q,q1,q2⟩:=ha
              rw [hp] at q1;simp at q1;subst q1
              simp [q2,b2]
             subst hbp
             have hrow:H.row j=some cs:=by
              unfold Hp.row
              rw [hB]
              simp [Hp.rowOf,memN_iff.2 hmem]
             have hread:H.read j 0 (len*sz)=some old:=by
              unfold Hp.read
              rw [hrow]
              simp only
              rw [cut_zero c2,c3]
             obtain ⟨olds,k1,k2,k3⟩:=R.loadCellsAt hread ha
             by_cases hroom:len+(m+1)≤c'
             ·have hfit:len*sz+0+news.length≤C.size:=by
               rw [hnl,Nat.add_zero,← Nat.add_mul]
               exact Nat.le_trans (Nat.mul_le_mul_right _ (hcap▸hroom)) s2
              have hst:=run_storeCells P (o:=len*sz) news 0 C W b1 hsW.one (.inr hfit) b3
              have hb:p.1<W.heap.size:=(Array.getElem?_eq_some_iff.1 b1).1
              have hadd:(⟨p.1,0,none⟩:Addr).add (len*sz)=⟨p.1,len*sz,none⟩:=by
               unfold Addr.add;split
               ·rename_i e0;rw [e0]
               ·simp
              have hr:=run_append_st t tx ty e' i ht hi ⟨p.1,0,none⟩ len c' x' (m+1) news (hsz.symm▸hsW) hroom (by rw [hsz,hadd];exact hst)
              have hset:=setL_get news C (len*sz+0)
              obtain ⟨g1,g2⟩:=R.grow (new:=new) (q:=p) (cap:=c') (C':=setL C (len*sz+0) news) (fz':=fz) (W':=wput W p.1 (.cells (setL C (len*sz+0) news) e' fz)) hB hmem hcut hp b1 hszT b2 (wput_same W hb _) (by rw [setL_size];exact b3) (by rw [setL_size,hcap];exact s2)
               (fun q v hq=>by
                rw [hset q hfit]
                rcases Nat.lt_or_ge q (len*sz) with g | g
                ·rw [List.getElem?_append_left (show q<old.length by omega)] at hq
                 rw [if_neg (by omega)]
                 have hq2:cs[q]? =some v:=by
                  rw [c3,List.getElem?_take_of_lt g] at hq
                  exact hq
                 exact b4 q v hq2
                ·rw [List.getElem?_append_right (show old.length≤q by omega),c1] at hq
                 obtain ⟨x,hx,hv⟩:=hnew.get hq
                 have:=(List.getElem?_eq_some_iff.1 hx).1
                 rw [if_pos (by omega)]
                 exact ⟨x,by simpa using hx,hv⟩)
               (.inr ⟨rfl,setL_size _ _ _,rfl,fun q hq=>by rw [hset q hfit,if_neg (by omega)]⟩) (by simp) (by simpa using hb) (fun b _ h=>wput_other W h _) rfl rfl rfl
              refine ⟨_,_,_,hr,?_,g1,g2⟩
              exact .slice ⟨rfl,p,Ren.add_same _ _ _ _,by simp [b2]⟩ (grownU hroom (Ren.add_same _ _ _ _) (Ren.add_cap _ _ _ _))
             ·have hlt:c'<len+(m+1):=by omega
              have hfit:=growslice_fits (bytes:=i.bytes) hlt (by omega)
              have hr:=run_append_grow_src (P:=P) W t tx ty e' i z ht hi hzi (some ⟨p.1,0,none⟩) len c' olds (by rw [hsz];exact k3 W.drew rfl) x' (m+1) news (hsz.symm▸hsW) hlt h63 hfit
              have hge:=grownCap_ge W (len+(m+1)) c' e'
              obtain ⟨g1,g2⟩:=R.grow (new:=new) (q:=(W.heap.size,0)) (cap:=grownCap W (len+(m+1)) c' e') (fz':=(0,0)) (C':=(olds++news).toArray++Builtin.zeroCells z.cells (grownCap W (len+(m+1)) c' e'-(len+(m+1))))
               (W':=W.drew.alloc (.cells ((olds++news).toArray++Builtin.zeroCells z.cells (grownCap W (len+(m+1)) c' e'-(len+(m+1)))) e')) hB hmem hcut hp b1 hszT rfl
               (show (W.heap.push _)[W.heap.size]? =_ from Array.getElem?_push_size) (fun j _ h=>absurd h.2 (Nat.not_lt_zero _)) (hsizes (olds++news) _ _ (by rw [List.length_append,hnl,k2,← Nat.add_mul]) hge)
               (grown_cells (us:=olds++news) (k1.append hnew) _ _) (.inl rfl) (show W.heap.size≤(W.heap.push _).size by simp) (show W.heap.size<(W.heap.push _).size by simp) (fun b hb hne=>show (W.heap.push _)[b]? =_ by rw [Array.getElem?_push,if_neg (by omega)]) rfl rfl rfl
              refine ⟨_,_,_,hr,?_,g1,g2⟩
              exact .slice ⟨rfl,_,Ren.add_same _ _ _ _,by simp⟩ (grownU hge (Ren.add_same _ _ _ _) (Ren.add_cap _ _ _ _))
            ·simp at h
           ·simp at h
          ·simp at h
         ·simp at h
       ·simp at h
     ·split at h
      ·rename_i h0
       simp only [Bool.and_eq_true] at h0
       have hlen0:=Nat.eq_of_beq_eq_true h0.1
       have hc0:=Nat.eq_of_beq_eq_true h0.2
       subst hlen0 hc0
       simp at h;obtain ⟨rfl,rfl⟩:=h
       cases hv with
       | nilSlice=>
        refine own [] [] .nil (by simp) (by simp [Builtin.firstCells]) (by omega) (by simp) (by simp)
      ·simp at h
    ·simp at hz0
   ·simp at h
 ·simp at h
end Go.Sim
namespace Go.Sim
open Go Go.IntWalk
variable {P:Program} {ρ:Ren} {H:Hp} {W:World}
theorem appendA_sound (R:Rep P ρ H W) {st tx:TypeId} {s x s' x' v:Value} {H':Hp} (h:appendA P H st s x=some (v,H')) (htx:isSrcT P tx=true) (hs:VR ρ s s') (hx:VR ρ x x') (ty:TypeId) :
  ∃ ρ' y W',(Builtin.append_ #[st,tx] ty #[s',x']).run P W=.ok y W'∧VR ρ' v y∧Rep P ρ' H' W'∧Fr ρ ρ' H H' W W':=by
 unfold appendA at h
 split at h
 ·rename_i e he
  split at h
  ·rename_i base len c
   split at h
   ·rename_i sz hsz
    split at h
    ·rename_i by_ hby
     split at h
     ·rename_i n new hnew
      obtain ⟨i,hi,rfl⟩:=bytes_info hby
      have hisz:i.size=sz:=by unfold sizeT at hsz;rw [hi] at hsz;simpa using hsz
      obtain ⟨base',c',hb⟩:∃ b' c',s'=.slice b' len c':=by
       cases hs with
       | nilSlice=>exact ⟨_,_,rfl⟩
       | slice _ _=>exact ⟨_,_,rfl⟩
       | slice0 _ _ _ _ _ _=>exact ⟨_,_,rfl⟩
       | slice00 _ _=>exact ⟨_,_,rfl⟩
      subst hb
      have hnews:∃ news,VRs ρ new news∧(new.length=n*sz→new.all oneCell=true→∀ W',W'.heap=W.heap→Src P sz tx x' n news W'):=by
       unfold appendN at h
       split at h
       ·rename_i hc
        simp only [Bool.and_eq_true] at hc
        obtain ⟨news,g1,g2⟩:=newA_sound R hnew hx htx (Nat.eq_of_beq_eq_true hc.1.1.1.1) hc.2
        exact ⟨news,g1,fun _ _=>g2⟩
       ·simp at h
      obtain ⟨news,g1,g2⟩:=hnews
      exact appendN_sound R hi hisz h hs g1 (elem_und he) g2 ty
     ·simp at h
    ·simp at h
   ·simp at h
  ·simp at h
 ·simp at h
theorem lenD_sound (R:Rep P ρ H W) {t:TypeId} {d:TypeDesc} {x x' v:Value} (hd:P.underlying t=some d) (h:lenD H x d=some v) (hx:VR ρ x x') {ats:Array TypeId} (ha:ats[0]? =some t) (ty:TypeId) :
  VR ρ v v∧(Builtin.len_ ats ty #[x']).run P W=.ok v W:=by
 unfold lenD at h
 split at h
 ·split at h
  ·simp at h;subst h
   rw [hx.string_eq]
   refine ⟨.int _ _,?_⟩
   unfold Builtin.len_
   simp [ha,run_und hd];rfl
  ·simp at h
 ·simp at h;subst h
  refine ⟨.int _ _,?_⟩
  unfold Builtin.len_
  simp [ha,run_und hd];rfl
 ·split at h
  ·simp at h;subst h
   refine ⟨.int _ _,?_⟩
   unfold Builtin.len_
   cases hx<;>(simp [ha,run_und hd];rfl)
  ·simp at h
 ·obtain ⟨es,hes,rfl⟩:=Option.map_eq_some_iff.1 h
  refine ⟨.int _ _,?_⟩
  unfold mapGet at hes
  split at hes
  ·simp at hes;subst hes
   cases hx
   unfold Builtin.len_
   simp [ha,run_und hd];rfl
  ·rename_i r
   split at hes
   ·rename_i es0 ck hg
    simp at hes;subst hes
    cases hx with
    | map hp=>
     obtain ⟨es',h1,h2⟩:=R.mapBlk hg hp
     have hl:es'.size=es0.length:=by rw [← Array.length_toList,h2.length]
     unfold Builtin.len_
     simp [ha,run_und hd,run_getMap h1,hl];rfl
   ·simp at hes
  ·simp at hes
 ·simp at h
theorem capD_sound {t:TypeId} {d:TypeDesc} {x x' v:Value} (hd:P.underlying t=some d) (h:capD x d=some v) (hx:VR ρ x x') {ats:Array TypeId} (ha:ats[0]? =some t) (ty:TypeId) (W:World) :
  VR ρ v v∧(Builtin.cap_ ats ty #[x']).run P W=.ok v W:=by
 unfold capD at h
 split at h
 ·split at h
  ·split at h
   ·rename_i hc
    rw [Nat.blt_eq] at hc
    simp at h;subst h
    refine ⟨.int _ _,?_⟩
    unfold Builtin.cap_
    cases hx with
    | nilSlice=>simp [ha,run_und hd];rfl
    | slice _ hcc=>rw [hcc.low hc];simp [ha,run_und hd];rfl
    | slice0 _ _ _ _ hU _=>have:=U_pos;omega
    | slice00 _ _=>simp [ha,run_und hd];rfl
   ·simp at h
  ·simp at h
 ·simp at h
theorem copyA_sound (R:Rep P ρ H W) {t:TypeId} {d x d' x':Value} {r:ARes} (h:copyA P H t d x=some r) (hd:VR ρ d d') (hx:VR ρ x x') {ats:Array TypeId} (ha:ats[0]? =some t) (ty:TypeId) :
  ∃ v H' W',r=.val v H'∧VR ρ v v∧(Builtin.copy_ ats ty #[d',x']).run P W=.ok v W'∧Rep P ρ H' W'∧Fr ρ ρ H H' W W':=by
 unfold copyA at h
 split at h
 ·rename_i e he
  split at h
  ·rename_i s hs
   split at h
   ·rename_i base n c
    split at h
    ·rename_i m hm
     obtain ⟨cs,hcs,h⟩:=Option.bind_eq_some_iff.1 h
     obtain ⟨news,g1,g2⟩:=firstA_sound R hcs hx (fun k hk=>by rw [hm] at hk;simp at hk;subst hk;exact Nat.min_le_left _ _)
     obtain ⟨base',c',hb⟩:∃ b' c',d'=.slice b' n c':=by
      cases hd with
      | nilSlice=>exact ⟨_,_,rfl⟩
      | slice _ _=>exact ⟨_,_,rfl⟩
      | slice0 _ _ _ _ _ _=>exact ⟨_,_,rfl⟩
      | slice00 _ _=>exact ⟨_,_,rfl⟩
     subst hb
     have hlen:∀ w,(Builtin.lenOf x').run P w=.ok m w:=by
      intro w
      unfold lenA at hm
      split at hm
      ·simp at hm;subst hm;cases hx<;>rfl
      ·simp at hm;subst hm;rw [hx.string_eq];rfl
      ·simp at hm
     unfold copyTo at h
     split at h
     ·simp at h;subst h
      cases g1
      refine ⟨_,H,W,rfl,.int _ _,?_,R,.refl ρ H W⟩
      unfold Builtin.copy_
      simp [ha,run_und (elem_und he),hlen,run_size hs,g2 W rfl]
      cases base'<;>simp [storeCells]<;>rfl
     ·split at h
      ·rename_i hpos
       rw [Nat.blt_eq] at hpos
       split at h
       ·rename_i i o
        obtain ⟨H',hH,rfl⟩:=hpV_some h
        cases hd with
        | slice0 _ _ _ _ _ _=>simp at hpos
        | slice00 _ _=>simp at hpos
        | slice hA hc=>
         obtain ⟨W',k1,k2,k3,_⟩:=R.write hH g1 hA
         refine ⟨_,H',W',rfl,.int _ _,?_,k2,k3⟩
         unfold Builtin.copy_
         simp [ha,run_und (elem_und he),hlen,run_size hs,g2 W rfl,k1]
         rfl
       ·simp at h
      ·simp at h
    ·simp at h
   ·simp at h
  ·simp at h
 ·simp at h
theorem zeroCells_rep {z:Value} (hz:(cellsOf z).length=1) (n:Nat):(Builtin.zeroCells z.cells n).toList=rep (cellsOf z) n:=by
 have hc:z.cells.toList=cellsOf z:=by cases z<;>rfl
 obtain ⟨u,hu⟩:∃ u,cellsOf z=[u]:=by
  cases h:cellsOf z with
  | nil=>rw [h] at hz;cases hz
  | cons a l=>cases l with
   | nil=>exact ⟨a,rfl⟩
   | cons b l=>rw [h] at hz;simp at hz
 have hz':z.cells=#[u]:=by rw [hu] at hc;rw [← Array.toList_inj];exact hc
 have hr:rep [u] n=List.replicate n u:=by
  induction n with
  | zero=>rfl
  | succ n ih=>simp only [rep,ih,List.replicate_succ];rfl
 rw [hu,hr,hz']
 unfold Builtin.zeroCells
 apply List.ext_getElem
 ·simp
 ·intro i h1 h2
  have:i % 1=0:=Nat.mod_one i
  simp [this]
theorem VRs.refl_rep {ρ:Ren} {z:Value} (h:simple z=true):∀ n,VRs ρ (rep (cellsOf z) n) (rep (cellsOf z) n)
 | 0=>.nil
 | n+1=>by
  have hz:VRs ρ (cellsOf z) z.cells.toList:=(simple_refl h).cells
  have hc:z.cells.toList=cellsOf z:=by cases z<;>rfl
  rw [hc] at hz
  simp only [rep]
  exact hz.append (VRs.refl_rep h n)
theorem clearA_sound (R:Rep P ρ H W) {t:TypeId} {x x':Value} {r:ARes} (h:clearA P H t x=some r) (hx:VR ρ x x') {ats:Array TypeId} (ha:ats[0]? =some t) (ty:TypeId) :
  ∃ v H' W',r=.val v H'∧VR ρ v v∧(Builtin.clear_ ats ty #[x']).run P W=.ok v W'∧Rep P ρ H' W'∧Fr ρ ρ H H' W W':=by
 unfold clearA at h
 split at h
 ·rename_i e he
  split at h
  ·simp only [Option.some.injEq] at h;subst h
   cases hx with
   | nilSlice=>
    refine ⟨_,H,W,rfl,.tuple .nil,?_,R,.refl ρ H W⟩
    unfold Builtin.clear_
    simp [ha,run_und (elem_und he)]
  ·rename_i i o n c
   split at h
   ·simp only [Option.some.injEq] at h;subst h
    obtain ⟨b',c',hb⟩:∃ b' c',x'=.slice (some b') 0 c':=by
     cases hx with
     | slice _ _=>exact ⟨_,_,rfl⟩
     | slice0 _ _ _ _ _ _=>exact ⟨_,_,rfl⟩
     | slice00 _ _=>exact ⟨_,_,rfl⟩
    subst hb
    refine ⟨_,H,W,rfl,.tuple .nil,?_,R,.refl ρ H W⟩
    unfold Builtin.clear_
    simp [ha,run_und (elem_und he)]
   ·rename_i m
    split at h
    ·rename_i z hz
     split at h
     ·rename_i hl
      have hl:=Nat.eq_of_beq_eq_true hl
      obtain ⟨H',hH,rfl⟩:=hpV_some h
      obtain ⟨hzs,hzr⟩:=run_zero hz
      cases hx with
      | slice hA hc=>
       obtain ⟨W',k1,k2,k3,_⟩:=R.write hH (VRs.refl_rep hzs (m+1)) hA
       refine ⟨_,H',W',rfl,.tuple .nil,?_,k2,k3⟩
       unfold Builtin.clear_
       rw [← zeroCells_rep hl (m+1)] at k1
       simp [ha,run_und (elem_und he),hzr,k1]
     ·cases h
    ·cases h
  ·cases h
 ·cases h
theorem minmax_sound {f:Value→Value→Sem Value}:∀ {l m:List Value} {x x' v:Value},minmax P f x l=some v→VR ρ x x'→VRs ρ l m→∀ W,VR ρ v v∧(m.foldlM f x').run P W=.ok v W
 | [],m,x,x',v,h,hx,hl,W=>by
  cases hl
  simp only [minmax] at h
  obtain ⟨rfl,hs⟩:=ifSimple_some h
  refine ⟨simple_refl hs,?_⟩
  rw [simple_eq hs hx];rfl
 | y::l,m,x,x',v,h,hx,hl,W=>by
  cases hl with
  | cons hy hl=>
   simp only [minmax] at h
   split at h
   ·rename_i hs
    simp only [Bool.and_eq_true] at hs
    split at h
    ·rename_i z hz
     have hzs:VR ρ z z:=by
      cases l with
      | nil=>simp only [minmax] at h;exact simple_refl (ifSimple_some h).2
      | cons a l=>
       simp only [minmax] at h
       split at h
       ·rename_i h2;simp only [Bool.and_eq_true] at h2;exact simple_refl h2.1
       ·simp at h
     obtain ⟨g1,g2⟩:=minmax_sound h hzs hl W
     refine ⟨g1,?_⟩
     rw [List.foldlM_cons,Sem.run_bind,simple_eq hs.1 hx,simple_eq hs.2 hy,pureRun_run hz W]
     exact g2
    ·simp at h
   ·simp at h
theorem builtin_sound (R:Rep P ρ H W) {b:Builtin} {ats:Array TypeId} {args xs:List Value} {r:ARes} (h:builtinA P ats.toList args H b=some r) (hx:VRs ρ args xs) (ty:TypeId) (consts:Array Bool) :
  ResOK P ρ H W ((Go.builtin b ats ty consts ⟨xs⟩).run P W) r:=by
 have hat:∀ {t l},ats.toList=t::l→ats[0]? =some t:=fun {t l} e=>by rw [← Array.getElem?_toList,e];rfl
 cases b with
 | append=>
  simp only [builtinA] at h
  split at h
  ·rename_i st tx hats
   have e:ats=#[st,tx]:=by apply Array.ext';exact hats
   subst e
   split at h
   ·rename_i hsrc
    unfold on2 at h
    split at h
    ·cases hx with
     | cons h1 hx=>cases hx with
      | cons h2 hx=>cases hx with
       | nil=>
        obtain ⟨v,H',hv,rfl⟩:=pairV_some h
        obtain ⟨ρ',y,W',g1,g2,g3,g4⟩:=appendA_sound R hv hsrc h1 h2 ty
        exact ⟨ρ',y,W',.inl (run_value g1),g2,g3,g4⟩
    ·simp at h
   ·simp at h
  ·simp at h
 | len=>
  simp only [builtinA] at h
  split at h
  ·rename_i t l hats
   unfold on1 at h
   split at h
   ·cases hx with
    | cons h1 hx=>cases hx with
     | nil=>
      obtain ⟨v,hv,rfl⟩:=valH_some h
      obtain ⟨d,hd,hv⟩:=Option.bind_eq_some_iff.1 hv
      obtain ⟨g1,g2⟩:=lenD_sound R hd hv h1 (hat hats) ty
      exact .pure R g1 (run_value g2)
   ·simp at h
  ·simp at h
 | cap=>
  simp only [builtinA] at h
  split at h
  ·rename_i t l hats
   unfold on1 at h
   split at h
   ·cases hx with
    | cons h1 hx=>cases hx with
     | nil=>
      obtain ⟨v,hv,rfl⟩:=valH_some h
      obtain ⟨d,hd,hv⟩:=Option.bind_eq_some_iff.1 hv
      obtain ⟨g1,g2⟩:=capD_sound hd hv h1 (hat hats) ty W
      exact .pure R g1 (run_value g2)
   ·simp at h
  ·simp at h
 | copy=>
  simp only [builtinA] at h
  split at h
  ·rename_i t l hats
   unfold on2 at h
   split at h
   ·cases hx with
    | cons h1 hx=>cases hx with
     | cons h2 hx=>cases hx with
      | nil=>
       obtain ⟨v,H',W',rfl,g1,g2,g3,g4⟩:=copyA_sound R h h1 h2 (hat hats) ty
       exact ⟨ρ,v,W',.inl (run_value g2),g1,g3,g4⟩
   ·simp at h
  ·simp at h
 | clear=>
  simp only [builtinA] at h
  split at h
  ·rename_i t hats
   unfold on1 at h
   split at h
   ·cases hx with
    | cons h1 hx=>cases hx with
     | nil=>
      obtain ⟨v,H',W',rfl,g1,g2,g3,g4⟩:=clearA_sound R h h1 (hat hats) ty
      exact ⟨ρ,v,W',.inl (run_value g2),g1,g3,g4⟩
   ·simp at h
  ·simp at h
 | max=>
  simp only [builtinA] at h
  unfold onCons at h
  split at h
  ·cases hx with
   | cons h1 hx=>
    obtain ⟨v,hv,rfl⟩:=valH_some h
    obtain ⟨g1,g2⟩:=minmax_sound hv h1 hx W
    exact .pure R g1 (run_value g2)
  ·simp at h
 | min=>
  simp only [builtinA] at h
  unfold onCons at h
  split at h
  ·cases hx with
   | cons h1 hx=>
    obtain ⟨v,hv,rfl⟩:=valH_some h
    obtain ⟨g1,g2⟩:=minmax_sound hv h1 hx W
    exact .pure R g1 (run_value g2)
  ·simp at h
 | recover=>
  simp [builtinA] at h;subst h
  rfl
 | _=>simp [builtinA] at h
/-! ### calls -/
theorem callA_sound {f:FuncId} {args xs:List Value} {r:ARes} (h:callA P f args=some r) (hx:VRs ρ args xs):ResOK P ρ H W ((callFunc f ⟨xs⟩).run P W) r:=by
 unfold callA at h
 split at h
 ·rename_i fn hf
  split at h
  ·rename_i c hc
   split at h
   ·simp at h
   ·rename_i hn
    simp at h;subst h
    refine ⟨xs,?_,hx⟩
    have hn':¬(fn.name = "runtime.NumGoroutine"):=fun e=>hn (by rw [e];rfl)
    unfold callFunc
    simp [hf,hn',hc]
  ·simp at h
 ·simp at h
theorem invokeA_sound {v w:Value} {args xs:List Value} {r:ARes} (h:invokeA P args v=some r) (hv:VR ρ v w) (hx:VRs ρ args xs) :
  ResOK P ρ H W ((do let d ← Deferred.ofValue w ⟨xs⟩;invoke d.target d.args:Sem Next).run P W) r:=by
 unfold invokeA at h
 split at h
 ·rename_i fn first cap
  cases hv with
  | func hf ha hb=>
   split at h
   ·rename_i f
    cases hf
    have:=callA_sound (H:=H) (W:=W) h (ha.append (hx.append hb) |> fun k=>by simpa using k)
    simpa [Deferred.ofValue,invoke] using this
   ·rename_i l
    split at h
    ·rename_i he
     simp at h;subst h
     cases hf with
     | yield _ p hp=>
      simp at he
      obtain ⟨e1,e2⟩:=he
      subst e1 e2
      cases ha;cases hb
      exact ⟨p,xs,hp,by simp [Deferred.ofValue,invoke],hx⟩
    ·simp at h
   ·simp at h
 ·simp at h
section ops
variable {tm:Trie Value} {nt:Nat} {a:Act} {o:Oper} {r:ARes} (R:Rep P ρ H W) (ht:TR ρ tm nt a.tmps)
include R ht
theorem map_arr (xs:Array Operand):xs.map a.eval=⟨xs.toList.map a.eval⟩:=by apply Array.ext';simp
theorem call_sound {c:Call} (h:oCall P tm H c=some r) (ho:o.op=.call c):ResOK P ρ H W ((execOp a.eval o).run P W) r:=by
 unfold oCall at h
 split at h
 ·rename_i l hl
  replace hl:=evals_sound R ht hl
  split at h
  ·rename_i b hb
   have:=builtin_sound R h hl o.type (c.args.map fun | .const _=>true | _=>false)
   unfold execOp;rw [ho]
   unfold resolve
   simp only [hb,Sem.run_bind,Sem.run_pure,Result.andThen_ok,invoke]
   rw [map_arr R ht]
   exact this
  ·rename_i f hf
   split at h
   ·rename_i v hv
    have:=invokeA_sound (H:=H) (W:=W) h (eval_sound R ht hv) hl
    unfold execOp;rw [ho]
    unfold resolve
    simp only [hf]
    rw [map_arr R ht]
    exact this
   ·simp at h
  ·simp at h
 ·simp at h
theorem defer_sound {c:Call} (h:oDefer P tm c=some r) (ho:o.op=.defer c):ResOK P ρ H W ((execOp a.eval o).run P W) r:=by
 unfold oDefer at h
 split at h
 ·rename_i f hf
  split at h
  ·rename_i fn x y hv
   split at h
   ·rename_i l hl
    simp at h;subst h
    have hE:=eval_sound R ht hv
    generalize hz:a.eval f=z at hE
    cases hE with
    | func hfn ha hb=>
     have e:∀ (q:List Value),(⟨q⟩:Array Value)++l.toArray=⟨q++l⟩:=by intro q;simp
     rw [e]
     refine ⟨_,?_,.fn hfn hb (ha.append (evals_sound R ht hl))⟩
     unfold execOp;rw [ho]
     simp only [resolve,hf,hz,Deferred.ofValue]
     rw [map_arr R ht]
     simp
   ·simp at h
  ·simp at h
 ·simp at h
theorem oBin_sound {op:BinOp} {t:TypeId} {x y:Operand} {st:TypeId} (h:oBin P tm H op t x y=some r) (ho:o.op=.binOp op t x y st):ResOK P ρ H W ((execOp a.eval o).run P W) r:=by
 unfold oBin at h
 split at h
 ·rename_i vx hx
  split at h
  ·rename_i vy hy
   obtain ⟨v,hv,rfl⟩:=valH_some h
   obtain ⟨w,g1,g2⟩:=binA_sound hv (eval_sound R ht hx) (eval_sound R ht hy) W
   refine .pure R g1 ?_
   unfold execOp;rw [ho]
   exact run_value g2
  ·simp at h
 ·simp at h
theorem oUn_sound {op:UnOp} {t:TypeId} {x:Operand} (h:oUn P tm H op x=some r) (ho:o.op=.unOp op t x):ResOK P ρ H W ((execOp a.eval o).run P W) r:=by
 unfold oUn at h
 obtain ⟨v,hv,rfl⟩:=valH_some h
 obtain ⟨u,hu,hv⟩:=Option.bind_eq_some_iff.1 hv
 obtain ⟨g1,g2⟩:=unA_sound hv (eval_sound R ht hu) W
 refine .pure R g1 ?_
 unfold execOp;rw [ho]
 exact run_value g2
theorem oConv_sound {s d:TypeId} {x:Operand} (h:oConv P tm H s d x=some r) (ho:o.op=.convert s d x):ResOK P ρ H W ((execOp a.eval o).run P W) r:=by
 unfold oConv at h
 obtain ⟨v,hv,rfl⟩:=valH_some h
 obtain ⟨u,hu,hv⟩:=Option.bind_eq_some_iff.1 hv
 obtain ⟨w,g1,g2⟩:=convA_sound R hv (eval_sound R ht hu)
 refine .pure R g1 ?_
 unfold execOp;rw [ho]
 exact run_value g2
theorem ofieldAddr_sound {s:TypeId} {x:Operand} {f:Nat} (h:oFieldAddr P tm H s x f=some r) (ho:o.op=.fieldAddr s x f):ResOK P ρ H W ((execOp a.eval o).run P W) r:=by
 unfold oFieldAddr at h
 split at h
 ·rename_i u hu
  obtain ⟨v,hv,rfl⟩:=valH_some h
  obtain ⟨w,g1,g2⟩:=fieldAddr_sound hv (eval_sound R ht hu) W
  refine .pure R g1 ?_
  unfold execOp;rw [ho]
  exact run_value g2
 ·simp at h
theorem ofield_sound {s:TypeId} {x:Operand} {f:Nat} (h:oField P tm H s x f=some r) (ho:o.op=.field s x f):ResOK P ρ H W ((execOp a.eval o).run P W) r:=by
 unfold oField at h
 split at h
 ·rename_i u hu
  obtain ⟨v,hv,rfl⟩:=valH_some h
  obtain ⟨w,g1,g2⟩:=field_sound hv (eval_sound R ht hu) W
  refine .pure R g1 ?_
  unfold execOp;rw [ho]
  exact run_value g2
 ·simp at h
theorem oindexAddr_sound {t:TypeId} {x i:Operand} (h:oIndexAddr P tm H t x i=some r) (ho:o.op=.indexAddr t x i):ResOK P ρ H W ((execOp a.eval o).run P W) r:=by
 unfold oIndexAddr at h
 split at h
 ·rename_i u hu
  split at h
  ·rename_i n hn
   obtain ⟨v,hv,rfl⟩:=valH_some h
   obtain ⟨w,g1,g2⟩:=indexAddr_sound hv (eval_sound R ht hu) (eval_sound R ht hn) W
   refine .pure R g1 ?_
   unfold execOp;rw [ho]
   exact run_value g2
  ·simp at h
 ·simp at h
theorem oindex_sound {t:TypeId} {x i:Operand} (h:oIndex P tm H t x i=some r) (ho:o.op=.index t x i):ResOK P ρ H W ((execOp a.eval o).run P W) r:=by
 unfold oIndex at h
 split at h
 ·rename_i u hu
  split at h
  ·rename_i n hn
   obtain ⟨v,hv,rfl⟩:=valH_some h
   obtain ⟨w,g1,g2⟩:=index_sound hv (eval_sound R ht hu) (eval_sound R ht hn) W
   refine .pure R g1 ?_
   unfold execOp;rw [ho]
   exact run_value g2
  ·simp at h
 ·simp at h
theorem panic_sound {x:Operand} (h:oPanic P tm x=some r) (ho:o.op=.panic x):ResOK P ρ H W ((execOp a.eval o).run P W) r:=by
 unfold oPanic at h
 split at h
 ·rename_i t v hv
  simp at h;subst h
  have hE:=eval_sound R ht hv
  generalize hz:a.eval x=z at hE
  cases hE with
  | iface hw=>
   refine ⟨_,?_,.iface hw⟩
   unfold execOp;rw [ho]
   simp [hz,Instr.panic,goPanic]
 ·simp at h
theorem aop_sound (h:aop P tm H o.op=some r):ResOK P ρ H W ((execOp a.eval o).run P W) r:=by
 unfold aop at h
 cases ho:o.op<;>rw [ho] at h<;>(try (simp [aopT] at h;done))
 case move x=>exact move_sound R ht (show oMove P tm H x=some r from h) (.inl ho)
 case assign x=>exact move_sound R ht (show oMove P tm H x=some r from h) (.inr ho)
 case pick c x y=>exact pick_sound R ht (show oPick P tm H c x y=some r from h) ho
 case alloc e=>exact alloc_sound R ht (show oAlloc P H e=some r from h) ho
 case box e x=>exact box_sound R ht (show oBox P tm H e x=some r from h) ho
 case build t ps=>exact obuild_sound R ht (show oBuild P tm H t ps=some r from h) ho
 case buildSlice t len ps=>exact buildSlice_sound R ht (show oBuildSlice P tm H t len ps=some r from h) ho
 case insert t m k v=>exact update_sound R ht (show oUpdate P tm H t m k v=some r from h) (.inr ho)
 case load t x=>exact oload_sound R ht (show oLoad P tm H t x=some r from h) ho
 case store t x y=>exact ostore_sound R ht (show oStore P tm H t x y=some r from h) ho
 case nilCheck x=>exact nilCheck_sound R ht (show oNilCheck P tm H x=some r from h) ho
 case binOp op t x y s=>exact oBin_sound R ht (show oBin P tm H op t x y=some r from h) ho
 case unOp op t x=>exact oUn_sound R ht (show oUn P tm H op x=some r from h) ho
 case convert s d x=>exact oConv_sound R ht (show oConv P tm H s d x=some r from h) ho
 case makeInterface t x=>exact iface_sound R ht (show oIface P tm H t x=some r from h) ho
 case makeFunc fn x y=>exact func_sound R ht (show oFunc P tm H fn x y=some r from h) ho
 case makeMap t x=>exact omap_sound R ht (show oMap P tm H t x=some r from h) ho
 case makeSlice t l c=>exact makeSlice_sound R ht (show oMakeSlice P tm H t l c=some r from h) ho
 case slice t x lo hi mx=>exact oslice_sound R ht (show oSlice P tm H t x lo hi mx=some r from h) ho
 case fieldAddr s x f=>exact ofieldAddr_sound R ht (show oFieldAddr P tm H s x f=some r from h) ho
 case field s x f=>exact ofield_sound R ht (show oField P tm H s x f=some r from h) ho
 case indexAddr t x i=>exact oindexAddr_sound R ht (show oIndexAddr P tm H t x i=some r from h) ho
 case index t x i=>exact oindex_sound R ht (show oIndex P tm H t x i=some r from h) ho
 case lookup t m k ok=>exact lookup_sound R ht (show oLookup P tm H t m k ok=some r from h) ho
 case mapUpdate t m k v=>exact update_sound R ht (show oUpdate P tm H t m k v=some r from h) (.inl ho)
 case typeAssert x xt at_ ok=>exact assert_sound R ht (show oAssert P tm H x xt at_ ok=some r from h) ho
 case extract x i=>exact extract_sound R ht (show oExtract P tm H x i=some r from h) ho
 case call c=>exact call_sound R ht (show oCall P tm H c=some r from h) ho
 case defer c=>exact defer_sound R ht (show oDefer P tm c=some r from h) ho
 case panic x=>exact panic_sound R ht (show oPanic P tm x=some r from h) ho
end ops
end Go.Sim
namespace Go.Sim
open Go Go.IntWalk
variable {P:Program} {ρ:Ren} {H:Hp} {W:World}
inductive IR (ρ:Ren):AItem→Item→Prop
 | code (c:Code):IR ρ (.code c) (.code c)
 | inBlock (id:Nat):IR ρ (.inBlock id) (.inBlock id)
 | inLoop (c:Code):IR ρ (.inLoop c) (.inLoop c)
 | ops {ops:Array Oper} {all rest:List Oper} {i:Nat} (ha:ops.toList=all) (hr:rest=all.drop i):IR ρ (.ops all i rest) (.inRegion ops (List.range' i rest.length))
 | inRange {l:Nat} {p:Nat×Nat} (h:ρ.blk l=some p):IR ρ (.inRange l) (.inRangeFunc p.1)
 | endRange {l:Nat} {p:Nat×Nat} (h:ρ.blk l=some p):IR ρ (.endRange l) (.endRangeFunc p.1)
 | beginRound:IR ρ .beginRound .beginRound
theorem IR.mono {ρ ρ':Ren} (h:ρ.Ext ρ') {a:AItem} {b:Item} (k:IR ρ a b):IR ρ' a b:=by
 cases k with
 | inRange hl=>exact .inRange (h _ _ hl).1
 | endRange hl=>exact .endRange (h _ _ hl).1
 | ops ha hr=>exact .ops ha hr
 | _=>constructor
def PR (ρ:Ren) (e e':PanicEntry):Prop:=VR ρ e.v e'.v∧e'.recovered=e.recovered∧e'.goexit=e.goexit
theorem PR.mono {ρ ρ':Ren} (h:ρ.Ext ρ') {a b:PanicEntry} (k:PR ρ a b):PR ρ' a b:=⟨k.1.mono h,k.2⟩
inductive MR (ρ:Ren):FrameMode→FrameMode→Prop
 | run:MR ρ .run .run
 | returning:MR ρ .returning .returning
 | panicking {c c':List PanicEntry} (h:L2 (PR ρ) c c'):MR ρ (.panicking c) (.panicking c')
theorem MR.mono {ρ ρ':Ren} (h:ρ.Ext ρ') {a b:FrameMode} (k:MR ρ a b):MR ρ' a b:=by
 cases k with
 | run=>exact .run
 | returning=>exact .returning
 | panicking hc=>exact .panicking (hc.mono fun _ _=>PR.mono h)
inductive RO (ρ:Ren):Option Nat→Option Nat→Prop
 | none:RO ρ none none
 | some {l:Nat} {p:Nat×Nat} (h:ρ.blk l=some p):RO ρ (some l) (some p.1)
theorem RO.mono {ρ ρ':Ren} (h:ρ.Ext ρ') {a b:Option Nat} (k:RO ρ a b):RO ρ' a b:=by
 cases k with
 | none=>exact .none
 | some hl=>exact .some (h _ _ hl).1
structure FR (ρ:Ren) (f:AFrame) (fr:Frame):Prop where
 fn:fr.fn=f.k.fn
 tm:TR ρ f.tm f.k.nt fr.tmps
 todo:L2 (IR ρ) f.todo fr.todo
 defers:L2 (DR ρ) f.k.defers fr.defers
 mode:MR ρ f.k.mode fr.mode
 kind:fr.kind=f.k.kind
 round:RO ρ f.k.roundOf fr.roundOf
theorem FR.mono {ρ ρ':Ren} (h:ρ.Ext ρ') {a:AFrame} {b:Frame} (k:FR ρ a b):FR ρ' a b:=
 ⟨k.fn,k.tm.mono h,k.todo.mono fun _ _=>IR.mono h,k.defers.mono fun _ _=>DR.mono h,k.mode.mono h,k.kind,k.round.mono h⟩
structure CR (P:Program) (ρ:Ren) (c:Cfg) (fr:Frame) (cs:List Frame) (W:World):Prop where
 top:FR ρ ⟨c.tm,c.todo,c.k⟩ fr
 cs:L2 (FR ρ) c.cs cs
 rep:Rep P ρ c.H W
def Goes (P:Program) (ρ:Ren) (H:Hp) (W:World) (fr:Frame) (cs:List Frame) (c':Cfg):Prop:=
 ∀ below,∃ ρ' fr' cs' W',Steps P (lone fr (cs++below) W) (lone fr' (cs'++below) W')∧CR P ρ' c' fr' cs' W'∧Fr ρ ρ' H c'.H W W'
theorem Goes.one {fr fr':Frame} {cs cs':List Frame} {W':World} {ρ':Ren} {c':Cfg} (h:∀ below,step P (lone fr (cs++below) W)=.next (lone fr' (cs'++below) W')) (hc:CR P ρ' c' fr' cs' W') (hf:Fr ρ ρ' H c'.H W W'):Goes P ρ H W fr cs c':=
 fun below=>⟨ρ',fr',cs',W',.one (h below),hc,hf⟩
/-! ### temporaries -/
theorem forceV_eq {α:Type} (v:Value) (k:Value→α):forceV v k=k v:=by
 unfold forceV
 split
 ·rename_i i n
  unfold forceI
  cases n with
  | ofNat m=>cases m<;>rfl
  | negSucc m=>cases m<;>rfl
 ·rename_i b;cases b<;>rfl
 ·rfl
theorem TR.put {tm:Trie Value} {nt:Nat} {a:Act} (h:TR ρ tm nt a.tmps) (d:Option Tmp) {v x:Value} (hv:VR ρ v x):TR ρ (Sim.put tm nt d v) nt (a.put d x).tmps:=by
 cases d with
 | none=>exact h
 | some d=>
  show TR ρ (putD tm nt d v) nt (a.tmps.setIfInBounds d x)
  unfold putD
  refine ⟨by simp [h.1],fun t=>?_⟩
  split
  ·rename_i hd
   rw [Nat.blt_eq] at hd
   rw [forceV_eq,Trie.get_put]
   by_cases e:t=d
   ·subst e
    rw [if_pos rfl,Array.getD_eq_getD_getElem?,Array.getElem?_setIfInBounds,if_pos rfl,if_pos (by rw [h.1];exact hd)]
    exact hv
   ·rw [if_neg e,Array.getD_eq_getD_getElem?,Array.getElem?_setIfInBounds,if_neg (Ne.symm e),← Array.getD_eq_getD_getElem?]
    exact h.2 t
  ·rename_i hd
   have hd':nt≤d:=Nat.le_of_not_lt fun g=>by
    have:Nat.blt d nt=true:=by rw [Nat.blt_eq];exact g
    rw [this] at hd;cases hd
   have hsz:a.tmps.size≤d:=by rw [h.1];exact hd'
   rw [Array.getD_eq_getD_getElem?,Array.getElem?_setIfInBounds]
   by_cases e:d=t
   ·subst e
    rw [if_pos rfl,if_neg (Nat.not_lt.2 hsz)]
    have:=h.2 d
    rw [Array.getD_eq_getD_getElem?,Array.getElem?_eq_none hsz] at this
    exact this
   ·rw [if_neg e,← Array.getD_eq_getD_getElem?];exact h.2 t
theorem putL_get:∀ (l:List Value) (tm:Trie Value) (d t:Nat),(putL tm d l).get t=if d≤t∧t<d+l.length then l[t-d]? else tm.get t
 | [],tm,d,t=>by rw [if_neg (by simp only [List.length_nil];omega)];rfl
 | v::l,tm,d,t=>by
  unfold putL
  rw [forceV_eq,putL_get l,Trie.get_put]
  simp only [List.length_cons]
  by_cases g:d+1≤t∧t<d+1+l.length
  ·rw [if_pos g,if_pos (by omega),show t-d=(t-(d+1))+1 from by omega];simp
  ·rw [if_neg g]
   by_cases e:t=d
   ·subst e;rw [if_pos rfl,if_pos (by omega)];simp
   ·rw [if_neg e,if_neg (by omega)]
theorem TR.enter {args xs:List Value} (h:VRs ρ args xs) {n:Nat} (hn:args.length≤n):TR ρ (putL .leaf 0 args) n ((⟨xs⟩:Array Value)++Array.replicate (n-xs.length) undef):=by
 have hl:=h.length
 refine ⟨by simp;omega,fun t=>?_⟩
 rw [putL_get,Array.getD_eq_getD_getElem?,Array.getElem?_append]
 by_cases g:t<args.length
 ·rw [if_pos (by omega),if_pos (by simp;omega)]
  obtain ⟨x,hx,hv⟩:=h.get (i:=t) (List.getElem?_eq_getElem g)
  simp only [Nat.sub_zero,List.getElem?_eq_getElem g,Option.getD_some]
  have:(⟨xs⟩:Array Value)[t]? =some x:=by simpa using hx
  rw [this];exact hv
 ·rw [if_neg (by omega),if_neg (by simp;omega)]
  simp only [Trie.get_leaf,Option.getD_none]
  rw [Array.getElem?_replicate]
  split<;>exact .undef
/-! ### a value handed back -/
theorem L2.cons_inv {α β:Type} {R:α→β→Prop} {a:α} {l:List α} {m:List β} (h:L2 R (a::l) m):∃ b m',m=b::m'∧R a b∧L2 R l m':=by
 cases h with | cons h hs=>exact ⟨_,_,rfl,h,hs⟩
theorem range'_cons (i n:Nat):List.range' i (n+1)=i::List.range' (i+1) n:=rfl
theorem finish_sound {f f':AFrame} {fr:Frame} {v x:Value} (h:finishA v f=some f') (F:FR ρ f fr) (hv:VR ρ v x):FR ρ f' (fr.finish x):=by
 obtain ⟨tm,todo,K⟩:=f
 obtain ⟨fn,tmps,todo',ds,md,kd,ro⟩:=fr
 obtain ⟨F1,F2,F3,F4,F5,F6,F7⟩:=F
 simp only at F1 F2 F3 F4 F5 F6 F7
 cases todo with
 | nil=>simp [finishA] at h
 | cons y k=>
  obtain ⟨b,m',e,hb,hm⟩:=F3.cons_inv
  subst e
  cases y with
  | ops all i rest=>
   cases rest with
   | nil=>simp [finishA] at h
   | cons o rest=>
    simp only [finishA,Option.some.injEq] at h
    subst h
    cases hb with
    | ops ha hr=>
     rename_i ops
     have ho:ops[i]? =some o:=by
      rw [← Array.getElem?_toList,ha]
      have:(all.drop i)[0]? =some o:=by rw [← hr];rfl
      simpa using this
     have hrest:rest=all.drop (i+1):=by
      have:(all.drop i).drop 1=rest:=by rw [← hr];rfl
      rw [← this,List.drop_drop]
     have e:({ fn:=fn,tmps:=tmps,todo:=.inRegion ops (List.range' i (o::rest).length)::m',defers:=ds,mode:=md,kind:=kd,roundOf:=ro }:Frame).finish x =
       { fn:=fn,tmps:=((⟨tmps,ds⟩:Act).put o.dst x).tmps,todo:=.inRegion ops (List.range' (i+1) rest.length)::m',defers:=ds,mode:=md,kind:=kd,roundOf:=ro }:=by
      rw [List.length_cons,range'_cons]
      unfold Frame.finish
      simp only [ho,Option.bind_some]
      cases o.dst<;>rfl
     rw [e]
     exact ⟨F1,TR.put (a:=⟨tmps,ds⟩) F2 o.dst hv,.cons (.ops ha hrest) hm,F4,F5,F6,F7⟩
  | inRange l=>
   simp only [finishA,Option.some.injEq] at h
   subst h
   cases hb with
   | inRange hl=>exact ⟨F1,F2,.cons (.endRange hl) hm,F4,F5,F6,F7⟩
  | _=>simp [finishA] at h
/-! ### entering -/
theorem enter_sound {f:FuncId} {args xs:List Value} {kd:CallKind} {g:AFrame} (h:enterA P f args kd=some g) (hx:VRs ρ args xs):FR ρ g (Frame.enter P f ⟨xs⟩ kd):=by
 unfold enterA at h
 obtain ⟨fn,hf,h⟩:=Option.bind_eq_some_iff.1 h
 unfold enterF at h
 split at h
 ·rename_i c hc
  split at h
  ·rename_i hn
   rw [Nat.ble_eq] at hn
   simp at h;subst h
   refine ⟨rfl,?_,?_,.nil,.run,rfl,.none⟩
   ·show TR ρ (putL .leaf 0 args) fn.ntmps ((⟨xs⟩:Array Value)++Array.replicate (((P.funcs[f]?).map (·.ntmps)).getD 0-xs.length) undef)
    rw [hf]
    exact TR.enter hx hn
   ·show L2 (IR ρ) [.code c] [.code (((P.funcs[f]?).bind (·.body)).getD _)]
    rw [hf]
    simp only [Option.bind_some,hc,Option.getD_some]
    exact .cons (.code c) .nil
  ·simp at h
 ·simp at h
/-! ### rounds -/
theorem Rep.loopBlk (R:Rep P ρ H W) {l:Nat} {r:ALoop} (h:loopOf H l=some r) {p:Nat×Nat} (hp:ρ.blk l=some p):∃ l',W.heap[p.1]? =some (.loop l')∧LR ρ r l':=by
 unfold loopOf at h
 split at h
 ·rename_i r' hg
  simp at h;subst h
  exact R.blk l _ p hg trivial hp
 ·simp at h
theorem loopOf_get {l:Nat} {r:ALoop} (h:loopOf H l=some r):H.get l=some (.loop r):=by
 unfold loopOf at h
 split at h
 ·simp at h;subst h;assumption
 ·simp at h
theorem run_getLoop {r:Nat} {l:Loop} (h:W.heap[r]? =some (.loop l)):(Instr.getLoop r).run P W=.ok l W:=by
 unfold Instr.getLoop getObj;simp only [Sem.run_bind,Sem.run,h,Result.andThen_ok];rfl
theorem run_setLoop {r:Nat} {l:Loop} (o:Obj) (h:W.heap[r]? =some (.loop l)):(setObj r o).run P W=.ok () (wput W r o):=by
 unfold setObj;simp only [Sem.run,h];rfl
theorem Rep.putLoop (R:Rep P ρ H W) {l:Nat} {r r2:ALoop} (h:loopOf H l=some r) {p:Nat×Nat} (hp:ρ.blk l=some p) {l2:Loop} (hl:LR ρ r2 l2) :
  Rep P ρ (H.put l (.loop r2)) (wput W p.1 (.loop l2))∧Fr ρ ρ H (H.put l (.loop r2)) W (wput W p.1 (.loop l2)):=by
 obtain ⟨l',h1,_⟩:=R.loopBlk h hp
 have hb:p.1<W.heap.size:=(Array.getElem?_eq_some_iff.1 h1).1
 exact R.turn (B':=.loop r2) (loopOf_get h) trivial trivial hp (fun j=>by simp) (by simp) (fun k=>.inl (by simp)) (fun j C h=>h) (fun j C h=>by unfold same at h ⊢;cases C<;>(first | exact h | (split<;>simp_all))) trivial rfl trivial
  (fun c e k h=>by simp at h) (fun c e k h=>by simp at h) (wput_size W p.1 _) (fun b hb=>wput_other W hb _) rfl rfl rfl ⟨l2,wput_same W hb _,hl⟩
theorem zipSet_sound:∀ {ps:List Tmp} {args xs:List Value} {tm:Trie Value} {nt:Nat} {tmps:Array Value},VRs ρ args xs→TR ρ tm nt tmps →
  TR ρ (zipSet tm nt ps args) nt ((ps.zip xs).foldl (fun tmps (t,a)=>tmps.setIfInBounds t a) tmps)
 | [],args,xs,tm,nt,tmps,hx,h=>by simpa [zipSet] using h
 | t::ps,[],xs,tm,nt,tmps,hx,h=>by cases hx;simpa [zipSet] using h
 | t::ps,v::args,xs,tm,nt,tmps,hx,h=>by
  cases hx with
  | cons hv hs=>
   simp only [zipSet,List.zip_cons_cons,List.foldl_cons]
   exact zipSet_sound hs (TR.put (a:=⟨tmps,[]⟩) h (some t) hv)
theorem yield_sound (R:Rep P ρ H W) {l:Nat} {args xs:List Value} {g:AFrame} (h:(loopOf H l).bind (roundA l args)=some g) {p:Nat×Nat} (hp:ρ.blk l=some p) (hx:VRs ρ args xs) :
  ∃ f tmps asg body,(Instr.yield p.1 ⟨xs⟩).run P W=.ok (.round p.1 f tmps asg body) W∧FR ρ g (Frame.round p.1 f tmps asg body .normal):=by
 obtain ⟨r,hr,h⟩:=Option.bind_eq_some_iff.1 h
 obtain ⟨l',h1,h2⟩:=R.loopBlk hr hp
 unfold roundA at h
 split at h
 rename_i st pend fn tm nt ps asg body ds
 split at h
 ·rename_i hn
  have hn:=Nat.eq_of_beq_eq_true hn
  simp at h;subst h
  have hps:l'.params=ps:=h2.params
  refine ⟨l'.fn,(l'.params.zip ⟨xs⟩).foldl (fun tmps (x:Tmp×Value)=>tmps.setIfInBounds x.1 x.2) l'.tmps,l'.assign,l'.body,?_,?_⟩
  ·unfold Instr.yield
   simp only [Sem.run_bind,run_getLoop h1,Result.andThen_ok]
   rw [if_neg (by rw [hps];simp [hx.length,hn])]
   rfl
  ·refine ⟨h2.fn,?_,?_,.nil,.run,rfl,.some hp⟩
   ·show TR ρ (zipSet tm nt ps.toList args) nt ((l'.params.zip ⟨xs⟩).foldl (fun tmps (x:Tmp×Value)=>tmps.setIfInBounds x.1 x.2) l'.tmps)
    rw [hps,← Array.foldl_toList,Array.toList_zip]
    exact zipSet_sound hx h2.tm
   ·show L2 (IR ρ) [.code asg,.beginRound,.code body] [.code l'.assign,.beginRound,.code l'.body]
    rw [h2.assign,h2.body]
    exact .cons (.code _) (.cons .beginRound (.cons (.code _) .nil))
 ·simp at h
/-! ### leaving blocks -/
theorem exit_sound {id:Nat}:∀ {k:List AItem} {k':List Item},L2 (IR ρ) k k'→(∀ r,exitA id k=some r→∃ r',exitTo id k'=some r'∧L2 (IR ρ) r r')∧(exitA id k=none→exitTo id k'=none)
 | [],k',h=>by cases h;exact ⟨fun r hr=>by simp [exitA] at hr,fun _=>rfl⟩
 | x::k,k',h=>by
  cases h with
  | cons hx hs=>
   have ih:=exit_sound (id:=id) hs
   cases hx with
   | inBlock j=>
    simp only [exitA,exitTo]
    cases hb:Nat.beq j id with
    | true=>
     have:=Nat.eq_of_beq_eq_true hb
     subst this
     simp only [beq_self_eq_true,if_true]
     exact ⟨fun r hr=>by simp at hr;subst hr;exact ⟨_,rfl,hs⟩,fun h=>by simp at h⟩
    | false=>
     have:¬(j==id)=true:=fun e=>by simp at e;subst e;simp at hb
     simp only [if_neg this]
     exact ih
   | _=>simpa only [exitA,exitTo] using ih
end Go.Sim
